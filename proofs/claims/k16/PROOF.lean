import PyProof.Rows.All
import Wide.All
import OpenK.AllK
import Wide.FinOn
import KE.KStateDown
import HandS.ForMost
import HandS.Walk
import HandS.Star
import HandS.DictComp
import HandS.Defaults
import HandS.Property
import HandS.ClsMeth
import HandS.IsInst
import HandS.Flow
import HandS.Deep
import HandS.NoneIn
import HandS.Sort
import HandS.SortRule
import HandS.TupAny
import HandS.Wide
import HandS.WordsExc
import HandS.Head2
import HandS.HeadEnd
import HandS.HeadHook2
import KE.GoesEnum
import KE.GoesMore
import KE.DataFind
import KE.SortData
import HandS.SetFor
import HandS.TryOnly
import KE.KTupSum
import HandS.More
import HandS.Dict
import HandS.Style
import HandS.SetTxt0
import HandS.Strs
import KE.SortLaws
import HandS.Conv
import PySem.Challenge.RW_callbells_k16_whole_the_greatest_rank_go
set_option Elab.async false
set_option linter.all false
set_option maxRecDepth 100000
set_option maxHeartbeats 1000000
namespace Z
open PySem PySem.Spec PyProof.Rows L2
abbrev Fg := PySem.W.Frag
/-! ### defs of the text, by their addresses -/
def fd0 : FuncData := PySem.W.fnOf "" "" (defArgs (.Pass ⟨0, 0, 0, 0⟩)) [] (defScope (.Pass ⟨0, 0, 0, 0⟩)) .none .none .none .none none .none .none
def fdOf (K : Fg) (a : Addr) : FuncData := match K.lookup a with
  | some ⟨_, _, .func fd, _⟩ => fd
  | _ => fd0
theorem fdOf_eq {K : Fg} {x q : Str} {pa : Arguments} {bd : List Stmt} {sc : Scope} {dv : List V} {kw : List (Str × V)} {f : Addr} {fd : FuncData} (F : FunD K x q pa bd sc dv kw f fd) : fdOf K f = fd := by
  obtain ⟨⟨oc, od, dV, kV, doc, pm, an, cdv, ct, osl, e, lk, _⟩, _⟩ := F
  unfold fdOf
  rw [lk]
/-- how a def is called: its name or method's place aside -/
structure Cal (K : Fg) (f : Addr) (ps : List Str) (dvs : List V) : Prop where
  kp : PySem.W.keepIn K (.ref f) = true
  b : ∃ ds, Binds K (fdOf K f) ps ds ∧ Vals dvs ds
section
variable {X : Cx} {k : Nat} {f C p0 : Addr} {ps : List Str} {sp : Sp} {dvs : List V} {x m : Str} {p pos apos : Pos} {e o i : Expr} {es : List Expr} {ta tb : TE} {t : TA} {E : XK}
abbrev FnX (X : Cx) (k : Nat) (f : Addr) (ps : List Str) (sp : Sp) : Prop := FnOk X.prog X.w X.K X.mg X.base (L2.CX X.prog X.w) k f (fdOf X.K f) ps sp
theorem z_call (F : FnX X k f ps sp) (c : Cal X.K f ps dvs) (hr : Room k X.A) (hg : Gl X x) (hm : X.mg x = some (.ref f)) (hx : Passes (L2.CX X.prog X.w) X E) (ha : PA X (e :: es) t) (hdb : (x == ("__debug__" : Str)) = false := by decide)
    (he : starEach (e :: es) X.env = (false, eval e X.env) :: starEach es X.env := by rfl) (hpl : (backTo pos (starEach es X.env)).any (·.1) = false := by rfl) : PE X (.Call (.Name x p) (e :: es) [] pos) (tCall sp dvs E t) := by
  obtain ⟨ds, hb, hd⟩ := c.b
  exact pe_call F hr hg hm c.kp hb hd hx ha hdb he hpl
theorem z_call0 (F : FnX X k f ps sp) (c : Cal X.K f ps dvs) (hr : Room k X.A) (hg : Gl X x) (hm : X.mg x = some (.ref f)) (hx : Passes (L2.CX X.prog X.w) X E) (hdb : (x == ("__debug__" : Str)) = false := by decide) : PE X (.Call (.Name x p) [] [] pos) (tCall sp dvs E tNil) := by
  obtain ⟨ds, hb, hd⟩ := c.b
  exact pe_call0 F hr hg hm c.kp hb hd hx hdb
theorem z_meth {pl : Sem Bool} (he : PE X o ta) (cl : Cls X.K C) (hm : Meth X.K C m f) (F : FnX X k f ps sp) (c : Cal X.K f ps dvs) (hr : Room k X.A) (hx : Passes (L2.CX X.prog X.w) X E) (ha : PA X (e :: es) t)
    (hst : starEach (e :: es) X.env = (false, eval e X.env) :: starEach es X.env := by rfl) (hpl : (backTo pos (starEach es X.env)).any (·.1) = false := by rfl)
    (ht : eval (.Call (.Attribute o m apos) (e :: es) [] pos) X.env = (do
      let ov ← eval o X.env
      standAt apos.atName
      let (f, first) ← holding [ov] (getMethod ov m pl)
      callWith pos f first (backTo pos (starEach (e :: es) X.env)) (backToKw pos (keywordEach [] X.env))) := by rfl) :
    PE X (.Call (.Attribute o m apos) (e :: es) [] pos) (tMeth C m sp dvs E ta t) := by
  obtain ⟨ds, hb, hd⟩ := c.b
  exact pe_meth he cl hm F hr hb hd hx ha hst hpl ht
theorem z_meth0 {pl : Sem Bool} (he : PE X o ta) (cl : Cls X.K C) (hm : Meth X.K C m f) (F : FnX X k f ps sp) (c : Cal X.K f ps dvs) (hr : Room k X.A) (hx : Passes (L2.CX X.prog X.w) X E)
    (ht : eval (.Call (.Attribute o m apos) [] [] pos) X.env = (do
      let ov ← eval o X.env
      standAt apos.atName
      let (f, first) ← holding [ov] (getMethod ov m pl)
      callWith pos f first (backTo pos (starEach [] X.env)) (backToKw pos (keywordEach [] X.env))) := by rfl) :
    PE X (.Call (.Attribute o m apos) [] [] pos) (tMeth C m sp dvs E ta tNil) := by
  obtain ⟨ds, hb, hd⟩ := c.b
  exact pe_meth0 he cl hm F hr hb hd hx ht
theorem z_make (M : Mk X.K C f) (F : FnX X k f ps sp) (c : Cal X.K f ps dvs) (hr : Room (k + 1) X.A) (hg : Gl X x) (hm : X.mg x = some (.ref C)) (hx : Passes (L2.CX X.prog X.w) X E) (ha : PA X (e :: es) t) (hdb : (x == ("__debug__" : Str)) = false := by decide)
    (he : starEach (e :: es) X.env = (false, eval e X.env) :: starEach es X.env := by rfl) (hpl : (backTo pos (starEach es X.env)).any (·.1) = false := by rfl) : PE X (.Call (.Name x p) (e :: es) [] pos) (tMake C sp dvs E t) := by
  obtain ⟨ds, hb, hd⟩ := c.b
  exact pe_make M F hr hg hm hb hd hx ha hdb he hpl
theorem z_prop (he : PE X e ta) (cl : Cls X.K C) (hp : PropOf X.K C m p0 f) (F : FnX X k f ps sp) (c : Cal X.K f ps []) (hr : Room (k + 1) X.A) (hab : attributeBase e m X.env (eval e X.env) = eval e X.env) : PE X (.Attribute e m pos) (tProp C sp [] E0 ta) := by
  obtain ⟨ds, hb, hd⟩ := c.b
  exact pe_prop he cl hp F hr hb hd passL hab
/-- a call of an own special method, one unit deeper -/
theorem run_in1 {pins : List (Addr × Obj)} {σ : L2.St} {H : Hp} {s : Shared} {Q : VK} {us : List Value} {vs : List V} (F : FnX X k f ps sp) (c : Cal X.K f ps []) (hr : Room (k + 1) X.A) (hx : Passes (L2.CX X.prog X.w) X E)
    (I : Inv X pins σ H s) (r : Vals vs us) (h : sp vs H Q E) : wpAny (model X.prog X.w) X.A.in1 (call (.ref f) us) (EP X pins σ Q) X.xe s := by
  obtain ⟨ds, hb, hd⟩ := c.b
  cases hd
  have hl : (us ++ []).length = ps.length := by
    rw [List.append_nil, ← r.length]
    exact F.len _ _ _ _ h
  have hbb := hb s us I.kIn hl
  rw [List.append_nil] at hbb
  refine wpAny_call (codeAny_mono (F.run X.A.in1 X.stack s H ⟨us, []⟩ us vs Q E hr.in1 I.env0.in1 hbb r h) fun r s' hq => ?_)
  cases r with
  | error e => exact hx pins σ H s e s' I hq
  | ok fl =>
    cases fl with
    | ret u => exact I.after hq
    | next => exact False.elim hq
    | brk => exact False.elim hq
    | cont => exact False.elim hq
/-- the same, not deeper -/
theorem run_in0 {pins : List (Addr × Obj)} {σ : L2.St} {H : Hp} {s : Shared} {Q : VK} {us : List Value} {vs : List V} (F : FnX X k f ps sp) (c : Cal X.K f ps []) (hr : Room k X.A) (hx : Passes (L2.CX X.prog X.w) X E)
    (I : Inv X pins σ H s) (r : Vals vs us) (h : sp vs H Q E) : wpAny (model X.prog X.w) X.A (call (.ref f) us) (EP X pins σ Q) X.xe s := by
  obtain ⟨ds, hb, hd⟩ := c.b
  cases hd
  have h' : sp (vs ++ []) H Q E := by rw [List.append_nil]; exact h
  exact run_fn F hr hb .nil hx I r h'
/-- o[i], o of an own class that has __getitem__ -/
def tIxO (C : Addr) (sp : Sp) (E : XK) (ta tb : TE) : TE := fun σ H Q => ta σ H fun x H1 => tb σ H1 fun y H2 => ∃ a dx fs, x = .ref a ∧ H2 a = some (.ins C dx fs) ∧ sp [.ref a, y] H2 Q E
theorem z_ixO (ho : PE X o ta) (hi : PE X i tb) (hs : PySem.W.findIn X.K (.ref C) "__getitem__" = some (some (.ref f))) (hf1 : PySem.W.fnIn X.K f = true) (hfn : PySem.W.isFn X.K (.ref f) = true) (F : FnX X k f ps sp) (c : Cal X.K f ps []) (hr : Room (k + 1) X.A)
    (hx : Passes (L2.CX X.prog X.w) X E) (hsl : ∀ x i', subscripted i true x i' = runValue (.builtin "lifetime.subscript" ⟨[x, i'], []⟩) := by intros; with_unfolding_all rfl) : PE X (.Subscript o i pos) (tIxO C sp E ta tb) := by
  refine ⟨fun pins s σ H Q I h => ?_⟩
  refine Subscript_ (binT ho hi I h fun v u s2 x y H2 I2 rx ry q => ?_)
  obtain ⟨a, dx, fs, rfl, ea, q⟩ := q
  obtain rfl : v = Value.ref a := rx
  obtain ⟨mA, O, _, _, _, _⟩ := ins_get I2.hok ea
  obtain ⟨od, J, _⟩ := O.look
  obtain ⟨mf, fr⟩ := I2.fr
  exact PySem.W.sub_K fr I2.mod.kin J hs hf1 hfn (run_in1 F c hr hx I2 (.cons (show L2.RelV (.ref a) (.ref a) from rfl) (.cons ry .nil)) q) (hsl _ _)
/-- x in o, x not in o, o of an own class that has __contains__ -/
def tInO (C : Addr) (sp : Sp) (neg : Bool) (E : XK) : R2 := fun x y H Q => ∃ a dx fs, y = .ref a ∧ H a = some (.ins C dx fs) ∧ sp [.ref a, x] H (fun v H2 => ∃ b, v = .bl b ∧ Q (.bl (if neg then !b else b)) H2) E
theorem op_inO (hs : PySem.W.findIn X.K (.ref C) "__contains__" = some (some (.ref f))) (hfn : PySem.W.isFn X.K (.ref f) = true) (F : FnX X k f ps sp) (c : Cal X.K f ps []) (hr : Room k X.A) (hx : Passes (L2.CX X.prog X.w) X E) : OpR X (compareOp .In) (tInO C sp false E) := by
  intro pins s σ H x y v u Q I rx ry h
  obtain ⟨a, dx, fs, rfl, ea, q⟩ := h
  obtain rfl : u = Value.ref a := ry
  obtain ⟨mA, O, _, _, _, _⟩ := ins_get I.hok ea
  obtain ⟨od, J, _⟩ := O.look
  obtain ⟨mf, fr⟩ := I.fr
  refine PySem.W.in_K fr I.mod.kin J hs hfn (thn (run_in0 F c hr hx I (.cons (show L2.RelV (.ref a) (.ref a) from rfl) (.cons rx .nil)) q) fun r s' ⟨z, H2, I2, rz, b, ez, q2⟩ => ?_)
  subst ez
  cases rz
  exact wpAny_truthy_bool ⟨.bl b, H2, I2, rfl, q2⟩
theorem op_notInO (hs : PySem.W.findIn X.K (.ref C) "__contains__" = some (some (.ref f))) (hfn : PySem.W.isFn X.K (.ref f) = true) (F : FnX X k f ps sp) (c : Cal X.K f ps []) (hr : Room k X.A) (hx : Passes (L2.CX X.prog X.w) X E) : OpR X (compareOp .NotIn) (tInO C sp true E) := by
  intro pins s σ H x y v u Q I rx ry h
  obtain ⟨a, dx, fs, rfl, ea, q⟩ := h
  obtain rfl : u = Value.ref a := ry
  obtain ⟨mA, O, _, _, _, _⟩ := ins_get I.hok ea
  obtain ⟨od, J, _⟩ := O.look
  obtain ⟨mf, fr⟩ := I.fr
  refine PySem.W.notIn_K fr I.mod.kin J hs hfn (thn (run_in0 F c hr hx I (.cons (show L2.RelV (.ref a) (.ref a) from rfl) (.cons rx .nil)) q) fun r s' ⟨z, H2, I2, rz, b, ez, q2⟩ => ?_)
  subst ez
  cases rz
  exact wpAny_truthy_bool ⟨.bl (!b), H2, I2, rfl, q2⟩
end
end Z
set_option maxHeartbeats 1000000
namespace L2
open PySem PySem.Spec PyProof.Rows Z
/-! ### heaps that grow, heaps that change within A -/
def Kp (A : List Addr) (H H' : Hp) : Prop := ∀ a o, H a = some o → a ∉ A → H' a = some o
theorem Same.kp {H H' : Hp} {A : List Addr} (s : Same H H') : Kp A H H' := fun a o h _ => s a o h
theorem Kp.refl {A : List Addr} {H : Hp} : Kp A H H := fun _ _ h _ => h
theorem Kp.nil {H H' : Hp} (k : Kp [] H H') : Same H H' := fun a o h => k a o h (by simp)
theorem Kp.mono {A B : List Addr} {H H' : Hp} (k : Kp A H H') (s : ∀ a ∈ A, a ∈ B) : Kp B H H' := fun a o h n => k a o h fun z => n (s a z)
theorem Kp.trans {A : List Addr} {H H1 H2 : Hp} (a : Kp A H H1) (b : Kp A H1 H2) : Kp A H H2 := fun c o h n => b c o (a c o h n) n
theorem Same.new {H : Hp} {p : Addr} {o : HO} (h : H p = none) : Same H (upd H p o) := fun a u e => by
  rw [upd_ne (ne_of_none e h)]
  exact e
theorem Kp.upd {A : List Addr} {H : Hp} {p : Addr} {o : HO} (h : p ∈ A) : Kp A H (upd H p o) := fun a u e n => by
  rw [upd_ne fun z => n (by rw [z]; exact h)]
  exact e
theorem Same.sqT {K : Fg} {H H' : Hp} {a : Addr} {xs : List V} (e : Same H H') (h : SqT K H a xs) : SqT K H' a xs := by
  rcases h with (h | ⟨o, h⟩) | h
  · exact .inl (.inl (e _ _ h))
  · exact .inl (.inr ⟨o, e _ _ h⟩)
  · exact .inr h
/-- tuples (and what is locked) stay -/
def Tk (H H' : Hp) : Prop := ∀ a, ((∃ xs, H a = some (.tup xs)) ∨ ∃ o u, H a = some (.frz o u)) → H' a = H a
theorem Tk.refl (H : Hp) : Tk H H := fun _ _ => rfl
theorem Tk.trans {H H1 H2 : Hp} (a : Tk H H1) (b : Tk H1 H2) : Tk H H2 := fun c h => by
  have e := a c h
  have h1 : (∃ xs, H1 c = some (.tup xs)) ∨ ∃ o u, H1 c = some (.frz o u) := by
    rw [e]
    exact h
  rw [b c h1, e]
theorem Same.tk {H H' : Hp} (s : Same H H') : Tk H H' := fun a h => by
  rcases h with ⟨xs, h⟩ | ⟨o, u, h⟩ <;> rw [h, s a _ h]
theorem Tk.sqT {K : Fg} {H H' : Hp} {a : Addr} {xs : List V} (e : Tk H H') (h : SqT K H a xs) : SqT K H' a xs := by
  rcases h with (h | ⟨o, h⟩) | h
  · exact .inl (.inl (by rw [e a (.inl ⟨_, h⟩)]; exact h))
  · exact .inl (.inr ⟨o, by rw [e a (.inr ⟨_, _, h⟩)]; exact h⟩)
  · exact .inr h
/-! ### data -/
mutual
theorem Dp.same {K : Fg} {H H' : Hp} (e : Same H H') : ∀ {v : V} {d : PyData}, Dp K H v d → Dp K H' v d
  | _, _, .non => .non
  | _, _, .bl b => .bl b
  | _, _, .int i => .int i
  | _, _, .str x => .str x
  | _, _, .lst s a => .lst (e.seq s) (DpAll.same e a)
  | _, _, .tup s a => .tup (e.sqT s) (DpAll.same e a)
theorem DpAll.same {K : Fg} {H H' : Hp} (e : Same H H') : ∀ {v : List V} {d : List PyData}, DpAll K H v d → DpAll K H' v d
  | _, _, .nil => .nil
  | _, _, .cons a b => .cons (Dp.same e a) (DpAll.same e b)
end
mutual
/-- no list, no dict in it -/
def tupd : PyData → Bool
  | .none => true
  | .bool _ => true
  | .int _ => true
  | .str _ => true
  | .list _ => false
  | .tuple xs => tupds xs
  | .dict _ => false
def tupds : List PyData → Bool
  | [] => true
  | d :: ds => tupd d && tupds ds
end
mutual
theorem Dp.tk {K : Fg} {H H' : Hp} (e : Tk H H') : ∀ {v : V} {d : PyData}, tupd d = true → Dp K H v d → Dp K H' v d
  | _, _, _, .non => .non
  | _, _, _, .bl b => .bl b
  | _, _, _, .int i => .int i
  | _, _, _, .str x => .str x
  | _, _, h, .lst s a => by unfold tupd at h; cases h
  | _, _, h, .tup s a => .tup (e.sqT s) (DpAll.tk e (by unfold tupd at h; exact h) a)
theorem DpAll.tk {K : Fg} {H H' : Hp} (e : Tk H H') : ∀ {v : List V} {d : List PyData}, tupds d = true → DpAll K H v d → DpAll K H' v d
  | _, _, _, .nil => .nil
  | _, _, h, .cons a b => by
    unfold tupds at h
    obtain ⟨h1, h2⟩ := Bool.and_eq_true_iff.mp h
    exact .cons (Dp.tk e h1 a) (DpAll.tk e h2 b)
end
theorem DpAll.len {K : Fg} {H : Hp} : ∀ {v : List V} {d : List PyData}, DpAll K H v d → v.length = d.length
  | _, _, .nil => rfl
  | _, _, .cons _ b => by rw [List.length_cons, List.length_cons, DpAll.len b]
theorem DpAll.get {K : Fg} {H : Hp} : ∀ {v : List V} {d : List PyData} {i : Nat} {x : PyData}, DpAll K H v d → d[i]? = some x → ∃ y, v[i]? = some y ∧ Dp K H y x
  | _, _, i, _, .nil, h => by simp at h
  | _, _, 0, _, .cons a _, h => by
    simp at h
    subst h
    exact ⟨_, rfl, a⟩
  | _, _, i + 1, _, .cons _ b, h => by
    obtain ⟨y, h1, h2⟩ := DpAll.get (i := i) b (by simpa using h)
    exact ⟨y, by simpa using h1, h2⟩
theorem DpAll.getv {K : Fg} {H : Hp} : ∀ {v : List V} {d : List PyData} {i : Nat} {y : V}, DpAll K H v d → v[i]? = some y → ∃ x, d[i]? = some x ∧ Dp K H y x
  | _, _, i, _, .nil, h => by simp at h
  | _, _, 0, _, .cons a _, h => by
    simp at h
    subst h
    exact ⟨_, rfl, a⟩
  | _, _, i + 1, _, .cons _ b, h => by
    obtain ⟨y, h1, h2⟩ := DpAll.getv (i := i) b (by simpa using h)
    exact ⟨y, by simpa using h1, h2⟩
theorem DpAll.app {K : Fg} {H : Hp} : ∀ {v u : List V} {d e : List PyData}, DpAll K H v d → DpAll K H u e → DpAll K H (v ++ u) (d ++ e)
  | _, _, _, _, .nil, s => s
  | _, _, _, _, .cons a b, s => .cons a (DpAll.app b s)
theorem DpAll.take {K : Fg} {H : Hp} : ∀ {v : List V} {d : List PyData} (n : Nat), DpAll K H v d → DpAll K H (v.take n) (d.take n)
  | _, _, 0, _ => .nil
  | _, _, _ + 1, .nil => .nil
  | _, _, n + 1, .cons a b => .cons a (DpAll.take n b)
theorem DpAll.drop {K : Fg} {H : Hp} : ∀ {v : List V} {d : List PyData} (n : Nat), DpAll K H v d → DpAll K H (v.drop n) (d.drop n)
  | _, _, 0, r => r
  | _, _, _ + 1, .nil => .nil
  | _, _, n + 1, .cons _ b => DpAll.drop n b
theorem Dp.tupI {K : Fg} {H : Hp} {v : V} {ds : List PyData} (h : Dp K H v (.tuple ds)) : ∃ a xs, v = .ref a ∧ SqT K H a xs ∧ DpAll K H xs ds := by
  cases h with
  | tup s a => exact ⟨_, _, rfl, s, a⟩
theorem Dp.lstI {K : Fg} {H : Hp} {v : V} {ds : List PyData} (h : Dp K H v (.list ds)) : ∃ a xs, v = .ref a ∧ SqL K H a xs ∧ DpAll K H xs ds := by
  cases h with
  | lst s a => exact ⟨_, _, rfl, s, a⟩
theorem Dp.intI {K : Fg} {H : Hp} {v : V} {i : Int} (h : Dp K H v (.int i)) : v = .int i := by cases h; rfl
theorem Dp.strI {K : Fg} {H : Hp} {v : V} {i : Str} (h : Dp K H v (.str i)) : v = .str i := by cases h; rfl
theorem Dp.noDict {K : Fg} {H : Hp} {v : V} {i : List (PyData × PyData)} (h : Dp K H v (.dict i)) : False := by cases h
/-! ### isinstance of data -/
def tyD : PyData → String
  | .none => "NoneType"
  | .bool _ => "bool"
  | .int _ => "int"
  | .str _ => "str"
  | .list _ => "list"
  | .tuple _ => "tuple"
  | .dict _ => "dict"
theorem Dp.ty {K : Fg} {H : Hp} {v : V} {d : PyData} (h : Dp K H v d) : TyX K H v (.type (tyD d)) := by
  cases h with
  | non => exact .base .non
  | bl b => exact .base (.bl b)
  | int i => exact .base (.int i)
  | str x => exact .base (.str x)
  | lst s a =>
    rcases s with (s | ⟨o, s⟩) | ⟨o, its, n, e, c, _⟩
    · exact .base (.lst s)
    · exact .base (.frz s)
    · exact .kList e c
  | tup s a =>
    rcases s with (s | ⟨o, s⟩) | ⟨o, its, n, e, c, _⟩
    · exact .base (.tup s)
    · exact .fTuple s
    · exact .kTuple e c
/-- which of the classes -/
def isiT (T t : String) : Bool := T == t || (T == "int" && t == "bool")
def isiB (T : String) (d : PyData) : Bool := isiT T (tyD d)
theorem isi_kit {K : Fg} {T : String} {d : PyData} (hT : T ∈ ["int", "bool", "str", "tuple", "list"]) : PySem.W.kitOne K (.type (tyD d)) (.type T) = some (isiB T d) := by
  have ht : tyD d ∈ ["NoneType", "bool", "int", "str", "list", "tuple", "dict"] := by cases d <;> simp [tyD]
  unfold isiB
  generalize tyD d = t at ht
  have all : ∀ T ∈ ["int", "bool", "str", "tuple", "list"], ∀ t ∈ ["NoneType", "bool", "int", "str", "list", "tuple", "dict"], kitB t T = some (isiT T t) := by decide +kernel
  exact kit_ty (all T hT t ht)
section
variable {X : Cx}
def rIsiD (K : Fg) : List V → Hp → VK → Prop := fun xs H Q => ∃ (x : V) (T : String) (d : PyData), xs = [x, .ty T] ∧ Dp K H x d ∧ T ∈ ["int", "bool", "str", "tuple", "list"] ∧ Q (.bl (isiB T d)) H
theorem call_isiD : CallR X (.builtin "isinstance") (rIsiD X.K) := by
  intro pins s σ H xs us Q I r h
  obtain ⟨x, T, d, e, hd, hT, q⟩ := h
  exact call_isi pins s σ H xs us Q I r ⟨x, .ty T, _, _, _, e, .ty T, hd.ty, isi_kit hT, q⟩
end
end L2
set_option maxHeartbeats 1000000
namespace Z
open PySem PySem.Spec PyProof.Rows L2
/-! ### the head's facts: Bools over the part of the heap that the module's names reach -/
/-- the getter of a property -/
def pga (K : Fg) (C : Addr) (f : Str) : Addr := match PySem.W.recIn K (He.ma K C f) "property" with
  | some (.ref g :: _) => g
  | _ => 0
structure DefZ where
  at_ : Fg → Addr
  name : Str
  qual : Str
  st : Stmt
  dfl : List He.Dv := []
def DefZ.see (K : Fg) (a : Addr) : He.FnW := match K.lookup a with
  | some ⟨_, _, .func z, _⟩ => some (z.name, z.qualname, z.params, z.body, z.scope, z.globals, z.closure, z.builtins)
  | _ => none
def DefZ.due (d : DefZ) : He.FnW := some (d.name, d.qual, defArgs d.st, .stmts (defBody d.st), defScope d.st, mainGlobals, [], builtinsNs)
def DefZ.good (K : Fg) (d : DefZ) : Bool := PySem.W.keepIn K (.ref (d.at_ K)) && (match K.lookup (d.at_ K) with
  | some ⟨_, _, .func z, _⟩ => PySem.W.codeIn K z.code d.qual && He.dflB K z.defaults (d.dfl.map (He.Dv.v K))
  | _ => false)
abbrev FunZ (K : Fg) (d : DefZ) : Prop := FunD K d.name d.qual (defArgs d.st) (defBody d.st) (defScope d.st) (d.dfl.map (He.Dv.v K)) [] (d.at_ K) (fdOf K (d.at_ K))
theorem DefZ.fun {K : Fg} {d : DefZ} (e : DefZ.see K (d.at_ K) = d.due) (c : d.good K = true) : FunZ K d := by
  obtain ⟨kp, c2⟩ := He.ba c
  have go : ∃ fd, FunD K d.name d.qual (defArgs d.st) (defBody d.st) (defScope d.st) (d.dfl.map (He.Dv.v K)) [] (d.at_ K) fd := by
    unfold DefZ.see at e
    cases q : K.lookup (d.at_ K) with
    | none =>
      rw [q] at c2
      cases c2
    | some o =>
      obtain ⟨oc, od, dt, osl⟩ := o
      rw [q] at c2 e
      cases dt with
      | func fd =>
        obtain ⟨n1, n2, n3, n4, n5, n6, n7, n8, n9, n10, n11, n12, n13, n14, n15⟩ := fd
        have e2 : (some (n1, n2, n3, n4, n5, n6, n7, n15) : He.FnW) = some (d.name, d.qual, defArgs d.st, .stmts (defBody d.st), defScope d.st, mainGlobals, [], builtinsNs) := e
        simp only [Option.some.injEq, Prod.mk.injEq] at e2
        obtain ⟨h1, h2, h3, h4, h5, h6, h7, h8⟩ := e2
        subst h1 h2 h3 h4 h5 h6 h7 h8
        obtain ⟨k1, k3⟩ := He.ba (show (PySem.W.codeIn K n13 d.qual && He.dflB K n8 (d.dfl.map (He.Dv.v K))) = true from c2)
        exact ⟨_, ⟨oc, od, n8, n9, n10, n11, n12, n13, n14, osl, rfl, q, k1, He.dflB_ok k3, .inl rfl⟩, kp⟩
      | _ => cases c2
  obtain ⟨fd, F⟩ := go
  show FunD K d.name d.qual (defArgs d.st) (defBody d.st) (defScope d.st) (d.dfl.map (He.Dv.v K)) [] (d.at_ K) (fdOf K (d.at_ K))
  rw [fdOf_eq F]
  exact F
abbrev Seen : Type := Bool × List He.FnW
def lookZ (fa : List (Fg → Bool)) (fn : List DefZ) (K : Fg) : Seen := ((fa.all fun f => f K) && fn.all fun d => d.good K, fn.map fun d => DefZ.see K (d.at_ K))
def SaysZ (fa : List (Fg → Bool)) (fn : List DefZ) (K : Fg) : Prop := lookZ fa fn K = (true, fn.map DefZ.due)
def seeZ (n : Nat) (fa : List (Fg → Bool)) (fn : List DefZ) (g : Addr → Option Obj) : Seen := lookZ fa fn (He.frG g (cStatics :: He.asD g n))
def hookZ (n : Nat) (fa : List (Fg → Bool)) (fn : List DefZ) : PySem.W.Hook where
  α := Seen
  obs := fun s => seeZ n fa fn s.heap.get?
  val := fun _ => (true, fn.map DefZ.due)
  says := fun _ h => ∃ K : Fg, K.In h ∧ SaysZ fa fn K
  of := fun _ _ e => ⟨_, He.frG_in, e⟩
  keeps := fun _ _ _ ⟨K, hK, c⟩ k => ⟨K, PySem.W.Frag.In.keeps hK k, c⟩
theorem seeZ_eq {n : Nat} {fa : List (Fg → Bool)} {fn : List DefZ} {g : Addr → Option Obj} {s : Shared} (h : ∀ a, g a = s.heap.get? a) : seeZ n fa fn g = (hookZ n fa fn).obs s := by
  have e : g = s.heap.get? := funext h
  rw [e] <;> rfl
theorem SaysZ.fact {fa : List (Fg → Bool)} {fn : List DefZ} {K : Fg} (c : SaysZ fa fn K) (i : Nat) {f : Fg → Bool} (h : fa[i]? = some f) : f K = true := by
  have c1 := (He.ba (show ((fa.all fun f => f K) && fn.all fun d => d.good K) = true from congrArg (fun z : Seen => z.1) c)).1
  exact List.all_eq_true.mp c1 f (List.mem_of_getElem? h)
theorem SaysZ.def_ {fa : List (Fg → Bool)} {fn : List DefZ} {K : Fg} (c : SaysZ fa fn K) (i : Nat) {d : DefZ} (h : fn[i]? = some d) : FunZ K d := by
  have c2 := (He.ba (show ((fa.all fun f => f K) && fn.all fun d => d.good K) = true from congrArg (fun z : Seen => z.1) c)).2
  have e : fn.map (fun d => DefZ.see K (d.at_ K)) = fn.map DefZ.due := congrArg (fun z : Seen => z.2) c
  have e2 : (fn.map fun d => DefZ.see K (d.at_ K))[i]? = (fn.map DefZ.due)[i]? := by rw [e]
  rw [List.getElem?_map, List.getElem?_map, h] at e2
  exact DefZ.fun (Option.some.inj e2) (List.all_eq_true.mp c2 d (List.mem_of_getElem? h))
/-! ### facts -/
open He (ga ma)
def eqV2 (a b : Option (Option Value)) : Bool := decide (a = b)
def fGlo (x : Str) (K : Fg) : Bool := He.Fa.ok K (.glo x)
def fFree (x : Str) (K : Fg) : Bool := He.Fa.ok K (.free x)
def fInt (x : Str) (i : Int) (K : Fg) : Bool := He.Fa.ok K (.int x i)
def fStr (x z : Str) (K : Fg) : Bool := He.Fa.ok K (.str x z)
def fCls (x : Str) (K : Fg) : Bool := He.Fa.ok K (.cls x)
def fNo (x f : Str) (K : Fg) : Bool := He.Fa.ok K (.noat x f)
def fMeth (x m : Str) (K : Fg) : Bool := He.Fa.ok K (.meth x m)
def fMk (x : Str) (K : Fg) : Bool := He.Fa.ok K (.mkr x)
def fTup (x : Str) (vs : List He.Dv) (K : Fg) : Bool := He.tupB K x vs
def fProp (x f : Str) (K : Fg) : Bool := decide (PySem.W.findIn K (.ref (ga K x)) f = some (some (.ref (ma K (ga K x) f)))) && decide (PySem.W.specialIn K (.ref (ma K (ga K x) f)) "__get__" = some (some (.builtin "property.__get__"))) &&
  decide (PySem.W.takesIn K (.ref (ma K (ga K x) f)) = some true) && (match PySem.W.recIn K (ma K (ga K x) f) "property" with
  | some (.ref _ :: _) => true
  | _ => false)
/-- __getitem__ by subscripts -/
def fSub (x : Str) (K : Fg) : Bool := PySem.W.fnIn K (ma K (ga K x) "__getitem__")
theorem fProp_ok {K : Fg} {x f : Str} (h : fProp x f K = true) : PropOf K (ga K x) f (ma K (ga K x) f) (pga K (ga K x) f) := by
  unfold fProp at h
  simp only [Bool.and_eq_true, decide_eq_true_eq] at h
  obtain ⟨⟨⟨h1, h2⟩, h3⟩, h4⟩ := h
  refine ⟨h1, h2, h3, ?_⟩
  unfold pga
  split at h4
  · rename_i g r e
    rw [e]
    exact ⟨r, rfl⟩
  · cases h4
/-- a default that is an object -/
def dfA (f : Fg → Addr) (i : Nat) (K : Fg) : Addr := match K.lookup (f K) with
  | some ⟨_, _, .func z, _⟩ => (match z.defaults with
    | .ref T => (match K.lookup T with
      | some ⟨_, _, .seq its _, _⟩ => (match its.toList[i]? with
        | some (.ref a) => a
        | _ => 0)
      | _ => 0)
    | _ => 0)
  | _ => 0
theorem calD {K : Fg} {d : DefZ} {ps : List Str} (F : FunZ K d) (n : Nat) (hd : d.dfl.map (He.Dv.v K) ≠ []) (hn : n + 0 = ps.length)
    (h : ∀ (T : Addr) (kV doc pm : Value) (an : Option Addr) (cdv ct : Value) (us its : List Value), us.length = n → its.length = (d.dfl.map (He.Dv.v K)).length →
      ∃ k, bindArgs (PySem.W.fnOf d.name d.qual (defArgs d.st) (defBody d.st) (defScope d.st) (.ref T) kV doc pm an cdv ct) ⟨us, []⟩ = seqItems? (.ref T) >>= k ∧ k (some its.toArray) = pure (ps.zip us)) : Cal K (d.at_ K) ps [] := by
  obtain ⟨ds, hv, hb⟩ := FunD.binds1 (ps := ps) F n (d.dfl.map (He.Dv.v K)).length hd (by rw [Nat.sub_self]; exact hn) (fun T kV doc pm an cdv ct us its h1 h2 => by
    obtain ⟨k, e1, e2⟩ := h T kV doc pm an cdv ct us its h1 h2
    refine ⟨k, e1, ?_⟩
    rw [e2, List.drop_eq_nil_of_le (by omega), List.append_nil])
  rw [List.drop_eq_nil_of_le (Nat.le_refl _)] at hv
  exact ⟨F.kp, ds, hb, hv⟩
/-- a class's constant that is an int -/
def ClsI (K : Fg) (C : Addr) (f : Str) (n : Int) : Prop := ∃ mc u, ClX.CRead K C mc ∧ ClX.CVal K C mc f (.int n) u
def fClsI (x f : Str) (n : Int) (K : Fg) : Bool := PySem.W.readsIn K (ga K x) (.type "type") && decide (PySem.W.specialIn K (.ref (ga K x)) "__getattribute__" = some (some (.builtin "type.__getattribute__"))) && (match PySem.W.findCls K (.ref (ga K x)) (.type "type") f with
  | some (.val (.int m _)) => decide (m = n)
  | _ => false)
theorem fClsI_ok {K : Fg} {x f : Str} {n : Int} (h : fClsI x f n K = true) : ClsI K (ga K x) f n := by
  unfold fClsI at h
  simp only [Bool.and_eq_true, decide_eq_true_eq] at h
  obtain ⟨⟨h1, h2⟩, h3⟩ := h
  split at h3
  · rename_i m t e
    have em : m = n := of_decide_eq_true h3
    subst em
    exact ⟨_, _, ⟨h1, h2⟩, ⟨e, t, rfl⟩⟩
  · cases h3
end Z
set_option maxHeartbeats 1000000
namespace Z
open PySem PySem.Spec PyProof.Rows L2
/-! ### short rules -/
section
variable {X : Cx} {x : Str} {pos : Pos}
theorem z_int {n : Int} (h : ∃ t, X.mg x = some (.int n t)) (hg : Gl X x := by rfl) (hd : (x == ("__debug__" : Str)) = false := by decide) : PE X (.Name x pos) (tC (.int n)) := by
  obtain ⟨t, h⟩ := h
  exact pe_glob hg h ⟨t, rfl⟩ hd
theorem z_str {n : Str} (h : ∃ t, X.mg x = some (.str n t)) (hg : Gl X x := by rfl) (hd : (x == ("__debug__" : Str)) = false := by decide) : PE X (.Name x pos) (tC (.str n)) := by
  obtain ⟨t, h⟩ := h
  exact pe_glob hg h ⟨t, rfl⟩ hd
theorem z_ref {a : Addr} (h : X.mg x = some (.ref a)) (hg : Gl X x := by rfl) (hd : (x == ("__debug__" : Str)) = false := by decide) : PE X (.Name x pos) (tC (.ref a)) := pe_glob hg h rfl hd
theorem z_ty {n : String} (hm : X.mg x = none) (hv : bootBuiltins x = some (.type n) := by decide +kernel) (hg : Gl X x := by rfl) (hn : x ≠ "__name__" := by decide) (hd : (x == ("__debug__" : Str)) = false := by decide) : PE X (.Name x pos) (tC (.ty n)) := pe_bltn hg hm hv rfl hn hd
theorem zg (i : Nat) (hN : X.N.Nodup) (hi : X.N[i]? = some x := by rfl) (hx : Loc X.env.scope x := by first | exact Or.inl rfl | exact Or.inr rfl) (hf : X.fn x = true ∨ X.env.scope.names.lookup x = some .local := by first | exact Or.inl rfl | exact Or.inr rfl) : PG X (.Name x pos) (gName i) := pg_name hN hi hx hf
theorem zset (i : Nat) {e : Expr} {te : TE} {pos' : Pos} (hN : X.N.Nodup) (he : PE X e te) (hi : X.N[i]? = some x := by rfl) (hx : Loc X.env.scope x := by first | exact Or.inl rfl | exact Or.inr rfl) (hs : swapsWith e (some (.Name x pos')) pos.line X.env = pure false := by rfl)
    (hf : X.fn x = true ∨ X.env.scope.names.lookup x = some .local := by first | exact Or.inl rfl | exact Or.inr rfl) : PS X (.Assign [.Name x pos'] e pos) (tAsg te (gName i)) := ps_set hN hi hx he hs hf
end
/-! ### steps -/
section
variable {σ : L2.St} {H : Hp} {Q : VK} {i : Nat} {v x y : V} {ta tb tc : TE} {r r' : R2} {D : Ends}
theorem s_var (h : σ[i]? = some (some v)) (q : Q v H) : tVar i σ H Q := ⟨v, h, q⟩
theorem s_c (q : Q v H) : tC v σ H Q := q
theorem s_op (q : ta σ H fun x H1 => tb σ H1 fun y H2 => r x y H2 Q) : tOp r ta tb σ H Q := q
theorem s_un {r : V → Hp → VK → Prop} (q : ta σ H fun x H1 => r x H1 Q) : tUn r ta σ H Q := q
theorem s_cb {r : List V → Hp → VK → Prop} {t : TA} (q : t σ H fun vs H1 => r vs H1 Q) : tCB r t σ H Q := q
theorem s_nil {Q : List V → Hp → Prop} (q : Q [] H) : tNil σ H Q := q
theorem s_cons {Q : List V → Hp → Prop} {tr : TA} (q : ta σ H fun x H1 => tr σ H1 fun xs H2 => Q (x :: xs) H2) : tCons ta tr σ H Q := q
theorem s_star {K : Fg} {Q : List V → Hp → Prop} {tr : TA} (q : ta σ H fun x H1 => ∃ p xs, x = V.ref p ∧ (SqT K H1 p xs ∨ SqL K H1 p xs) ∧ tr σ H1 fun ys H2 => Q (xs ++ ys) H2) : StX.tStar K ta tr σ H Q := q
theorem s_test {Q : Bool → Hp → Prop} (q : ta σ H fun x H' => ∃ k, x = .bl k ∧ Q k H') : tTest ta σ H Q := q
theorem s_B {Q : Bool → Hp → Prop} (q : ta σ H fun x H' => ∃ k, x = .bl k ∧ Q k H') : tB ta σ H Q := q
theorem s_bl {b : Bool} {R : Bool → Prop} (q : R b) : ∃ k, V.bl b = .bl k ∧ R k := ⟨b, rfl, q⟩
theorem s_and {t u : TT} {Q : Bool → Hp → Prop} (q : t σ H fun c H1 => if c = true then u σ H1 Q else Q false H1) : tAnd t u σ H Q := q
theorem s_or {t u : TT} {Q : Bool → Hp → Prop} (q : t σ H fun c H1 => if c = true then Q true H1 else u σ H1 Q) : tOr t u σ H Q := q
theorem s_not {t : TT} {Q : Bool → Hp → Prop} (q : t σ H fun c H1 => Q (!c) H1) : tNot t σ H Q := q
theorem s_andV (q : ta σ H fun x H1 => ∃ c, x = .bl c ∧ if c = true then tb σ H1 Q else Q (.bl false) H1) : tAndV ta tb σ H Q := q
theorem s_orV (q : ta σ H fun x H1 => ∃ c, x = .bl c ∧ if c = true then Q (.bl true) H1 else tb σ H1 Q) : tOrV ta tb σ H Q := q
theorem s_notV (q : ta σ H fun x H1 => ∃ c, x = .bl c ∧ Q (.bl (!c)) H1) : tNotV ta σ H Q := q
theorem s_if {t : TT} (q : t σ H fun c H1 => if c = true then ta σ H1 Q else tb σ H1 Q) : tIf t ta tb σ H Q := q
theorem s_chain (q : ta σ H fun x H1 => tb σ H1 fun y H2 => r x y H2 fun z H3 => ∃ k, z = .bl k ∧ (if k = true then tc σ H3 fun w' H4 => r' y w' H4 Q else Q (.bl false) H3)) : tChain r r' ta tb tc σ H Q := q
theorem s_tup {t : TA} (q : t σ H fun xs H1 => xs.length ≤ sizeLine ∧ ∀ p, H1 p = none → Q (.ref p) (upd H1 p (.tup xs))) : tTup t σ H Q := q
theorem s_lst {t : TA} (q : t σ H fun xs H1 => xs.length ≤ sizeLine ∧ ∀ p, H1 p = none → Q (.ref p) (upd H1 p (.lst xs))) : tLst t σ H Q := q
theorem s_call {sp : Sp} {dvs : List V} {E : XK} {t : TA} (q : t σ H fun vs H1 => sp (vs ++ dvs) H1 Q E) : tCall sp dvs E t σ H Q := q
variable {ea ec ed : L2.St → Hp → Prop} {eb : VK}
theorem s_seq {t u : TS} (q : t (.mk (u (.mk ea eb ec ed)) eb ec ed) σ H) : tSeq t u (.mk ea eb ec ed) σ H := q
theorem s_asg {g : TG} (q : ta σ H fun x H1 => g x σ H1 ea) : tAsg ta g (.mk ea eb ec ed) σ H := q
theorem s_gname {P : L2.St → Hp → Prop} (q : P (σ.set i (some v)) H) : gName i v σ H P := q
theorem s_ret (q : ta σ H eb) : tRet ta (.mk ea eb ec ed) σ H := q
theorem s_retN (q : eb .non H) : tRetN (.mk ea eb ec ed) σ H := q
theorem s_ifS {t : TT} {u w : TS} (q : t σ H fun b H1 => if b = true then u D σ H1 else w D σ H1) : tIfS t u w D σ H := q
theorem s_drop (q : ta σ H fun _ H1 => ea σ H1) : tDrop ta (.mk ea eb ec ed) σ H := q
theorem s_next (q : ea σ H) : tNext (.mk ea eb ec ed) σ H := q
theorem s_cont (q : ed σ H) : tCont (.mk ea eb ec ed) σ H := q
theorem s_break (q : ec σ H) : tBreak (.mk ea eb ec ed) σ H := q
theorem s_par {j : Nat} {t : TA} (q : t σ H fun vs H1 => ∃ v w, vs = [v, w] ∧ ea ((σ.set i (some v)).set j (some w)) H1) : tPar i j t (.mk ea eb ec ed) σ H := q
theorem s_par2 {R : V → V → Prop} {a b : V} (q : R a b) : ∃ v w, ([a, b] : List V) = [v, w] ∧ R v w := ⟨a, b, rfl, q⟩
/-! operators -/
theorem s_I0 {g : Int → Int → V} {a b : Int} (q : Q (g a b) H) : rI0 g (.int a) (.int b) H Q := ⟨a, b, rfl, rfl, q⟩
theorem s_I {C : Int → Int → Prop} {g : Int → Int → V} {a b : Int} (c : C a b) (q : Q (g a b) H) : rI C g (.int a) (.int b) H Q := ⟨a, b, rfl, rfl, c, q⟩
theorem s_U {g : Int → V} {a : Int} (q : Q (g a) H) : rU g (.int a) H Q := ⟨a, rfl, q⟩
theorem s_eq (h : scal x y = true) (q : Q (.bl (decide (x = y))) H) : rEq x y H Q := ⟨h, q⟩
theorem s_ne (h : scal x y = true) (q : Q (.bl (!decide (x = y))) H) : rNe x y H Q := ⟨h, q⟩
theorem s_isi {K : Fg} {T : String} {d : PyData} (h : Dp K H x d) (hT : T ∈ ["int", "bool", "str", "tuple", "list"]) (q : Q (.bl (isiB T d)) H) : rIsiD K [x, .ty T] H Q := ⟨x, T, d, rfl, h, hT, q⟩
theorem s_ixT {K : Fg} {p : Addr} {xs : List V} {a : Int} (h : SqT K H p xs) (e : atI xs a = some v) (q : Q v H) : rIxT K (.ref p) (.int a) H Q := ⟨p, xs, a, v, rfl, rfl, h, e, q⟩
theorem s_ixL {K : Fg} {p : Addr} {xs : List V} {a : Int} (h : SqL K H p xs) (e : atI xs a = some v) (q : Q v H) : rIxL K (.ref p) (.int a) H Q := ⟨p, xs, a, v, rfl, rfl, h, e, q⟩
theorem s_in {K : Fg} {neg : Bool} {p : Addr} {xs : List V} (h : SqL K H p xs ∨ SqT K H p xs) (fx : flatV x = true) (fs : xs.all flatV = true) (q : Q (.bl (if neg then !inV x xs else inV x xs)) H) : rIn K neg x (.ref p) H Q := ⟨p, xs, rfl, h, fx, fs, q⟩
/-- a new object: the heap by its facts -/
theorem s_new {o : HO} (q : ∀ p H', H p = none → Same H H' → H' p = some o → Q (.ref p) H') : ∀ p, H p = none → Q (.ref p) (upd H p o) := fun p hp => q p _ hp (Same.new hp) upd_same
end
theorem ite_t {b : Bool} {A B : Prop} (h : b = true) (q : A) : if b = true then A else B := by
  rw [if_pos h]
  exact q
theorem ite_f {b : Bool} {A B : Prop} (h : b = false) (q : B) : if b = true then A else B := by
  subst h
  exact q
theorem ite_b {b : Bool} {A B : Prop} (h : b = true → A) (q : b = false → B) : if b = true then A else B := by
  cases b
  · exact q rfl
  · exact h rfl
/-! ### comprehensions of data -/
theorem tk_upd {H : Hp} {D : Addr} {xs : List V} {o : HO} (h : H D = some (.lst xs)) : Tk H (upd H D o) := fun a ha => by
  rw [upd_ne]
  rintro rfl
  rcases ha with ⟨ys, ha⟩ | ⟨o', u, ha⟩ <;> rw [h] at ha <;> cases ha
def keptD (keep : Nat → Bool) (d : Nat → PyData) (n : Nat) : List PyData := ((List.range n).filter keep).map d
theorem keptD_yes {keep : Nat → Bool} {d : Nat → PyData} {n : Nat} (h : keep n = true) : keptD keep d (n + 1) = keptD keep d n ++ [d n] := by
  unfold keptD
  rw [List.range_succ, List.filter_append, List.map_append]
  simp [h]
theorem keptD_no {keep : Nat → Bool} {d : Nat → PyData} {n : Nat} (h : keep n = false) : keptD keep d (n + 1) = keptD keep d n := by
  unfold keptD
  rw [List.range_succ, List.filter_append, List.map_append]
  simp [h]
theorem keptD_len {keep : Nat → Bool} {d : Nat → PyData} {n : Nat} : (keptD keep d n).length ≤ n := by
  unfold keptD
  rw [List.length_map]
  exact Nat.le_trans (List.length_filter_le _ _) (by rw [List.length_range]; exact Nat.le_refl _)
theorem keptD_tupds {keep : Nat → Bool} {d : Nat → PyData} (h : ∀ i, tupd (d i) = true) : ∀ n, tupds (keptD keep d n) = true
  | 0 => rfl
  | n + 1 => by
    have ap : ∀ (l : List PyData) (x : PyData), tupds l = true → tupd x = true → tupds (l ++ [x]) = true := by
      intro l
      induction l with
      | nil =>
        intro x _ hx
        show (tupd x && true) = true
        rw [hx]
        rfl
      | cons y l ih =>
        intro x hl hx
        obtain ⟨h1, h2⟩ := Bool.and_eq_true_iff.mp (show (tupd y && tupds l) = true from hl)
        show (tupd y && tupds (l ++ [x])) = true
        rw [h1, ih x h2 hx]
        rfl
    cases e : keep n with
    | true =>
      rw [keptD_yes e]
      exact ap _ _ (keptD_tupds h n) (h n)
    | false =>
      rw [keptD_no e]
      exact keptD_tupds h n
theorem lc_dat {K : Fg} {J : It} {n : Nat} {G : Hp → Prop} {Y : Nat → Hp → V → Hp → Prop} {g : TG} {tt : TT} {te : TE} {vs : List Nat} {σ : L2.St} {H1 : Hp} {D : Addr} {Qd : Hp → Prop} (w : Walk J n G Y) (keep : Nat → Bool) (d : Nat → PyData) (hD : H1 D = none) (hn : n ≤ 40000)
    (hdt : ∀ i, tupd (d i) = true) (hG : ∀ H, Same H1 H → G H) (hY : ∀ i H x H', Y i H x H' → Same H H')
    (hs : ∀ (i : Nat) (x : V) (H H' : Hp) (Yes : VK) (No : Hp → Prop), i < n → Same H1 H → Y i H x H' → (keep i = true → ∀ y H4, Same H' H4 → Dp K H4 y (d i) → Yes y H4) → (keep i = false → ∀ H3, Same H' H3 → No H3) →
      g x (wipe σ vs) H' fun σ2 H2 => wipe σ2 vs = wipe σ vs ∧ tt σ2 H2 fun b H3 => if b = true then te σ2 H3 Yes else No H3)
    (hd : ∀ H' ys, Same H1 H' → H' D = some (.lst ys) → DpAll K H' ys (keptD keep d n) → Qd H') :
    ∃ W : Nat → Nat → Hp → Prop, (∃ m, W 0 m (upd H1 D (.lst []))) ∧ ∀ i m H, W i m H →
      (J.stop i H ∧ Qd H) ∨ (J.go i H ∧ ∃ Nx : Hp → Prop, (∀ H', Nx H' → ∃ m', m' < m ∧ W (i + 1) m' H') ∧ ∀ x H', J.yld i H x H' → g x (wipe σ vs) H' fun σ2 H2 => wipe σ2 vs = wipe σ vs ∧ tt σ2 H2 fun b H3 =>
        if b = true then te σ2 H3 fun y H4 => ∃ acc, H4 D = some (.lst acc) ∧ acc.length < sizeLine ∧ Nx (upd H4 D (.lst (acc ++ [y]))) else Nx H3) := by
  refine lc_it w (fun i H => Same H1 H ∧ ∃ ys, H D = some (.lst ys) ∧ DpAll K H ys (keptD keep d i)) ⟨Same.new hD, [], upd_same, .nil⟩ (fun i H _ p => hG H p.1) (fun i x H H' hi p y => ?_) (fun H p => ?_)
  · obtain ⟨s1, ys, e1, a1⟩ := p
    have s2 := hY i H x H' y
    refine hs i x H H' _ _ hi s1 y (fun hk y4 H4 s4 d4 => ⟨ys, s4 _ _ (s2 _ _ e1), ?_, ?_, ?_⟩) fun hk H3 s3 => ⟨(s1.trans s2).trans s3, ys, s3 _ _ (s2 _ _ e1), ?_⟩
    · rw [a1.len]
      exact Nat.lt_of_le_of_lt keptD_len (Nat.lt_of_lt_of_le (Nat.lt_of_lt_of_le hi hn) (by decide))
    · exact fun a o h => by
        rw [upd_ne (ne_of_none h hD)]
        exact s4 _ _ (s2 _ _ (s1 _ _ h))
    · refine ⟨_, upd_same, ?_⟩
      have t := tk_upd (o := .lst (ys ++ [y4])) (s4 _ _ (s2 _ _ e1))
      rw [keptD_yes hk]
      exact ((a1.same (s2.trans s4)).tk t (keptD_tupds hdt i)).app (.cons (d4.tk t (hdt i)) .nil)
    · rw [keptD_no hk]
      exact a1.same (s2.trans s3)
  · obtain ⟨s1, ys, e1, a1⟩ := p
    exact hd H ys s1 e1 a1
theorem dp_bools {K : Fg} {H : Hp} : ∀ {ys : List V} {bs : List Bool}, DpAll K H ys (bs.map PyData.bool) → ys = bs.map V.bl
  | _, [], .nil => rfl
  | _, b :: bs, .cons a r => by
    cases a
    rw [dp_bools r]
    rfl
theorem dp_ints {K : Fg} {H : Hp} : ∀ {ys : List V} {bs : List Int}, DpAll K H ys (bs.map PyData.int) → ys = bs.map V.int
  | _, [], .nil => rfl
  | _, b :: bs, .cons a r => by
    cases a
    rw [dp_ints r]
    rfl
theorem dp_strs {K : Fg} {H : Hp} : ∀ {ys : List V} {bs : List Str}, DpAll K H ys (bs.map PyData.str) → ys = bs.map V.str
  | _, [], .nil => rfl
  | _, b :: bs, .cons a r => by
    cases a
    rw [dp_strs r]
    rfl
def pAt {α : Type} (l : List α) (p : α → Bool) (i : Nat) : Bool := (l[i]?.map p).getD false
def dAt {α : Type} (l : List α) (f : α → PyData) (i : Nat) : PyData := (l[i]?.map f).getD .none
theorem pAt_eq {α : Type} {l : List α} {p : α → Bool} {i : Nat} {x : α} (h : l[i]? = some x) : pAt l p i = p x := by
  unfold pAt
  rw [h]
  rfl
theorem dAt_eq {α : Type} {l : List α} {f : α → PyData} {i : Nat} {x : α} (h : l[i]? = some x) : dAt l f i = f x := by
  unfold dAt
  rw [h]
  rfl
theorem dAt_tupd {α : Type} {l : List α} {f : α → PyData} (h : ∀ x ∈ l, tupd (f x) = true) (i : Nat) : tupd (dAt l f i) = true := by
  unfold dAt
  cases e : l[i]? with
  | none => rfl
  | some x => exact h x (List.mem_of_getElem? e)
theorem keptD_list {α : Type} (l : List α) (p : α → Bool) (f : α → PyData) : keptD (pAt l p) (dAt l f) l.length = (l.filter p).map f := by
  have go : ∀ n, n ≤ l.length → keptD (pAt l p) (dAt l f) n = ((l.take n).filter p).map f := by
    intro n
    induction n with
    | zero => intro _; simp [keptD]
    | succ n ih =>
      intro hn
      have hx : l[n]? = some l[n] := List.getElem?_eq_getElem (by omega)
      have et : l.take (n + 1) = l.take n ++ [l[n]] := by rw [List.take_add_one, hx]; rfl
      cases e : pAt l p n with
      | true =>
        rw [keptD_yes e, ih (by omega), dAt_eq hx, et, List.filter_append, List.map_append]
        rw [pAt_eq hx] at e
        simp [e]
      | false =>
        rw [keptD_no e, ih (by omega), et, List.filter_append, List.map_append]
        rw [pAt_eq hx] at e
        simp [e]
  rw [go l.length (Nat.le_refl _), List.take_length]
theorem keptD_map {α : Type} (l : List α) (f : α → PyData) : keptD (fun _ => true) (dAt l f) l.length = l.map f := by
  have e := keptD_list l (fun _ => true) f
  have e2 : keptD (pAt l fun _ => true) (dAt l f) l.length = keptD (fun _ => true) (dAt l f) l.length := by
    unfold keptD
    congr 1
    apply List.filter_congr
    intro i hi
    have hi' : i < l.length := List.mem_range.mp hi
    rw [pAt_eq (List.getElem?_eq_getElem hi')]
  rw [← e2, e, List.filter_eq_self.mpr (fun _ _ => rfl)]
theorem map_bool {α : Type} (l : List α) (f : α → Bool) : (l.map fun c => PyData.bool (f c)) = (l.map f).map PyData.bool := by rw [List.map_map]; rfl
theorem map_int {α : Type} (l : List α) (f : α → Int) : (l.map fun c => PyData.int (f c)) = (l.map f).map PyData.int := by rw [List.map_map]; rfl
theorem map_str {α : Type} (l : List α) (f : α → Str) : (l.map fun c => PyData.str (f c)) = (l.map f).map PyData.str := by rw [List.map_map]; rfl
theorem s_yes {σ : L2.St} {H : Hp} {Q : Bool → Hp → Prop} (q : Q true H) : tYes σ H Q := q
theorem s_all {K : Fg} {H : Hp} {Q : VK} {a : Addr} {bs : List Bool} (h : SqL K H a (bs.map V.bl)) (q : Q (.bl (bs.all id)) H) : rAll K [.ref a] H Q := ⟨a, bs, rfl, h, q⟩
theorem s_lenT {K : Fg} {H : Hp} {p : Addr} {xs : List V} {R : Nat → Prop} (h : SqT K H p xs) (q : R xs.length) : ∃ x n, ([V.ref p] : List V) = [x] ∧ LenV K x H n ∧ R n := ⟨_, _, rfl, .inr ⟨xs, h, rfl⟩, q⟩
theorem s_lenL {K : Fg} {H : Hp} {p : Addr} {xs : List V} {R : Nat → Prop} (h : SqL K H p xs) (q : R xs.length) : ∃ x n, ([V.ref p] : List V) = [x] ∧ LenV K x H n ∧ R n := ⟨_, _, rfl, .inl ⟨xs, h, rfl⟩, q⟩
theorem s_lenS {K : Fg} {H : Hp} {z : Str} {R : Nat → Prop} (h : z.length ≤ sizeLine) (q : R z.length) : ∃ x n, ([V.str z] : List V) = [x] ∧ LenV K x H n ∧ R n := ⟨_, _, rfl, ⟨h, rfl⟩, q⟩
mutual
/-- the texts in it are not long -/
def short : PyData → Bool
  | .none => true
  | .bool _ => true
  | .int _ => true
  | .str z => decide (z.cps.size ≤ 40000)
  | .list xs => shorts xs
  | .tuple xs => shorts xs
  | .dict _ => true
def shorts : List PyData → Bool
  | [] => true
  | d :: ds => short d && shorts ds
end
theorem shorts_at : ∀ {ds : List PyData} {d : PyData}, shorts ds = true → d ∈ ds → short d = true
  | [], _, _, h => by simp at h
  | x :: ds, d, h, hm => by
    obtain ⟨h1, h2⟩ := Bool.and_eq_true_iff.mp (show (short x && shorts ds) = true from h)
    rcases List.mem_cons.mp hm with rfl | hm
    · exact h1
    · exact shorts_at h2 hm
theorem short_str {z : Str} (h : short (.str z) = true) : z.cps.size ≤ 40000 := by
  unfold short at h
  exact of_decide_eq_true h
theorem short_tup {ds : List PyData} (h : short (.tuple ds) = true) : shorts ds = true := by
  unfold short at h
  exact h
theorem short_lst {ds : List PyData} (h : short (.list ds) = true) : shorts ds = true := by
  unfold short at h
  exact h
theorem bnt {b : Bool} (h : (!b) = true) : b = false := by
  cases b
  · rfl
  · cases h
theorem bnf {b : Bool} (h : (!b) = false) : b = true := by
  cases b
  · cases h
  · rfl
theorem newS {H H2 : Hp} {p : Addr} {o : HO} (hp : H p = none) (e : upd H p o = H2) : Same H H2 := by
  subst e
  exact Same.new hp
theorem newE {H H2 : Hp} {p : Addr} {o : HO} (e : upd H p o = H2) : H2 p = some o := by
  subst e
  exact upd_same
section
variable {K : Fg} {σ : L2.St} {H : Hp} {P : L2.St → Hp → Prop} {a : Addr} {xs r : List V} {v y : V} {Q : VK} {kvs : List (Key × V)} {k : Key}
theorem s_gtup {n : Nat} {t : TGs} (h : SqT K H a xs) (hl : xs.length = n) (q : t xs σ H P) : gTup K n t (.ref a) σ H P := ⟨a, xs, rfl, h, hl, q⟩
theorem s_gcons {t : TG} {u : TGs} (q : t v σ H fun σ' H' => u r σ' H' P) : gCons t u (v :: r) σ H P := ⟨v, r, rfl, q⟩
theorem s_gnil (q : P σ H) : gNil [] σ H P := ⟨rfl, q⟩
theorem s_din {ty td : TE} (q : ty σ H fun y H1 => td σ H1 fun x H2 => ∃ a o, x = .ref a ∧ DGet H2 a y o ∧ Q (.bl o.isSome) H2) : tDIn ty td σ H Q := q
theorem s_dnin {ty td : TE} (q : ty σ H fun y H1 => td σ H1 fun x H2 => ∃ a o, x = .ref a ∧ DGet H2 a y o ∧ Q (.bl (!o.isSome)) H2) : tDNotIn ty td σ H Q := q
theorem s_dget {ty td : TE} (q : td σ H fun x H1 => ty σ H1 fun y H2 => ∃ a v, x = .ref a ∧ DGet H2 a y (some v) ∧ Q v H2) : tDGet td ty σ H Q := q
theorem s_dS {z : Str} {R : Option V → Prop} (h : H a = some (.dK kvs)) (q : R (valV kvs (.inr z))) : ∃ b o, V.ref a = .ref b ∧ DGet H b (.str z) o ∧ R o := ⟨a, _, rfl, DGet.k (k := Sum.inr z) h, q⟩
theorem s_dgS {z : Str} {R : V → Prop} (h : H a = some (.dK kvs)) (e : valV kvs (.inr z) = some v) (q : R v) : ∃ b u, V.ref a = .ref b ∧ DGet H b (.str z) (some u) ∧ R u := ⟨a, v, rfl, by rw [← e]; exact DGet.k (k := Sum.inr z) h, q⟩
end
section
variable {K : Fg} {σ : L2.St} {H : Hp} {Q : VK} {ta tv : TE} {t : TA} {r : V → List V → Hp → VK → Prop} {l : Addr} {xs : List V} {x y v : V} {f m : Str} {C dx : Addr} {fs : List (Str × V)} {ea ec ed : L2.St → Hp → Prop} {eb : VK}
theorem s_bm {T : String} (q : ta σ H fun x H1 => tyV K T x H1 ∧ t σ H1 fun xs H2 => r x xs H2 Q) : tBM K T r ta t σ H Q := q
theorem s_bm0 {T : String} (q : ta σ H fun x H1 => tyV K T x H1 ∧ r x [] H1 Q) : tBM0 K T r ta σ H Q := q
theorem s_tyL {R : Prop} (h : H l = some (.lst xs)) (q : R) : tyV K "list" (.ref l) H ∧ R := ⟨Or.inl ⟨rfl, xs, SqL.of h⟩, q⟩
theorem s_append (h : H l = some (.lst xs)) (hl : xs.length < sizeLine) (q : Q .non (upd H l (.lst (xs ++ [y])))) : rAppend (.ref l) [y] H Q := ⟨l, xs, y, rfl, rfl, h, hl, q⟩
theorem s_fldg (q : ta σ H fun x H1 => ∃ a C dx fs v, x = .ref a ∧ H1 a = some (.ins C dx fs) ∧ Cls K C ∧ NoAttr K C f ∧ fs.lookup f = some v ∧ Q v H1) : tFld K ta f σ H Q := q
theorem s_fldat {a : Addr} {R : V → Prop} (h : H a = some (.ins C dx fs)) (c : Cls K C) (n : NoAttr K C f) (e : fs.lookup f = some v) (q : R v) : ∃ b C dx fs v, V.ref a = .ref b ∧ H b = some (.ins C dx fs) ∧ Cls K C ∧ NoAttr K C f ∧ fs.lookup f = some v ∧ R v := ⟨a, C, dx, fs, v, rfl, h, c, n, e, q⟩
theorem s_meth {sp : Sp} {dvs : List V} {E : XK} (q : ta σ H fun x H1 => ∃ a dx fs, x = .ref a ∧ H1 a = some (.ins C dx fs) ∧ fs.lookup m = none ∧ t σ H1 fun vs H2 => sp (x :: (vs ++ dvs)) H2 Q E) : tMeth C m sp dvs E ta t σ H Q := q
theorem s_methat {a : Addr} {R : Prop} (h : H a = some (.ins C dx fs)) (e : fs.lookup m = none) (q : R) : ∃ b dx fs, V.ref a = .ref b ∧ H b = some (.ins C dx fs) ∧ fs.lookup m = none ∧ R := ⟨a, dx, fs, rfl, h, e, q⟩
theorem s_prop {sp : Sp} {E : XK} (q : ta σ H fun x H1 => ∃ a dx fs, x = .ref a ∧ H1 a = some (.ins C dx fs) ∧ sp [.ref a] H1 Q E) : tProp C sp [] E ta σ H Q := q
theorem s_propat {a : Addr} {R : Addr → Prop} (h : H a = some (.ins C dx fs)) (q : R a) : ∃ b dx fs, V.ref a = .ref b ∧ H b = some (.ins C dx fs) ∧ R b := ⟨a, dx, fs, rfl, h, q⟩
end
end Z
set_option maxHeartbeats 1000000
namespace Z
open PySem PySem.Spec PyProof.Rows L2
open AutoSeq1 (wpAny_loadPart')
/-! ### enumerate(t), t a tuple -/
theorem enum_new1 {v : Value} {o : Obj} {G : Heap → Prop} (B : Begins v o G) :
    Meets (Builtin.«enumerate.__new__» ⟨[.type "enumerate", v], []⟩) (fun _ R s => G s.heap ∧
      R (.ok (.ret (.ref (s.heap.push o).objs.size))) { s with heap := (s.heap.push o).push { cls := .type "enumerate", data := .fields #[.none, .bool false, .ref s.heap.objs.size, rawInt 0, .none, .none] } }) :=
  .of_wp fun prog w A R s h => by
    obtain ⟨hp, g, d, tk, os⟩ := s
    obtain ⟨h1, h⟩ := h
    have su := sub_enumerate
    have q1 : ∀ {A' : Around} {E : Value → Shared → Prop} {Q : Value → Shared → Prop}, Q (.ref hp.objs.size) ⟨hp.push o, g, d, tk, os⟩ → wpAny (model prog w) A' (pyIter v) Q E ⟨hp, g, d, tk, os⟩ :=
      fun q => B.iter prog w _ _ ⟨hp, g, d, tk, os⟩ _ h1 q
    wp_walk using q1
    refine wpAny_stack_any fun st => wpAny_pure ?_
    split
    · rename_i c _ _ _ _ _
      cases (c == Value.type "enumerate") <;> (wp_walk using q1; exact ⟨_, rfl, h⟩)
    · wp_walk using q1
      exact ⟨_, rfl, h⟩
theorem call_enumT {prog : Program} {w : World} {A : Around} {E : Value → Shared → Prop} {s : Shared} {v : Value} {o : Obj} {G : Heap → Prop} {Q : Value → Shared → Prop} (B : Begins v o G) (h1 : G s.heap)
    (h : ∀ h', IsEnum h' (s.heap.objs.size + 1) s.heap.objs.size 0 .none → h'.get? s.heap.objs.size = some o → (∀ b o, s.heap.get? b = some o → h'.get? b = some o) → Q (.ref (s.heap.objs.size + 1)) { s with heap := h' }) :
    wpAny (model prog w) A (call (.type "enumerate") [v]) Q E s := by
  refine callType_new F.called_enumerate (by decide) (F.typeCall_enumerate_1 _) (F.newCall_enumerate_1 _) (fun obj => F.args_object_init_2 obj _) F.entry_enumerate_new (enum_new1 B) ⟨h1, ?_⟩
  have hz : (s.heap.push o).objs.size = s.heap.objs.size + 1 := Heap.size_push ..
  show _ ∧ _
  rw [hz]
  have he : IsEnum ((s.heap.push o).push { cls := .type "enumerate", data := .fields #[.none, .bool false, .ref s.heap.objs.size, rawInt 0, .none, .none] }) (s.heap.objs.size + 1) s.heap.objs.size 0 .none := by
    have z := Heap.get?_push_size (s.heap.push o) (o := { cls := .type "enumerate", data := .fields #[.none, .bool false, .ref s.heap.objs.size, rawInt 0, .none, .none] }) rfl
    rw [hz] at z
    exact z
  exact ⟨⟨_, he, rfl⟩, h _ he (Heap.get?_push_of_some _ (Heap.get?_push_size _ B.free)) fun b o x => Heap.get?_push_of_some _ (Heap.get?_push_of_some _ x)⟩
/-- the tuple at a, its items in new pairs with their places -/
def IteT (K : Fg) (a : Addr) : It :=
  ⟨fun i H => ∃ (xs : List V) (x : V), SqT K H a xs ∧ xs[i]? = some x, fun i H v H' => ∃ T x, v = .ref T ∧ H T = none ∧ H' = upd H T (.tup [.int (i : Nat), x]) ∧ ∀ xs, SqT K H a xs → xs[i]? = some x, fun i H => ∃ xs : List V, SqT K H a xs ∧ xs.length ≤ i⟩
theorem turn_enumT {P : Program} {w : World} {K : Fg} {elts : List Expr} {kk : Nat} {tpos : Pos} (a e it : Addr) (hai : a ≠ it) (hae : a ≠ e) :
    Turn P w K (.Tuple elts kk tpos) (IteT K a) [e, it] e (fun i h => (∃ old, IsEnum h e it ((i : Nat) : Int) old) ∧ h.IsTupleIter it a i ∧ e ≠ it) where
  mem := by simp
  obj := fun i h st b hb => by
    obtain ⟨⟨old, he⟩, ⟨o, ho, hc, hd⟩, _⟩ := st
    have e' : b = e ∨ b = it := by simpa using hb
    rcases e' with z | z
    · rw [z]
      exact ⟨_, he, fun v q => nomatch q⟩
    · rw [z]
      exact ⟨o, ho, fun v q => by rw [hd] at q; cases q⟩
  keep := fun i h h' st k => let ⟨⟨old, he⟩, hi, hne⟩ := st; ⟨⟨old, k e (by simp) _ he⟩, hi.at fun o q => k it (by simp) o q, hne⟩
  item := by
    intro X hP hw hK hc i pins s σ H E I hf st hg
    subst hP hw hK
    obtain ⟨⟨old, he⟩, hit, hne⟩ := st
    obtain ⟨xs, x, hq, hx⟩ := hg
    obtain ⟨its, rv, p, hz⟩ := I.tuple hq
    obtain ⟨u, hu, ru⟩ := rv.get hx
    have hel : e < s.heap.objs.size := Heap.lt_size he
    have hil : it < s.heap.objs.size := by
      obtain ⟨_, q, _⟩ := hit
      exact Heap.lt_size q
    have hlt : i < its.toArray.size := by
      have := (List.getElem?_eq_some_iff.mp hu).1
      simpa using this
    have Dr := Draws.tuple (prog := X.prog) (w := X.w) (A := X.A.in1) (I.ok.hd hc) it a hai its.toArray
    refine wpAny_pyNext_enum_itemD Dr he ⟨hit, p⟩ hlt hne (by simp [hne, Ne.symm hae]) fun x' h' tk hx' ho hst' hT hsz hk => ?_
    have ex : x' = u := by
      have hx2 : its[i]? = some x' := by simpa using hx'
      rw [hu] at hx2
      exact (Option.some.inj hx2).symm
    subst ex
    refine ⟨_, rfl, wpAny_letOwnedTupleGo_enum (s := { s with heap := h', toks := tk + 1 }) ho fun h'' he' sb => ?_⟩
    have hT2 : h''.get? s.heap.objs.size = some { cls := .type "tuple", data := .seq #[.int i tk, x'] } := (sb.2 _ (Nat.ne_of_gt hel)).trans hT
    have new : ObjOk X.prog X.w (upd H s.heap.objs.size (.tup [.int (i : Nat), x])) h'' s.heap.objs.size (.tup [.int (i : Nat), x]) :=
      ⟨by show 2 ≤ sizeLine; decide, [.int i tk, x'], .cons ⟨_, rfl⟩ (.cons ru .nil), ⟨_, hT2, rfl, _, rfl⟩⟩
    have I1 : Inv X pins σ (upd H s.heap.objs.size (.tup [.int (i : Nat), x])) { s with heap := h'', toks := tk + 1 } :=
      I.turnedNew (ch := [e, it]) (fun b ob hb q => (sb.2 b (fun z => hb (by simp [z]))).trans (hk b ob (fun z => hb (by simp [z])) (fun z => hb (by simp [z])) q)) hf (Nat.le_refl _) new
    refine ⟨.ref s.heap.objs.size, _, I1, rfl, ⟨_, x, rfl, I.hok.fresh (Nat.le_refl _), rfl, fun ys hy => by rw [I.tuple_inj hy hq]; exact hx⟩, ⟨⟨x', ?_⟩, hst'.1.at fun o q => (sb.2 it (Ne.symm hne)).trans q, hne⟩, fun b hb => ?_⟩
    · have e1 : ((i + 1 : Nat) : Int) = (i : Int) + 1 := by omega
      rw [e1]
      exact he'
    · have hb' : b < s.heap.objs.size := by
        have e' : b = e ∨ b = it := by simpa using hb
        rcases e' with z | z
        · rw [z]; exact hel
        · rw [z]; exact hil
      rw [upd_ne (Nat.ne_of_lt hb')]
      exact (hf b hb).1
  done := by
    intro X hP hw hK hc i pins s σ H E I hf st hg
    subst hP hw hK
    obtain ⟨⟨old, he⟩, hit, hne⟩ := st
    obtain ⟨xs, hq, hx⟩ := hg
    obtain ⟨its, rv, p, hz⟩ := I.tuple hq
    obtain ⟨f0, f1, f2, f3, f4, f5⟩ := hf it (by simp)
    have hl := rv.length
    have Dr := Draws.tuple (prog := X.prog) (w := X.w) (A := X.A.in1) (I.ok.hd hc) it a hai its.toArray
    have T : s.TypeIs (.ref e) "enumerate" := ⟨_, he, rfl⟩
    unfold pyNext
    refine wpAny_bind (wpAny_attempt (wpAny_callSpecial?_slot (name := Str.ofString "__next__") T F.slot_enumerate_next (wpAny_call_entry F.slot_enumerate_next T F.entry_enumerate_next ?_ (F.args_enumerate_next_1 _))))
    show wpAny _ _ (field (.ref e) 2 >>= _) _ _ _
    refine wpAny_bind (wpAny_field he rfl (x := .ref it) rfl ?_)
    refine wpAny_bind (wpAny_nextOf_tuple_end (I.ok.hd hc) hit p (by simp; omega) fun h' x he' hx' => ?_)
    obtain ⟨o, ho, hcc⟩ := hx'
    refine wpAny_bind (wpAny_isInstance (T := "StopIteration") (b := true) ⟨o, ho, hcc⟩ isSubtype_stop ?_)
    exact wpAny_pure ⟨rfl, I.turned (t' := s.toks) (fun b o hb q => he' b o hb q) f0 f1 f3 f4 f5⟩
  self := fun A i s Q E st h => let ⟨⟨_, he⟩, _⟩ := st; wpAny_pyIter_enum he h
def iEnumT (K : Fg) (ta : TA) : TI := fun σ H R => ta σ H fun vs H1 => ∃ a xs, vs = [.ref a] ∧ SqT K H1 a xs ∧ R (IteT K a) H1
theorem pi_enumT {X : Cx} {e : Expr} {ta : TA} {p pos tpos : Pos} {elts : List Expr} {kk : Nat} (hg : Gl X "enumerate") (hm : X.mg "enumerate" = none) (ha : PA X [e] ta) (hs : starEach [e] X.env = [(false, eval e X.env)] := by rfl) :
    PI X (.Tuple elts kk tpos) (.Call (.Name "enumerate" p) [e] [] pos) (iEnumT X.K ta) := by
  refine ⟨fun pins s σ H R I h => ?_⟩
  refine Call_ (ld_blt I hg hm boot_enumerate (PyProof.Rows.callWith_type1 (thn (ha.run pos pins s σ H _ I h) fun us s1 ⟨vs, H1, I1, r1, q1⟩ => ?_) hs rfl))
  obtain ⟨a, xs, ex, hq, q⟩ := q1
  subst ex
  cases r1 with
  | cons r rr =>
    cases rr
    cases r
    obtain ⟨its, rv, p', hz⟩ := I1.tuple hq
    have la : a < s1.heap.objs.size := p'.lt
    refine call_enumT (begins_tuple a its.toArray) p' fun h' he hit hk => wpAny_pyIter_enum he ?_
    have I2 : Inv X pins σ H1 { s1 with heap := h' } := I1.kept (t' := s1.toks) hk
    refine ⟨s1.heap.objs.size + 1, [s1.heap.objs.size + 1, s1.heap.objs.size], _, _, H1, rfl, I2, turn_enumT a (s1.heap.objs.size + 1) s1.heap.objs.size (Nat.ne_of_lt la) (Nat.ne_of_lt (Nat.lt_succ_of_lt la)), ⟨⟨.none, he⟩, ⟨_, hit, rfl, rfl⟩, Nat.succ_ne_self _⟩, fun b hb => ?_, q⟩
    have e' : b = s1.heap.objs.size + 1 ∨ b = s1.heap.objs.size := by simpa using hb
    have hle : s1.heap.objs.size ≤ b := by
      rcases e' with z | z
      · rw [z]; exact Nat.le_add_right _ _
      · rw [z]; exact Nat.le_refl _
    exact I1.fpOk hle (I1.hok.fresh hle)
theorem walk_enumT {K : Fg} {a : Addr} {xs : List V} : Walk (IteT K a) xs.length (fun H => SqT K H a xs) (YPair (fun i => some (.int (i : Nat))) (fun i => xs[i]?)) := by
  refine ⟨fun i _ hi q => ⟨xs, xs[i], q, by simp [hi]⟩, fun _ q => ⟨xs, q, Nat.le_refl _⟩, fun i H v H' _ q y => ?_⟩
  obtain ⟨T, x, h1, h2, h3, h4⟩ := y
  exact ⟨T, .int (i : Nat), x, h1, h2, h3, rfl, h4 xs q⟩
end Z
set_option maxHeartbeats 1000000
namespace Z
open PySem PySem.Spec PyProof.Rows L2
section
variable {X : Cx}
/-! ### xs == [], xs != [] -/
def rEq0 (K : Fg) (neg : Bool) : R2 := fun x y H Q => ∃ a b xs, x = .ref a ∧ y = .ref b ∧ ((SqL K H a xs ∧ SqL K H b []) ∨ (SqT K H a xs ∧ SqT K H b [])) ∧ Q (.bl (if neg then !xs.isEmpty else xs.isEmpty)) H
theorem vals_nil {us : List Value} (r : Vals [] us) : us = [] := by cases r; rfl
theorem op_eq0 (hu : X.A.units + 64 < cLine) : OpR X (compareOp .Eq) (rEq0 X.K false) := by
  intro pins s σ H x y v u Q I rx ry h
  obtain ⟨a, b, xs, rfl, rfl, hq, q⟩ := h
  obtain rfl : v = Value.ref a := rx
  obtain rfl : u = Value.ref b := ry
  rcases hq with ⟨ha, hb⟩ | ⟨ha, hb⟩
  · obtain ⟨its, r1, p1, _⟩ := I.list ha
    obtain ⟨its2, r2, p2, _⟩ := I.list hb
    cases vals_nil r2
    cases xs with
    | nil =>
      cases vals_nil r1
      exact SeqAt.eq_listAt (e := fun _ => true) p1.isList p2.isList rfl (by omega) (fun j h1 _ => absurd h1 (Nat.not_lt_zero _)) ⟨.bl true, H, I, rfl, q⟩
    | cons z zs =>
      cases r1
      exact SeqAt.eq_list_lengthsAt p1.isList p2.isList (by simp) (by omega) ⟨.bl false, H, I, rfl, q⟩
  · obtain ⟨its, r1, p1, _⟩ := I.tuple ha
    obtain ⟨its2, r2, p2, _⟩ := I.tuple hb
    cases vals_nil r2
    cases xs with
    | nil =>
      cases vals_nil r1
      exact SeqAt.eq_tupleAt (e := fun _ => true) p1 p2 (by omega) (fun j h1 _ => absurd h1 (Nat.not_lt_zero _)) ⟨.bl true, H, I, rfl, q⟩
    | cons z zs =>
      cases r1
      refine SeqAt.eq_tupleAt (e := fun _ => true) p1 p2 (by omega) (fun j _ h1 => absurd h1 (Nat.not_lt_zero _)) ⟨.bl false, H, I, ?_, q⟩
      show Value.bool _ = Value.bool false
      simp
theorem op_ne0 (hu : X.A.units + 64 < cLine) : OpR X (compareOp .NotEq) (rEq0 X.K true) := by
  intro pins s σ H x y v u Q I rx ry h
  obtain ⟨a, b, xs, rfl, rfl, hq, q⟩ := h
  obtain rfl : v = Value.ref a := rx
  obtain rfl : u = Value.ref b := ry
  rcases hq with ⟨ha, hb⟩ | ⟨ha, hb⟩
  · obtain ⟨its, r1, p1, _⟩ := I.list ha
    obtain ⟨its2, r2, p2, _⟩ := I.list hb
    cases vals_nil r2
    cases xs with
    | nil =>
      cases vals_nil r1
      exact SeqAt.RcNeAt.lists (e := fun _ => true) p1.isList p2.isList rfl (by omega) (fun j h1 _ => absurd h1 (Nat.not_lt_zero _)) _ _ _ _ ⟨.bl false, H, I, rfl, q⟩
    | cons z zs =>
      cases r1
      exact SeqAt.RcNeAt.lists_lengths p1.isList p2.isList (by simp) (by omega) _ _ _ _ ⟨.bl true, H, I, rfl, q⟩
  · obtain ⟨its, r1, p1, _⟩ := I.tuple ha
    obtain ⟨its2, r2, p2, _⟩ := I.tuple hb
    cases vals_nil r2
    cases xs with
    | nil =>
      cases vals_nil r1
      exact SeqAt.RcNeAt.tuples (e := fun _ => true) p1 p2 (by omega) (fun j h1 _ => absurd h1 (Nat.not_lt_zero _)) _ _ _ _ ⟨.bl false, H, I, rfl, q⟩
    | cons z zs =>
      cases r1
      refine SeqAt.RcNeAt.tuples (e := fun _ => true) p1 p2 (by omega) (fun j _ h1 => absurd h1 (Nat.not_lt_zero _)) _ _ _ _ ⟨.bl true, H, I, ?_, q⟩
      show Value.bool _ = Value.bool true
      simp
/-! ### xs[i] by values -/
theorem get_listZ : PGet X (rIxL X.K) := by
  intro pins s σ H x y v u Q I rx ry h
  obtain ⟨p, xs, i, z, rfl, rfl, hq, he, q⟩ := h
  cases rx
  obtain ⟨t, rfl⟩ := ry
  obtain ⟨its, r, pl, hz⟩ := I.list hq
  obtain ⟨j, h1, h2, h3, h4, h5⟩ := atI_get he
  obtain ⟨w, ew, rw'⟩ := r.get h2
  have hl := r.length
  have hn := line63
  have fin : EP X pins σ Q w s := ⟨z, H, I, rw', q⟩
  by_cases h0 : 0 ≤ i
  · have hj : i.toNat = j := by
      rw [seqIndex_of h0 h5] at h1
      exact Option.some.inj h1
    exact wpAny_getItem_list pl.isList h0 (by omega) (by rw [hj]; simpa using ew) fin
  · have hj : (i + (its.toArray.size : Int)).toNat = j := by
      rw [seqIndex_neg (by omega) h4] at h1
      rw [List.size_toArray, ← hl]
      exact Option.some.inj h1
    exact wpAny_getItem_list_neg pl.isList (by omega) (by rw [List.size_toArray] <;> omega) (by omega) (by rw [hj]; simpa using ew) fin
/-! ### xs.remove(x), flat items -/
def rRemA : V → List V → Hp → VK → Prop := fun x xs H Q => ∃ (l : Addr) (ys : List V) (y : V) (j : Nat), x = .ref l ∧ xs = [y] ∧ H l = some (.lst ys) ∧ flatV y = true ∧ ys.all flatV = true ∧ (∃ z, ys[j]? = some z ∧ eqV z y = true) ∧ (∀ m z, m < j → ys[m]? = some z → eqV z y = false) ∧ Q .non (upd H l (.lst (ys.eraseIdx j)))
theorem mt_removeA : MtM X "list.remove" rRemA := by
  intro pins s σ H x xs v us Q I rx rxs h
  obtain ⟨l, ys, y, j, rfl, rfl, hH, fy, fs, ⟨z, hj, hz⟩, hno, q⟩ := h
  cases rx
  obtain ⟨u, rfl, ru⟩ := rxs.one
  obtain ⟨zl, its, n, r, hl, e⟩ := I.lstM hH
  have hjn : j < ys.length := (List.getElem?_eq_some_iff.mp hj).1
  have hlen := r.length
  have hjl : j < its.toArray.size := by rw [List.size_toArray]; omega
  have fa := List.all_eq_true.mp fs
  refine call_meets PySem.F.slot_list_remove ⟨_, e, rfl⟩ PySem.F.entry_list_remove (PySem.F.args_list_remove_2 _ _)
    (SeqAt.list_removeAt l its.toArray n none #[] u (eqU y) j hjl ?_ ?_ (by rw [List.size_toArray]; omega)) ⟨e, fun w hw => mem_eqAt ru fy r fs w (by simpa using hw), ?_⟩
  · obtain ⟨w, ew, rw'⟩ := r.get hj
    obtain ⟨h1, h2⟩ := List.getElem?_eq_some_iff.mp ew
    have e1 : its.toArray[j] = w := by simpa using h2
    rw [e1, eqU_of rw' (fa z (List.mem_of_getElem? hj))]
    exact hz
  · intro m hm hmj
    have hmn : m < ys.length := by omega
    have hgm := List.getElem?_eq_getElem hmn
    obtain ⟨w, ew, rw'⟩ := r.get hgm
    obtain ⟨h1, h2⟩ := List.getElem?_eq_some_iff.mp ew
    have e1 : its.toArray[m] = w := by simpa using h2
    rw [e1, eqU_of rw' (fa _ (List.mem_of_getElem? hgm))]
    exact hno m _ hmj hgm
  · have rr := r.eraseIdx j
    refine ⟨.non, _, I.lset (its' := its.eraseIdx j) (t' := s.toks) hH e ?_ rr ?_, rfl, q⟩
    · show its.toArray.eraseIdxIfInBounds j = (its.eraseIdx j).toArray
      rw [List.eraseIdxIfInBounds_toArray]
    · have z2 : (ys.eraseIdx j).length ≤ ys.length := by rw [List.length_eraseIdx]; split <;> omega
      omega
/-! ### sorted(xs), xs data -/
def rSortedDat (K : Fg) : List V → Hp → VK → Prop := fun vs H Q => ∃ (a : Addr) (xs : List V) (ds : List PyData), vs = [.ref a] ∧ SqL K H a xs ∧ DpAll K H xs ds ∧ PySem.W.AllAlike ds ∧ PySem.W.Sortable ds ∧ (∀ d ∈ ds, d.depth ≤ 60) ∧
  ∀ ys p, DpAll K H ys (ds.mergeSort (PySem.W.dataLe false id)) → H p = none → Q (.ref p) (upd H p (.lst ys))
theorem each_of {K : Fg} {H : Hp} : ∀ {xs : List V} {us : List Value} {ds : List PyData}, Vals xs us → DpAll K H xs ds → PySem.W.EachIs (fun v d => ∃ y, RelV y v ∧ Dp K H y d) us ds
  | _, _, _, .nil, .nil => .nil
  | _, _, _, .cons r t, .cons d e => .cons ⟨_, r, d⟩ (each_of t e)
theorem each_back {K : Fg} {H : Hp} : ∀ {us : List Value} {ds : List PyData}, PySem.W.EachIs (fun v d => ∃ y, RelV y v ∧ Dp K H y d) us ds → ∃ ys, Vals ys us ∧ DpAll K H ys ds
  | _, _, .nil => ⟨[], .nil, .nil⟩
  | _, _, .cons ⟨y, r, d⟩ e => by
    obtain ⟨ys, h1, h2⟩ := each_back e
    exact ⟨y :: ys, .cons r h1, .cons d h2⟩
theorem cr_sortedDat (hu : X.A.units + 64 < cLine) : CallR X (.builtin "sorted") (rSortedDat X.K) := by
  intro pins s σ H vs us Q I r h
  obtain ⟨a, xs, ds, rfl, hs, hd, hal, hk, hdp, q⟩ := h
  obtain ⟨its, rv, hl, hz⟩ := I.list hs
  rw [Vals.ref1 r]
  have e := each_of rv hd
  have er : PySem.W.EachIs (fun v b => ∃ as, Reads s.heap v (id b) as) its ds := e.mono fun v d ⟨y, r1, d1⟩ => Dp.reads I d y v d1 r1
  have hid : ds.map id = ds := List.map_id ds
  refine PySem.W.sorted_data (enc := id) (R := fun v d => ∃ y, RelV y v ∧ Dp X.K H y d) hl.isList e er (by rw [hid]; exact hal) (by rw [hid]; exact hk) (by rw [← hd.len]; exact hz) (fun b hb => ?_) fun out hlen he => ?_
  · have := hdp b hb
    show X.A.units + 2 + b.depth < cLine
    omega
  · obtain ⟨ys, r2, d2⟩ := each_back he
    obtain ⟨ep, he'⟩ := PyProof.Rows.sortedAll_at s.heap its out.toArray
    refine ⟨.ref _, upd H (s.heap.objs.size + 1) (.lst ys), I.laid (t' := s.toks) (fun _ _ => PyProof.Rows.sortedAll_old) (Nat.le_succ _) ⟨?_, out, ep, r2, he'⟩, rfl, q ys _ d2 (I.hok.fresh (Nat.le_succ _))⟩
    rw [d2.len, List.length_mergeSort, ← hd.len]
    exact hz
end
end Z
set_option maxHeartbeats 1000000
namespace Z
open PySem PySem.Spec PyProof.Rows L2
/-! ### the rules that lean on the fragment, by its name -/
section
variable {X : Cx} (K : Fg) {e : Expr} {es : List Expr} {ta : TE} {t : TA} {tg : TGs} {f : Str} {T : String} {r : V → List V → Hp → VK → Prop} {n : Nat} {x y : Expr}
theorem ix_tupK (hK : X.K = K := by rfl) : IxR X (rIxT K) := by subst hK; exact ix_tup
theorem ix_listK (hK : X.K = K := by rfl) : IxR X (rIxL K) := by subst hK; exact ix_list
theorem op_in_seqK (hK : X.K = K := by rfl) : OpR X (compareOp .In) (rIn K false) := by subst hK; exact op_in_seq
theorem op_notIn_seqK (hK : X.K = K := by rfl) : OpR X (compareOp .NotIn) (rIn K true) := by subst hK; exact op_notIn_seq
theorem call_isiDK (hK : X.K = K := by rfl) : CallR X (.builtin "isinstance") (rIsiD K) := by subst hK; exact call_isiD
theorem call_lenK (hK : X.K = K := by rfl) : CallR X (.builtin "len") (fun xs H Q => ∃ x n, xs = [x] ∧ LenV K x H n ∧ Q (.int n) H) := by subst hK; exact call_len
theorem cr_allK (hc : X.calm = true) (hK : X.K = K := by rfl) : CallR X (.builtin "all") (rAll K) := by subst hK; exact cr_all hc
theorem cr_sumK (hc : X.calm = true) (hK : X.K = K := by rfl) : CallR X (.builtin "sum") (rSum K) := by subst hK; exact cr_sum hc
theorem call_tuple_ofK (hK : X.K = K := by rfl) : CallR X (.type "tuple") (fun xs H Q => ∃ p ys, xs = [.ref p] ∧ ((SqL K H p ys ∧ ∀ l, H l = none → Q (.ref l) (upd H l (.tup ys))) ∨ (SqT K H p ys ∧ Q (.ref p) H))) := by subst hK; exact call_tuple_of
theorem op_eq0K (hu : X.A.units + 64 < cLine) (hK : X.K = K := by rfl) : OpR X (compareOp .Eq) (rEq0 K false) := by subst hK; exact op_eq0 hu
theorem op_ne0K (hu : X.A.units + 64 < cLine) (hK : X.K = K := by rfl) : OpR X (compareOp .NotEq) (rEq0 K true) := by subst hK; exact op_ne0 hu
theorem op_eqDK (hu : X.A.units + 64 < cLine) (hK : X.K = K := by rfl) : OpR X (compareOp .Eq) (rEqD K) := by subst hK; exact op_eqD hu
theorem op_neDK (hu : X.A.units + 64 < cLine) (hK : X.K = K := by rfl) : OpR X (compareOp .NotEq) (rNeD K) := by subst hK; exact op_neD hu
theorem op_inDK (hu : X.A.units + 65 < cLine) (hK : X.K = K := by rfl) : OpR X (compareOp .In) (rInD K) := by subst hK; exact op_inD hu
theorem op_notInDK (hu : X.A.units + 65 < cLine) (hK : X.K = K := by rfl) : OpR X (compareOp .NotIn) (rNotInD K) := by subst hK; exact op_notInD hu
theorem cr_sortedDatK (hu : X.A.units + 64 < cLine) (hK : X.K = K := by rfl) : CallR X (.builtin "sorted") (rSortedDat K) := by subst hK; exact cr_sortedDat hu
theorem get_listK (hK : X.K = K := by rfl) : PGet X (rIxL K) := by subst hK; exact get_listZ
theorem sl_listK (hK : X.K = K := by rfl) : SlR X (rSlL K) := by subst hK; exact sl_list
theorem sl_tupAK (hK : X.K = K := by rfl) : SlR X (rSlA K) := by subst hK; exact sl_tupA
theorem op_catAK (hK : X.K = K := by rfl) : OpR X (binaryOp .Add) (rCatA K) := by subst hK; exact op_catA
theorem kFld (h : PE X e (tFld X.K ta f)) (hK : X.K = K := by rfl) : PE X e (tFld K ta f) := by subst hK; exact h
theorem kBM (h : PE X e (tBM X.K T r ta t)) (hK : X.K = K := by rfl) : PE X e (tBM K T r ta t) := by subst hK; exact h
theorem kBM0 (h : PE X e (tBM0 X.K T r ta)) (hK : X.K = K := by rfl) : PE X e (tBM0 K T r ta) := by subst hK; exact h
theorem kGT (h : PG X e (gTup X.K n tg)) (hK : X.K = K := by rfl) : PG X e (gTup K n tg) := by subst hK; exact h
theorem kGL (h : PG X e (gLst X.K n tg)) (hK : X.K = K := by rfl) : PG X e (gLst K n tg) := by subst hK; exact h
theorem kIT (h : PI X x y (iTup X.K ta)) (hK : X.K = K := by rfl) : PI X x y (iTup K ta) := by subst hK; exact h
theorem kIL (h : PI X x y (iList X.K ta)) (hK : X.K = K := by rfl) : PI X x y (iList K ta) := by subst hK; exact h
theorem kIET (h : PI X x y (iEnumT X.K t)) (hK : X.K = K := by rfl) : PI X x y (iEnumT K t) := by subst hK; exact h
theorem kIE (h : PI X x y (iEnum X.K t)) (hK : X.K = K := by rfl) : PI X x y (iEnum K t) := by subst hK; exact h
theorem kSt {te : TE} (h : PA X es (StX.tStar X.K te t)) (hK : X.K = K := by rfl) : PA X es (StX.tStar K te t) := by subst hK; exact h
end
theorem _root_.L2.Room.units5 {k : Nat} {A : Around} (r : Room k A) : A.units + 65 < cLine := by have := r.un; omega
end Z
set_option maxHeartbeats 1000000
namespace Z
open PySem PySem.Spec PyProof.Rows L2
section
variable {X : Cx}
/-! ### sum(t), t a tuple of ints -/
def rSumT (K : Fg) : List V → Hp → VK → Prop := fun vs H Q => ∃ (a : Addr) (ns : List Int), vs = [V.ref a] ∧ SqT K H a (ns.map V.int) ∧ Q (.int ns.sum) H
theorem cr_sumT (hc : X.calm = true) : CallR X (.builtin "sum") (rSumT X.K) := by
  intro pins s σ H vs us Q I r h
  obtain ⟨a, ns, rfl, hs, q⟩ := h
  obtain ⟨its, rv, hl, _⟩ := I.tuple hs
  rw [Vals.ref1 r]
  obtain ⟨xs, e⟩ := rv.ints.allInts.items
  have hn : numsOf (intItems xs).toList = ns := by rw [← e]; exact rv.ints.numsOf
  rw [nums_intItems] at hn
  rw [e] at hl
  refine PySem.W.ktm_sumG (I.ok.hd hc) hl fun h' tk t' hk => ?_
  rw [preSum_eq, List.take_of_length_le (by simp), hn]
  exact ⟨.int _, H, I.kept hk, ⟨_, rfl⟩, q⟩
theorem cr_sumTK (K : Fg) (hc : X.calm = true) (hK : X.K = K := by rfl) : CallR X (.builtin "sum") (rSumT K) := by subst hK; exact cr_sumT hc
end
end Z
set_option maxHeartbeats 1000000
namespace Z
open PySem PySem.Spec PyProof.Rows L2
/-! ### the head's facts, over all objects below an address -/
def adR (n : Nat) : List Addr := cStatics :: mainGlobals :: List.range n
def seeR (n : Nat) (fa : List (Fg → Bool)) (fn : List DefZ) (g : Addr → Option Obj) : Seen := lookZ fa fn (He.frG g (adR n))
def hookR (n : Nat) (fa : List (Fg → Bool)) (fn : List DefZ) : PySem.W.Hook where
  α := Seen
  obs := fun s => seeR n fa fn s.heap.get?
  val := fun _ => (true, fn.map DefZ.due)
  says := fun _ h => ∃ K : Fg, K.In h ∧ SaysZ fa fn K
  of := fun _ _ e => ⟨_, He.frG_in, e⟩
  keeps := fun _ _ _ ⟨K, hK, c⟩ k => ⟨K, PySem.W.Frag.In.keeps hK k, c⟩
theorem seeR_eq {n : Nat} {fa : List (Fg → Bool)} {fn : List DefZ} {g : Addr → Option Obj} {s : Shared} (h : ∀ a, g a = s.heap.get? a) : seeR n fa fn g = (hookR n fa fn).obs s := by
  obtain rfl : g = s.heap.get? := funext h
  rfl
end Z
set_option maxHeartbeats 1000000
namespace Z
open PySem PySem.Spec PyProof.Rows L2
/-! ### d.update(e), two dicts -/
section
variable {X : Cx} {pins : List (Addr × Obj)} {σ : L2.St} {H : Hp} {s : Shared} {a b : Addr} {kvs more : List (Key × V)} {A : Around} {E : Value → Shared → Prop}
theorem d_update {Q : Value → Shared → Prop} (I : Inv X pins σ H s) (ea : H a = some (.dK kvs)) (eb : H b = some (.dK more)) (ne : a ≠ b) (z : kvs.length + more.length ≤ sizeLine)
    (h : ∀ s', Inv X pins σ (upd H a (.dK (mergeK kvs more))) s' → Q .none s') : wpAny (model X.prog X.w) A (call (.builtin "dict.update") [.ref a, .ref b]) Q E s := by
  obtain ⟨z1, ha, vs, r1, d1⟩ := dk_of I.hok ea
  obtain ⟨z2, hb, ws, r2, d2⟩ := dk_of I.hok eb
  refine call_meetsIn PySem.F.slot_dict_update d1.typeIs PySem.F.entry_dict_update (PySem.F.args_dict_update_2 _ _) (meets_dict_update (mixKind X.prog X.w) a b ne hb)
    ⟨vs, ws, d1, d2, by rw [← r1.length, ← r2.length]; exact z, fun h' d' _ hs => h _ ?_⟩
  have he : ∃ q, h'.get? a = some q := let ⟨q, _, _, hq, _⟩ := d'; ⟨q, hq⟩
  exact d_write I (by rw [ea]; exact True.intro) hs he (dk_new (Nat.le_trans (length_mergeK more kvs) z) ha (KV.merge r2 r1) d')
end
def tDUpd (td ty : TE) : TE := fun σ H Q => td σ H fun x H1 => ∃ a, x = .ref a ∧ IsD H1 a ∧ ty σ H1 fun y H2 => ∃ b kvs more, y = .ref b ∧ a ≠ b ∧ H2 a = some (.dK kvs) ∧ H2 b = some (.dK more) ∧ kvs.length + more.length ≤ sizeLine ∧ Q .non (upd H2 a (.dK (mergeK kvs more)))
theorem pe_dupd {X : Cx} {o e : Expr} {td ty : TE} {apos cpos : Pos} (ho : PE X o td) (he : PE X e ty) (m : M1 X o "update" apos e cpos) : PE X (.Call (.Attribute o "update" apos) [e] [] cpos) (tDUpd td ty) := by
  refine ⟨fun pins s σ H Q I h => ?_⟩
  refine wpAny_Call_method m.base m.few m.line PySem.F.plainAttrs_dict PySem.F.slot_dict_update PySem.F.type_dict_update (thn (ho.run pins s σ H _ I h) fun u s1 ⟨x, H1, I1, rx, a, ex, d, q1⟩ => ?_)
  subst ex
  cases rx
  obtain ⟨t1, t2, _⟩ := isD_at I1 d
  refine ⟨t1, t2, ?_⟩
  rw [m.trees]
  refine Calls.callWith_builtin rfl (Calls.evalArgs_plain (Calls.spliced_cons (thn (he.run pins s1 σ H1 _ I1 q1) fun iv s2 ⟨y, H2, I2, ry, b, kvs, more, ey, ne, ea, eb, z, q2⟩ => Calls.spliced_nil ?_)))
  subst ey
  cases ry
  exact d_update I2 ea eb ne z fun s3 I3 => ⟨.non, _, I3, rfl, q2⟩
end Z
namespace Z
open PySem PySem.Spec PyProof.Rows L2
section
variable {X : Cx} (K : Fg)
theorem cr_maxK (hc : X.calm = true) (hK : X.K = K := by rfl) : CallR X (.builtin "max") (rMax K) := by subst hK; exact cr_max hc
end
section
variable {K : Fg} {H : Hp} {a : Addr} {Q : VK} {ns : List Int}
theorem s_max (h : SqL K H a (ns.map V.int)) (hn : ns ≠ []) (q : ∀ m, m ∈ ns → (∀ y, y ∈ ns → y ≤ m) → Q (.int m) H) : rMax K [.ref a] H Q := ⟨a, ns, rfl, h, List.length_pos_iff.mpr hn, q⟩
end
end Z
set_option maxHeartbeats 1000000
namespace Z
open PySem PySem.Spec PyProof.Rows L2
/-! ### isinstance(x, (tuple, list)), data; data[i] -/
def isSeqD : PyData → Bool
  | .list _ => true
  | .tuple _ => true
  | _ => false
def rIsiDT (K : Fg) : List V → Hp → VK → Prop := fun xs H Q => ∃ (x : V) (tp : Addr) (d : PyData), xs = [x, .ref tp] ∧ H tp = some (.tup [.ty "tuple", .ty "list"]) ∧ Dp K H x d ∧ Q (.bl (isSeqD d)) H
def rIxA (K : Fg) : R2 := fun x y H Q => ∃ p xs i v, x = .ref p ∧ y = .int i ∧ (SqL K H p xs ∨ SqT K H p xs) ∧ atI xs i = some v ∧ Q v H
section
variable {X : Cx} (K : Fg)
theorem call_isiDTK (hK : X.K = K := by rfl) : CallR X (.builtin "isinstance") (rIsiDT K) := by
  subst hK
  intro pins s σ H xs us Q I r h
  obtain ⟨x, tp, d, e, ht, hd, q⟩ := h
  refine call_isiT pins s σ H xs us Q I r ⟨x, tp, _, _, [.type "tuple", .type "list"], isSeqD d, e, ht, .cons (.ty _) (.cons (.ty _) .nil), hd.ty, ?_, q⟩
  refine kitAny_cons (isi_kit (by simp)) (fun h1 => kitAny_cons (isi_kit (by simp)) (fun h2 => ?_) (fun h2 => ?_)) (fun h1 => ?_)
  · rw [kitAny_nil]
    cases d <;> first | rfl | (simp [isiB, isiT, tyD] at h1; done) | (simp [isiB, isiT, tyD] at h2; done)
  · cases d <;> first | rfl | (simp [isiB, isiT, tyD] at h2; done)
  · cases d <;> first | rfl | (simp [isiB, isiT, tyD] at h1; done)
theorem ix_anyK (hK : X.K = K := by rfl) : IxR X (rIxA K) := by
  subst hK
  intro value slice pins s σ H x y v u Q I rx ry h hs
  obtain ⟨p, xs, i, z, h1, h2, hq | hq, he, q⟩ := h
  · exact ix_list value slice pins s σ H x y v u Q I rx ry ⟨p, xs, i, z, h1, h2, hq, he, q⟩ hs
  · exact ix_tup value slice pins s σ H x y v u Q I rx ry ⟨p, xs, i, z, h1, h2, hq, he, q⟩ hs
end
end Z
set_option maxHeartbeats 1000000
namespace Z
open PySem PySem.Spec PyProof.Rows L2
/-! ### a default that is left out -/
theorem calD0 {K : Fg} {d : DefZ} {ps : List Str} (F : FunZ K d) (n : Nat) (hd : d.dfl.map (He.Dv.v K) ≠ []) (hn : n + (d.dfl.map (He.Dv.v K)).length = ps.length)
    (h : ∀ (T : Addr) (kV doc pm : Value) (an : Option Addr) (cdv ct : Value) (us its : List Value), us.length = n → its.length = (d.dfl.map (He.Dv.v K)).length →
      ∃ k, bindArgs (PySem.W.fnOf d.name d.qual (defArgs d.st) (defBody d.st) (defScope d.st) (.ref T) kV doc pm an cdv ct) ⟨us, []⟩ = seqItems? (.ref T) >>= k ∧ k (some its.toArray) = pure (ps.zip (us ++ its))) : Cal K (d.at_ K) ps (d.dfl.map (He.Dv.v K)) := by
  obtain ⟨ds, hv, hb⟩ := FunD.binds1 (ps := ps) F n 0 hd (by rw [Nat.sub_zero]; exact hn) (fun T kV doc pm an cdv ct us its h1 h2 => by
    obtain ⟨k, e1, e2⟩ := h T kV doc pm an cdv ct us its h1 h2
    refine ⟨k, e1, ?_⟩
    rw [e2, List.drop_zero])
  rw [List.drop_zero] at hv
  exact ⟨F.kp, ds, hb, hv⟩
/-- an empty tuple among the objects of the head -/
def fTup0 (f : Fg → Addr) (K : Fg) : Bool := match K.lookup (f K) with
  | some ⟨.type c, _, .seq its _, _⟩ => decide (c = "tuple") && decide (its.toList = [])
  | _ => false
theorem fTup0_ok {K : Fg} {f : Fg → Addr} (h : fTup0 f K = true) (H : Hp) : SqT K H (f K) [] := by
  unfold fTup0 at h
  cases q : K.lookup (f K) with
  | none =>
    rw [q] at h
    cases h
  | some o =>
    obtain ⟨oc, od, dt, osl⟩ := o
    rw [q] at h
    cases oc with
    | type c =>
      cases dt with
      | seq its n =>
        obtain ⟨h1, h2⟩ := He.ba (show (decide (c = "tuple") && decide (its.toList = [])) = true from h)
        have e := of_decide_eq_true h2
        have hs : its.size = 0 := by rw [← Array.length_toList, e]; rfl
        exact .inr ⟨_, its, n, q, congrArg Value.type (of_decide_eq_true h1), rfl, by rw [hs]; exact Nat.zero_le _, by rw [e]; exact .nil⟩
      | _ => cases h
    | _ => cases dt <;> cases h
end Z
set_option maxHeartbeats 1000000
namespace Z
open PySem PySem.Spec PyProof.Rows L2
section
variable {X : Cx} {k : Nat} {f C : Addr} {ps : List Str} {sp : Sp} {E : XK}
/-! ### o == p by the class's own word, both of the class -/
def rEqO (C : Addr) (sp : Sp) (E : XK) : R2 := fun x y H Q => ∃ a b dx dy fs gs, x = .ref a ∧ y = .ref b ∧ H a = some (.ins C dx fs) ∧ H b = some (.ins C dy gs) ∧ sp [.ref a, .ref b] H (fun v H2 => ∃ c, v = .bl c ∧ Q (.bl c) H2) E
theorem op_eqO (hs : PySem.W.findIn X.K (.ref C) "__eq__" = some (some (.ref f))) (hfn : PySem.W.isFn X.K (.ref f) = true) (F : FnX X k f ps sp) (c : Cal X.K f ps []) (hr : Room k X.A) (hx : Passes (L2.CX X.prog X.w) X E) : OpR X (compareOp .Eq) (rEqO C sp E) := by
  intro pins s σ H x y v u Q I rx ry h
  obtain ⟨a, b, dx, dy, fs, gs, rfl, rfl, ea, eb, q⟩ := h
  obtain rfl : v = Value.ref a := rx
  obtain rfl : u = Value.ref b := ry
  obtain ⟨mA, O, _⟩ := ins_get I.hok ea
  obtain ⟨mB, O2, _⟩ := ins_get I.hok eb
  obtain ⟨od, J, _⟩ := O.look
  obtain ⟨od2, J2, _⟩ := O2.look
  obtain ⟨mf, fr⟩ := I.fr
  show wpAny (model X.prog X.w) X.A (richCompare .Eq (.ref a) (.ref b)) (EP X pins σ Q) X.xe s
  refine PySem.W.cmp_K (op := .Eq) (tb := .ref C) hr.units0 fr I.mod.kin J J2.type (by simp [PySem.W.notFirst]) hs hfn (thn (run_in0 F c hr hx I (.cons (show L2.RelV (.ref a) (.ref a) from rfl) (.cons (show L2.RelV (.ref b) (.ref b) from rfl) .nil)) q) fun r s' ⟨z, H2, I2, rz, w, ez, q2⟩ => ?_)
  subst ez
  cases rz
  exact ⟨.bl w, H2, I2, rfl, q2⟩
/-! ### o - t by the class's own word, t a text -/
theorem strNoSub : typeLookup (.type "str") (dunder "sub") = pure none := by rw [typeLookup_type, builtinLookup_eq_fast]; kernel_rfl
theorem strNoRsub : typeLookup (.type "str") (dunderR "sub") = pure none := by rw [typeLookup_type, builtinLookup_eq_fast]; kernel_rfl
theorem str_fills {M : Model} {A : Around} {s : Shared} {Q : Bool → Shared → Prop} {R : Value → Shared → Prop} (q : Q false s) : wpAny M A (fillsNumberSlot (.type "str") "sub") Q R s := by
  unfold fillsNumberSlot
  simp only [strNoSub, strNoRsub]
  exact wpAny_pure q
def rSubS (C : Addr) (sp : Sp) (E : XK) : R2 := fun x y H Q => ∃ a z dx fs, x = .ref a ∧ y = .str z ∧ H a = some (.ins C dx fs) ∧ sp [.ref a, .str z] H (fun v H2 => (∃ p, v = .ref p) ∧ Q v H2) E
theorem op_subS (hs : PySem.W.findIn X.K (.ref C) "__sub__" = some (some (.ref f))) (hfn : PySem.W.isFn X.K (.ref f) = true) (hc : PySem.W.selfFirst X.K C = true) (F : FnX X k f ps sp) (c : Cal X.K f ps []) (hr : Room k X.A) (hx : Passes (L2.CX X.prog X.w) X E) : OpR X (binaryOp .Sub) (rSubS C sp E) := by
  intro pins s σ H x y v u Q I rx ry h
  obtain ⟨a, z, dx, fs, rfl, rfl, ea, q⟩ := h
  obtain rfl : v = Value.ref a := rx
  obtain ⟨t, rfl⟩ := ry
  obtain ⟨mA, O, _⟩ := ins_get I.hok ea
  obtain ⟨od, J, _⟩ := O.look
  obtain ⟨mf, fr⟩ := I.fr
  have KX := PySem.W.Frag.In.keeps I.mod.kin fr.keep
  obtain ⟨cd, hcd, hm⟩ := PySem.W.any_some hc
  obtain ⟨rest, hm⟩ : ∃ rest, cd.mro = .ref C :: rest := by
    cases q : cd.mro with
    | nil => rw [q] at hm; cases hm
    | cons b r =>
      rw [q] at hm
      have := beq_iff_eq.mp hm
      simp only [List.head?_cons, Option.some.injEq] at this
      exact ⟨r, by rw [this]⟩
  have one := run_in0 F c hr hx I (.cons (show L2.RelV (.ref a) (.ref a) from rfl) (.cons (show L2.RelV (.str z) (.str z t) from ⟨t, rfl⟩) .nil)) q
  unfold binaryOp
  refine wpAny_holding (wpAny_bind ?_)
  unfold binaryOp1
  have hd : dunder "sub" = ("__sub__" : Str) := by kernel_rfl
  have hs2 : PySem.W.findIn X.K (.ref C) (dunder "sub") = some (some (.ref f)) := by rw [hd]; exact hs
  refine wpAny_bind (J.type.here (wpAny_bind ?_))
  show wpAny _ _ (pure (Value.type "str")) _ _ _
  refine wpAny_pure (wpAny_bind ((PySem.W.fills_K KX hcd hm hs2).here ?_))
  have hne : (Value.ref C == Value.type "str") = false := rfl
  simp only [hne, Bool.false_eq_true, if_false]
  refine wpAny_bind (str_fills ?_)
  simp only [Bool.and_false, Bool.false_eq_true, if_false, Bool.false_and, if_true]
  refine wpAny_bind (wpAny_pure ?_)
  simp only [Bool.false_eq_true, if_false]
  refine wpAny_bind (m := tryMethod (.ref a) _ (.str z t)) ?_
  unfold tryMethod
  refine wpAny_bind (PySem.W.special_fn KX J hs2 (beq_iff_eq.mp hfn) (wpAny_mono one (fun w s' hw => ?_) fun _ _ x => x))
  obtain ⟨zz, H2, I2, rz, ⟨p, ep⟩, q2⟩ := hw
  subst ep
  cases rz
  exact wpAny_pure (wpAny_pure (wpAny_pure ⟨.ref p, H2, I2, rfl, q2⟩))
/-! ### isinstance(o, C), o of the class -/
theorem call_isiOK (K : Fg) (hK : X.K = K := by rfl) : CallR X (.builtin "isinstance") (rIsi K) := by subst hK; exact call_isi
end
structure IsO (K : Fg) (C : Addr) : Prop where
  a : PySem.W.findIn K (.ref C) "__class__" = some (some (.builtin "object.__class__"))
  n : PySem.W.specialIn K (.builtin "object.__class__") "__get__" = some (some (.builtin "getset_descriptor.__get__"))
  t : PySem.W.takesIn K (.builtin "object.__class__") = some true
  m : PySem.W.mroIn K C (.type "object") = some true
  k : PySem.W.kitOne K (.ref C) (.ref C) = some true
def fIsO (x : Str) (K : Fg) : Bool := decide (PySem.W.findIn K (.ref (He.ga K x)) "__class__" = some (some (.builtin "object.__class__"))) && (decide (PySem.W.specialIn K (.builtin "object.__class__") "__get__" = some (some (.builtin "getset_descriptor.__get__"))) && (decide (PySem.W.takesIn K (.builtin "object.__class__") = some true) && (decide (PySem.W.mroIn K (He.ga K x) (.type "object") = some true) && decide (PySem.W.kitOne K (.ref (He.ga K x)) (.ref (He.ga K x)) = some true))))
theorem fIsO_ok {K : Fg} {x : Str} (h : fIsO x K = true) : IsO K (He.ga K x) := by
  unfold fIsO at h
  simp only [Bool.and_eq_true, decide_eq_true_eq] at h
  obtain ⟨h1, h2, h3, h4, h5⟩ := h
  exact ⟨h1, h2, h3, h4, h5⟩
theorem s_isiO {K : Fg} {H : Hp} {Q : VK} {a C dx : Addr} {fs : List (Str × V)} (h : H a = some (.ins C dx fs)) (cl : Cls K C) (i : IsO K C) (q : Q (.bl true) H) : rIsi K [.ref a, .ref C] H Q := ⟨.ref a, .ref C, .ref C, .ref C, true, rfl, .own C, .base (.ins h cl i.a i.n i.t i.m), i.k, q⟩
end Z
set_option maxHeartbeats 1000000
namespace Z
open PySem PySem.Spec PyProof.Rows L2
/-! ### t[::-1], t a tuple -/
theorem adj_rev (n : Nat) : Builtin.Slice.sliceAdjust none none (-1) (n : Int) = ((n : Int) - 1, -1) := by
  unfold Builtin.Slice.sliceAdjust
  simp
theorem plc_rev (n : Nat) : Builtin.Slice.slicePlaces ((n : Int) - 1) (-1) (-1) = n := by
  unfold Builtin.Slice.slicePlaces
  have h1 : ¬ ((-1 : Int) > 0) := by decide
  rw [if_neg h1, show (- -1 : Int) = 1 by decide, Int.ediv_one]
  split <;> omega
theorem fm_congr {α β : Type} {f g : α → Option β} : ∀ {l : List α}, (∀ a ∈ l, f a = g a) → l.filterMap f = l.filterMap g
  | [], _ => rfl
  | a :: l, h => by
    rw [List.filterMap_cons, List.filterMap_cons, h a (List.mem_cons_self ..), fm_congr fun b hb => h b (List.mem_cons_of_mem _ hb)]
theorem pick_rev (xs : Array Value) : ((List.range xs.size).filterMap fun (m : Nat) => xs[(((xs.size : Nat) : Int) - 1 + (m : Int) * -1).toNat]?).toArray = xs.toList.reverse.toArray := by
  have e : (List.range xs.size).filterMap (fun (m : Nat) => xs[(((xs.size : Nat) : Int) - 1 + (m : Int) * -1).toNat]?) = ((List.range xs.size).map fun k => xs.size - 1 - k).filterMap (xs[·]?) := by
    rw [List.filterMap_map]
    refine fm_congr fun k hk => ?_
    have := List.mem_range.mp hk
    have e2 : (((xs.size : Nat) : Int) - 1 + (k : Int) * -1).toNat = xs.size - 1 - k := by omega
    rw [e2]
    rfl
  rw [e, PySem.W.krv_range, List.filterMap_reverse, PySem.W.krv_all]
section
variable {prog : Program} {w : World} {A : Around} {E : Value → Shared → Prop} {s : Shared}
theorem sliceApplied_rev {sl : Addr} {vl vu vs : Value} {n : Nat} {Q : Int × Int × Nat → Shared → Prop} (hs : s.heap.IsSliceOf sl vl vu vs) (pl : IsPart vl none) (pu : IsPart vu none) (ps : IsPart vs (some (-1)))
    (h : Q ((n : Int) - 1, -1, n) s) : wpAny (model prog w) A (Builtin.Slice.sliceApplied (.ref sl) (pure (n : Int))) Q E s := by
  obtain ⟨os, hos, hcs, hds⟩ := id hs
  unfold Builtin.Slice.sliceApplied Builtin.Slice.sliceFields
  refine wpAny_bind (wpAny_bind (wpAny_field hos hds (x := vl) rfl (wpAny_bind (wpAny_field hos hds (x := vu) rfl (wpAny_bind (wpAny_field hos hds (x := vs) rfl (wpAny_pure ?_)))))))
  refine wpAny_bind (HT.slicePart_ ps ?_)
  show wpAny _ _ (if ((-1 : Int) == 0) = true then _ else _) _ _ s
  rw [if_neg (by decide)]
  refine wpAny_bind (HT.slicePart_ pl (wpAny_bind (HT.slicePart_ pu (wpAny_bind (wpAny_pure ?_)))))
  show wpAny _ _ (match Builtin.Slice.sliceAdjust none none (-1) (n : Int) with | (lo, hi) => pure (lo, (-1 : Int), Builtin.Slice.slicePlaces lo hi (-1))) _ _ s
  rw [adj_rev]
  show wpAny _ _ (pure ((n : Int) - 1, (-1 : Int), Builtin.Slice.slicePlaces ((n : Int) - 1) (-1) (-1))) _ _ s
  rw [plc_rev]
  exact wpAny_pure h
theorem getItem_tuple_rev {t sl : Addr} {items : Array Value} {vl vu vs : Value} {Q : Value → Shared → Prop} (ht : IsTup s.heap t items) (hs : s.heap.IsSliceOf sl vl vu vs) (pl : IsPart vl none) (pu : IsPart vu none) (ps : IsPart vs (some (-1)))
    (h : Q (.ref s.heap.objs.size) { s with heap := s.heap.push { cls := .type "tuple", data := .seq items.toList.reverse.toArray } })
    (hsz : items.size ≤ sizeLine) : wpAny (model prog w) A (getItem (.ref t) (.ref sl)) Q E s := by
  have htake : sizeOk (.seq items.toList.reverse.toArray) := by
    show items.toList.reverse.toArray.size ≤ sizeLine
    rw [List.size_toArray, List.length_reverse, Array.length_toList]
    omega
  obtain ⟨os, hos, hcs, hds⟩ := id hs
  have hTs : s.TypeIs (.ref sl) "slice" := ⟨os, hos, hcs⟩
  unfold getItem
  try with_reducible refine wpAny_holding ?_
  first | refine wpAny_bind (wpAny_pure ?_) | skip
  refine wpAny_bind (wpAny_sequenceKey ht.typeIs (by decide) ?_)
  refine wpAny_bind (wpAny_callSpecial?_slot (name := Str.ofString "__getitem__") ht.typeIs PyProof.Rows.slot_tuple_getitem
    (wpAny_call_entry PyProof.Rows.slot_tuple_getitem ht.typeIs entry_tuple_getitem ?_ (args_tuple_getitem _ _)))
  show wpAny _ _ (Builtin.Tuple.tupleItemsOf (.ref t) >>= _) _ _ s
  refine wpAny_bind (tupleItemsOf_ ht ?_)
  refine wpAny_bind (wpAny_typeOf hTs ?_)
  rw [if_pos (by decide)]
  refine wpAny_bind (sliceApplied_rev hs pl pu ps ?_)
  have hno : ¬ (((items.size : Int) - 1 == 0 && (-1 : Int) == 1 && items.size == items.size) = true) := by
    intro q
    rw [Bool.and_eq_true, Bool.and_eq_true] at q
    exact absurd q.1.2 (by decide)
  show wpAny _ _ (if ((items.size : Int) - 1 == 0 && (-1 : Int) == 1 && items.size == items.size) = true then _ else _) _ _ s
  rw [if_neg hno, pick_rev]
  first
    | exact wpAny_bind (m := Builtin.Tuple.tupleExact _) (wpAny_newObj_type (wpAny_pure ⟨_, rfl, wpAny_pure h⟩) htake)
    | exact wpAny_bind (m := Builtin.Tuple.tupleExact _) (wpAny_newObj_type (wpAny_bind (wpAny_pure (wpAny_pure ⟨_, rfl, wpAny_pure h⟩))) htake)
    | exact wpAny_bind (wpAny_bind (m := Builtin.Tuple.tupleExact _) (wpAny_newObj_type (wpAny_pure (wpAny_pure ⟨_, rfl, wpAny_pure h⟩)) htake))
    | exact wpAny_bind (wpAny_bind (m := Builtin.Tuple.tupleExact _) (wpAny_newObj_type (wpAny_pure ⟨_, rfl, wpAny_pure h⟩) htake))
end
def tRevT (K : PySem.W.Frag) (te : TE) : TE := fun σ H Q => te σ H fun x H1 => ∃ a xs, x = .ref a ∧ SqT K H1 a xs ∧ ∀ p, H1 p = none → Q (.ref p) (upd H1 p (.tup xs.reverse))
theorem pe_revTK {X : Cx} {e : Expr} {te : TE} {k : Nat} {p1 p2 p3 pos : Pos} (K : PySem.W.Frag) (he : PE X e te) (hK : X.K = K := by rfl) : PE X (.Subscript e (.Slice none none (some (.UnaryOp .USub (.Constant (.int 1) k p1) p2)) p3) pos) (tRevT K te) := by
  subst hK
  refine ⟨fun pins s σ H Q I h => ?_⟩
  refine Subscript_ (thn (he.run pins s σ H _ I h) fun v s1 ⟨x, H1, I1, r1, q1⟩ => ?_)
  obtain ⟨a, xs, ex, hx, q⟩ := q1
  subst ex
  cases r1
  have hst : PO X (some (.UnaryOp .USub (.Constant (.int 1) k p1) p2)) (tPart (tUn (rU fun i => .int (-i)) (tC (.int 1)))) := po_some (pe_un un_neg pe_int)
  refine wpAny_Slice (thn (po_none.run pins s1 σ H1 (fun o H2 => o = none ∧ H2 = H1) I1 ⟨rfl, rfl⟩) fun vl s2 ⟨l, H2, I2, pl, el, e2⟩ => ?_)
  subst el e2
  refine thn (po_none.run pins s2 σ H2 (fun o H3 => o = none ∧ H3 = H2) I2 ⟨rfl, rfl⟩) fun vu s3 ⟨u, H3, I3, pu, eu, e3⟩ => ?_
  subst eu e3
  refine thn (hst.run pins s3 σ H3 (fun o H4 => o = some (-1) ∧ H4 = H3) I3 ⟨1, rfl, -1, rfl, rfl, rfl⟩) fun vs s4 ⟨o, H4, I4, ps, eo, e4⟩ => ?_
  subst eo e4
  have I5 : Inv X pins σ H4 { s4 with heap := s4.heap.push { cls := .type "slice", data := .fields #[vl, vu, vs] } } := I4.kept (t' := s4.toks) fun b ob q => Heap.get?_push_of_some _ q
  obtain ⟨its, r, ht, hz⟩ := I5.tuple hx
  have hlen := r.length
  show wpAny (model X.prog X.w) X.A (subscriptTail e (.Slice none none (some (.UnaryOp .USub (.Constant (.int 1) k p1) p2)) p3) (.ref a) (.ref s4.heap.objs.size)) (EP X pins σ Q) X.xe { s4 with heap := s4.heap.push { cls := .type "slice", data := .fields #[vl, vu, vs] } }
  refine tail_any (ops := [.ref a, .ref s4.heap.objs.size]) ht.typeIs PyProof.Rows.slot_tuple_getitem.lookup ?_ (by with_unfolding_all rfl)
  refine getItem_tuple_rev ht (Heap.IsSliceOf.new _ vl vu vs) pl pu ps ?_ (by rw [List.size_toArray]; omega)
  refine ⟨.ref _, _, I5.laid (t' := s4.toks) (o := .tup xs.reverse) (fun b ob q => Heap.get?_push_of_some _ q) (Nat.le_refl _) ?_, rfl, q _ (I5.hok.fresh (Nat.le_refl _))⟩
  exact ⟨by rw [List.length_reverse]; exact hz, _, r.reverse, IsTup.new _ _⟩
end Z
set_option maxHeartbeats 3200000
namespace Z
open PySem PySem.Spec PyProof.Rows L2 PySem.Froz
/-! ### sets of texts: len(set(xs)), sorted(set(xs)) -/
/-- the payload holds the texts l, and its table can be walked -/
structure TxR (P : Program) (w : World) (D : SD) (l : List Str) : Prop where
  ok : TxOk P w D l
  nd : l.Nodup
  ris : Ris D.2.2.place.toList
  led : w.params.followText "set-order" = true ∨ D.2.2.led = true
def setNew (w : World) : Obj := { cls := .type "set", dict := none, data := .set #[] 0 (.fresh 0 0 (!w.params.followText "set-order")) }
theorem TxR.zero {P : Program} {w : World} : TxR P w (#[], 0, .fresh 0 0 (!w.params.followText "set-order")) [] := by
  refine ⟨TxOk.nil rfl, List.nodup_nil, List.Pairwise.nil, ?_⟩
  show _ ∨ (!w.params.followText "set-order") = true
  cases w.params.followText "set-order"
  · exact .inr rfl
  · exact .inl rfl
theorem off_place (t : SetTable) : (if t.plain = true then { t with plain := false } else t).place = t.place ∧ (if t.plain = true then { t with plain := false } else t).led = t.led := by
  by_cases c : t.plain = true
  · rw [if_pos c]; exact ⟨rfl, rfl⟩
  · rw [if_neg c]; exact ⟨rfl, rfl⟩
theorem tail_place (ep : Nat) (es : Array (Int × Value)) (t : SetTable) (b : Bool) (r : Ris t.place.toList) : Ris (tailTx ep es t b).2.2.place.toList ∧ (tailTx ep es t b).2.2.led = t.led := by
  unfold tailTx
  split
  · exact ⟨relayAll_ris _ _ _, relayAll_led _ _ _⟩
  · exact ⟨r, rfl⟩
theorem TxR.add {P : Program} {w : World} {D : SD} {l : List Str} {k : Str} (F : TxR P w D l) (u : Tok) (hk : k ∉ l) : TxR P w (addTx (hashStr w k) (.str k u) D) (k :: l) := by
  have r1 := layNew_ris D.2.2 D.1 (hashStr w k) (.str k u) F.ris
  have l1 := layNew_led D.2.2 D.1 (hashStr w k) (.str k u)
  obtain ⟨p1, p2⟩ := off_place (layNew D.2.2 D.1 (hashStr w k) (.str k u)).2.1
  obtain ⟨q1, q2⟩ := tail_place D.2.1 (layNew D.2.2 D.1 (hashStr w k) (.str k u)).1 _ (layNew D.2.2 D.1 (hashStr w k) (.str k u)).2.2.1 (by rw [p1]; exact r1)
  exact ⟨add_ok u F.ok, List.nodup_cons.mpr ⟨hk, F.nd⟩, q1, F.led.imp id fun z => q2.trans (p2.trans (l1.trans z))⟩
section
variable {P : Program} {w : World} {A : Around} {E : Value → Shared → Prop} {s : Shared}
/-- a text that is there already -/
theorem old_x {a : Addr} {T : String} {D : SD} {l : List Str} {k : Str} {u : Tok} {Q : Bool → Shared → Prop} (ho : s.heap.get? a = some (sObj T D)) (F : TxOk P w D l) (hk : k ∈ l) (hb : l.length < scanBound) (h : Q false s) :
    wpAny (model P w) A (setAddHashed a (.str k u) (hashStr w k)) Q E s := by
  obtain ⟨e, he, hi⟩ := (F.mem k).mp hk
  have key : (strKind P w).is k (.str k u) = true := is_str k u
  have small : D.1.size < scanBound := by rw [F.sz]; exact hb
  unfold setAddHashed setAddHashedIn
  refine wpAny_holding (wpAny_bind (wpAny_setState_of (es := D.1) (t := D.2.2) ho rfl F.fit ?_))
  dsimp only
  rw [byScan_of rfl small F.el]
  simp only [↓reduceIte]
  unfold setAddByScan
  refine wpAny_bind (wpAny_bind (wpAny_rule (wpAny_bind (wpAny_setScan_of (knd := strKind P w) (k := k) key ho rfl F.fit F.el ?_))))
  cases hf : List.findIdx? (fun e => (strKind P w).is k e.2) D.1.toList with
  | none => exact absurd hi (by rw [List.findIdx?_eq_none_iff.mp hf e he]; exact Bool.false_ne_true)
  | some j =>
    dsimp only
    exact wpAny_pure (wpAny_pure h)
/-- one turn's add: there or not -/
theorem add_any {a : Addr} {D : SD} {l : List Str} {k : Str} {u : Tok} {Q : Bool → Shared → Prop} (ho : s.heap.get? a = some (sObj "set" D)) (F : TxR P w D l) (hb : l.length + 1 < scanBound)
    (h : ∀ h' D' l' b, TxR P w D' l' → h'.get? a = some (sObj "set" D') → (∀ x o, x ≠ a → s.heap.get? x = some o → h'.get? x = some o) → l'.length ≤ l.length + 1 → (∀ z, z ∈ l' ↔ z ∈ l ∨ z = k) → Q b { s with heap := h' }) :
    wpAny (model P w) A (setAddHashed a (.str k u) (hashStr w k)) Q E s := by
  by_cases hk : k ∈ l
  · refine old_x ho F.ok hk (by omega) (h s.heap D l false F ho (fun _ _ _ e => e) (by omega) fun z => ⟨.inl, fun q => q.elim id fun e => by rw [e]; exact hk⟩)
  · refine add_x ho F.ok hk hb (h _ _ (k :: l) true (F.add u hk) (get_upd _ ho rfl) (fun x o hx e => ?_) (by simp) fun z => ?_)
    · rw [Heap.get?_update_ne _ _ _ _ hx]
      exact e
    · rw [List.mem_cons]
      exact Or.comm
/-- what the loop has done so far -/
def Upto (P : Program) (w : World) (h : Heap) (S : Addr) (xs : List Str) (i : Nat) : Prop := ∃ D l, h.get? S = some (sObj "set" D) ∧ TxR P w D l ∧ l.length ≤ i ∧ ∀ z, z ∈ l ↔ z ∈ xs.take i
theorem loop_x {I S : Addr} {fp wr : List Addr} {G : Array GenState → Array GenState → Prop} {n : Nat} {Pv : Nat → Value → Prop} {St : Nat → Shared → Prop} {R : Result → Shared → Prop} (W : WalksS P w A.in1 I fp wr G n Pv St) (out : S ∉ fp) {xs : List Str} (small : n + 1 < scanBound)
    (val : ∀ i v, Pv i v → ∃ z t, xs[i]? = some z ∧ v = .str z t) (todo : Nat) : ∀ (i : Nat) (s : Shared), i + todo = n → St i s → Upto P w s.heap S xs i → (∀ s', Moved (S :: wr) G s s' → Upto P w s'.heap S xs n → R (.ok (.ret .none)) s') →
      codeAny (model P w) A (.builtin "set.update.loop" ⟨[.ref S, .ref I], []⟩) R s := by
  have nw : S ∉ wr := fun q => out (W.sub _ q)
  induction todo with
  | zero =>
    rintro i s hi st ⟨D, l, hS, r⟩ fin
    have e : i = n := by omega
    subst e
    refine codeAny_builtin F.entry_set_update_loop (by rw [Around.under_plainId F.plain_set_update_loop _]; show wpAny _ A.in1 (pyNext (.ref I) >>= _) _ _ s; refine wpAny_bind (W.done s _ _ st fun s' mv => ?_); show wpAny _ A.in1 (ret Value.none) _ _ s'; exact wpAny_pure (fin s' (mv.mono fun b hb => List.mem_cons_of_mem _ hb) ⟨D, l, mv.heap S _ nw hS, r⟩))
  | succ todo ih =>
    rintro i s hi st ⟨D, l, hS, tx, hl, hm⟩ fin
    refine codeAny_builtin F.entry_set_update_loop ?go
    rw [Around.under_plainId F.plain_set_update_loop _, show Builtin.«set.update.loop» ⟨[.ref S, .ref I], []⟩ = (pyNext (.ref I) >>= _) from rfl]
    refine wpAny_bind (W.item i s _ _ (by omega) st fun v s' pv st' mv => ?_)
    obtain ⟨z, t, hz, rfl⟩ := val i v pv
    have hS' := mv.heap S _ nw hS
    show wpAny _ A.in1 (holding [Value.str z t] (setAdd S (.str z t)) >>= _) _ _ s'
    unfold setAdd
    refine wpAny_bind (wpAny_holding (wpAny_holding (wpAny_bind ((strKind P w).pyHash (k := z) (is_str z t) ?_))))
    refine add_any (s := { s' with toks := s'.toks + 1 }) hS' tx (by omega) fun h' D' l' b F' ho' kp hl' hm' => ?_
    refine wpAny_pure ⟨plainId_quiet F.plain_set_update_loop _, ih (i + 1) _ (by omega) (W.frame _ s' _ _ st' (Nat.le_succ _) fun b hb o e => kp b o (fun q => out (by rw [← q]; exact hb)) e) ⟨D', l', ho', F', by omega, fun y => ?_⟩ fun s'' mv2 up => fin s'' (Moved.trans W.gtrans ((mv.mono fun b hb => List.mem_cons_of_mem _ hb).then_heap (Nat.le_succ _) fun b o hb e => kp b o (fun q => hb (by rw [q]; exact List.mem_cons_self)) e) mv2) up⟩
    rw [hm' y, hm y, List.take_add_one, hz]
    simp [List.mem_append]
/-- set(xs), xs a list of texts: a new set that holds just these -/
theorem call_set_x {a : Addr} {items : Array Value} {xs : List Str} {Q : Value → Shared → Prop} (hh : A.handled = none) (hl : s.heap.IsList a items) (hi : StrsAre items.toList xs) (small : items.size + 1 < scanBound)
    (h : ∀ (h' : Heap) (tk : Nat) D l, h'.get? s.heap.objs.size = some (sObj "set" D) → TxR P w D l → (∀ z, z ∈ l ↔ z ∈ xs) → l.length ≤ xs.length → (∀ b o, s.heap.get? b = some o → h'.get? b = some o) → Q (.ref s.heap.objs.size) { s with heap := h', toks := tk }) :
    wpAny (model P w) A (call (.type "set") [.ref a]) Q E s := by
  have sz : xs.length = items.size := by rw [← StrsAre.len_eq hi, Array.length_toList]
  obtain ⟨_, _, hmro⟩ := F.called_set.mro
  have hmade := F.called_set.made
  have hsub := F.called_set.sub
  refine wpAny_call (codeAny_of_tree ?_)
  show wpAny _ _ (callAny (.type "set") _) _ _ _
  refine wpAny_pure ⟨Code.quiet_builtin _ (by decide +kernel), codeAny_builtin F.entry_type_call ?_⟩
  rw [Around.under_plain (weight_type_call_type "set" [.ref a] []) rfl]
  have h1 := F.called_set.notType
  have h2 := F.called_set.canCreate
  have h3 := F.typeCall_set_1 (.ref a)
  repeat (any_goals (first | assumption | wp_step))
  refine codeAny_mono (code_set_led1 (.ref a) (E := E) (Q₁ := fun v s₁ => v = .ref s.heap.objs.size ∧ s₁ = { s with heap := s.heap.push (setNew w) }) ⟨rfl, rfl⟩) fun r s₁ hr => ?_
  cases r with
  | error e => exact hr
  | ok fl =>
    cases fl with
    | next => exact hr.elim
    | brk => exact hr.elim
    | cont => exact hr.elim
    | ret obj =>
      obtain ⟨rfl, rfl⟩ := hr
      have hS : (s.heap.push (setNew w)).get? s.heap.objs.size = some (setNew w) := Heap.get?_push_size _ rfl
      have hT : Shared.TypeIs { s with heap := s.heap.push (setNew w) } (.ref s.heap.objs.size) "set" := ⟨_, hS, rfl⟩
      have hli := F.called_set.init.lookup
      have hbi := F.called_set.init.bind (.ref s.heap.objs.size)
      repeat (any_goals (first | assumption | wp_step))
      refine codeAny_mono (codeAny_call_builtin (R := wants (fun r s₂ => r = .none ∧ ∃ h' tk, s₂ = { s with heap := h', toks := tk } ∧ Upto P w h' s.heap.objs.size xs items.size ∧ ∀ b o, s.heap.get? b = some o → h'.get? b = some o) E) F.called_set.init.plain F.entry_set_init (check_set_init_1 hT ?_)) fun r₂ s₂ hr₂ => ?_
      · obtain ⟨⟨_, od, _, os⟩, ha, rfl, ep, rfl⟩ := hl
        have less : a < s.heap.objs.size := Heap.lt_size ha
        have ha1 := Heap.get?_push_of_some (setNew w) ha
        have la : (s.heap.push (setNew w)).IsList a items := ⟨_, ha1, rfl, ep, rfl⟩
        have hx1 := F.sub_list_set
        have hx2 := F.sub_list_frozenset
        have hx3 : (Value.type "list" == Value.type "dict") = false := by decide
        have h8 : A.in1.in1.in1.handled = none := by simp [hh]
        have z1 : (s.heap.push (setNew w)).objs.size = s.heap.objs.size + 1 := Heap.size_push ..
        have hneI : a ≠ (s.heap.push (setNew w)).objs.size := by rw [z1]; exact Nat.ne_of_lt (Nat.lt_succ_of_lt less)
        have hSf : s.heap.objs.size ∉ [(s.heap.push (setNew w)).objs.size, a] := by
          rw [z1]
          simp only [List.mem_cons, List.mem_singleton, List.not_mem_nil, or_false, not_or]
          exact ⟨Nat.ne_of_lt (Nat.lt_succ_self _), Nat.ne_of_gt less⟩
        unfold Builtin.«set.__init__» noKeywords Builtin.Frozenset.updateFrom
        generalize ePI : pyIter = PI
        wp_walk
        subst ePI
        refine wpAny_pyIter_list la (wpAny_bind (wpAny_runValue ?_))
        refine loop_x (S := s.heap.objs.size) (xs := xs) ((Walks.list h8 _ a hneI items).toS) hSf small (fun i v hv => ?_) items.size 0 _ (Nat.zero_add _) ⟨⟨_, Heap.get?_push_size _ rfl, rfl, rfl⟩, la.push _⟩ ⟨(#[], 0, .fresh 0 0 (!w.params.followText "set-order")), [], Heap.get?_push_of_some _ hS, TxR.zero, Nat.le_refl _, fun z => by simp⟩ fun s' mv up => ?_
        · have lt : i < xs.length := by rw [sz]; exact (Array.getElem?_eq_some_iff.mp hv).1
          obtain ⟨t, e⟩ := SS.strs_at hi i v (by rw [Array.getElem?_toList]; exact hv)
          exact ⟨xs[i], t, List.getElem?_eq_getElem lt, by rw [e, List.getD_eq_getElem?_getD, List.getElem?_eq_getElem lt]; rfl⟩
        · obtain ⟨h', g2, d', tk', os'⟩ := s'
          obtain ⟨mh, rfl, rfl, rfl, _⟩ := mv
          show wpAny _ _ _ _ _ _
          refine wpAny_pure (show wpAny _ _ (ret Value.none) _ _ _ from wpAny_pure ⟨rfl, h', tk', rfl, up, fun b o e => ?_⟩)
          have lb : b < s.heap.objs.size := Heap.lt_size e
          exact mh b o (by rw [z1]; simp only [List.mem_cons, List.mem_singleton, List.not_mem_nil, or_false, not_or]; exact ⟨Nat.ne_of_lt lb, Nat.ne_of_lt (Nat.lt_succ_of_lt lb)⟩) (Heap.get?_push_of_some _ (Heap.get?_push_of_some _ e))
      · cases r₂ with
        | error e => exact hr₂
        | ok fl₂ =>
          cases fl₂ with
          | next => exact hr₂.elim
          | brk => exact hr₂.elim
          | cont => exact hr₂.elim
          | ret r =>
            obtain ⟨rfl, h', tk, rfl, ⟨D, l, q1, q2, q3, q4⟩, kp⟩ := hr₂
            repeat (any_goals (first | assumption | wp_step))
            rw [List.take_of_length_le (by omega)] at q4
            exact h _ _ D l q1 q2 q4 (by omega) kp
end
end Z
set_option maxHeartbeats 3200000
namespace Z
open PySem PySem.Spec PyProof.Rows L2 PySem.Froz
section
variable {P : Program} {w : World} {A : Around} {E : Value → Shared → Prop} {s : Shared}
/-- set(xs), xs a list of ints -/
theorem call_set_i {a : Addr} {items : Array Value} {ns : List Int} {Q : Value → Shared → Prop} (hh : A.handled = none) (hl : s.heap.IsList a items) (hi : IntsAre items.toList ns) (small : ns.length + 1 < scanBound)
    (h : ∀ (h' : Heap) (tk c : Nat), SetR w h' s.heap.objs.size (fun j => decide (j ∈ ns)) c → c ≤ ns.length → (∀ b o, s.heap.get? b = some o → h'.get? b = some o) → Q (.ref s.heap.objs.size) { s with heap := h', toks := tk }) :
    wpAny (model P w) A (call (.type "set") [.ref a]) Q E s := by
  have sz : items.size = ns.length := by
    have q := IntsAre.length hi
    rw [Array.length_toList] at q
    exact q
  obtain ⟨_, _, hmro⟩ := F.called_set.mro
  have hmade := F.called_set.made
  have hsub := F.called_set.sub
  refine wpAny_call (codeAny_of_tree ?_)
  show wpAny _ _ (callAny (.type "set") _) _ _ _
  refine wpAny_pure ⟨Code.quiet_builtin _ (by decide +kernel), codeAny_builtin F.entry_type_call ?_⟩
  rw [Around.under_plain (weight_type_call_type "set" [.ref a] []) rfl]
  have h1 := F.called_set.notType
  have h2 := F.called_set.canCreate
  have h3 := F.typeCall_set_1 (.ref a)
  repeat (any_goals (first | assumption | wp_step))
  refine codeAny_mono (code_set_led1 (.ref a) (E := E) (Q₁ := fun v s₁ => v = .ref s.heap.objs.size ∧ s₁ = { s with heap := s.heap.push (setNew w) }) ⟨rfl, rfl⟩) fun r s₁ hr => ?_
  cases r with
  | error e => exact hr
  | ok fl =>
    cases fl with
    | next => exact hr.elim
    | brk => exact hr.elim
    | cont => exact hr.elim
    | ret obj =>
      obtain ⟨rfl, rfl⟩ := hr
      have hS : (s.heap.push (setNew w)).get? s.heap.objs.size = some (setNew w) := Heap.get?_push_size _ rfl
      have hT : Shared.TypeIs { s with heap := s.heap.push (setNew w) } (.ref s.heap.objs.size) "set" := ⟨_, hS, rfl⟩
      have hli := F.called_set.init.lookup
      have hbi := F.called_set.init.bind (.ref s.heap.objs.size)
      repeat (any_goals (first | assumption | wp_step))
      refine codeAny_mono (codeAny_call_builtin (R := wants (fun r s₂ => r = .none ∧ ∃ h' tk c, s₂ = { s with heap := h', toks := tk } ∧ SetR w h' s.heap.objs.size (fun j => decide (j ∈ ns)) c ∧ c ≤ ns.length ∧ ∀ b o, s.heap.get? b = some o → h'.get? b = some o) E) F.called_set.init.plain F.entry_set_init (check_set_init_1 hT ?_)) fun r₂ s₂ hr₂ => ?_
      · obtain ⟨⟨_, od, _, os⟩, ha, rfl, ep, rfl⟩ := hl
        have less : a < s.heap.objs.size := Heap.lt_size ha
        have ha1 := Heap.get?_push_of_some (setNew w) ha
        have la : (s.heap.push (setNew w)).IsList a items := ⟨_, ha1, rfl, ep, rfl⟩
        have hx1 := F.sub_list_set
        have hx2 := F.sub_list_frozenset
        have hx3 : (Value.type "list" == Value.type "dict") = false := by decide
        have h8 : A.in1.in1.in1.handled = none := by simp [hh]
        have z1 : (s.heap.push (setNew w)).objs.size = s.heap.objs.size + 1 := Heap.size_push ..
        have hneI : a ≠ (s.heap.push (setNew w)).objs.size := by rw [z1]; exact Nat.ne_of_lt (Nat.lt_succ_of_lt less)
        have hSf : s.heap.objs.size ∉ [(s.heap.push (setNew w)).objs.size, a] := by
          rw [z1]
          simp only [List.mem_cons, List.mem_singleton, List.not_mem_nil, or_false, not_or]
          exact ⟨Nat.ne_of_lt (Nat.lt_succ_self _), Nat.ne_of_gt less⟩
        unfold Builtin.«set.__init__» noKeywords Builtin.Frozenset.updateFrom
        generalize ePI : pyIter = PI
        wp_walk
        subst ePI
        refine wpAny_pyIter_list la (wpAny_bind (wpAny_runValue ?_))
        have hval : ∀ (i : Nat) (v : Value), items[i]? = some v → ∃ k t, ns[i]? = some k ∧ v = .int k t := fun i v hv => by
          have hi2 : i < ns.length := by rw [← sz]; exact (Array.getElem?_eq_some_iff.mp hv).1
          obtain ⟨t, e⟩ := PyProof.Rows.IntsAre.int_at hi i v (by rw [Array.getElem?_toList]; exact hv)
          refine ⟨ns[i], t, List.getElem?_eq_getElem hi2, ?_⟩
          rw [e, List.getD_eq_getElem?_getD, List.getElem?_eq_getElem hi2] <;> rfl
        refine set_update_ints ((Walks.list h8 _ a hneI items).toS) s.heap.objs.size hSf ns sz small hval (items.size - 0) 0 _ (by omega) (Nat.zero_le _) ⟨⟨_, Heap.get?_push_size _ rfl, rfl, rfl⟩, la.push _⟩ ⟨0, Nat.le_refl 0, setR_new_at (Heap.get?_push_of_some _ hS)⟩ fun s' c' mv hc' up => ?_
        obtain ⟨h', g2, d', tk', os'⟩ := s'
        obtain ⟨mh, rfl, rfl, rfl, _⟩ := mv
        show wpAny _ _ _ _ _ _
        refine wpAny_pure (show wpAny _ _ (ret Value.none) _ _ _ from wpAny_pure ⟨rfl, h', tk', c', rfl, up, by omega, fun b o e => ?_⟩)
        have lb : b < s.heap.objs.size := Heap.lt_size e
        exact mh b o (by rw [z1]; simp only [List.mem_cons, List.mem_singleton, List.not_mem_nil, or_false, not_or]; exact ⟨Nat.ne_of_lt lb, Nat.ne_of_lt (Nat.lt_succ_of_lt lb)⟩) (Heap.get?_push_of_some _ (Heap.get?_push_of_some _ e))
      · cases r₂ with
        | error e => exact hr₂
        | ok fl₂ =>
          cases fl₂ with
          | next => exact hr₂.elim
          | brk => exact hr₂.elim
          | cont => exact hr₂.elim
          | ret r =>
            obtain ⟨rfl, h', tk, c, rfl, q1, q2, kp⟩ := hr₂
            repeat (any_goals (first | assumption | wp_step))
            exact h _ _ c q1 q2 kp
end
/-! ### the rules -/
def SetX (P : Program) (w : World) (a : Addr) (l : List Str) : HO := .ext fun h => ∃ D, h.get? a = some (sObj "set" D) ∧ TxR P w D l
theorem setX_new {P : Program} {w : World} {H : Hp} {h : Heap} {a : Addr} {D : SD} {l : List Str} (h1 : h.get? a = some (sObj "set" D)) (h2 : TxR P w D l) : ObjOk P w H h a (SetX P w a l) :=
  ⟨⟨D, h1, h2⟩, ⟨_, h1⟩, fun _ _ ⟨D', p1, p2⟩ k => ⟨D', k _ p1, p2⟩⟩
section
variable {X : Cx}
theorem setX_get {pins : List (Addr × Obj)} {σ : L2.St} {H : Hp} {s : Shared} {a : Addr} {l : List Str} (I : Inv X pins σ H s) (ha : H a = some (SetX X.prog X.w a l)) : ∃ D, s.heap.get? a = some (sObj "set" D) ∧ TxR X.prog X.w D l := (I.hok a _ ha).1
/-- set(xs), xs a list of texts, or one of ints -/
def rSetX (K : Fg) (P : Program) (w : World) : List V → Hp → VK → Prop := fun vs H Q => ∃ (a : Addr), vs = [V.ref a] ∧
  ((∃ xs : List Str, SqL K H a (xs.map V.str) ∧ xs.length < 4000 ∧ ∀ p l, H p = none → l.Nodup → (∀ z, z ∈ l ↔ z ∈ xs) → l.length ≤ xs.length → Q (.ref p) (upd H p (SetX P w p l))) ∨
   (∃ ns : List Int, SqL K H a (ns.map V.int) ∧ ns.length < 4000 ∧ ∀ p c, H p = none → c ≤ ns.length → Q (.ref p) (upd H p (SetO w p (fun j => decide (j ∈ ns)) c))))
theorem cr_setX (hc : X.calm = true) : CallR X (.type "set") (rSetX X.K X.prog X.w) := by
  intro pins s σ H vs us Q I r h
  obtain ⟨a, rfl, h⟩ := h
  rw [Vals.ref1 r]
  have hn : H s.heap.objs.size = none := I.hok.fresh (Nat.le_refl _)
  rcases h with ⟨xs, hq, hz, q⟩ | ⟨ns, hq, hz, q⟩
  · obtain ⟨its, rv, pl, _⟩ := I.list hq
    have hl : its.length = xs.length := by rw [← rv.length, List.length_map]
    refine call_set_x (I.ok.hd hc) pl.isList (by simpa using strsAre_of rv) (by rw [List.size_toArray, hl]; unfold scanBound; omega) fun h' tk D l q1 q2 q3 q4 k => ?_
    exact ⟨.ref _, upd H s.heap.objs.size (SetX X.prog X.w s.heap.objs.size l), I.laid (t' := tk) k (Nat.le_refl _) (setX_new q1 q2), rfl, q _ l hn q2.nd q3 q4⟩
  · obtain ⟨its, rv, pl, _⟩ := I.list hq
    refine call_set_i (I.ok.hd hc) pl.isList (by simpa using ints_of_vals rv) (by unfold scanBound; omega) fun h' tk c q1 q2 k => ?_
    exact ⟨.ref _, upd H s.heap.objs.size (SetO X.w s.heap.objs.size (fun j => decide (j ∈ ns)) c), I.laid (t' := tk) k (Nat.le_refl _) (setO_new q1), rfl, q _ c hn q2⟩
/-- len(xs), xs a set -/
def rLenX (P : Program) (w : World) : List V → Hp → VK → Prop := fun vs H Q => ∃ (a : Addr), vs = [V.ref a] ∧ ((∃ l : List Str, H a = some (SetX P w a l) ∧ l.length < 4000 ∧ Q (.int l.length) H) ∨ ∃ S n, H a = some (SetO w a S n) ∧ Q (.int (n : Nat)) H)
theorem cr_lenX : CallR X (.builtin "len") (rLenX X.prog X.w) := by
  intro pins s σ H vs us Q I r h
  obtain ⟨a, rfl, h⟩ := h
  rw [Vals.ref1 r]
  rcases h with ⟨l, ha, hz, q⟩ | ⟨S, n, ha, q⟩
  · obtain ⟨D, ho, F⟩ := setX_get I ha
    refine call_len_set ho ⟨rfl, rfl, rfl⟩ rfl F.ok.fit (by rw [F.ok.sz]; omega) ⟨.int l.length, H, I.tok _, ⟨_, by rw [F.ok.sz]⟩, q⟩
  · obtain ⟨o, es, ep, t, ho, hex, hd, _, _, _, hb, hf, hn, _⟩ := setO_get I ha
    refine call_len_set ho hex hd hf (by unfold scanBound at hb; omega) ⟨.int n, H, I.tok _, ⟨_, by rw [hn]⟩, q⟩
/-- sorted(xs), xs a set of few members -/
def rSortedX (P : Program) (w : World) : List V → Hp → VK → Prop := fun vs H Q => ∃ (a : Addr), vs = [V.ref a] ∧
  ((∃ l : List Str, H a = some (SetX P w a l) ∧ l.length < 64 ∧ ∀ (zs : List Str) (p : Addr), zs.Perm l → H p = none → Q (.ref p) (upd H p (.lst (zs.map V.str)))) ∨
   (∃ (S : Int → Bool) (n : Nat), H a = some (SetO w a S n) ∧ n < 64 ∧ ∀ (ns : List Int) (p : Addr), ns.Pairwise (· < ·) → (∀ k : Int, k ∈ ns ↔ S k = true) → ns.length = n → H p = none → Q (.ref p) (upd H p (.lst (ns.map V.int)))))
theorem each_vals : ∀ {us : List Value} {zs : List Str}, PySem.W.EachIs (fun v z => ∃ u, v = Value.str z u) us zs → Vals (zs.map V.str) us
  | _, _, .nil => .nil
  | _, _, .cons ⟨u, e⟩ t => .cons ⟨u, e⟩ (each_vals t)
def strOf : Value → Str
  | .str z _ => z
  | _ => Str.empty
end
theorem perm_all : ∀ {l m : List Str}, l.Nodup → (∀ x ∈ l, x ∈ m) → m.length ≤ l.length → m.Perm l
  | [], m, _, _, h => by
    rw [List.eq_nil_of_length_eq_zero (Nat.le_zero.mp h)]
  | x :: l, m, hn, hs, h => by
    obtain ⟨h1, h2⟩ := List.nodup_cons.mp hn
    have hx := hs x (by simp)
    have hp := List.perm_cons_erase hx
    have hl := hp.length_eq
    rw [List.length_cons] at hl h
    refine hp.trans (List.Perm.cons x (perm_all h2 (fun y hy => ?_) (by omega)))
    have hyx : y ≠ x := fun e => h1 (e ▸ hy)
    rcases List.mem_cons.mp (hp.mem_iff.mp (hs y (by simp [hy]))) with q | q
    · exact absurd q hyx
    · exact q
theorem each_str0 {h : Heap} {b : Addr} : ∀ {vs : List Value}, (∀ v ∈ vs, ∃ z u, v = Value.str z u) → PySem.W.EachIs (fun v z => ∃ u, v = Value.str z u) vs (vs.map strOf) ∧ PySem.W.EachIs (fun v z => ∃ as, Reads h v (PyData.str z) as ∧ b ∉ as) vs (vs.map strOf)
  | [], _ => ⟨.nil, .nil⟩
  | v :: vs, hv => by
    obtain ⟨z, u, rfl⟩ := hv _ List.mem_cons_self
    obtain ⟨h1, h2⟩ := each_str0 (h := h) (b := b) (vs := vs) fun v q => hv v (List.mem_cons_of_mem _ q)
    exact ⟨.cons ⟨u, rfl⟩ h1, .cons ⟨_, .str z u, by simp⟩ h2⟩
section
variable {P : Program} {w : World} {A : Around} {E : Value → Shared → Prop} {s : Shared}
theorem sorted_set_x {a : Addr} {D : SD} {l : List Str} {Q : Value → Shared → Prop} (ho : s.heap.get? a = some (sObj "set" D)) (F : TxR P w D l) (hh : A.handled = none) (h64 : l.length < 64) (hu : A.units + 64 < cLine)
    (hQ : ∀ s' p (out : List Value) (c : Nat) (zs : List Str), (∀ b o, s.heap.get? b = some o → s'.heap.get? b = some o) → s'.gens = s.gens → s'.os = s.os → s.heap.objs.size ≤ p →
      s'.heap.get? p = some (seqObj "list" out.toArray c) → PySem.W.EachIs (fun v z => ∃ u, v = Value.str z u) out zs → zs.Perm l → Q (.ref p) s') :
    wpAny (model P w) A (call (.builtin "sorted") [.ref a]) Q E s := by
  obtain ⟨es, ep, t⟩ := D
  have hsz : es.size = l.length := F.ok.sz
  refine Calls.call_function_entry kind_sorted plain_sorted entry_sorted (args_sorted1 _) ?_
  unfold Builtin.«sorted»
  refine wpAny_bind (m := checkCount "sorted" 1 1 _) (wpAny_pure ?_)
  refine wpAny_bind (collect_set (A := A.in1) hh ⟨_, ho, rfl, rfl⟩ F.ok.fit (by show es.size < scanBound; unfold scanBound; omega) F.ris F.led fun s1 vs k1 hz g1 o1 pm => ?_)
  have pm : vs.Perm (es.toList.map (·.2)) := pm
  have hvl : vs.length = l.length := by rw [pm.length_eq, List.length_map, Array.length_toList]; exact hsz
  have hstr : ∀ v ∈ vs, ∃ z u, v = Value.str z u := fun v hv => by
    obtain ⟨e, he, q⟩ := List.mem_map.mp (pm.mem_iff.mp hv)
    obtain ⟨⟨z, h1, _⟩, _⟩ := F.ok.el e he
    obtain ⟨u, h2⟩ := Value.isStrOf_shape h1
    exact ⟨z, u, q.symm.trans h2⟩
  have pz : (vs.map strOf).Perm l := by
    refine perm_all F.nd (fun z hz => ?_) (by rw [List.length_map, hvl]; exact Nat.le_refl _)
    obtain ⟨e, he, h1⟩ := (F.ok.mem z).mp hz
    obtain ⟨u, h2⟩ := Value.isStrOf_shape h1
    exact List.mem_map.mpr ⟨e.2, pm.mem_iff.mpr (List.mem_map.mpr ⟨e, he, rfl⟩), by rw [h2]; rfl⟩
  refine wpAny_bind (wpAny_newList ?_ (by rw [hvl, sizeLine_eq]; omega))
  have hoL : (s1.heap.push (seqObj "list" vs.toArray 0)).get? s1.heap.objs.size = some (seqObj "list" vs.toArray 0) := Heap.get?_push_size _ rfl
  obtain ⟨e1, e2⟩ := each_str0 (h := s1.heap.push (seqObj "list" vs.toArray 0)) (b := s1.heap.objs.size) hstr
  refine wpAny_bind (wpAny_holding (PySem.W.list_sort_data (s := { s1 with heap := s1.heap.push (seqObj "list" vs.toArray 0) }) (enc := PyData.str) hoL e1 e2 (PySem.W.AllAlike.of (fun _ _ => rfl)) (PySem.W.Sortable.others (fun b => ⟨by simp, by simp⟩)) (by rw [List.length_map, hvl, sizeLine_eq]; omega) (fun b _ => ?_) fun out hl he => ?_))
  · show A.units + 1 + 1 + 0 < cLine
    omega
  · obtain ⟨c, hc⟩ := sortedHeap_at (vs := vs) (out := out.toArray) hoL
    refine wpAny_pure ⟨_, rfl, hQ { s1 with heap := sortedHeap (s1.heap.push (seqObj "list" vs.toArray 0)) s1.heap.objs.size vs out.toArray } s1.heap.objs.size out c _ (fun b u e => ?_) g1 o1 hz hc he ((List.mergeSort_perm _ _).trans pz)⟩
    have q := k1 b u e
    have hlt := Heap.lt_size q
    show (sortedHeap (s1.heap.push (seqObj "list" vs.toArray 0)) s1.heap.objs.size vs out.toArray).get? b = some u
    rw [sortedHeap_old (Nat.ne_of_lt hlt) (by rw [size_push']; exact Nat.lt_succ_of_lt hlt)]
    exact Heap.get?_push_of_some _ q
end
section
variable {X : Cx}
theorem cr_sortedX (hc : X.calm = true) (hu : X.A.units + 64 < cLine) : CallR X (.builtin "sorted") (rSortedX X.prog X.w) := by
  intro pins s σ H vs us Q I r h
  obtain ⟨a, rfl, h⟩ := h
  rcases h with ⟨l, ha, h64, q⟩ | ⟨S, n, ha, h64, q⟩
  · obtain ⟨D, ho, F⟩ := setX_get I ha
    rw [Vals.ref1 r]
    refine sorted_set_x ho F (I.ok.hd hc) h64 hu fun s' p out c zs k g o hp hg hv pm => ?_
    have hn : H p = none := I.hok.fresh hp
    have hlen : (zs.map V.str).length ≤ sizeLine := by rw [List.length_map, pm.length_eq, sizeLine_eq]; omega
    have J : Inv X pins σ (upd H p (.lst (zs.map V.str))) { s with heap := s'.heap, gens := s'.gens, drawn := s'.drawn, toks := s'.toks } :=
      I.call (ch := []) (Un.laid k hp hn) (I.hok.laid k hp ⟨hlen, out, c, each_vals hv, hg⟩) (by rw [g]; exact I.bare) (fun _ z => nomatch z)
    have e : s' = { s with heap := s'.heap, gens := s'.gens, drawn := s'.drawn, toks := s'.toks } := by
      cases s'
      cases s
      cases o
      rfl
    rw [e]
    exact ⟨.ref p, _, J, rfl, q zs p pm hn⟩
  · exact cr_sortedSet hc pins s σ H _ us Q I r ⟨a, S, n, rfl, ha, h64, fun ns p h1 h2 h3 h4 => q ns p h1 h2 h3 h4⟩
end
section
variable {X : Cx} (K : Fg)
theorem cr_setXK (hc : X.calm = true) (hK : X.K = K := by rfl) : CallR X (.type "set") (rSetX K X.prog X.w) := by subst hK; exact cr_setX hc
end
end Z
set_option maxHeartbeats 1000000
namespace T
open PySem PySem.Spec PyProof.Rows L2 Z
open He (ga ma)
def top (i : Nat) : Stmt := PySem.Challenge.pw_callbells_k16_whole_the_greatest_rank_go.main.body.getD i (.Pass ⟨0, 0, 0, 0⟩)
abbrev s_is_integer : Stmt := top 23
def d_is_integer : DefZ := ⟨fun K => ga K "is_integer", "is_integer", "is_integer", s_is_integer, []⟩
abbrev n_is_integer : List Str := ["value", "low", "high"]
theorem sc_is_integer : FnScope n_is_integer ["value", "low", "high"] (defScope s_is_integer) := ⟨rfl, rfl, rfl, by decide +kernel, rfl, by decide +kernel, by decide +kernel⟩
abbrev s_is_word : Stmt := top 25
def d_is_word : DefZ := ⟨fun K => ga K "is_word", "is_word", "is_word", s_is_word, []⟩
abbrev n_is_word : List Str := ["value", "letter"]
theorem sc_is_word : FnScope n_is_word ["value"] (defScope s_is_word) := ⟨rfl, rfl, rfl, by decide +kernel, rfl, by decide +kernel, by decide +kernel⟩
abbrev s_is_name : Stmt := top 26
def d_is_name : DefZ := ⟨fun K => ga K "is_name", "is_name", "is_name", s_is_name, []⟩
abbrev n_is_name : List Str := ["value"]
theorem sc_is_name : FnScope n_is_name ["value"] (defScope s_is_name) := ⟨rfl, rfl, rfl, by decide +kernel, rfl, by decide +kernel, by decide +kernel⟩
abbrev s_is_line : Stmt := top 27
def d_is_line : DefZ := ⟨fun K => ga K "is_line", "is_line", "is_line", s_is_line, []⟩
abbrev n_is_line : List Str := ["line"]
theorem sc_is_line : FnScope n_is_line ["line"] (defScope s_is_line) := ⟨rfl, rfl, rfl, by decide +kernel, rfl, by decide +kernel, by decide +kernel⟩
abbrev s_is_work : Stmt := top 28
def d_is_work : DefZ := ⟨fun K => ga K "is_work", "is_work", "is_work", s_is_work, []⟩
abbrev n_is_work : List Str := ["work"]
theorem sc_is_work : FnScope n_is_work ["work"] (defScope s_is_work) := ⟨rfl, rfl, rfl, by decide +kernel, rfl, by decide +kernel, by decide +kernel⟩
abbrev s_is_step : Stmt := top 29
def d_is_step : DefZ := ⟨fun K => ga K "is_step", "is_step", "is_step", s_is_step, []⟩
abbrev n_is_step : List Str := ["step", "kinds", "works", "word", "value"]
theorem sc_is_step : FnScope n_is_step ["step", "kinds", "works"] (defScope s_is_step) := ⟨rfl, rfl, rfl, by decide +kernel, rfl, by decide +kernel, by decide +kernel⟩
abbrev s_check_lines : Stmt := top 30
def d_check_lines : DefZ := ⟨fun K => ga K "check_lines", "check_lines", "check_lines", s_check_lines, []⟩
abbrev n_check_lines : List Str := ["lines", "most", "names", "index", "line"]
theorem sc_check_lines : FnScope n_check_lines ["lines", "most"] (defScope s_check_lines) := ⟨rfl, rfl, rfl, by decide +kernel, rfl, by decide +kernel, by decide +kernel⟩
abbrev s_check_works : Stmt := top 31
def d_check_works : DefZ := ⟨fun K => ga K "check_works", "check_works", "check_works", s_check_works, []⟩
abbrev n_check_works : List Str := ["works", "most", "names", "index", "work"]
theorem sc_check_works : FnScope n_check_works ["works", "most"] (defScope s_check_works) := ⟨rfl, rfl, rfl, by decide +kernel, rfl, by decide +kernel, by decide +kernel⟩
abbrev s_Setup_init : Stmt := inClass (top 32) 3
def d_Setup_init : DefZ := ⟨fun K => ma K (ga K "Setup") "__init__", "__init__", "Setup.__init__", s_Setup_init, [.adr (dfA (fun K => ma K (ga K "Setup") "__init__") 0)]⟩
abbrev n_Setup_init : List Str := ["self", "lines", "works", "kinds", "names", "index", "line", "work", "step"]
theorem sc_Setup_init : FnScope n_Setup_init ["self", "lines", "works"] (defScope s_Setup_init) := ⟨rfl, rfl, rfl, by decide +kernel, rfl, by decide +kernel, by decide +kernel⟩
abbrev s_Setup_order : Stmt := inClass (top 32) 7
def d_Setup_order : DefZ := ⟨fun K => pga K (ga K "Setup") "order", "order", "Setup.order", s_Setup_order, []⟩
abbrev n_Setup_order : List Str := ["self", "rows", "line", "rank", "name"]
theorem sc_Setup_order : FnScope n_Setup_order ["self"] (defScope s_Setup_order) := ⟨rfl, rfl, rfl, by decide +kernel, rfl, by decide +kernel, by decide +kernel⟩
abbrev s_Setup_contains : Stmt := inClass (top 32) 12
def d_Setup_contains : DefZ := ⟨fun K => ma K (ga K "Setup") "__contains__", "__contains__", "Setup.__contains__", s_Setup_contains, []⟩
abbrev n_Setup_contains : List Str := ["self", "name"]
theorem sc_Setup_contains : FnScope n_Setup_contains ["self", "name"] (defScope s_Setup_contains) := ⟨rfl, rfl, rfl, by decide +kernel, rfl, by decide +kernel, by decide +kernel⟩
abbrev s_Setup_getitem : Stmt := inClass (top 32) 13
def d_Setup_getitem : DefZ := ⟨fun K => ma K (ga K "Setup") "__getitem__", "__getitem__", "Setup.__getitem__", s_Setup_getitem, []⟩
abbrev n_Setup_getitem : List Str := ["self", "name"]
theorem sc_Setup_getitem : FnScope n_Setup_getitem ["self", "name"] (defScope s_Setup_getitem) := ⟨rfl, rfl, rfl, by decide +kernel, rfl, by decide +kernel, by decide +kernel⟩
abbrev s_Setup_check_line : Stmt := inClass (top 32) 16
def d_Setup_check_line : DefZ := ⟨fun K => ma K (ga K "Setup") "check_line", "check_line", "Setup.check_line", s_Setup_check_line, []⟩
abbrev n_Setup_check_line : List Str := ["self", "name"]
theorem sc_Setup_check_line : FnScope n_Setup_check_line ["self", "name"] (defScope s_Setup_check_line) := ⟨rfl, rfl, rfl, by decide +kernel, rfl, by decide +kernel, by decide +kernel⟩
abbrev s_Board_init : Stmt := inClass (top 40) 0
def d_Board_init : DefZ := ⟨fun K => ma K (ga K "Board") "__init__", "__init__", "Board.__init__", s_Board_init, []⟩
abbrev n_Board_init : List Str := ["self", "plan", "name"]
theorem sc_Board_init : FnScope n_Board_init ["self", "plan"] (defScope s_Board_init) := ⟨rfl, rfl, rfl, by decide +kernel, rfl, by decide +kernel, by decide +kernel⟩
abbrev s_Board_ring : Stmt := inClass (top 40) 1
def d_Board_ring : DefZ := ⟨fun K => ma K (ga K "Board") "ring", "ring", "Board.ring", s_Board_ring, []⟩
abbrev n_Board_ring : List Str := ["self", "line", "rung"]
theorem sc_Board_ring : FnScope n_Board_ring ["self", "line"] (defScope s_Board_ring) := ⟨rfl, rfl, rfl, by decide +kernel, rfl, by decide +kernel, by decide +kernel⟩
abbrev s_Board_put : Stmt := inClass (top 40) 2
def d_Board_put : DefZ := ⟨fun K => ma K (ga K "Board") "put", "put", "Board.put", s_Board_put, []⟩
abbrev n_Board_put : List Str := ["self", "things", "thing", "is_in"]
theorem sc_Board_put : FnScope n_Board_put ["self", "things", "thing", "is_in"] (defScope s_Board_put) := ⟨rfl, rfl, rfl, by decide +kernel, rfl, by decide +kernel, by decide +kernel⟩
abbrev s_Board_is_up : Stmt := inClass (top 40) 3
def d_Board_is_up : DefZ := ⟨fun K => ma K (ga K "Board") "is_up", "is_up", "Board.is_up", s_Board_is_up, []⟩
abbrev n_Board_is_up : List Str := ["self", "flag"]
theorem sc_Board_is_up : FnScope n_Board_is_up ["self", "flag"] (defScope s_Board_is_up) := ⟨rfl, rfl, rfl, by decide +kernel, rfl, by decide +kernel, by decide +kernel⟩
abbrev s_Board_is_waiting : Stmt := inClass (top 40) 4
def d_Board_is_waiting : DefZ := ⟨fun K => ma K (ga K "Board") "is_waiting", "is_waiting", "Board.is_waiting", s_Board_is_waiting, []⟩
abbrev n_Board_is_waiting : List Str := ["self", "line"]
theorem sc_Board_is_waiting : FnScope n_Board_is_waiting ["self", "line"] (defScope s_Board_is_waiting) := ⟨rfl, rfl, rfl, by decide +kernel, rfl, by decide +kernel, by decide +kernel⟩
abbrev s_Board_can_begin : Stmt := inClass (top 40) 5
def d_Board_can_begin : DefZ := ⟨fun K => ma K (ga K "Board") "can_begin", "can_begin", "Board.can_begin", s_Board_can_begin, []⟩
abbrev n_Board_can_begin : List Str := ["self", "line"]
theorem sc_Board_can_begin : FnScope n_Board_can_begin ["self", "line"] (defScope s_Board_can_begin) := ⟨rfl, rfl, rfl, by decide +kernel, rfl, by decide +kernel, by decide +kernel⟩
abbrev s_Board_begun : Stmt := inClass (top 40) 6
def d_Board_begun : DefZ := ⟨fun K => ma K (ga K "Board") "begun", "begun", "Board.begun", s_Board_begun, []⟩
abbrev n_Board_begun : List Str := ["self", "line"]
theorem sc_Board_begun : FnScope n_Board_begun ["self", "line"] (defScope s_Board_begun) := ⟨rfl, rfl, rfl, by decide +kernel, rfl, by decide +kernel, by decide +kernel⟩
abbrev s_Board_ended : Stmt := inClass (top 40) 7
def d_Board_ended : DefZ := ⟨fun K => ma K (ga K "Board") "ended", "ended", "Board.ended", s_Board_ended, []⟩
abbrev n_Board_ended : List Str := ["self", "line"]
theorem sc_Board_ended : FnScope n_Board_ended ["self", "line"] (defScope s_Board_ended) := ⟨rfl, rfl, rfl, by decide +kernel, rfl, by decide +kernel, by decide +kernel⟩
abbrev s_Board_carry : Stmt := inClass (top 40) 8
def d_Board_carry : DefZ := ⟨fun K => ma K (ga K "Board") "carry", "carry", "Board.carry", s_Board_carry, []⟩
abbrev n_Board_carry : List Str := ["self", "step", "word", "value", "things"]
theorem sc_Board_carry : FnScope n_Board_carry ["self", "step"] (defScope s_Board_carry) := ⟨rfl, rfl, rfl, by decide +kernel, rfl, by decide +kernel, by decide +kernel⟩
abbrev s_Core_init : Stmt := inClass (top 41) 0
def d_Core_init : DefZ := ⟨fun K => ma K (ga K "Core") "__init__", "__init__", "Core.__init__", s_Core_init, []⟩
abbrev n_Core_init : List Str := ["self", "plan"]
theorem sc_Core_init : FnScope n_Core_init ["self", "plan"] (defScope s_Core_init) := ⟨rfl, rfl, rfl, by decide +kernel, rfl, by decide +kernel, by decide +kernel⟩
abbrev s_Core_innermost_rank : Stmt := inClass (top 41) 1
def d_Core_innermost_rank : DefZ := ⟨fun K => ma K (ga K "Core") "innermost_rank", "innermost_rank", "Core.innermost_rank", s_Core_innermost_rank, []⟩
abbrev n_Core_innermost_rank : List Str := ["self"]
theorem sc_Core_innermost_rank : FnScope n_Core_innermost_rank ["self"] (defScope s_Core_innermost_rank) := ⟨rfl, rfl, rfl, by decide +kernel, rfl, by decide +kernel, by decide +kernel⟩
abbrev s_Core_may_take : Stmt := inClass (top 41) 2
def d_Core_may_take : DefZ := ⟨fun K => ma K (ga K "Core") "may_take", "may_take", "Core.may_take", s_Core_may_take, []⟩
abbrev n_Core_may_take : List Str := ["self", "line"]
theorem sc_Core_may_take : FnScope n_Core_may_take ["self", "line"] (defScope s_Core_may_take) := ⟨rfl, rfl, rfl, by decide +kernel, rfl, by decide +kernel, by decide +kernel⟩
abbrev s_Core_step_now : Stmt := inClass (top 41) 3
def d_Core_step_now : DefZ := ⟨fun K => ma K (ga K "Core") "step_now", "step_now", "Core.step_now", s_Core_step_now, []⟩
abbrev n_Core_step_now : List Str := ["self", "line", "step", "ticks", "kept"]
theorem sc_Core_step_now : FnScope n_Core_step_now ["self"] (defScope s_Core_step_now) := ⟨rfl, rfl, rfl, by decide +kernel, rfl, by decide +kernel, by decide +kernel⟩
abbrev s_Core_begin : Stmt := inClass (top 41) 4
def d_Core_begin : DefZ := ⟨fun K => ma K (ga K "Core") "begin", "begin", "Core.begin", s_Core_begin, []⟩
abbrev n_Core_begin : List Str := ["self", "line", "board"]
theorem sc_Core_begin : FnScope n_Core_begin ["self", "line", "board"] (defScope s_Core_begin) := ⟨rfl, rfl, rfl, by decide +kernel, rfl, by decide +kernel, by decide +kernel⟩
abbrev s_Core_pass_steps : Stmt := inClass (top 41) 5
def d_Core_pass_steps : DefZ := ⟨fun K => ma K (ga K "Core") "pass_steps", "pass_steps", "Core.pass_steps", s_Core_pass_steps, []⟩
abbrev n_Core_pass_steps : List Str := ["self", "board", "frame", "word", "value"]
theorem sc_Core_pass_steps : FnScope n_Core_pass_steps ["self", "board"] (defScope s_Core_pass_steps) := ⟨rfl, rfl, rfl, by decide +kernel, rfl, by decide +kernel, by decide +kernel⟩
abbrev s_Core_pass_step : Stmt := inClass (top 41) 6
def d_Core_pass_step : DefZ := ⟨fun K => ma K (ga K "Core") "pass_step", "pass_step", "Core.pass_step", s_Core_pass_step, []⟩
abbrev n_Core_pass_step : List Str := ["self", "word", "value", "board"]
theorem sc_Core_pass_step : FnScope n_Core_pass_step ["self", "word", "value", "board"] (defScope s_Core_pass_step) := ⟨rfl, rfl, rfl, by decide +kernel, rfl, by decide +kernel, by decide +kernel⟩
abbrev s_Core_leave_work : Stmt := inClass (top 41) 7
def d_Core_leave_work : DefZ := ⟨fun K => ma K (ga K "Core") "leave_work", "leave_work", "Core.leave_work", s_Core_leave_work, []⟩
abbrev n_Core_leave_work : List Str := ["self", "work"]
theorem sc_Core_leave_work : FnScope n_Core_leave_work ["self", "work"] (defScope s_Core_leave_work) := ⟨rfl, rfl, rfl, by decide +kernel, rfl, by decide +kernel, by decide +kernel⟩
abbrev s_Core_job_places : Stmt := inClass (top 41) 8
def d_Core_job_places : DefZ := ⟨fun K => ma K (ga K "Core") "job_places", "job_places", "Core.job_places", s_Core_job_places, []⟩
abbrev n_Core_job_places : List Str := ["self", "rows", "place", "job", "rank"]
theorem sc_Core_job_places : FnScope n_Core_job_places ["self"] (defScope s_Core_job_places) := ⟨rfl, rfl, rfl, by decide +kernel, rfl, by decide +kernel, by decide +kernel⟩
abbrev s_Core_tick : Stmt := inClass (top 41) 9
def d_Core_tick : DefZ := ⟨fun K => ma K (ga K "Core") "tick", "tick", "Core.tick", s_Core_tick, []⟩
abbrev n_Core_tick : List Str := ["self", "board", "events"]
theorem sc_Core_tick : FnScope n_Core_tick ["self", "board"] (defScope s_Core_tick) := ⟨rfl, rfl, rfl, by decide +kernel, rfl, by decide +kernel, by decide +kernel⟩
abbrev s_Core_is_passing : Stmt := inClass (top 41) 10
def d_Core_is_passing : DefZ := ⟨fun K => ma K (ga K "Core") "is_passing", "is_passing", "Core.is_passing", s_Core_is_passing, []⟩
abbrev n_Core_is_passing : List Str := ["self", "board", "word", "value"]
theorem sc_Core_is_passing : FnScope n_Core_is_passing ["self", "board"] (defScope s_Core_is_passing) := ⟨rfl, rfl, rfl, by decide +kernel, rfl, by decide +kernel, by decide +kernel⟩
abbrev s_Core_spend : Stmt := inClass (top 41) 11
def d_Core_spend : DefZ := ⟨fun K => ma K (ga K "Core") "spend", "spend", "Core.spend", s_Core_spend, []⟩
abbrev n_Core_spend : List Str := ["self", "board", "frame"]
theorem sc_Core_spend : FnScope n_Core_spend ["self", "board"] (defScope s_Core_spend) := ⟨rfl, rfl, rfl, by decide +kernel, rfl, by decide +kernel, by decide +kernel⟩
abbrev s_Core_do_work : Stmt := inClass (top 41) 12
def d_Core_do_work : DefZ := ⟨fun K => ma K (ga K "Core") "do_work", "do_work", "Core.do_work", s_Core_do_work, []⟩
abbrev n_Core_do_work : List Str := ["self", "place", "work", "ticks"]
theorem sc_Core_do_work : FnScope n_Core_do_work ["self"] (defScope s_Core_do_work) := ⟨rfl, rfl, rfl, by decide +kernel, rfl, by decide +kernel, by decide +kernel⟩
abbrev s_Single_init : Stmt := inClass (top 44) 0
def d_Single_init : DefZ := ⟨fun K => ma K (ga K "Single") "__init__", "__init__", "Single.__init__", s_Single_init, []⟩
abbrev n_Single_init : List Str := ["self", "setup"]
theorem sc_Single_init : FnScope n_Single_init ["self", "setup"] (defScope s_Single_init) := ⟨rfl, rfl, rfl, by decide +kernel, rfl, by decide +kernel, by decide +kernel⟩
abbrev s_Single_now : Stmt := inClass (top 44) 1
def d_Single_now : DefZ := ⟨fun K => pga K (ga K "Single") "now", "now", "Single.now", s_Single_now, []⟩
abbrev n_Single_now : List Str := ["self"]
theorem sc_Single_now : FnScope n_Single_now ["self"] (defScope s_Single_now) := ⟨rfl, rfl, rfl, by decide +kernel, rfl, by decide +kernel, by decide +kernel⟩
abbrev s_Single_waiting : Stmt := inClass (top 44) 2
def d_Single_waiting : DefZ := ⟨fun K => pga K (ga K "Single") "waiting", "waiting", "Single.waiting", s_Single_waiting, []⟩
abbrev n_Single_waiting : List Str := ["self", "line"]
theorem sc_Single_waiting : FnScope n_Single_waiting ["self"] (defScope s_Single_waiting) := ⟨rfl, rfl, rfl, by decide +kernel, rfl, by decide +kernel, by decide +kernel⟩
abbrev s_Single_calls : Stmt := inClass (top 44) 3
def d_Single_calls : DefZ := ⟨fun K => pga K (ga K "Single") "calls", "calls", "Single.calls", s_Single_calls, []⟩
abbrev n_Single_calls : List Str := ["self", "line", "step", "ticks", "kept"]
theorem sc_Single_calls : FnScope n_Single_calls ["self"] (defScope s_Single_calls) := ⟨rfl, rfl, rfl, by decide +kernel, rfl, by decide +kernel, by decide +kernel⟩
abbrev s_Single_queue : Stmt := inClass (top 44) 4
def d_Single_queue : DefZ := ⟨fun K => pga K (ga K "Single") "queue", "queue", "Single.queue", s_Single_queue, []⟩
abbrev n_Single_queue : List Str := ["self", "place"]
theorem sc_Single_queue : FnScope n_Single_queue ["self"] (defScope s_Single_queue) := ⟨rfl, rfl, rfl, by decide +kernel, rfl, by decide +kernel, by decide +kernel⟩
abbrev s_Single_flags_up : Stmt := inClass (top 44) 5
def d_Single_flags_up : DefZ := ⟨fun K => pga K (ga K "Single") "flags_up", "flags_up", "Single.flags_up", s_Single_flags_up, []⟩
abbrev n_Single_flags_up : List Str := ["self"]
theorem sc_Single_flags_up : FnScope n_Single_flags_up ["self"] (defScope s_Single_flags_up) := ⟨rfl, rfl, rfl, by decide +kernel, rfl, by decide +kernel, by decide +kernel⟩
abbrev s_Single_bar : Stmt := inClass (top 44) 6
def d_Single_bar : DefZ := ⟨fun K => pga K (ga K "Single") "bar", "bar", "Single.bar", s_Single_bar, []⟩
abbrev n_Single_bar : List Str := ["self"]
theorem sc_Single_bar : FnScope n_Single_bar ["self"] (defScope s_Single_bar) := ⟨rfl, rfl, rfl, by decide +kernel, rfl, by decide +kernel, by decide +kernel⟩
abbrev s_Single_masked : Stmt := inClass (top 44) 7
def d_Single_masked : DefZ := ⟨fun K => pga K (ga K "Single") "masked", "masked", "Single.masked", s_Single_masked, []⟩
abbrev n_Single_masked : List Str := ["self", "line"]
theorem sc_Single_masked : FnScope n_Single_masked ["self"] (defScope s_Single_masked) := ⟨rfl, rfl, rfl, by decide +kernel, rfl, by decide +kernel, by decide +kernel⟩
abbrev s_Single_highs : Stmt := inClass (top 44) 8
def d_Single_highs : DefZ := ⟨fun K => pga K (ga K "Single") "highs", "highs", "Single.highs", s_Single_highs, []⟩
abbrev n_Single_highs : List Str := ["self"]
theorem sc_Single_highs : FnScope n_Single_highs ["self"] (defScope s_Single_highs) := ⟨rfl, rfl, rfl, by decide +kernel, rfl, by decide +kernel, by decide +kernel⟩
abbrev s_Single_spent : Stmt := inClass (top 44) 9
def d_Single_spent : DefZ := ⟨fun K => pga K (ga K "Single") "spent", "spent", "Single.spent", s_Single_spent, []⟩
abbrev n_Single_spent : List Str := ["self", "kind"]
theorem sc_Single_spent : FnScope n_Single_spent ["self"] (defScope s_Single_spent) := ⟨rfl, rfl, rfl, by decide +kernel, rfl, by decide +kernel, by decide +kernel⟩
abbrev s_Single_ring : Stmt := inClass (top 44) 14
def d_Single_ring : DefZ := ⟨fun K => ma K (ga K "Single") "ring", "ring", "Single.ring", s_Single_ring, []⟩
abbrev n_Single_ring : List Str := ["self", "line"]
theorem sc_Single_ring : FnScope n_Single_ring ["self", "line"] (defScope s_Single_ring) := ⟨rfl, rfl, rfl, by decide +kernel, rfl, by decide +kernel, by decide +kernel⟩
abbrev s_Single_take : Stmt := inClass (top 44) 21
def d_Single_take : DefZ := ⟨fun K => ma K (ga K "Single") "take", "take", "Single.take", s_Single_take, []⟩
abbrev n_Single_take : List Str := ["self", "ready", "line"]
theorem sc_Single_take : FnScope n_Single_take ["self"] (defScope s_Single_take) := ⟨rfl, rfl, rfl, by decide +kernel, rfl, by decide +kernel, by decide +kernel⟩
abbrev s_Single_tick : Stmt := inClass (top 44) 22
def d_Single_tick : DefZ := ⟨fun K => ma K (ga K "Single") "tick", "tick", "Single.tick", s_Single_tick, []⟩
abbrev n_Single_tick : List Str := ["self", "events", "kind", "more"]
theorem sc_Single_tick : FnScope n_Single_tick ["self"] (defScope s_Single_tick) := ⟨rfl, rfl, rfl, by decide +kernel, rfl, by decide +kernel, by decide +kernel⟩
abbrev s_w_taken : Stmt := top 46
def d_w_taken : DefZ := ⟨fun K => ga K "_law_taken", "_law_taken", "_law_taken", s_w_taken, []⟩
abbrev n_w_taken : List Str := ["_law_row", "_law_many", "_law_found", "_law_cell"]
theorem sc_w_taken : FnScope n_w_taken ["_law_row", "_law_many"] (defScope s_w_taken) := ⟨rfl, rfl, rfl, by decide +kernel, rfl, by decide +kernel, by decide +kernel⟩
abbrev s_w_mixed : Stmt := top 47
def d_w_mixed : DefZ := ⟨fun K => ga K "_law_mixed", "_law_mixed", "_law_mixed", s_w_mixed, []⟩
abbrev n_w_mixed : List Str := ["_law_row", "_law_things", "_law_left", "_law_found"]
theorem sc_w_mixed : FnScope n_w_mixed ["_law_row", "_law_things"] (defScope s_w_mixed) := ⟨rfl, rfl, rfl, by decide +kernel, rfl, by decide +kernel, by decide +kernel⟩
abbrev s_w_plain : Stmt := top 48
def d_w_plain : DefZ := ⟨fun K => ga K "_law_plain", "_law_plain", "_law_plain", s_w_plain, []⟩
abbrev n_w_plain : List Str := ["_law_row", "_law_most", "_law_long", "_law_names", "_law_ranks", "_law_found", "_law_k", "_law_steps", "_law_turn"]
theorem sc_w_plain : FnScope n_w_plain ["_law_row", "_law_most", "_law_long"] (defScope s_w_plain) := ⟨rfl, rfl, rfl, by decide +kernel, rfl, by decide +kernel, by decide +kernel⟩
abbrev s_law : Stmt := top 49
def d_law : DefZ := ⟨fun K => ga K "law", "law", "law", s_law, []⟩
abbrev n_law : List Str := ["_law_script", "_law_row", "_law_turn", "_law_lines", "_law_single", "_law_ranks", "_law_names", "_law_tick", "_law_k", "_law_there", "_law_wanted", "_law_spent", "_law_events", "_law_begun", "_law_best", "_law_went", "_law_now", "_law_line", "_law_call", "_law_word", "_law_name"]
theorem sc_law : FnScope n_law ["_law_script"] (defScope s_law) := ⟨rfl, rfl, rfl, by decide +kernel, rfl, by decide +kernel, by decide +kernel⟩
structure Txt (K : Fg) (mg : Str → Option Value) : Prop where
  i_LETTERS : ∃ t, mg "LETTERS" = some (.str "abcdefghijklmnopqrstuvwxyz" t)
  i_MAX_NAME : ∃ t, mg "MAX_NAME" = some (.int 8 t)
  i_MAX_RANK : ∃ t, mg "MAX_RANK" = some (.int 9 t)
  i_MAX_STEPS : ∃ t, mg "MAX_STEPS" = some (.int 8 t)
  i_MAX_TICKS : ∃ t, mg "MAX_TICKS" = some (.int 99 t)
  i_MAX_FLAG : ∃ t, mg "MAX_FLAG" = some (.int 7 t)
  i_EDGE : ∃ t, mg "EDGE" = some (.str "edge" t)
  i_LEVEL : ∃ t, mg "LEVEL" = some (.str "level" t)
  i_RUN : ∃ t, mg "RUN" = some (.str "run" t)
  i_QUIET : ∃ t, mg "QUIET" = some (.str "quiet" t)
  i_AWAIT : ∃ t, mg "AWAIT" = some (.str "await" t)
  i_BAR : ∃ t, mg "BAR" = some (.str "bar" t)
  i_LATER : ∃ t, mg "LATER" = some (.str "later" t)
  g_LINE_WORDS : mg "LINE_WORDS" = some (.ref (ga K "LINE_WORDS"))
  t_LINE_WORDS : ∀ H, SqT K H (ga K "LINE_WORDS") ([.str "ring", .str "quiet", .str "mask", .str "unmask"] : List V)
  g_FLAG_WORDS : mg "FLAG_WORDS" = some (.ref (ga K "FLAG_WORDS"))
  t_FLAG_WORDS : ∀ H, SqT K H (ga K "FLAG_WORDS") ([.str "set", .str "clear", .str "await"] : List V)
  i_CALL : ∃ t, mg "CALL" = some (.str "call" t)
  i_SPUN : ∃ t, mg "SPUN" = some (.str "spun" t)
  i_WORK : ∃ t, mg "WORK" = some (.str "work" t)
  i_IDLE : ∃ t, mg "IDLE" = some (.str "idle" t)
  g_is_integer : mg "is_integer" = some (.ref (ga K "is_integer"))
  g_is_word : mg "is_word" = some (.ref (ga K "is_word"))
  g_is_name : mg "is_name" = some (.ref (ga K "is_name"))
  g_is_line : mg "is_line" = some (.ref (ga K "is_line"))
  g_is_work : mg "is_work" = some (.ref (ga K "is_work"))
  g_is_step : mg "is_step" = some (.ref (ga K "is_step"))
  g_check_lines : mg "check_lines" = some (.ref (ga K "check_lines"))
  g_check_works : mg "check_works" = some (.ref (ga K "check_works"))
  g_w_taken : mg "_law_taken" = some (.ref (ga K "_law_taken"))
  g_w_mixed : mg "_law_mixed" = some (.ref (ga K "_law_mixed"))
  g_w_plain : mg "_law_plain" = some (.ref (ga K "_law_plain"))
  g_law : mg "law" = some (.ref (ga K "law"))
  F_is_integer : FunZ K d_is_integer
  c_is_integer : Cal K (ga K "is_integer") ["value", "low", "high"] []
  F_is_word : FunZ K d_is_word
  c_is_word : Cal K (ga K "is_word") ["value"] []
  F_is_name : FunZ K d_is_name
  c_is_name : Cal K (ga K "is_name") ["value"] []
  F_is_line : FunZ K d_is_line
  c_is_line : Cal K (ga K "is_line") ["line"] []
  F_is_work : FunZ K d_is_work
  c_is_work : Cal K (ga K "is_work") ["work"] []
  F_is_step : FunZ K d_is_step
  c_is_step : Cal K (ga K "is_step") ["step", "kinds", "works"] []
  F_check_lines : FunZ K d_check_lines
  c_check_lines : Cal K (ga K "check_lines") ["lines", "most"] []
  F_check_works : FunZ K d_check_works
  c_check_works : Cal K (ga K "check_works") ["works", "most"] []
  F_Setup_init : FunZ K d_Setup_init
  dt_Setup_init : ∀ H, SqT K H (dfA (fun K => ma K (ga K "Setup") "__init__") 0 K) []
  c_Setup_init : Cal K (ma K (ga K "Setup") "__init__") ["self", "lines", "works"] []
  F_Setup_order : FunZ K d_Setup_order
  c_Setup_order : Cal K (pga K (ga K "Setup") "order") ["self"] []
  F_Setup_contains : FunZ K d_Setup_contains
  c_Setup_contains : Cal K (ma K (ga K "Setup") "__contains__") ["self", "name"] []
  F_Setup_getitem : FunZ K d_Setup_getitem
  c_Setup_getitem : Cal K (ma K (ga K "Setup") "__getitem__") ["self", "name"] []
  F_Setup_check_line : FunZ K d_Setup_check_line
  c_Setup_check_line : Cal K (ma K (ga K "Setup") "check_line") ["self", "name"] []
  F_Board_init : FunZ K d_Board_init
  c_Board_init : Cal K (ma K (ga K "Board") "__init__") ["self", "plan"] []
  F_Board_ring : FunZ K d_Board_ring
  c_Board_ring : Cal K (ma K (ga K "Board") "ring") ["self", "line"] []
  F_Board_put : FunZ K d_Board_put
  c_Board_put : Cal K (ma K (ga K "Board") "put") ["self", "things", "thing", "is_in"] []
  F_Board_is_up : FunZ K d_Board_is_up
  c_Board_is_up : Cal K (ma K (ga K "Board") "is_up") ["self", "flag"] []
  F_Board_is_waiting : FunZ K d_Board_is_waiting
  c_Board_is_waiting : Cal K (ma K (ga K "Board") "is_waiting") ["self", "line"] []
  F_Board_can_begin : FunZ K d_Board_can_begin
  c_Board_can_begin : Cal K (ma K (ga K "Board") "can_begin") ["self", "line"] []
  F_Board_begun : FunZ K d_Board_begun
  c_Board_begun : Cal K (ma K (ga K "Board") "begun") ["self", "line"] []
  F_Board_ended : FunZ K d_Board_ended
  c_Board_ended : Cal K (ma K (ga K "Board") "ended") ["self", "line"] []
  F_Board_carry : FunZ K d_Board_carry
  c_Board_carry : Cal K (ma K (ga K "Board") "carry") ["self", "step"] []
  F_Core_init : FunZ K d_Core_init
  c_Core_init : Cal K (ma K (ga K "Core") "__init__") ["self", "plan"] []
  F_Core_innermost_rank : FunZ K d_Core_innermost_rank
  c_Core_innermost_rank : Cal K (ma K (ga K "Core") "innermost_rank") ["self"] []
  F_Core_may_take : FunZ K d_Core_may_take
  c_Core_may_take : Cal K (ma K (ga K "Core") "may_take") ["self", "line"] []
  F_Core_step_now : FunZ K d_Core_step_now
  c_Core_step_now : Cal K (ma K (ga K "Core") "step_now") ["self"] []
  F_Core_begin : FunZ K d_Core_begin
  c_Core_begin : Cal K (ma K (ga K "Core") "begin") ["self", "line", "board"] []
  F_Core_pass_steps : FunZ K d_Core_pass_steps
  c_Core_pass_steps : Cal K (ma K (ga K "Core") "pass_steps") ["self", "board"] []
  F_Core_pass_step : FunZ K d_Core_pass_step
  c_Core_pass_step : Cal K (ma K (ga K "Core") "pass_step") ["self", "word", "value", "board"] []
  F_Core_leave_work : FunZ K d_Core_leave_work
  c_Core_leave_work : Cal K (ma K (ga K "Core") "leave_work") ["self", "work"] []
  F_Core_job_places : FunZ K d_Core_job_places
  c_Core_job_places : Cal K (ma K (ga K "Core") "job_places") ["self"] []
  F_Core_tick : FunZ K d_Core_tick
  c_Core_tick : Cal K (ma K (ga K "Core") "tick") ["self", "board"] []
  F_Core_is_passing : FunZ K d_Core_is_passing
  c_Core_is_passing : Cal K (ma K (ga K "Core") "is_passing") ["self", "board"] []
  F_Core_spend : FunZ K d_Core_spend
  c_Core_spend : Cal K (ma K (ga K "Core") "spend") ["self", "board"] []
  F_Core_do_work : FunZ K d_Core_do_work
  c_Core_do_work : Cal K (ma K (ga K "Core") "do_work") ["self"] []
  F_Single_init : FunZ K d_Single_init
  c_Single_init : Cal K (ma K (ga K "Single") "__init__") ["self", "setup"] []
  F_Single_now : FunZ K d_Single_now
  c_Single_now : Cal K (pga K (ga K "Single") "now") ["self"] []
  F_Single_waiting : FunZ K d_Single_waiting
  c_Single_waiting : Cal K (pga K (ga K "Single") "waiting") ["self"] []
  F_Single_calls : FunZ K d_Single_calls
  c_Single_calls : Cal K (pga K (ga K "Single") "calls") ["self"] []
  F_Single_queue : FunZ K d_Single_queue
  c_Single_queue : Cal K (pga K (ga K "Single") "queue") ["self"] []
  F_Single_flags_up : FunZ K d_Single_flags_up
  c_Single_flags_up : Cal K (pga K (ga K "Single") "flags_up") ["self"] []
  F_Single_bar : FunZ K d_Single_bar
  c_Single_bar : Cal K (pga K (ga K "Single") "bar") ["self"] []
  F_Single_masked : FunZ K d_Single_masked
  c_Single_masked : Cal K (pga K (ga K "Single") "masked") ["self"] []
  F_Single_highs : FunZ K d_Single_highs
  c_Single_highs : Cal K (pga K (ga K "Single") "highs") ["self"] []
  F_Single_spent : FunZ K d_Single_spent
  c_Single_spent : Cal K (pga K (ga K "Single") "spent") ["self"] []
  F_Single_ring : FunZ K d_Single_ring
  c_Single_ring : Cal K (ma K (ga K "Single") "ring") ["self", "line"] []
  F_Single_take : FunZ K d_Single_take
  c_Single_take : Cal K (ma K (ga K "Single") "take") ["self"] []
  F_Single_tick : FunZ K d_Single_tick
  c_Single_tick : Cal K (ma K (ga K "Single") "tick") ["self"] []
  F_w_taken : FunZ K d_w_taken
  c_w_taken : Cal K (ga K "_law_taken") ["_law_row", "_law_many"] []
  F_w_mixed : FunZ K d_w_mixed
  c_w_mixed : Cal K (ga K "_law_mixed") ["_law_row", "_law_things"] []
  F_w_plain : FunZ K d_w_plain
  c_w_plain : Cal K (ga K "_law_plain") ["_law_row", "_law_most", "_law_long"] []
  F_law : FunZ K d_law
  c_law : Cal K (ga K "law") ["_law_script"] []
  c2_Setup_init : Cal K (ma K (ga K "Setup") "__init__") ["self", "lines", "works"] [.ref (dfA (fun K => ma K (ga K "Setup") "__init__") 0 K)]
  g_Setup : mg "Setup" = some (.ref (ga K "Setup"))
  cl_Setup : Cls K (ga K "Setup")
  mk_Setup : Mk K (ga K "Setup") (ma K (ga K "Setup") "__init__")
  n_Setup_line_rows : NoAttr K (ga K "Setup") "line_rows"
  n_Setup_work_rows : NoAttr K (ga K "Setup") "work_rows"
  n_Setup_rows_by_name : NoAttr K (ga K "Setup") "rows_by_name"
  n_Setup_works_by_name : NoAttr K (ga K "Setup") "works_by_name"
  m_Setup_init : Meth K (ga K "Setup") "__init__" (ma K (ga K "Setup") "__init__")
  p_Setup_order : PropOf K (ga K "Setup") "order" (ma K (ga K "Setup") "order") (pga K (ga K "Setup") "order")
  m_Setup_contains : Meth K (ga K "Setup") "__contains__" (ma K (ga K "Setup") "__contains__")
  m_Setup_getitem : Meth K (ga K "Setup") "__getitem__" (ma K (ga K "Setup") "__getitem__")
  sub_Setup : PySem.W.fnIn K (ma K (ga K "Setup") "__getitem__") = true
  m_Setup_check_line : Meth K (ga K "Setup") "check_line" (ma K (ga K "Setup") "check_line")
  k_Setup_MAX_LINES : ClsI K (ga K "Setup") "MAX_LINES" 12
  k_Setup_MAX_WORKS : ClsI K (ga K "Setup") "MAX_WORKS" 8
  k_Setup_MAX_FLAG : ClsI K (ga K "Setup") "MAX_FLAG" 7
  g_Board : mg "Board" = some (.ref (ga K "Board"))
  cl_Board : Cls K (ga K "Board")
  mk_Board : Mk K (ga K "Board") (ma K (ga K "Board") "__init__")
  n_Board_plan : NoAttr K (ga K "Board") "plan"
  n_Board_shut : NoAttr K (ga K "Board") "shut"
  n_Board_wanted : NoAttr K (ga K "Board") "wanted"
  n_Board_high : NoAttr K (ga K "Board") "high"
  n_Board_taken : NoAttr K (ga K "Board") "taken"
  n_Board_raised : NoAttr K (ga K "Board") "raised"
  n_Board_joined : NoAttr K (ga K "Board") "joined"
  m_Board_init : Meth K (ga K "Board") "__init__" (ma K (ga K "Board") "__init__")
  m_Board_ring : Meth K (ga K "Board") "ring" (ma K (ga K "Board") "ring")
  m_Board_put : Meth K (ga K "Board") "put" (ma K (ga K "Board") "put")
  m_Board_is_up : Meth K (ga K "Board") "is_up" (ma K (ga K "Board") "is_up")
  m_Board_is_waiting : Meth K (ga K "Board") "is_waiting" (ma K (ga K "Board") "is_waiting")
  m_Board_can_begin : Meth K (ga K "Board") "can_begin" (ma K (ga K "Board") "can_begin")
  m_Board_begun : Meth K (ga K "Board") "begun" (ma K (ga K "Board") "begun")
  m_Board_ended : Meth K (ga K "Board") "ended" (ma K (ga K "Board") "ended")
  m_Board_carry : Meth K (ga K "Board") "carry" (ma K (ga K "Board") "carry")
  g_Core : mg "Core" = some (.ref (ga K "Core"))
  cl_Core : Cls K (ga K "Core")
  mk_Core : Mk K (ga K "Core") (ma K (ga K "Core") "__init__")
  n_Core_plan : NoAttr K (ga K "Core") "plan"
  n_Core_frames : NoAttr K (ga K "Core") "frames"
  n_Core_limit : NoAttr K (ga K "Core") "limit"
  n_Core_jobs : NoAttr K (ga K "Core") "jobs"
  m_Core_init : Meth K (ga K "Core") "__init__" (ma K (ga K "Core") "__init__")
  m_Core_innermost_rank : Meth K (ga K "Core") "innermost_rank" (ma K (ga K "Core") "innermost_rank")
  m_Core_may_take : Meth K (ga K "Core") "may_take" (ma K (ga K "Core") "may_take")
  m_Core_step_now : Meth K (ga K "Core") "step_now" (ma K (ga K "Core") "step_now")
  m_Core_begin : Meth K (ga K "Core") "begin" (ma K (ga K "Core") "begin")
  m_Core_pass_steps : Meth K (ga K "Core") "pass_steps" (ma K (ga K "Core") "pass_steps")
  m_Core_pass_step : Meth K (ga K "Core") "pass_step" (ma K (ga K "Core") "pass_step")
  m_Core_leave_work : Meth K (ga K "Core") "leave_work" (ma K (ga K "Core") "leave_work")
  m_Core_job_places : Meth K (ga K "Core") "job_places" (ma K (ga K "Core") "job_places")
  m_Core_tick : Meth K (ga K "Core") "tick" (ma K (ga K "Core") "tick")
  m_Core_is_passing : Meth K (ga K "Core") "is_passing" (ma K (ga K "Core") "is_passing")
  m_Core_spend : Meth K (ga K "Core") "spend" (ma K (ga K "Core") "spend")
  m_Core_do_work : Meth K (ga K "Core") "do_work" (ma K (ga K "Core") "do_work")
  g_Single : mg "Single" = some (.ref (ga K "Single"))
  cl_Single : Cls K (ga K "Single")
  mk_Single : Mk K (ga K "Single") (ma K (ga K "Single") "__init__")
  n_Single_plan : NoAttr K (ga K "Single") "plan"
  n_Single_board : NoAttr K (ga K "Single") "board"
  n_Single_core : NoAttr K (ga K "Single") "core"
  n_Single_time : NoAttr K (ga K "Single") "time"
  n_Single_sums : NoAttr K (ga K "Single") "sums"
  m_Single_init : Meth K (ga K "Single") "__init__" (ma K (ga K "Single") "__init__")
  p_Single_now : PropOf K (ga K "Single") "now" (ma K (ga K "Single") "now") (pga K (ga K "Single") "now")
  p_Single_waiting : PropOf K (ga K "Single") "waiting" (ma K (ga K "Single") "waiting") (pga K (ga K "Single") "waiting")
  p_Single_calls : PropOf K (ga K "Single") "calls" (ma K (ga K "Single") "calls") (pga K (ga K "Single") "calls")
  p_Single_queue : PropOf K (ga K "Single") "queue" (ma K (ga K "Single") "queue") (pga K (ga K "Single") "queue")
  p_Single_flags_up : PropOf K (ga K "Single") "flags_up" (ma K (ga K "Single") "flags_up") (pga K (ga K "Single") "flags_up")
  p_Single_bar : PropOf K (ga K "Single") "bar" (ma K (ga K "Single") "bar") (pga K (ga K "Single") "bar")
  p_Single_masked : PropOf K (ga K "Single") "masked" (ma K (ga K "Single") "masked") (pga K (ga K "Single") "masked")
  p_Single_highs : PropOf K (ga K "Single") "highs" (ma K (ga K "Single") "highs") (pga K (ga K "Single") "highs")
  p_Single_spent : PropOf K (ga K "Single") "spent" (ma K (ga K "Single") "spent") (pga K (ga K "Single") "spent")
  m_Single_ring : Meth K (ga K "Single") "ring" (ma K (ga K "Single") "ring")
  m_Single_take : Meth K (ga K "Single") "take" (ma K (ga K "Single") "take")
  m_Single_tick : Meth K (ga K "Single") "tick" (ma K (ga K "Single") "tick")
  u_isinstance : mg "isinstance" = none
  u_bool : mg "bool" = none
  u_int : mg "int" = none
  u_all : mg "all" = none
  u_str : mg "str" = none
  u_len : mg "len" = none
  u_tuple : mg "tuple" = none
  u_enumerate : mg "enumerate" = none
  u_sorted : mg "sorted" = none
  u_max : mg "max" = none
  u_list : mg "list" = none
  u_range : mg "range" = none
  u_dict : mg "dict" = none
  u_set : mg "set" = none
def fa : List (Fg → Bool) := ([fStr "LETTERS" "abcdefghijklmnopqrstuvwxyz", fInt "MAX_NAME" 8, fInt "MAX_RANK" 9, fInt "MAX_STEPS" 8, fInt "MAX_TICKS" 99, fInt "MAX_FLAG" 7, fStr "EDGE" "edge", fStr "LEVEL" "level", fStr "RUN" "run", fStr "QUIET" "quiet", fStr "AWAIT" "await", fStr "BAR" "bar", fStr "LATER" "later", fGlo "LINE_WORDS", fTup "LINE_WORDS" [.str "ring", .str "quiet", .str "mask", .str "unmask"], fGlo "FLAG_WORDS", fTup "FLAG_WORDS" [.str "set", .str "clear", .str "await"], fStr "CALL" "call", fStr "SPUN" "spun", fStr "WORK" "work", fStr "IDLE" "idle", fGlo "is_integer", fGlo "is_word", fGlo "is_name", fGlo "is_line", fGlo "is_work", fGlo "is_step", fGlo "check_lines", fGlo "check_works", fGlo "_law_taken"] : List (Fg → Bool)) ++ ([fGlo "_law_mixed", fGlo "_law_plain", fGlo "law", fTup0 (dfA (fun K => ma K (ga K "Setup") "__init__") 0), fGlo "Setup", fCls "Setup", fMk "Setup", fNo "Setup" "line_rows", fNo "Setup" "work_rows", fNo "Setup" "rows_by_name", fNo "Setup" "works_by_name", fMeth "Setup" "__init__", fProp "Setup" "order", fMeth "Setup" "__contains__", fMeth "Setup" "__getitem__", fSub "Setup", fMeth "Setup" "check_line", fClsI "Setup" "MAX_LINES" 12, fClsI "Setup" "MAX_WORKS" 8, fClsI "Setup" "MAX_FLAG" 7, fGlo "Board", fCls "Board", fMk "Board", fNo "Board" "plan", fNo "Board" "shut", fNo "Board" "wanted", fNo "Board" "high", fNo "Board" "taken", fNo "Board" "raised", fNo "Board" "joined"] : List (Fg → Bool)) ++ ([fMeth "Board" "__init__", fMeth "Board" "ring", fMeth "Board" "put", fMeth "Board" "is_up", fMeth "Board" "is_waiting", fMeth "Board" "can_begin", fMeth "Board" "begun", fMeth "Board" "ended", fMeth "Board" "carry", fGlo "Core", fCls "Core", fMk "Core", fNo "Core" "plan", fNo "Core" "frames", fNo "Core" "limit", fNo "Core" "jobs", fMeth "Core" "__init__", fMeth "Core" "innermost_rank", fMeth "Core" "may_take", fMeth "Core" "step_now", fMeth "Core" "begin", fMeth "Core" "pass_steps", fMeth "Core" "pass_step", fMeth "Core" "leave_work", fMeth "Core" "job_places", fMeth "Core" "tick", fMeth "Core" "is_passing", fMeth "Core" "spend", fMeth "Core" "do_work", fGlo "Single"] : List (Fg → Bool)) ++ ([fCls "Single", fMk "Single", fNo "Single" "plan", fNo "Single" "board", fNo "Single" "core", fNo "Single" "time", fNo "Single" "sums", fMeth "Single" "__init__", fProp "Single" "now", fProp "Single" "waiting", fProp "Single" "calls", fProp "Single" "queue", fProp "Single" "flags_up", fProp "Single" "bar", fProp "Single" "masked", fProp "Single" "highs", fProp "Single" "spent", fMeth "Single" "ring", fMeth "Single" "take", fMeth "Single" "tick", fFree "isinstance", fFree "bool", fFree "int", fFree "all", fFree "str", fFree "len", fFree "tuple", fFree "enumerate", fFree "sorted", fFree "max"] : List (Fg → Bool)) ++ ([fFree "list", fFree "range", fFree "dict", fFree "set"] : List (Fg → Bool))
def fn : List DefZ := ([d_is_integer, d_is_word, d_is_name, d_is_line, d_is_work, d_is_step, d_check_lines, d_check_works, d_Setup_init, d_Setup_order, d_Setup_contains, d_Setup_getitem, d_Setup_check_line, d_Board_init, d_Board_ring, d_Board_put, d_Board_is_up, d_Board_is_waiting, d_Board_can_begin, d_Board_begun, d_Board_ended, d_Board_carry, d_Core_init, d_Core_innermost_rank, d_Core_may_take, d_Core_step_now, d_Core_begin, d_Core_pass_steps, d_Core_pass_step, d_Core_leave_work] : List DefZ) ++ ([d_Core_job_places, d_Core_tick, d_Core_is_passing, d_Core_spend, d_Core_do_work, d_Single_init, d_Single_now, d_Single_waiting, d_Single_calls, d_Single_queue, d_Single_flags_up, d_Single_bar, d_Single_masked, d_Single_highs, d_Single_spent, d_Single_ring, d_Single_take, d_Single_tick, d_w_taken, d_w_mixed, d_w_plain, d_law] : List DefZ)
theorem txt_of {K : Fg} {h : Heap} {mg : Str → Option Value} (X : K.In h) (G : h.Ns mainGlobals mg) (c : SaysZ fa fn K) : Txt K mg where
  i_LETTERS := He.str_ok X G (c.fact 0 rfl)
  i_MAX_NAME := He.int_ok X G (c.fact 1 rfl)
  i_MAX_RANK := He.int_ok X G (c.fact 2 rfl)
  i_MAX_STEPS := He.int_ok X G (c.fact 3 rfl)
  i_MAX_TICKS := He.int_ok X G (c.fact 4 rfl)
  i_MAX_FLAG := He.int_ok X G (c.fact 5 rfl)
  i_EDGE := He.str_ok X G (c.fact 6 rfl)
  i_LEVEL := He.str_ok X G (c.fact 7 rfl)
  i_RUN := He.str_ok X G (c.fact 8 rfl)
  i_QUIET := He.str_ok X G (c.fact 9 rfl)
  i_AWAIT := He.str_ok X G (c.fact 10 rfl)
  i_BAR := He.str_ok X G (c.fact 11 rfl)
  i_LATER := He.str_ok X G (c.fact 12 rfl)
  g_LINE_WORDS := He.glo_ok X G (c.fact 13 rfl)
  t_LINE_WORDS := (fun H => He.tupB_ok (c.fact 14 rfl) H)
  g_FLAG_WORDS := He.glo_ok X G (c.fact 15 rfl)
  t_FLAG_WORDS := (fun H => He.tupB_ok (c.fact 16 rfl) H)
  i_CALL := He.str_ok X G (c.fact 17 rfl)
  i_SPUN := He.str_ok X G (c.fact 18 rfl)
  i_WORK := He.str_ok X G (c.fact 19 rfl)
  i_IDLE := He.str_ok X G (c.fact 20 rfl)
  g_is_integer := He.glo_ok X G (c.fact 21 rfl)
  g_is_word := He.glo_ok X G (c.fact 22 rfl)
  g_is_name := He.glo_ok X G (c.fact 23 rfl)
  g_is_line := He.glo_ok X G (c.fact 24 rfl)
  g_is_work := He.glo_ok X G (c.fact 25 rfl)
  g_is_step := He.glo_ok X G (c.fact 26 rfl)
  g_check_lines := He.glo_ok X G (c.fact 27 rfl)
  g_check_works := He.glo_ok X G (c.fact 28 rfl)
  g_w_taken := He.glo_ok X G (c.fact 29 rfl)
  g_w_mixed := He.glo_ok X G (c.fact 30 rfl)
  g_w_plain := He.glo_ok X G (c.fact 31 rfl)
  g_law := He.glo_ok X G (c.fact 32 rfl)
  F_is_integer := (c.def_ 0 rfl)
  c_is_integer := ⟨(c.def_ 0 (d := d_is_integer) rfl).kp, [], FunD.bindsN (c.def_ 0 (d := d_is_integer) rfl) (fun _ _ _ _ _ _ us hl => match us, hl with | [_, _, _], _ => rfl), .nil⟩
  F_is_word := (c.def_ 1 rfl)
  c_is_word := ⟨(c.def_ 1 (d := d_is_word) rfl).kp, [], FunD.bindsN (c.def_ 1 (d := d_is_word) rfl) (fun _ _ _ _ _ _ us hl => match us, hl with | [_], _ => rfl), .nil⟩
  F_is_name := (c.def_ 2 rfl)
  c_is_name := ⟨(c.def_ 2 (d := d_is_name) rfl).kp, [], FunD.bindsN (c.def_ 2 (d := d_is_name) rfl) (fun _ _ _ _ _ _ us hl => match us, hl with | [_], _ => rfl), .nil⟩
  F_is_line := (c.def_ 3 rfl)
  c_is_line := ⟨(c.def_ 3 (d := d_is_line) rfl).kp, [], FunD.bindsN (c.def_ 3 (d := d_is_line) rfl) (fun _ _ _ _ _ _ us hl => match us, hl with | [_], _ => rfl), .nil⟩
  F_is_work := (c.def_ 4 rfl)
  c_is_work := ⟨(c.def_ 4 (d := d_is_work) rfl).kp, [], FunD.bindsN (c.def_ 4 (d := d_is_work) rfl) (fun _ _ _ _ _ _ us hl => match us, hl with | [_], _ => rfl), .nil⟩
  F_is_step := (c.def_ 5 rfl)
  c_is_step := ⟨(c.def_ 5 (d := d_is_step) rfl).kp, [], FunD.bindsN (c.def_ 5 (d := d_is_step) rfl) (fun _ _ _ _ _ _ us hl => match us, hl with | [_, _, _], _ => rfl), .nil⟩
  F_check_lines := (c.def_ 6 rfl)
  c_check_lines := ⟨(c.def_ 6 (d := d_check_lines) rfl).kp, [], FunD.bindsN (c.def_ 6 (d := d_check_lines) rfl) (fun _ _ _ _ _ _ us hl => match us, hl with | [_, _], _ => rfl), .nil⟩
  F_check_works := (c.def_ 7 rfl)
  c_check_works := ⟨(c.def_ 7 (d := d_check_works) rfl).kp, [], FunD.bindsN (c.def_ 7 (d := d_check_works) rfl) (fun _ _ _ _ _ _ us hl => match us, hl with | [_, _], _ => rfl), .nil⟩
  F_Setup_init := (c.def_ 8 rfl)
  dt_Setup_init := (fun H => fTup0_ok (c.fact 33 rfl) H)
  c_Setup_init := calD (c.def_ 8 (d := d_Setup_init) rfl) 3 (by simp [d_Setup_init]) rfl (fun _ _ _ _ _ _ _ us its hl hi => match us, its, hl, hi with | [_, _, _], [_], _, _ => ⟨_, rfl, rfl⟩)
  F_Setup_order := (c.def_ 9 rfl)
  c_Setup_order := ⟨(c.def_ 9 (d := d_Setup_order) rfl).kp, [], FunD.bindsN (c.def_ 9 (d := d_Setup_order) rfl) (fun _ _ _ _ _ _ us hl => match us, hl with | [_], _ => rfl), .nil⟩
  F_Setup_contains := (c.def_ 10 rfl)
  c_Setup_contains := ⟨(c.def_ 10 (d := d_Setup_contains) rfl).kp, [], FunD.bindsN (c.def_ 10 (d := d_Setup_contains) rfl) (fun _ _ _ _ _ _ us hl => match us, hl with | [_, _], _ => rfl), .nil⟩
  F_Setup_getitem := (c.def_ 11 rfl)
  c_Setup_getitem := ⟨(c.def_ 11 (d := d_Setup_getitem) rfl).kp, [], FunD.bindsN (c.def_ 11 (d := d_Setup_getitem) rfl) (fun _ _ _ _ _ _ us hl => match us, hl with | [_, _], _ => rfl), .nil⟩
  F_Setup_check_line := (c.def_ 12 rfl)
  c_Setup_check_line := ⟨(c.def_ 12 (d := d_Setup_check_line) rfl).kp, [], FunD.bindsN (c.def_ 12 (d := d_Setup_check_line) rfl) (fun _ _ _ _ _ _ us hl => match us, hl with | [_, _], _ => rfl), .nil⟩
  F_Board_init := (c.def_ 13 rfl)
  c_Board_init := ⟨(c.def_ 13 (d := d_Board_init) rfl).kp, [], FunD.bindsN (c.def_ 13 (d := d_Board_init) rfl) (fun _ _ _ _ _ _ us hl => match us, hl with | [_, _], _ => rfl), .nil⟩
  F_Board_ring := (c.def_ 14 rfl)
  c_Board_ring := ⟨(c.def_ 14 (d := d_Board_ring) rfl).kp, [], FunD.bindsN (c.def_ 14 (d := d_Board_ring) rfl) (fun _ _ _ _ _ _ us hl => match us, hl with | [_, _], _ => rfl), .nil⟩
  F_Board_put := (c.def_ 15 rfl)
  c_Board_put := ⟨(c.def_ 15 (d := d_Board_put) rfl).kp, [], FunD.bindsN (c.def_ 15 (d := d_Board_put) rfl) (fun _ _ _ _ _ _ us hl => match us, hl with | [_, _, _, _], _ => rfl), .nil⟩
  F_Board_is_up := (c.def_ 16 rfl)
  c_Board_is_up := ⟨(c.def_ 16 (d := d_Board_is_up) rfl).kp, [], FunD.bindsN (c.def_ 16 (d := d_Board_is_up) rfl) (fun _ _ _ _ _ _ us hl => match us, hl with | [_, _], _ => rfl), .nil⟩
  F_Board_is_waiting := (c.def_ 17 rfl)
  c_Board_is_waiting := ⟨(c.def_ 17 (d := d_Board_is_waiting) rfl).kp, [], FunD.bindsN (c.def_ 17 (d := d_Board_is_waiting) rfl) (fun _ _ _ _ _ _ us hl => match us, hl with | [_, _], _ => rfl), .nil⟩
  F_Board_can_begin := (c.def_ 18 rfl)
  c_Board_can_begin := ⟨(c.def_ 18 (d := d_Board_can_begin) rfl).kp, [], FunD.bindsN (c.def_ 18 (d := d_Board_can_begin) rfl) (fun _ _ _ _ _ _ us hl => match us, hl with | [_, _], _ => rfl), .nil⟩
  F_Board_begun := (c.def_ 19 rfl)
  c_Board_begun := ⟨(c.def_ 19 (d := d_Board_begun) rfl).kp, [], FunD.bindsN (c.def_ 19 (d := d_Board_begun) rfl) (fun _ _ _ _ _ _ us hl => match us, hl with | [_, _], _ => rfl), .nil⟩
  F_Board_ended := (c.def_ 20 rfl)
  c_Board_ended := ⟨(c.def_ 20 (d := d_Board_ended) rfl).kp, [], FunD.bindsN (c.def_ 20 (d := d_Board_ended) rfl) (fun _ _ _ _ _ _ us hl => match us, hl with | [_, _], _ => rfl), .nil⟩
  F_Board_carry := (c.def_ 21 rfl)
  c_Board_carry := ⟨(c.def_ 21 (d := d_Board_carry) rfl).kp, [], FunD.bindsN (c.def_ 21 (d := d_Board_carry) rfl) (fun _ _ _ _ _ _ us hl => match us, hl with | [_, _], _ => rfl), .nil⟩
  F_Core_init := (c.def_ 22 rfl)
  c_Core_init := ⟨(c.def_ 22 (d := d_Core_init) rfl).kp, [], FunD.bindsN (c.def_ 22 (d := d_Core_init) rfl) (fun _ _ _ _ _ _ us hl => match us, hl with | [_, _], _ => rfl), .nil⟩
  F_Core_innermost_rank := (c.def_ 23 rfl)
  c_Core_innermost_rank := ⟨(c.def_ 23 (d := d_Core_innermost_rank) rfl).kp, [], FunD.bindsN (c.def_ 23 (d := d_Core_innermost_rank) rfl) (fun _ _ _ _ _ _ us hl => match us, hl with | [_], _ => rfl), .nil⟩
  F_Core_may_take := (c.def_ 24 rfl)
  c_Core_may_take := ⟨(c.def_ 24 (d := d_Core_may_take) rfl).kp, [], FunD.bindsN (c.def_ 24 (d := d_Core_may_take) rfl) (fun _ _ _ _ _ _ us hl => match us, hl with | [_, _], _ => rfl), .nil⟩
  F_Core_step_now := (c.def_ 25 rfl)
  c_Core_step_now := ⟨(c.def_ 25 (d := d_Core_step_now) rfl).kp, [], FunD.bindsN (c.def_ 25 (d := d_Core_step_now) rfl) (fun _ _ _ _ _ _ us hl => match us, hl with | [_], _ => rfl), .nil⟩
  F_Core_begin := (c.def_ 26 rfl)
  c_Core_begin := ⟨(c.def_ 26 (d := d_Core_begin) rfl).kp, [], FunD.bindsN (c.def_ 26 (d := d_Core_begin) rfl) (fun _ _ _ _ _ _ us hl => match us, hl with | [_, _, _], _ => rfl), .nil⟩
  F_Core_pass_steps := (c.def_ 27 rfl)
  c_Core_pass_steps := ⟨(c.def_ 27 (d := d_Core_pass_steps) rfl).kp, [], FunD.bindsN (c.def_ 27 (d := d_Core_pass_steps) rfl) (fun _ _ _ _ _ _ us hl => match us, hl with | [_, _], _ => rfl), .nil⟩
  F_Core_pass_step := (c.def_ 28 rfl)
  c_Core_pass_step := ⟨(c.def_ 28 (d := d_Core_pass_step) rfl).kp, [], FunD.bindsN (c.def_ 28 (d := d_Core_pass_step) rfl) (fun _ _ _ _ _ _ us hl => match us, hl with | [_, _, _, _], _ => rfl), .nil⟩
  F_Core_leave_work := (c.def_ 29 rfl)
  c_Core_leave_work := ⟨(c.def_ 29 (d := d_Core_leave_work) rfl).kp, [], FunD.bindsN (c.def_ 29 (d := d_Core_leave_work) rfl) (fun _ _ _ _ _ _ us hl => match us, hl with | [_, _], _ => rfl), .nil⟩
  F_Core_job_places := (c.def_ 30 rfl)
  c_Core_job_places := ⟨(c.def_ 30 (d := d_Core_job_places) rfl).kp, [], FunD.bindsN (c.def_ 30 (d := d_Core_job_places) rfl) (fun _ _ _ _ _ _ us hl => match us, hl with | [_], _ => rfl), .nil⟩
  F_Core_tick := (c.def_ 31 rfl)
  c_Core_tick := ⟨(c.def_ 31 (d := d_Core_tick) rfl).kp, [], FunD.bindsN (c.def_ 31 (d := d_Core_tick) rfl) (fun _ _ _ _ _ _ us hl => match us, hl with | [_, _], _ => rfl), .nil⟩
  F_Core_is_passing := (c.def_ 32 rfl)
  c_Core_is_passing := ⟨(c.def_ 32 (d := d_Core_is_passing) rfl).kp, [], FunD.bindsN (c.def_ 32 (d := d_Core_is_passing) rfl) (fun _ _ _ _ _ _ us hl => match us, hl with | [_, _], _ => rfl), .nil⟩
  F_Core_spend := (c.def_ 33 rfl)
  c_Core_spend := ⟨(c.def_ 33 (d := d_Core_spend) rfl).kp, [], FunD.bindsN (c.def_ 33 (d := d_Core_spend) rfl) (fun _ _ _ _ _ _ us hl => match us, hl with | [_, _], _ => rfl), .nil⟩
  F_Core_do_work := (c.def_ 34 rfl)
  c_Core_do_work := ⟨(c.def_ 34 (d := d_Core_do_work) rfl).kp, [], FunD.bindsN (c.def_ 34 (d := d_Core_do_work) rfl) (fun _ _ _ _ _ _ us hl => match us, hl with | [_], _ => rfl), .nil⟩
  F_Single_init := (c.def_ 35 rfl)
  c_Single_init := ⟨(c.def_ 35 (d := d_Single_init) rfl).kp, [], FunD.bindsN (c.def_ 35 (d := d_Single_init) rfl) (fun _ _ _ _ _ _ us hl => match us, hl with | [_, _], _ => rfl), .nil⟩
  F_Single_now := (c.def_ 36 rfl)
  c_Single_now := ⟨(c.def_ 36 (d := d_Single_now) rfl).kp, [], FunD.bindsN (c.def_ 36 (d := d_Single_now) rfl) (fun _ _ _ _ _ _ us hl => match us, hl with | [_], _ => rfl), .nil⟩
  F_Single_waiting := (c.def_ 37 rfl)
  c_Single_waiting := ⟨(c.def_ 37 (d := d_Single_waiting) rfl).kp, [], FunD.bindsN (c.def_ 37 (d := d_Single_waiting) rfl) (fun _ _ _ _ _ _ us hl => match us, hl with | [_], _ => rfl), .nil⟩
  F_Single_calls := (c.def_ 38 rfl)
  c_Single_calls := ⟨(c.def_ 38 (d := d_Single_calls) rfl).kp, [], FunD.bindsN (c.def_ 38 (d := d_Single_calls) rfl) (fun _ _ _ _ _ _ us hl => match us, hl with | [_], _ => rfl), .nil⟩
  F_Single_queue := (c.def_ 39 rfl)
  c_Single_queue := ⟨(c.def_ 39 (d := d_Single_queue) rfl).kp, [], FunD.bindsN (c.def_ 39 (d := d_Single_queue) rfl) (fun _ _ _ _ _ _ us hl => match us, hl with | [_], _ => rfl), .nil⟩
  F_Single_flags_up := (c.def_ 40 rfl)
  c_Single_flags_up := ⟨(c.def_ 40 (d := d_Single_flags_up) rfl).kp, [], FunD.bindsN (c.def_ 40 (d := d_Single_flags_up) rfl) (fun _ _ _ _ _ _ us hl => match us, hl with | [_], _ => rfl), .nil⟩
  F_Single_bar := (c.def_ 41 rfl)
  c_Single_bar := ⟨(c.def_ 41 (d := d_Single_bar) rfl).kp, [], FunD.bindsN (c.def_ 41 (d := d_Single_bar) rfl) (fun _ _ _ _ _ _ us hl => match us, hl with | [_], _ => rfl), .nil⟩
  F_Single_masked := (c.def_ 42 rfl)
  c_Single_masked := ⟨(c.def_ 42 (d := d_Single_masked) rfl).kp, [], FunD.bindsN (c.def_ 42 (d := d_Single_masked) rfl) (fun _ _ _ _ _ _ us hl => match us, hl with | [_], _ => rfl), .nil⟩
  F_Single_highs := (c.def_ 43 rfl)
  c_Single_highs := ⟨(c.def_ 43 (d := d_Single_highs) rfl).kp, [], FunD.bindsN (c.def_ 43 (d := d_Single_highs) rfl) (fun _ _ _ _ _ _ us hl => match us, hl with | [_], _ => rfl), .nil⟩
  F_Single_spent := (c.def_ 44 rfl)
  c_Single_spent := ⟨(c.def_ 44 (d := d_Single_spent) rfl).kp, [], FunD.bindsN (c.def_ 44 (d := d_Single_spent) rfl) (fun _ _ _ _ _ _ us hl => match us, hl with | [_], _ => rfl), .nil⟩
  F_Single_ring := (c.def_ 45 rfl)
  c_Single_ring := ⟨(c.def_ 45 (d := d_Single_ring) rfl).kp, [], FunD.bindsN (c.def_ 45 (d := d_Single_ring) rfl) (fun _ _ _ _ _ _ us hl => match us, hl with | [_, _], _ => rfl), .nil⟩
  F_Single_take := (c.def_ 46 rfl)
  c_Single_take := ⟨(c.def_ 46 (d := d_Single_take) rfl).kp, [], FunD.bindsN (c.def_ 46 (d := d_Single_take) rfl) (fun _ _ _ _ _ _ us hl => match us, hl with | [_], _ => rfl), .nil⟩
  F_Single_tick := (c.def_ 47 rfl)
  c_Single_tick := ⟨(c.def_ 47 (d := d_Single_tick) rfl).kp, [], FunD.bindsN (c.def_ 47 (d := d_Single_tick) rfl) (fun _ _ _ _ _ _ us hl => match us, hl with | [_], _ => rfl), .nil⟩
  F_w_taken := (c.def_ 48 rfl)
  c_w_taken := ⟨(c.def_ 48 (d := d_w_taken) rfl).kp, [], FunD.bindsN (c.def_ 48 (d := d_w_taken) rfl) (fun _ _ _ _ _ _ us hl => match us, hl with | [_, _], _ => rfl), .nil⟩
  F_w_mixed := (c.def_ 49 rfl)
  c_w_mixed := ⟨(c.def_ 49 (d := d_w_mixed) rfl).kp, [], FunD.bindsN (c.def_ 49 (d := d_w_mixed) rfl) (fun _ _ _ _ _ _ us hl => match us, hl with | [_, _], _ => rfl), .nil⟩
  F_w_plain := (c.def_ 50 rfl)
  c_w_plain := ⟨(c.def_ 50 (d := d_w_plain) rfl).kp, [], FunD.bindsN (c.def_ 50 (d := d_w_plain) rfl) (fun _ _ _ _ _ _ us hl => match us, hl with | [_, _, _], _ => rfl), .nil⟩
  F_law := (c.def_ 51 rfl)
  c_law := ⟨(c.def_ 51 (d := d_law) rfl).kp, [], FunD.bindsN (c.def_ 51 (d := d_law) rfl) (fun _ _ _ _ _ _ us hl => match us, hl with | [_], _ => rfl), .nil⟩
  c2_Setup_init := calD0 (c.def_ 8 (d := d_Setup_init) rfl) 2 (by simp [d_Setup_init]) rfl (fun _ _ _ _ _ _ _ us its hl hi => match us, its, hl, hi with | [_, _], [_], _, _ => ⟨_, rfl, rfl⟩)
  g_Setup := He.glo_ok X G (c.fact 34 rfl)
  cl_Setup := He.cls_ok (c.fact 35 rfl)
  mk_Setup := He.mkr_ok (c.fact 36 rfl)
  n_Setup_line_rows := He.noat_ok (c.fact 37 rfl)
  n_Setup_work_rows := He.noat_ok (c.fact 38 rfl)
  n_Setup_rows_by_name := He.noat_ok (c.fact 39 rfl)
  n_Setup_works_by_name := He.noat_ok (c.fact 40 rfl)
  m_Setup_init := He.meth_ok (c.fact 41 rfl)
  p_Setup_order := fProp_ok (c.fact 42 rfl)
  m_Setup_contains := He.meth_ok (c.fact 43 rfl)
  m_Setup_getitem := He.meth_ok (c.fact 44 rfl)
  sub_Setup := (c.fact 45 rfl)
  m_Setup_check_line := He.meth_ok (c.fact 46 rfl)
  k_Setup_MAX_LINES := fClsI_ok (c.fact 47 rfl)
  k_Setup_MAX_WORKS := fClsI_ok (c.fact 48 rfl)
  k_Setup_MAX_FLAG := fClsI_ok (c.fact 49 rfl)
  g_Board := He.glo_ok X G (c.fact 50 rfl)
  cl_Board := He.cls_ok (c.fact 51 rfl)
  mk_Board := He.mkr_ok (c.fact 52 rfl)
  n_Board_plan := He.noat_ok (c.fact 53 rfl)
  n_Board_shut := He.noat_ok (c.fact 54 rfl)
  n_Board_wanted := He.noat_ok (c.fact 55 rfl)
  n_Board_high := He.noat_ok (c.fact 56 rfl)
  n_Board_taken := He.noat_ok (c.fact 57 rfl)
  n_Board_raised := He.noat_ok (c.fact 58 rfl)
  n_Board_joined := He.noat_ok (c.fact 59 rfl)
  m_Board_init := He.meth_ok (c.fact 60 rfl)
  m_Board_ring := He.meth_ok (c.fact 61 rfl)
  m_Board_put := He.meth_ok (c.fact 62 rfl)
  m_Board_is_up := He.meth_ok (c.fact 63 rfl)
  m_Board_is_waiting := He.meth_ok (c.fact 64 rfl)
  m_Board_can_begin := He.meth_ok (c.fact 65 rfl)
  m_Board_begun := He.meth_ok (c.fact 66 rfl)
  m_Board_ended := He.meth_ok (c.fact 67 rfl)
  m_Board_carry := He.meth_ok (c.fact 68 rfl)
  g_Core := He.glo_ok X G (c.fact 69 rfl)
  cl_Core := He.cls_ok (c.fact 70 rfl)
  mk_Core := He.mkr_ok (c.fact 71 rfl)
  n_Core_plan := He.noat_ok (c.fact 72 rfl)
  n_Core_frames := He.noat_ok (c.fact 73 rfl)
  n_Core_limit := He.noat_ok (c.fact 74 rfl)
  n_Core_jobs := He.noat_ok (c.fact 75 rfl)
  m_Core_init := He.meth_ok (c.fact 76 rfl)
  m_Core_innermost_rank := He.meth_ok (c.fact 77 rfl)
  m_Core_may_take := He.meth_ok (c.fact 78 rfl)
  m_Core_step_now := He.meth_ok (c.fact 79 rfl)
  m_Core_begin := He.meth_ok (c.fact 80 rfl)
  m_Core_pass_steps := He.meth_ok (c.fact 81 rfl)
  m_Core_pass_step := He.meth_ok (c.fact 82 rfl)
  m_Core_leave_work := He.meth_ok (c.fact 83 rfl)
  m_Core_job_places := He.meth_ok (c.fact 84 rfl)
  m_Core_tick := He.meth_ok (c.fact 85 rfl)
  m_Core_is_passing := He.meth_ok (c.fact 86 rfl)
  m_Core_spend := He.meth_ok (c.fact 87 rfl)
  m_Core_do_work := He.meth_ok (c.fact 88 rfl)
  g_Single := He.glo_ok X G (c.fact 89 rfl)
  cl_Single := He.cls_ok (c.fact 90 rfl)
  mk_Single := He.mkr_ok (c.fact 91 rfl)
  n_Single_plan := He.noat_ok (c.fact 92 rfl)
  n_Single_board := He.noat_ok (c.fact 93 rfl)
  n_Single_core := He.noat_ok (c.fact 94 rfl)
  n_Single_time := He.noat_ok (c.fact 95 rfl)
  n_Single_sums := He.noat_ok (c.fact 96 rfl)
  m_Single_init := He.meth_ok (c.fact 97 rfl)
  p_Single_now := fProp_ok (c.fact 98 rfl)
  p_Single_waiting := fProp_ok (c.fact 99 rfl)
  p_Single_calls := fProp_ok (c.fact 100 rfl)
  p_Single_queue := fProp_ok (c.fact 101 rfl)
  p_Single_flags_up := fProp_ok (c.fact 102 rfl)
  p_Single_bar := fProp_ok (c.fact 103 rfl)
  p_Single_masked := fProp_ok (c.fact 104 rfl)
  p_Single_highs := fProp_ok (c.fact 105 rfl)
  p_Single_spent := fProp_ok (c.fact 106 rfl)
  m_Single_ring := He.meth_ok (c.fact 107 rfl)
  m_Single_take := He.meth_ok (c.fact 108 rfl)
  m_Single_tick := He.meth_ok (c.fact 109 rfl)
  u_isinstance := He.free_ok X G (c.fact 110 rfl)
  u_bool := He.free_ok X G (c.fact 111 rfl)
  u_int := He.free_ok X G (c.fact 112 rfl)
  u_all := He.free_ok X G (c.fact 113 rfl)
  u_str := He.free_ok X G (c.fact 114 rfl)
  u_len := He.free_ok X G (c.fact 115 rfl)
  u_tuple := He.free_ok X G (c.fact 116 rfl)
  u_enumerate := He.free_ok X G (c.fact 117 rfl)
  u_sorted := He.free_ok X G (c.fact 118 rfl)
  u_max := He.free_ok X G (c.fact 119 rfl)
  u_list := He.free_ok X G (c.fact 120 rfl)
  u_range := He.free_ok X G (c.fact 121 rfl)
  u_dict := He.free_ok X G (c.fact 122 rfl)
  u_set := He.free_ok X G (c.fact 123 rfl)
def names : List PySem.Str := (["_wall", "BellError", "InvalidSetup", "UnknownLine", "NotLevel", "InvalidNumber", "LETTERS", "MAX_NAME", "MAX_RANK", "MAX_STEPS", "MAX_TICKS", "MAX_FLAG", "EDGE", "LEVEL", "RUN", "QUIET", "AWAIT", "BAR", "LATER", "LINE_WORDS", "FLAG_WORDS", "is_integer", "check_number", "is_word", "is_name", "is_line", "is_work", "is_step", "check_lines", "check_works"] : List PySem.Str) ++ (["Setup", "lines_without", "setup_of", "CALL", "SPUN", "WORK", "IDLE", "Board", "Core", "MAX_AT_ONCE", "Single", "_law_taken", "_law_mixed", "_law_plain"] : List PySem.Str)
end T
set_option maxHeartbeats 0
namespace T
open PySem PySem.Spec PyProof.Rows L2 Z
open He (ga ma)
abbrev R : PySem.W.OpenRow := PySem.W.OpenLaw.row PySem.Challenge.rw_callbells_k16_whole_the_greatest_rank_go
abbrev hk : PySem.W.Hook := hookR 1400 fa fn
def ob (s : PySem.W.SharedT) : Z.Seen := seeR 1400 fa fn (HandSHeadRun.getT s)
theorem ob_eq (s : PySem.W.SharedT) : ob s = hk.obs s.abs := seeR_eq (HandSHeadRun.getT_eq s)
theorem run (w : World) : HandSHeadRun.RunEq R (PySem.W.view R.prog [49]) hk ob 9000 names w := by
  intro os
  kernel_rfl
end T
set_option maxHeartbeats 1000000
namespace Z
open PySem PySem.Spec PyProof.Rows L2
/-! ### what set-ups are made of -/
def isIntD (lo hi : Int) : PyData → Bool
  | .int i => decide (lo ≤ i ∧ i ≤ hi)
  | _ => false
def letters : List Nat := ("abcdefghijklmnopqrstuvwxyz" : Str).cps.toList
def isWord : PyData → Bool
  | .str z => !decide (V.str z = V.str "") && z.cps.toList.all fun c => decide (c ∈ letters)
  | _ => false
def isName (d : PyData) : Bool := isWord d && match d with
  | .str z => decide ((z.length : Int) ≤ 8)
  | _ => false
def isKind : PyData → Bool
  | .str z => inV (.str z) [.str "edge", .str "level"]
  | _ => false
def isSteps (n : Nat) : PyData → Bool
  | .tuple xs => decide ((1 : Int) ≤ xs.length) && decide ((xs.length : Int) ≤ n)
  | _ => false
def isLine : PyData → Bool
  | .tuple [a, b, c, e] => isName a && (isKind b && (isIntD 1 9 c && isSteps 8 e))
  | _ => false
theorem isLine_no {ds : List PyData} (h : ds.length ≠ 4) : isLine (.tuple ds) = false := by
  unfold isLine
  split
  · rename_i e
    cases e
    simp at h
  · rfl
def isWork : PyData → Bool
  | .tuple [a, b, c] => isName a && (isIntD 1 9 b && isIntD 1 99 c)
  | _ => false
theorem isWork_no {ds : List PyData} (h : ds.length ≠ 3) : isWork (.tuple ds) = false := by
  unfold isWork
  split
  · rename_i e
    cases e
    simp at h
  · rfl
abbrev lineWords : List V := [.str "ring", .str "quiet", .str "mask", .str "unmask"]
abbrev flagWords : List V := [.str "set", .str "clear", .str "await"]
def isStepX (kvs : List (Key × V)) (ws : List V) (w : Str) (x : PyData) : Bool :=
  if inV (.str w) lineWords = true then (match x with
    | .str y => (valV kvs (.inr y)).isSome && (!decide (V.str w = V.str "quiet") || decide (valV kvs (.inr y) = some (.str "level")))
    | _ => false)
  else if decide (V.str w = V.str "later") = true then (match x with
    | .str y => inV (.str y) ws
    | _ => false)
  else if inV (.str w) flagWords = true then isIntD 0 7 x
  else (decide (V.str w = V.str "run") && isIntD 1 99 x) || (decide (V.str w = V.str "bar") && isIntD 0 9 x)
def isStep (kvs : List (Key × V)) (ws : List V) : PyData → Bool
  | .tuple [.str w, x] => isStepX kvs ws w x
  | _ => false
def strVals (kvs : List (Key × V)) : Prop := ∀ k v, valV kvs k = some v → ∃ z, v = .str z
theorem isStep_no {kvs : List (Key × V)} {ws : List V} {ds : List PyData} (h : ds.length ≠ 2) : isStep kvs ws (.tuple ds) = false := by
  unfold isStep
  split
  · rename_i e
    cases e
    simp at h
  · rfl
def nameD : PyData → Str
  | .tuple (.str n :: _) => n
  | _ => ""
theorem isLine_name {d : PyData} (h : isLine d = true) : ∃ a b c e, d = .tuple [.str a, b, c, e] := by
  unfold isLine at h
  split at h
  · rename_i a b c e
    obtain ⟨h1, _⟩ := Bool.and_eq_true_iff.mp h
    obtain ⟨h2, _⟩ := Bool.and_eq_true_iff.mp (show (isWord a && _) = true from h1)
    cases a <;> try (cases h2; done)
    exact ⟨_, b, c, e, rfl⟩
  · cases h
theorem isWork_name {d : PyData} (h : isWork d = true) : ∃ a b c, d = .tuple [.str a, b, c] := by
  unfold isWork at h
  split at h
  · rename_i a b c
    obtain ⟨h1, _⟩ := Bool.and_eq_true_iff.mp h
    obtain ⟨h2, _⟩ := Bool.and_eq_true_iff.mp (show (isWord a && _) = true from h1)
    cases a <;> try (cases h2; done)
    exact ⟨_, b, c, rfl⟩
  · cases h
theorem isLine_name2 {d : PyData} (h : isLine d = true) : ∃ n r, d = .tuple (.str n :: r) := by
  obtain ⟨a, b, c, e, rfl⟩ := isLine_name h
  exact ⟨a, _, rfl⟩
theorem isWork_name2 {d : PyData} (h : isWork d = true) : ∃ n r, d = .tuple (.str n :: r) := by
  obtain ⟨a, b, c, rfl⟩ := isWork_name h
  exact ⟨a, _, rfl⟩
theorem inV_strs {x : Str} : ∀ {l : List Str}, inV (.str x) (l.map V.str) = decide (x ∈ l)
  | [] => rfl
  | y :: l => by
    show ((y == x) || inV (.str x) (l.map V.str)) = _
    rw [inV_strs (l := l)]
    by_cases h : x = y
    · subst h
      simp
    · have : (y == x) = false := beq_eq_false_iff_ne.mpr fun z => h z.symm
      simp [this, h]
theorem flat_strs : ∀ {l : List Str}, (l.map V.str).all flatV = true
  | [] => rfl
  | _ :: l => by
    show (true && (l.map V.str).all flatV) = true
    rw [flat_strs (l := l)]
    rfl
theorem nodup_take {α : Type} {l : List α} (h : l.Nodup) {i : Nat} {x : α} (e : l[i]? = some x) : ¬ x ∈ l.take i := fun hm => by
  obtain ⟨j, hj, ej⟩ := List.mem_iff_getElem.mp hm
  have hi : j < i := by rw [List.length_take] at hj; omega
  have e2 : l[j]? = some x := by
    rw [← ej, List.getElem_take]
    exact List.getElem?_eq_getElem _
  have := nd_ix h e2 e
  omega
end Z
set_option maxHeartbeats 1000000
namespace Z
open PySem PySem.Spec PyProof.Rows L2
open He (ga ma)
/-! ### what changes: only at A, never a tuple -/
def tupO : HO → Bool
  | .tup _ => true
  | .frz _ _ => true
  | _ => false
def Fr (A : List Addr) (H H' : Hp) : Prop := (∀ a o, H a = some o → (a ∉ A ∨ tupO o = true) → H' a = some o) ∧ ∀ a, H' a = none → H a = none
section
variable {A B : List Addr} {H H1 H2 : Hp} {a : Addr} {o o' : HO}
theorem Fr.refl : Fr A H H := ⟨fun _ _ h _ => h, fun _ h => h⟩
theorem Fr.trans (x : Fr A H H1) (y : Fr A H1 H2) : Fr A H H2 := ⟨fun a o h n => y.1 a o (x.1 a o h n) n, fun a h => x.2 a (y.2 a h)⟩
theorem Fr.mono (x : Fr A H H1) (s : ∀ a ∈ A, a ∈ B) : Fr B H H1 := ⟨fun a o h n => x.1 a o h (n.imp (fun z z' => z (s a z')) id), x.2⟩
theorem Fr.same (x : Fr [] H H1) : Same H H1 := fun a o h => x.1 a o h (.inl (by simp))
theorem _root_.L2.Same.fr (s : Same H H1) : Fr A H H1 := ⟨fun a o h _ => s a o h, fun a h => by
  cases e : H a with
  | none => rfl
  | some o => rw [s a o e] at h; cases h⟩
theorem Fr.tk (x : Fr A H H1) : Tk H H1 := fun a h => by
  rcases h with ⟨xs, h⟩ | ⟨o, u, h⟩
  · rw [h, x.1 a _ h (.inr rfl)]
  · rw [h, x.1 a _ h (.inr rfl)]
theorem Fr.new (h : H a = none) : Fr A H (upd H a o) := (Same.new h).fr
theorem Fr.upd (hm : a ∈ A) (h : H a = some o) (ht : tupO o = false) : Fr A H (upd H a o') := by
  refine ⟨fun c u e n => ?_, fun c e => ?_⟩
  · by_cases z : c = a
    · subst z
      rw [h] at e
      cases e
      rcases n with n | n
      · exact absurd hm n
      · rw [ht] at n
        cases n
    · rw [upd_ne z]
      exact e
  · by_cases z : c = a
    · subst z
      rw [upd_same] at e
      cases e
    · rw [upd_ne z] at e
      exact e
theorem Fr.at (x : Fr A H H1) (h : H a = some o) (n : a ∉ A) : H1 a = some o := x.1 a o h (.inl n)
theorem Fr.back (x : Fr A H H1) (h : H1 a = none) : H a = none := x.2 a h
/-- what is new since H is free for the caller -/
theorem Fr.cut {N : List Addr} (x : Fr N H H1) (hN : ∀ a ∈ N, a ∈ A ∨ H a = none) : Fr A H H1 := ⟨fun a o h n => by
  refine x.1 a o h ?_
  rcases n with n | n
  · refine .inl fun z => ?_
    rcases hN a z with z | z
    · exact n z
    · rw [h] at z
      cases z
  · exact .inr n, x.2⟩
end
/-! ### set-ups -/
def kD : Key → PyData
  | .inl i => .int i
  | .inr z => .str z
structure Ln where
  nm : Str
  kd : Str
  rk : Int
  st : List (Str × Key)
structure Wk where
  nm : Str
  rk : Int
  tk : Int
structure Pl where
  ls : List Ln
  ws : List Wk
def dSt (s : Str × Key) : PyData := .tuple [.str s.1, kD s.2]
def dLn (l : Ln) : PyData := .tuple [.str l.nm, .str l.kd, .int l.rk, .tuple (l.st.map dSt)]
def dWk (w : Wk) : PyData := .tuple [.str w.nm, .int w.rk, .int w.tk]
def Pl.kinds (P : Pl) : List (Key × V) := P.ls.map fun l => (.inr l.nm, .str l.kd)
def Pl.names (P : Pl) : List Str := P.ls.map (·.nm)
def Pl.wnames (P : Pl) : List Str := P.ws.map (·.nm)
structure Pl.Ok (P : Pl) : Prop where
  ne : P.ls ≠ []
  l12 : P.ls.length ≤ 12
  w8 : P.ws.length ≤ 8
  lok : ∀ l ∈ P.ls, isLine (dLn l) = true
  wok : ∀ w ∈ P.ws, isWork (dWk w) = true
  lnd : P.names.Nodup
  wnd : P.wnames.Nodup
  sok : ∀ l ∈ P.ls, ∀ s ∈ l.st, isStep P.kinds (P.wnames.map V.str) (dSt s) = true
  shl : ∀ l ∈ P.ls, short (dLn l) = true
  shw : ∀ w ∈ P.ws, short (dWk w) = true ∧ (PyData.str w.nm).canLay0 = true
theorem tupd_kD (k : Key) : tupd (kD k) = true := by cases k <;> rfl
theorem tupds_map {α : Type} {f : α → PyData} (h : ∀ x, tupd (f x) = true) : ∀ l : List α, tupds (l.map f) = true
  | [] => rfl
  | x :: l => by
    show (tupd (f x) && tupds (l.map f)) = true
    rw [h x, tupds_map h l]
    rfl
theorem tupd_dSt (s : Str × Key) : tupd (dSt s) = true := by
  show (true && (tupd (kD s.2) && true)) = true
  rw [tupd_kD]
  rfl
theorem tupd_dLn (l : Ln) : tupd (dLn l) = true := by
  show (true && (true && (true && (tupds (l.st.map dSt) && true)))) = true
  rw [tupds_map tupd_dSt]
  rfl
theorem tupd_dWk (w : Wk) : tupd (dWk w) = true := rfl
theorem shorts_map {α : Type} {f : α → PyData} : ∀ {l : List α}, (∀ x ∈ l, short (f x) = true) → shorts (l.map f) = true
  | [], _ => rfl
  | x :: l, h => by
    show (short (f x) && shorts (l.map f)) = true
    rw [h x (by simp), shorts_map fun y hy => h y (List.mem_cons_of_mem _ hy)]
    rfl
/-! a line, a work by its name -/
def Pl.ln (P : Pl) (z : Str) : Ln := (P.ls.find? fun l => l.nm == z).getD ⟨z, "", 0, []⟩
def Pl.wk (P : Pl) (z : Str) : Wk := (P.ws.find? fun w => w.nm == z).getD ⟨z, 0, 0⟩
theorem find_nd {α : Type} {f : α → Str} : ∀ {l : List α} {x : α}, (l.map f).Nodup → x ∈ l → (l.find? fun y => f y == f x) = some x
  | y :: l, x, hn, hm => by
    rw [List.map_cons, List.nodup_cons] at hn
    rcases List.mem_cons.mp hm with rfl | hm
    · simp
    · have : (f y == f x) = false := beq_eq_false_iff_ne.mpr fun e => hn.1 (by rw [e]; exact List.mem_map_of_mem hm)
      rw [List.find?_cons, this]
      exact find_nd hn.2 hm
theorem Pl.Ok.ln_eq {P : Pl} (h : P.Ok) {l : Ln} (hl : l ∈ P.ls) : P.ln l.nm = l := by
  unfold Pl.ln
  rw [find_nd (f := Ln.nm) h.lnd hl]
  rfl
theorem Pl.Ok.wk_eq {P : Pl} (h : P.Ok) {w : Wk} (hl : w ∈ P.ws) : P.wk w.nm = w := by
  unfold Pl.wk
  rw [find_nd (f := Wk.nm) h.wnd hl]
  rfl
theorem Pl.Ok.ln_mem {P : Pl} (h : P.Ok) {z : Str} (hz : z ∈ P.names) : P.ln z ∈ P.ls ∧ (P.ln z).nm = z := by
  obtain ⟨l, hl, rfl⟩ := List.mem_map.mp hz
  rw [h.ln_eq hl]
  exact ⟨hl, rfl⟩
theorem Pl.Ok.wk_mem {P : Pl} (h : P.Ok) {z : Str} (hz : z ∈ P.wnames) : P.wk z ∈ P.ws ∧ (P.wk z).nm = z := by
  obtain ⟨l, hl, rfl⟩ := List.mem_map.mp hz
  rw [h.wk_eq hl]
  exact ⟨hl, rfl⟩
/-! ### a set-up in the heap -/
structure DictOf {α : Type} (K : Fg) (H : Hp) (rd : Addr) (nm : α → Str) (d : α → PyData) (l : List α) : Prop where
  at_ : ∃ kvs, H rd = some (.dK kvs) ∧ (∀ z, (valV kvs (.inr z)).isSome = decide (z ∈ l.map nm)) ∧ ∀ x ∈ l, ∃ v, valV kvs (.inr (nm x)) = some v ∧ Dp K H v (d x)
theorem DictOf.keep {α : Type} {K : Fg} {H H' : Hp} {rd : Addr} {nm : α → Str} {d : α → PyData} {l : List α} (h : DictOf K H rd nm d l) (e : H' rd = H rd) (t : Tk H H') (hd : ∀ x, tupd (d x) = true) : DictOf K H' rd nm d l := by
  obtain ⟨kvs, h1, h2, h3⟩ := h.at_
  refine ⟨kvs, by rw [e]; exact h1, h2, fun x hx => ?_⟩
  obtain ⟨v, h4, h5⟩ := h3 x hx
  exact ⟨v, h4, h5.tk t (hd x)⟩
def planF (a b rd wd : Addr) : List (Str × V) := [("line_rows", .ref a), ("work_rows", .ref b), ("rows_by_name", .ref rd), ("works_by_name", .ref wd)]
/-- addresses of a set-up: the object, its two dicts -/
structure PA where
  p : Addr
  rd : Addr
  wd : Addr
def PA.own (D : PA) : List Addr := [D.p, D.rd, D.wd]
structure PlanAt (K : Fg) (H : Hp) (D : PA) (P : Pl) : Prop where
  ok : P.Ok
  ins : ∃ dx a b, H D.p = some (.ins (ga K "Setup") dx (planF a b D.rd D.wd)) ∧ Dp K H (.ref a) (.tuple (P.ls.map dLn)) ∧ Dp K H (.ref b) (.tuple (P.ws.map dWk))
  rows : DictOf K H D.rd (·.nm) dLn P.ls
  works : DictOf K H D.wd (·.nm) dWk P.ws
theorem PlanAt.keep {K : Fg} {H H' : Hp} {D : PA} {P : Pl} (h : PlanAt K H D P) {A : List Addr} (f : Fr A H H') (n : ∀ a ∈ D.own, a ∉ A) : PlanAt K H' D P := by
  obtain ⟨dx, a, b, h1, h2, h3⟩ := h.ins
  have e1 := f.at h1 (n _ (by simp [PA.own]))
  have e2 : H' D.rd = H D.rd := by
    obtain ⟨kvs, h1, _⟩ := h.rows.at_
    rw [h1, f.at h1 (n _ (by simp [PA.own]))]
  have e3 : H' D.wd = H D.wd := by
    obtain ⟨kvs, h1, _⟩ := h.works.at_
    rw [h1, f.at h1 (n _ (by simp [PA.own]))]
  refine ⟨h.ok, ⟨dx, a, b, e1, h2.tk f.tk (tupds_map tupd_dLn _), h3.tk f.tk (tupds_map tupd_dWk _)⟩, h.rows.keep e2 f.tk tupd_dLn, h.works.keep e3 f.tk tupd_dWk⟩
theorem PlanAt.same {K : Fg} {H H' : Hp} {D : PA} {P : Pl} (h : PlanAt K H D P) (f : Same H H') : PlanAt K H' D P := h.keep (A := []) f.fr (by simp)
/-! ### dict comprehensions over a tuple -/
theorem valV_notin {kvs : List (Key × V)} {k : Key} (h : k ∉ kvs.map (·.1)) : valV kvs k = none := by
  unfold valV
  rw [List.find?_eq_none.mpr fun x hx => ?_]
  · rfl
  · simp only [decide_eq_true_eq]
    intro e
    exact h (by rw [← e]; exact List.mem_map_of_mem hx)
theorem zip_fst {α β : Type} : ∀ {l : List α} {m : List β}, l.length = m.length → (l.zip m).map (·.1) = l
  | [], [], _ => rfl
  | _ :: l, _ :: m, h => by
    simp only [List.zip_cons_cons, List.map_cons]
    rw [zip_fst (by simpa using h)]
theorem dc_dat {K : Fg} {a : Addr} {xs : List V} {g : TG} {tt : TT} {tk tv : TE} {vs : List Nat} {σ : L2.St} {H1 : Hp} {D : Addr} {Qd : Hp → Prop} (ks : List Key) (vv : List V) (h1 : ks.length = xs.length) (h2 : ks.length = vv.length) (hnd : ks.Nodup) (hD : H1 D = none) (hT : SqT K H1 a xs) (hn : xs.length ≤ 40000)
    (hs : ∀ (i : Nat) (x : V) (k : Key) (v : V) (H : Hp) (Z : V → V → Hp → Prop) (N : Hp → Prop), xs[i]? = some x → ks[i]? = some k → vv[i]? = some v → Same H1 H → (∀ H5, Same H H5 → Z (kV k) v H5) →
      g x (wipe σ vs) H fun σ2 H2 => wipe σ2 vs = wipe σ vs ∧ tt σ2 H2 fun b H3 => if b = true then tk σ2 H3 fun y H4 => tv σ2 H4 fun z H5 => Z y z H5 else N H3)
    (hd : ∀ H', Same H1 H' → H' D = some (.dK (ks.zip vv)) → Qd H') :
    ∃ W : Nat → Nat → Hp → Prop, (∃ m, W 0 m (upd H1 D (.dK []))) ∧ ∀ i m H, W i m H →
      ((Itt K a).stop i H ∧ Qd H) ∨ ((Itt K a).go i H ∧ ∃ Nx : Hp → Prop, (∀ H', Nx H' → ∃ m', m' < m ∧ W (i + 1) m' H') ∧ ∀ x H', (Itt K a).yld i H x H' → g x (wipe σ vs) H' fun σ2 H2 => wipe σ2 vs = wipe σ vs ∧ tt σ2 H2 fun b H3 =>
        if b = true then tk σ2 H3 fun y H4 => tv σ2 H4 fun z H5 => ∃ kvs k, y = kV k ∧ H5 D = some (.dK kvs) ∧ kvs.length < sizeLine ∧ Nx (upd H5 D (.dK (putK kvs k z))) else Nx H3) := by
  have hz : (ks.zip vv).length = xs.length := by rw [List.length_zip]; omega
  refine dc_tup (fun i H => Same H1 H ∧ H D = some (.dK ((ks.zip vv).take i))) ⟨Same.new hD, upd_same⟩ (fun i H _ p => p.1.sqT hT) (fun i x H hx p => ?_) (fun H p => ?_)
  · obtain ⟨s1, e1⟩ := p
    have hi : i < xs.length := (List.getElem?_eq_some_iff.mp hx).1
    have hk : ks[i]? = some ks[i] := List.getElem?_eq_getElem (by omega)
    have hv : vv[i]? = some vv[i] := List.getElem?_eq_getElem (by omega)
    refine hs i x _ _ H (fun y z H5 => ∃ kvs k, y = kV k ∧ H5 D = some (.dK kvs) ∧ kvs.length < sizeLine ∧ (Same H1 (upd H5 D (.dK (putK kvs k z))) ∧ upd H5 D (.dK (putK kvs k z)) D = some (.dK ((ks.zip vv).take (i + 1))))) _ hx hk hv s1 fun H5 s5 => ?_
    refine ⟨_, _, rfl, s5 _ _ e1, ?_, fun c o h => ?_, ?_⟩
    · rw [List.length_take, sizeLine_eq]
      omega
    · rw [upd_ne (ne_of_none h hD)]
      exact s5 _ _ (s1 _ _ h)
    · have hzi : (ks.zip vv)[i]? = some (ks[i], vv[i]) := by
        rw [List.getElem?_eq_getElem (by omega), List.getElem_zip]
      have hno : valV ((ks.zip vv).take i) ks[i] = none := by
        refine valV_notin ?_
        rw [List.map_take, zip_fst h2]
        exact fun hm => by
          obtain ⟨j, hj, ej⟩ := List.mem_iff_getElem.mp hm
          have hji : j < i := by rw [List.length_take] at hj; omega
          have e2 : ks[j]? = some ks[i] := by
            rw [← ej, List.getElem_take]
            exact List.getElem?_eq_getElem _
          have := nd_ix hnd e2 hk
          omega
      rw [upd_same, putK_new _ hno, List.take_add_one, hzi]
      rfl
  · obtain ⟨s1, e1⟩ := p
    rw [← hz, List.take_length] at e1
    exact hd H s1 e1
theorem valV_zip {ks : List Key} {vv : List V} (hnd : ks.Nodup) {i : Nat} {k : Key} {v : V} (hk : ks[i]? = some k) (hv : vv[i]? = some v) : valV (ks.zip vv) k = some v := by
  induction ks generalizing vv i with
  | nil => simp at hk
  | cons a l ih =>
    cases vv with
    | nil => simp at hv
    | cons b m =>
      rw [List.nodup_cons] at hnd
      cases i with
      | zero =>
        simp at hk hv
        subst hk hv
        exact valV_pos rfl
      | succ i =>
        have hk2 : l[i]? = some k := by simpa using hk
        have hne : ¬ a = k := fun e => hnd.1 (by rw [e]; exact List.mem_of_getElem? hk2)
        rw [List.zip_cons_cons, valV_neg hne]
        exact ih hnd.2 hk2 (by simpa using hv)
theorem dictOf_zip {α : Type} {K : Fg} {H : Hp} {rd : Addr} {nm : α → Str} {d : α → PyData} {l : List α} {vv : List V} (h : H rd = some (.dK ((l.map fun x => (Sum.inr (nm x) : Key)).zip vv))) (hnd : (l.map nm).Nodup) (ha : DpAll K H vv (l.map d)) : DictOf K H rd nm d l := by
  have hl : vv.length = l.length := by rw [ha.len, List.length_map]
  have hk : (l.map fun x => (Sum.inr (nm x) : Key)) = (l.map nm).map Sum.inr := by rw [List.map_map]; rfl
  have hn2 : (l.map fun x => (Sum.inr (nm x) : Key)).Nodup := by
    rw [hk]
    exact List.Pairwise.map Sum.inr (fun a b h e => h (Sum.inr.inj e)) hnd
  refine ⟨_, h, fun z => ?_, fun x hx => ?_⟩
  · by_cases hz : z ∈ l.map nm
    · obtain ⟨i, hi⟩ := List.mem_iff_getElem?.mp hz
      have hil : i < l.length := by have := (List.getElem?_eq_some_iff.mp hi).1; rwa [List.length_map] at this
      have h1 : (l.map fun x => (Sum.inr (nm x) : Key))[i]? = some (.inr z) := by rw [hk, List.getElem?_map, hi]; rfl
      have h2 : vv[i]? = some vv[i] := List.getElem?_eq_getElem (by omega)
      rw [valV_zip hn2 h1 h2, decide_eq_true hz]
      rfl
    · rw [valV_notin, decide_eq_false hz]
      · rfl
      · rw [zip_fst (by rw [List.length_map, hl]), hk]
        intro hm
        obtain ⟨y, hy, e⟩ := List.mem_map.mp hm
        cases e
        exact hz hy
  · obtain ⟨i, hi⟩ := List.mem_iff_getElem?.mp hx
    have h1 : (l.map fun x => (Sum.inr (nm x) : Key))[i]? = some (.inr (nm x)) := by rw [List.getElem?_map, hi]; rfl
    have h3 : (l.map d)[i]? = some (d x) := by rw [List.getElem?_map, hi]; rfl
    obtain ⟨v, hv, hd⟩ := ha.get h3
    exact ⟨v, valV_zip hn2 h1 hv, hd⟩
end Z
set_option maxHeartbeats 1000000
namespace Z
open PySem PySem.Spec PyProof.Rows L2
open He (ga ma)
section
variable {K : Fg} {σ : L2.St} {H H1 : Hp} {Q : VK} {g : TG} {tt : TT} {te tk tv tl : TE} {vs : List Nat} {x : V} {a : Addr} {xs : List V} {α : Type} {l : List α} {da : α → PyData}
/-! ### comprehensions over tuples and lists of data -/
def LcQ (J : It) (g : TG) (tt : TT) (te : TE) (vs : List Nat) (σ : L2.St) (Q : VK) (H1 : Hp) : Prop := ∀ D, H1 D = none → ∃ W : Nat → Nat → Hp → Prop, (∃ m, W 0 m (upd H1 D (.lst []))) ∧ ∀ i m H, W i m H →
  (J.stop i H ∧ Q (.ref D) H) ∨ (J.go i H ∧ ∃ Nx : Hp → Prop, (∀ H', Nx H' → ∃ m', m' < m ∧ W (i + 1) m' H') ∧ ∀ x H', J.yld i H x H' → g x (wipe σ vs) H' fun σ2 H2 => wipe σ2 vs = wipe σ vs ∧ tt σ2 H2 fun b H3 =>
    if b = true then te σ2 H3 fun y H4 => ∃ acc, H4 D = some (.lst acc) ∧ acc.length < sizeLine ∧ Nx (upd H4 D (.lst (acc ++ [y]))) else Nx H3)
def LcT (K : Fg) (g : TG) (tt : TT) (te : TE) (vs : List Nat) (σ : L2.St) (Q : VK) (x : V) (H1 : Hp) : Prop := ∃ a, x = .ref a ∧ (∃ xs, SqT K H1 a xs) ∧ LcQ (Itt K a) g tt te vs σ Q H1
def LcL (K : Fg) (g : TG) (tt : TT) (te : TE) (vs : List Nat) (σ : L2.St) (Q : VK) (x : V) (H1 : Hp) : Prop := ∃ a, x = .ref a ∧ (∃ xs, SqL K H1 a xs) ∧ LcQ (Itl K a) g tt te vs σ Q H1
theorem s_lcT (q : tl σ H fun x H1 => LcT K g tt te vs σ Q x H1) : tLc (iTup K tl) g tt te vs σ H Q := q
theorem s_lcL (q : tl σ H fun x H1 => LcL K g tt te vs σ Q x H1) : tLc (iList K tl) g tt te vs σ H Q := q
theorem lcT_d (hT : SqT K H1 a xs) (hA : DpAll K H1 xs (l.map da)) (p : α → Bool) (f : α → PyData) (hn : l.length ≤ 40000) (hf : ∀ x ∈ l, tupd (f x) = true)
    (hs : ∀ (x : α) (v : V) (H : Hp) (Yes : VK) (No : Hp → Prop), x ∈ l → Same H1 H → Dp K H v (da x) → (p x = true → ∀ y H4, Same H H4 → Dp K H4 y (f x) → Yes y H4) → (p x = false → ∀ H3, Same H H3 → No H3) →
      g v (wipe σ vs) H fun σ2 H2 => wipe σ2 vs = wipe σ vs ∧ tt σ2 H2 fun b H3 => if b = true then te σ2 H3 Yes else No H3)
    (hd : ∀ D H' ys, H1 D = none → Same H1 H' → H' D = some (.lst ys) → DpAll K H' ys ((l.filter p).map f) → Q (.ref D) H') : LcT K g tt te vs σ Q (.ref a) H1 := by
  have hlen : xs.length = l.length := by rw [hA.len, List.length_map]
  refine ⟨a, rfl, ⟨xs, hT⟩, fun D hD => ?_⟩
  refine lc_dat (K := K) walk_tup (pAt l p) (dAt l f) hD (by rw [hlen]; exact hn) (dAt_tupd hf) (fun H s => s.sqT hT) (fun i H x H' y => by rw [y.1]; exact Same.refl H) (fun i x H H' Yes No hi s1 y yes no => ?_) (fun H' ys s1 e1 a1 => ?_)
  · obtain ⟨rfl, hx⟩ := y
    obtain ⟨d, hd', dd⟩ := hA.getv hx
    rw [List.getElem?_map] at hd'
    obtain ⟨z, hz, rfl⟩ := Option.map_eq_some_iff.mp hd'
    rw [pAt_eq hz, dAt_eq hz] at yes
    rw [pAt_eq hz] at no
    exact hs z x H' Yes No (List.mem_of_getElem? hz) s1 (dd.same s1) yes no
  · rw [hlen, keptD_list] at a1
    exact hd D H' ys hD s1 e1 a1
theorem lcL_d (hT : SqL K H1 a xs) (hA : DpAll K H1 xs (l.map da)) (p : α → Bool) (f : α → PyData) (hn : l.length ≤ 40000) (hf : ∀ x ∈ l, tupd (f x) = true)
    (hs : ∀ (x : α) (v : V) (H : Hp) (Yes : VK) (No : Hp → Prop), x ∈ l → Same H1 H → Dp K H v (da x) → (p x = true → ∀ y H4, Same H H4 → Dp K H4 y (f x) → Yes y H4) → (p x = false → ∀ H3, Same H H3 → No H3) →
      g v (wipe σ vs) H fun σ2 H2 => wipe σ2 vs = wipe σ vs ∧ tt σ2 H2 fun b H3 => if b = true then te σ2 H3 Yes else No H3)
    (hd : ∀ D H' ys, H1 D = none → Same H1 H' → H' D = some (.lst ys) → DpAll K H' ys ((l.filter p).map f) → Q (.ref D) H') : LcL K g tt te vs σ Q (.ref a) H1 := by
  have hlen : xs.length = l.length := by rw [hA.len, List.length_map]
  refine ⟨a, rfl, ⟨xs, hT⟩, fun D hD => ?_⟩
  refine lc_dat (K := K) walk_list (pAt l p) (dAt l f) hD (by rw [hlen]; exact hn) (dAt_tupd hf) (fun H s => s.seq hT) (fun i H x H' y => by rw [y.1]; exact Same.refl H) (fun i x H H' Yes No hi s1 y yes no => ?_) (fun H' ys s1 e1 a1 => ?_)
  · obtain ⟨rfl, hx⟩ := y
    obtain ⟨d, hd', dd⟩ := hA.getv hx
    rw [List.getElem?_map] at hd'
    obtain ⟨z, hz, rfl⟩ := Option.map_eq_some_iff.mp hd'
    rw [pAt_eq hz, dAt_eq hz] at yes
    rw [pAt_eq hz] at no
    exact hs z x H' Yes No (List.mem_of_getElem? hz) s1 (dd.same s1) yes no
  · rw [hlen, keptD_list] at a1
    exact hd D H' ys hD s1 e1 a1
def DcT (K : Fg) (g : TG) (tt : TT) (tk tv : TE) (vs : List Nat) (σ : L2.St) (Q : VK) (x : V) (H1 : Hp) : Prop := ∃ a, x = .ref a ∧ (∃ xs, SqT K H1 a xs) ∧ ∀ D, H1 D = none → ∃ W : Nat → Nat → Hp → Prop, (∃ m, W 0 m (upd H1 D (.dK []))) ∧ ∀ i m H, W i m H →
  ((Itt K a).stop i H ∧ Q (.ref D) H) ∨ ((Itt K a).go i H ∧ ∃ Nx : Hp → Prop, (∀ H', Nx H' → ∃ m', m' < m ∧ W (i + 1) m' H') ∧ ∀ x H', (Itt K a).yld i H x H' → g x (wipe σ vs) H' fun σ2 H2 => wipe σ2 vs = wipe σ vs ∧ tt σ2 H2 fun b H3 =>
    if b = true then tk σ2 H3 fun y H4 => tv σ2 H4 fun z H5 => ∃ kvs k, y = kV k ∧ H5 D = some (.dK kvs) ∧ kvs.length < sizeLine ∧ Nx (upd H5 D (.dK (putK kvs k z))) else Nx H3)
theorem s_dcT (q : tl σ H fun x H1 => DcT K g tt tk tv vs σ Q x H1) : tDc (iTup K tl) g tt tk tv vs σ H Q := q
theorem dcT_d (hT : SqT K H1 a xs) (hA : DpAll K H1 xs (l.map da)) (kf : α → Key) (vv : List V) (h2 : l.length = vv.length) (hnd : (l.map kf).Nodup) (hn : l.length ≤ 40000)
    (hs : ∀ (i : Nat) (x : α) (y v : V) (H : Hp) (Z : V → V → Hp → Prop) (N : Hp → Prop), x ∈ l → l[i]? = some x → xs[i]? = some y → vv[i]? = some v → Same H1 H → Dp K H y (da x) → (∀ H5, Same H H5 → Z (kV (kf x)) v H5) →
      g y (wipe σ vs) H fun σ2 H2 => wipe σ2 vs = wipe σ vs ∧ tt σ2 H2 fun b H3 => if b = true then tk σ2 H3 fun y H4 => tv σ2 H4 fun z H5 => Z y z H5 else N H3)
    (hd : ∀ D H', H1 D = none → Same H1 H' → H' D = some (.dK ((l.map kf).zip vv)) → Q (.ref D) H') : DcT K g tt tk tv vs σ Q (.ref a) H1 := by
  have hlen : xs.length = l.length := by rw [hA.len, List.length_map]
  refine ⟨a, rfl, ⟨xs, hT⟩, fun D hD => ?_⟩
  refine dc_dat (l.map kf) vv (by rw [List.length_map, hlen]) (by rw [List.length_map, h2]) hnd hD hT (by rw [hlen]; exact hn) (fun i x k v H Z N hx hk hv s1 z => ?_) (fun H' s1 e1 => hd D H' hD s1 e1)
  obtain ⟨d, hd', dd⟩ := hA.getv hx
  rw [List.getElem?_map] at hd' hk
  obtain ⟨w, hw, rfl⟩ := Option.map_eq_some_iff.mp hd'
  rw [hw] at hk
  cases hk
  exact hs i w x v H Z N (List.mem_of_getElem? hw) hw hx hv s1 (dd.same s1) z
theorem s_cval {C : Addr} {f : Str} {n : Int} {R : V → Prop} (h : ClsI K C f n) (q : R (.int n)) : ∃ C' mc v u, V.ref C = .ref C' ∧ ClX.CRead K C' mc ∧ ClX.CVal K C' mc f v u ∧ R v := by
  obtain ⟨mc, u, h1, h2⟩ := h
  exact ⟨C, mc, _, u, rfl, h1, h2, q⟩
theorem s_cvalg {ta : TE} {f : Str} (q : ta σ H fun x H1 => ∃ C mc v u, x = .ref C ∧ ClX.CRead K C mc ∧ ClX.CVal K C mc f v u ∧ Q v H1) : ClX.tCVal K ta f σ H Q := q
theorem s_eq0T {b : Addr} {neg : Bool} {xs : List V} (h1 : SqT K H a xs) (h2 : SqT K H b []) (q : Q (.bl (if neg then !xs.isEmpty else xs.isEmpty)) H) : rEq0 K neg (.ref a) (.ref b) H Q := ⟨a, b, xs, rfl, rfl, .inr ⟨h1, h2⟩, q⟩
theorem s_eq0L {b : Addr} {neg : Bool} {xs : List V} (h1 : SqL K H a xs) (h2 : SqL K H b []) (q : Q (.bl (if neg then !xs.isEmpty else xs.isEmpty)) H) : rEq0 K neg (.ref a) (.ref b) H Q := ⟨a, b, xs, rfl, rfl, .inl ⟨h1, h2⟩, q⟩
theorem s_ixO {C : Addr} {sp : Sp} {E : XK} {ta tb : TE} (q : ta σ H fun x H1 => tb σ H1 fun y H2 => ∃ a dx fs, x = .ref a ∧ H2 a = some (.ins C dx fs) ∧ sp [.ref a, y] H2 Q E) : tIxO C sp E ta tb σ H Q := q
variable {ea ec ed : L2.St → Hp → Prop} {eb : VK}
theorem s_fldS {ta tv : TE} {f : Str} (q : tv σ H fun y H1 => ta σ H1 fun x H2 => ∃ a C dx fs, x = .ref a ∧ H2 a = some (.ins C dx fs) ∧ Cls K C ∧ NoAttr K C f ∧ fs.length < 1000 ∧ ea σ (upd H2 a (.ins C dx (putF f y fs)))) : sFld K ta tv f (.mk ea eb ec ed) σ H := q
theorem s_fldput {C dx : Addr} {fs : List (Str × V)} {f : Str} {y : V} {R : Hp → Prop} (h : H a = some (.ins C dx fs)) (c : Cls K C) (n : NoAttr K C f) (hl : fs.length < 1000) (q : R (upd H a (.ins C dx (putF f y fs)))) :
    ∃ b C dx fs, V.ref a = .ref b ∧ H b = some (.ins C dx fs) ∧ Cls K C ∧ NoAttr K C f ∧ fs.length < 1000 ∧ R (upd H b (.ins C dx (putF f y fs))) := ⟨a, C, dx, fs, rfl, h, c, n, hl, q⟩
end
end Z
set_option maxHeartbeats 1000000
namespace Z
open PySem PySem.Spec PyProof.Rows L2
open He (ga ma)
/-! ### plain facts of set-ups -/
def kI : Key → Int
  | .inl i => i
  | .inr _ => 0
def ordD (l : Ln) : PyData := .tuple [.int (0 - l.rk), .str l.nm]
def Pl.order (P : Pl) : List Str := (P.ls.mergeSort (PySem.W.dataLe false ordD)).map (·.nm)
theorem Pl.order_perm (P : Pl) : P.order.Perm P.names := (List.mergeSort_perm _ _).map _
def ticksOf (l : Ln) : Int := ((l.st.filter fun s => decide (s.1 = ("run" : Str))).map fun s => kI s.2).sum
theorem inV_str {w : Str} {l : List Str} (h : inV (.str w) (l.map V.str) = true) : w ∈ l := by
  rw [inV_strs] at h
  exact of_decide_eq_true h
theorem kinds_val {P : Pl} {z : Str} {v : V} (h : valV P.kinds (.inr z) = some v) : ∃ l ∈ P.ls, l.nm = z ∧ v = .str l.kd := by
  unfold valV at h
  obtain ⟨kv, h1, h2⟩ := Option.map_eq_some_iff.mp h
  obtain ⟨l, hl, rfl⟩ := List.mem_map.mp (List.mem_of_find?_eq_some h1)
  have h3 := List.find?_some h1
  exact ⟨l, hl, Sum.inr.inj (of_decide_eq_true h3), h2.symm⟩
theorem Pl.Ok.steps8 {P : Pl} (ok : P.Ok) {l : Ln} (hl : l ∈ P.ls) : l.st.length ≤ 8 := by
  have hk := ok.lok l hl
  simp only [isLine, dLn, isSteps, Bool.and_eq_true, decide_eq_true_eq, List.length_map] at hk
  omega
inductive StepIs (P : Pl) : Str × Key → Prop
  | run (i : Int) : 1 ≤ i → i ≤ 99 → StepIs P ("run", .inl i)
  | bar (i : Int) : 0 ≤ i → i ≤ 9 → StepIs P ("bar", .inl i)
  | later (z : Str) : z ∈ P.wnames → StepIs P ("later", .inr z)
  | flag (w : Str) (i : Int) : w ∈ (["set", "clear", "await"] : List Str) → 0 ≤ i → i ≤ 7 → StepIs P (w, .inl i)
  | line (w z : Str) : w ∈ (["ring", "quiet", "mask", "unmask"] : List Str) → z ∈ P.names → (w = "quiet" → (P.ln z).kd = "level") → StepIs P (w, .inr z)
theorem isInt_k {lo hi : Int} {k : Key} (h : isIntD lo hi (kD k) = true) : ∃ i, k = .inl i ∧ lo ≤ i ∧ i ≤ hi := by
  cases k with
  | inl i => exact ⟨i, rfl, of_decide_eq_true (show decide (lo ≤ i ∧ i ≤ hi) = true from h)⟩
  | inr z => cases h
theorem Pl.Ok.step {P : Pl} (ok : P.Ok) {l : Ln} (hl : l ∈ P.ls) {s : Str × Key} (hs : s ∈ l.st) : StepIs P s := by
  obtain ⟨w, k⟩ := s
  have h := ok.sok l hl _ hs
  have h' : isStepX P.kinds (P.wnames.map V.str) w (kD k) = true := h
  unfold isStepX at h'
  split at h'
  · rename_i hw
    have hw' : w ∈ (["ring", "quiet", "mask", "unmask"] : List Str) := inV_str (show inV (.str w) ((["ring", "quiet", "mask", "unmask"] : List Str).map V.str) = true from hw)
    cases k with
    | inl i => cases h'
    | inr z =>
      have h2 : ((valV P.kinds (.inr z)).isSome && (!decide (V.str w = V.str "quiet") || decide (valV P.kinds (.inr z) = some (.str "level")))) = true := h'
      obtain ⟨h3, h4⟩ := Bool.and_eq_true_iff.mp h2
      obtain ⟨v, hv⟩ := Option.isSome_iff_exists.mp h3
      obtain ⟨m, hm, rfl, rfl⟩ := kinds_val hv
      refine .line w _ hw' (List.mem_map_of_mem hm) fun e => ?_
      rw [ok.ln_eq hm]
      subst e
      rw [hv] at h4
      simpa using h4
  · split at h'
    · rename_i hw
      have hw' : w = "later" := by simpa using hw
      subst hw'
      cases k with
      | inl i => cases h'
      | inr z => exact .later z (inV_str h')
    · split at h'
      · rename_i hw
        have hw' : w ∈ (["set", "clear", "await"] : List Str) := inV_str (show inV (.str w) ((["set", "clear", "await"] : List Str).map V.str) = true from hw)
        obtain ⟨i, rfl, h1, h2⟩ := isInt_k h'
        exact .flag w i hw' h1 h2
      · rcases Bool.or_eq_true_iff.mp h' with h' | h'
        · obtain ⟨h1, h2⟩ := Bool.and_eq_true_iff.mp h'
          obtain ⟨i, rfl, h3, h4⟩ := isInt_k h2
          have hw' : w = "run" := by simpa using h1
          subst hw'
          exact .run i h3 h4
        · obtain ⟨h1, h2⟩ := Bool.and_eq_true_iff.mp h'
          obtain ⟨i, rfl, h3, h4⟩ := isInt_k h2
          have hw' : w = "bar" := by simpa using h1
          subst hw'
          exact .bar i h3 h4
theorem StepIs.run_int {P : Pl} {s : Str × Key} (h : StepIs P s) (e : s.1 = "run") : ∃ i, s.2 = .inl i ∧ 1 ≤ i ∧ i ≤ 99 := by
  cases h with
  | run i h1 h2 => exact ⟨i, rfl, h1, h2⟩
  | bar i _ _ => exact absurd (show ("bar" : Str) = "run" from e) (by decide)
  | later z _ => exact absurd (show ("later" : Str) = "run" from e) (by decide)
  | flag w i hw _ _ => simp only at e; subst e; exact absurd hw (by decide)
  | line w z hw _ _ => simp only at e; subst e; exact absurd hw (by decide)
theorem plF_lr {a b rd wd : Addr} : (planF a b rd wd).lookup ("line_rows" : Str) = some (.ref a) := by kernel_rfl
theorem plF_wr {a b rd wd : Addr} : (planF a b rd wd).lookup ("work_rows" : Str) = some (.ref b) := by kernel_rfl
theorem plF_rn {a b rd wd : Addr} : (planF a b rd wd).lookup ("rows_by_name" : Str) = some (.ref rd) := by kernel_rfl
theorem plF_wn {a b rd wd : Addr} : (planF a b rd wd).lookup ("works_by_name" : Str) = some (.ref wd) := by kernel_rfl
end Z
set_option maxHeartbeats 1000000
namespace Z
open PySem PySem.Spec PyProof.Rows L2
open He (ga ma)
/-! ### the board -/
structure Bd where
  shut : List Str
  wanted : List Str
  high : List Str
  taken : List Str
  raised : List Int
  joined : List (Str × Int)
def putL {α : Type} [DecidableEq α] (l : List α) (x : α) (b : Bool) : List α × Bool := if decide (x ∈ l) = b then (l, false) else (if b = true then l ++ [x] else l.erase x, true)
def bump (l : List (Str × Int)) (z : Str) : List (Str × Int) := l.map fun x => if x.1 = z then (x.1, x.2 + 1) else x
def Bd.ring (P : Pl) (B : Bd) (z : Str) : Bd × Bool :=
  if (P.ln z).kd = "edge" then (if z ∈ B.wanted then ({ B with joined := bump B.joined z }, false) else ({ B with wanted := B.wanted ++ [z] }, true))
  else (if z ∈ B.high then ({ B with joined := bump B.joined z }, false) else ({ B with high := B.high ++ [z] }, true))
def Bd.waiting (B : Bd) (z : Str) : Bool := decide (z ∈ B.wanted) || (decide (z ∈ B.high) && !decide (z ∈ B.taken))
def Bd.can (B : Bd) (z : Str) : Bool := B.waiting z && (!decide (z ∈ B.shut) && !decide (z ∈ B.taken))
def Bd.begun (B : Bd) (z : Str) : Bd := { B with taken := B.taken ++ [z], wanted := (putL B.wanted z false).1 }
def Bd.ended (B : Bd) (z : Str) : Bd := { B with taken := B.taken.erase z }
def kS : Key → Str
  | .inl _ => ""
  | .inr z => z
def Bd.carry (P : Pl) (B : Bd) (s : Str × Key) : Bd × Bool :=
  if s.1 = "ring" then B.ring P (kS s.2)
  else if s.1 = "quiet" then ({ B with high := (putL B.high (kS s.2) false).1 }, (putL B.high (kS s.2) false).2)
  else if s.1 = "mask" then ({ B with shut := (putL B.shut (kS s.2) true).1 }, (putL B.shut (kS s.2) true).2)
  else if s.1 = "unmask" then ({ B with shut := (putL B.shut (kS s.2) false).1 }, (putL B.shut (kS s.2) false).2)
  else if s.1 = "set" then ({ B with raised := (putL B.raised (kI s.2) true).1 }, (putL B.raised (kI s.2) true).2)
  else ({ B with raised := (putL B.raised (kI s.2) false).1 }, (putL B.raised (kI s.2) false).2)
/-! what holds of it -/
structure Sub {α : Type} (l m : List α) : Prop where
  nd : l.Nodup
  sub : ∀ x ∈ l, x ∈ m
theorem Sub.nil {α : Type} {m : List α} : Sub [] m := ⟨.nil, by simp⟩
theorem Sub.add {α : Type} {l m : List α} {x : α} (h : Sub l m) (hn : x ∉ l) (hx : x ∈ m) : Sub (l ++ [x]) m := by
  refine ⟨?_, fun y hy => ?_⟩
  · rw [List.nodup_append]
    exact ⟨h.nd, by simp, fun a ha b hb e => by simp at hb; subst hb; subst e; exact hn ha⟩
  · rcases List.mem_append.mp hy with hy | hy
    · exact h.sub y hy
    · simp at hy
      subst hy
      exact hx
theorem Sub.erase {α : Type} [BEq α] [LawfulBEq α] {l m : List α} (x : α) (h : Sub l m) : Sub (l.erase x) m := ⟨h.nd.erase x, fun y hy => h.sub y (List.mem_of_mem_erase hy)⟩
theorem Sub.len {α : Type} [BEq α] [LawfulBEq α] : ∀ {l m : List α}, Sub l m → l.length ≤ m.length
  | [], _, _ => Nat.zero_le _
  | x :: l, m, h => by
    have hx := h.sub x (by simp)
    have hn := List.nodup_cons.mp h.nd
    have : Sub l (m.erase x) := ⟨hn.2, fun y hy => (List.mem_erase_of_ne fun e => hn.1 (by rw [← e]; exact hy)).mpr (h.sub y (List.mem_cons_of_mem _ hy))⟩
    have := this.len
    rw [List.length_erase_of_mem hx] at this
    have : 0 < m.length := List.length_pos_of_mem hx
    rw [List.length_cons]
    omega
theorem Sub.put {α : Type} [DecidableEq α] {l m : List α} {x : α} {b : Bool} (h : Sub l m) (hx : x ∈ m) : Sub (putL l x b).1 m := by
  unfold putL
  split
  · exact h
  · rename_i hn
    split
    · rename_i hb
      subst hb
      exact h.add (by simpa using hn) hx
    · exact h.erase x
def flagL : List Int := [0, 1, 2, 3, 4, 5, 6, 7]
theorem flagL_mem {i : Int} (h0 : 0 ≤ i) (h7 : i ≤ 7) : i ∈ flagL := by
  have : i = 0 ∨ i = 1 ∨ i = 2 ∨ i = 3 ∨ i = 4 ∨ i = 5 ∨ i = 6 ∨ i = 7 := by omega
  simp [flagL, this]
structure Bd.Ok (P : Pl) (B : Bd) : Prop where
  sh : Sub B.shut P.names
  wa : Sub B.wanted P.names
  hi : Sub B.high P.names
  ta : Sub B.taken P.names
  ra : Sub B.raised flagL
  jk : B.joined.map (·.1) = P.order
theorem bump_fst (l : List (Str × Int)) (z : Str) : (bump l z).map (·.1) = l.map (·.1) := by
  unfold bump
  rw [List.map_map]
  apply List.map_congr_left
  intro x _
  show (if x.1 = z then (x.1, x.2 + 1) else x).1 = x.1
  split <;> rfl
theorem Bd.Ok.ring {P : Pl} {B : Bd} (h : B.Ok P) {z : Str} (hz : z ∈ P.names) : (B.ring P z).1.Ok P := by
  unfold Bd.ring
  split
  · split
    · exact ⟨h.sh, h.wa, h.hi, h.ta, h.ra, by show (bump B.joined z).map (·.1) = _; rw [bump_fst]; exact h.jk⟩
    · rename_i hn
      exact ⟨h.sh, h.wa.add hn hz, h.hi, h.ta, h.ra, h.jk⟩
  · split
    · exact ⟨h.sh, h.wa, h.hi, h.ta, h.ra, by show (bump B.joined z).map (·.1) = _; rw [bump_fst]; exact h.jk⟩
    · rename_i hn
      exact ⟨h.sh, h.wa, h.hi.add hn hz, h.ta, h.ra, h.jk⟩
theorem Bd.Ok.begun {P : Pl} {B : Bd} (h : B.Ok P) {z : Str} (hz : z ∈ P.names) (hn : z ∉ B.taken) : (B.begun z).Ok P := ⟨h.sh, h.wa.put hz, h.hi, h.ta.add hn hz, h.ra, h.jk⟩
theorem Bd.Ok.ended {P : Pl} {B : Bd} (h : B.Ok P) (z : Str) : (B.ended z).Ok P := ⟨h.sh, h.wa, h.hi, h.ta.erase z, h.ra, h.jk⟩
/-- the steps that the board carries out -/
def CarryIs (P : Pl) (s : Str × Key) : Prop := (s.1 ∈ (["ring", "quiet", "mask", "unmask"] : List Str) ∧ ∃ z, s.2 = .inr z ∧ z ∈ P.names) ∨ (s.1 ∈ (["set", "clear"] : List Str) ∧ ∃ i, s.2 = .inl i ∧ 0 ≤ i ∧ i ≤ 7)
theorem Bd.Ok.carry {P : Pl} {B : Bd} (h : B.Ok P) {s : Str × Key} (hs : CarryIs P s) : (B.carry P s).1.Ok P := by
  obtain ⟨w, k⟩ := s
  rcases hs with ⟨hw, z, e, hz⟩ | ⟨hw, i, e, h0, h7⟩
  · simp only at e hw
    subst e
    simp only [List.mem_cons, List.not_mem_nil, or_false] at hw
    rcases hw with rfl | rfl | rfl | rfl
    · exact h.ring hz
    · exact ⟨h.sh, h.wa, h.hi.put hz, h.ta, h.ra, h.jk⟩
    · exact ⟨h.sh.put hz, h.wa, h.hi, h.ta, h.ra, h.jk⟩
    · exact ⟨h.sh.put hz, h.wa, h.hi, h.ta, h.ra, h.jk⟩
  · simp only at e hw
    subst e
    simp only [List.mem_cons, List.not_mem_nil, or_false] at hw
    rcases hw with rfl | rfl
    · exact ⟨h.sh, h.wa, h.hi, h.ta, h.ra.put (flagL_mem h0 h7), h.jk⟩
    · exact ⟨h.sh, h.wa, h.hi, h.ta, h.ra.put (flagL_mem h0 h7), h.jk⟩
theorem Pl.Ok.len {P : Pl} (ok : P.Ok) : P.names.length ≤ 12 := by
  unfold Pl.names
  rw [List.length_map]
  exact ok.l12
theorem Sub.len12 {P : Pl} (ok : P.Ok) {l : List Str} (h : Sub l P.names) : l.length ≤ 12 := Nat.le_trans h.len ok.len
theorem Sub.len8 {l : List Int} (h : Sub l flagL) : l.length ≤ 8 := h.len
/-! ### in the heap -/
structure BA where
  b : Addr
  sh : Addr
  wa : Addr
  hi : Addr
  ta : Addr
  ra : Addr
  jo : Addr
def BA.own (D : BA) : List Addr := [D.b, D.sh, D.wa, D.hi, D.ta, D.ra, D.jo]
def boardF (p : Addr) (D : BA) : List (Str × V) := [("plan", .ref p), ("shut", .ref D.sh), ("wanted", .ref D.wa), ("high", .ref D.hi), ("taken", .ref D.ta), ("raised", .ref D.ra), ("joined", .ref D.jo)]
theorem bdF_plan {p : Addr} {D : BA} : (boardF p D).lookup ("plan" : Str) = some (.ref p) := by kernel_rfl
theorem bdF_sh {p : Addr} {D : BA} : (boardF p D).lookup ("shut" : Str) = some (.ref D.sh) := by kernel_rfl
theorem bdF_wa {p : Addr} {D : BA} : (boardF p D).lookup ("wanted" : Str) = some (.ref D.wa) := by kernel_rfl
theorem bdF_hi {p : Addr} {D : BA} : (boardF p D).lookup ("high" : Str) = some (.ref D.hi) := by kernel_rfl
theorem bdF_ta {p : Addr} {D : BA} : (boardF p D).lookup ("taken" : Str) = some (.ref D.ta) := by kernel_rfl
theorem bdF_ra {p : Addr} {D : BA} : (boardF p D).lookup ("raised" : Str) = some (.ref D.ra) := by kernel_rfl
theorem bdF_jo {p : Addr} {D : BA} : (boardF p D).lookup ("joined" : Str) = some (.ref D.jo) := by kernel_rfl
def joinK (l : List (Str × Int)) : List (Key × V) := l.map fun x => (.inr x.1, .int x.2)
structure BoardAt (K : Fg) (H : Hp) (p : Addr) (D : BA) (B : Bd) : Prop where
  nd : D.own.Nodup
  ins : ∃ dx, H D.b = some (.ins (ga K "Board") dx (boardF p D))
  sh : H D.sh = some (.lst (B.shut.map V.str))
  wa : H D.wa = some (.lst (B.wanted.map V.str))
  hi : H D.hi = some (.lst (B.high.map V.str))
  ta : H D.ta = some (.lst (B.taken.map V.str))
  ra : H D.ra = some (.lst (B.raised.map V.int))
  jo : H D.jo = some (.dK (joinK B.joined))
section
variable {K : Fg} {H H' : Hp} {p : Addr} {D : BA} {B : Bd}
theorem BoardAt.keep (h : BoardAt K H p D B) {A : List Addr} (f : Fr A H H') (n : ∀ a ∈ D.own, a ∉ A) : BoardAt K H' p D B := by
  have n' : D.b ∉ A ∧ D.sh ∉ A ∧ D.wa ∉ A ∧ D.hi ∉ A ∧ D.ta ∉ A ∧ D.ra ∉ A ∧ D.jo ∉ A := by simpa [BA.own] using n
  obtain ⟨n1, n2, n3, n4, n5, n6, n7⟩ := n'
  obtain ⟨dx, e⟩ := h.ins
  exact ⟨h.nd, ⟨dx, f.at e n1⟩, f.at h.sh n2, f.at h.wa n3, f.at h.hi n4, f.at h.ta n5, f.at h.ra n6, f.at h.jo n7⟩
theorem BoardAt.same (h : BoardAt K H p D B) (s : Same H H') : BoardAt K H' p D B := h.keep (A := []) s.fr (by simp)
theorem BA.nes (nd : D.own.Nodup) : (D.b ≠ D.sh ∧ D.b ≠ D.wa ∧ D.b ≠ D.hi ∧ D.b ≠ D.ta ∧ D.b ≠ D.ra ∧ D.b ≠ D.jo) ∧ (D.sh ≠ D.wa ∧ D.sh ≠ D.hi ∧ D.sh ≠ D.ta ∧ D.sh ≠ D.ra ∧ D.sh ≠ D.jo) ∧ (D.wa ≠ D.hi ∧ D.wa ≠ D.ta ∧ D.wa ≠ D.ra ∧ D.wa ≠ D.jo) ∧ (D.hi ≠ D.ta ∧ D.hi ≠ D.ra ∧ D.hi ≠ D.jo) ∧ (D.ta ≠ D.ra ∧ D.ta ≠ D.jo) ∧ D.ra ≠ D.jo := by
  simpa [BA.own] using nd
local macro_rules | `(tactic| walk_at "bd") => `(tactic| first | exact upd_same | (rw [upd_ne (by first | assumption | (apply Ne.symm; assumption))]; assumption))
theorem BoardAt.setSh (h : BoardAt K H p D B) (l : List Str) : BoardAt K (upd H D.sh (.lst (l.map V.str))) p D { B with shut := l } := by
  obtain ⟨⟨_, _, _, _, _, _⟩, ⟨_, _, _, _, _⟩, ⟨_, _, _, _⟩, ⟨_, _, _⟩, ⟨_, _⟩, _⟩ := BA.nes h.nd
  obtain ⟨nd, ⟨dx, e⟩, e1, e2, e3, e4, e5, e6⟩ := h
  refine ⟨nd, ⟨dx, ?_⟩, ?_, ?_, ?_, ?_, ?_, ?_⟩ <;> walk_at "bd"
theorem BoardAt.setWa (h : BoardAt K H p D B) (l : List Str) : BoardAt K (upd H D.wa (.lst (l.map V.str))) p D { B with wanted := l } := by
  obtain ⟨⟨_, _, _, _, _, _⟩, ⟨_, _, _, _, _⟩, ⟨_, _, _, _⟩, ⟨_, _, _⟩, ⟨_, _⟩, _⟩ := BA.nes h.nd
  obtain ⟨nd, ⟨dx, e⟩, e1, e2, e3, e4, e5, e6⟩ := h
  refine ⟨nd, ⟨dx, ?_⟩, ?_, ?_, ?_, ?_, ?_, ?_⟩ <;> walk_at "bd"
theorem BoardAt.setHi (h : BoardAt K H p D B) (l : List Str) : BoardAt K (upd H D.hi (.lst (l.map V.str))) p D { B with high := l } := by
  obtain ⟨⟨_, _, _, _, _, _⟩, ⟨_, _, _, _, _⟩, ⟨_, _, _, _⟩, ⟨_, _, _⟩, ⟨_, _⟩, _⟩ := BA.nes h.nd
  obtain ⟨nd, ⟨dx, e⟩, e1, e2, e3, e4, e5, e6⟩ := h
  refine ⟨nd, ⟨dx, ?_⟩, ?_, ?_, ?_, ?_, ?_, ?_⟩ <;> walk_at "bd"
theorem BoardAt.setTa (h : BoardAt K H p D B) (l : List Str) : BoardAt K (upd H D.ta (.lst (l.map V.str))) p D { B with taken := l } := by
  obtain ⟨⟨_, _, _, _, _, _⟩, ⟨_, _, _, _, _⟩, ⟨_, _, _, _⟩, ⟨_, _, _⟩, ⟨_, _⟩, _⟩ := BA.nes h.nd
  obtain ⟨nd, ⟨dx, e⟩, e1, e2, e3, e4, e5, e6⟩ := h
  refine ⟨nd, ⟨dx, ?_⟩, ?_, ?_, ?_, ?_, ?_, ?_⟩ <;> walk_at "bd"
theorem BoardAt.setRa (h : BoardAt K H p D B) (l : List Int) : BoardAt K (upd H D.ra (.lst (l.map V.int))) p D { B with raised := l } := by
  obtain ⟨⟨_, _, _, _, _, _⟩, ⟨_, _, _, _, _⟩, ⟨_, _, _, _⟩, ⟨_, _, _⟩, ⟨_, _⟩, _⟩ := BA.nes h.nd
  obtain ⟨nd, ⟨dx, e⟩, e1, e2, e3, e4, e5, e6⟩ := h
  refine ⟨nd, ⟨dx, ?_⟩, ?_, ?_, ?_, ?_, ?_, ?_⟩ <;> walk_at "bd"
theorem BoardAt.setJo (h : BoardAt K H p D B) (l : List (Str × Int)) : BoardAt K (upd H D.jo (.dK (joinK l))) p D { B with joined := l } := by
  obtain ⟨⟨_, _, _, _, _, _⟩, ⟨_, _, _, _, _⟩, ⟨_, _, _, _⟩, ⟨_, _, _⟩, ⟨_, _⟩, _⟩ := BA.nes h.nd
  obtain ⟨nd, ⟨dx, e⟩, e1, e2, e3, e4, e5, e6⟩ := h
  refine ⟨nd, ⟨dx, ?_⟩, ?_, ?_, ?_, ?_, ?_, ?_⟩ <;> walk_at "bd"
end
/-! lists of texts, of flags -/
theorem eqV_str {a b : Str} : eqV (.str a) (.str b) = (a == b) := rfl
theorem eqV_int {a b : Int} : eqV (.int a) (.int b) = (a == b) := rfl
theorem inV_int {x : Int} : ∀ {l : List Int}, inV (.int x) (l.map V.int) = decide (x ∈ l)
  | [] => rfl
  | y :: l => by
    show ((y == x) || inV (.int x) (l.map V.int)) = _
    rw [inV_int (l := l)]
    by_cases h : x = y
    · subst h
      simp
    · have : (y == x) = false := beq_eq_false_iff_ne.mpr fun z => h z.symm
      simp [this, h]
theorem flat_ints : ∀ {l : List Int}, (l.map V.int).all flatV = true
  | [] => rfl
  | _ :: l => by
    show (true && (l.map V.int).all flatV) = true
    rw [flat_ints (l := l)]
    rfl
theorem erase_map {α β : Type} (f : α → β) : ∀ (l : List α) (j : Nat), (l.map f).eraseIdx j = (l.eraseIdx j).map f
  | [], j => by simp
  | a :: r, 0 => by simp
  | a :: r, j + 1 => by
    have ih := erase_map f r j
    simp [ih]
theorem s_remS {H : Hp} {Q : VK} {l : Addr} {ys : List Str} {z : Str} (h : H l = some (.lst (ys.map V.str))) (hz : z ∈ ys) (q : Q .non (upd H l (.lst ((ys.erase z).map V.str)))) : rRemA (.ref l) [.str z] H Q := by
  refine ⟨l, _, _, ys.idxOf z, rfl, rfl, h, rfl, flat_strs, ⟨.str z, ?_, ?_⟩, fun m w hm hw => ?_, ?_⟩
  · rw [List.getElem?_map, List.getElem?_eq_getElem (List.idxOf_lt_length_of_mem hz), List.getElem_idxOf]
    rfl
  · rw [eqV_str]
    simp
  · rw [List.getElem?_map] at hw
    obtain ⟨u, hu, rfl⟩ := Option.map_eq_some_iff.mp hw
    rw [eqV_str]
    refine beq_eq_false_iff_ne.mpr fun e => ?_
    subst e
    obtain ⟨h1, h2⟩ := List.getElem?_eq_some_iff.mp hu
    have h3 := List.not_of_lt_findIdx (p := fun y => y == _) hm
    rw [h2] at h3
    simp at h3
  · rw [erase_map, ← List.erase_eq_eraseIdx_of_idxOf rfl]
    exact q
theorem s_remI {H : Hp} {Q : VK} {l : Addr} {ys : List Int} {z : Int} (h : H l = some (.lst (ys.map V.int))) (hz : z ∈ ys) (q : Q .non (upd H l (.lst ((ys.erase z).map V.int)))) : rRemA (.ref l) [.int z] H Q := by
  refine ⟨l, _, _, ys.idxOf z, rfl, rfl, h, rfl, flat_ints, ⟨.int z, ?_, ?_⟩, fun m w hm hw => ?_, ?_⟩
  · rw [List.getElem?_map, List.getElem?_eq_getElem (List.idxOf_lt_length_of_mem hz), List.getElem_idxOf]
    rfl
  · rw [eqV_int]
    simp
  · rw [List.getElem?_map] at hw
    obtain ⟨u, hu, rfl⟩ := Option.map_eq_some_iff.mp hw
    rw [eqV_int]
    refine beq_eq_false_iff_ne.mpr fun e => ?_
    subst e
    obtain ⟨h1, h2⟩ := List.getElem?_eq_some_iff.mp hu
    have h3 := List.not_of_lt_findIdx (p := fun y => y == _) hm
    rw [h2] at h3
    simp at h3
  · rw [erase_map, ← List.erase_eq_eraseIdx_of_idxOf rfl]
    exact q
end Z
set_option maxHeartbeats 1000000
namespace Z
open PySem PySem.Spec PyProof.Rows L2
open He (ga ma)
section
variable {K : Fg} {σ : L2.St} {H H1 : Hp} {Q : VK} {te tk tv tl td ty : TE} {a : Addr} {xs : List V} {kvs : List (Key × V)} {ea ec ed : L2.St → Hp → Prop} {eb : VK}
theorem s_daugg {rd : V → V → Hp → VK → Prop} (q : td σ H fun x H1 => ty σ H1 fun y H2 => ∃ a v, x = .ref a ∧ DGet H2 a y (some v) ∧ tv σ H2 fun y2 H3 => rd v y2 H3 fun z H4 => ∃ H5, DPut H4 a y z H5 ∧ ea σ H5) : sDAug td ty tv rd (.mk ea eb ec ed) σ H := q
theorem s_dputS {z : Str} {v : V} {R : Hp → Prop} (h : H a = some (.dK kvs)) (hl : kvs.length < sizeLine) (q : R (upd H a (.dK (putK kvs (.inr z) v)))) : ∃ H5, DPut H a (.str z) v H5 ∧ R H5 := ⟨_, .inl ⟨kvs, .inr z, h, rfl, hl, rfl⟩, q⟩
theorem s_dgS2 {z : Str} {v : V} {R : Addr → V → Prop} (h : H a = some (.dK kvs)) (e : valV kvs (.inr z) = some v) (q : R a v) : ∃ b u, V.ref a = .ref b ∧ DGet H b (.str z) (some u) ∧ R b u := ⟨a, v, rfl, by rw [← e]; exact DGet.k (k := Sum.inr z) h, q⟩
theorem s_add {i j : Int} (q : Q (.int (i + j)) H) : rAdd (.int i) (.int j) H Q := ⟨i, j, rfl, rfl, q⟩
theorem s_disp {trs : List (TE × TE)} (q : ∀ p, H p = none → tPairs trs σ (upd H p (.dK [])) fun ps H2 => H2 p = some (.dK []) ∧ ∃ kvs : List (Key × V), ps = kvs.map (fun kv => (kV kv.1, kv.2)) ∧ kvs.length ≤ 15 ∧ Q (.ref p) (upd H2 p (.dK (mergeK [] kvs)))) : tDisp trs σ H Q := q
theorem s_pnil {R : List (V × V) → Hp → Prop} (q : R [] H) : tPairs [] σ H R := q
theorem s_pcons {R : List (V × V) → Hp → Prop} {trs : List (TE × TE)} (q : tk σ H fun x H1 => tv σ H1 fun y H2 => tPairs trs σ H2 fun ps H3 => R ((x, y) :: ps) H3) : tPairs ((tk, tv) :: trs) σ H R := q
theorem upd_id {o : HO} (h : H a = some o) : upd H a o = H := by
  funext c
  by_cases e : c = a
  · subst e
    rw [upd_same, h]
  · rw [upd_ne e]
theorem upd_upd {o o' : HO} : upd (upd H a o) a o' = upd H a o' := by
  funext c
  by_cases e : c = a
  · subst e
    rw [upd_same, upd_same]
  · rw [upd_ne e, upd_ne e, upd_ne e]
theorem s_setL {p : Addr} {k : Int} {v : V} {j : Nat} {R : Hp → Prop} (h : H p = some (.lst xs)) (e : ixN xs.length k = some j) (q : R (upd H p (.lst (xs.set j v)))) : rSetL (.ref p) (.int k) v H R := ⟨p, xs, k, j, rfl, rfl, h, e, q⟩
theorem s_gsub {to ti : TE} {t : TSet} {v : V} {R : L2.St → Hp → Prop} (q : to σ H fun o H1 => ti σ H1 fun i H2 => t o i v H2 fun H3 => R σ H3) : gSub to ti t v σ H R := q
theorem s_augS {to ti : TE} {tget : V → V → Hp → VK → Prop} {tip : TIp} {tset : TSet} (q : to σ H fun o H1 => ti σ H1 fun i H2 => tget o i H2 fun x H3 => te σ H3 fun y H4 => tip x y H4 fun z H5 => tset o i z H5 fun H6 => ea σ H6) : tAugS to ti te tget tip tset (.mk ea eb ec ed) σ H := q
theorem s_ipI {f : Int → Int → Int} {i j : Int} (q : Q (.int (f i j)) H) : ipI f (.int i) (.int j) H Q := ⟨i, j, rfl, rfl, q⟩
theorem s_glst {n : Nat} {t : TGs} {P : L2.St → Hp → Prop} (h : SqL K H a xs) (hl : xs.length = n) (q : t xs σ H P) : gLst K n t (.ref a) σ H P := ⟨a, xs, rfl, h, hl, q⟩
theorem s_pop {y : V} (h : H a = some (.lst xs)) (e : xs[xs.length - 1]? = some y) (q : Q y (upd H a (.lst xs.dropLast))) : rPop (.ref a) [] H Q := ⟨a, xs, y, rfl, rfl, h, e, q⟩
theorem s_cat {b : Addr} {zs : List V} (h : H a = some (.lst xs)) (h2 : H b = some (.lst zs)) (hl : xs.length + zs.length ≤ sizeLine) (q : ∀ p, H p = none → Q (.ref p) (upd H p (.lst (xs ++ zs)))) : rCat (.ref a) (.ref b) H Q := ⟨a, b, xs, zs, rfl, rfl, h, h2, hl, q⟩
theorem s_extend {b : Addr} {zs : List V} (h : H a = some (.lst xs)) (h2 : H b = some (.lst zs)) (hl : xs.length + zs.length ≤ sizeLine) (q : Q .non (upd H a (.lst (xs ++ zs)))) : rExtend (.ref a) [.ref b] H Q := ⟨a, b, xs, zs, rfl, rfl, h, h2, hl, q⟩
theorem s_fldaug {ta : TE} {rd : V → V → Hp → VK → Prop} {f : Str} (q : ta σ H fun x H1 => ∃ a C dx fs v, x = .ref a ∧ H1 a = some (.ins C dx fs) ∧ Cls K C ∧ NoAttr K C f ∧ fs.lookup f = some v ∧
  tv σ H1 fun y H2 => rd v y H2 fun z H3 => ∃ dx' fs', H3 a = some (.ins C dx' fs') ∧ fs'.length < 1000 ∧ ea σ (upd H3 a (.ins C dx' (putF f z fs')))) : sFldAug K ta tv rd f (.mk ea eb ec ed) σ H := q
end
theorem s_fldnew {K : Fg} {H : Hp} {p b C dx : Addr} {fs : List (Str × V)} {f : Str} {o : HO} {R : Hp → Prop} (hp : H p = none) (hb : H b = some (.ins C dx fs)) (c : Cls K C) (n : NoAttr K C f) (hl : fs.length < 1000)
    (q : ∀ H', p ≠ b → Fr [b] H H' → H' b = some (.ins C dx (putF f (.ref p) fs)) → H' p = some o → R H') :
    ∃ a C dx fs, V.ref b = .ref a ∧ upd H p o a = some (.ins C dx fs) ∧ Cls K C ∧ NoAttr K C f ∧ fs.length < 1000 ∧ R (upd (upd H p o) a (.ins C dx (putF f (.ref p) fs))) := by
  have hne : p ≠ b := fun e => by rw [e, hb] at hp; cases hp
  have hb2 : upd H p o b = some (.ins C dx fs) := by rw [upd_ne (Ne.symm hne)]; exact hb
  refine ⟨b, C, dx, fs, rfl, hb2, c, n, hl, q _ hne ((Fr.new hp).trans (Fr.upd (by simp) hb2 rfl)) upd_same ?_⟩
  rw [upd_ne hne, upd_same]
theorem Fr.fresh {A : List Addr} {H H' : Hp} {a : Addr} (f : Fr A H H') (hn : a ∉ A) (h : H' a = none) : H a = none := f.back h
/-- the counts of rings that came too often -/
theorem joinK_val {l : List (Str × Int)} {z : Str} (h : z ∈ l.map (·.1)) : ∃ i, valV (joinK l) (.inr z) = some (.int i) := by
  induction l with
  | nil => simp at h
  | cons x l ih =>
    by_cases e : x.1 = z
    · exact ⟨x.2, by rw [joinK, List.map_cons]; exact valV_pos (by rw [e])⟩
    · rw [List.map_cons, List.mem_cons] at h
      obtain ⟨i, hi⟩ := ih (h.resolve_left fun q => e q.symm)
      exact ⟨i, by rw [joinK, List.map_cons, valV_neg (fun q => e (Sum.inr.inj q))]; exact hi⟩
theorem joinK_put {l : List (Str × Int)} {z : Str} (hn : (l.map (·.1)).Nodup) {i : Int} (h : valV (joinK l) (.inr z) = some (.int i)) : putK (joinK l) (.inr z) (.int (i + 1)) = joinK (bump l z) := by
  have hany : ((joinK l).any fun kv => decide (kv.1 = (.inr z : Key))) = true := by
    unfold valV at h
    obtain ⟨kv, h1, h2⟩ := Option.map_eq_some_iff.mp h
    exact List.any_eq_true.mpr ⟨kv, List.mem_of_find?_eq_some h1, (List.find?_some (p := fun kv : Key × V => decide (kv.1 = (.inr z : Key))) h1)⟩
  unfold putK
  rw [if_pos hany]
  have gen : ∀ {l : List (Str × Int)}, (l.map (·.1)).Nodup → valV (joinK l) (.inr z) = some (.int i) → (joinK l).map (fun kv => if kv.1 = (.inr z : Key) then (kv.1, V.int (i + 1)) else kv) = joinK (bump l z) := by
    intro l
    induction l with
    | nil => intro _ _; rfl
    | cons x l ih =>
      intro hn h
      rw [List.map_cons, List.nodup_cons] at hn
      by_cases e : x.1 = z
      · have h2 : (V.int x.2) = .int i := Option.some.inj ((valV_pos (p := ((.inr x.1 : Key), V.int x.2)) (by rw [e])).symm.trans h)
        have h3 : x.2 = i := by cases h2; rfl
        have rest : (joinK l).map (fun kv => if kv.1 = (.inr z : Key) then (kv.1, V.int (i + 1)) else kv) = joinK (bump l z) := by
          have e1 : (joinK l).map (fun kv => if kv.1 = (.inr z : Key) then (kv.1, V.int (i + 1)) else kv) = joinK l := by
            rw [List.map_congr_left (g := id), List.map_id]
            intro kv hkv
            obtain ⟨y, hy, rfl⟩ := List.mem_map.mp hkv
            rw [if_neg]
            · rfl
            · intro q
              have : y.1 = z := Sum.inr.inj q
              exact hn.1 (by rw [e, ← this]; exact List.mem_map_of_mem hy)
          have e2 : bump l z = l := by
            unfold bump
            rw [List.map_congr_left (g := id), List.map_id]
            intro y hy
            rw [if_neg]
            · rfl
            · intro q
              exact hn.1 (by rw [e, ← q]; exact List.mem_map_of_mem hy)
          rw [e1, e2]
        show (if ((.inr x.1 : Key)) = .inr z then ((.inr x.1 : Key), V.int (i + 1)) else (.inr x.1, .int x.2)) :: (joinK l).map _ = _
        rw [if_pos (by rw [e]), rest]
        show _ = joinK ((if x.1 = z then (x.1, x.2 + 1) else x) :: bump l z)
        rw [if_pos e, h3]
        rfl
      · have h2 : valV (joinK l) (.inr z) = some (.int i) := (valV_neg (p := ((.inr x.1 : Key), V.int x.2)) (fun q => e (Sum.inr.inj q))).symm.trans h
        show (if ((.inr x.1 : Key)) = .inr z then ((.inr x.1 : Key), V.int (i + 1)) else (.inr x.1, .int x.2)) :: (joinK l).map _ = _
        rw [if_neg (fun q => e (Sum.inr.inj q)), ih hn.2 h2]
        show _ = joinK ((if x.1 = z then (x.1, x.2 + 1) else x) :: bump l z)
        rw [if_neg e]
        rfl
  exact gen hn h
end Z
set_option maxHeartbeats 1000000
namespace Z
open PySem PySem.Spec PyProof.Rows L2
open He (ga ma)
/-! ### a processor -/
structure Frm where
  ln : Str
  st : Nat
  tk : Nat
  kp : Int
structure Cr where
  frames : List Frm
  limit : Int
  jobs : List (Str × Nat)
abbrev Ev := Str × Str
def dEv (e : Ev) : PyData := .tuple [.str e.1, .str e.2]
def frV (f : Frm) : List V := [.str f.ln, .int f.st, .int f.tk, .int f.kp]
def jbV (j : Str × Nat) : List V := [.str j.1, .int j.2]
def Cr.inner (P : Pl) (C : Cr) : Int := match C.frames.getLast? with
  | none => 0
  | some f => (P.ln f.ln).rk
def Cr.may (P : Pl) (C : Cr) (z : Str) : Bool := decide ((P.ln z).rk > (if C.inner P > C.limit then C.inner P else C.limit))
def leave (jobs : List (Str × Nat)) (z : Str) : List (Str × Nat) := if (z, 0) ∈ jobs then jobs else jobs ++ [(z, 0)]
/-- a step that is passed: limit, works left, board -/
def stepFx (P : Pl) (lim : Int) (jobs : List (Str × Nat)) (B : Bd) (s : Str × Key) : Int × List (Str × Nat) × Bd :=
  if s.1 = "bar" then (kI s.2, jobs, B) else if s.1 = "later" then (lim, leave jobs (kS s.2), B) else if s.1 ≠ "await" then (lim, jobs, (B.carry P s).1) else (lim, jobs, B)
def stops (B : Bd) (s : Str × Key) : Bool := decide (s.1 = ("run" : Str)) || (decide (s.1 = ("await" : Str)) && !decide (kI s.2 ∈ B.raised))
def passL (P : Pl) (fs : List Frm) (f : Frm) (lim : Int) (jobs : List (Str × Nat)) (B : Bd) : List (Str × Key) → Cr × Bd × List Ev
  | [] => (⟨fs, f.kp, jobs⟩, B.ended f.ln, [("end", f.ln)])
  | s :: r => if stops B s = true then (⟨fs ++ [f], lim, jobs⟩, B, []) else
    passL P fs { f with st := f.st + 1 } (stepFx P lim jobs B s).1 (stepFx P lim jobs B s).2.1 (stepFx P lim jobs B s).2.2 r
def pass (P : Pl) (fs : List Frm) (f : Frm) (lim : Int) (jobs : List (Str × Nat)) (B : Bd) : Cr × Bd × List Ev := passL P fs f lim jobs B ((P.ln f.ln).st.drop f.st)
/-! ### lists in the heap -/
inductive Lsts (H : Hp) : List Addr → List (List V) → Prop
  | nil : Lsts H [] []
  | cons {a : Addr} {xs : List V} {as : List Addr} {xss : List (List V)} : H a = some (.lst xs) → Lsts H as xss → Lsts H (a :: as) (xs :: xss)
section
variable {H H' : Hp}
theorem Lsts.len : ∀ {as : List Addr} {xss : List (List V)}, Lsts H as xss → as.length = xss.length
  | _, _, .nil => rfl
  | _, _, .cons _ t => by rw [List.length_cons, List.length_cons, t.len]
theorem Lsts.keep {A : List Addr} (f : Fr A H H') : ∀ {as : List Addr} {xss : List (List V)}, Lsts H as xss → (∀ a ∈ as, a ∉ A) → Lsts H' as xss
  | _, _, .nil, _ => .nil
  | _, _, .cons h t, n => .cons (f.at h (n _ (by simp))) (t.keep f fun a ha => n a (List.mem_cons_of_mem _ ha))
theorem Lsts.get : ∀ {as : List Addr} {xss : List (List V)} {i : Nat} {a : Addr}, Lsts H as xss → as[i]? = some a → ∃ xs, xss[i]? = some xs ∧ H a = some (.lst xs)
  | _, _, _, _, .nil, h => by simp at h
  | _, _, 0, _, .cons h _, e => by
    simp at e
    subst e
    exact ⟨_, rfl, h⟩
  | _, _, i + 1, _, .cons _ t, e => by
    obtain ⟨xs, h1, h2⟩ := t.get (i := i) (by simpa using e)
    exact ⟨xs, by simpa using h1, h2⟩
theorem Lsts.geti : ∀ {as : List Addr} {xss : List (List V)} {i : Nat} {xs : List V}, Lsts H as xss → xss[i]? = some xs → ∃ a, as[i]? = some a ∧ H a = some (.lst xs)
  | _, _, _, _, .nil, h => by simp at h
  | _, _, 0, _, .cons h _, e => by
    simp at e
    subst e
    exact ⟨_, rfl, h⟩
  | _, _, i + 1, _, .cons _ t, e => by
    obtain ⟨xs, h1, h2⟩ := t.geti (i := i) (by simpa using e)
    exact ⟨xs, by simpa using h1, h2⟩
theorem Lsts.app : ∀ {as bs : List Addr} {xss yss : List (List V)}, Lsts H as xss → Lsts H bs yss → Lsts H (as ++ bs) (xss ++ yss)
  | _, _, _, _, .nil, s => s
  | _, _, _, _, .cons h t, s => .cons h (t.app s)
theorem Lsts.snoc {as : List Addr} {xss : List (List V)} {x : List V} (h : Lsts H as (xss ++ [x])) : ∃ bs a, as = bs ++ [a] ∧ Lsts H bs xss ∧ H a = some (.lst x) := by
  induction xss generalizing as with
  | nil =>
    cases h with
    | cons h t =>
      cases t
      exact ⟨[], _, rfl, .nil, h⟩
  | cons y yss ih =>
    cases h with
    | cons h t =>
      obtain ⟨bs, a, rfl, h1, h2⟩ := ih t
      exact ⟨_ :: bs, a, rfl, .cons h h1, h2⟩
theorem Lsts.set : ∀ {as : List Addr} {xss : List (List V)} {a : Addr} {xs : List V} (i : Nat), Lsts H as xss → H a = some (.lst xs) → Lsts H (as.set i a) (xss.set i xs)
  | _, _, _, _, _, .nil, _ => .nil
  | _, _, _, _, 0, .cons h t, e => .cons e t
  | _, _, _, _, i + 1, .cons h t, e => .cons h (t.set i e)
theorem Lsts.take : ∀ {as : List Addr} {xss : List (List V)} (n : Nat), Lsts H as xss → Lsts H (as.take n) (xss.take n)
  | _, _, 0, _ => .nil
  | _, _, _ + 1, .nil => .nil
  | _, _, n + 1, .cons h t => .cons h (t.take n)
theorem Lsts.drop : ∀ {as : List Addr} {xss : List (List V)} (n : Nat), Lsts H as xss → Lsts H (as.drop n) (xss.drop n)
  | _, _, 0, h => h
  | _, _, _ + 1, .nil => .nil
  | _, _, n + 1, .cons _ t => t.drop n
/-- lists of data -/
theorem Lsts.dp {K : Fg} {α : Type} {f : α → List V} {d : α → List PyData} (hd : ∀ x, DpAll K H (f x) (d x)) : ∀ {as : List Addr} {l : List α}, Lsts H as (l.map f) → DpAll K H (as.map V.ref) (l.map fun x => .list (d x))
  | _, [], .nil => .nil
  | _, _ :: _, .cons h t => .cons (.lst (SqL.of h) (hd _)) (Lsts.dp hd t)
end
/-! ### a processor in the heap -/
structure CA where
  c : Addr
  fr : Addr
  jo : Addr
  fs : List Addr
  js : List Addr
def CA.own (D : CA) : List Addr := D.c :: D.fr :: D.jo :: (D.fs ++ D.js)
def coreF (p fr jo : Addr) (lim : Int) : List (Str × V) := [("plan", .ref p), ("frames", .ref fr), ("limit", .int lim), ("jobs", .ref jo)]
theorem coF_plan {p fr jo : Addr} {lim : Int} : (coreF p fr jo lim).lookup ("plan" : Str) = some (.ref p) := by kernel_rfl
theorem coF_fr {p fr jo : Addr} {lim : Int} : (coreF p fr jo lim).lookup ("frames" : Str) = some (.ref fr) := by kernel_rfl
theorem coF_lim {p fr jo : Addr} {lim : Int} : (coreF p fr jo lim).lookup ("limit" : Str) = some (.int lim) := by kernel_rfl
theorem coF_jo {p fr jo : Addr} {lim : Int} : (coreF p fr jo lim).lookup ("jobs" : Str) = some (.ref jo) := by kernel_rfl
theorem coF_putl {p fr jo : Addr} {lim n : Int} : putF "limit" (.int n) (coreF p fr jo lim) = coreF p fr jo n := by kernel_rfl
theorem coF_putj {p fr jo j : Addr} {lim : Int} : putF "jobs" (.ref j) (coreF p fr jo lim) = coreF p fr j lim := by kernel_rfl
structure CoreAt (K : Fg) (H : Hp) (p : Addr) (D : CA) (C : Cr) : Prop where
  nd : D.own.Nodup
  ins : ∃ dx, H D.c = some (.ins (ga K "Core") dx (coreF p D.fr D.jo C.limit))
  fr : H D.fr = some (.lst (D.fs.map V.ref))
  jo : H D.jo = some (.lst (D.js.map V.ref))
  fs : Lsts H D.fs (C.frames.map frV)
  js : Lsts H D.js (C.jobs.map jbV)
section
variable {K : Fg} {H H' : Hp} {p : Addr} {D : CA} {C : Cr}
theorem CoreAt.keep (h : CoreAt K H p D C) {A : List Addr} (f : Fr A H H') (n : ∀ a ∈ D.own, a ∉ A) : CoreAt K H' p D C := by
  obtain ⟨dx, e⟩ := h.ins
  refine ⟨h.nd, ⟨dx, f.at e (n _ (by simp [CA.own]))⟩, f.at h.fr (n _ (by simp [CA.own])), f.at h.jo (n _ (by simp [CA.own])), h.fs.keep f fun a ha => n a (by simp [CA.own, ha]), h.js.keep f fun a ha => n a (by simp [CA.own, ha])⟩
theorem CoreAt.same (h : CoreAt K H p D C) (s : Same H H') : CoreAt K H' p D C := h.keep (A := []) s.fr (by simp)
structure CA.Sep (D : CA) : Prop where
  cfr : D.c ≠ D.fr
  cjo : D.c ≠ D.jo
  frjo : D.fr ≠ D.jo
  cfs : D.c ∉ D.fs
  cjs : D.c ∉ D.js
  frfs : D.fr ∉ D.fs
  frjs : D.fr ∉ D.js
  jofs : D.jo ∉ D.fs
  jojs : D.jo ∉ D.js
  fsn : D.fs.Nodup
  jsn : D.js.Nodup
  fj : ∀ a ∈ D.fs, a ∉ D.js
theorem CA.sep {D : CA} (h : D.own.Nodup) : D.Sep := by
  simp only [CA.own, List.nodup_cons, List.mem_cons, List.mem_append, not_or] at h
  obtain ⟨⟨h1, h2, h3, h4⟩, ⟨h5, h6, h7⟩, ⟨h8, h9⟩, h10⟩ := h
  obtain ⟨n1, n2, n3⟩ := List.nodup_append.mp h10
  exact ⟨h1, h2, h5, h3, h4, h6, h7, h8, h9, n1, n2, fun a ha hb => n3 a ha a hb rfl⟩
theorem CA.Sep.own {D : CA} (h : D.Sep) : D.own.Nodup := by
  simp only [CA.own, List.nodup_cons, List.mem_cons, List.mem_append, not_or]
  exact ⟨⟨h.cfr, h.cjo, h.cfs, h.cjs⟩, ⟨h.frjo, h.frfs, h.frjs⟩, ⟨h.jofs, h.jojs⟩, List.nodup_append.mpr ⟨h.fsn, h.jsn, fun a ha b hb e => h.fj a ha (by rw [e]; exact hb)⟩⟩
/-- the limit -/
theorem CoreAt.setLim (h : CoreAt K H p D C) {dx : Addr} (n : Int) (e : H D.c = some (.ins (ga K "Core") dx (coreF p D.fr D.jo C.limit))) : CoreAt K (upd H D.c (.ins (ga K "Core") dx (coreF p D.fr D.jo n))) p D { C with limit := n } := by
  have s := CA.sep h.nd
  have f : Fr [D.c] H (upd H D.c (.ins (ga K "Core") dx (coreF p D.fr D.jo n))) := Fr.upd (by simp) e rfl
  refine ⟨h.nd, ⟨dx, upd_same⟩, f.at h.fr (by simp [Ne.symm s.cfr]), f.at h.jo (by simp [Ne.symm s.cjo]), h.fs.keep f fun a ha => ?_, h.js.keep f fun a ha => ?_⟩
  · simp only [List.mem_singleton]
    rintro rfl
    exact s.cfs ha
  · simp only [List.mem_singleton]
    rintro rfl
    exact s.cjs ha
/-- the last frame written -/
theorem CoreAt.setFrm (h : CoreAt K H p D C) {fs : List Frm} {f g : Frm} {as : List Addr} {a : Addr} (e1 : C.frames = fs ++ [f]) (e2 : D.fs = as ++ [a]) : CoreAt K (upd H a (.lst (frV g))) p D { C with frames := fs ++ [g] } := by
  have s := CA.sep h.nd
  have hfs := h.fs
  rw [e1, List.map_append] at hfs
  obtain ⟨bs, b, e3, h1, h2⟩ := hfs.snoc
  rw [e2] at e3
  obtain ⟨rfl, e4⟩ := List.append_inj' e3 rfl
  cases e4
  have f' : Fr [a] H (upd H a (.lst (frV g))) := Fr.upd (by simp) h2 rfl
  have ham : a ∈ D.fs := by rw [e2]; simp
  have hn := s.fsn
  rw [e2, List.nodup_append] at hn
  obtain ⟨dx, e⟩ := h.ins
  refine ⟨h.nd, ⟨dx, f'.at e fun z => s.cfs ?_⟩, f'.at h.fr fun z => s.frfs ?_, f'.at h.jo fun z => s.jofs ?_, ?_, h.js.keep f' fun c hc z => s.fj a ham ?_⟩
  · rw [List.mem_singleton.mp z]; exact ham
  · rw [List.mem_singleton.mp z]; exact ham
  · rw [List.mem_singleton.mp z]; exact ham
  · show Lsts _ D.fs ((fs ++ [g]).map frV)
    rw [e2, List.map_append]
    refine (h1.keep f' fun c hc z => hn.2.2 c hc a (by simp) (List.mem_singleton.mp z)).app (.cons upd_same .nil)
  · rw [← List.mem_singleton.mp z]; exact hc
theorem CoreAt.last (h : CoreAt K H p D C) {fs : List Frm} {f : Frm} (e1 : C.frames = fs ++ [f]) : ∃ as a, D.fs = as ++ [a] ∧ H a = some (.lst (frV f)) ∧ Lsts H as (fs.map frV) := by
  have hfs := h.fs
  rw [e1, List.map_append] at hfs
  obtain ⟨bs, b, e3, h1, h2⟩ := hfs.snoc
  exact ⟨bs, b, e3, h2, h1⟩
end
/-! ### events -/
def EvAt (K : Fg) (H : Hp) (l : Addr) (es : List Ev) : Prop := ∃ xs, H l = some (.lst xs) ∧ DpAll K H xs (es.map dEv)
theorem tupd_dEv (e : Ev) : tupd (dEv e) = true := rfl
theorem EvAt.keep {K : Fg} {H H' : Hp} {l : Addr} {es : List Ev} {A : List Addr} (h : EvAt K H l es) (f : Fr A H H') (n : l ∉ A) : EvAt K H' l es := by
  obtain ⟨xs, h1, h2⟩ := h
  exact ⟨xs, f.at h1 n, h2.tk f.tk (tupds_map tupd_dEv _)⟩
end Z
set_option maxHeartbeats 1000000
namespace Z
open PySem PySem.Spec PyProof.Rows L2
open He (ga ma)
theorem atI_last {α : Type} {xs : List α} {v : α} : atI (xs ++ [v]) (-1) = some v := by
  have e : ixN (xs ++ [v]).length (-1) = some xs.length := by
    unfold ixN
    rw [if_neg (by decide), List.length_append, List.length_singleton]
    rw [if_pos (by omega)]
    congr 1
    omega
  unfold atI
  rw [e]
  show (xs ++ [v])[xs.length]? = some v
  rw [List.getElem?_append_right (Nat.le_refl _), Nat.sub_self]
  rfl
/-! ### works left -/
structure JOk (P : Pl) (jobs : List (Str × Nat)) : Prop where
  sub : ∀ j ∈ jobs, j.1 ∈ P.wnames
  pw : jobs.Pairwise fun a b => a.1 = b.1 → a.2 ≠ 0 ∧ b.2 = 0
theorem JOk.nil {P : Pl} : JOk P [] := ⟨by simp, .nil⟩
theorem JOk.leave {P : Pl} {jobs : List (Str × Nat)} (h : JOk P jobs) {z : Str} (hz : z ∈ P.wnames) : JOk P (leave jobs z) := by
  unfold Z.leave
  split
  · exact h
  · rename_i hn
    refine ⟨fun j hj => ?_, List.pairwise_append.mpr ⟨h.pw, by simp, fun a ha b hb e => ?_⟩⟩
    · rcases List.mem_append.mp hj with hj | hj
      · exact h.sub j hj
      · rw [List.mem_singleton.mp hj]
        exact hz
    · rw [List.mem_singleton.mp hb] at e ⊢
      refine ⟨fun e0 => hn ?_, rfl⟩
      have : a = (z, 0) := Prod.ext e e0
      rw [← this]
      exact ha
theorem pw_half {jobs : List (Str × Nat)} (h : jobs.Pairwise fun a b => a.1 = b.1 → a.2 ≠ 0 ∧ b.2 = 0) (p : Str × Nat → Bool) (hp : ∀ a b, p a = true → p b = true → ¬ (a.2 ≠ 0 ∧ b.2 = 0)) : ((jobs.filter p).map (·.1)).Nodup := by
  refine List.Pairwise.map (R := fun a b => p a = true ∧ p b = true ∧ (a.1 = b.1 → a.2 ≠ 0 ∧ b.2 = 0)) _ (fun a b hab e => hp a b hab.1 hab.2.1 (hab.2.2 e)) ?_
  have h1 := List.Pairwise.filter p h
  have h2 : ∀ a ∈ jobs.filter p, p a = true := fun a ha => (List.mem_filter.mp ha).2
  clear h
  generalize jobs.filter p = l at h1 h2
  induction h1 with
  | nil => exact .nil
  | cons hx ht ih =>
    refine .cons (fun b hb => ⟨h2 _ (by simp), h2 b (List.mem_cons_of_mem _ hb), hx b hb⟩) (ih fun a ha => h2 a (List.mem_cons_of_mem _ ha))
theorem JOk.len {P : Pl} (ok : P.Ok) {jobs : List (Str × Nat)} (h : JOk P jobs) : jobs.length ≤ 16 := by
  have w8 : P.wnames.length ≤ 8 := by unfold Pl.wnames; rw [List.length_map]; exact ok.w8
  have k1 : Sub ((jobs.filter fun a => decide (a.2 = 0)).map (·.1)) P.wnames := ⟨pw_half h.pw _ fun a b ha hb => by simp at ha; simp [ha], fun x hx => by
    obtain ⟨j, hj, rfl⟩ := List.mem_map.mp hx
    exact h.sub j (List.mem_filter.mp hj).1⟩
  have k2 : Sub ((jobs.filter fun a => !decide (a.2 = 0)).map (·.1)) P.wnames := ⟨pw_half h.pw _ fun a b ha hb => by simp at hb; simp [hb], fun x hx => by
    obtain ⟨j, hj, rfl⟩ := List.mem_map.mp hx
    exact h.sub j (List.mem_filter.mp hj).1⟩
  have l1 := k1.len
  have l2 := k2.len
  rw [List.length_map] at l1 l2
  have e : jobs.length = (jobs.filter fun a => decide (a.2 = 0)).length + (jobs.filter fun a => !decide (a.2 = 0)).length := by
    have e2 := List.length_eq_countP_add_countP (p := fun a : Str × Nat => decide (a.2 = 0)) (l := jobs)
    rw [← List.countP_eq_length_filter, ← List.countP_eq_length_filter]
    have e3 : (fun a : Str × Nat => decide (¬ (decide (a.2 = 0)) = true)) = fun a => !decide (a.2 = 0) := by
      funext a
      simp
    rw [e3] at e2
    exact e2
  omega
/-! ### what holds of a processor -/
/-- where a call stands when nothing moves -/
def Stands (P : Pl) (f : Frm) : Prop := ∃ s, (P.ln f.ln).st[f.st]? = some s ∧ (s.1 = "run" ∨ s.1 = "await")
structure FOk (P : Pl) (fs : List Frm) (B : Bd) : Prop where
  nm : ∀ f ∈ fs, f.ln ∈ P.names
  tk : ∀ f ∈ fs, f.ln ∈ B.taken
  nd : (fs.map (·.ln)).Nodup
  st : ∀ f ∈ fs, Stands P f
theorem FOk.len {P : Pl} (ok : P.Ok) {fs : List Frm} {B : Bd} (h : FOk P fs B) : fs.length ≤ 12 := by
  have : Sub (fs.map (·.ln)) P.names := ⟨h.nd, fun x hx => by
    obtain ⟨f, hf, rfl⟩ := List.mem_map.mp hx
    exact h.nm f hf⟩
  have := this.len12 ok
  rwa [List.length_map] at this
/-- plan, processor, board, apart from one another -/
structure CSt (K : Fg) (H : Hp) (PD : PA) (P : Pl) (D : CA) (C : Cr) (E : BA) (B : Bd) : Prop where
  pl : PlanAt K H PD P
  co : CoreAt K H PD.p D C
  bd : BoardAt K H PD.p E B
  pd : ∀ a ∈ PD.own, a ∉ D.own ∧ a ∉ E.own
  de : ∀ a ∈ D.own, a ∉ E.own
  bok : B.Ok P
  jok : JOk P C.jobs
/-- what a step of a processor may change -/
structure Chg (H : Hp) (D : CA) (E : BA) (H' : Hp) (D' : CA) : Prop where
  fr : Fr (D.own ++ E.own) H H'
  c : D'.c = D.c
  own : ∀ a ∈ D'.own, a ∈ D.own ∨ H a = none
theorem Chg.refl {H : Hp} {D : CA} {E : BA} : Chg H D E H D := ⟨Fr.refl, rfl, fun _ h => .inl h⟩
theorem Chg.trans {H H1 H2 : Hp} {D D1 D2 : CA} {E : BA} (x : Chg H D E H1 D1) (y : Chg H1 D1 E H2 D2) : Chg H D E H2 D2 := by
  refine ⟨⟨fun a o h n => ?_, fun a h => x.fr.back (y.fr.back h)⟩, y.c.trans x.c, fun a ha => ?_⟩
  · refine y.fr.1 a o (x.fr.1 a o h n) ?_
    rcases n with n | n
    · refine .inl fun z => n ?_
      rcases List.mem_append.mp z with z | z
      · rcases x.own a z with z | z
        · exact List.mem_append_left _ z
        · rw [h] at z
          cases z
      · exact List.mem_append_right _ z
    · exact .inr n
  · rcases y.own a ha with h | h
    · exact x.own a h
    · exact .inr (x.fr.back h)
theorem PlanAt.ex {K : Fg} {H : Hp} {D : PA} {P : Pl} (h : PlanAt K H D P) : ∀ a ∈ D.own, H a ≠ none := by
  obtain ⟨_, _, _, h1, _⟩ := h.ins
  obtain ⟨_, h2, _⟩ := h.rows.at_
  obtain ⟨_, h3, _⟩ := h.works.at_
  simp [PA.own, h1, h2, h3]
theorem BoardAt.ex {K : Fg} {H : Hp} {p : Addr} {D : BA} {B : Bd} (h : BoardAt K H p D B) : ∀ a ∈ D.own, H a ≠ none := by
  obtain ⟨_, h1⟩ := h.ins
  simp [BA.own, h1, h.sh, h.wa, h.hi, h.ta, h.ra, h.jo]
theorem Lsts.ex {H : Hp} : ∀ {as : List Addr} {xss : List (List V)}, Lsts H as xss → ∀ a ∈ as, H a ≠ none
  | _, _, .nil, _, h => by simp at h
  | _, _, .cons e t, a, h => by
    rcases List.mem_cons.mp h with rfl | h
    · simp [e]
    · exact t.ex a h
theorem CoreAt.ex {K : Fg} {H : Hp} {p : Addr} {D : CA} {C : Cr} (h : CoreAt K H p D C) : ∀ a ∈ D.own, H a ≠ none := by
  obtain ⟨_, h1⟩ := h.ins
  intro a ha
  simp only [CA.own, List.mem_cons, List.mem_append] at ha
  rcases ha with rfl | rfl | rfl | ha | ha
  · simp [h1]
  · simp [h.fr]
  · simp [h.jo]
  · exact h.fs.ex a ha
  · exact h.js.ex a ha
section
variable {K : Fg} {H H' : Hp} {PD : PA} {P : Pl} {D D' : CA} {C C' : Cr} {E : BA} {B B' : Bd}
theorem CSt.same (h : CSt K H PD P D C E B) (s : Same H H') : CSt K H' PD P D C E B := ⟨h.pl.same s, h.co.same s, h.bd.same s, h.pd, h.de, h.bok, h.jok⟩
/-- the board's doing -/
theorem CSt.board (h : CSt K H PD P D C E B) (f : Fr E.own H H') (b : BoardAt K H' PD.p E B') (ok : B'.Ok P) : CSt K H' PD P D C E B' :=
  ⟨h.pl.keep f fun a ha => (h.pd a ha).2, h.co.keep f fun a ha => h.de a ha, b, h.pd, h.de, ok, h.jok⟩
theorem Chg.board (f : Fr E.own H H') : Chg H D E H' D := ⟨f.mono fun a ha => List.mem_append_right _ ha, rfl, fun _ h => .inl h⟩
/-- the processor's doing -/
theorem CSt.core (h : CSt K H PD P D C E B) (f : Fr D.own H H') (c : CoreAt K H' PD.p D' C') (o : ∀ a ∈ D'.own, a ∈ D.own ∨ H a = none) (j : JOk P C'.jobs) : CSt K H' PD P D' C' E B := by
  refine ⟨h.pl.keep f fun a ha => (h.pd a ha).1, c, h.bd.keep f fun a ha z => h.de a z ha, fun a ha => ⟨fun z => ?_, (h.pd a ha).2⟩, fun a ha => ?_, h.bok, j⟩
  · rcases o a z with z | z
    · exact (h.pd a ha).1 z
    · exact h.pl.ex a ha z
  · rcases o a ha with z | z
    · exact h.de a z
    · exact fun w => h.bd.ex a w z
theorem Chg.core (f : Fr D.own H H') (c : D'.c = D.c) (o : ∀ a ∈ D'.own, a ∈ D.own ∨ H a = none) : Chg H D E H' D' := ⟨f.mono fun a ha => List.mem_append_left _ ha, c, o⟩
theorem Chg.same (s : Same H H') : Chg H D E H' D := ⟨s.fr, rfl, fun _ h => .inl h⟩
end
theorem dp_jobs {K : Fg} {H : Hp} {D : CA} {C : Cr} {p : Addr} (co : CoreAt K H p D C) : Dp K H (.ref D.jo) (.list (C.jobs.map fun j => .list [.str j.1, .int (j.2 : Int)])) := .lst (SqL.of co.jo) (co.js.dp (d := fun j : Str × Nat => [.str j.1, .int (j.2 : Int)]) fun j => .cons (.str _) (.cons (.int _) .nil))
theorem jobs_shaped {P : Pl} (ok : P.Ok) {l : List (Str × Nat)} (h : ∀ j ∈ l, j.1 ∈ P.wnames) : SeqAt.shaped (.list (l.map fun j => .list [.str j.1, .int (j.2 : Int)])) = true := by
  have h1 : PyData.canLayAll0 (l.map fun j => PyData.list [.str j.1, .int (j.2 : Int)]) = true := by
    induction l with
    | nil => rfl
    | cons j l ih =>
      obtain ⟨hw, en⟩ := ok.wk_mem (h j (by simp))
      have e := (ok.shw _ hw).2
      rw [en] at e
      show ((PyData.str j.1).canLay0 && (true && true) && PyData.canLayAll0 _) = true
      rw [e, ih fun j hj => h j (List.mem_cons_of_mem _ hj)]
      rfl
  have h2 : PyData.depthAll (l.map fun j => PyData.list [.str j.1, .int (j.2 : Int)]) ≤ 1 := by
    clear h h1
    induction l with
    | nil => exact Nat.zero_le _
    | cons j l ih =>
      show max _ _ ≤ 1
      exact Nat.max_le.mpr ⟨Nat.le_refl _, ih⟩
  unfold SeqAt.shaped
  refine Bool.and_eq_true_iff.mpr ⟨h1, decide_eq_true ?_⟩
  show PyData.depthAll _ + 1 ≤ 64
  omega
theorem jobs_in {l : List (Str × Nat)} {z : Str} : ((l.map fun j => PyData.list [.str j.1, .int (j.2 : Int)]).any fun d => PyData.eqv d (.list [.str z, .int 0])) = decide ((z, 0) ∈ l) := by
  induction l with
  | nil => rfl
  | cons j l ih =>
    rw [List.map_cons, List.any_cons, ih]
    have : PyData.eqv (.list [.str j.1, .int (j.2 : Int)]) (.list [.str z, .int 0]) = decide (j = (z, 0)) := by
      have e : PyData.eqv (.list [.str j.1, .int (j.2 : Int)]) (.list [.str z, .int 0]) = ((j.1 == z) && (((j.2 : Int) == 0) && true)) := by simp only [PyData.eqv, PyData.eqvAll]
      rw [e]
      obtain ⟨a, n⟩ := j
      by_cases h : ((a, n) : Str × Nat) = (z, 0)
      · cases h
        simp
      · rw [decide_eq_false h]
        by_cases h1 : a = z
        · have h2 : n ≠ 0 := fun h2 => h (by rw [h1, h2])
          have h3 : ((n : Int) == 0) = false := beq_eq_false_iff_ne.mpr (by omega)
          simp [h3]
        · have h3 : (a == z) = false := beq_eq_false_iff_ne.mpr h1
          simp [h3]
    rw [this]
    by_cases e : j = (z, 0)
    · simp [e]
    · have e2 : ¬ (z, 0) = j := fun h => e h.symm
      simp [e, e2]
end Z
set_option maxHeartbeats 1000000
namespace Z
open PySem PySem.Spec PyProof.Rows L2
open He (ga ma)
/-! ### a call goes on -/
theorem Bd.carry_taken {P : Pl} {B : Bd} {s : Str × Key} : (B.carry P s).1.taken = B.taken := by
  unfold Bd.carry Bd.ring
  repeat (first | rfl | split)
theorem stepFx_taken {P : Pl} {lim : Int} {jobs : List (Str × Nat)} {B : Bd} {s : Str × Key} : (stepFx P lim jobs B s).2.2.taken = B.taken := by
  unfold stepFx
  split
  · rfl
  · split
    · rfl
    · split
      · exact Bd.carry_taken
      · rfl
theorem StepIs.carry {P : Pl} {s : Str × Key} (h : StepIs P s) (h1 : s.1 ≠ "run") (h2 : s.1 ≠ "bar") (h3 : s.1 ≠ "later") (h4 : s.1 ≠ "await") : CarryIs P s := by
  cases h with
  | run i _ _ => exact absurd rfl h1
  | bar i _ _ => exact absurd rfl h2
  | later z _ => exact absurd rfl h3
  | flag w i hm h0 h7 =>
    refine .inr ⟨?_, i, rfl, h0, h7⟩
    simp only [List.mem_cons, List.not_mem_nil, or_false] at hm ⊢
    rcases hm with rfl | rfl | rfl
    · exact .inl rfl
    · exact .inr rfl
    · exact absurd rfl h4
  | line w z hm hz _ => exact .inl ⟨hm, z, rfl, hz⟩
theorem StepIs.later_in {P : Pl} {s : Str × Key} (h : StepIs P s) (e : s.1 = "later") : ∃ z, s.2 = .inr z ∧ z ∈ P.wnames := by
  cases h with
  | later z hz => exact ⟨z, rfl, hz⟩
  | run i _ _ => exact absurd (show ("run" : Str) = "later" from e) (by decide)
  | bar i _ _ => exact absurd (show ("bar" : Str) = "later" from e) (by decide)
  | flag w i hw _ _ => simp only at e; subst e; exact absurd hw (by decide)
  | line w z hw _ _ => simp only at e; subst e; exact absurd hw (by decide)
theorem stepFx_ok {P : Pl} {lim : Int} {jobs : List (Str × Nat)} {B : Bd} {s : Str × Key} (hs : StepIs P s) (hr : s.1 ≠ "run") (bok : B.Ok P) (jok : JOk P jobs) : (stepFx P lim jobs B s).2.2.Ok P ∧ JOk P (stepFx P lim jobs B s).2.1 := by
  unfold stepFx
  split
  · exact ⟨bok, jok⟩
  · rename_i h2
    split
    · rename_i h3
      obtain ⟨z, e, hz⟩ := hs.later_in h3
      rw [e]
      exact ⟨bok, jok.leave hz⟩
    · rename_i h3
      split
      · rename_i h4
        exact ⟨bok.carry (hs.carry hr h2 h3 h4), jok⟩
      · exact ⟨bok, jok⟩
theorem stops_no {B : Bd} {s : Str × Key} (h : stops B s = false) : s.1 ≠ "run" := by
  unfold stops at h
  simp only [Bool.or_eq_false_iff, decide_eq_false_iff_not] at h
  exact h.1
theorem stops_yes {B : Bd} {s : Str × Key} (h : stops B s = true) : s.1 = "run" ∨ s.1 = "await" := by
  unfold stops at h
  simp only [Bool.or_eq_true, Bool.and_eq_true, decide_eq_true_eq] at h
  exact h.imp id (·.1)
structure PassOk (P : Pl) (r : Cr × Bd × List Ev) : Prop where
  bok : r.2.1.Ok P
  jok : JOk P r.1.jobs
  fok : FOk P r.1.frames r.2.1
theorem FOk.taken {P : Pl} {fs : List Frm} {B B' : Bd} (h : FOk P fs B) (e : B'.taken = B.taken) : FOk P fs B' := ⟨h.nm, fun f hf => by rw [e]; exact h.tk f hf, h.nd, h.st⟩
theorem FOk.snoc {P : Pl} {fs : List Frm} {f : Frm} {B : Bd} (h : FOk P fs B) (h1 : f.ln ∈ P.names) (h2 : f.ln ∈ B.taken) (h3 : f.ln ∉ fs.map (·.ln)) (h4 : Stands P f) : FOk P (fs ++ [f]) B := by
  refine ⟨fun g hg => ?_, fun g hg => ?_, ?_, fun g hg => ?_⟩
  · rcases List.mem_append.mp hg with hg | hg
    · exact h.nm g hg
    · rw [List.mem_singleton.mp hg]; exact h1
  · rcases List.mem_append.mp hg with hg | hg
    · exact h.tk g hg
    · rw [List.mem_singleton.mp hg]; exact h2
  · rw [List.map_append, List.nodup_append]
    refine ⟨h.nd, by simp, fun a ha b hb e => ?_⟩
    rw [List.map_singleton, List.mem_singleton] at hb
    subst hb
    subst e
    exact h3 ha
  · rcases List.mem_append.mp hg with hg | hg
    · exact h.st g hg
    · rw [List.mem_singleton.mp hg]; exact h4
theorem FOk.init {P : Pl} {fs : List Frm} {f : Frm} {B : Bd} (h : FOk P (fs ++ [f]) B) : FOk P fs B ∧ f.ln ∈ P.names ∧ f.ln ∈ B.taken ∧ f.ln ∉ fs.map (·.ln) ∧ Stands P f := by
  have hn := h.nd
  rw [List.map_append, List.nodup_append] at hn
  refine ⟨⟨fun g hg => h.nm g (List.mem_append_left _ hg), fun g hg => h.tk g (List.mem_append_left _ hg), hn.1, fun g hg => h.st g (List.mem_append_left _ hg)⟩, h.nm f (by simp), h.tk f (by simp), fun hm => ?_, h.st f (by simp)⟩
  exact hn.2.2 _ hm f.ln (by simp) rfl
theorem passL_ok {P : Pl} (ok : P.Ok) {fs : List Frm} {rest : List (Str × Key)} : ∀ {f : Frm} {lim : Int} {jobs : List (Str × Nat)} {B : Bd}, B.Ok P → JOk P jobs → FOk P fs B → f.ln ∈ P.names → f.ln ∈ B.taken → f.ln ∉ fs.map (·.ln) →
    rest = (P.ln f.ln).st.drop f.st → PassOk P (passL P fs f lim jobs B rest) := by
  induction rest with
  | nil =>
    intro f lim jobs B bok jok fok h1 h2 h3 _
    refine ⟨bok.ended _, jok, fok.nm, fun g hg => ?_, fok.nd, fok.st⟩
    show g.ln ∈ B.taken.erase f.ln
    refine (List.mem_erase_of_ne fun e => h3 ?_).mpr (fok.tk g hg)
    rw [← e]
    exact List.mem_map_of_mem hg
  | cons s r ih =>
    intro f lim jobs B bok jok fok h1 h2 h3 hr
    have hg : (P.ln f.ln).st[f.st]? = some s := by
      rw [← List.head?_drop, ← hr]
      rfl
    unfold passL
    cases e : stops B s with
    | true =>
      rw [if_pos rfl]
      exact ⟨bok, jok, fok.snoc h1 h2 h3 ⟨s, hg, stops_yes e⟩⟩
    | false =>
      rw [if_neg (by simp)]
      obtain ⟨b2, j2⟩ := stepFx_ok (lim := lim) (ok.step (ok.ln_mem h1).1 (List.mem_of_getElem? hg)) (stops_no e) bok jok
      refine ih b2 j2 (fok.taken stepFx_taken) h1 (by rw [stepFx_taken]; exact h2) h3 ?_
      show r = (P.ln f.ln).st.drop (f.st + 1)
      rw [← List.tail_drop, ← hr]
      rfl
theorem pass_ok {P : Pl} (ok : P.Ok) {fs : List Frm} {f : Frm} {lim : Int} {jobs : List (Str × Nat)} {B : Bd} (h : B.Ok P) (j : JOk P jobs) (k : FOk P fs B) (h1 : f.ln ∈ P.names) (h2 : f.ln ∈ B.taken) (h3 : f.ln ∉ fs.map (·.ln)) : PassOk P (pass P fs f lim jobs B) := passL_ok ok h j k h1 h2 h3 rfl
/-! ### how far calls have come -/
def left1 (P : Pl) (f : Frm) : Nat := (P.ln f.ln).st.length - f.st + 1
def left (P : Pl) (fs : List Frm) : Nat := (fs.map (left1 P)).sum
def passing (P : Pl) (B : Bd) (f : Frm) : Bool := match (P.ln f.ln).st[f.st]? with
  | some s => decide (s.1 = ("await" : Str)) && decide (kI s.2 ∈ B.raised)
  | none => false
theorem left_snoc {P : Pl} {fs : List Frm} {f : Frm} : left P (fs ++ [f]) = left P fs + left1 P f := by
  unfold left
  rw [List.map_append, List.sum_append]
  simp
theorem passL_left {P : Pl} {fs : List Frm} {rest : List (Str × Key)} : ∀ {f : Frm} {lim : Int} {jobs : List (Str × Nat)} {B : Bd}, rest = (P.ln f.ln).st.drop f.st → left P (passL P fs f lim jobs B rest).1.frames ≤ left P fs + left1 P f := by
  induction rest with
  | nil =>
    intro f lim jobs B _
    show left P fs ≤ _
    omega
  | cons s r ih =>
    intro f lim jobs B hr
    unfold passL
    split
    · show left P (fs ++ [f]) ≤ _
      rw [left_snoc]
      exact Nat.le_refl _
    · have h2 : r = (P.ln f.ln).st.drop (f.st + 1) := by
        rw [← List.tail_drop, ← hr]
        rfl
      refine Nat.le_trans (ih (f := { f with st := f.st + 1 }) h2) ?_
      show left P fs + ((P.ln f.ln).st.length - (f.st + 1) + 1) ≤ left P fs + ((P.ln f.ln).st.length - f.st + 1)
      omega
theorem pass_left {P : Pl} {fs : List Frm} {f : Frm} {lim : Int} {jobs : List (Str × Nat)} {B : Bd} (h : passing P B f = true) : left P (pass P fs f lim jobs B).1.frames < left P (fs ++ [f]) := by
  unfold passing at h
  cases e : (P.ln f.ln).st[f.st]? with
  | none => rw [e] at h; cases h
  | some s =>
    rw [e] at h
    have hlt := (List.getElem?_eq_some_iff.mp e).1
    have hs : stops B s = false := by
      simp only [Bool.and_eq_true, decide_eq_true_eq] at h
      unfold stops
      simp only [h.1, h.2, decide_true, Bool.not_true, Bool.and_false, Bool.or_false, decide_eq_false_iff_not]
      decide
    have hd : (P.ln f.ln).st.drop f.st = s :: (P.ln f.ln).st.drop (f.st + 1) := by
      rw [List.drop_eq_getElem_cons hlt]
      congr 1
      exact (List.getElem?_eq_some_iff.mp e).2
    unfold pass
    rw [hd]
    unfold passL
    rw [hs, if_neg (by simp), left_snoc]
    refine Nat.lt_of_le_of_lt (passL_left (f := { f with st := f.st + 1 }) rfl) ?_
    show left P fs + ((P.ln f.ln).st.length - (f.st + 1) + 1) < left P fs + ((P.ln f.ln).st.length - f.st + 1)
    omega
def passAll (P : Pl) : Nat → Cr → Bd → List Ev → Cr × Bd × List Ev
  | 0, C, B, es => (C, B, es)
  | n + 1, C, B, es => match C.frames.getLast? with
    | none => (C, B, es)
    | some f => if passing P B f = true then passAll P n (pass P C.frames.dropLast f C.limit C.jobs B).1 (pass P C.frames.dropLast f C.limit C.jobs B).2.1 (es ++ (pass P C.frames.dropLast f C.limit C.jobs B).2.2) else (C, B, es)
end Z
set_option maxHeartbeats 1000000
namespace Z
open PySem PySem.Spec PyProof.Rows L2
open He (ga ma)
/-! ### facts carried along -/
section
variable {K : Fg} {H H' : Hp} {a p : Addr} {o : HO} {xs : List V} {v : V} {d : PyData} {ds : List PyData}
theorem at_same (s : Same H H') (h : H a = some o) : H' a = some o := s a o h
theorem sqT_same (s : Same H H') (h : SqT K H a xs) : SqT K H' a xs := s.sqT h
theorem sqL_same (s : Same H H') (h : SqL K H a xs) : SqL K H' a xs := s.seq h
theorem dp_same (s : Same H H') (h : Dp K H v d) : Dp K H' v d := h.same s
theorem dpA_same (s : Same H H') (h : DpAll K H xs ds) : DpAll K H' xs ds := h.same s
theorem pl_same {D : PA} {P : Pl} (s : Same H H') (h : PlanAt K H D P) : PlanAt K H' D P := h.same s
theorem bd_same {D : BA} {B : Bd} (s : Same H H') (h : BoardAt K H p D B) : BoardAt K H' p D B := h.same s
theorem co_same {D : CA} {C : Cr} (s : Same H H') (h : CoreAt K H p D C) : CoreAt K H' p D C := h.same s
theorem cst_same {PD : PA} {P : Pl} {D : CA} {C : Cr} {E : BA} {B : Bd} (s : Same H H') (h : CSt K H PD P D C E B) : CSt K H' PD P D C E B := h.same s
theorem ev_same {l : Addr} {es : List Ev} (s : Same H H') (h : EvAt K H l es) : EvAt K H' l es := h.keep (A := []) s.fr (by simp)
end
/-! ### a processor's lists -/
section
variable {K : Fg} {H H' : Hp} {p : Addr} {D : CA} {C : Cr}
/-- one more call -/
theorem CoreAt.pushF (h : CoreAt K H p D C) {t : Addr} {g : Frm} (ht : H t = some (.lst (frV g))) (hn : t ∉ D.own) : CoreAt K (upd H D.fr (.lst ((D.fs ++ [t]).map V.ref))) p { D with fs := D.fs ++ [t] } { C with frames := C.frames ++ [g] } := by
  have s := CA.sep h.nd
  have hm : ∀ a ∈ D.own, a ≠ t := fun a ha e => hn (by rw [← e]; exact ha)
  have f' : Fr [D.fr] H (upd H D.fr (.lst ((D.fs ++ [t]).map V.ref))) := Fr.upd (by simp) h.fr rfl
  obtain ⟨dx, e⟩ := h.ins
  refine ⟨CA.Sep.own ⟨s.cfr, s.cjo, s.frjo, ?_, s.cjs, ?_, s.frjs, ?_, s.jojs, ?_, s.jsn, fun a ha => ?_⟩, ⟨dx, f'.at e (by simp [s.cfr])⟩, upd_same, f'.at h.jo (by simp [Ne.symm s.frjo]), ?_, h.js.keep f' fun a ha z => s.frjs (by rw [← List.mem_singleton.mp z]; exact ha)⟩
  · show D.c ∉ D.fs ++ [t]
    simp [s.cfs, hm D.c (by simp [CA.own])]
  · show D.fr ∉ D.fs ++ [t]
    simp [s.frfs, hm D.fr (by simp [CA.own])]
  · show D.jo ∉ D.fs ++ [t]
    simp [s.jofs, hm D.jo (by simp [CA.own])]
  · show (D.fs ++ [t]).Nodup
    exact List.nodup_append.mpr ⟨s.fsn, by simp, fun a ha b hb e => hm a (by simp [CA.own, ha]) (e.trans (List.mem_singleton.mp hb))⟩
  · have ha' : a ∈ D.fs ++ [t] := ha
    rcases List.mem_append.mp ha' with ha' | ha'
    · exact s.fj a ha'
    · rw [List.mem_singleton.mp ha']
      exact fun z => hm t (by simp [CA.own, z]) rfl
  · show Lsts _ (D.fs ++ [t]) ((C.frames ++ [g]).map frV)
    rw [List.map_append (l₁ := C.frames)]
    refine (h.fs.keep f' fun a ha z => s.frfs (by rw [← List.mem_singleton.mp z]; exact ha)).app (.cons (f'.at ht ?_) .nil)
    simp [Ne.symm (hm D.fr (by simp [CA.own]))]
/-- the innermost call gone -/
theorem CoreAt.popF (h : CoreAt K H p D C) {fs : List Frm} {f : Frm} {as : List Addr} {a : Addr} (e1 : C.frames = fs ++ [f]) (e2 : D.fs = as ++ [a]) : CoreAt K (upd H D.fr (.lst (as.map V.ref))) p { D with fs := as } { C with frames := fs } := by
  have s := CA.sep h.nd
  have f' : Fr [D.fr] H (upd H D.fr (.lst (as.map V.ref))) := Fr.upd (by simp) h.fr rfl
  obtain ⟨dx, e⟩ := h.ins
  have hfs := h.fs
  rw [e1, List.map_append] at hfs
  obtain ⟨bs, b, e3, h1, h2⟩ := hfs.snoc
  rw [e2] at e3
  obtain ⟨rfl, e4⟩ := List.append_inj' e3 rfl
  cases e4
  have hin : ∀ c ∈ as, c ∈ D.fs := fun c hc => by rw [e2]; exact List.mem_append_left _ hc
  have hn := s.fsn
  rw [e2, List.nodup_append] at hn
  refine ⟨CA.Sep.own ⟨s.cfr, s.cjo, s.frjo, fun z => s.cfs (hin _ z), s.cjs, fun z => s.frfs (hin _ z), s.frjs, fun z => s.jofs (hin _ z), s.jojs, hn.1, s.jsn, fun c hc => s.fj c (hin _ hc)⟩, ⟨dx, f'.at e (by simp [s.cfr])⟩, upd_same, f'.at h.jo (by simp [Ne.symm s.frjo]), h1.keep f' fun c hc z => s.frfs (by rw [← List.mem_singleton.mp z]; exact hin _ hc), h.js.keep f' fun a ha z => s.frjs (by rw [← List.mem_singleton.mp z]; exact ha)⟩
/-- the works written anew -/
theorem CoreAt.newJ (h : CoreAt K H p D C) {dx : Addr} {j : Addr} {js : List Addr} {jobs : List (Str × Nat)} (e : H D.c = some (.ins (ga K "Core") dx (coreF p D.fr D.jo C.limit))) (hj : H j = some (.lst (js.map V.ref))) (hl : Lsts H js (jobs.map jbV)) (hn : j ∉ D.own) (hs : ∀ a ∈ js, a ≠ j ∧ a ≠ D.c ∧ a ≠ D.fr ∧ a ∉ D.fs) (hd : js.Nodup) :
    CoreAt K (upd H D.c (.ins (ga K "Core") dx (coreF p D.fr j C.limit))) p { D with jo := j, js := js } { C with jobs := jobs } := by
  have s := CA.sep h.nd
  have hm : ∀ a ∈ D.own, a ≠ j := fun a ha e => hn (by rw [← e]; exact ha)
  have f' : Fr [D.c] H (upd H D.c (.ins (ga K "Core") dx (coreF p D.fr j C.limit))) := Fr.upd (by simp) e rfl
  refine ⟨CA.Sep.own ⟨s.cfr, hm _ (by simp [CA.own]), hm _ (by simp [CA.own]), s.cfs, fun z => (hs _ z).2.1 rfl, s.frfs, fun z => (hs _ z).2.2.1 rfl, fun z => hm _ (by simp [CA.own]; exact .inr (.inr (.inr (.inl z)))) rfl, fun z => (hs _ z).1 rfl, s.fsn, hd, fun a ha z => (hs _ z).2.2.2 ha⟩,
    ⟨dx, upd_same⟩, f'.at h.fr (by simp [Ne.symm s.cfr]), f'.at hj (by simp [Ne.symm (hm D.c (by simp [CA.own]))]), h.fs.keep f' fun a ha z => s.cfs (by rw [← List.mem_singleton.mp z]; exact ha), hl.keep f' fun a ha => by simp [(hs a ha).2.1]⟩
end
theorem frV_st {f : Frm} : ((frV f).set 1 (.int ((f.st : Int) + 1))) = frV { f with st := f.st + 1 } := by
  simp [frV]
theorem at0 {a : V} {r : List V} : atI (a :: r) 0 = some a := at_of (j := 0) rfl rfl
theorem at1 {a b : V} {r : List V} : atI (a :: b :: r) 1 = some b := at_of (j := 1) rfl rfl
theorem at2 {a b c : V} {r : List V} : atI (a :: b :: c :: r) 2 = some c := at_of (j := 2) rfl rfl
theorem at3 {a b c d : V} {r : List V} : atI (a :: b :: c :: d :: r) 3 = some d := at_of (j := 3) rfl rfl
theorem at4 {a b c d e : V} {r : List V} : atI (a :: b :: c :: d :: e :: r) 4 = some e := at_of (j := 4) rfl rfl
theorem dp_kD {K : Fg} {H : Hp} {v : V} {k : Key} (h : Dp K H v (kD k)) : v = kV k := by
  cases k with
  | inl i => cases h; rfl
  | inr z => cases h; rfl
theorem StepIs.await_int {P : Pl} {k : Key} (h : StepIs P ("await", k)) : ∃ i, k = .inl i := by
  cases h with
  | flag _ i _ _ _ => exact ⟨i, rfl⟩
  | line _ _ hw _ _ => exact absurd hw (by decide)
theorem tt_by {t : TT} {σ : L2.St} {H : Hp} {R : Bool → Hp → Prop} (b : Bool) (H' : Hp) (h : ∀ R : Bool → Hp → Prop, R b H' → t σ H R) (q : R b H') : t σ H R := h R q
end Z
set_option maxHeartbeats 1000000
namespace Z
open PySem PySem.Spec PyProof.Rows L2
open He (ga ma)
/-! ### the queue -/
def jobD (P : Pl) (x : (Str × Nat) × Nat) : PyData := .tuple [.int (0 - (P.wk x.1.1).rk), .int (x.2 : Int)]
def places (P : Pl) (jobs : List (Str × Nat)) : List Nat := (jobs.zipIdx.mergeSort (PySem.W.dataLe false (jobD P))).map (·.2)
theorem jobLe {P : Pl} {a b : (Str × Nat) × Nat} : PySem.W.dataLe false (jobD P) a b = decide (0 - (P.wk a.1.1).rk < 0 - (P.wk b.1.1).rk ∨ 0 - (P.wk a.1.1).rk = 0 - (P.wk b.1.1).rk ∧ (a.2 : Int) ≤ (b.2 : Int)) := by
  have := congrFun (congrFun (PySem.W.dataLe_ii (fun x : (Str × Nat) × Nat => 0 - (P.wk x.1.1).rk) (fun x => (x.2 : Int))) a) b
  exact this
theorem places_perm (P : Pl) (jobs : List (Str × Nat)) : (places P jobs).Perm (List.range jobs.length) := by
  unfold places
  refine ((List.mergeSort_perm _ _).map _).trans ?_
  rw [List.zipIdx_map_snd, List.range_eq_range']
theorem places_len (P : Pl) (jobs : List (Str × Nat)) : (places P jobs).length = jobs.length := by rw [(places_perm P jobs).length_eq, List.length_range]
theorem places_lt {P : Pl} {jobs : List (Str × Nat)} {k : Nat} (h : k ∈ places P jobs) : k < jobs.length := List.mem_range.mp ((places_perm P jobs).mem_iff.mp h)
theorem places_sorted (P : Pl) (jobs : List (Str × Nat)) : (jobs.zipIdx.mergeSort (PySem.W.dataLe false (jobD P))).Pairwise fun a b => PySem.W.dataLe false (jobD P) a b = true := by
  refine List.pairwise_mergeSort (fun a b c h1 h2 => ?_) (fun a b => ?_) _
  · rw [jobLe] at h1 h2 ⊢
    simp only [decide_eq_true_eq] at h1 h2 ⊢
    omega
  · rw [jobLe, jobLe]
    simp only [Bool.or_eq_true, decide_eq_true_eq]
    omega
/-- the first of the queue is the first of its name -/
theorem places_head {P : Pl} {jobs : List (Str × Nat)} {k : Nat} {r : List Nat} (h : places P jobs = k :: r) : ∃ j, jobs[k]? = some j ∧ ∀ i x, jobs[i]? = some x → x.1 = j.1 → k ≤ i := by
  have hs := places_sorted P jobs
  have hm : ∀ x, x ∈ jobs.zipIdx ↔ x ∈ jobs.zipIdx.mergeSort (PySem.W.dataLe false (jobD P)) := fun x => (List.mergeSort_perm jobs.zipIdx (PySem.W.dataLe false (jobD P))).mem_iff.symm
  unfold places at h
  generalize jobs.zipIdx.mergeSort (PySem.W.dataLe false (jobD P)) = l at h hs hm
  cases l with
  | nil => cases h
  | cons y l =>
    rw [List.map_cons] at h
    have hy : y.2 = k := (List.cons.inj h).1
    have h1 := List.mem_zipIdx_iff_getElem?.mp ((hm y).mpr (by simp))
    rw [hy] at h1
    refine ⟨y.1, h1, fun i x hi e => ?_⟩
    have h2 := (hm (x, i)).mp (List.mem_zipIdx_iff_getElem?.mpr hi)
    rcases List.mem_cons.mp h2 with h2 | h2
    · rw [← h2] at hy
      exact Nat.le_of_eq hy.symm
    · have h3 := (List.pairwise_cons.mp hs).1 _ h2
      rw [jobLe] at h3
      simp only [decide_eq_true_eq, e] at h3
      omega
def doWork (P : Pl) (jobs : List (Str × Nat)) : List (Str × Nat) × List Ev := match places P jobs with
  | [] => (jobs, [])
  | k :: _ => match jobs[k]? with
    | none => (jobs, [])
    | some j => if (j.2 : Int) + 1 < (P.wk j.1).tk then (jobs.set k (j.1, j.2 + 1), []) else (jobs.eraseIdx k, [("done", j.1)])
theorem JOk.setJ {P : Pl} {jobs : List (Str × Nat)} {k : Nat} {j : Str × Nat} (h : JOk P jobs) (hk : jobs[k]? = some j) (hm : ∀ i x, jobs[i]? = some x → x.1 = j.1 → k ≤ i) (n : Nat) (hn : n ≠ 0) : JOk P (jobs.set k (j.1, n)) := by
  refine ⟨fun x hx => ?_, List.pairwise_iff_getElem.mpr fun a b ha hb hab => ?_⟩
  · rcases List.mem_or_eq_of_mem_set hx with hx | hx
    · exact h.sub x hx
    · rw [hx]
      exact h.sub j (List.mem_of_getElem? hk)
  · rw [List.length_set] at ha hb
    have hp := List.pairwise_iff_getElem.mp h.pw
    have hkk := (List.getElem?_eq_some_iff.mp hk)
    obtain ⟨hk1, hk2⟩ := hkk
    rw [List.getElem_set, List.getElem_set]
    intro e
    split at e
    · rename_i e1
      subst e1
      rw [if_pos rfl]
      split at e
      · omega
      · rename_i h3
        rw [if_neg h3]
        have := hp k b hk1 hb hab
        rw [hk2] at this
        exact ⟨hn, (this e).2⟩
    · rename_i h3
      rw [if_neg h3]
      split at e
      · rename_i e1
        subst e1
        have := hm a jobs[a] (List.getElem?_eq_getElem ha) e
        omega
      · rename_i h4
        rw [if_neg h4]
        exact hp a b ha hb hab e
theorem JOk.eraseJ {P : Pl} {jobs : List (Str × Nat)} (h : JOk P jobs) (k : Nat) : JOk P (jobs.eraseIdx k) := ⟨fun x hx => h.sub x (List.mem_of_mem_eraseIdx hx), h.pw.sublist (List.eraseIdx_sublist _ _)⟩
theorem JOk.doWork {P : Pl} {jobs : List (Str × Nat)} (h : JOk P jobs) : JOk P (doWork P jobs).1 := by
  unfold Z.doWork
  split
  · exact h
  · rename_i k r e
    obtain ⟨j, hj, hm⟩ := places_head e
    rw [hj]
    dsimp only
    split
    · exact h.setJ hj hm _ (Nat.succ_ne_zero _)
    · exact h.eraseJ k
/-! ### a tick of a processor -/
def stepOf (P : Pl) (f : Frm) : Str × Key := ((P.ln f.ln).st[f.st]?).getD ("", .inl 0)
def spend (P : Pl) (fs : List Frm) (f : Frm) (lim : Int) (jobs : List (Str × Nat)) (B : Bd) : Cr × Bd × List Ev :=
  if (f.tk : Int) + 1 < kI (stepOf P f).2 then (⟨fs ++ [{ f with tk := f.tk + 1 }], lim, jobs⟩, B, []) else pass P fs { f with st := f.st + 1, tk := 0 } lim jobs B
def tickC (P : Pl) (C : Cr) (B : Bd) (es : List Ev) : Str × Cr × Bd × List Ev := match C.frames.getLast? with
  | some f => if (stepOf P f).1 = "await" then ("spun", C, B, es) else ("call", (spend P C.frames.dropLast f C.limit C.jobs B).1, (spend P C.frames.dropLast f C.limit C.jobs B).2.1, es ++ (spend P C.frames.dropLast f C.limit C.jobs B).2.2)
  | none => if C.jobs = [] then ("idle", C, B, es) else ("work", { C with jobs := (doWork P C.jobs).1 }, B, es ++ (doWork P C.jobs).2)
def Cr.tick (P : Pl) (C : Cr) (B : Bd) : Str × Cr × Bd × List Ev := tickC P (passAll P (left P C.frames) C B []).1 (passAll P (left P C.frames) C B []).2.1 (passAll P (left P C.frames) C B []).2.2
structure COk (P : Pl) (C : Cr) (B : Bd) : Prop where
  bok : B.Ok P
  jok : JOk P C.jobs
  fok : FOk P C.frames B
theorem PassOk.cok {P : Pl} {r : Cr × Bd × List Ev} (h : PassOk P r) : COk P r.1 r.2.1 := ⟨h.bok, h.jok, h.fok⟩
theorem COk.pass {P : Pl} (ok : P.Ok) {C : Cr} {B : Bd} {fs : List Frm} {f : Frm} (h : COk P C B) (e : C.frames = fs ++ [f]) : COk P (pass P fs f C.limit C.jobs B).1 (pass P fs f C.limit C.jobs B).2.1 := by
  have hf := h.fok
  rw [e] at hf
  obtain ⟨h1, h2, h3, h4, h5⟩ := hf.init
  exact (pass_ok ok h.bok h.jok h1 h2 h3 h4).cok
theorem FOk.inj {P : Pl} {fs : List Frm} {f g : Frm} {B : Bd} (h : FOk P (fs ++ [f]) B) (e : g.ln = f.ln) (hs : Stands P g) : FOk P (fs ++ [g]) B := by
  obtain ⟨h1, h2, h3, h4, h5⟩ := h.init
  exact h1.snoc (by rw [e]; exact h2) (by rw [e]; exact h3) (by rw [e]; exact h4) hs
theorem COk.spend {P : Pl} (ok : P.Ok) {C : Cr} {B : Bd} {fs : List Frm} {f : Frm} (h : COk P C B) (e : C.frames = fs ++ [f]) : COk P (spend P fs f C.limit C.jobs B).1 (spend P fs f C.limit C.jobs B).2.1 := by
  have hf := h.fok
  rw [e] at hf
  obtain ⟨h1, h2, h3, h4, h5⟩ := hf.init
  unfold Z.spend
  split
  · exact ⟨h.bok, h.jok, hf.inj rfl h5⟩
  · exact (pass_ok (f := { f with st := f.st + 1, tk := 0 }) ok h.bok h.jok h1 h2 h3 h4).cok
theorem COk.tickC {P : Pl} (ok : P.Ok) {C : Cr} {B : Bd} {es : List Ev} (h : COk P C B) : COk P (tickC P C B es).2.1 (tickC P C B es).2.2.1 := by
  unfold Z.tickC
  rcases List.eq_nil_or_concat C.frames with e | ⟨fs, f, e⟩
  · rw [e]
    show COk P (if C.jobs = [] then _ else _ : Str × Cr × Bd × List Ev).2.1 (if C.jobs = [] then _ else _ : Str × Cr × Bd × List Ev).2.2.1
    split
    · exact h
    · exact ⟨h.bok, h.jok.doWork, by have := h.fok; rw [e] at this; exact this⟩
  · rw [List.concat_eq_append] at e
    rw [e, List.getLast?_concat]
    dsimp only
    split
    · exact h
    · rw [List.dropLast_concat]
      exact h.spend ok e
theorem COk.passAll {P : Pl} (ok : P.Ok) : ∀ (n : Nat) {C : Cr} {B : Bd} {es : List Ev}, COk P C B → COk P (passAll P n C B es).1 (passAll P n C B es).2.1
  | 0, _, _, _, h => h
  | n + 1, C, B, es, h => by
    unfold Z.passAll
    rcases List.eq_nil_or_concat C.frames with e | ⟨fs, f, e⟩
    · rw [e]
      exact h
    · rw [List.concat_eq_append] at e
      rw [e, List.getLast?_concat]
      dsimp only
      split
      · rw [List.dropLast_concat]
        exact COk.passAll ok n (h.pass ok e)
      · exact h
theorem COk.tick {P : Pl} (ok : P.Ok) {C : Cr} {B : Bd} (h : COk P C B) : COk P (C.tick P B).2.1 (C.tick P B).2.2.1 := (COk.passAll ok _ h).tickC ok
/-! bounds -/
theorem left_le {P : Pl} (ok : P.Ok) {fs : List Frm} (h : ∀ f ∈ fs, f.ln ∈ P.names) : left P fs ≤ 9 * fs.length := by
  unfold left
  induction fs with
  | nil => exact Nat.le_refl _
  | cons f fs ih =>
    have h1 := ok.steps8 (ok.ln_mem (h f (by simp))).1
    have h2 := ih fun g hg => h g (List.mem_cons_of_mem _ hg)
    rw [List.map_cons, List.sum_cons, List.length_cons]
    have : left1 P f ≤ 9 := by unfold left1; omega
    omega
theorem passL_ev {P : Pl} {fs : List Frm} {rest : List (Str × Key)} : ∀ {f : Frm} {lim : Int} {jobs : List (Str × Nat)} {B : Bd}, rest = (P.ln f.ln).st.drop f.st → (passL P fs f lim jobs B rest).2.2.length + left P (passL P fs f lim jobs B rest).1.frames ≤ left P fs + left1 P f := by
  induction rest with
  | nil =>
    intro f lim jobs B _
    show 1 + left P fs ≤ _
    unfold left1
    omega
  | cons s r ih =>
    intro f lim jobs B hr
    unfold passL
    split
    · show 0 + left P (fs ++ [f]) ≤ _
      rw [left_snoc]
      omega
    · have h2 : r = (P.ln f.ln).st.drop (f.st + 1) := by
        rw [← List.tail_drop, ← hr]
        rfl
      refine Nat.le_trans (ih (f := { f with st := f.st + 1 }) h2) ?_
      show left P fs + ((P.ln f.ln).st.length - (f.st + 1) + 1) ≤ left P fs + ((P.ln f.ln).st.length - f.st + 1)
      omega
theorem pass_ev {P : Pl} {fs : List Frm} {f : Frm} {lim : Int} {jobs : List (Str × Nat)} {B : Bd} : (pass P fs f lim jobs B).2.2.length + left P (pass P fs f lim jobs B).1.frames ≤ left P (fs ++ [f]) := by
  rw [left_snoc]
  exact passL_ev rfl
/-! ### comprehensions over enumerate -/
section
variable {K : Fg} {σ : L2.St} {H H1 : Hp} {Q : VK} {g : TG} {tt : TT} {te : TE} {vs : List Nat} {a : Addr} {xs : List V} {α : Type} {l : List α} {da : α → PyData}
def LcE (K : Fg) (g : TG) (tt : TT) (te : TE) (vs : List Nat) (σ : L2.St) (Q : VK) (us : List V) (H1 : Hp) : Prop := ∃ a xs, us = [.ref a] ∧ SqL K H1 a xs ∧ LcQ (Ite K a) g tt te vs σ Q H1
theorem s_lcE {ta : TA} (q : ta σ H fun us H1 => LcE K g tt te vs σ Q us H1) : tLc (iEnum K ta) g tt te vs σ H Q := q
def dAtI (l : List α) (f : Nat → α → PyData) (i : Nat) : PyData := (l[i]?.map (f i)).getD .none
theorem keptD_enum (l : List α) (f : Nat → α → PyData) : keptD (fun _ => true) (dAtI l f) l.length = l.zipIdx.map fun p => f p.2 p.1 := by
  unfold keptD
  rw [List.filter_eq_self.mpr (fun _ _ => rfl)]
  refine List.ext_getElem? fun i => ?_
  rw [List.getElem?_map, List.getElem?_map, List.getElem?_zipIdx]
  by_cases hi : i < l.length
  · rw [List.getElem?_range hi, List.getElem?_eq_getElem hi]
    show some (dAtI l f i) = some (f (0 + i) l[i])
    unfold dAtI
    rw [List.getElem?_eq_getElem hi, Nat.zero_add]
    rfl
  · rw [List.getElem?_eq_none (by rw [List.length_range]; omega), List.getElem?_eq_none (by omega)]
    rfl
theorem lcE_d (hT : SqL K H1 a xs) (hA : DpAll K H1 xs (l.map da)) (f : Nat → α → PyData) (hn : l.length ≤ 40000) (hf : ∀ i x, tupd (f i x) = true)
    (hs : ∀ (i : Nat) (x : α) (v : V) (t : Addr) (H : Hp) (Yes : VK) (No : Hp → Prop), l[i]? = some x → Same H1 H → Dp K H v (da x) → SqT K H t [.int (i : Nat), v] → (∀ y H4, Same H H4 → Dp K H4 y (f i x) → Yes y H4) →
      g (.ref t) (wipe σ vs) H fun σ2 H2 => wipe σ2 vs = wipe σ vs ∧ tt σ2 H2 fun b H3 => if b = true then te σ2 H3 Yes else No H3)
    (hd : ∀ D H' ys, H1 D = none → Same H1 H' → H' D = some (.lst ys) → DpAll K H' ys (l.zipIdx.map fun p => f p.2 p.1) → Q (.ref D) H') : LcE K g tt te vs σ Q [.ref a] H1 := by
  have hlen : xs.length = l.length := by rw [hA.len, List.length_map]
  refine ⟨a, xs, rfl, hT, fun D hD => ?_⟩
  refine lc_dat (K := K) (walk_enum (K := K) (a := a) (xs := xs)) (fun _ => true) (dAtI l f) hD (by rw [hlen]; exact hn) (fun i => ?_) (fun H s => s.seq hT) (fun i H x H' y => ?_) (fun i x H H' Yes No hi s1 y yes no => ?_) (fun H' ys s1 e1 a1 => ?_)
  · unfold dAtI
    cases e : l[i]? with
    | none => rfl
    | some x => exact hf i x
  · obtain ⟨T, _, _, _, h2, h3, _⟩ := y
    rw [h3]
    exact Same.new h2
  · obtain ⟨T, x1, y1, rfl, h2, h3, h4, h5⟩ := y
    cases h4
    have s2 : Same H H' := by rw [h3]; exact Same.new h2
    obtain ⟨d, hd', dd⟩ := hA.getv h5
    rw [List.getElem?_map] at hd'
    obtain ⟨z, hz, rfl⟩ := Option.map_eq_some_iff.mp hd'
    have ed : dAtI l f i = f i z := by
      unfold dAtI
      rw [hz]
      rfl
    refine hs i z y1 T H' Yes No hz (s1.trans s2) (dd.same (s1.trans s2)) (SqT.of (by rw [h3, upd_same])) fun y H4 s4 d4 => yes rfl y H4 s4 (by rw [ed]; exact d4)
  · rw [hlen, keptD_enum] at a1
    exact hd D H' ys hD s1 e1 a1
end
/-! ### slices -/
section
variable {K : Fg} {σ : L2.St} {H : Hp} {Q : VK} {a : Addr} {xs : List V}
theorem s_sl {r : V → Option Int → Option Int → Hp → VK → Prop} {te : TE} {tl th : TO} (q : te σ H fun x H1 => tl σ H1 fun l H2 => th σ H2 fun u H3 => r x l u H3 Q) : L2.tSl r te tl th σ H Q := q
theorem s_nop {R : Option Int → Hp → Prop} (q : R none H) : tNoPart σ H R := q
theorem s_part {R : Option Int → Hp → Prop} {t : TE} (q : t σ H fun x H1 => ∃ i, x = .int i ∧ R (some i) H1) : tPart t σ H R := q
theorem s_slL {lo hi : Option Int} (h : SqL K H a xs) (q : ∀ p, H p = none → Q (.ref p) (upd H p (.lst (cutV xs lo hi)))) : rSlL K (.ref a) lo hi H Q := ⟨a, xs, rfl, h, q⟩
theorem cut_take (xs : List V) (k : Nat) : cutV xs none (some (k : Int)) = xs.take k := by
  unfold cutV
  rw [HT.sIx_none, HT.sIx_nat, List.drop_zero, Nat.sub_zero]
  by_cases h : k ≤ xs.length
  · rw [Nat.min_eq_left h]
  · rw [Nat.min_eq_right (by omega), List.take_of_length_le (by omega), List.take_of_length_le (by omega)]
theorem cut_drop (xs : List V) (k : Nat) : cutV xs (some (k : Int)) none = xs.drop k := by
  unfold cutV
  rw [HT.sIx_none, HT.sIx_nat]
  by_cases h : k ≤ xs.length
  · rw [Nat.min_eq_left h, List.take_of_length_le (by rw [List.length_drop]; omega)]
  · rw [Nat.min_eq_right (by omega), List.drop_of_length_le (by omega), List.drop_of_length_le (by omega), List.take_nil]
end
/-- a work written anew -/
theorem CoreAt.setJ {K : Fg} {H : Hp} {p : Addr} {D : CA} {C : Cr} (h : CoreAt K H p D C) {t : Addr} {g : Str × Nat} (ht : H t = some (.lst (jbV g))) (hn : t ∉ D.own) (k : Nat) : CoreAt K (upd H D.jo (.lst ((D.js.set k t).map V.ref))) p { D with js := D.js.set k t } { C with jobs := C.jobs.set k g } := by
  have s := CA.sep h.nd
  have hm : ∀ a ∈ D.own, a ≠ t := fun a ha e => hn (by rw [← e]; exact ha)
  have hin : ∀ a ∈ D.js.set k t, a ∈ D.js ∨ a = t := fun a ha => List.mem_or_eq_of_mem_set ha
  have f' : Fr [D.jo] H (upd H D.jo (.lst ((D.js.set k t).map V.ref))) := Fr.upd (by simp) h.jo rfl
  obtain ⟨dx, e⟩ := h.ins
  refine ⟨CA.Sep.own ⟨s.cfr, s.cjo, s.frjo, s.cfs, fun z => ?_, s.frfs, fun z => ?_, s.jofs, fun z => ?_, s.fsn, ?_, fun a ha z => ?_⟩, ⟨dx, f'.at e (by simp [s.cjo])⟩, f'.at h.fr (by simp [s.frjo]), upd_same, h.fs.keep f' fun a ha z => s.jofs (by rw [← List.mem_singleton.mp z]; exact ha), ?_⟩
  · rcases hin _ z with z | z
    · exact s.cjs z
    · exact hm D.c (by simp [CA.own]) z
  · rcases hin _ z with z | z
    · exact s.frjs z
    · exact hm D.fr (by simp [CA.own]) z
  · rcases hin _ z with z | z
    · exact s.jojs z
    · exact hm D.jo (by simp [CA.own]) z
  · show (D.js.set k t).Nodup
    refine List.pairwise_iff_getElem.mpr fun i j hi hj hij => ?_
    rw [List.length_set] at hi hj
    have nd := List.pairwise_iff_getElem.mp s.jsn
    have mm : ∀ i (h : i < D.js.length), D.js[i] ≠ t := fun i h => hm _ (by simp [CA.own])
    rw [List.getElem_set, List.getElem_set]
    split
    · split
      · omega
      · exact fun e => mm _ _ e.symm
    · split
      · exact mm _ _
      · exact nd i j hi hj hij
  · rcases hin _ z with z | z
    · exact s.fj a ha z
    · exact hm a (by have ha' : a ∈ D.fs := ha; simp [CA.own, ha']) z
  · show Lsts _ (D.js.set k t) ((C.jobs.set k g).map jbV)
    rw [List.map_set (l := C.jobs)]
    refine (h.js.keep f' fun a ha z => s.jojs (by rw [← List.mem_singleton.mp z]; exact ha)).set k (f'.at ht ?_)
    simp [Ne.symm (hm D.jo (by simp [CA.own]))]
theorem set_take_drop {α : Type} {l : List α} {k : Nat} {x : α} : (l.set k x).take k ++ (l.set k x).drop (k + 1) = l.eraseIdx k := by
  rw [List.take_set_of_le (Nat.le_refl _), List.drop_set_of_lt (Nat.lt_succ_self _), List.eraseIdx_eq_take_drop_succ]
theorem ixN_n {n j : Nat} (hj : j < n) : ixN n (j : Int) = some j := by
  unfold ixN
  rw [if_pos (by omega), if_pos (by omega)]
  rfl
theorem spend_lt {P : Pl} {fs : List Frm} {f : Frm} {lim : Int} {jobs : List (Str × Nat)} {B : Bd} {n : Int} (e : stepOf P f = (("run" : Str), (Sum.inl n : Key))) (h : (f.tk : Int) + 1 < n) : spend P fs f lim jobs B = (⟨fs ++ [{ f with tk := f.tk + 1 }], lim, jobs⟩, B, []) := by
  unfold spend
  rw [e]
  exact if_pos h
theorem spend_ge {P : Pl} {fs : List Frm} {f : Frm} {lim : Int} {jobs : List (Str × Nat)} {B : Bd} {n : Int} (e : stepOf P f = (("run" : Str), (Sum.inl n : Key))) (h : ¬ (f.tk : Int) + 1 < n) : spend P fs f lim jobs B = pass P fs { f with st := f.st + 1, tk := 0 } lim jobs B := by
  unfold spend
  rw [e]
  exact if_neg h
end Z
set_option maxHeartbeats 1000000
namespace Z
open PySem PySem.Spec PyProof.Rows L2
open He (ga ma)
theorem left_pos {P : Pl} {fs : List Frm} (h : left P fs = 0) : fs = [] := by
  cases fs with
  | nil => rfl
  | cons f fs =>
    unfold left left1 at h
    rw [List.map_cons, List.sum_cons] at h
    omega
theorem passAll_nil {P : Pl} {n : Nat} {C : Cr} {B : Bd} {es : List Ev} (h : C.frames = []) : passAll P n C B es = (C, B, es) := by
  cases n with
  | zero => rfl
  | succ n =>
    unfold passAll
    rw [h]
    rfl
theorem passAll_no {P : Pl} {n : Nat} {C : Cr} {B : Bd} {es : List Ev} {fs : List Frm} {f : Frm} (h : C.frames = fs ++ [f]) (hp : passing P B f = false) : passAll P n C B es = (C, B, es) := by
  cases n with
  | zero => rfl
  | succ n =>
    unfold passAll
    rw [h, List.getLast?_concat]
    dsimp only
    rw [hp, if_neg (by simp)]
theorem passAll_yes {P : Pl} {n : Nat} {C : Cr} {B : Bd} {es : List Ev} {fs : List Frm} {f : Frm} (h : C.frames = fs ++ [f]) (hp : passing P B f = true) :
    passAll P (n + 1) C B es = passAll P n (pass P fs f C.limit C.jobs B).1 (pass P fs f C.limit C.jobs B).2.1 (es ++ (pass P fs f C.limit C.jobs B).2.2) := by
  conv => lhs; unfold passAll
  rw [h, List.getLast?_concat, List.dropLast_concat]
  dsimp only
  rw [hp, if_pos rfl]
theorem passAll_fuel {P : Pl} : ∀ (n m : Nat) {C : Cr} {B : Bd} {es : List Ev}, left P C.frames ≤ n → left P C.frames ≤ m → passAll P n C B es = passAll P m C B es
  | 0, m, C, B, es, h1, h2 => by
    have := left_pos (Nat.le_zero.mp h1)
    rw [passAll_nil this, passAll_nil this]
  | n + 1, 0, C, B, es, h1, h2 => by
    have := left_pos (Nat.le_zero.mp h2)
    rw [passAll_nil this, passAll_nil this]
  | n + 1, m + 1, C, B, es, h1, h2 => by
    rcases List.eq_nil_or_concat C.frames with e | ⟨fs, f, e⟩
    · rw [passAll_nil e, passAll_nil e]
    · rw [List.concat_eq_append] at e
      cases hp : passing P B f with
      | false => rw [passAll_no e hp, passAll_no e hp]
      | true =>
        rw [passAll_yes e hp, passAll_yes e hp]
        have := pass_left (fs := fs) (lim := C.limit) (jobs := C.jobs) hp
        rw [e] at h1 h2
        exact passAll_fuel n m (by omega) (by omega)
/-- at the end nothing passes -/
theorem passAll_end {P : Pl} : ∀ (n : Nat) {C : Cr} {B : Bd} {es : List Ev}, left P C.frames ≤ n → ∀ fs f, (passAll P n C B es).1.frames = fs ++ [f] → passing P (passAll P n C B es).2.1 f = false
  | 0, C, B, es, h1, fs, f, e => by
    have := left_pos (Nat.le_zero.mp h1)
    rw [passAll_nil this, this] at e
    simp at e
  | n + 1, C, B, es, h1, fs, f, e => by
    rcases List.eq_nil_or_concat C.frames with e1 | ⟨gs, g, e1⟩
    · rw [passAll_nil e1, e1] at e
      simp at e
    · rw [List.concat_eq_append] at e1
      cases hp : passing P B g with
      | false =>
        rw [passAll_no e1 hp] at e ⊢
        rw [e1] at e
        obtain ⟨_, e2⟩ := List.append_inj' e rfl
        cases e2
        exact hp
      | true =>
        rw [passAll_yes e1 hp] at e ⊢
        have := pass_left (fs := gs) (lim := C.limit) (jobs := C.jobs) hp
        rw [e1] at h1
        exact passAll_end n (by omega) fs f e
theorem while_e {c : TT} {tb : TS} {D : Ends} {σ : L2.St} {H : Hp} (Ex : L2.St → Hp → Prop) (hx : ∀ σ H, Ex σ H → D.nx σ H) (h : (∀ σ H, Ex σ H → D.nx σ H) → tWhile c tb D σ H) : tWhile c tb D σ H := h hx
theorem EvAt.ne {K : Fg} {H : Hp} {l : Addr} {es : List Ev} (h : EvAt K H l es) : H l ≠ none := by
  obtain ⟨xs, e, _⟩ := h
  rw [e]
  simp
theorem EvAt.len {K : Fg} {H : Hp} {l : Addr} {es : List Ev} (h : EvAt K H l es) : ∃ xs, H l = some (.lst xs) ∧ xs.length = es.length ∧ DpAll K H xs (es.map dEv) := by
  obtain ⟨xs, e, d⟩ := h
  exact ⟨xs, e, by rw [d.len, List.length_map], d⟩
theorem COk.len {P : Pl} (ok : P.Ok) {C : Cr} {B : Bd} (h : COk P C B) : left P C.frames ≤ 108 := by
  have h1 := left_le ok h.fok.nm
  have h2 := h.fok.len ok
  omega
theorem passing_eq {P : Pl} {B : Bd} {f : Frm} {s : Str × Key} (h : (P.ln f.ln).st[f.st]? = some s) : passing P B f = (decide (s.1 = ("await" : Str)) && decide (kI s.2 ∈ B.raised)) := by
  unfold passing
  rw [h]
theorem spend_ev {P : Pl} {fs : List Frm} {f : Frm} {lim : Int} {jobs : List (Str × Nat)} {B : Bd} : (spend P fs f lim jobs B).2.2.length ≤ left P fs + 9 + (P.ln f.ln).st.length := by
  unfold spend
  split
  · exact Nat.zero_le _
  · have := pass_ev (P := P) (fs := fs) (f := { f with st := f.st + 1, tk := 0 }) (lim := lim) (jobs := jobs) (B := B)
    rw [left_snoc] at this
    unfold left1 at this
    simp only at this
    omega
theorem doWork_ev {P : Pl} {jobs : List (Str × Nat)} : (doWork P jobs).2.length ≤ 1 := by
  unfold doWork
  split
  · exact Nat.zero_le _
  · split
    · exact Nat.zero_le _
    · split <;> simp
end Z
set_option maxHeartbeats 1000000
namespace Z
open PySem PySem.Spec PyProof.Rows L2
open He (ga ma)
/-! ### one processor -/
structure Sg where
  B : Bd
  C : Cr
  time : Int
  sums : List (Str × Int)
def sumKeys : List Str := ["call", "spun", "work", "idle"]
def Sg.start (P : Pl) : Sg := ⟨⟨[], [], [], [], [], P.order.map fun z => (z, 0)⟩, ⟨[], 0, []⟩, 0, sumKeys.map fun k => (k, 0)⟩
def ready (P : Pl) (B : Bd) : List Str := P.order.filter B.can
def takeC (P : Pl) (C : Cr) (B : Bd) : Cr × Bd × List Ev := match ready P B with
  | [] => (C, B, [])
  | z :: _ => if C.may P z = true then ((pass P C.frames ⟨z, 0, 0, C.limit⟩ C.limit C.jobs (B.begun z)).1, (pass P C.frames ⟨z, 0, 0, C.limit⟩ C.limit C.jobs (B.begun z)).2.1, ("begin", z) :: (pass P C.frames ⟨z, 0, 0, C.limit⟩ C.limit C.jobs (B.begun z)).2.2) else (C, B, [])
def Sg.tick (P : Pl) (G : Sg) : Sg × List Ev :=
  (⟨((takeC P G.C G.B).1.tick P (takeC P G.C G.B).2.1).2.2.1, ((takeC P G.C G.B).1.tick P (takeC P G.C G.B).2.1).2.1, G.time + 1, bump G.sums ((takeC P G.C G.B).1.tick P (takeC P G.C G.B).2.1).1⟩,
   (takeC P G.C G.B).2.2 ++ ((takeC P G.C G.B).1.tick P (takeC P G.C G.B).2.1).2.2.2)
def Sg.ring (P : Pl) (G : Sg) (z : Str) : Sg := { G with B := (G.B.ring P z).1 }
/-! in the heap -/
structure SA where
  s : Addr
  su : Addr
  PD : PA
  D : CA
  E : BA
def SA.own (A : SA) : List Addr := A.s :: A.su :: (A.D.own ++ A.E.own)
def singF (A : SA) (time : Int) : List (Str × V) := [("plan", .ref A.PD.p), ("board", .ref A.E.b), ("core", .ref A.D.c), ("time", .int time), ("sums", .ref A.su)]
theorem sgF_plan {A : SA} {t : Int} : (singF A t).lookup ("plan" : Str) = some (.ref A.PD.p) := by kernel_rfl
theorem sgF_board {A : SA} {t : Int} : (singF A t).lookup ("board" : Str) = some (.ref A.E.b) := by kernel_rfl
theorem sgF_core {A : SA} {t : Int} : (singF A t).lookup ("core" : Str) = some (.ref A.D.c) := by kernel_rfl
theorem sgF_time {A : SA} {t : Int} : (singF A t).lookup ("time" : Str) = some (.int t) := by kernel_rfl
theorem sgF_sums {A : SA} {t : Int} : (singF A t).lookup ("sums" : Str) = some (.ref A.su) := by kernel_rfl
theorem sgF_putt {A : SA} {t u : Int} : putF "time" (.int u) (singF A t) = singF A u := by kernel_rfl
structure SgAt (K : Fg) (H : Hp) (A : SA) (P : Pl) (G : Sg) : Prop where
  cst : CSt K H A.PD P A.D G.C A.E G.B
  fok : FOk P G.C.frames G.B
  ins : ∃ dx, H A.s = some (.ins (ga K "Single") dx (singF A G.time))
  su : H A.su = some (.dK (joinK G.sums))
  sk : G.sums.map (·.1) = sumKeys
  ssu : A.s ≠ A.su
  sn : A.s ∉ A.PD.own ∧ A.s ∉ A.D.own ∧ A.s ∉ A.E.own
  sun : A.su ∉ A.PD.own ∧ A.su ∉ A.D.own ∧ A.su ∉ A.E.own
structure ChS (H : Hp) (A : SA) (H' : Hp) (A' : SA) : Prop where
  fr : Fr A.own H H'
  s : A'.s = A.s
  su : A'.su = A.su
  PD : A'.PD = A.PD
  E : A'.E = A.E
  c : A'.D.c = A.D.c
  own : ∀ a ∈ A'.own, a ∈ A.own ∨ H a = none
theorem ChS.refl {H : Hp} {A : SA} : ChS H A H A := ⟨Fr.refl, rfl, rfl, rfl, rfl, rfl, fun _ h => .inl h⟩
theorem ChS.same {H H' : Hp} {A : SA} (s : Same H H') : ChS H A H' A := ⟨s.fr, rfl, rfl, rfl, rfl, rfl, fun _ h => .inl h⟩
theorem Fr.seq {M N : List Addr} {H H1 H2 : Hp} (x : Fr M H H1) (y : Fr N H1 H2) (h : ∀ a ∈ N, a ∈ M ∨ H a = none) : Fr M H H2 := by
  refine ⟨fun a o e n => y.1 a o (x.1 a o e n) ?_, fun a e => x.back (y.back e)⟩
  rcases n with n | n
  · refine .inl fun z => ?_
    rcases h a z with z | z
    · exact n z
    · rw [e] at z
      cases z
  · exact .inr n
theorem ChS.trans {H H1 H2 : Hp} {A A1 A2 : SA} (x : ChS H A H1 A1) (y : ChS H1 A1 H2 A2) : ChS H A H2 A2 := by
  refine ⟨x.fr.seq y.fr x.own, y.s.trans x.s, y.su.trans x.su, y.PD.trans x.PD, y.E.trans x.E, y.c.trans x.c, fun a ha => ?_⟩
  rcases y.own a ha with h | h
  · exact x.own a h
  · exact .inr (x.fr.back h)
section
variable {K : Fg} {H H' : Hp} {A : SA} {P : Pl} {G : Sg}
theorem SgAt.keep (h : SgAt K H A P G) {N : List Addr} (f : Fr N H H') (n : ∀ a ∈ A.own, a ∉ N) (n2 : ∀ a ∈ A.PD.own, a ∉ N) : SgAt K H' A P G := by
  obtain ⟨dx, e⟩ := h.ins
  have hD : ∀ a ∈ A.D.own, a ∉ N := fun a ha => n a (by simp [SA.own, ha])
  have hE : ∀ a ∈ A.E.own, a ∉ N := fun a ha => n a (by simp [SA.own, ha])
  exact ⟨⟨h.cst.pl.keep f n2, h.cst.co.keep f hD, h.cst.bd.keep f hE, h.cst.pd, h.cst.de, h.cst.bok, h.cst.jok⟩, h.fok, ⟨dx, f.at e (n _ (by simp [SA.own]))⟩, f.at h.su (n _ (by simp [SA.own])), h.sk, h.ssu, h.sn, h.sun⟩
theorem SgAt.same (h : SgAt K H A P G) (s : Same H H') : SgAt K H' A P G := h.keep (N := []) s.fr (by simp) (by simp)
theorem SgAt.ex (h : SgAt K H A P G) : ∀ a ∈ A.own, H a ≠ none := by
  obtain ⟨dx, e⟩ := h.ins
  intro a ha
  simp only [SA.own, List.mem_cons, List.mem_append] at ha
  rcases ha with rfl | rfl | ha | ha
  · simp [e]
  · simp [h.su]
  · exact h.cst.co.ex a ha
  · exact h.cst.bd.ex a ha
theorem sg_same (s : Same H H') (h : SgAt K H A P G) : SgAt K H' A P G := h.same s
/-- processor and board go on -/
theorem SgAt.chg (h : SgAt K H A P G) {D' : CA} {C' : Cr} {B' : Bd} (c : Chg H A.D A.E H' D') (st : CSt K H' A.PD P D' C' A.E B') (fk : FOk P C'.frames B') : SgAt K H' { A with D := D' } P { G with C := C', B := B' } ∧ ChS H A H' { A with D := D' } := by
  obtain ⟨dx, e⟩ := h.ins
  have hs1 : A.s ∉ A.D.own ++ A.E.own := by simp [h.sn.2.1, h.sn.2.2]
  have hs2 : A.su ∉ A.D.own ++ A.E.own := by simp [h.sun.2.1, h.sun.2.2]
  have nD : ∀ a, (∃ o, H a = some o) → a ∉ A.D.own → a ∉ D'.own := fun a ⟨o, ho⟩ n z => by
    rcases c.own a z with z | z
    · exact n z
    · rw [ho] at z
      cases z
  refine ⟨⟨st, fk, ⟨dx, ?_⟩, c.fr.at h.su hs2, h.sk, h.ssu, ⟨h.sn.1, nD _ ⟨_, e⟩ h.sn.2.1, h.sn.2.2⟩, ⟨h.sun.1, nD _ ⟨_, h.su⟩ h.sun.2.1, h.sun.2.2⟩⟩, ⟨c.fr.mono fun a ha => ?_, rfl, rfl, rfl, rfl, c.c, fun a ha => ?_⟩⟩
  · have e2 := c.fr.at e hs1
    have : singF { A with D := D' } G.time = singF A G.time := by
      unfold singF
      simp only [c.c]
    rw [this]
    exact e2
  · simp only [SA.own, List.mem_cons]
    exact .inr (.inr ha)
  · simp only [SA.own, List.mem_cons, List.mem_append] at ha ⊢
    rcases ha with ha | ha | ha | ha
    · exact .inl (.inl ha)
    · exact .inl (.inr (.inl ha))
    · rcases c.own a ha with z | z
      · exact .inl (.inr (.inr (.inl z)))
      · exact .inr z
    · exact .inl (.inr (.inr (.inr ha)))
/-- the counts -/
theorem SgAt.setSu (h : SgAt K H A P G) (l : List (Str × Int)) (hk : l.map (·.1) = sumKeys) : SgAt K (upd H A.su (.dK (joinK l))) A P { G with sums := l } ∧ ChS H A (upd H A.su (.dK (joinK l))) A := by
  obtain ⟨dx, e⟩ := h.ins
  have f : Fr [A.su] H (upd H A.su (.dK (joinK l))) := Fr.upd (by simp) h.su rfl
  have k : ∀ {M : List Addr}, A.su ∉ M → ∀ a ∈ M, a ∉ [A.su] := fun hm a ha z => hm (by rw [← List.mem_singleton.mp z]; exact ha)
  exact ⟨⟨⟨h.cst.pl.keep f (k h.sun.1), h.cst.co.keep f (k h.sun.2.1), h.cst.bd.keep f (k h.sun.2.2), h.cst.pd, h.cst.de, h.cst.bok, h.cst.jok⟩, h.fok, ⟨dx, f.at e (by simp [h.ssu])⟩, upd_same, hk, h.ssu, h.sn, h.sun⟩, f.mono (by simp [SA.own]), rfl, rfl, rfl, rfl, rfl, fun _ h => .inl h⟩
/-- the time -/
theorem SgAt.setT (h : SgAt K H A P G) {dx : Addr} (t : Int) (e : H A.s = some (.ins (ga K "Single") dx (singF A G.time))) : SgAt K (upd H A.s (.ins (ga K "Single") dx (singF A t))) A P { G with time := t } ∧ ChS H A (upd H A.s (.ins (ga K "Single") dx (singF A t))) A := by
  have f : Fr [A.s] H (upd H A.s (.ins (ga K "Single") dx (singF A t))) := Fr.upd (by simp) e rfl
  have k : ∀ {M : List Addr}, A.s ∉ M → ∀ a ∈ M, a ∉ [A.s] := fun hm a ha z => hm (by rw [← List.mem_singleton.mp z]; exact ha)
  exact ⟨⟨⟨h.cst.pl.keep f (k h.sn.1), h.cst.co.keep f (k h.sn.2.1), h.cst.bd.keep f (k h.sn.2.2), h.cst.pd, h.cst.de, h.cst.bok, h.cst.jok⟩, h.fok, ⟨dx, upd_same⟩, f.at h.su (by simp [Ne.symm h.ssu]), h.sk, h.ssu, h.sn, h.sun⟩, f.mono (by simp [SA.own]), rfl, rfl, rfl, rfl, rfl, fun _ h => .inl h⟩
end
theorem s_make {C : Addr} {sp : Sp} {dvs : List V} {E : XK} {t : TA} {σ : L2.St} {H : Hp} {Q : VK} (q : t σ H fun vs H1 => ∀ x dx, H1 x = none → H1 dx = none → dx ≠ x →
  sp (.ref x :: (vs ++ dvs)) (upd (upd H1 dx (.own x)) x (.ins C dx [])) (fun v H2 => v = .non ∧ Q (.ref x) H2) E) : tMake C sp dvs E t σ H Q := q
theorem mkS {H H2 : Hp} {x dx : Addr} {o u : HO} (hx : H x = none) (hd : H dx = none) (e : upd (upd H dx o) x u = H2) : Same H H2 := by
  subst e
  intro a v h
  rw [upd_ne (ne_of_none h hx), upd_ne (ne_of_none h hd)]
  exact h
theorem mkE {H H2 : Hp} {x dx : Addr} {o u : HO} (e : upd (upd H dx o) x u = H2) : H2 x = some u := by
  subst e
  exact upd_same
/-! what goes on -/
theorem can_names {P : Pl} {B : Bd} {z : Str} {r : List Str} (h : ready P B = z :: r) : z ∈ P.names ∧ B.can z = true := by
  have : z ∈ ready P B := by rw [h]; simp
  unfold ready at this
  obtain ⟨h1, h2⟩ := List.mem_filter.mp this
  exact ⟨P.order_perm.mem_iff.mp h1, h2⟩
theorem can_taken {B : Bd} {z : Str} (h : B.can z = true) : z ∉ B.taken := by
  unfold Bd.can at h
  simp only [Bool.and_eq_true, Bool.not_eq_true', decide_eq_false_iff_not] at h
  exact h.2.2
theorem takeC_ok {P : Pl} (ok : P.Ok) {C : Cr} {B : Bd} (h : COk P C B) : COk P (takeC P C B).1 (takeC P C B).2.1 := by
  unfold takeC
  cases e : ready P B with
  | nil => exact h
  | cons z r =>
    dsimp only
    split
    · obtain ⟨h1, h2⟩ := can_names e
      have h3 := can_taken h2
      have k : FOk P C.frames (B.begun z) := ⟨h.fok.nm, fun f hf => List.mem_append_left _ (h.fok.tk f hf), h.fok.nd, h.fok.st⟩
      exact (pass_ok ok (h.bok.begun h1 h3) h.jok k (f := ⟨z, 0, 0, C.limit⟩) h1 (by simp [Bd.begun]) (fun hm => by
        obtain ⟨g, hg, e⟩ := List.mem_map.mp hm
        have e' : g.ln = z := e
        exact h3 (by rw [← e']; exact h.fok.tk g hg))).cok
    · exact h
theorem takeC_ev {P : Pl} (ok : P.Ok) {C : Cr} {B : Bd} (h : COk P C B) : (takeC P C B).2.2.length ≤ 200 := by
  unfold takeC
  cases e : ready P B with
  | nil => simp
  | cons z r =>
    dsimp only
    split
    · obtain ⟨h1, h2⟩ := can_names e
      have h3 := pass_ev (P := P) (fs := C.frames) (f := ⟨z, 0, 0, C.limit⟩) (lim := C.limit) (jobs := C.jobs) (B := B.begun z)
      have h4 := h.len ok
      have h5 := ok.steps8 (ok.ln_mem h1).1
      rw [left_snoc] at h3
      unfold left1 at h3
      dsimp only at h3
      rw [List.length_cons]
      omega
    · simp
theorem passAll_ev {P : Pl} : ∀ (n : Nat) {C : Cr} {B : Bd} {es : List Ev}, (passAll P n C B es).2.2.length + left P (passAll P n C B es).1.frames ≤ es.length + left P C.frames
  | 0, _, _, _ => Nat.le_refl _
  | n + 1, C, B, es => by
    rcases List.eq_nil_or_concat C.frames with e | ⟨fs, f, e⟩
    · rw [passAll_nil e]
      exact Nat.le_refl _
    · rw [List.concat_eq_append] at e
      cases hp : passing P B f with
      | false => rw [passAll_no e hp]; exact Nat.le_refl _
      | true =>
        rw [passAll_yes e hp]
        refine Nat.le_trans (passAll_ev n) ?_
        have := pass_ev (P := P) (fs := fs) (f := f) (lim := C.limit) (jobs := C.jobs) (B := B)
        rw [List.length_append, e]
        omega
theorem tick_ev {P : Pl} (ok : P.Ok) {C : Cr} {B : Bd} (h : COk P C B) : (C.tick P B).2.2.2.length ≤ 400 := by
  have h1 := passAll_ev (P := P) (left P C.frames) (C := C) (B := B) (es := [])
  have h2 := h.len ok
  have h3 := COk.passAll ok (left P C.frames) (es := []) h
  unfold Cr.tick tickC
  simp only [List.length_nil] at h1
  generalize passAll P (left P C.frames) C B [] = r at h1 h3
  rcases List.eq_nil_or_concat r.1.frames with e | ⟨fs, f, e⟩
  · rw [e]
    dsimp only [List.getLast?_nil]
    split
    · dsimp only; omega
    · have := doWork_ev (P := P) (jobs := r.1.jobs)
      dsimp only
      rw [List.length_append]
      omega
  · rw [List.concat_eq_append] at e
    rw [e, List.getLast?_concat, List.dropLast_concat]
    dsimp only
    split
    · dsimp only; omega
    · have h4 := spend_ev (P := P) (fs := fs) (f := f) (lim := r.1.limit) (jobs := r.1.jobs) (B := r.2.1)
      have h5 := h3.len ok
      have h6 := ok.steps8 (ok.ln_mem (h3.fok.nm f (by rw [e]; simp))).1
      rw [e, left_snoc] at h5
      dsimp only
      rw [List.length_append]
      omega
theorem tick_kind {P : Pl} {C : Cr} {B : Bd} : (C.tick P B).1 ∈ sumKeys := by
  unfold Cr.tick tickC
  generalize passAll P (left P C.frames) C B [] = r
  split
  · split <;> simp [sumKeys]
  · split <;> simp [sumKeys]
theorem Sg.tick_fok {P : Pl} (ok : P.Ok) {G : Sg} (h : COk P G.C G.B) : COk P (G.tick P).1.C (G.tick P).1.B := (takeC_ok ok h).tick ok
end Z
set_option maxHeartbeats 1000000
namespace Z
open PySem PySem.Spec PyProof.Rows L2
open He (ga ma)
def dCall (f : Frm) : PyData := .tuple [.str f.ln, .int f.st, .int f.tk]
def dJob (j : Str × Nat) : PyData := .tuple [.str j.1, .int j.2]
def jobAt (jobs : List (Str × Nat)) (k : Nat) : Str × Nat := (jobs[k]?).getD ("", 0)
def queueOf (P : Pl) (jobs : List (Str × Nat)) : List (Str × Nat) := (places P jobs).map (jobAt jobs)
theorem queue_perm (P : Pl) (jobs : List (Str × Nat)) : (queueOf P jobs).Perm jobs := by
  have h := (places_perm P jobs).map (jobAt jobs)
  have e : (List.range jobs.length).map (jobAt jobs) = jobs := by
    refine List.ext_getElem? fun i => ?_
    rw [List.getElem?_map]
    by_cases hi : i < jobs.length
    · rw [List.getElem?_range hi]
      show some (jobAt jobs i) = _
      unfold jobAt
      rw [List.getElem?_eq_getElem hi]
      rfl
    · rw [List.getElem?_eq_none (by rw [List.length_range]; omega), List.getElem?_eq_none (by omega)]
      rfl
  rw [e] at h
  exact h
theorem joinK_mem {l : List (Str × Int)} (hn : (l.map (·.1)).Nodup) {x : Str × Int} (h : x ∈ l) : valV (joinK l) (.inr x.1) = some (.int x.2) := by
  induction l with
  | nil => simp at h
  | cons y l ih =>
    rw [List.map_cons, List.nodup_cons] at hn
    rcases List.mem_cons.mp h with rfl | h
    · exact valV_pos rfl
    · have : ¬ y.1 = x.1 := fun e => hn.1 (by rw [e]; exact List.mem_map_of_mem h)
      rw [joinK, List.map_cons, valV_neg (fun q => this (Sum.inr.inj q))]
      exact ih hn.2 h
theorem dp_pairs {K : Fg} {H : Hp} : ∀ (l : List (Str × Int)), DpAll K H (l.map fun x => V.str x.1) (l.map fun x => PyData.str x.1)
  | [] => .nil
  | _ :: l => .cons (.str _) (dp_pairs l)
theorem Fr.sqL {K : Fg} {N : List Addr} {H H' : Hp} {a : Addr} {xs : List V} (f : Fr N H H') (h : SqL K H a xs) (n : a ∉ N) : SqL K H' a xs := by
  rcases h with (h | ⟨o, h⟩) | h
  · exact .inl (.inl (f.at h n))
  · exact .inl (.inr ⟨o, f.at h n⟩)
  · exact .inr h
/-! ### numbers drawn -/
theorem Fr.scr {K : Fg} {H H' : Hp} {r a : Addr} {xs : List V} (f : Fr [r] H H') (h : SqL K H a xs) (n : a ≠ r ∨ ∀ H, SqL K H a xs) : SqL K H' a xs := n.elim (fun n => f.sqL h (by simp [n])) fun z => z H'
structure RowAt (K : Fg) (H : Hp) (r sc : Addr) (ns : List Int) : Prop where
  row : ∃ i seed rest : Int, H r = some (.lst [.ref sc, .int i, .int seed, .int rest]) ∧ 0 ≤ i ∧ 0 ≤ seed ∧ seed < 2147483647
  scr : SqL K H sc (ns.map V.int)
  ne : sc ≠ r ∨ ∀ H, SqL K H sc (ns.map V.int)
theorem RowAt.keep {K : Fg} {H H' : Hp} {r sc : Addr} {ns : List Int} {N : List Addr} (h : RowAt K H r sc ns) (f : Fr N H H') (n1 : r ∉ N) (n2 : sc ∉ N ∨ ∀ H, SqL K H sc (ns.map V.int)) : RowAt K H' r sc ns := by
  obtain ⟨i, seed, rest, e, h1⟩ := h.row
  exact ⟨⟨i, seed, rest, f.at e n1, h1⟩, n2.elim (f.sqL h.scr) fun z => z H', h.ne⟩
theorem RowAt.same {K : Fg} {H H' : Hp} {r sc : Addr} {ns : List Int} (h : RowAt K H r sc ns) (s : Same H H') : RowAt K H' r sc ns := h.keep (N := []) s.fr (by simp) (.inl (by simp))
theorem RowAt.ex {K : Fg} {H : Hp} {r sc : Addr} {ns : List Int} (h : RowAt K H r sc ns) : H r ≠ none := by
  obtain ⟨i, seed, rest, e, _⟩ := h.row
  rw [e]
  simp
theorem row_same {K : Fg} {H H' : Hp} {r sc : Addr} {ns : List Int} (s : Same H H') (h : RowAt K H r sc ns) : RowAt K H' r sc ns := h.same s
theorem s_int1 {H : Hp} {Q : VK} {i : Int} (q : Q (.int i) H) : (∃ j, ([V.int i] : List V) = [.int j] ∧ Q (.int j) H) ∨ ∃ k, ([V.int i] : List V) = [.bl k] ∧ Q (.int (if k then 1 else 0)) H := .inl ⟨i, rfl, q⟩
theorem s_int1b {H : Hp} {Q : VK} {b : Bool} (q : Q (.int (if b then 1 else 0)) H) : (∃ j, ([V.bl b] : List V) = [.int j] ∧ Q (.int j) H) ∨ ∃ k, ([V.bl b] : List V) = [.bl k] ∧ Q (.int (if k then 1 else 0)) H := .inr ⟨b, rfl, q⟩
end Z
set_option maxHeartbeats 1000000
namespace Z
open PySem PySem.Spec PyProof.Rows L2
/-! ### ticks accounted for (set-ups of run and later steps) -/
def runs (l : List (Str × Key)) : Int := ((l.filter fun s => decide (s.1 = ("run" : Str))).map fun s => kI s.2).sum
def prog (P : Pl) (f : Frm) : Int := f.tk + runs ((P.ln f.ln).st.take f.st)
def progs (P : Pl) (fs : List Frm) : Int := (fs.map (prog P)).sum
def jobsum (js : List (Str × Nat)) : Int := (js.map fun j => (j.2 : Int)).sum
def evEnd (P : Pl) (es : List Ev) : Int := ((es.filter fun e => decide (e.1 = ("end" : Str))).map fun e => ticksOf (P.ln e.2)).sum
def evDone (P : Pl) (es : List Ev) : Int := ((es.filter fun e => decide (e.1 = ("done" : Str))).map fun e => (P.wk e.2).tk).sum
def RL (P : Pl) : Prop := ∀ l ∈ P.ls, ∀ s ∈ l.st, s.1 = ("run" : Str) ∨ s.1 = ("later" : Str)
theorem runs_app (a b : List (Str × Key)) : runs (a ++ b) = runs a + runs b := by
  unfold runs
  rw [List.filter_append, List.map_append, List.sum_append]
theorem runs_one_run (n : Int) : runs [(("run" : Str), (.inl n : Key))] = n := by
  unfold runs
  simp [kI]
theorem runs_one_no {s : Str × Key} (h : s.1 ≠ "run") : runs [s] = 0 := by
  unfold runs
  rw [List.filter_cons_of_neg (by simpa using h)]
  rfl
theorem runs_take {l : List (Str × Key)} {i : Nat} {s : Str × Key} (h : l[i]? = some s) : runs (l.take (i + 1)) = runs (l.take i) + runs [s] := by
  rw [List.take_add_one, h, runs_app]
  rfl
theorem progs_app (P : Pl) (a b : List Frm) : progs P (a ++ b) = progs P a + progs P b := by
  unfold progs
  rw [List.map_append, List.sum_append]
theorem progs_one (P : Pl) (f : Frm) : progs P [f] = prog P f := by
  unfold progs
  simp
theorem evEnd_app (P : Pl) (a b : List Ev) : evEnd P (a ++ b) = evEnd P a + evEnd P b := by
  unfold evEnd
  rw [List.filter_append, List.map_append, List.sum_append]
theorem evDone_app (P : Pl) (a b : List Ev) : evDone P (a ++ b) = evDone P a + evDone P b := by
  unfold evDone
  rw [List.filter_append, List.map_append, List.sum_append]
theorem jobsum_leave (js : List (Str × Nat)) (z : Str) : jobsum (leave js z) = jobsum js := by
  unfold leave
  split
  · rfl
  · unfold jobsum
    rw [List.map_append, List.sum_append]
    simp
structure Acc (P : Pl) (C : Cr) : Prop where
  fr : ∀ f ∈ C.frames, ∃ n : Int, (P.ln f.ln).st[f.st]? = some (("run" : Str), (Sum.inl n : Key)) ∧ (f.tk : Int) < n
  jb : ∀ j ∈ C.jobs, (j.2 : Int) < (P.wk j.1).tk
theorem Pl.Ok.wk_pos {P : Pl} (ok : P.Ok) {z : Str} (hz : z ∈ P.wnames) : 0 < (P.wk z).tk := by
  have h := ok.wok _ (ok.wk_mem hz).1
  simp only [isWork, dWk, isIntD, Bool.and_eq_true, decide_eq_true_eq] at h
  omega
structure PassAcc (P : Pl) (base : Int) (jobs : List (Str × Nat)) (r : Cr × Bd × List Ev) : Prop where
  en : evEnd P r.2.2 + progs P r.1.frames = base
  dn : evDone P r.2.2 = 0
  js : jobsum r.1.jobs = jobsum jobs
  ac : Acc P r.1
theorem passL_acc {P : Pl} (ok : P.Ok) (rl : RL P) {fs : List Frm} (hfs : ∀ f ∈ fs, ∃ n : Int, (P.ln f.ln).st[f.st]? = some (("run" : Str), (Sum.inl n : Key)) ∧ (f.tk : Int) < n) {rest : List (Str × Key)} :
    ∀ {f : Frm} {lim : Int} {jobs : List (Str × Nat)} {B : Bd}, f.ln ∈ P.names → f.tk = 0 → (∀ j ∈ jobs, (j.2 : Int) < (P.wk j.1).tk) → rest = (P.ln f.ln).st.drop f.st → PassAcc P (progs P fs + prog P f) jobs (passL P fs f lim jobs B rest) := by
  induction rest with
  | nil =>
    intro f lim jobs B hn ht hj hr
    have hle : (P.ln f.ln).st.length ≤ f.st := by
      have := congrArg List.length hr
      rw [List.length_drop] at this
      simp at this
      omega
    have hp : prog P f = ticksOf (P.ln f.ln) := by
      unfold prog
      rw [ht, List.take_of_length_le hle]
      show ((0 : Nat) : Int) + runs _ = runs _
      simp
    refine ⟨?_, ?_, rfl, hfs, hj⟩
    · show evEnd P [("end", f.ln)] + progs P fs = _
      rw [hp]
      unfold evEnd
      simp
      omega
    · show evDone P [("end", f.ln)] = 0
      unfold evDone
      rw [List.filter_cons_of_neg (by show ¬ decide (("end" : Str) = "done") = true; decide)]
      rfl
  | cons s r ih =>
    intro f lim jobs B hn ht hj hr
    have hg : (P.ln f.ln).st[f.st]? = some s := by
      rw [← List.head?_drop, ← hr]
      rfl
    have hm := List.mem_of_getElem? hg
    have hl := (ok.ln_mem hn).1
    have sis := ok.step hl hm
    have hd : r = (P.ln f.ln).st.drop (f.st + 1) := by
      rw [← List.tail_drop, ← hr]
      rfl
    unfold passL
    rcases rl _ hl s hm with e | e
    · have hst : stops B s = true := by
        unfold stops
        simp [e]
      rw [if_pos hst]
      obtain ⟨n, h1, h2, _⟩ := sis.run_int e
      refine ⟨?_, rfl, rfl, fun g hgm => ?_, hj⟩
      · show evEnd P [] + progs P (fs ++ [f]) = _
        rw [progs_app, progs_one]
        show 0 + _ = _
        omega
      · rcases List.mem_append.mp hgm with hgm | hgm
        · exact hfs g hgm
        · rw [List.mem_singleton.mp hgm]
          refine ⟨n, ?_, by rw [ht]; omega⟩
          rw [hg, ← e, ← h1]
    · have hst : ¬ stops B s = true := by
        unfold stops
        rw [e, decide_eq_false (show ¬ ("later" : Str) = "run" by decide), decide_eq_false (show ¬ ("later" : Str) = "await" by decide)]
        simp
      rw [if_neg hst]
      obtain ⟨z, hz, hzw⟩ := sis.later_in e
      have hfx : stepFx P lim jobs B s = (lim, leave jobs z, B) := by
        unfold stepFx
        rw [if_neg (by rw [e]; decide), if_pos e, hz]
        rfl
      rw [hfx]
      have hpr : prog P { f with st := f.st + 1 } = prog P f := by
        unfold prog
        show (f.tk : Int) + runs ((P.ln f.ln).st.take (f.st + 1)) = _
        rw [runs_take hg, runs_one_no (by rw [e]; decide)]
        omega
      have hj2 : ∀ j ∈ leave jobs z, (j.2 : Int) < (P.wk j.1).tk := fun j hjm => by
        unfold leave at hjm
        split at hjm
        · exact hj j hjm
        · rcases List.mem_append.mp hjm with hjm | hjm
          · exact hj j hjm
          · rw [List.mem_singleton.mp hjm]
            exact ok.wk_pos hzw
      have := ih (f := { f with st := f.st + 1 }) (lim := lim) (jobs := leave jobs z) (B := B) hn ht hj2 hd
      rw [hpr] at this
      exact ⟨this.en, this.dn, by rw [this.js, jobsum_leave], this.ac⟩
theorem RL.no {P : Pl} (ok : P.Ok) (rl : RL P) {B : Bd} {f : Frm} (hn : f.ln ∈ P.names) : passing P B f = false := by
  unfold passing
  cases e : (P.ln f.ln).st[f.st]? with
  | none => rfl
  | some s =>
    have := rl _ (ok.ln_mem hn).1 s (List.mem_of_getElem? e)
    have hne : s.1 ≠ "await" := by
      rcases this with h | h <;> rw [h] <;> decide
    simp [hne]
theorem RL.passAll {P : Pl} (ok : P.Ok) (rl : RL P) {C : Cr} {B : Bd} (hn : ∀ f ∈ C.frames, f.ln ∈ P.names) (n : Nat) (es : List Ev) : passAll P n C B es = (C, B, es) := by
  rcases List.eq_nil_or_concat C.frames with e | ⟨fs, f, e⟩
  · exact passAll_nil e
  · rw [List.concat_eq_append] at e
    exact passAll_no e (rl.no ok (hn f (by rw [e]; simp)))
/-- what is kept from tick to tick -/
structure Acct (P : Pl) (G : Sg) (es : List Ev) : Prop where
  cok : COk P G.C G.B
  ac : Acc P G.C
  su : ∃ c k d : Int, G.sums = ([("call", c), ("spun", 0), ("work", k), ("idle", d)] : List (Str × Int)) ∧ c = evEnd P es + progs P G.C.frames ∧ k = evDone P es + jobsum G.C.jobs ∧ c + k + d = G.time
theorem Acct.start (P : Pl) : Acct P (Sg.start P) [] := by
  refine ⟨⟨⟨Sub.nil, Sub.nil, Sub.nil, Sub.nil, Sub.nil, ?_⟩, JOk.nil, ⟨by simp [Sg.start], by simp [Sg.start], by simp [Sg.start], by simp [Sg.start]⟩⟩, ⟨by simp [Sg.start], by simp [Sg.start]⟩, 0, 0, 0, rfl, rfl, rfl, rfl⟩
  show (P.order.map _).map _ = P.order
  rw [List.map_map]
  exact List.map_id _
theorem ring_taken {P : Pl} {B : Bd} {z : Str} : (B.ring P z).1.taken = B.taken := by
  unfold Bd.ring
  repeat (first | rfl | split)
theorem Acct.ring {P : Pl} {G : Sg} {es : List Ev} (h : Acct P G es) {z : Str} (hz : z ∈ P.names) : Acct P (G.ring P z) es := ⟨⟨h.cok.bok.ring hz, h.cok.jok, h.cok.fok.taken ring_taken⟩, h.ac, h.su⟩
theorem takeC_acc {P : Pl} (ok : P.Ok) (rl : RL P) {C : Cr} {B : Bd} (h : COk P C B) (a : Acc P C) : evEnd P (takeC P C B).2.2 + progs P (takeC P C B).1.frames = progs P C.frames ∧ evDone P (takeC P C B).2.2 = 0 ∧ jobsum (takeC P C B).1.jobs = jobsum C.jobs ∧ Acc P (takeC P C B).1 := by
  have no : evEnd P [] + progs P C.frames = progs P C.frames := by
    show 0 + _ = _
    omega
  unfold takeC
  cases e : ready P B with
  | nil => exact ⟨no, rfl, rfl, a⟩
  | cons z r =>
    dsimp only
    split
    · obtain ⟨h1, h2⟩ := can_names e
      have := passL_acc ok rl a.fr (f := ⟨z, 0, 0, C.limit⟩) (lim := C.limit) (jobs := C.jobs) (B := B.begun z) h1 rfl a.jb rfl
      have hp : prog P ⟨z, 0, 0, C.limit⟩ = 0 := rfl
      rw [hp] at this
      have c1 : ∀ es, evEnd P (("begin", z) :: es) = evEnd P es := fun es => by
        unfold evEnd
        rw [List.filter_cons_of_neg (by show ¬ decide (("begin" : Str) = "end") = true; decide)]
      have c2 : ∀ es, evDone P (("begin", z) :: es) = evDone P es := fun es => by
        unfold evDone
        rw [List.filter_cons_of_neg (by show ¬ decide (("begin" : Str) = "done") = true; decide)]
      refine ⟨?_, ?_, this.js, this.ac⟩
      · dsimp only
        rw [c1]
        have := this.en
        unfold pass
        omega
      · dsimp only
        rw [c2]
        exact this.dn
    · exact ⟨no, rfl, rfl, a⟩
theorem sum_set {js : List (Str × Nat)} {k : Nat} {j : Str × Nat} (h : js[k]? = some j) (n : Nat) : jobsum (js.set k (j.1, n)) = jobsum js - j.2 + n := by
  induction js generalizing k with
  | nil => simp at h
  | cons x js ih =>
    cases k with
    | zero =>
      simp at h
      subst h
      unfold jobsum
      simp
      omega
    | succ k =>
      have := ih (k := k) (by simpa using h)
      unfold jobsum at this ⊢
      simp only [List.set_cons_succ, List.map_cons, List.sum_cons]
      omega
theorem sum_erase {js : List (Str × Nat)} {k : Nat} {j : Str × Nat} (h : js[k]? = some j) : jobsum (js.eraseIdx k) = jobsum js - j.2 := by
  induction js generalizing k with
  | nil => simp at h
  | cons x js ih =>
    cases k with
    | zero =>
      simp at h
      subst h
      unfold jobsum
      simp
      omega
    | succ k =>
      have := ih (k := k) (by simpa using h)
      unfold jobsum at this ⊢
      simp only [List.eraseIdx_cons_succ, List.map_cons, List.sum_cons]
      omega
theorem doWork_acc {P : Pl} {jobs : List (Str × Nat)} (hj : ∀ j ∈ jobs, (j.2 : Int) < (P.wk j.1).tk) (hne : jobs ≠ []) : evDone P (doWork P jobs).2 + jobsum (doWork P jobs).1 = jobsum jobs + 1 ∧ evEnd P (doWork P jobs).2 = 0 ∧ ∀ j ∈ (doWork P jobs).1, (j.2 : Int) < (P.wk j.1).tk := by
  unfold doWork
  split
  · rename_i e
    have := places_len P jobs
    rw [e] at this
    exact absurd (List.length_eq_zero_iff.mp this.symm) hne
  · rename_i k r e
    obtain ⟨j, hk, _⟩ := places_head e
    rw [hk]
    dsimp only
    have h1 := hj j (List.mem_of_getElem? hk)
    split
    · rename_i h2
      refine ⟨?_, rfl, fun x hx => ?_⟩
      · show 0 + jobsum _ = _
        rw [sum_set hk]
        omega
      · rcases List.mem_or_eq_of_mem_set hx with hx | hx
        · exact hj x hx
        · rw [hx]
          show (((j.2 + 1 : Nat)) : Int) < (P.wk j.1).tk
          omega
    · rename_i h2
      refine ⟨?_, ?_, fun x hx => hj x (List.mem_of_mem_eraseIdx hx)⟩
      · show evDone P [("done", j.1)] + _ = _
        rw [sum_erase hk]
        unfold evDone
        simp
        omega
      · unfold evEnd
        rw [List.filter_cons_of_neg (by show ¬ decide (("done" : Str) = "end") = true; decide)]
        rfl
theorem spend_acc {P : Pl} (ok : P.Ok) (rl : RL P) {fs : List Frm} {f : Frm} {C : Cr} {B : Bd} (a : Acc P C) (hn : f.ln ∈ P.names) (e : C.frames = fs ++ [f]) : PassAcc P (progs P C.frames + 1) C.jobs (spend P fs f C.limit C.jobs B) := by
  have hfr := a.fr
  rw [e] at hfr
  have hfs := fun g hg => hfr g (List.mem_append_left _ hg)
  obtain ⟨n, h1, h2⟩ := hfr f (by simp)
  have hso : stepOf P f = (("run" : Str), (Sum.inl n : Key)) := by
    unfold stepOf
    rw [h1]
    rfl
  rw [e, progs_app, progs_one]
  by_cases h : (f.tk : Int) + 1 < n
  · rw [spend_lt hso h]
    refine ⟨?_, rfl, rfl, fun g hg => ?_, a.jb⟩
    · show 0 + progs P (fs ++ [{ f with tk := f.tk + 1 }]) = _
      rw [progs_app, progs_one]
      unfold prog
      show 0 + (_ + ((((f.tk + 1 : Nat)) : Int) + runs ((P.ln f.ln).st.take f.st))) = _
      omega
    · rcases List.mem_append.mp hg with hg | hg
      · exact hfs g hg
      · rw [List.mem_singleton.mp hg]
        exact ⟨n, h1, by show (((f.tk + 1 : Nat)) : Int) < n; omega⟩
  · rw [spend_ge hso h]
    have hp : prog P { f with st := f.st + 1, tk := 0 } = prog P f + 1 := by
      unfold prog
      show ((0 : Nat) : Int) + runs ((P.ln f.ln).st.take (f.st + 1)) = _
      rw [runs_take h1, runs_one_run]
      omega
    have := passL_acc ok rl hfs (f := { f with st := f.st + 1, tk := 0 }) (lim := C.limit) (jobs := C.jobs) (B := B) hn rfl a.jb rfl
    rw [hp] at this
    refine ⟨?_, this.dn, this.js, this.ac⟩
    have := this.en
    unfold pass
    omega
theorem tickC_idle {P : Pl} {C : Cr} {B : Bd} {es : List Ev} (e : C.frames = []) (j : C.jobs = []) : tickC P C B es = (("idle" : Str), C, B, es) := by
  unfold tickC
  rw [e]
  exact if_pos j
theorem tickC_work {P : Pl} {C : Cr} {B : Bd} {es : List Ev} (e : C.frames = []) (j : C.jobs ≠ []) : tickC P C B es = (("work" : Str), { C with jobs := (doWork P C.jobs).1 }, B, es ++ (doWork P C.jobs).2) := by
  unfold tickC
  rw [e]
  exact if_neg j
theorem tickC_call {P : Pl} {C : Cr} {B : Bd} {es : List Ev} {fs : List Frm} {f : Frm} (e : C.frames = fs ++ [f]) (j : (stepOf P f).1 ≠ "await") : tickC P C B es = (("call" : Str), (spend P fs f C.limit C.jobs B).1, (spend P fs f C.limit C.jobs B).2.1, es ++ (spend P fs f C.limit C.jobs B).2.2) := by
  unfold tickC
  rw [e, List.getLast?_concat, List.dropLast_concat]
  exact if_neg j
theorem tickC_spun {P : Pl} {C : Cr} {B : Bd} {es : List Ev} {fs : List Frm} {f : Frm} (e : C.frames = fs ++ [f]) (j : (stepOf P f).1 = "await") : tickC P C B es = (("spun" : Str), C, B, es) := by
  unfold tickC
  rw [e, List.getLast?_concat, List.dropLast_concat]
  exact if_pos j
theorem tickC_acc {P : Pl} (ok : P.Ok) (rl : RL P) {C1 : Cr} {B1 : Bd} (cok1 : COk P C1 B1) (t4 : Acc P C1) : ∃ (w : Str) (x y : Int), (tickC P C1 B1 []).1 = w ∧ Acc P (tickC P C1 B1 []).2.1 ∧
    evEnd P (tickC P C1 B1 []).2.2.2 + progs P (tickC P C1 B1 []).2.1.frames = progs P C1.frames + x ∧
    evDone P (tickC P C1 B1 []).2.2.2 + jobsum (tickC P C1 B1 []).2.1.jobs = jobsum C1.jobs + y ∧ ((w = "call" ∧ x = 1 ∧ y = 0) ∨ (w = "work" ∧ x = 0 ∧ y = 1) ∨ (w = "idle" ∧ x = 0 ∧ y = 0)) := by
  rcases List.eq_nil_or_concat C1.frames with e | ⟨fs, f, e⟩
  · by_cases hj : C1.jobs = []
    · rw [tickC_idle e hj]
      refine ⟨"idle", 0, 0, rfl, t4, ?_, ?_, .inr (.inr ⟨rfl, rfl, rfl⟩)⟩
      · show 0 + progs P C1.frames = _
        omega
      · show 0 + jobsum C1.jobs = _
        omega
    · rw [tickC_work e hj]
      obtain ⟨d1, d2, d3⟩ := doWork_acc t4.jb hj
      refine ⟨"work", 0, 1, rfl, ⟨t4.fr, d3⟩, ?_, ?_, .inr (.inl ⟨rfl, rfl, rfl⟩)⟩
      · show evEnd P ([] ++ (doWork P C1.jobs).2) + progs P C1.frames = _
        rw [List.nil_append, d2]
        omega
      · show evDone P ([] ++ (doWork P C1.jobs).2) + jobsum (doWork P C1.jobs).1 = _
        rw [List.nil_append]
        exact d1
  · rw [List.concat_eq_append] at e
    have hfn : f.ln ∈ P.names := cok1.fok.nm f (by rw [e]; simp)
    obtain ⟨n, h1, h2⟩ := t4.fr f (by rw [e]; simp)
    have hso : stepOf P f = (("run" : Str), (Sum.inl n : Key)) := by
      unfold stepOf
      rw [h1]
      rfl
    rw [tickC_call e (by rw [hso]; show ("run" : Str) ≠ "await"; decide)]
    have sp := spend_acc ok rl (B := B1) t4 hfn e
    refine ⟨"call", 1, 0, rfl, sp.ac, ?_, ?_, .inl ⟨rfl, rfl, rfl⟩⟩
    · show evEnd P ([] ++ _) + _ = _
      rw [List.nil_append]
      exact sp.en
    · show evDone P ([] ++ _) + _ = _
      rw [List.nil_append, sp.dn]
      show 0 + jobsum _ = _
      rw [sp.js]
      omega
theorem Acct.tick {P : Pl} (ok : P.Ok) (rl : RL P) {G : Sg} {es : List Ev} (h : Acct P G es) : Acct P (G.tick P).1 (es ++ (G.tick P).2) := by
  obtain ⟨c, k, d, hsu, hc, hk, ht⟩ := h.su
  have cok1 := takeC_ok ok h.cok
  obtain ⟨t1, t2, t3, t4⟩ := takeC_acc ok rl h.cok h.ac
  have pa := rl.passAll ok (C := (takeC P G.C G.B).1) (B := (takeC P G.C G.B).2.1) cok1.fok.nm (left P (takeC P G.C G.B).1.frames) []
  have ctk : (takeC P G.C G.B).1.tick P (takeC P G.C G.B).2.1 = tickC P (takeC P G.C G.B).1 (takeC P G.C G.B).2.1 [] := by
    unfold Cr.tick
    rw [pa]
  have cok2 := cok1.tick ok
  have key := tickC_acc ok rl cok1 t4
  obtain ⟨w, x, y, hw, a1, a2, a3, a4⟩ := key
  rw [← ctk] at hw a1 a2 a3
  refine ⟨cok2, a1, ?_⟩
  have e1 : (G.tick P).1.sums = bump G.sums w := by rw [← hw]; rfl
  have e2 : (G.tick P).1.time = G.time + 1 := rfl
  have e3 : evEnd P (es ++ (G.tick P).2) = evEnd P es + (evEnd P (takeC P G.C G.B).2.2 + evEnd P ((takeC P G.C G.B).1.tick P (takeC P G.C G.B).2.1).2.2.2) := by
    rw [evEnd_app]
    show _ + evEnd P (_ ++ _) = _
    rw [evEnd_app]
  have e4 : evDone P (es ++ (G.tick P).2) = evDone P es + (evDone P (takeC P G.C G.B).2.2 + evDone P ((takeC P G.C G.B).1.tick P (takeC P G.C G.B).2.1).2.2.2) := by
    rw [evDone_app]
    show _ + evDone P (_ ++ _) = _
    rw [evDone_app]
  have e5 : progs P (G.tick P).1.C.frames = progs P ((takeC P G.C G.B).1.tick P (takeC P G.C G.B).2.1).2.1.frames := rfl
  have e6 : jobsum (G.tick P).1.C.jobs = jobsum ((takeC P G.C G.B).1.tick P (takeC P G.C G.B).2.1).2.1.jobs := rfl
  rw [e1, e2, e3, e4, e5, e6, hsu]
  rcases a4 with ⟨rfl, rfl, rfl⟩ | ⟨rfl, rfl, rfl⟩ | ⟨rfl, rfl, rfl⟩
  · refine ⟨c + 1, k, d, by kernel_rfl, ?_, ?_, ?_⟩ <;> omega
  · refine ⟨c, k + 1, d, by kernel_rfl, ?_, ?_, ?_⟩ <;> omega
  · refine ⟨c, k, d + 1, by kernel_rfl, ?_, ?_, ?_⟩ <;> omega
end Z
set_option maxHeartbeats 1000000
namespace Z
open PySem PySem.Spec PyProof.Rows L2
/-! ### comprehensions whose turns change the heap at A -/
theorem lc_rel {K : Fg} {J : It} {n : Nat} {G : Hp → Prop} {Y : Nat → Hp → V → Hp → Prop} {g : TG} {tt : TT} {te : TE} {vs : List Nat} {σ : L2.St} {H1 : Hp} {D : Addr} {Qd : Hp → Prop} {α : Type} (w : Walk J n G Y) (R : Nat → α → Prop) (f : α → PyData) (A : List Addr) (I : Hp → Prop)
    (hD : H1 D = none) (hn : n ≤ 40000) (hf : ∀ x, tupd (f x) = true) (hA : ∀ a ∈ A, H1 a ≠ none) (hI1 : I H1) (hI : ∀ H H', Fr [D] H H' → I H → I H') (hIs : ∀ H H', Same H H' → I H → I H')
    (hG : ∀ H, Fr A H1 H → I H → G H) (hY : ∀ i H x H', Y i H x H' → Same H H')
    (hs : ∀ (i : Nat) (x : V) (H H' : Hp) (Yes : VK) (No : Hp → Prop), i < n → Fr A H1 H → I H → Y i H x H' → (∀ y H4 a, Fr A H' H4 → I H4 → R i a → Dp K H4 y (f a) → Yes y H4) →
      g x (wipe σ vs) H' fun σ2 H2 => wipe σ2 vs = wipe σ vs ∧ tt σ2 H2 fun b H3 => if b = true then te σ2 H3 Yes else No H3)
    (hd : ∀ H' ys (l : List α), Fr A H1 H' → I H' → H' D = some (.lst ys) → l.length = n → (∀ k x, l[k]? = some x → R k x) → DpAll K H' ys (l.map f) → Qd H') :
    ∃ W : Nat → Nat → Hp → Prop, (∃ m, W 0 m (upd H1 D (.lst []))) ∧ ∀ i m H, W i m H →
      (J.stop i H ∧ Qd H) ∨ (J.go i H ∧ ∃ Nx : Hp → Prop, (∀ H', Nx H' → ∃ m', m' < m ∧ W (i + 1) m' H') ∧ ∀ x H', J.yld i H x H' → g x (wipe σ vs) H' fun σ2 H2 => wipe σ2 vs = wipe σ vs ∧ tt σ2 H2 fun b H3 =>
        if b = true then te σ2 H3 fun y H4 => ∃ acc, H4 D = some (.lst acc) ∧ acc.length < sizeLine ∧ Nx (upd H4 D (.lst (acc ++ [y]))) else Nx H3) := by
  have hDA : D ∉ A := fun z => hA D z hD
  refine lc_it w (fun i H => Fr A H1 H ∧ I H ∧ ∃ (l : List α) (ys : List V), l.length = i ∧ (∀ k x, l[k]? = some x → R k x) ∧ H D = some (.lst ys) ∧ DpAll K H ys (l.map f)) ⟨Fr.new hD, hI _ _ (Fr.new hD) hI1, [], [], rfl, by simp, upd_same, .nil⟩ (fun i H _ p => hG H p.1 p.2.1) (fun i x H H' hi p y => ?_) (fun H p => ?_)
  · obtain ⟨f1, i1, l, ys, hl, hr, e1, a1⟩ := p
    have s2 := hY i H x H' y
    refine hs i x H H' _ _ hi f1 i1 y fun y4 H4 a f4 i4 r4 d4 => ⟨ys, f4.at (s2 _ _ e1) hDA, ?_, ?_, ?_, l ++ [a], ys ++ [y4], ?_, fun k x hk => ?_, upd_same, ?_⟩
    · rw [a1.len, List.length_map, hl, sizeLine_eq]
      omega
    · have f5 : Fr [D] H4 (upd H4 D (.lst (ys ++ [y4]))) := Fr.upd (by simp) (f4.at (s2 _ _ e1) hDA) rfl
      exact (f1.trans (s2.fr.trans f4)).seq f5 (by simp [hD])
    · exact hI _ _ (Fr.upd (by simp) (f4.at (s2 _ _ e1) hDA) rfl) i4
    · rw [List.length_append, hl]
      rfl
    · rcases Nat.lt_or_ge k l.length with h | h
      · rw [List.getElem?_append_left h] at hk
        exact hr k x hk
      · rw [List.getElem?_append_right h] at hk
        have : k - l.length = 0 := by
          cases e : k - l.length with
          | zero => rfl
          | succ m => rw [e] at hk; simp at hk
        rw [this] at hk
        simp at hk
        subst hk
        have : k = i := by omega
        rw [this]
        exact r4
    · have t5 := tk_upd (o := .lst (ys ++ [y4])) (f4.at (s2 _ _ e1) hDA)
      rw [List.map_append]
      exact (((a1.same s2).tk f4.tk (tupds_map hf _)).tk t5 (tupds_map hf _)).app (.cons (d4.tk t5 (hf a)) .nil)
  · obtain ⟨f1, i1, l, ys, hl, hr, e1, a1⟩ := p
    exact hd H ys l f1 i1 e1 hl hr a1
theorem s_for {wi : TI} {g : TG} {tb : TS} {D : Ends} {σ : L2.St} {H : Hp} (q : wi σ H fun J H1 => ∃ W : Nat → Nat → L2.St → Hp → Prop, (∃ m, W 0 m σ H1) ∧ ∀ i m σ H, W i m σ H →
  (J.stop i H ∧ D.nx σ H) ∨ (J.go i H ∧ ∃ N : L2.St → Hp → Prop, (∀ σ' H', N σ' H' → ∃ m', m' < m ∧ W (i + 1) m' σ' H') ∧ ∀ x H', J.yld i H x H' → g x σ H' fun σ2 H2 => tb { D with nx := N, ct := N, bk := D.nx } σ2 H2)) : tFor wi g tb D σ H := q
theorem s_rng1 {ta : TA} {σ : L2.St} {H : Hp} {R : It → Hp → Prop} (q : ta σ H fun vs H1 => ∃ j : Int, vs = [.int j] ∧ -(2 ^ 62) ≤ j ∧ j < 2 ^ 62 ∧ R (Itr 0 j.toNat) H1) : iRng1 ta σ H R := q
theorem s_iT {K : Fg} {tl : TE} {σ : L2.St} {H : Hp} {R : It → Hp → Prop} (q : tl σ H fun x H1 => ∃ a, x = .ref a ∧ (∃ xs, SqT K H1 a xs) ∧ R (Itt K a) H1) : iTup K tl σ H R := q
theorem s_iL {K : Fg} {tl : TE} {σ : L2.St} {H : Hp} {R : It → Hp → Prop} (q : tl σ H fun x H1 => ∃ a, x = .ref a ∧ (∃ xs, SqL K H1 a xs) ∧ R (Itl K a) H1) : iList K tl σ H R := q
theorem s_lc {wi : TI} {g : TG} {tt : TT} {te : TE} {vs : List Nat} {σ : L2.St} {H : Hp} {Q : VK} (q : wi σ H fun J H1 => LcQ J g tt te vs σ Q H1) : tLc wi g tt te vs σ H Q := q
theorem s_slA {K : Fg} {H : Hp} {Q : VK} {a : Addr} {xs : List V} {lo hi : Option Int} (h : SqT K H a xs) (q : ∀ p H', Same H H' → SqT K H' p (cutV xs lo hi) → Q (.ref p) H') : rSlA K (.ref a) lo hi H Q := by
  refine ⟨a, xs, rfl, h, fun ⟨h1, h2⟩ => q a H (Same.refl H) ?_, fun _ p hp => q p _ (Same.new hp) (SqT.of upd_same)⟩
  have e : cutV xs lo hi = xs := by
    unfold cutV
    rw [h1, h2, List.drop_zero, Nat.sub_zero, List.take_length]
  rw [e]
  exact h
/-! ### good set-ups of run steps and works -/
def nm4 : List Str := ["net", "disk", "fan", "heat"]
def nmW : List Str := ["flush", "sweep"]
def GoodSt (s : Str × Key) : Prop := (∃ n : Int, s = (("run" : Str), (Sum.inl n : Key)) ∧ 1 ≤ n ∧ n ≤ 99) ∨ ∃ z ∈ nmW, s = (("later" : Str), (Sum.inr z : Key))
structure GoodLn (l : Ln) : Prop where
  nm : l.nm ∈ nm4
  kd : l.kd = "edge"
  r1 : 1 ≤ l.rk
  r9 : l.rk ≤ 9
  ne : l.st ≠ []
  s8 : l.st.length ≤ 8
  st : ∀ s ∈ l.st, GoodSt s
structure GoodWk (w : Wk) : Prop where
  nm : w.nm ∈ nmW
  r1 : 1 ≤ w.rk
  r9 : w.rk ≤ 9
  t1 : 1 ≤ w.tk
  t9 : w.tk ≤ 99
theorem nm_fact {p : Str → Prop} {l : List Str} (h : ∀ z ∈ l, p z) {z : Str} (hz : z ∈ l) : p z := h z hz
theorem nm4_name : ∀ z ∈ nm4, isName (.str z) = true ∧ short (.str z) = true := by decide +kernel
theorem nmW_name : ∀ z ∈ nmW, isName (.str z) = true ∧ short (.str z) = true ∧ (PyData.str z).canLay0 = true := by decide +kernel
theorem stepX_run {kvs : List (Key × V)} {ws : List V} {n : Int} (h1 : 1 ≤ n) (h2 : n ≤ 99) : isStepX kvs ws "run" (.int n) = true := by
  unfold isStepX
  rw [if_neg (by decide), if_neg (by decide), if_neg (by decide)]
  have : isIntD 1 99 (.int n) = true := decide_eq_true ⟨h1, h2⟩
  rw [this]
  rfl
theorem stepX_later {kvs : List (Key × V)} {ws : List V} {z : Str} (h : inV (.str z) ws = true) : isStepX kvs ws "later" (.str z) = true := by
  unfold isStepX
  rw [if_neg (by decide), if_pos (by decide)]
  exact h
theorem plan_ok {ls : List Ln} {ws : List Wk} (hl : ∀ l ∈ ls, GoodLn l) (hn : (ls.map (·.nm)).Nodup) (hne : ls ≠ []) (hw : ws.map (·.nm) = nmW) (hwk : ∀ w ∈ ws, GoodWk w) : Pl.Ok ⟨ls, ws⟩ := by
  have hsub : Sub (ls.map (·.nm)) nm4 := ⟨hn, fun x hx => by
    obtain ⟨l, h, rfl⟩ := List.mem_map.mp hx
    exact (hl l h).nm⟩
  have hlen := hsub.len
  rw [List.length_map] at hlen
  have hlen4 : nm4.length = 4 := rfl
  refine ⟨hne, by show ls.length ≤ 12; omega, ?_, fun l h => ?_, fun w h => ?_, hn, ?_, fun l h s hs => ?_, fun l h => ?_, fun w h => ?_⟩
  · have := congrArg List.length hw
    rw [List.length_map] at this
    show ws.length ≤ 8
    rw [this]
    decide
  · have g := hl l h
    have h1 := (nm4_name _ g.nm).1
    show (isName (.str l.nm) && (isKind (.str l.kd) && (isIntD 1 9 (.int l.rk) && isSteps 8 (.tuple (l.st.map dSt))))) = true
    have h2 : isKind (.str l.kd) = true := by rw [g.kd]; decide
    have h3 : isIntD 1 9 (.int l.rk) = true := decide_eq_true ⟨g.r1, g.r9⟩
    have h4 : isSteps 8 (.tuple (l.st.map dSt)) = true := by
      have p1 : 0 < l.st.length := List.length_pos_iff.mpr g.ne
      have p2 := g.s8
      simp only [isSteps, List.length_map, Bool.and_eq_true, decide_eq_true_eq]
      omega
    rw [h1, h2, h3, h4]
    rfl
  · have g := hwk w h
    have h1 := (nmW_name _ g.nm).1
    show (isName (.str w.nm) && (isIntD 1 9 (.int w.rk) && isIntD 1 99 (.int w.tk))) = true
    have h2 : isIntD 1 9 (.int w.rk) = true := decide_eq_true ⟨g.r1, g.r9⟩
    have h3 : isIntD 1 99 (.int w.tk) = true := decide_eq_true ⟨g.t1, g.t9⟩
    rw [h1, h2, h3]
    rfl
  · show (ws.map (·.nm)).Nodup
    rw [hw]
    decide
  · rcases (hl l h).st s hs with ⟨n, rfl, h1, h2⟩ | ⟨z, hz, rfl⟩
    · show isStepX (Pl.kinds ⟨ls, ws⟩) ((Pl.wnames ⟨ls, ws⟩).map V.str) "run" (.int n) = true
      exact stepX_run h1 h2
    · show isStepX (Pl.kinds ⟨ls, ws⟩) ((Pl.wnames ⟨ls, ws⟩).map V.str) "later" (.str z) = true
      refine stepX_later ?_
      show inV (.str z) ((ws.map (·.nm)).map V.str) = true
      rw [hw, inV_strs]
      exact decide_eq_true hz
  · have g := hl l h
    show (short (.str l.nm) && (short (.str l.kd) && (true && (shorts (l.st.map dSt) && true)))) = true
    have h1 := (nm4_name _ g.nm).2
    have h2 : short (.str l.kd) = true := by rw [g.kd]; decide +kernel
    have h3 : shorts (l.st.map dSt) = true := shorts_map fun s hs => by
      rcases g.st s hs with ⟨n, rfl, _⟩ | ⟨z, hz, rfl⟩
      · show (short (.str "run") && (true && true)) = true
        decide +kernel
      · show (short (.str "later") && (short (.str z) && true)) = true
        rw [(nmW_name z hz).2.1]
        decide +kernel
    rw [h1, h2, h3]
    rfl
  · have g := hwk w h
    obtain ⟨_, h1, h2⟩ := nmW_name _ g.nm
    refine ⟨?_, h2⟩
    show (short (.str w.nm) && (true && (true && true))) = true
    rw [h1]
    rfl
theorem plan_rl {ls : List Ln} {ws : List Wk} (hl : ∀ l ∈ ls, GoodLn l) : RL ⟨ls, ws⟩ := fun l h s hs => by
  rcases (hl l h).st s hs with ⟨n, rfl, _⟩ | ⟨z, _, rfl⟩
  · exact .inl rfl
  · exact .inr rfl
end Z
set_option maxHeartbeats 1000000
namespace Z
open PySem PySem.Spec PyProof.Rows L2
/-! ### names in events -/
def EvOk (P : Pl) (es : List Ev) : Prop := ∀ e ∈ es, (e.1 = ("end" : Str) → e.2 ∈ P.names) ∧ (e.1 = ("done" : Str) → e.2 ∈ P.wnames)
theorem EvOk.nil {P : Pl} : EvOk P [] := by intro e h; simp at h
theorem EvOk.app {P : Pl} {a b : List Ev} (h : EvOk P a) (k : EvOk P b) : EvOk P (a ++ b) := fun e he => by
  rcases List.mem_append.mp he with he | he
  · exact h e he
  · exact k e he
theorem passL_evok {P : Pl} {fs : List Frm} {rest : List (Str × Key)} : ∀ {f : Frm} {lim : Int} {jobs : List (Str × Nat)} {B : Bd}, f.ln ∈ P.names → EvOk P (passL P fs f lim jobs B rest).2.2 := by
  induction rest with
  | nil =>
    intro f lim jobs B hn e he
    have he' : e = (("end" : Str), f.ln) := by simpa [passL] using he
    subst he'
    exact ⟨fun _ => hn, fun h => absurd (show ("end" : Str) = "done" from h) (by decide)⟩
  | cons s r ih =>
    intro f lim jobs B hn
    unfold passL
    split
    · exact EvOk.nil
    · exact ih (f := { f with st := f.st + 1 }) hn
theorem pass_evok {P : Pl} {fs : List Frm} {f : Frm} {lim : Int} {jobs : List (Str × Nat)} {B : Bd} (hn : f.ln ∈ P.names) : EvOk P (pass P fs f lim jobs B).2.2 := passL_evok hn
theorem spend_evok {P : Pl} {fs : List Frm} {f : Frm} {lim : Int} {jobs : List (Str × Nat)} {B : Bd} (hn : f.ln ∈ P.names) : EvOk P (spend P fs f lim jobs B).2.2 := by
  unfold spend
  split
  · exact EvOk.nil
  · exact pass_evok (f := { f with st := f.st + 1, tk := 0 }) hn
theorem passAll_evok {P : Pl} (ok : P.Ok) : ∀ (n : Nat) {C : Cr} {B : Bd} {es : List Ev}, COk P C B → EvOk P es → EvOk P (passAll P n C B es).2.2
  | 0, _, _, _, _, h => h
  | n + 1, C, B, es, h, k => by
    rcases List.eq_nil_or_concat C.frames with e | ⟨fs, f, e⟩
    · rw [passAll_nil e]; exact k
    · rw [List.concat_eq_append] at e
      cases hp : passing P B f with
      | false => rw [passAll_no e hp]; exact k
      | true =>
        rw [passAll_yes e hp]
        exact passAll_evok ok n (h.pass ok e) (k.app (pass_evok (h.fok.nm f (by rw [e]; simp))))
theorem doWork_evok {P : Pl} {jobs : List (Str × Nat)} (h : ∀ j ∈ jobs, j.1 ∈ P.wnames) : EvOk P (doWork P jobs).2 := by
  unfold doWork
  split
  · exact EvOk.nil
  · split
    · exact EvOk.nil
    · rename_i j hj
      split
      · exact EvOk.nil
      · intro e he
        have he' : e = (("done" : Str), j.1) := by simpa using he
        subst he'
        exact ⟨fun h => absurd (show ("done" : Str) = "end" from h) (by decide), fun _ => h j (List.mem_of_getElem? hj)⟩
theorem tick_evok {P : Pl} (ok : P.Ok) {C : Cr} {B : Bd} (h : COk P C B) : EvOk P (C.tick P B).2.2.2 := by
  have h1 := passAll_evok ok (left P C.frames) h EvOk.nil
  have h3 := COk.passAll ok (left P C.frames) (es := []) h
  unfold Cr.tick
  generalize passAll P (left P C.frames) C B [] = r at h1 h3
  rcases List.eq_nil_or_concat r.1.frames with e | ⟨fs, f, e⟩
  · by_cases hj : r.1.jobs = []
    · rw [tickC_idle e hj]; exact h1
    · rw [tickC_work e hj]; exact h1.app (doWork_evok h3.jok.sub)
  · rw [List.concat_eq_append] at e
    by_cases hw : (stepOf P f).1 = "await"
    · rw [tickC_spun e hw]; exact h1
    · rw [tickC_call e hw]; exact h1.app (spend_evok (h3.fok.nm f (by rw [e]; simp)))
theorem takeC_evok {P : Pl} {C : Cr} {B : Bd} : EvOk P (takeC P C B).2.2 := by
  unfold takeC
  cases e : ready P B with
  | nil => exact EvOk.nil
  | cons z r =>
    dsimp only
    split
    · intro x hx
      rcases List.mem_cons.mp hx with rfl | hx
      · exact ⟨fun h => absurd (show ("begin" : Str) = "end" from h) (by decide), fun h => absurd (show ("begin" : Str) = "done" from h) (by decide)⟩
      · exact pass_evok (f := ⟨z, 0, 0, C.limit⟩) (can_names e).1 x hx
    · exact EvOk.nil
theorem Sg.tick_evok {P : Pl} (ok : P.Ok) {G : Sg} (h : COk P G.C G.B) : EvOk P (G.tick P).2 := takeC_evok.app (Z.tick_evok ok (takeC_ok ok h))
theorem Sg.tick_len {P : Pl} (ok : P.Ok) {G : Sg} (h : COk P G.C G.B) : (G.tick P).2.length ≤ 600 := by
  have h1 := takeC_ev ok h
  have h2 := tick_ev ok (takeC_ok ok h)
  show (_ ++ _ : List Ev).length ≤ 600
  rw [List.length_append]
  omega
/-! pairs -/
theorem paired_of {K : Fg} {H : Hp} : ∀ {xs : List V} {l : List (Str × Int)}, DpAll K H xs (l.map fun x => .tuple [.str x.1, .int x.2]) → ∃ ps : List Addr, xs = ps.map V.ref ∧ Paired (fun p kv => SqT K H p [kV kv.1, kv.2]) ps (joinK l)
  | _, [], .nil => ⟨[], rfl, .nil⟩
  | _, x :: l, .cons h t => by
    obtain ⟨a, zs, rfl, hT, hA⟩ := h.tupI
    cases hA with | cons h1 hA => ?_
    cases hA with | cons h2 hA => ?_
    cases hA
    cases h1
    cases h2
    obtain ⟨ps, rfl, hp⟩ := paired_of t
    exact ⟨a :: ps, rfl, .cons hT hp⟩
theorem joinK_wk {ws : List Wk} (hn : (ws.map (·.nm)).Nodup) {z : Str} (hz : z ∈ ws.map (·.nm)) (P : Pl) (hP : P.ws = ws) (ok : P.Ok) : valV (joinK (ws.map fun w => (w.nm, w.tk))) (.inr z) = some (.int (P.wk z).tk) := by
  obtain ⟨w, hw, rfl⟩ := List.mem_map.mp hz
  have h1 : ((ws.map fun w => (w.nm, w.tk)).map (·.1)).Nodup := by rw [List.map_map]; exact hn
  have := joinK_mem h1 (x := (w.nm, w.tk)) (List.mem_map_of_mem hw)
  rw [this, ok.wk_eq (by rw [hP]; exact hw)]
theorem mergeK_join : ∀ {l : List (Str × Int)}, (l.map (·.1)).Nodup → ∀ {a : List (Str × Int)}, (∀ x ∈ l, x.1 ∉ a.map (·.1)) → mergeK (joinK a) (joinK l) = joinK (a ++ l)
  | [], _, a, _ => by rw [List.append_nil]; rfl
  | x :: l, hn, a, ha => by
    rw [List.map_cons, List.nodup_cons] at hn
    have hx := ha x (by simp)
    have e1 : putK (joinK a) (.inr x.1) (.int x.2) = joinK (a ++ [x]) := by
      unfold putK
      rw [if_neg]
      · unfold joinK
        rw [List.map_append]
        rfl
      · intro h
        obtain ⟨kv, h1, h2⟩ := List.any_eq_true.mp h
        obtain ⟨y, hy, rfl⟩ := List.mem_map.mp h1
        exact hx (List.mem_map.mpr ⟨y, hy, Sum.inr.inj (of_decide_eq_true h2)⟩)
    show mergeK (putK (joinK a) (.inr x.1) (.int x.2)) (joinK l) = _
    rw [e1, mergeK_join hn.2 (a := a ++ [x]) (fun y hy hm => ?_), List.append_assoc]
    · rfl
    · rw [List.map_append] at hm
      rcases List.mem_append.mp hm with hm | hm
      · exact ha y (List.mem_cons_of_mem _ hy) hm
      · rw [List.map_singleton, List.mem_singleton] at hm
        exact hn.1 (by rw [← hm]; exact List.mem_map_of_mem hy)
theorem perm_sum {l m : List Int} (h : l.Perm m) : l.sum = m.sum := by
  induction h with
  | nil => rfl
  | cons x _ ih => rw [List.sum_cons, List.sum_cons, ih]
  | swap x y l => simp only [List.sum_cons]; omega
  | trans _ _ a b => rw [a, b]
theorem jobsum_queue (P : Pl) (jobs : List (Str × Nat)) : jobsum (queueOf P jobs) = jobsum jobs := perm_sum ((queue_perm P jobs).map _)
theorem progs_take (P : Pl) {fs : List Frm} {j : Nat} {f : Frm} (h : fs[j]? = some f) : progs P (fs.take (j + 1)) = progs P (fs.take j) + prog P f := by
  rw [List.take_add_one, h, progs_app]
  show _ + progs P [f] = _
  rw [progs_one]
end Z
set_option maxHeartbeats 1000000
namespace Z
open PySem PySem.Spec PyProof.Rows L2
/-! ### the laws' own model of a processor -/
abbrev Lg := Int × Str × Str
structure Md where
  shut : List Str
  edge : List Str
  high : List Str
  up : List Int
  bar : Int
  calls : List Frm
  jobs : List (Str × Nat)
  now : Int
  log : List Lg
  spent : List Int
  joined : List Str
def Md.start : Md := ⟨[], [], [], [], 0, [], [], 0, [], [0, 0, 0, 0], []⟩
def putM {α : Type} [DecidableEq α] (l : List α) (x : α) (b : Bool) : List α := (l.filter fun y => !decide (y = x)) ++ (if b = true then [x] else [])
def Md.ring (P : Pl) (M : Md) (z : Str) : Md × Bool :=
  if (P.ln z).kd = "level" then ({ M with joined := M.joined ++ (if z ∈ M.high then [z] else []), high := putM M.high z true }, !decide (z ∈ M.high))
  else ({ M with joined := M.joined ++ (if z ∈ M.edge then [z] else []), edge := putM M.edge z true }, !decide (z ∈ M.edge))
def Md.does (P : Pl) (M : Md) (s : Str × Key) : Md × Bool :=
  if s.1 = "bar" then ({ M with bar := kI s.2 }, true)
  else if s.1 = "later" then ({ M with jobs := leave M.jobs (kS s.2) }, true)
  else if s.1 = "await" then (M, true)
  else if s.1 = "ring" then M.ring P (kS s.2)
  else if s.1 = "quiet" then ({ M with high := putM M.high (kS s.2) false }, decide (kS s.2 ∈ M.high))
  else if s.1 = "mask" then ({ M with shut := putM M.shut (kS s.2) true }, !decide (kS s.2 ∈ M.shut))
  else if s.1 = "unmask" then ({ M with shut := putM M.shut (kS s.2) false }, decide (kS s.2 ∈ M.shut))
  else if s.1 = "set" then ({ M with up := putM M.up (kI s.2) true }, !decide (kI s.2 ∈ M.up))
  else ({ M with up := putM M.up (kI s.2) false }, decide (kI s.2 ∈ M.up))
def stopsM (M : Md) (s : Str × Key) : Bool := decide (s.1 = ("run" : Str)) || (decide (s.1 = ("await" : Str)) && !decide (kI s.2 ∈ M.up))
def goesL (P : Pl) (fs : List Frm) (f : Frm) (M : Md) : List (Str × Key) → Md
  | [] => { M with calls := fs, bar := f.kp, log := M.log ++ [((M.now, ("end" : Str), f.ln) : Lg)] }
  | s :: r => if stopsM M s = true then { M with calls := fs ++ [f] } else goesL P fs { f with st := f.st + 1, tk := 0 } (M.does P s).1 r
def Md.goes (P : Pl) (M : Md) (fs : List Frm) (f : Frm) : Md := goesL P fs f M ((P.ln f.ln).st.drop f.st)
/-! ### alike as sets -/
structure Eqs {α : Type} (l m : List α) : Prop where
  n1 : l.Nodup
  n2 : m.Nodup
  eq : ∀ x, x ∈ l ↔ x ∈ m
theorem Eqs.nil {α : Type} : Eqs ([] : List α) [] := ⟨.nil, .nil, fun _ => Iff.rfl⟩
theorem Eqs.dec {α : Type} [DecidableEq α] {l m : List α} (h : Eqs l m) (x : α) : decide (x ∈ l) = decide (x ∈ m) := by
  by_cases k : x ∈ l
  · rw [decide_eq_true k, decide_eq_true ((h.eq x).mp k)]
  · rw [decide_eq_false k, decide_eq_false fun z => k ((h.eq x).mpr z)]
theorem putM_mem {α : Type} [DecidableEq α] {l : List α} {x y : α} {b : Bool} : y ∈ putM l x b ↔ (y ∈ l ∧ y ≠ x) ∨ (y = x ∧ b = true) := by
  unfold putM
  rw [List.mem_append, List.mem_filter]
  cases b <;> simp
theorem putM_nodup {α : Type} [DecidableEq α] {l : List α} (h : l.Nodup) (x : α) (b : Bool) : (putM l x b).Nodup := by
  unfold putM
  rw [List.nodup_append]
  refine ⟨h.sublist List.filter_sublist, by cases b <;> simp, fun a ha c hc e => ?_⟩
  cases b with
  | false => simp at hc
  | true =>
    simp at hc
    subst hc
    subst e
    have := (List.mem_filter.mp ha).2
    simp at this
theorem putL_mem {α : Type} [DecidableEq α] {l : List α} (h : l.Nodup) {x y : α} {b : Bool} : y ∈ (putL l x b).1 ↔ (y ∈ l ∧ y ≠ x) ∨ (y = x ∧ b = true) := by
  unfold putL
  by_cases hx : x ∈ l
  · cases b with
    | true =>
      rw [if_pos (by simp [hx])]
      show y ∈ l ↔ _
      by_cases e : y = x
      · subst e; simp [hx]
      · simp [e]
    | false =>
      rw [if_neg (by simp [hx])]
      show y ∈ (if false = true then l ++ [x] else l.erase x) ↔ _
      rw [if_neg (by simp), h.mem_erase_iff]
      simp [And.comm]
  · cases b with
    | true =>
      rw [if_neg (by simp [hx])]
      show y ∈ (if true = true then l ++ [x] else l.erase x) ↔ _
      rw [if_pos rfl, List.mem_append, List.mem_singleton]
      by_cases e : y = x
      · subst e; simp
      · simp [e]
    | false =>
      rw [if_pos (by simp [hx])]
      show y ∈ l ↔ _
      by_cases e : y = x
      · subst e; simp [hx]
      · simp [e]
theorem putL_nodup {α : Type} [DecidableEq α] {l : List α} (h : l.Nodup) (x : α) (b : Bool) : (putL l x b).1.Nodup := by
  unfold putL
  split
  · exact h
  · rename_i hn
    cases b with
    | true =>
      show (if true = true then l ++ [x] else l.erase x).Nodup
      rw [if_pos rfl, List.nodup_append]
      refine ⟨h, by simp, fun a ha c hc e => ?_⟩
      simp at hc
      subst hc
      subst e
      simp [ha] at hn
    | false =>
      show (if false = true then l ++ [x] else l.erase x).Nodup
      rw [if_neg (by simp)]
      exact h.erase x
theorem Eqs.put {α : Type} [DecidableEq α] {l m : List α} (h : Eqs l m) (x : α) (b : Bool) : Eqs (putM l x b) (putL m x b).1 := ⟨putM_nodup h.n1 x b, putL_nodup h.n2 x b, fun y => by rw [putM_mem, putL_mem h.n2, h.eq y]⟩
theorem putL_res {α : Type} [DecidableEq α] {l : List α} {x : α} {b : Bool} : (putL l x b).2 = !decide (decide (x ∈ l) = b) := by
  unfold putL
  split
  · rename_i h; simp [h]
  · rename_i h; simp [h]
theorem Eqs.add {α : Type} [DecidableEq α] {l m : List α} (h : Eqs l m) {x : α} (hx : x ∉ m) : Eqs (putM l x true) (m ++ [x]) := by
  have := h.put x true
  unfold putL at this
  rw [if_neg (by simp [hx])] at this
  exact this
theorem Eqs.stay {α : Type} [DecidableEq α] {l m : List α} (h : Eqs l m) {x : α} (hx : x ∈ m) : Eqs (putM l x true) m := by
  have := h.put x true
  unfold putL at this
  rw [if_pos (by simp [hx])] at this
  exact this
/-! ### model and board -/
structure RelB (M : Md) (B : Bd) : Prop where
  sh : Eqs M.shut B.shut
  ed : Eqs M.edge B.wanted
  hi : Eqs M.high B.high
  up : Eqs M.up B.raised
theorem isEdge {P : Pl} (ok : P.Ok) {z : Str} (hz : z ∈ P.names) : (P.ln z).kd = "edge" ∨ (P.ln z).kd = "level" := by
  have h := ok.lok _ (ok.ln_mem hz).1
  simp only [isLine, dLn, Bool.and_eq_true] at h
  have h2 := h.2.1
  have h3 : (P.ln z).kd ∈ (["edge", "level"] : List Str) := inV_str (show inV (.str (P.ln z).kd) ((["edge", "level"] : List Str).map V.str) = true from h2)
  simpa using h3
theorem ring_sim {P : Pl} (ok : P.Ok) {M : Md} {B : Bd} (h : RelB M B) {z : Str} (hz : z ∈ P.names) : RelB (M.ring P z).1 (B.ring P z).1 ∧ (M.ring P z).2 = (B.ring P z).2 := by
  unfold Md.ring Bd.ring
  rcases isEdge ok hz with e | e
  · rw [if_neg (show ¬ (P.ln z).kd = "level" by rw [e]; decide), if_pos e]
    have hd := h.ed.dec z
    by_cases hx : z ∈ B.wanted
    · rw [if_pos hx]
      exact ⟨⟨h.sh, h.ed.stay hx, h.hi, h.up⟩, by show (!decide (z ∈ M.edge)) = false; rw [hd, decide_eq_true hx]; rfl⟩
    · rw [if_neg hx]
      exact ⟨⟨h.sh, h.ed.add hx, h.hi, h.up⟩, by show (!decide (z ∈ M.edge)) = true; rw [hd, decide_eq_false hx]; rfl⟩
  · rw [if_pos e, if_neg (show ¬ (P.ln z).kd = "edge" by rw [e]; decide)]
    have hd := h.hi.dec z
    by_cases hx : z ∈ B.high
    · rw [if_pos hx]
      exact ⟨⟨h.sh, h.ed, h.hi.stay hx, h.up⟩, by show (!decide (z ∈ M.high)) = false; rw [hd, decide_eq_true hx]; rfl⟩
    · rw [if_neg hx]
      exact ⟨⟨h.sh, h.ed, h.hi.add hx, h.up⟩, by show (!decide (z ∈ M.high)) = true; rw [hd, decide_eq_false hx]; rfl⟩
/-- a deed or a step that the board carries out -/
theorem carry_sim {P : Pl} (ok : P.Ok) {M : Md} {B : Bd} (h : RelB M B) {s : Str × Key} (hs : CarryIs P s) : RelB (M.does P s).1 (B.carry P s).1 ∧ (M.does P s).2 = (B.carry P s).2 := by
  obtain ⟨w, k⟩ := s
  have q : ∀ {α : Type} [DecidableEq α] {l m : List α} (e : Eqs l m) (x : α), (!decide (x ∈ l)) = (putL m x true).2 ∧ decide (x ∈ l) = (putL m x false).2 := fun {α _ l m} e x => by
    rw [putL_res, putL_res, e.dec x]
    generalize decide (x ∈ m) = b
    constructor <;> (cases b <;> rfl)
  rcases hs with ⟨hw, z, e, hz⟩ | ⟨hw, i, e, h0, h7⟩
  · simp only at e hw
    subst e
    simp only [List.mem_cons, List.not_mem_nil, or_false] at hw
    rcases hw with rfl | rfl | rfl | rfl
    · exact ring_sim ok h hz
    · exact ⟨⟨h.sh, h.ed, h.hi.put z false, h.up⟩, (q h.hi z).2⟩
    · exact ⟨⟨h.sh.put z true, h.ed, h.hi, h.up⟩, (q h.sh z).1⟩
    · exact ⟨⟨h.sh.put z false, h.ed, h.hi, h.up⟩, (q h.sh z).2⟩
  · simp only at e hw
    subst e
    simp only [List.mem_cons, List.not_mem_nil, or_false] at hw
    rcases hw with rfl | rfl
    · exact ⟨⟨h.sh, h.ed, h.hi, h.up.put i true⟩, (q h.up i).1⟩
    · exact ⟨⟨h.sh, h.ed, h.hi, h.up.put i false⟩, (q h.up i).2⟩
theorem carry_rest {P : Pl} {M : Md} {s : Str × Key} (h1 : s.1 ≠ "bar") (h2 : s.1 ≠ "later") : (M.does P s).1.bar = M.bar ∧ (M.does P s).1.jobs = M.jobs := by
  unfold Md.does Md.ring
  rw [if_neg h1, if_neg h2]
  constructor <;> (repeat (first | rfl | split))
theorem does_rest {P : Pl} {M : Md} {s : Str × Key} : (M.does P s).1.calls = M.calls ∧ (M.does P s).1.now = M.now ∧ (M.does P s).1.log = M.log ∧ (M.does P s).1.spent = M.spent := by
  unfold Md.does Md.ring
  refine ⟨?_, ?_, ?_, ?_⟩ <;> (repeat (first | rfl | split))
structure RelC (M : Md) (lim : Int) (jobs : List (Str × Nat)) (B : Bd) : Prop where
  b : RelB M B
  lim : M.bar = lim
  jobs : M.jobs = jobs
theorem does_sim {P : Pl} (ok : P.Ok) {M : Md} {lim : Int} {jobs : List (Str × Nat)} {B : Bd} (h : RelC M lim jobs B) {s : Str × Key} (hs : StepIs P s) (hr : s.1 ≠ "run") : RelC (M.does P s).1 (stepFx P lim jobs B s).1 (stepFx P lim jobs B s).2.1 (stepFx P lim jobs B s).2.2 := by
  unfold stepFx
  by_cases h1 : s.1 = "bar"
  · rw [if_pos h1]
    unfold Md.does
    rw [if_pos h1]
    exact ⟨⟨h.b.sh, h.b.ed, h.b.hi, h.b.up⟩, rfl, h.jobs⟩
  · rw [if_neg h1]
    by_cases h2 : s.1 = "later"
    · rw [if_pos h2]
      unfold Md.does
      rw [if_neg h1, if_pos h2]
      exact ⟨⟨h.b.sh, h.b.ed, h.b.hi, h.b.up⟩, h.lim, by show leave M.jobs _ = _; rw [h.jobs]⟩
    · rw [if_neg h2]
      by_cases h3 : s.1 = "await"
      · rw [if_neg (by simp [h3])]
        unfold Md.does
        rw [if_neg h1, if_neg h2, if_pos h3]
        exact h
      · rw [if_pos h3]
        obtain ⟨c1, c2⟩ := carry_rest (P := P) (M := M) h1 h2
        exact ⟨(carry_sim ok h.b (hs.carry hr h1 h2 h3)).1, c1.trans h.lim, c2.trans h.jobs⟩
theorem stops_sim {M : Md} {B : Bd} (h : RelB M B) (s : Str × Key) : stopsM M s = stops B s := by
  unfold stopsM stops
  rw [h.up.dec]
structure GoSim (M M' : Md) (r : Cr × Bd × List Ev) : Prop where
  calls : M'.calls = r.1.frames
  c : RelC M' r.1.limit r.1.jobs r.2.1
  log : M'.log = M.log ++ r.2.2.map (fun e => ((M.now, e.1, e.2) : Lg))
  now : M'.now = M.now
  spent : M'.spent = M.spent
theorem goesL_sim {P : Pl} (ok : P.Ok) {fs : List Frm} {rest : List (Str × Key)} : ∀ {f : Frm} {M : Md} {lim : Int} {jobs : List (Str × Nat)} {B : Bd}, f.tk = 0 → f.ln ∈ P.names → RelC M lim jobs B → rest = (P.ln f.ln).st.drop f.st → GoSim M (goesL P fs f M rest) (passL P fs f lim jobs B rest) := by
  induction rest with
  | nil =>
    intro f M lim jobs B ht hn h hr
    exact ⟨rfl, ⟨⟨h.b.sh, h.b.ed, h.b.hi, h.b.up⟩, rfl, h.jobs⟩, rfl, rfl, rfl⟩
  | cons s r ih =>
    intro f M lim jobs B ht hn h hr
    have hg : (P.ln f.ln).st[f.st]? = some s := by
      rw [← List.head?_drop, ← hr]
      rfl
    have hd : r = (P.ln f.ln).st.drop (f.st + 1) := by
      rw [← List.tail_drop, ← hr]
      rfl
    unfold goesL passL
    rw [stops_sim h.b s]
    cases e : stops B s with
    | true =>
      rw [if_pos rfl, if_pos rfl]
      exact ⟨rfl, ⟨⟨h.b.sh, h.b.ed, h.b.hi, h.b.up⟩, h.lim, h.jobs⟩, by simp, rfl, rfl⟩
    | false =>
      rw [if_neg (by simp), if_neg (by simp)]
      have sis := ok.step (ok.ln_mem hn).1 (List.mem_of_getElem? hg)
      have hx := does_sim ok h sis (stops_no e)
      have ef : { f with st := f.st + 1, tk := 0 } = { f with st := f.st + 1 } := by
        cases f
        cases ht
        rfl
      rw [ef]
      have := ih (f := { f with st := f.st + 1 }) ht hn hx hd
      obtain ⟨d1, d2, d3, d4⟩ := does_rest (P := P) (M := M) (s := s)
      exact ⟨this.calls, this.c, by rw [this.log, d3, d2], this.now.trans d2, this.spent.trans d4⟩
theorem goes_sim {P : Pl} (ok : P.Ok) {fs : List Frm} {f : Frm} {M : Md} {lim : Int} {jobs : List (Str × Nat)} {B : Bd} (ht : f.tk = 0) (hn : f.ln ∈ P.names) (h : RelC M lim jobs B) : GoSim M (M.goes P fs f) (pass P fs f lim jobs B) := goesL_sim ok ht hn h rfl
end Z
set_option maxHeartbeats 1000000
namespace Z
open PySem PySem.Spec PyProof.Rows L2
/-! ### lines in order -/
abbrev leO : Ln → Ln → Bool := PySem.W.dataLe false ordD
theorem leO_total : PySem.W.TotalLe leO := PySem.W.sortLe_total _ _ _
theorem leO_sorted (l : List Ln) : (l.mergeSort leO).Pairwise fun a b => leO a b = true := List.pairwise_mergeSort leO_total.trans (fun a b => Bool.or_eq_true_iff.mpr (leO_total.total a b)) l
theorem str_ext {a b : Str} (h : a.cps.toList = b.cps.toList) : a = b := by
  cases a
  cases b
  simp only at h
  congr
  exact Array.toList_inj.mp h
theorem leO_anti {a b : Ln} (h1 : leO a b = true) (h2 : leO b a = true) : a.nm = b.nm := by
  have e1 : PySem.W.dataLt (ordD b) (ordD a) = false := by
    have : (!PySem.W.dataLt (ordD b) (ordD a)) = true := h1
    simpa using this
  have e2 : PySem.W.dataLt (ordD a) (ordD b) = false := by
    have : (!PySem.W.dataLt (ordD a) (ordD b)) = true := h2
    simpa using this
  unfold ordD at e1 e2
  rw [PySem.W.dataLt_pair (by simp [PySem.W.alike]) (by simp [PySem.W.alike]), PySem.W.dataLt_int, PySem.W.dataLt_str] at e1 e2
  simp only [PyData.eqv, beq_iff_eq] at e1 e2
  by_cases hr : (0 - b.rk) = 0 - a.rk
  · rw [if_pos hr] at e1
    rw [if_pos hr.symm] at e2
    by_cases hn : b.nm = a.nm
    · exact hn.symm
    · rw [if_neg hn] at e1
      rw [if_neg (fun z => hn z.symm)] at e2
      simp only [decide_eq_false_iff_not] at e1 e2
      exact str_ext (List.le_antisymm (List.not_lt.mp e1) (List.not_lt.mp e2))
  · rw [if_neg hr] at e1
    rw [if_neg (fun z => hr z.symm)] at e2
    simp only [decide_eq_false_iff_not] at e1 e2
    omega
theorem Pl.Ok.inj {P : Pl} (ok : P.Ok) {a b : Ln} (ha : a ∈ P.ls) (hb : b ∈ P.ls) (e : a.nm = b.nm) : a = b := by
  rw [← ok.ln_eq ha, ← ok.ln_eq hb, e]
theorem sorted_one {P : Pl} (ok : P.Ok) {l m : List Ln} (hl : ∀ x ∈ l, x ∈ P.ls) (hm : ∀ x ∈ m, x ∈ P.ls) (p : l.Perm m) (s1 : l.Pairwise fun a b => leO a b = true) (s2 : m.Pairwise fun a b => leO a b = true) : l = m :=
  List.Perm.eq_of_pairwise (fun a b ha hb h1 h2 => ok.inj (hl a ha) (hm b hb) (leO_anti h1 h2)) s1 s2 p
theorem ord_filter {P : Pl} (ok : P.Ok) (p : Ln → Bool) : (P.ls.mergeSort leO).filter p = (P.ls.filter p).mergeSort leO := by
  refine sorted_one ok (fun x hx => ?_) (fun x hx => ?_) ?_ ((leO_sorted _).sublist List.filter_sublist) (leO_sorted _)
  · exact (List.mergeSort_perm _ _).mem_iff.mp (List.mem_filter.mp hx).1
  · exact (List.mem_filter.mp ((List.mergeSort_perm _ _).mem_iff.mp hx)).1
  · exact ((List.mergeSort_perm _ _).filter p).trans (List.mergeSort_perm _ _).symm
theorem order_filter {P : Pl} (ok : P.Ok) (p : Str → Bool) : P.order.filter p = ((P.ls.filter fun l => p l.nm).mergeSort leO).map (·.nm) := by
  unfold Pl.order
  rw [List.filter_map, ← ord_filter ok]
  rfl
/-- names, put in order -/
theorem order_names {P : Pl} (ok : P.Ok) {l : List Ln} {p : Str → Bool} (hl : ∀ x ∈ l, x ∈ P.ls) (hn : l.Nodup) (he : ∀ x ∈ P.ls, p x.nm = true ↔ x ∈ l) : (l.mergeSort leO).map (·.nm) = P.order.filter p := by
  rw [order_filter ok]
  congr 1
  refine sorted_one ok (fun x hx => hl x ((List.mergeSort_perm _ _).mem_iff.mp hx)) (fun x hx => (List.mem_filter.mp ((List.mergeSort_perm _ _).mem_iff.mp hx)).1) ?_ (leO_sorted _) (leO_sorted _)
  refine (List.mergeSort_perm _ _).trans (List.Perm.trans ?_ (List.mergeSort_perm _ _).symm)
  have hd : P.ls.Nodup := by
    have := ok.lnd
    unfold Pl.names at this
    exact List.Pairwise.of_map _ (fun a b h e => h (by rw [e])) this
  refine (List.perm_ext_iff_of_nodup hn (hd.sublist List.filter_sublist)).mpr fun x => ?_
  rw [List.mem_filter]
  constructor
  · intro hx
    exact ⟨hl x hx, (he x (hl x hx)).mpr hx⟩
  · rintro ⟨h1, h2⟩
    exact (he x h1).mp h2
/-! ### the model's tick -/
def Md.under (M : Md) : List Str := M.calls.map (·.ln)
def Md.waits (M : Md) (z : Str) : Bool := decide (z ∈ M.edge) || (decide (z ∈ M.high) && !decide (z ∈ M.under))
def Md.can (M : Md) (z : Str) : Bool := M.waits z && (!decide (z ∈ M.shut) && !decide (z ∈ M.under))
def Md.cand (P : Pl) (M : Md) : List Ln := (P.ls.filter fun l => M.can l.nm).mergeSort leO
def Md.may (P : Pl) (M : Md) (z : Str) : Bool := decide (M.bar < (P.ln z).rk) && M.calls.all fun f => decide ((P.ln f.ln).rk < (P.ln z).rk)
def Md.begins (P : Pl) (M : Md) (z : Str) : Md := Md.goes P { M with edge := putM M.edge z false, log := M.log ++ [((M.now, ("begin" : Str), z) : Lg)], calls := M.calls ++ [⟨z, 0, 0, M.bar⟩] } M.calls ⟨z, 0, 0, M.bar⟩
def Md.taking (P : Pl) (M : Md) : Md := match M.cand P with
  | [] => M
  | l :: _ => if M.may P l.nm = true then M.begins P l.nm else M
def passM (P : Pl) : Nat → Md → Md
  | 0, M => M
  | n + 1, M => match M.calls.getLast? with
    | none => M
    | some f => if (decide ((stepOf P f).1 = ("await" : Str)) && decide (kI (stepOf P f).2 ∈ M.up)) = true then passM P n (M.goes P M.calls.dropLast f) else M
def spentAdd (l : List Int) (k : Nat) : List Int := l.set k ((l[k]?).getD 0 + 1)
def stamp (t : Int) (e : Ev) : Lg := (t, e.1, e.2)
def Md.ends (M : Md) (k : Nat) : Md := { M with spent := spentAdd M.spent k, now := M.now + 1 }
def Md.tick2 (P : Pl) (M : Md) : Md := match M.calls.getLast? with
  | some f => if (stepOf P f).1 = "await" then M.ends 1 else
    if (f.tk : Int) + 1 = kI (stepOf P f).2 then (Md.goes P { M with calls := M.calls.dropLast ++ [{ f with st := f.st + 1, tk := 0 }] } M.calls.dropLast { f with st := f.st + 1, tk := 0 }).ends 0
    else Md.ends { M with calls := M.calls.dropLast ++ [{ f with tk := f.tk + 1 }] } 0
  | none => if M.jobs = [] then M.ends 3 else Md.ends { M with jobs := (doWork P M.jobs).1, log := M.log ++ (doWork P M.jobs).2.map (stamp M.now) } 2
def Md.tick (P : Pl) (M : Md) : Md := (passM P (left P (M.taking P).calls) (M.taking P)).tick2 P
/-! ### what holds of a processor -/
def rkF (P : Pl) (f : Frm) : Int := (P.ln f.ln).rk
def AtOk (P : Pl) (f : Frm) : Prop := ∃ s, (P.ln f.ln).st[f.st]? = some s ∧ ((s.1 = "run" ∧ ∃ n : Int, s.2 = .inl n ∧ (f.tk : Int) < n) ∨ (s.1 = "await" ∧ f.tk = 0))
structure RInv (P : Pl) (C : Cr) (B : Bd) : Prop where
  cok : COk P C B
  tk : ∀ z, z ∈ B.taken ↔ z ∈ C.frames.map (·.ln)
  rk : (C.frames.map (rkF P)).Pairwise (· < ·)
  rt : ∀ f ∈ C.frames, AtOk P f
  jb : ∀ j ∈ C.jobs, (j.2 : Int) < (P.wk j.1).tk
structure PInv (P : Pl) (fs : List Frm) (f : Frm) (jobs : List (Str × Nat)) (B : Bd) : Prop where
  tk : ∀ z, z ∈ B.taken ↔ z ∈ (fs ++ [f]).map (·.ln)
  rk : ((fs ++ [f]).map (rkF P)).Pairwise (· < ·)
  rt : ∀ g ∈ fs, AtOk P g
  jb : ∀ j ∈ jobs, (j.2 : Int) < (P.wk j.1).tk
theorem passL_inv {P : Pl} (ok : P.Ok) {fs : List Frm} {rest : List (Str × Key)} : ∀ {f : Frm} {lim : Int} {jobs : List (Str × Nat)} {B : Bd}, B.Ok P → JOk P jobs → FOk P fs B → f.ln ∈ P.names → f.ln ∉ fs.map (·.ln) → f.tk = 0 → PInv P fs f jobs B →
    rest = (P.ln f.ln).st.drop f.st → RInv P (passL P fs f lim jobs B rest).1 (passL P fs f lim jobs B rest).2.1 := by
  intro f lim jobs B bok jok fok hn hd ht hi hr
  have cok := (passL_ok ok (lim := lim) bok jok fok hn ((hi.tk f.ln).mpr (by simp)) hd hr).cok
  revert cok
  induction rest generalizing f lim jobs B with
  | nil =>
    intro cok
    refine ⟨cok, fun z => ?_, ?_, hi.rt, hi.jb⟩
    · show z ∈ B.taken.erase f.ln ↔ z ∈ fs.map (·.ln)
      rw [bok.ta.nd.mem_erase_iff, hi.tk z, List.map_append, List.mem_append]
      constructor
      · rintro ⟨h1, h2 | h2⟩
        · exact h2
        · exact absurd (by simpa using h2) h1
      · intro h
        exact ⟨fun e => hd (by rw [← e]; exact h), .inl h⟩
    · have := hi.rk
      rw [List.map_append, List.pairwise_append] at this
      exact this.1
  | cons s r ih =>
    have hg : (P.ln f.ln).st[f.st]? = some s := by
      rw [← List.head?_drop, ← hr]
      rfl
    have hdr : r = (P.ln f.ln).st.drop (f.st + 1) := by
      rw [← List.tail_drop, ← hr]
      rfl
    have sis := ok.step (ok.ln_mem hn).1 (List.mem_of_getElem? hg)
    unfold passL
    cases e : stops B s with
    | true =>
      rw [if_pos rfl]
      intro cok
      refine ⟨cok, hi.tk, hi.rk, fun g hgm => ?_, hi.jb⟩
      rcases List.mem_append.mp hgm with hgm | hgm
      · exact hi.rt g hgm
      · rw [List.mem_singleton.mp hgm]
        rcases stops_yes e with h | h
        · obtain ⟨n, h1, h2, _⟩ := sis.run_int h
          exact ⟨s, hg, .inl ⟨h, n, h1, by rw [ht]; omega⟩⟩
        · exact ⟨s, hg, .inr ⟨h, ht⟩⟩
    | false =>
      rw [if_neg (by simp)]
      intro cok
      obtain ⟨b2, j2⟩ := stepFx_ok (lim := lim) sis (stops_no e) bok jok
      refine ih (f := { f with st := f.st + 1 }) b2 j2 (fok.taken stepFx_taken) hn hd ht ⟨fun z => ?_, ?_, hi.rt, fun j hj => ?_⟩ hdr cok
      · rw [stepFx_taken, hi.tk z, List.map_append, List.map_append]
        rfl
      · have := hi.rk
        rw [List.map_append] at this ⊢
        exact this
      · unfold stepFx at hj
        by_cases h1 : s.1 = "bar"
        · rw [if_pos h1] at hj; exact hi.jb j hj
        · rw [if_neg h1] at hj
          by_cases h2 : s.1 = "later"
          · rw [if_pos h2] at hj
            obtain ⟨z, hz, hzw⟩ := sis.later_in h2
            unfold leave at hj
            split at hj
            · exact hi.jb j hj
            · rcases List.mem_append.mp hj with hj | hj
              · exact hi.jb j hj
              · rw [List.mem_singleton.mp hj, hz]
                exact ok.wk_pos hzw
          · rw [if_neg h2] at hj
            split at hj <;> exact hi.jb j hj
theorem pass_inv {P : Pl} (ok : P.Ok) {fs : List Frm} {f : Frm} {lim : Int} {jobs : List (Str × Nat)} {B : Bd} (b : B.Ok P) (j : JOk P jobs) (k : FOk P fs B) (hn : f.ln ∈ P.names) (hd : f.ln ∉ fs.map (·.ln)) (ht : f.tk = 0) (hi : PInv P fs f jobs B) : RInv P (pass P fs f lim jobs B).1 (pass P fs f lim jobs B).2.1 := passL_inv ok b j k hn hd ht hi rfl
theorem RInv.pinv {P : Pl} {C : Cr} {B : Bd} {fs : List Frm} {f g : Frm} (h : RInv P C B) (e : C.frames = fs ++ [f]) (eg : g.ln = f.ln) : PInv P fs g C.jobs B := by
  refine ⟨fun z => ?_, ?_, fun x hx => h.rt x (by rw [e]; exact List.mem_append_left _ hx), h.jb⟩
  · rw [h.tk z, e, List.map_append, List.map_append]
    simp [eg]
  · have := h.rk
    rw [e, List.map_append] at this
    rw [List.map_append]
    have e2 : [g].map (rkF P) = [f].map (rkF P) := by simp [rkF, eg]
    rw [e2]
    exact this
/-! ### the model goes as the processor -/
structure Rel (P : Pl) (M : Md) (G : Sg) : Prop where
  calls : M.calls = G.C.frames
  c : RelC M G.C.limit G.C.jobs G.B
  now : M.now = G.time
  sp : ∃ a b c d : Int, M.spent = [a, b, c, d] ∧ G.sums = ([("call", a), ("spun", b), ("work", c), ("idle", d)] : List (Str × Int))
theorem waits_sim {P : Pl} {M : Md} {C : Cr} {B : Bd} (hc : M.calls = C.frames) (h : RelB M B) (i : RInv P C B) (z : Str) : M.waits z = B.waiting z := by
  have hu : decide (z ∈ M.under) = decide (z ∈ B.taken) := by
    unfold Md.under
    rw [hc]
    by_cases k : z ∈ B.taken
    · rw [decide_eq_true k, decide_eq_true ((i.tk z).mp k)]
    · rw [decide_eq_false k, decide_eq_false fun q => k ((i.tk z).mpr q)]
  unfold Md.waits Bd.waiting
  rw [h.ed.dec, h.hi.dec, hu]
theorem can_sim {P : Pl} {M : Md} {C : Cr} {B : Bd} (hc : M.calls = C.frames) (h : RelB M B) (i : RInv P C B) (z : Str) : M.can z = B.can z := by
  have hu : decide (z ∈ M.under) = decide (z ∈ B.taken) := by
    unfold Md.under
    rw [hc]
    by_cases k : z ∈ B.taken
    · rw [decide_eq_true k, decide_eq_true ((i.tk z).mp k)]
    · rw [decide_eq_false k, decide_eq_false fun q => k ((i.tk z).mpr q)]
  unfold Md.can Bd.can
  rw [waits_sim hc h i, h.sh.dec, hu]
theorem cand_sim {P : Pl} (ok : P.Ok) {M : Md} {C : Cr} {B : Bd} (hc : M.calls = C.frames) (h : RelB M B) (i : RInv P C B) : (M.cand P).map (·.nm) = ready P B := by
  unfold Md.cand ready
  rw [order_filter ok]
  congr 2
  apply List.filter_congr
  intro l _
  rw [can_sim hc h i]
theorem rk_pos {P : Pl} (ok : P.Ok) {z : Str} (hz : z ∈ P.names) : 1 ≤ (P.ln z).rk := by
  have h := ok.lok _ (ok.ln_mem hz).1
  simp only [isLine, dLn, isIntD, Bool.and_eq_true, decide_eq_true_eq] at h
  exact h.2.2.1.1
theorem ite_max {a b r : Int} : r > (if a > b then a else b) ↔ (a < r ∧ b < r) := by
  split <;> omega
theorem may_sim {P : Pl} (ok : P.Ok) {M : Md} {C : Cr} {B : Bd} (hc : M.calls = C.frames) (hl : M.bar = C.limit) (i : RInv P C B) {z : Str} (hz : z ∈ P.names) : M.may P z = C.may P z := by
  have hp := rk_pos ok hz
  unfold Md.may Cr.may Cr.inner
  rw [hc, hl]
  rcases List.eq_nil_or_concat C.frames with e | ⟨fs, f, e⟩
  · rw [e]
    simp only [List.getLast?_nil, List.all_nil, Bool.and_true]
    by_cases h : C.limit < (P.ln z).rk
    · rw [decide_eq_true h]
      symm
      apply decide_eq_true
      exact ite_max.mpr ⟨by omega, h⟩
    · rw [decide_eq_false h]
      symm
      apply decide_eq_false
      exact fun z => h (ite_max.mp z).2
  · rw [List.concat_eq_append] at e
    rw [e, List.getLast?_concat]
    dsimp only
    have hr := i.rk
    rw [e, List.map_append, List.pairwise_append] at hr
    have hall : ((fs ++ [f]).all fun g => decide ((P.ln g.ln).rk < (P.ln z).rk)) = decide ((P.ln f.ln).rk < (P.ln z).rk) := by
      by_cases k : (P.ln f.ln).rk < (P.ln z).rk
      · rw [decide_eq_true k]
        refine List.all_eq_true.mpr fun g hg => decide_eq_true ?_
        rcases List.mem_append.mp hg with hg | hg
        · have := hr.2.2 (rkF P g) (List.mem_map_of_mem hg) (rkF P f) (by simp)
          unfold rkF at this
          omega
        · rw [List.mem_singleton.mp hg]
          exact k
      · rw [decide_eq_false k, List.all_append]
        simp [k]
    rw [hall]
    by_cases h1 : C.limit < (P.ln z).rk
    · by_cases h2 : (P.ln f.ln).rk < (P.ln z).rk
      · rw [decide_eq_true h1, decide_eq_true h2]
        symm
        apply decide_eq_true
        exact ite_max.mpr ⟨h2, h1⟩
      · rw [decide_eq_true h1, decide_eq_false h2]
        symm
        apply decide_eq_false
        exact fun z => h2 (ite_max.mp z).1
    · rw [decide_eq_false h1]
      symm
      apply decide_eq_false
      exact fun z => h1 (ite_max.mp z).2
structure TkSim (P : Pl) (M M' : Md) (C' : Cr) (B' : Bd) (es : List Ev) : Prop where
  calls : M'.calls = C'.frames
  c : RelC M' C'.limit C'.jobs B'
  log : M'.log = M.log ++ es.map (stamp M.now)
  now : M'.now = M.now
  spent : M'.spent = M.spent
  inv : RInv P C' B'
theorem taking_sim {P : Pl} (ok : P.Ok) {M : Md} {C : Cr} {B : Bd} (hc : M.calls = C.frames) (h : RelC M C.limit C.jobs B) (i : RInv P C B) : TkSim P M (M.taking P) (takeC P C B).1 (takeC P C B).2.1 (takeC P C B).2.2 := by
  have hcs := cand_sim ok hc h.b i
  unfold Md.taking takeC
  have stay : TkSim P M M C B [] := ⟨hc, h, by simp, rfl, rfl, i⟩
  cases e : M.cand P with
  | nil =>
    rw [e] at hcs
    rw [show ready P B = [] from hcs.symm]
    exact stay
  | cons l r =>
    rw [e, List.map_cons] at hcs
    rw [← hcs]
    dsimp only
    obtain ⟨hz, hcan⟩ := can_names hcs.symm
    rw [may_sim ok hc h.lim i hz]
    split
    · have h3 := can_taken hcan
      have hnd : l.nm ∉ C.frames.map (·.ln) := fun q => h3 ((i.tk _).mpr q)
      rename_i hmay
      have gs := goes_sim ok (fs := C.frames) (f := ⟨l.nm, 0, 0, C.limit⟩) (M := { M with edge := putM M.edge l.nm false, log := M.log ++ [((M.now, ("begin" : Str), l.nm) : Lg)], calls := M.calls ++ [⟨l.nm, 0, 0, M.bar⟩] }) (lim := C.limit) (jobs := C.jobs) (B := B.begun l.nm) rfl hz ⟨⟨h.b.sh, h.b.ed.put l.nm false, h.b.hi, h.b.up⟩, h.lim, h.jobs⟩
      have k : FOk P C.frames (B.begun l.nm) := ⟨i.cok.fok.nm, fun f hf => List.mem_append_left _ (i.cok.fok.tk f hf), i.cok.fok.nd, i.cok.fok.st⟩
      have hrk : ∀ g ∈ C.frames, rkF P g < (P.ln l.nm).rk := fun g hg => by
        have hm := may_sim ok hc h.lim i hz
        rw [hmay] at hm
        unfold Md.may at hm
        have := List.all_eq_true.mp (Bool.and_eq_true_iff.mp hm).2 g (by rw [hc]; exact hg)
        exact of_decide_eq_true this
      have pi := pass_inv ok (lim := C.limit) (f := ⟨l.nm, 0, 0, C.limit⟩) (i.cok.bok.begun hz h3) i.cok.jok k hz hnd rfl ⟨fun z => by
          show z ∈ B.taken ++ [l.nm] ↔ _
          rw [List.mem_append, i.tk z, List.map_append, List.mem_append]
          rfl, by
          rw [List.map_append, List.pairwise_append]
          refine ⟨i.rk, by simp, fun a ha b hb => ?_⟩
          obtain ⟨g, hg, rfl⟩ := List.mem_map.mp ha
          have : b = (P.ln l.nm).rk := by simpa [rkF] using hb
          rw [this]
          exact hrk g hg, i.rt, i.jb⟩
      unfold Md.begins
      rw [h.lim, hc] at *
      refine ⟨gs.calls, gs.c, ?_, gs.now, gs.spent, pi⟩
      rw [gs.log]
      show M.log ++ [_] ++ _ = M.log ++ List.map _ (_ :: _)
      rw [List.map_cons, List.append_assoc]
      rfl
    · exact stay
end Z
set_option maxHeartbeats 1000000
namespace Z
open PySem PySem.Spec PyProof.Rows L2
theorem passing_sim {P : Pl} {M : Md} {B : Bd} {f : Frm} (h : RelB M B) (a : AtOk P f) : (decide ((stepOf P f).1 = ("await" : Str)) && decide (kI (stepOf P f).2 ∈ M.up)) = passing P B f := by
  obtain ⟨s, hs, _⟩ := a
  rw [passing_eq hs, ← h.up.dec]
  unfold stepOf
  rw [hs]
  rfl
theorem passM_sim {P : Pl} (ok : P.Ok) : ∀ (n : Nat) {M : Md} {C : Cr} {B : Bd} {es : List Ev} {L : List Lg}, M.calls = C.frames → RelC M C.limit C.jobs B → RInv P C B → M.log = L ++ es.map (stamp M.now) →
    (passM P n M).calls = (passAll P n C B es).1.frames ∧ RelC (passM P n M) (passAll P n C B es).1.limit (passAll P n C B es).1.jobs (passAll P n C B es).2.1 ∧ (passM P n M).log = L ++ (passAll P n C B es).2.2.map (stamp M.now) ∧ (passM P n M).now = M.now ∧ (passM P n M).spent = M.spent ∧ RInv P (passAll P n C B es).1 (passAll P n C B es).2.1
  | 0, M, C, B, es, L, hc, h, i, hl => ⟨hc, h, hl, rfl, rfl, i⟩
  | n + 1, M, C, B, es, L, hc, h, i, hl => by
    rcases List.eq_nil_or_concat C.frames with e | ⟨fs, f, e⟩
    · rw [passAll_nil e]
      have : passM P (n + 1) M = M := by
        unfold passM
        rw [hc, e]
        rfl
      rw [this]
      exact ⟨hc, h, hl, rfl, rfl, i⟩
    · rw [List.concat_eq_append] at e
      have hat := i.rt f (by rw [e]; simp)
      have hp := passing_sim h.b hat
      have hf := i.cok.fok
      rw [e] at hf
      obtain ⟨h1, h2, h3, h4, _⟩ := hf.init
      cases k : passing P B f with
      | false =>
        rw [passAll_no e k]
        have : passM P (n + 1) M = M := by
          unfold passM
          rw [hc, e, List.getLast?_concat]
          dsimp only
          rw [hp, k, if_neg (by simp)]
        rw [this]
        exact ⟨hc, h, hl, rfl, rfl, i⟩
      | true =>
        rw [passAll_yes e k]
        have : passM P (n + 1) M = passM P n (M.goes P fs f) := by
          conv => lhs; unfold passM
          rw [hc, e, List.getLast?_concat, List.dropLast_concat]
          dsimp only
          rw [hp, k, if_pos rfl]
        rw [this]
        have ht : f.tk = 0 := by
          obtain ⟨s, hs, hh⟩ := hat
          rw [passing_eq hs] at k
          simp only [Bool.and_eq_true, decide_eq_true_eq] at k
          rcases hh with ⟨q, _⟩ | ⟨_, q⟩
          · rw [k.1] at q
            exact absurd q (by decide)
          · exact q
        have gs := goes_sim ok (fs := fs) ht h2 h
        have pi := pass_inv ok (lim := C.limit) i.cok.bok i.cok.jok h1 h2 h4 ht (i.pinv e rfl)
        have r := passM_sim ok n (es := es ++ (pass P fs f C.limit C.jobs B).2.2) (L := L) gs.calls gs.c pi (by rw [gs.log, hl, gs.now, List.map_append, List.append_assoc]; rfl)
        rw [gs.now, gs.spent] at r
        exact r
theorem spentAdd0 (a b c d : Int) : spentAdd [a, b, c, d] 0 = [a + 1, b, c, d] ∧ spentAdd [a, b, c, d] 1 = [a, b + 1, c, d] ∧ spentAdd [a, b, c, d] 2 = [a, b, c + 1, d] ∧ spentAdd [a, b, c, d] 3 = [a, b, c, d + 1] := ⟨rfl, rfl, rfl, rfl⟩
structure EndSim (P : Pl) (M M' : Md) (r : Str × Cr × Bd × List Ev) : Prop where
  calls : M'.calls = r.2.1.frames
  c : RelC M' r.2.1.limit r.2.1.jobs r.2.2.1
  now : M'.now = M.now + 1
  inv : RInv P r.2.1 r.2.2.1
  sp : ∀ a b c d : Int, M.spent = [a, b, c, d] → ∃ a' b' c' d' : Int, M'.spent = [a', b', c', d'] ∧ bump ([("call", a), ("spun", b), ("work", c), ("idle", d)] : List (Str × Int)) r.1 = ([("call", a'), ("spun", b'), ("work", c'), ("idle", d')] : List (Str × Int))
theorem tick2_sim {P : Pl} (ok : P.Ok) {M : Md} {C : Cr} {B : Bd} {es : List Ev} {L : List Lg} (hc : M.calls = C.frames) (h : RelC M C.limit C.jobs B) (i : RInv P C B) (hl : M.log = L ++ es.map (stamp M.now)) :
    EndSim P M (M.tick2 P) (tickC P C B es) ∧ (M.tick2 P).log = L ++ (tickC P C B es).2.2.2.map (stamp M.now) := by
  have cop : ∀ {M : Md} {lim : Int} {jobs : List (Str × Nat)} {B : Bd} (k : Nat), RelC M lim jobs B → RelC (M.ends k) lim jobs B := fun k h => ⟨⟨h.b.sh, h.b.ed, h.b.hi, h.b.up⟩, h.lim, h.jobs⟩
  rcases List.eq_nil_or_concat C.frames with e | ⟨fs, f, e⟩
  · have eM : M.calls.getLast? = none := by rw [hc, e]; rfl
    by_cases hj : C.jobs = []
    · rw [tickC_idle e hj]
      have : M.tick2 P = M.ends 3 := by
        unfold Md.tick2
        rw [eM]
        exact if_pos (by rw [h.jobs, hj])
      rw [this]
      exact ⟨⟨hc, cop 3 h, rfl, i, fun a b c d hs => ⟨a, b, c, d + 1, by show spentAdd M.spent 3 = _; rw [hs]; rfl, by kernel_rfl⟩⟩, hl⟩
    · rw [tickC_work e hj]
      have : M.tick2 P = Md.ends { M with jobs := (doWork P M.jobs).1, log := M.log ++ (doWork P M.jobs).2.map (stamp M.now) } 2 := by
        unfold Md.tick2
        rw [eM]
        exact if_neg (by rw [h.jobs]; exact hj)
      rw [this]
      obtain ⟨_, _, d3⟩ := doWork_acc i.jb hj
      refine ⟨⟨hc, ⟨⟨h.b.sh, h.b.ed, h.b.hi, h.b.up⟩, h.lim, by show (doWork P M.jobs).1 = _; rw [h.jobs]⟩, rfl, ⟨⟨i.cok.bok, i.cok.jok.doWork, i.cok.fok⟩, i.tk, i.rk, i.rt, d3⟩, fun a b c d hs => ⟨a, b, c + 1, d, by show spentAdd M.spent 2 = _; rw [hs]; rfl, by kernel_rfl⟩⟩, ?_⟩
      show M.log ++ (doWork P M.jobs).2.map (stamp M.now) = L ++ (es ++ (doWork P C.jobs).2).map (stamp M.now)
      rw [hl, h.jobs, List.map_append, List.append_assoc]
  · rw [List.concat_eq_append] at e
    have eM : M.calls.getLast? = some f := by rw [hc, e, List.getLast?_concat]
    have eD : M.calls.dropLast = fs := by rw [hc, e, List.dropLast_concat]
    have hat := i.rt f (by rw [e]; simp)
    have hf := i.cok.fok
    rw [e] at hf
    obtain ⟨h1, h2, h3, h4, h5⟩ := hf.init
    obtain ⟨s, hs, hh⟩ := hat
    have hso : stepOf P f = s := by unfold stepOf; rw [hs]; rfl
    rcases hh with ⟨hw, n, hn, hlt⟩ | ⟨hw, ht⟩
    · obtain ⟨w, k⟩ := s
      simp only at hw hn
      subst hw
      subst hn
      have hna : (stepOf P f).1 ≠ "await" := by rw [hso]; show ("run" : Str) ≠ "await"; decide
      rw [tickC_call e hna]
      have hst : AtOk P { f with tk := f.tk + 1 } ∨ ¬ (f.tk : Int) + 1 < n := by
        by_cases q : (f.tk : Int) + 1 < n
        · exact .inl ⟨_, hs, .inl ⟨rfl, n, rfl, by show ((f.tk + 1 : Nat) : Int) < n; omega⟩⟩
        · exact .inr q
      by_cases q : (f.tk : Int) + 1 < n
      · rw [spend_lt hso q]
        have : M.tick2 P = Md.ends { M with calls := fs ++ [{ f with tk := f.tk + 1 }] } 0 := by
          unfold Md.tick2
          rw [eM, eD]
          dsimp only
          rw [if_neg hna, hso]
          exact if_neg (by show ¬ (f.tk : Int) + 1 = n; omega)
        rw [this]
        have hat2 := hst.resolve_right (fun z => z q)
        refine ⟨⟨rfl, ⟨⟨h.b.sh, h.b.ed, h.b.hi, h.b.up⟩, h.lim, h.jobs⟩, rfl, ⟨⟨i.cok.bok, i.cok.jok, hf.inj rfl h5⟩, (i.pinv (g := { f with tk := f.tk + 1 }) e rfl).tk, (i.pinv (g := { f with tk := f.tk + 1 }) e rfl).rk, fun g hg => ?_, i.jb⟩, fun a b c d hs => ⟨a + 1, b, c, d, by show spentAdd M.spent 0 = _; rw [hs]; rfl, by kernel_rfl⟩⟩, ?_⟩
        · rcases List.mem_append.mp hg with hg | hg
          · exact i.rt g (by rw [e]; exact List.mem_append_left _ hg)
          · rw [List.mem_singleton.mp hg]
            exact hat2
        · show M.log = L ++ (es ++ []).map (stamp M.now)
          rw [List.append_nil, hl]
      · rw [spend_ge hso q]
        have : M.tick2 P = (Md.goes P { M with calls := fs ++ [{ f with st := f.st + 1, tk := 0 }] } fs { f with st := f.st + 1, tk := 0 }).ends 0 := by
          unfold Md.tick2
          rw [eM, eD]
          dsimp only
          rw [if_neg hna, hso]
          exact if_pos (by show (f.tk : Int) + 1 = n; omega)
        rw [this]
        have gs := goes_sim ok (fs := fs) (f := { f with st := f.st + 1, tk := 0 }) (M := { M with calls := fs ++ [{ f with st := f.st + 1, tk := 0 }] }) (lim := C.limit) (jobs := C.jobs) (B := B) rfl h2 ⟨⟨h.b.sh, h.b.ed, h.b.hi, h.b.up⟩, h.lim, h.jobs⟩
        have pi := pass_inv ok (lim := C.limit) (f := { f with st := f.st + 1, tk := 0 }) i.cok.bok i.cok.jok h1 h2 h4 rfl (i.pinv e rfl)
        refine ⟨⟨gs.calls, cop 0 gs.c, by show (Md.goes P _ fs _).now + 1 = _; rw [gs.now], pi, fun a b c d hs => ⟨a + 1, b, c, d, by show spentAdd (Md.goes P _ fs _).spent 0 = _; rw [gs.spent]; show spentAdd M.spent 0 = _; rw [hs]; rfl, by kernel_rfl⟩⟩, ?_⟩
        show (Md.goes P _ fs _).log = _
        rw [gs.log]
        show M.log ++ _ = L ++ (es ++ _).map (stamp M.now)
        rw [hl, List.map_append, List.append_assoc]
        rfl
    · have ha : (stepOf P f).1 = "await" := by rw [hso]; exact hw
      rw [tickC_spun e ha]
      have : M.tick2 P = M.ends 1 := by
        unfold Md.tick2
        rw [eM]
        exact if_pos ha
      rw [this]
      exact ⟨⟨hc, cop 1 h, rfl, i, fun a b c d hs => ⟨a, b + 1, c, d, by show spentAdd M.spent 1 = _; rw [hs]; rfl, by kernel_rfl⟩⟩, hl⟩
theorem tick_sim {P : Pl} (ok : P.Ok) {M : Md} {G : Sg} (h : Rel P M G) (i : RInv P G.C G.B) : Rel P (M.tick P) (G.tick P).1 ∧ RInv P (G.tick P).1.C (G.tick P).1.B ∧ (M.tick P).log = M.log ++ (G.tick P).2.map (stamp M.now) := by
  obtain ⟨a, b, c, d, s1, s2⟩ := h.sp
  have t := taking_sim ok h.calls h.c i
  have p := passM_sim ok (left P (M.taking P).calls) (es := []) (L := (M.taking P).log) t.calls t.c t.inv (by simp)
  have el : left P (M.taking P).calls = left P (takeC P G.C G.B).1.frames := by rw [t.calls]
  rw [el] at p
  obtain ⟨p1, p2, p3, p4, p5, p6⟩ := p
  rw [t.now] at p3 p4
  rw [t.spent] at p5
  have z := tick2_sim ok (es := (passAll P (left P (takeC P G.C G.B).1.frames) (takeC P G.C G.B).1 (takeC P G.C G.B).2.1 []).2.2) (L := (M.taking P).log) p1 p2 p6 (by rw [p3, p4])
  obtain ⟨z1, z2⟩ := z
  have eM : M.tick P = (passM P (left P (takeC P G.C G.B).1.frames) (M.taking P)).tick2 P := by unfold Md.tick; rw [el]
  obtain ⟨a', b', c', d', q1, q2⟩ := z1.sp a b c d (p5.trans s1)
  refine ⟨⟨by rw [eM]; exact z1.calls, by rw [eM]; exact z1.c, ?_, a', b', c', d', by rw [eM]; exact q1, ?_⟩, z1.inv, ?_⟩
  · rw [eM, z1.now, p4, h.now]
    rfl
  · show bump G.sums _ = _
    rw [s2]
    exact q2
  · rw [eM, z2, p4, t.log, List.append_assoc]
    congr 1
    show _ = List.map _ (_ ++ _)
    rw [List.map_append]
    rfl
end Z
set_option maxHeartbeats 1000000
namespace Z
open PySem PySem.Spec PyProof.Rows L2
/-! ### the model in the heap -/
def dFrm (f : Frm) : PyData := .tuple [.str f.ln, .int f.st, .int f.tk, .int f.kp]
def dLg (l : Lg) : PyData := .tuple [.int l.1, .str l.2.1, .str l.2.2]
structure MA where
  m : Addr
  ln : Addr
  wk : Addr
  sh : Addr
  ed : Addr
  hi : Addr
  up : Addr
  ca : Addr
  jo : Addr
  lg : Addr
  sp : Addr
  jn : Addr
def MA.own (D : MA) : List Addr := [D.m, D.sh, D.ed, D.hi, D.up, D.ca, D.jo, D.lg, D.sp, D.jn]
def mdKV (D : MA) (bar now : Int) : List (Key × V) := [(.inr "lines", .ref D.ln), (.inr "works", .ref D.wk), (.inr "shut", .ref D.sh), (.inr "edge", .ref D.ed), (.inr "high", .ref D.hi), (.inr "up", .ref D.up), (.inr "bar", .int bar), (.inr "calls", .ref D.ca), (.inr "jobs", .ref D.jo), (.inr "now", .int now), (.inr "log", .ref D.lg), (.inr "spent", .ref D.sp), (.inr "joined", .ref D.jn)]
section
variable {D : MA} {b n : Int}
theorem mk_ln : valV (mdKV D b n) (.inr "lines") = some (.ref D.ln) := by kernel_rfl
theorem mk_wk : valV (mdKV D b n) (.inr "works") = some (.ref D.wk) := by kernel_rfl
theorem mk_sh : valV (mdKV D b n) (.inr "shut") = some (.ref D.sh) := by kernel_rfl
theorem mk_ed : valV (mdKV D b n) (.inr "edge") = some (.ref D.ed) := by kernel_rfl
theorem mk_hi : valV (mdKV D b n) (.inr "high") = some (.ref D.hi) := by kernel_rfl
theorem mk_up : valV (mdKV D b n) (.inr "up") = some (.ref D.up) := by kernel_rfl
theorem mk_bar : valV (mdKV D b n) (.inr "bar") = some (.int b) := by kernel_rfl
theorem mk_ca : valV (mdKV D b n) (.inr "calls") = some (.ref D.ca) := by kernel_rfl
theorem mk_jo : valV (mdKV D b n) (.inr "jobs") = some (.ref D.jo) := by kernel_rfl
theorem mk_now : valV (mdKV D b n) (.inr "now") = some (.int n) := by kernel_rfl
theorem mk_lg : valV (mdKV D b n) (.inr "log") = some (.ref D.lg) := by kernel_rfl
theorem mk_sp : valV (mdKV D b n) (.inr "spent") = some (.ref D.sp) := by kernel_rfl
theorem mk_jn : valV (mdKV D b n) (.inr "joined") = some (.ref D.jn) := by kernel_rfl
theorem mp_sh {p : Addr} : putK (mdKV D b n) (.inr "shut") (.ref p) = mdKV { D with sh := p } b n := by kernel_rfl
theorem mp_ed {p : Addr} : putK (mdKV D b n) (.inr "edge") (.ref p) = mdKV { D with ed := p } b n := by kernel_rfl
theorem mp_hi {p : Addr} : putK (mdKV D b n) (.inr "high") (.ref p) = mdKV { D with hi := p } b n := by kernel_rfl
theorem mp_up {p : Addr} : putK (mdKV D b n) (.inr "up") (.ref p) = mdKV { D with up := p } b n := by kernel_rfl
theorem mp_ca {p : Addr} : putK (mdKV D b n) (.inr "calls") (.ref p) = mdKV { D with ca := p } b n := by kernel_rfl
theorem mp_bar {x : Int} : putK (mdKV D b n) (.inr "bar") (.int x) = mdKV D x n := by kernel_rfl
theorem mp_now {x : Int} : putK (mdKV D b n) (.inr "now") (.int x) = mdKV D b x := by kernel_rfl
end
/-- a list of data -/
def LsAt (K : Fg) (H : Hp) (a : Addr) (ds : List PyData) : Prop := ∃ xs, H a = some (.lst xs) ∧ DpAll K H xs ds
theorem LsAt.keep {K : Fg} {H H' : Hp} {a : Addr} {ds : List PyData} {A : List Addr} (h : LsAt K H a ds) (f : Fr A H H') (n : a ∉ A) (t : tupds ds = true) : LsAt K H' a ds := by
  obtain ⟨xs, h1, h2⟩ := h
  exact ⟨xs, f.at h1 n, h2.tk f.tk t⟩
/-- the model's own lists -/
structure MdL (K : Fg) (H : Hp) (D : MA) (M : Md) : Prop where
  nd : D.own.Nodup
  sh : H D.sh = some (.lst (M.shut.map V.str))
  ed : H D.ed = some (.lst (M.edge.map V.str))
  hi : H D.hi = some (.lst (M.high.map V.str))
  up : H D.up = some (.lst (M.up.map V.int))
  ca : LsAt K H D.ca (M.calls.map dFrm)
  jo : LsAt K H D.jo (M.jobs.map dJob)
  lg : LsAt K H D.lg (M.log.map dLg)
  sp : H D.sp = some (.lst (M.spent.map V.int))
  jn : H D.jn = some (.lst (M.joined.map V.str))
structure MdAt (K : Fg) (H : Hp) (D : MA) (M : Md) : Prop where
  l : MdL K H D M
  md : H D.m = some (.dK (mdKV D M.bar M.now))
section
variable {K : Fg} {H H' : Hp} {D : MA} {M : Md}
theorem tds_frm (l : List Frm) : tupds (l.map dFrm) = true := tupds_map (fun _ => rfl) l
theorem tds_job (l : List (Str × Nat)) : tupds (l.map dJob) = true := tupds_map (fun _ => rfl) l
theorem tds_lg (l : List Lg) : tupds (l.map dLg) = true := tupds_map (fun _ => rfl) l
theorem MdL.keep (h : MdL K H D M) {A : List Addr} (f : Fr A H H') (n : ∀ a ∈ D.own, a ∉ A) : MdL K H' D M := by
  have n' : D.m ∉ A ∧ D.sh ∉ A ∧ D.ed ∉ A ∧ D.hi ∉ A ∧ D.up ∉ A ∧ D.ca ∉ A ∧ D.jo ∉ A ∧ D.lg ∉ A ∧ D.sp ∉ A ∧ D.jn ∉ A := by simpa [MA.own] using n
  obtain ⟨n0, n1, n2, n3, n4, n5, n6, n7, n8, n9⟩ := n'
  exact ⟨h.nd, f.at h.sh n1, f.at h.ed n2, f.at h.hi n3, f.at h.up n4, h.ca.keep f n5 (tds_frm _), h.jo.keep f n6 (tds_job _), h.lg.keep f n7 (tds_lg _), f.at h.sp n8, f.at h.jn n9⟩
theorem MdAt.keep (h : MdAt K H D M) {A : List Addr} (f : Fr A H H') (n : ∀ a ∈ D.own, a ∉ A) : MdAt K H' D M := ⟨h.l.keep f n, f.at h.md (n _ (by simp [MA.own]))⟩
theorem MdAt.same (h : MdAt K H D M) (s : Same H H') : MdAt K H' D M := h.keep (A := []) s.fr (by simp)
theorem md_same (s : Same H H') (h : MdAt K H D M) : MdAt K H' D M := h.same s
theorem MdAt.ex (h : MdAt K H D M) : ∀ a ∈ D.own, H a ≠ none := by
  obtain ⟨_, h1, _⟩ := h.l.ca
  obtain ⟨_, h2, _⟩ := h.l.jo
  obtain ⟨_, h3, _⟩ := h.l.lg
  simp [MA.own, h.md, h.l.sh, h.l.ed, h.l.hi, h.l.up, h1, h2, h3, h.l.sp, h.l.jn]
structure MA.Nes (D : MA) : Prop where
  m : D.m ≠ D.sh ∧ D.m ≠ D.ed ∧ D.m ≠ D.hi ∧ D.m ≠ D.up ∧ D.m ≠ D.ca ∧ D.m ≠ D.jo ∧ D.m ≠ D.lg ∧ D.m ≠ D.sp ∧ D.m ≠ D.jn
  sh : D.sh ≠ D.ed ∧ D.sh ≠ D.hi ∧ D.sh ≠ D.up ∧ D.sh ≠ D.ca ∧ D.sh ≠ D.jo ∧ D.sh ≠ D.lg ∧ D.sh ≠ D.sp ∧ D.sh ≠ D.jn
  ed : D.ed ≠ D.hi ∧ D.ed ≠ D.up ∧ D.ed ≠ D.ca ∧ D.ed ≠ D.jo ∧ D.ed ≠ D.lg ∧ D.ed ≠ D.sp ∧ D.ed ≠ D.jn
  hi : D.hi ≠ D.up ∧ D.hi ≠ D.ca ∧ D.hi ≠ D.jo ∧ D.hi ≠ D.lg ∧ D.hi ≠ D.sp ∧ D.hi ≠ D.jn
  up : D.up ≠ D.ca ∧ D.up ≠ D.jo ∧ D.up ≠ D.lg ∧ D.up ≠ D.sp ∧ D.up ≠ D.jn
  ca : D.ca ≠ D.jo ∧ D.ca ≠ D.lg ∧ D.ca ≠ D.sp ∧ D.ca ≠ D.jn
  jo : D.jo ≠ D.lg ∧ D.jo ≠ D.sp ∧ D.jo ≠ D.jn
  lg : D.lg ≠ D.sp ∧ D.lg ≠ D.jn
  sp : D.sp ≠ D.jn
theorem MA.nes {D : MA} (h : D.own.Nodup) : D.Nes := by
  simp only [MA.own, List.nodup_cons, List.mem_cons, List.not_mem_nil, or_false, not_or, List.nodup_nil, and_true, not_false_eq_true] at h
  obtain ⟨h0, h1, h2, h3, h4, h5, h6, h7, h8⟩ := h
  exact ⟨h0, h1, h2, h3, h4, h5, h6, h7, h8⟩
/-- the dict written: what it names stands already -/
theorem MdL.put (h : MdL K H D M) {u : HO} (e : H D.m = some u) (t : tupO u = false) : MdAt K (upd H D.m (.dK (mdKV D M.bar M.now))) D M := by
  have f : Fr [D.m] H (upd H D.m (.dK (mdKV D M.bar M.now))) := Fr.upd (by simp) e t
  obtain ⟨⟨n1, n2, n3, n4, n5, n6, n7, n8, n9⟩, _, _, _, _, _, _, _, _⟩ := MA.nes h.nd
  exact ⟨⟨h.nd, f.at h.sh (by simp [Ne.symm n1]), f.at h.ed (by simp [Ne.symm n2]), f.at h.hi (by simp [Ne.symm n3]), f.at h.up (by simp [Ne.symm n4]), h.ca.keep f (by simp [Ne.symm n5]) (tds_frm _), h.jo.keep f (by simp [Ne.symm n6]) (tds_job _), h.lg.keep f (by simp [Ne.symm n7]) (tds_lg _), f.at h.sp (by simp [Ne.symm n8]), f.at h.jn (by simp [Ne.symm n9])⟩, upd_same⟩
theorem nodup_rep {l r : List Addr} {a p : Addr} (h : (l ++ a :: r).Nodup) (hp : p ∉ l ++ a :: r) : (l ++ p :: r).Nodup := by
  rw [List.nodup_append, List.nodup_cons] at h ⊢
  simp only [List.mem_append, List.mem_cons, not_or] at hp
  refine ⟨h.1, ⟨hp.2.2, h.2.1.2⟩, fun x hx y hy e => ?_⟩
  rcases List.mem_cons.mp hy with rfl | hy
  · exact hp.1 (by rw [← e]; exact hx)
  · exact h.2.2 x hx y (List.mem_cons_of_mem _ hy) e
/-- another list in a place -/
theorem MdL.repSh (h : MdL K H D M) {p : Addr} {l : List Str} (e : H p = some (.lst (l.map V.str))) (n : p ∉ D.own) : MdL K H { D with sh := p } { M with shut := l } := ⟨nodup_rep (l := [D.m]) h.nd n, e, h.ed, h.hi, h.up, h.ca, h.jo, h.lg, h.sp, h.jn⟩
theorem MdL.repEd (h : MdL K H D M) {p : Addr} {l : List Str} (e : H p = some (.lst (l.map V.str))) (n : p ∉ D.own) : MdL K H { D with ed := p } { M with edge := l } := ⟨nodup_rep (l := [D.m, D.sh]) h.nd n, h.sh, e, h.hi, h.up, h.ca, h.jo, h.lg, h.sp, h.jn⟩
theorem MdL.repHi (h : MdL K H D M) {p : Addr} {l : List Str} (e : H p = some (.lst (l.map V.str))) (n : p ∉ D.own) : MdL K H { D with hi := p } { M with high := l } := ⟨nodup_rep (l := [D.m, D.sh, D.ed]) h.nd n, h.sh, h.ed, e, h.up, h.ca, h.jo, h.lg, h.sp, h.jn⟩
theorem MdL.repUp (h : MdL K H D M) {p : Addr} {l : List Int} (e : H p = some (.lst (l.map V.int))) (n : p ∉ D.own) : MdL K H { D with up := p } { M with up := l } := ⟨nodup_rep (l := [D.m, D.sh, D.ed, D.hi]) h.nd n, h.sh, h.ed, h.hi, e, h.ca, h.jo, h.lg, h.sp, h.jn⟩
theorem MdL.repCa (h : MdL K H D M) {p : Addr} {l : List Frm} (e : LsAt K H p (l.map dFrm)) (n : p ∉ D.own) : MdL K H { D with ca := p } { M with calls := l } := ⟨nodup_rep (l := [D.m, D.sh, D.ed, D.hi, D.up]) h.nd n, h.sh, h.ed, h.hi, h.up, e, h.jo, h.lg, h.sp, h.jn⟩
/-- a list written in its place -/
theorem MdAt.wJn (h : MdAt K H D M) (l : List Str) : MdAt K (upd H D.jn (.lst (l.map V.str))) D { M with joined := l } := by
  have f : Fr [D.jn] H (upd H D.jn (.lst (l.map V.str))) := Fr.upd (by simp) h.l.jn rfl
  obtain ⟨⟨_, _, _, _, _, _, _, _, n0⟩, ⟨_, _, _, _, _, _, _, n1⟩, ⟨_, _, _, _, _, _, n2⟩, ⟨_, _, _, _, _, n3⟩, ⟨_, _, _, _, n4⟩, ⟨_, _, _, n5⟩, ⟨_, _, n6⟩, ⟨_, n7⟩, n8⟩ := MA.nes h.l.nd
  exact ⟨⟨h.l.nd, f.at h.l.sh (by simp [n1]), f.at h.l.ed (by simp [n2]), f.at h.l.hi (by simp [n3]), f.at h.l.up (by simp [n4]), h.l.ca.keep f (by simp [n5]) (tds_frm _), h.l.jo.keep f (by simp [n6]) (tds_job _), h.l.lg.keep f (by simp [n7]) (tds_lg _), f.at h.l.sp (by simp [n8]), upd_same⟩, f.at h.md (by simp [n0])⟩
theorem MdAt.wSp (h : MdAt K H D M) (l : List Int) : MdAt K (upd H D.sp (.lst (l.map V.int))) D { M with spent := l } := by
  have f : Fr [D.sp] H (upd H D.sp (.lst (l.map V.int))) := Fr.upd (by simp) h.l.sp rfl
  obtain ⟨⟨_, _, _, _, _, _, _, n0, _⟩, ⟨_, _, _, _, _, _, n1, _⟩, ⟨_, _, _, _, _, n2, _⟩, ⟨_, _, _, _, n3, _⟩, ⟨_, _, _, n4, _⟩, ⟨_, _, n5, _⟩, ⟨_, n6, _⟩, ⟨n7, _⟩, n8⟩ := MA.nes h.l.nd
  exact ⟨⟨h.l.nd, f.at h.l.sh (by simp [n1]), f.at h.l.ed (by simp [n2]), f.at h.l.hi (by simp [n3]), f.at h.l.up (by simp [n4]), h.l.ca.keep f (by simp [n5]) (tds_frm _), h.l.jo.keep f (by simp [n6]) (tds_job _), h.l.lg.keep f (by simp [n7]) (tds_lg _), upd_same, f.at h.l.jn (by simp [Ne.symm n8])⟩, f.at h.md (by simp [n0])⟩
theorem MdAt.wLg (h : MdAt K H D M) {xs : List V} {l : List Lg} (d : DpAll K H xs (l.map dLg)) : MdAt K (upd H D.lg (.lst xs)) D { M with log := l } := by
  obtain ⟨ys, e, _⟩ := h.l.lg
  have f : Fr [D.lg] H (upd H D.lg (.lst xs)) := Fr.upd (by simp) e rfl
  obtain ⟨⟨_, _, _, _, _, _, n0, _, _⟩, ⟨_, _, _, _, _, n1, _, _⟩, ⟨_, _, _, _, n2, _, _⟩, ⟨_, _, _, n3, _, _⟩, ⟨_, _, n4, _, _⟩, ⟨_, n5, _, _⟩, ⟨n6, _, _⟩, ⟨n7, n8⟩, _⟩ := MA.nes h.l.nd
  exact ⟨⟨h.l.nd, f.at h.l.sh (by simp [n1]), f.at h.l.ed (by simp [n2]), f.at h.l.hi (by simp [n3]), f.at h.l.up (by simp [n4]), h.l.ca.keep f (by simp [n5]) (tds_frm _), h.l.jo.keep f (by simp [n6]) (tds_job _), ⟨xs, upd_same, d.tk f.tk (tds_lg _)⟩, f.at h.l.sp (by simp [Ne.symm n7]), f.at h.l.jn (by simp [Ne.symm n8])⟩, f.at h.md (by simp [n0])⟩
theorem MdAt.wJo (h : MdAt K H D M) {xs : List V} {l : List (Str × Nat)} (d : DpAll K H xs (l.map dJob)) : MdAt K (upd H D.jo (.lst xs)) D { M with jobs := l } := by
  obtain ⟨ys, e, _⟩ := h.l.jo
  have f : Fr [D.jo] H (upd H D.jo (.lst xs)) := Fr.upd (by simp) e rfl
  obtain ⟨⟨_, _, _, _, _, n0, _, _, _⟩, ⟨_, _, _, _, n1, _, _, _⟩, ⟨_, _, _, n2, _, _, _⟩, ⟨_, _, n3, _, _, _⟩, ⟨_, n4, _, _, _⟩, ⟨n5, _, _, _⟩, ⟨n6, n7, n8⟩, _, _⟩ := MA.nes h.l.nd
  exact ⟨⟨h.l.nd, f.at h.l.sh (by simp [n1]), f.at h.l.ed (by simp [n2]), f.at h.l.hi (by simp [n3]), f.at h.l.up (by simp [n4]), h.l.ca.keep f (by simp [n5]) (tds_frm _), ⟨xs, upd_same, d.tk f.tk (tds_job _)⟩, h.l.lg.keep f (by simp [Ne.symm n6]) (tds_lg _), f.at h.l.sp (by simp [Ne.symm n7]), f.at h.l.jn (by simp [Ne.symm n8])⟩, f.at h.md (by simp [n0])⟩
theorem MdAt.wCa (h : MdAt K H D M) {xs : List V} {l : List Frm} (d : DpAll K H xs (l.map dFrm)) : MdAt K (upd H D.ca (.lst xs)) D { M with calls := l } := by
  obtain ⟨ys, e, _⟩ := h.l.ca
  have f : Fr [D.ca] H (upd H D.ca (.lst xs)) := Fr.upd (by simp) e rfl
  obtain ⟨⟨_, _, _, _, n0, _, _, _, _⟩, ⟨_, _, _, n1, _, _, _, _⟩, ⟨_, _, n2, _, _, _, _⟩, ⟨_, n3, _, _, _, _⟩, ⟨n4, _, _, _, _⟩, ⟨n5, n6, n7, n8⟩, _, _, _⟩ := MA.nes h.l.nd
  exact ⟨⟨h.l.nd, f.at h.l.sh (by simp [n1]), f.at h.l.ed (by simp [n2]), f.at h.l.hi (by simp [n3]), f.at h.l.up (by simp [n4]), ⟨xs, upd_same, d.tk f.tk (tds_frm _)⟩, h.l.jo.keep f (by simp [Ne.symm n5]) (tds_job _), h.l.lg.keep f (by simp [Ne.symm n6]) (tds_lg _), f.at h.l.sp (by simp [Ne.symm n7]), f.at h.l.jn (by simp [Ne.symm n8])⟩, f.at h.md (by simp [n0])⟩
end
/-- what the model's deeds may change -/
structure ChM (H : Hp) (D : MA) (H' : Hp) (D' : MA) : Prop where
  fr : Fr D.own H H'
  m : D'.m = D.m
  ln : D'.ln = D.ln
  wk : D'.wk = D.wk
  own : ∀ a ∈ D'.own, a ∈ D.own ∨ H a = none
theorem ChM.refl {H : Hp} {D : MA} : ChM H D H D := ⟨Fr.refl, rfl, rfl, rfl, fun _ h => .inl h⟩
theorem ChM.same {H H' : Hp} {D : MA} (s : Same H H') : ChM H D H' D := ⟨s.fr, rfl, rfl, rfl, fun _ h => .inl h⟩
theorem ChM.trans {H H1 H2 : Hp} {D D1 D2 : MA} (x : ChM H D H1 D1) (y : ChM H1 D1 H2 D2) : ChM H D H2 D2 := by
  refine ⟨x.fr.seq y.fr x.own, y.m.trans x.m, y.ln.trans x.ln, y.wk.trans x.wk, fun a ha => ?_⟩
  rcases y.own a ha with h | h
  · exact x.own a h
  · exact .inr (x.fr.back h)
theorem ChM.upd {H : Hp} {D : MA} {a : Addr} {o u : HO} (ha : a ∈ D.own) (e : H a = some o) (t : tupO o = false) : ChM H D (upd H a u) D := ⟨Fr.upd ha e t, rfl, rfl, rfl, fun _ h => .inl h⟩
/-- lines and works by their names -/
structure PlM (K : Fg) (H : Hp) (D : MA) (P : Pl) : Prop where
  ok : P.Ok
  ln : ∃ vs, H D.ln = some (.dK ((P.ls.map fun l => (Sum.inr l.nm : Key)).zip vs)) ∧ DpAll K H vs (P.ls.map dLn)
  wk : ∃ vs, H D.wk = some (.dK ((P.ws.map fun l => (Sum.inr l.nm : Key)).zip vs)) ∧ DpAll K H vs (P.ws.map dWk)
theorem PlM.keep {K : Fg} {H H' : Hp} {D : MA} {P : Pl} (h : PlM K H D P) {A : List Addr} (f : Fr A H H') (n1 : D.ln ∉ A) (n2 : D.wk ∉ A) : PlM K H' D P := by
  obtain ⟨vs, h1, h2⟩ := h.ln
  obtain ⟨ws, h3, h4⟩ := h.wk
  exact ⟨h.ok, ⟨vs, f.at h1 n1, h2.tk f.tk (tupds_map tupd_dLn _)⟩, ⟨ws, f.at h3 n2, h4.tk f.tk (tupds_map tupd_dWk _)⟩⟩
theorem PlM.same {K : Fg} {H H' : Hp} {D : MA} {P : Pl} (h : PlM K H D P) (s : Same H H') : PlM K H' D P := h.keep (A := []) s.fr (by simp) (by simp)
theorem plm_same {K : Fg} {H H' : Hp} {D : MA} {P : Pl} (s : Same H H') (h : PlM K H D P) : PlM K H' D P := h.same s
theorem PlM.of {K : Fg} {H : Hp} {D D' : MA} {P : Pl} (h : PlM K H D P) (e1 : D'.ln = D.ln) (e2 : D'.wk = D.wk) : PlM K H D' P := ⟨h.ok, by rw [e1]; exact h.ln, by rw [e2]; exact h.wk⟩
/-- a line of the model -/
theorem s_mln {K : Fg} {H : Hp} {D : MA} {P : Pl} {z : Str} {R : V → Prop} (pl : PlM K H D P) (hz : z ∈ P.names) (q : ∀ c st ss, SqT K H c [.str z, .str (P.ln z).kd, .int (P.ln z).rk, .ref st] → SqT K H st ss → DpAll K H ss ((P.ln z).st.map dSt) → R (.ref c)) :
    ∃ b u, V.ref D.ln = .ref b ∧ DGet H b (.str z) (some u) ∧ R u := by
  obtain ⟨vs, h1, h2⟩ := pl.ln
  obtain ⟨kvs, h3, _, h5⟩ := (dictOf_zip (nm := fun l : Ln => l.nm) (d := dLn) h1 pl.ok.lnd h2).at_
  obtain ⟨hl, en⟩ := pl.ok.ln_mem hz
  obtain ⟨v, h6, h7⟩ := h5 _ hl
  rw [en] at h6
  refine s_dgS h3 h6 ?_
  obtain ⟨c, zs, rfl, hT, hA⟩ := h7.tupI
  cases hA with | cons h1 hA => ?_
  cases hA with | cons h2 hA => ?_
  cases hA with | cons h3 hA => ?_
  cases hA with | cons h4 hA => ?_
  cases hA
  cases h1
  cases h2
  cases h3
  obtain ⟨st, ss, rfl, hTs, hAs⟩ := h4.tupI
  rw [en] at hT
  exact q c st ss hT hTs hAs
theorem s_mwk {K : Fg} {H : Hp} {D : MA} {P : Pl} {z : Str} {R : V → Prop} (pl : PlM K H D P) (hz : z ∈ P.wnames) (q : ∀ c, SqT K H c [.str z, .int (P.wk z).rk, .int (P.wk z).tk] → R (.ref c)) :
    ∃ b u, V.ref D.wk = .ref b ∧ DGet H b (.str z) (some u) ∧ R u := by
  obtain ⟨vs, h1, h2⟩ := pl.wk
  obtain ⟨kvs, h3, _, h5⟩ := (dictOf_zip (nm := fun l : Wk => l.nm) (d := dWk) h1 pl.ok.wnd h2).at_
  obtain ⟨hl, en⟩ := pl.ok.wk_mem hz
  obtain ⟨v, h6, h7⟩ := h5 _ hl
  rw [en] at h6
  refine s_dgS h3 h6 ?_
  obtain ⟨c, zs, rfl, hT, hA⟩ := h7.tupI
  cases hA with | cons h1 hA => ?_
  cases hA with | cons h2 hA => ?_
  cases hA with | cons h3 hA => ?_
  cases hA
  cases h1
  cases h2
  cases h3
  rw [en] at hT
  exact q c hT
end Z
set_option maxHeartbeats 1000000
namespace Z
open PySem PySem.Spec PyProof.Rows L2
section
variable {σ : L2.St} {H : Hp} {a : Addr} {kvs : List (Key × V)} {ea ec ed : L2.St → Hp → Prop} {eb : VK}
theorem s_dputg {td ty tv : TE} (q : tv σ H fun v H1 => td σ H1 fun x H2 => ty σ H2 fun y H3 => ∃ a H4, x = .ref a ∧ DPut H3 a y v H4 ∧ ea σ H4) : sDPut td ty tv (.mk ea eb ec ed) σ H := q
theorem s_dputK {z : Str} {v : V} {R : Hp → Prop} (h : H a = some (.dK kvs)) (hl : kvs.length < sizeLine) (q : R (upd H a (.dK (putK kvs (.inr z) v)))) : ∃ b H4, V.ref a = .ref b ∧ DPut H b (.str z) v H4 ∧ R H4 := ⟨a, _, rfl, .inl ⟨kvs, .inr z, h, rfl, hl, rfl⟩, q⟩
theorem s_rep {Q : VK} {xs : List V} {k : Int} (h : H a = some (.lst xs)) (h0 : 0 ≤ k) (h1 : k ≤ 1000) (hl : xs.length ≤ 1000) (q : ∀ p, H p = none → Q (.ref p) (upd H p (.lst (List.replicate k.toNat xs).flatten))) : rRep (.ref a) (.int k) H Q := by
  have h2 : xs.length * k.toNat ≤ 1000 * 1000 := Nat.mul_le_mul hl (by omega)
  exact ⟨a, k, xs, rfl, rfl, h, by omega, by omega, by rw [sizeLine_eq]; omega, q⟩
end
/-- the model and its plan -/
structure MSt (K : Fg) (H : Hp) (D : MA) (P : Pl) (M : Md) : Prop where
  md : MdAt K H D M
  pl : PlM K H D P
  n1 : D.ln ∉ D.own
  n2 : D.wk ∉ D.own
theorem MSt.same {K : Fg} {H H' : Hp} {D : MA} {P : Pl} {M : Md} (h : MSt K H D P M) (s : Same H H') : MSt K H' D P M := ⟨h.md.same s, h.pl.same s, h.n1, h.n2⟩
theorem mst_same {K : Fg} {H H' : Hp} {D : MA} {P : Pl} {M : Md} (s : Same H H') (h : MSt K H D P M) : MSt K H' D P M := h.same s
theorem PlM.ex {K : Fg} {H : Hp} {D : MA} {P : Pl} (h : PlM K H D P) : H D.ln ≠ none ∧ H D.wk ≠ none := by
  obtain ⟨vs, h1, h2⟩ := h.ln
  obtain ⟨ws, h3, h4⟩ := h.wk
  simp [h1, h3]
/-- the model changed -/
theorem MSt.ch {K : Fg} {H H' : Hp} {D D' : MA} {P : Pl} {M M' : Md} (h : MSt K H D P M) (c : ChM H D H' D') (m : MdAt K H' D' M') : MSt K H' D' P M' := by
  refine ⟨m, (h.pl.keep c.fr h.n1 h.n2).of c.ln c.wk, fun z => ?_, fun z => ?_⟩
  · rw [c.ln] at z
    rcases c.own _ z with z | z
    · exact h.n1 z
    · exact h.pl.ex.1 z
  · rw [c.wk] at z
    rcases c.own _ z with z | z
    · exact h.n2 z
    · exact h.pl.ex.2 z
end Z
set_option maxHeartbeats 1000000
namespace Z
open PySem PySem.Spec PyProof.Rows L2
def DoesIs (P : Pl) (s : Str × Key) : Prop := (s.1 = "bar" ∧ ∃ i, s.2 = .inl i) ∨ (s.1 = "later" ∧ ∃ z, s.2 = .inr z ∧ z ∈ P.wnames) ∨ (s.1 = "await" ∧ ∃ i, s.2 = .inl i) ∨ CarryIs P s
theorem StepIs.doesIs {P : Pl} {s : Str × Key} (h : StepIs P s) (hr : s.1 ≠ "run") : DoesIs P s := by
  cases h with
  | run i _ _ => exact absurd rfl hr
  | bar i _ _ => exact .inl ⟨rfl, i, rfl⟩
  | later z hz => exact .inr (.inl ⟨rfl, z, rfl, hz⟩)
  | flag w i hm h0 h7 =>
    simp only [List.mem_cons, List.not_mem_nil, or_false] at hm
    rcases hm with rfl | rfl | rfl
    · exact .inr (.inr (.inr (.inr ⟨by simp, i, rfl, h0, h7⟩)))
    · exact .inr (.inr (.inr (.inr ⟨by simp, i, rfl, h0, h7⟩)))
    · exact .inr (.inr (.inl ⟨rfl, i, rfl⟩))
  | line w z hm hz _ => exact .inr (.inr (.inr (.inl ⟨hm, z, rfl, hz⟩)))
theorem jobsT_shaped {P : Pl} (ok : P.Ok) {l : List (Str × Nat)} (h : ∀ j ∈ l, j.1 ∈ P.wnames) : SeqAt.shaped (.list (l.map dJob)) = true := by
  have h1 : PyData.canLayAll0 (l.map dJob) = true := by
    induction l with
    | nil => rfl
    | cons j l ih =>
      obtain ⟨hw, en⟩ := ok.wk_mem (h j (by simp))
      have e := (ok.shw _ hw).2
      rw [en] at e
      show ((PyData.str j.1).canLay0 && (true && true) && PyData.canLayAll0 _) = true
      rw [e, ih fun j hj => h j (List.mem_cons_of_mem _ hj)]
      rfl
  have h2 : PyData.depthAll (l.map dJob) ≤ 1 := by
    clear h h1
    induction l with
    | nil => exact Nat.zero_le _
    | cons j l ih =>
      show max _ _ ≤ 1
      exact Nat.max_le.mpr ⟨Nat.le_refl _, ih⟩
  unfold SeqAt.shaped
  refine Bool.and_eq_true_iff.mpr ⟨h1, decide_eq_true ?_⟩
  show PyData.depthAll _ + 1 ≤ 64
  omega
theorem jobT_shaped {P : Pl} (ok : P.Ok) {z : Str} (hz : z ∈ P.wnames) : SeqAt.shaped (.tuple [.str z, .int 0]) = true := by
  obtain ⟨hw, en⟩ := ok.wk_mem hz
  have e := (ok.shw _ hw).2
  rw [en] at e
  unfold SeqAt.shaped
  refine Bool.and_eq_true_iff.mpr ⟨?_, of_decide_eq_true rfl⟩
  show ((PyData.str z).canLay0 && (true && true)) = true
  rw [e]
  rfl
theorem jobsT_in {l : List (Str × Nat)} {z : Str} : ((l.map dJob).any fun d => PyData.eqv d (.tuple [.str z, .int 0])) = decide ((z, 0) ∈ l) := by
  induction l with
  | nil => rfl
  | cons j l ih =>
    rw [List.map_cons, List.any_cons, ih]
    have : PyData.eqv (dJob j) (.tuple [.str z, .int 0]) = decide (j = (z, 0)) := by
      have e : PyData.eqv (dJob j) (.tuple [.str z, .int 0]) = ((j.1 == z) && (((j.2 : Int) == 0) && true)) := by simp only [dJob, PyData.eqv, PyData.eqvAll]
      rw [e]
      obtain ⟨a, n⟩ := j
      by_cases h : ((a, n) : Str × Nat) = (z, 0)
      · cases h
        simp
      · rw [decide_eq_false h]
        by_cases h1 : a = z
        · have h2 : n ≠ 0 := fun h2 => h (by rw [h1, h2])
          have h3 : ((n : Int) == 0) = false := beq_eq_false_iff_ne.mpr (by omega)
          simp [h3]
        · have h3 : (a == z) = false := beq_eq_false_iff_ne.mpr h1
          simp [h3]
    rw [this]
    by_cases e : j = (z, 0)
    · simp [e]
    · have e2 : ¬ (z, 0) = j := fun h => e h.symm
      simp [e, e2]
/-- how much the model holds -/
structure MBd (P : Pl) (M : Md) : Prop where
  sh : M.shut.length ≤ 1000
  ed : M.edge.length ≤ 1000
  hi : M.high.length ≤ 1000
  up : M.up.length ≤ 1000
  ca : M.calls.length ≤ 1000
  jo : M.jobs.length ≤ 1000
  jw : ∀ j ∈ M.jobs, j.1 ∈ P.wnames
  sz : M.joined.length + M.log.length ≤ 1000000
theorem dp_strs_of {K : Fg} {H : Hp} : ∀ (l : List Str), DpAll K H (l.map V.str) (l.map PyData.str)
  | [] => .nil
  | _ :: l => .cons (.str _) (dp_strs_of l)
theorem dp_ints_of {K : Fg} {H : Hp} : ∀ (l : List Int), DpAll K H (l.map V.int) (l.map PyData.int)
  | [] => .nil
  | _ :: l => .cons (.int _) (dp_ints_of l)
section
variable {P : Pl} {M : Md} {z : Str} {i : Int}
theorem does_bar : M.does P ("bar", .inl i) = ({ M with bar := i }, true) := by kernel_rfl
theorem does_later : M.does P ("later", .inr z) = ({ M with jobs := leave M.jobs z }, true) := by kernel_rfl
theorem does_await : M.does P ("await", .inl i) = (M, true) := by kernel_rfl
theorem does_ring : M.does P ("ring", .inr z) = M.ring P z := by kernel_rfl
theorem does_quiet : M.does P ("quiet", .inr z) = ({ M with high := putM M.high z false }, decide (z ∈ M.high)) := by kernel_rfl
theorem does_mask : M.does P ("mask", .inr z) = ({ M with shut := putM M.shut z true }, !decide (z ∈ M.shut)) := by kernel_rfl
theorem does_unmask : M.does P ("unmask", .inr z) = ({ M with shut := putM M.shut z false }, decide (z ∈ M.shut)) := by kernel_rfl
theorem does_set : M.does P ("set", .inl i) = ({ M with up := putM M.up i true }, !decide (i ∈ M.up)) := by kernel_rfl
theorem does_clear : M.does P ("clear", .inl i) = ({ M with up := putM M.up i false }, decide (i ∈ M.up)) := by kernel_rfl
theorem leave_no (h : ¬ (z, 0) ∈ M.jobs) : leave M.jobs z = M.jobs ++ [(z, 0)] := if_neg h
theorem leave_yes (h : (z, 0) ∈ M.jobs) : leave M.jobs z = M.jobs := if_pos h
theorem mdKV_len {D : MA} {b n : Int} : (mdKV D b n).length < sizeLine := by
  rw [sizeLine_eq]
  show 13 < 16777216
  decide
theorem bl_ne {a b : Bool} : (!decide (V.bl a = V.bl b)) = (a != b) := by cases a <;> cases b <;> rfl
theorem rep_own {H : Hp} {l r : List Addr} {a p : Addr} {own : List Addr} (e : own = l ++ a :: r) (hp : H p = none) : ∀ b ∈ l ++ p :: r, b ∈ own ∨ H b = none := fun b hb => by
  rw [e]
  rcases List.mem_append.mp hb with h | h
  · exact .inl (List.mem_append_left _ h)
  · rcases List.mem_cons.mp h with rfl | h
    · exact .inr hp
    · exact .inl (List.mem_append_right _ (List.mem_cons_of_mem _ h))
end
section
variable {P : Pl} {M : Md} {z : Str}
theorem ring_ed_in (k : (P.ln z).kd = "edge") (h : z ∈ M.edge) : M.does P ("ring", .inr z) = ({ M with joined := M.joined ++ [z], edge := putM M.edge z true }, false) := by
  rw [does_ring]
  unfold Md.ring
  rw [if_neg (show ¬ (P.ln z).kd = "level" by rw [k]; decide), if_pos h, decide_eq_true h]
  rfl
theorem ring_ed_no (k : (P.ln z).kd = "edge") (h : ¬ z ∈ M.edge) : M.does P ("ring", .inr z) = ({ M with edge := putM M.edge z true }, true) := by
  rw [does_ring]
  unfold Md.ring
  rw [if_neg (show ¬ (P.ln z).kd = "level" by rw [k]; decide), if_neg h, decide_eq_false h, List.append_nil]
  rfl
theorem ring_hi_in (k : (P.ln z).kd = "level") (h : z ∈ M.high) : M.does P ("ring", .inr z) = ({ M with joined := M.joined ++ [z], high := putM M.high z true }, false) := by
  rw [does_ring]
  unfold Md.ring
  rw [if_pos k, if_pos h, decide_eq_true h]
  rfl
theorem ring_hi_no (k : (P.ln z).kd = "level") (h : ¬ z ∈ M.high) : M.does P ("ring", .inr z) = ({ M with high := putM M.high z true }, true) := by
  rw [does_ring]
  unfold Md.ring
  rw [if_pos k, if_neg h, decide_eq_false h, List.append_nil]
  rfl
end
end Z
set_option maxHeartbeats 1000000
namespace Z
open PySem PySem.Spec PyProof.Rows L2
/-- how much the model grows -/
structure Gr (P : Pl) (M M' : Md) (n : Nat) : Prop where
  sh : M'.shut.length ≤ M.shut.length + n
  ed : M'.edge.length ≤ M.edge.length + n
  hi : M'.high.length ≤ M.high.length + n
  up : M'.up.length ≤ M.up.length + n
  ca : M'.calls.length ≤ M.calls.length + n
  jo : M'.jobs.length ≤ M.jobs.length + n
  jw : (∀ j ∈ M.jobs, j.1 ∈ P.wnames) → ∀ j ∈ M'.jobs, j.1 ∈ P.wnames
  sz : M'.joined.length + M'.log.length ≤ M.joined.length + M.log.length + n
theorem Gr.refl {P : Pl} {M : Md} : Gr P M M 0 := ⟨Nat.le_refl _, Nat.le_refl _, Nat.le_refl _, Nat.le_refl _, Nat.le_refl _, Nat.le_refl _, id, Nat.le_refl _⟩
theorem Gr.trans {P : Pl} {M M1 M2 : Md} {n k : Nat} (x : Gr P M M1 n) (y : Gr P M1 M2 k) : Gr P M M2 (n + k) := by
  obtain ⟨a1, a2, a3, a4, a5, a6, a7, a8⟩ := x
  obtain ⟨b1, b2, b3, b4, b5, b6, b7, b8⟩ := y
  exact ⟨by omega, by omega, by omega, by omega, by omega, by omega, fun h => b7 (a7 h), by omega⟩
theorem Gr.mono {P : Pl} {M M1 : Md} {n k : Nat} (x : Gr P M M1 n) (h : n ≤ k) : Gr P M M1 k := by
  obtain ⟨a1, a2, a3, a4, a5, a6, a7, a8⟩ := x
  exact ⟨by omega, by omega, by omega, by omega, by omega, by omega, a7, by omega⟩
/-- room for so much -/
structure Rm (P : Pl) (M : Md) (n : Nat) : Prop where
  sh : M.shut.length + n ≤ 1000
  ed : M.edge.length + n ≤ 1000
  hi : M.high.length + n ≤ 1000
  up : M.up.length + n ≤ 1000
  ca : M.calls.length + n ≤ 1000
  jo : M.jobs.length + n ≤ 1000
  jw : ∀ j ∈ M.jobs, j.1 ∈ P.wnames
  sz : M.joined.length + M.log.length + n ≤ 1000000
theorem Rm.gr {P : Pl} {M M' : Md} {n k m : Nat} (x : Rm P M n) (y : Gr P M M' k) (h : k + m ≤ n) : Rm P M' m := by
  obtain ⟨a1, a2, a3, a4, a5, a6, a7, a8⟩ := x
  obtain ⟨b1, b2, b3, b4, b5, b6, b7, b8⟩ := y
  exact ⟨by omega, by omega, by omega, by omega, by omega, by omega, b7 a7, by omega⟩
theorem Rm.bd {P : Pl} {M : Md} {n : Nat} (x : Rm P M n) : MBd P M := by
  obtain ⟨a1, a2, a3, a4, a5, a6, a7, a8⟩ := x
  exact ⟨by omega, by omega, by omega, by omega, by omega, by omega, a7, by omega⟩
theorem putM_len {α : Type} [DecidableEq α] (l : List α) (x : α) (b : Bool) : (putM l x b).length ≤ l.length + 1 := by
  unfold putM
  have := List.length_filter_le (fun y => !decide (y = x)) l
  rw [List.length_append]
  cases b <;> simp <;> omega
theorem gr_does {P : Pl} {M : Md} {s : Str × Key} (hs : DoesIs P s) : Gr P M (M.does P s).1 1 := by
  have r0 : ∀ {n : Nat}, n ≤ n + 1 := fun {n} => Nat.le_succ n
  rcases hs with ⟨e, i, ek⟩ | ⟨e, z, ek, hz⟩ | ⟨e, i, ek⟩ | ⟨hw, z, ek, hz⟩ | ⟨hw, i, ek, h0, h7⟩
  · obtain ⟨w, k⟩ := s
    simp only at e ek
    subst e
    subst ek
    rw [does_bar]
    exact ⟨r0, r0, r0, r0, r0, r0, id, r0⟩
  · obtain ⟨w, k⟩ := s
    simp only at e ek
    subst e
    subst ek
    rw [does_later]
    refine ⟨r0, r0, r0, r0, r0, ?_, ?_, r0⟩
    · show (leave M.jobs z).length ≤ _
      unfold leave
      split
      · exact r0
      · simp
    · intro h j hj
      have hj : j ∈ leave M.jobs z := hj
      unfold leave at hj
      split at hj
      · exact h j hj
      · rcases List.mem_append.mp hj with hj | hj
        · exact h j hj
        · rw [List.mem_singleton.mp hj]
          exact hz
  · obtain ⟨w, k⟩ := s
    simp only at e ek
    subst e
    subst ek
    rw [does_await]
    exact ⟨r0, r0, r0, r0, r0, r0, id, r0⟩
  · obtain ⟨w, k⟩ := s
    simp only at hw ek
    subst ek
    have e := hw
    simp only [List.mem_cons, List.not_mem_nil, or_false] at e
    have hj : ∀ l : List Str, (M.joined ++ (if z ∈ l then [z] else [])).length + M.log.length ≤ M.joined.length + M.log.length + 1 := fun l => by
      rw [List.length_append]
      split <;> simp <;> omega
    rcases e with rfl | rfl | rfl | rfl
    all_goals first
      | (rw [does_ring]
         unfold Md.ring
         split
         · exact ⟨r0, r0, putM_len _ _ _, r0, r0, r0, id, hj _⟩
         · exact ⟨r0, putM_len _ _ _, r0, r0, r0, r0, id, hj _⟩)
      | (rw [does_mask]; exact ⟨putM_len _ _ _, r0, r0, r0, r0, r0, id, r0⟩)
      | (rw [does_unmask]; exact ⟨putM_len _ _ _, r0, r0, r0, r0, r0, id, r0⟩)
      | (rw [does_quiet]; exact ⟨r0, r0, putM_len _ _ _, r0, r0, r0, id, r0⟩)
  · obtain ⟨w, k⟩ := s
    simp only at hw ek
    subst ek
    have e := hw
    simp only [List.mem_cons, List.not_mem_nil, or_false] at e
    rcases e with rfl | rfl
    all_goals first
      | (rw [does_set]; exact ⟨r0, r0, r0, putM_len _ _ _, r0, r0, id, r0⟩)
      | (rw [does_clear]; exact ⟨r0, r0, r0, putM_len _ _ _, r0, r0, id, r0⟩)
theorem does_calls {P : Pl} {M : Md} {s : Str × Key} : (M.does P s).1.calls = M.calls ∧ (M.does P s).1.now = M.now ∧ (M.does P s).1.log = M.log := by
  unfold Md.does Md.ring
  repeat' split
  all_goals exact ⟨rfl, rfl, rfl⟩
end Z
set_option maxHeartbeats 1000000
namespace Z
open PySem PySem.Spec PyProof.Rows L2
theorem DpAll.snoc {K : Fg} {H : Hp} {d : PyData} : ∀ {ds : List PyData} {xs : List V}, DpAll K H xs (ds ++ [d]) → ∃ as x, xs = as ++ [x] ∧ DpAll K H as ds ∧ Dp K H x d
  | [], _, .cons h .nil => ⟨[], _, rfl, .nil, h⟩
  | e :: ds, _, .cons h t => by
    obtain ⟨as, x, rfl, h1, h2⟩ := DpAll.snoc t
    exact ⟨_ :: as, x, rfl, .cons h h1, h2⟩
theorem last_frm {K : Fg} {H : Hp} {fs : List Frm} {f : Frm} {xs : List V} (h : DpAll K H xs ((fs ++ [f]).map dFrm)) : ∃ as c, xs = as ++ [.ref c] ∧ DpAll K H as (fs.map dFrm) ∧ SqT K H c [.str f.ln, .int f.st, .int f.tk, .int f.kp] := by
  rw [List.map_append] at h
  obtain ⟨as, x, rfl, h1, h2⟩ := DpAll.snoc h
  obtain ⟨c, zs, rfl, hT, hA⟩ := h2.tupI
  cases hA with | cons k1 hA => ?_
  cases hA with | cons k2 hA => ?_
  cases hA with | cons k3 hA => ?_
  cases hA with | cons k4 hA => ?_
  cases hA
  cases k1
  cases k2
  cases k3
  cases k4
  exact ⟨as, c, rfl, h1, hT⟩
theorem cut_init (as : List V) (x : V) : cutV (as ++ [x]) none (some (-1)) = as := by
  unfold cutV
  have e : HT.sIx (as ++ [x]).length (as ++ [x]).length (some (-1)) = as.length := by
    rw [List.length_append]
    show (if ((-1 : Int) < 0) then ((-1 : Int) + ((as.length + 1 : Nat) : Int)).toNat else min (-1 : Int).toNat (as.length + 1)) = as.length
    rw [if_pos (by decide)]
    omega
  rw [HT.sIx_none, e, Nat.sub_zero, List.drop_zero]
  exact List.take_left' rfl
theorem drop_at {α : Type} {l : List α} {i : Nat} (h : i < l.length) : l.drop i = l[i] :: l.drop (i + 1) := List.drop_eq_getElem_cons h
end Z
set_option maxHeartbeats 1000000
namespace Z
open PySem PySem.Spec PyProof.Rows L2
section
variable {K : Fg} {σ : L2.St} {H H1 : Hp} {Q : VK} {g : TG} {tt : TT} {te tk tv tl : TE} {vs : List Nat} {x : V} {a : Addr} {xs : List V} {α : Type} {l : List α} {da : α → PyData}
/-! ### over the values and the keys of a locked dict -/
def LcV (g : TG) (tt : TT) (te : TE) (vs : List Nat) (σ : L2.St) (Q : VK) (x : V) (H1 : Hp) : Prop := ∃ d o kvs, x = .ref d ∧ H1 d = some (.frz o (.dK kvs)) ∧ LcQ (Itd d o kvs) g tt te vs σ Q H1
theorem s_lcV (q : tl σ H fun x H1 => LcV g tt te vs σ Q x H1) : tLc (iVals tl) g tt te vs σ H Q := q
theorem lcV_d {o : Obj} {ks : List Key} (hT : H1 a = some (.frz o (.dK (ks.zip xs)))) (hk : ks.length = xs.length) (hA : DpAll K H1 xs (l.map da)) (p : α → Bool) (f : α → PyData) (hn : l.length ≤ 40000) (hf : ∀ x ∈ l, tupd (f x) = true)
    (hs : ∀ (x : α) (v : V) (H : Hp) (Yes : VK) (No : Hp → Prop), x ∈ l → Same H1 H → Dp K H v (da x) → (p x = true → ∀ y H4, Same H H4 → Dp K H4 y (f x) → Yes y H4) → (p x = false → ∀ H3, Same H H3 → No H3) →
      g v (wipe σ vs) H fun σ2 H2 => wipe σ2 vs = wipe σ vs ∧ tt σ2 H2 fun b H3 => if b = true then te σ2 H3 Yes else No H3)
    (hd : ∀ D H' ys, H1 D = none → Same H1 H' → H' D = some (.lst ys) → DpAll K H' ys ((l.filter p).map f) → Q (.ref D) H') : LcV g tt te vs σ Q (.ref a) H1 := by
  have hlen : xs.length = l.length := by rw [hA.len, List.length_map]
  have hz : (ks.zip xs).length = l.length := by rw [List.length_zip]; omega
  refine ⟨a, o, _, rfl, hT, fun D hD => ?_⟩
  refine lc_dat (K := K) walk_values (pAt l p) (dAt l f) hD (by rw [hz]; exact hn) (dAt_tupd hf) (fun H s => s _ _ hT) (fun i H x H' y => by rw [y.1]; exact Same.refl H) (fun i x H H' Yes No hi s1 y yes no => ?_) (fun H' ys s1 e1 a1 => ?_)
  · obtain ⟨rfl, k, hx⟩ := y
    have hx := (List.getElem?_zip_eq_some.mp hx).2
    obtain ⟨d, hd', dd⟩ := hA.getv hx
    rw [List.getElem?_map] at hd'
    obtain ⟨z, hz, rfl⟩ := Option.map_eq_some_iff.mp hd'
    rw [pAt_eq hz, dAt_eq hz] at yes
    rw [pAt_eq hz] at no
    exact hs z x H' Yes No (List.mem_of_getElem? hz) s1 (dd.same s1) yes no
  · rw [hz, keptD_list] at a1
    exact hd D H' ys hD s1 e1 a1
end
section
variable {H H' : Hp} {d : Addr} {u : HO} {od : Obj}
theorem Same.unlock (h : H d = some u) (s : Same (upd H d (.frz od u)) H') : Same H (upd H' d u) := fun a o e => by
  by_cases z : a = d
  · subst z
    rw [h] at e
    rw [upd_same]
    exact e
  · rw [upd_ne z]
    exact s _ _ (by rw [upd_ne z]; exact e)
end
theorem s_lock {t : TS} {D : Ends} {σ : L2.St} {H : Hp} {d : Addr} {u : HO} (h : H d = some u) (m : Mut (some u)) (q : ∀ od, t ⟨fun σ' H' => H' d = some (.frz od u) ∧ D.nx σ' (upd H' d u), fun v H' => H' d = some (.frz od u) ∧ D.rt v (upd H' d u), fun σ' H' => H' d = some (.frz od u) ∧ D.bk σ' (upd H' d u), fun σ' H' => H' d = some (.frz od u) ∧ D.ct σ' (upd H' d u)⟩ σ (upd H d (.frz od u))) : tLock t D σ H := ⟨d, u, h, m, q⟩
/-- readable tuples stay -/
def Ts (K : Fg) (H H' : Hp) : Prop := ∀ a xs, SqT K H a xs → SqT K H' a xs
theorem Tk.ts {K : Fg} {H H' : Hp} (e : Tk H H') : Ts K H H' := fun _ _ h => e.sqT h
theorem Ts.trans {K : Fg} {H H1 H2 : Hp} (a : Ts K H H1) (b : Ts K H1 H2) : Ts K H H2 := fun _ _ h => b _ _ (a _ _ h)
mutual
theorem Dp.ts {K : Fg} {H H' : Hp} (e : Ts K H H') : ∀ {v : V} {d : PyData}, tupd d = true → Dp K H v d → Dp K H' v d
  | _, _, _, .non => .non
  | _, _, _, .bl b => .bl b
  | _, _, _, .int i => .int i
  | _, _, _, .str x => .str x
  | _, _, h, .lst s a => by unfold tupd at h; cases h
  | _, _, h, .tup s a => .tup (e _ _ s) (DpAll.ts e (by unfold tupd at h; exact h) a)
theorem DpAll.ts {K : Fg} {H H' : Hp} (e : Ts K H H') : ∀ {v : List V} {d : List PyData}, tupds d = true → DpAll K H v d → DpAll K H' v d
  | _, _, _, .nil => .nil
  | _, _, h, .cons a b => by
    unfold tupds at h
    obtain ⟨h1, h2⟩ := Bool.and_eq_true_iff.mp h
    exact .cons (Dp.ts e h1 a) (DpAll.ts e h2 b)
end
section
variable {K : Fg} {H H' : Hp} {d : Addr} {od : Obj} {kvs : List (Key × V)}
theorem ts_unlock (h : H d = some (.frz od (.dK kvs))) : Ts K H (upd H d (.dK kvs)) := fun a xs e => by
  rcases e with (e | ⟨o, e⟩) | e
  · have z : a ≠ d := fun z => by
      rw [z, h] at e
      cases e
    exact .inl (.inl (by rw [upd_ne z]; exact e))
  · have z : a ≠ d := fun z => by
      rw [z, h] at e
      cases e
    exact .inl (.inr ⟨o, by rw [upd_ne z]; exact e⟩)
  · exact .inr e
theorem ts_lock (h : H d = some (.dK kvs)) : Ts K H (upd H d (.frz od (.dK kvs))) := fun a xs e => by
  rcases e with (e | ⟨o, e⟩) | e
  · have z : a ≠ d := fun z => by
      rw [z, h] at e
      cases e
    exact .inl (.inl (by rw [upd_ne z]; exact e))
  · have z : a ≠ d := fun z => by
      rw [z, h] at e
      cases e
    exact .inl (.inr ⟨o, by rw [upd_ne z]; exact e⟩)
  · exact .inr e
end
theorem max_may {P : Pl} {M : Md} {z : Str} {m : Int} (h1 : m ∈ M.bar :: M.under.map fun z => (P.ln z).rk) (h2 : ∀ y ∈ M.bar :: M.under.map fun z => (P.ln z).rk, y ≤ m) : decide (m < (P.ln z).rk) = M.may P z := by
  unfold Md.may
  by_cases h : m < (P.ln z).rk
  · rw [decide_eq_true h, eq_comm, Bool.and_eq_true_iff, decide_eq_true_iff, List.all_eq_true]
    refine ⟨Int.lt_of_le_of_lt (h2 _ (by simp)) h, fun f hf => decide_eq_true (Int.lt_of_le_of_lt (h2 _ (List.mem_cons_of_mem _ (List.mem_map.mpr ⟨f.ln, List.mem_map.mpr ⟨f, hf, rfl⟩, rfl⟩))) h)⟩
  · rw [decide_eq_false h, eq_comm, Bool.and_eq_false_iff]
    rcases List.mem_cons.mp h1 with e | e
    · exact .inl (decide_eq_false (by rw [← e]; exact h))
    · obtain ⟨y, hy, ey⟩ := List.mem_map.mp e
      obtain ⟨f, hf, rfl⟩ := List.mem_map.mp hy
      refine .inr (Bool.eq_false_iff.mpr fun k => h ?_)
      have := of_decide_eq_true (List.all_eq_true.mp k f hf)
      rw [← ey]
      exact this
theorem ln_self {P : Pl} (ok : P.Ok) {l : Ln} (h : l ∈ P.ls) : P.ln l.nm = l := ok.inj (ok.ln_mem (List.mem_map.mpr ⟨l, h, rfl⟩)).1 h (ok.ln_mem (List.mem_map.mpr ⟨l, h, rfl⟩)).2
theorem cand_mem {P : Pl} {M : Md} {l : Ln} (h : l ∈ M.cand P) : l ∈ P.ls := (List.mem_filter.mp (List.mem_mergeSort.mp h)).1
theorem taking_no {P : Pl} {M : Md} (h : M.cand P = []) : M.taking P = M := by
  unfold Md.taking
  rw [h]
theorem taking_not {P : Pl} {M : Md} {l : Ln} {r : List Ln} (h : M.cand P = l :: r) (h2 : M.may P l.nm = false) : M.taking P = M := by
  unfold Md.taking
  rw [h]
  exact if_neg (by rw [h2]; simp)
theorem taking_yes {P : Pl} {M : Md} {l : Ln} {r : List Ln} (h : M.cand P = l :: r) (h2 : M.may P l.nm = true) : M.taking P = M.begins P l.nm := by
  unfold Md.taking
  rw [h]
  exact if_pos h2
end Z
set_option maxHeartbeats 1000000
namespace Z
open PySem PySem.Spec PyProof.Rows L2
/-- the first of the queue is the first of the greatest rank -/
theorem places_first {P : Pl} {jobs : List (Str × Nat)} (hn : jobs ≠ []) : ∃ k r j, places P jobs = k :: r ∧ jobs[k]? = some j ∧ ∀ i x, jobs[i]? = some x → (P.wk x.1).rk ≤ (P.wk j.1).rk ∧ ((P.wk x.1).rk = (P.wk j.1).rk → k ≤ i) := by
  have hl := places_len P jobs
  cases h : places P jobs with
  | nil =>
    rw [h] at hl
    exact absurd (List.length_eq_zero_iff.mp hl.symm) hn
  | cons k r =>
    clear hl
    have hs := places_sorted P jobs
    have hm : ∀ x, x ∈ jobs.zipIdx ↔ x ∈ jobs.zipIdx.mergeSort (PySem.W.dataLe false (jobD P)) := fun x => (List.mergeSort_perm jobs.zipIdx (PySem.W.dataLe false (jobD P))).mem_iff.symm
    unfold places at h
    generalize jobs.zipIdx.mergeSort (PySem.W.dataLe false (jobD P)) = l at h hs hm
    cases l with
    | nil => cases h
    | cons y l =>
      rw [List.map_cons] at h
      have hy : y.2 = k := (List.cons.inj h).1
      have h1 := List.mem_zipIdx_iff_getElem?.mp ((hm y).mpr (by simp))
      rw [hy] at h1
      refine ⟨k, r, y.1, rfl, h1, fun i x hi => ?_⟩
      have h2 := (hm (x, i)).mp (List.mem_zipIdx_iff_getElem?.mpr hi)
      rcases List.mem_cons.mp h2 with h2 | h2
      · rw [← h2] at hy ⊢
        exact ⟨Int.le_refl _, fun _ => Nat.le_of_eq hy.symm⟩
      · have h3 := (List.pairwise_cons.mp hs).1 _ h2
        rw [jobLe] at h3
        simp only [decide_eq_true_eq] at h3
        exact ⟨by omega, fun e => by omega⟩
theorem max_rank {P : Pl} {jobs : List (Str × Nat)} {k : Nat} {j : Str × Nat} {m : Int} (hj : jobs[k]? = some j) (hf : ∀ i x, jobs[i]? = some x → (P.wk x.1).rk ≤ (P.wk j.1).rk ∧ ((P.wk x.1).rk = (P.wk j.1).rk → k ≤ i)) (h1 : m ∈ jobs.map fun x => (P.wk x.1).rk) (h2 : ∀ y ∈ jobs.map fun x => (P.wk x.1).rk, y ≤ m) : m = (P.wk j.1).rk := by
  have a := h2 _ (List.mem_map.mpr ⟨j, List.mem_of_getElem? hj, rfl⟩)
  obtain ⟨x, hx, rfl⟩ := List.mem_map.mp h1
  obtain ⟨i, hi, e⟩ := List.getElem_of_mem hx
  have := (hf i x (by rw [List.getElem?_eq_getElem hi, e])).1
  exact Int.le_antisymm this a
theorem doWork_go {P : Pl} {jobs : List (Str × Nat)} {k : Nat} {r : List Nat} {j : Str × Nat} (e : places P jobs = k :: r) (hj : jobs[k]? = some j) (h : (j.2 : Int) + 1 < (P.wk j.1).tk) : doWork P jobs = (jobs.set k (j.1, j.2 + 1), []) := by
  unfold doWork
  rw [e]
  dsimp only
  rw [hj]
  exact if_pos h
theorem doWork_end {P : Pl} {jobs : List (Str × Nat)} {k : Nat} {r : List Nat} {j : Str × Nat} (e : places P jobs = k :: r) (hj : jobs[k]? = some j) (h : ¬ (j.2 : Int) + 1 < (P.wk j.1).tk) : doWork P jobs = (jobs.eraseIdx k, [((("done" : Str), j.1) : Ev)]) := by
  unfold doWork
  rw [e]
  dsimp only
  rw [hj]
  exact if_neg h
theorem DpAll.setI {K : Fg} {H : Hp} {y : V} {e : PyData} : ∀ {v : List V} {d : List PyData} {k : Nat}, DpAll K H v d → Dp K H y e → DpAll K H (v.set k y) (d.set k e)
  | _, _, _, .nil, _ => .nil
  | _, _, 0, .cons _ t, h => .cons h t
  | _, _, k + 1, .cons a t, h => .cons a (DpAll.setI t h)
theorem DpAll.eraseI {K : Fg} {H : Hp} : ∀ {v : List V} {d : List PyData} {k : Nat}, DpAll K H v d → DpAll K H (v.eraseIdx k) (d.eraseIdx k)
  | _, _, _, .nil => .nil
  | _, _, 0, .cons _ t => t
  | _, _, k + 1, .cons a t => .cons a (DpAll.eraseI t)
theorem erase_set {α : Type} (x : α) : ∀ (l : List α) (k : Nat), (l.set k x).eraseIdx k = l.eraseIdx k
  | [], _ => rfl
  | _ :: _, 0 => rfl
  | _ :: l, k + 1 => by
    show _ :: (l.set k x).eraseIdx k = _ :: l.eraseIdx k
    rw [erase_set x l k]
end Z
set_option maxHeartbeats 1000000
namespace Z
open PySem PySem.Spec PyProof.Rows L2
/-- what holds of the model ahead of a tick -/
structure MInv (P : Pl) (M : Md) : Prop where
  nm : ∀ f ∈ M.calls, f.ln ∈ P.names
  rt : ∀ f ∈ M.calls, AtOk P f
  jb : ∀ j ∈ M.jobs, j.1 ∈ P.wnames ∧ (j.2 : Int) < (P.wk j.1).tk
theorem wk_pos {P : Pl} (ok : P.Ok) {z : Str} (hz : z ∈ P.wnames) : (1 : Int) ≤ (P.wk z).tk := by
  have h := ok.wok _ (ok.wk_mem hz).1
  simp only [isWork, dWk, Bool.and_eq_true] at h
  have h2 : decide ((1 : Int) ≤ (P.wk z).tk ∧ (P.wk z).tk ≤ 99) = true := h.2.2
  exact (of_decide_eq_true h2).1
theorem does_jobs {P : Pl} (ok : P.Ok) {M : Md} {s : Str × Key} (hs : DoesIs P s) (h : ∀ j ∈ M.jobs, j.1 ∈ P.wnames ∧ (j.2 : Int) < (P.wk j.1).tk) : ∀ j ∈ (M.does P s).1.jobs, j.1 ∈ P.wnames ∧ (j.2 : Int) < (P.wk j.1).tk := by
  have h1 := (gr_does (M := M) hs).jw fun j hj => (h j hj).1
  intro j hj
  refine ⟨h1 j hj, ?_⟩
  obtain ⟨w, k⟩ := s
  by_cases e : w = "later"
  · subst e
    have hz : j ∈ leave M.jobs (kS k) := by
      unfold Md.does at hj
      rw [if_neg (show ¬ ("later" : Str) = "bar" by decide), if_pos rfl] at hj
      exact hj
    unfold leave at hz
    split at hz
    · exact (h j hz).2
    · rcases List.mem_append.mp hz with hz | hz
      · exact (h j hz).2
      · have := wk_pos ok (h1 j hj)
        rw [List.mem_singleton.mp hz] at this ⊢
        show ((0 : Nat) : Int) < _
        omega
  · have e2 : (M.does P (w, k)).1.jobs = M.jobs := by
      unfold Md.does Md.ring
      simp only [if_neg e]
      repeat' split
      all_goals rfl
    rw [e2] at hj
    exact (h j hj).2
/-- going on: what it adds is paid by what is left -/
theorem goesL_ok {P : Pl} (ok : P.Ok) {fs : List Frm} {rest : List (Str × Key)} : ∀ {f : Frm} {M : Md}, rest = (P.ln f.ln).st.drop f.st → f.ln ∈ P.names → f.tk = 0 → (∀ g ∈ fs, g.ln ∈ P.names) → (∀ g ∈ fs, AtOk P g) → (∀ j ∈ M.jobs, j.1 ∈ P.wnames ∧ (j.2 : Int) < (P.wk j.1).tk) → M.calls.length = fs.length + 1 →
    MInv P (goesL P fs f M rest) ∧ (∃ k, Gr P M (goesL P fs f M rest) k ∧ k + left P (goesL P fs f M rest).calls ≤ left P fs + left1 P f) ∧ (∀ s r, rest = s :: r → stopsM M s = false → left P (goesL P fs f M rest).calls < left P fs + left1 P f) ∧ (goesL P fs f M rest).now = M.now := by
  induction rest with
  | nil =>
    intro f M hr hn ht hf1 hf2 hj hc
    refine ⟨⟨hf1, hf2, hj⟩, ⟨1, ⟨Nat.le_succ _, Nat.le_succ _, Nat.le_succ _, Nat.le_succ _, ?_, Nat.le_succ _, id, ?_⟩, ?_⟩, fun _ _ e => (by cases e), rfl⟩
    · show fs.length ≤ _
      omega
    · show M.joined.length + (M.log ++ [_]).length ≤ _
      rw [List.length_append, List.length_singleton]
      omega
    · show 1 + left P fs ≤ left P fs + left1 P f
      unfold left1
      omega
  | cons s r ih =>
    intro f M hr hn ht hf1 hf2 hj hc
    have hlt : f.st < (P.ln f.ln).st.length := by
      rcases Nat.lt_or_ge f.st (P.ln f.ln).st.length with h | h
      · exact h
      · rw [List.drop_eq_nil_of_le h] at hr
        cases hr
    rw [List.drop_eq_getElem_cons hlt] at hr
    obtain ⟨e1, e2⟩ := List.cons.inj hr
    have hg : (P.ln f.ln).st[f.st]? = some s := by rw [List.getElem?_eq_getElem hlt, e1]
    have sis := ok.step (ok.ln_mem hn).1 (List.mem_of_getElem? hg)
    unfold goesL
    by_cases hs : stopsM M s = true
    · rw [if_pos hs]
      refine ⟨⟨fun g hg' => ?_, fun g hg' => ?_, hj⟩, ⟨0, ⟨Nat.le_refl _, Nat.le_refl _, Nat.le_refl _, Nat.le_refl _, ?_, Nat.le_refl _, id, Nat.le_refl _⟩, ?_⟩, fun s' r' e h => ?_, rfl⟩
      · rcases List.mem_append.mp hg' with h | h
        · exact hf1 g h
        · rw [List.mem_singleton.mp h]
          exact hn
      · rcases List.mem_append.mp hg' with h | h
        · exact hf2 g h
        · rw [List.mem_singleton.mp h]
          refine ⟨s, hg, ?_⟩
          unfold stopsM at hs
          rcases Bool.or_eq_true_iff.mp hs with h | h
          · have h := of_decide_eq_true h
            left
            obtain ⟨n, h1, h2, _⟩ := sis.run_int h
            exact ⟨h, n, h1, by rw [ht]; show ((0 : Nat) : Int) < n; omega⟩
          · right
            exact ⟨of_decide_eq_true (Bool.and_eq_true_iff.mp h).1, ht⟩
      · show (fs ++ [f]).length ≤ _
        rw [List.length_append, List.length_singleton]
        omega
      · show 0 + left P (fs ++ [f]) ≤ _
        rw [left_snoc]
        omega
      · cases e
        rw [h] at hs
        cases hs
    · rw [if_neg hs]
      have hs' : stopsM M s = false := by simpa using hs
      have hnr : s.1 ≠ "run" := fun e => by
        unfold stopsM at hs'
        rw [decide_eq_true e, Bool.true_or] at hs'
        cases hs'
      have dis := sis.doesIs hnr
      have g1 := gr_does (M := M) dis
      have hl : left1 P { f with st := f.st + 1, tk := 0 } + 1 = left1 P f := by
        show ((P.ln f.ln).st.length - (f.st + 1) + 1) + 1 = (P.ln f.ln).st.length - f.st + 1
        omega
      obtain ⟨a, ⟨k, b, c⟩, d, e⟩ := ih (f := { f with st := f.st + 1, tk := 0 }) (M := (M.does P s).1) e2 hn rfl hf1 hf2 (does_jobs ok dis hj) (by rw [does_calls.1]; exact hc)
      refine ⟨a, ⟨1 + k, g1.trans b, by omega⟩, fun _ _ _ _ => by omega, e.trans does_calls.2.1⟩
theorem goes_ok {P : Pl} (ok : P.Ok) {fs : List Frm} {f g : Frm} {M : Md} (hc : M.calls = fs ++ [f]) (nm : ∀ h ∈ fs ++ [g], h.ln ∈ P.names) (rt : ∀ h ∈ fs, AtOk P h) (ht : g.tk = 0) (hj : ∀ j ∈ M.jobs, j.1 ∈ P.wnames ∧ (j.2 : Int) < (P.wk j.1).tk) :
    MInv P (M.goes P fs g) ∧ (∃ k, Gr P M (M.goes P fs g) k ∧ k + left P (M.goes P fs g).calls ≤ left P fs + left1 P g) ∧ (∀ s r, (P.ln g.ln).st.drop g.st = s :: r → stopsM M s = false → left P (M.goes P fs g).calls < left P fs + left1 P g) ∧ (M.goes P fs g).now = M.now :=
  goesL_ok ok rfl (nm g (by simp)) ht (fun h hh => nm h (by simp [hh])) rt hj (by rw [hc, List.length_append]; rfl)
theorem atOk_step {P : Pl} {f : Frm} (h : AtOk P f) : (P.ln f.ln).st[f.st]? = some (stepOf P f) ∧ (P.ln f.ln).st.drop f.st = stepOf P f :: (P.ln f.ln).st.drop (f.st + 1) := by
  obtain ⟨s, hs, _⟩ := h
  have e : stepOf P f = s := by
    unfold stepOf
    rw [hs]
    rfl
  rw [e]
  refine ⟨hs, ?_⟩
  obtain ⟨hl, he⟩ := List.getElem?_eq_some_iff.mp hs
  rw [List.drop_eq_getElem_cons hl, he]
theorem atOk_tk {P : Pl} {f : Frm} (h : AtOk P f) (e : (stepOf P f).1 = "await") : f.tk = 0 := by
  have hs := (atOk_step h).1
  obtain ⟨s, h1, h2⟩ := h
  rw [hs] at h1
  cases h1
  rcases h2 with h2 | h2
  · rw [e] at h2
    exact absurd h2.1 (by decide)
  · exact h2.2
def passes (P : Pl) (M : Md) (f : Frm) : Bool := decide ((stepOf P f).1 = ("await" : Str)) && decide (kI (stepOf P f).2 ∈ M.up)
theorem passes_ok {P : Pl} (ok : P.Ok) {M : Md} {fs : List Frm} {f : Frm} (iv : MInv P M) (hc : M.calls = fs ++ [f]) (hp : passes P M f = true) : MInv P (M.goes P fs f) ∧ (∃ k, Gr P M (M.goes P fs f) k ∧ k + left P (M.goes P fs f).calls ≤ left P M.calls) ∧ left P (M.goes P fs f).calls < left P M.calls ∧ (M.goes P fs f).now = M.now := by
  obtain ⟨h1, h2⟩ := Bool.and_eq_true_iff.mp hp
  have h1 := of_decide_eq_true h1
  have ha := iv.rt f (by rw [hc]; simp)
  obtain ⟨a, b, c, d⟩ := goes_ok ok (g := f) hc (by rw [← hc]; exact iv.nm) (fun h hh => iv.rt h (by rw [hc]; simp [hh])) (atOk_tk ha h1) iv.jb
  rw [hc, left_snoc]
  refine ⟨a, b, c _ _ (atOk_step ha).2 ?_, d⟩
  unfold stopsM
  rw [decide_eq_false (by rw [h1]; decide), Bool.false_or, h2, Bool.not_true, Bool.and_false]
theorem passM_step {P : Pl} {M : Md} {fs : List Frm} {f : Frm} (hc : M.calls = fs ++ [f]) (n : Nat) : passM P (n + 1) M = if passes P M f = true then passM P n (M.goes P fs f) else M := by
  show (match M.calls.getLast? with
    | none => M
    | some f => if (decide ((stepOf P f).1 = ("await" : Str)) && decide (kI (stepOf P f).2 ∈ M.up)) = true then passM P n (M.goes P M.calls.dropLast f) else M) = _
  rw [hc, List.getLast?_concat, List.dropLast_concat]
  rfl
theorem passM_none {P : Pl} {M : Md} (hc : M.calls = []) : ∀ n, passM P n M = M
  | 0 => rfl
  | n + 1 => by
    show (match M.calls.getLast? with
    | none => M
    | some f => if (decide ((stepOf P f).1 = ("await" : Str)) && decide (kI (stepOf P f).2 ∈ M.up)) = true then passM P n (M.goes P M.calls.dropLast f) else M) = _
    rw [hc]
    rfl
theorem leftP_pos {P : Pl} {fs : List Frm} {f : Frm} : 0 < left P (fs ++ [f]) := by
  rw [left_snoc]
  unfold left1
  omega
theorem passM_stab {P : Pl} (ok : P.Ok) : ∀ (n m : Nat) {M : Md}, MInv P M → left P M.calls ≤ n → left P M.calls ≤ m → passM P n M = passM P m M := by
  intro n
  induction n with
  | zero =>
    intro m M iv h1 h2
    rcases List.eq_nil_or_concat M.calls with e | ⟨fs, f, e⟩
    · rw [passM_none e, passM_none e]
    · rw [List.concat_eq_append] at e
      have := leftP_pos (P := P) (fs := fs) (f := f)
      rw [← e] at this
      omega
  | succ n ih =>
    intro m M iv h1 h2
    rcases List.eq_nil_or_concat M.calls with e | ⟨fs, f, e⟩
    · rw [passM_none e, passM_none e]
    · rw [List.concat_eq_append] at e
      have hp := leftP_pos (P := P) (fs := fs) (f := f)
      rw [← e] at hp
      cases m with
      | zero => omega
      | succ m =>
        rw [passM_step e, passM_step e]
        split
        · rename_i h
          obtain ⟨a, b, c, d⟩ := passes_ok ok iv e h
          exact ih m a (by omega) (by omega)
        · rfl
theorem passM_go {P : Pl} (ok : P.Ok) {M : Md} {fs : List Frm} {f : Frm} (iv : MInv P M) (hc : M.calls = fs ++ [f]) (hp : passes P M f = true) : passM P (left P M.calls) M = passM P (left P (M.goes P fs f).calls) (M.goes P fs f) := by
  obtain ⟨a, b, c, d⟩ := passes_ok ok iv hc hp
  have h := leftP_pos (P := P) (fs := fs) (f := f)
  rw [← hc] at h
  obtain ⟨n, hn⟩ : ∃ n, left P M.calls = n + 1 := ⟨left P M.calls - 1, by omega⟩
  rw [hn, passM_step hc, if_pos hp]
  exact passM_stab ok _ _ a (by omega) (Nat.le_refl _)
theorem passM_stop {P : Pl} {M : Md} {fs : List Frm} {f : Frm} (hc : M.calls = fs ++ [f]) (hp : passes P M f = false) (n : Nat) : passM P n M = M := by
  cases n with
  | zero => rfl
  | succ n => rw [passM_step hc, if_neg (by rw [hp]; simp)]
end Z
set_option maxHeartbeats 1000000
namespace Z
open PySem PySem.Spec PyProof.Rows L2
theorem does_spent {P : Pl} {M : Md} {s : Str × Key} : (M.does P s).1.spent = M.spent := by
  unfold Md.does Md.ring
  repeat' split
  all_goals rfl
theorem goesL_spent {P : Pl} {fs : List Frm} {rest : List (Str × Key)} : ∀ {f : Frm} {M : Md}, (goesL P fs f M rest).spent = M.spent := by
  induction rest with
  | nil => intro f M; rfl
  | cons s r ih =>
    intro f M
    unfold goesL
    split
    · rfl
    · rw [ih, does_spent]
theorem goes_spent {P : Pl} {fs : List Frm} {f : Frm} {M : Md} : (M.goes P fs f).spent = M.spent := goesL_spent
theorem taking_spent {P : Pl} {M : Md} : (M.taking P).spent = M.spent := by
  unfold Md.taking
  split
  · rfl
  · split
    · exact goes_spent
    · rfl
theorem taking_ok {P : Pl} (ok : P.Ok) {M : Md} (iv : MInv P M) : MInv P (M.taking P) ∧ (∃ k, Gr P M (M.taking P) k ∧ k + left P (M.taking P).calls ≤ left P M.calls + 10) ∧ (M.taking P).now = M.now := by
  cases e : M.cand P with
  | nil =>
    rw [taking_no e]
    exact ⟨iv, ⟨0, Gr.refl, by omega⟩, rfl⟩
  | cons l r =>
    by_cases h : M.may P l.nm = true
    · rw [taking_yes e h]
      have hl : l ∈ P.ls := cand_mem (M := M) (by rw [e]; simp)
      have hn : l.nm ∈ P.names := List.mem_map.mpr ⟨l, hl, rfl⟩
      have l8 := ok.steps8 (ok.ln_mem hn).1
      have g0 : Gr P M { M with edge := putM M.edge l.nm false, log := M.log ++ [((M.now, ("begin" : Str), l.nm) : Lg)], calls := M.calls ++ [⟨l.nm, 0, 0, M.bar⟩] } 1 := by
        refine ⟨Nat.le_succ _, putM_len _ _ _, Nat.le_succ _, Nat.le_succ _, ?_, Nat.le_succ _, id, ?_⟩
        · simp
        · simp
          omega
      obtain ⟨a, ⟨k, b, c⟩, _, d⟩ := goes_ok ok (M := { M with edge := putM M.edge l.nm false, log := M.log ++ [((M.now, ("begin" : Str), l.nm) : Lg)], calls := M.calls ++ [⟨l.nm, 0, 0, M.bar⟩] }) (fs := M.calls) (f := ⟨l.nm, 0, 0, M.bar⟩) (g := ⟨l.nm, 0, 0, M.bar⟩) rfl (fun f hf => by
        rcases List.mem_append.mp hf with hf | hf
        · exact iv.nm f hf
        · rw [List.mem_singleton.mp hf]
          exact hn) iv.rt rfl iv.jb
      refine ⟨a, ⟨1 + k, g0.trans b, ?_⟩, d⟩
      have e2 : left1 P ⟨l.nm, 0, 0, M.bar⟩ = (P.ln l.nm).st.length - 0 + 1 := rfl
      have e3 : (M.begins P l.nm).calls = (Md.goes P { M with edge := putM M.edge l.nm false, log := M.log ++ [((M.now, ("begin" : Str), l.nm) : Lg)], calls := M.calls ++ [⟨l.nm, 0, 0, M.bar⟩] } M.calls ⟨l.nm, 0, 0, M.bar⟩).calls := rfl
      rw [e3]
      omega
    · rw [taking_not e (by simpa using h)]
      exact ⟨iv, ⟨0, Gr.refl, by omega⟩, rfl⟩
theorem leftM_le {P : Pl} (ok : P.Ok) : ∀ {fs : List Frm}, (∀ f ∈ fs, f.ln ∈ P.names) → left P fs ≤ 9 * fs.length
  | [], _ => Nat.le_refl _
  | f :: fs, h => by
    have ih := leftM_le ok (fs := fs) fun g hg => h g (List.mem_cons_of_mem _ hg)
    have l8 := ok.steps8 (ok.ln_mem (h f (by simp))).1
    have e : left P (f :: fs) = left1 P f + left P fs := rfl
    have e1 : left1 P f = (P.ln f.ln).st.length - f.st + 1 := rfl
    rw [e, List.length_cons]
    omega
end Z
set_option maxHeartbeats 1000000
namespace Z
open PySem PySem.Spec PyProof.Rows L2
section
variable {P : Pl} {M : Md} {fs : List Frm} {f : Frm}
theorem tick2_eq (h : M.calls = fs ++ [f]) : M.tick2 P = if (stepOf P f).1 = "await" then M.ends 1 else
    if (f.tk : Int) + 1 = kI (stepOf P f).2 then (Md.goes P { M with calls := fs ++ [{ f with st := f.st + 1, tk := 0 }] } fs { f with st := f.st + 1, tk := 0 }).ends 0
    else Md.ends { M with calls := fs ++ [{ f with tk := f.tk + 1 }] } 0 := by
  unfold Md.tick2
  rw [h, List.getLast?_concat, List.dropLast_concat]
theorem tick2_none (h : M.calls = []) : M.tick2 P = if M.jobs = [] then M.ends 3 else Md.ends { M with jobs := (doWork P M.jobs).1, log := M.log ++ (doWork P M.jobs).2.map (stamp M.now) } 2 := by
  unfold Md.tick2
  rw [h]
  rfl
end
theorem four {l : List Int} (h : l.length = 4) : ∃ a b c d, l = [a, b, c, d] := by
  match l, h with
  | [a, b, c, d], _ => exact ⟨a, b, c, d, rfl⟩
/-- the end of a tick, written -/
theorem MdAt.wEnds {K : Fg} {H : Hp} {D : MA} {M : Md} (h : MdAt K H D M) (k : Nat) : MdAt K (upd (upd H D.sp (.lst ((spentAdd M.spent k).map V.int))) D.m (.dK (mdKV D M.bar (M.now + 1)))) D (M.ends k) := by
  have h1 := h.wSp (spentAdd M.spent k)
  exact MdL.put (M := M.ends k) ⟨h1.l.nd, h1.l.sh, h1.l.ed, h1.l.hi, h1.l.up, h1.l.ca, h1.l.jo, h1.l.lg, h1.l.sp, h1.l.jn⟩ h1.md rfl
theorem chEnds {K : Fg} {H : Hp} {D : MA} {M : Md} (h : MdAt K H D M) (k : Nat) : ChM H D (upd (upd H D.sp (.lst ((spentAdd M.spent k).map V.int))) D.m (.dK (mdKV D M.bar (M.now + 1)))) D := by
  have h1 := h.wSp (spentAdd M.spent k)
  exact (ChM.upd (by simp [MA.own]) h.l.sp rfl).trans (ChM.upd (by simp [MA.own]) h1.md rfl)
theorem spent_set (l : List Int) (k : Nat) (v : Int) (h : l[k]? = some v) : (l.map V.int).set k (.int (v + 1)) = (spentAdd l k).map V.int := by
  unfold spentAdd
  rw [h, List.map_set]
  rfl
theorem ite_tC {c : Bool} {a b : V} {σ : L2.St} {H : Hp} {G : VK} (h : ∀ v, G v H) : if c = true then tC a σ H G else tC b σ H G := by
  split
  · exact h _
  · exact h _
theorem ixN_last (n : Nat) : ixN (n + 1) (-1) = some n := by
  unfold ixN
  rw [if_neg (by omega), if_pos (by omega)]
  congr 1
  omega
theorem set_last {α : Type} (as : List α) (x v : α) : (as ++ [x]).set as.length v = as ++ [v] := by simp
end Z
set_option maxHeartbeats 1000000
namespace Z
open PySem PySem.Spec PyProof.Rows L2
/-- places that stand, no two alike -/
structure Al (l : List Addr) (H : Hp) : Prop where
  nd : l.Nodup
  ex : ∀ a ∈ l, H a ≠ none
theorem Al.nil {H : Hp} : Al [] H := ⟨.nil, by simp⟩
theorem Al.fr {l A : List Addr} {H H' : Hp} (h : Al l H) (f : Fr A H H') : Al l H' := ⟨h.nd, fun a ha e => h.ex a ha (f.back e)⟩
theorem Al.same {l : List Addr} {H H' : Hp} (h : Al l H) (s : Same H H') : Al l H' := h.fr (A := []) s.fr
theorem Al.new {l : List Addr} {H H' : Hp} {p : Addr} {o : HO} (h : Al l H) (hp : H p = none) (s : Same H H') (e : H' p = some o) : Al (l ++ [p]) H' := by
  refine ⟨?_, fun a ha => ?_⟩
  · rw [List.nodup_append]
    refine ⟨h.nd, by simp, fun a ha b hb eab => ?_⟩
    rw [List.mem_singleton] at hb
    rw [eab, hb] at ha
    exact h.ex _ ha hp
  · rcases List.mem_append.mp ha with ha | ha
    · exact (h.same s).ex a ha
    · rw [List.mem_singleton.mp ha, e]
      simp
theorem paired_nv {α : Type} {K : Fg} {H : Hp} {nm : α → Str} {d : α → PyData} : ∀ {xs : List V} {l : List α}, DpAll K H xs (l.map fun x => .tuple [.str (nm x), d x]) → ∃ (ps : List Addr) (vs : List V), xs = ps.map V.ref ∧ Paired (fun p kv => SqT K H p [kV kv.1, kv.2]) ps ((l.map fun x => (Sum.inr (nm x) : Key)).zip vs) ∧ DpAll K H vs (l.map d)
  | _, [], .nil => ⟨[], [], rfl, .nil, .nil⟩
  | _, x :: l, .cons h t => by
    obtain ⟨a, zs, rfl, hT, hA⟩ := h.tupI
    cases hA with | cons h1 hA => ?_
    cases hA with | cons h2 hA => ?_
    cases hA
    cases h1
    obtain ⟨ps, vs, rfl, hp, hv⟩ := paired_nv t
    exact ⟨a :: ps, _ :: vs, rfl, .cons hT hp, .cons h2 hv⟩
theorem mergeK_new : ∀ {l a : List (Key × V)}, (l.map (·.1)).Nodup → (∀ x ∈ l, x.1 ∉ a.map (·.1)) → mergeK a l = a ++ l
  | [], a, _, _ => by rw [List.append_nil]; rfl
  | x :: l, a, hn, ha => by
    rw [List.map_cons, List.nodup_cons] at hn
    have hx := ha x (by simp)
    have e1 : putK a x.1 x.2 = a ++ [x] := by
      unfold putK
      rw [if_neg]
      intro h
      obtain ⟨kv, h1, h2⟩ := List.any_eq_true.mp h
      exact hx (List.mem_map.mpr ⟨kv, h1, of_decide_eq_true h2⟩)
    show mergeK (putK a x.1 x.2) l = _
    rw [e1, mergeK_new (a := a ++ [x]) hn.2 (fun y hy hm => ?_), List.append_assoc]
    · rfl
    · rw [List.map_append] at hm
      rcases List.mem_append.mp hm with hm | hm
      · exact ha y (List.mem_cons_of_mem _ hy) hm
      · rw [List.map_singleton, List.mem_singleton] at hm
        exact hn.1 (by rw [← hm]; exact List.mem_map_of_mem hy)
theorem mergeK_zip {α : Type} {K : Fg} {H : Hp} {nm : α → Str} {d : α → PyData} {l : List α} {vs : List V} (hn : (l.map nm).Nodup) (hv : DpAll K H vs (l.map d)) : mergeK [] ((l.map fun x => (Sum.inr (nm x) : Key)).zip vs) = (l.map fun x => (Sum.inr (nm x) : Key)).zip vs := by
  have hl : vs.length = l.length := by rw [hv.len, List.length_map]
  rw [mergeK_new]
  · rfl
  · rw [List.map_fst_zip (by rw [List.length_map]; omega)]
    rw [show (l.map fun x => (Sum.inr (nm x) : Key)) = (l.map nm).map Sum.inr by rw [List.map_map]; rfl]
    exact List.Pairwise.map _ (fun a b h e => h (Sum.inr.inj e)) hn
  · simp
theorem same_fr {H H1 H2 : Hp} {A : List Addr} (s : Same H H1) (f : Fr A H1 H2) (h : ∀ a ∈ A, H a = none) : Same H H2 := fun a o e => f.at (s a o e) (fun z => by rw [h a z] at e; cases e)
theorem s_dupd {td ty : TE} {σ : L2.St} {H : Hp} {Q : VK} (q : td σ H fun x H1 => ∃ a, x = .ref a ∧ IsD H1 a ∧ ty σ H1 fun y H2 => ∃ b kvs more, y = .ref b ∧ a ≠ b ∧ H2 a = some (.dK kvs) ∧ H2 b = some (.dK more) ∧ kvs.length + more.length ≤ sizeLine ∧ Q .non (upd H2 a (.dK (mergeK kvs more)))) : tDUpd td ty σ H Q := q
end Z
set_option maxHeartbeats 1000000
namespace Z
open PySem PySem.Spec PyProof.Rows L2
section
variable {K : Fg} {σ : L2.St} {H H1 : Hp} {Q : VK} {g : TG} {tt : TT} {te tk tv tl : TE} {vs : List Nat} {x : V} {a : Addr} {xs : List V} {α : Type} {l : List α}
/-! ### over the keys of a locked dict -/
theorem s_lcK (q : tl σ H fun x H1 => ∃ d o, x = .ref d ∧ ((∃ kvs, H1 d = some (.frz o (.dK kvs)) ∧ LcQ (Itk d o kvs) g tt te vs σ Q H1) ∨ ∃ kvs, H1 d = some (.frz o (.dT kvs)) ∧ LcQ (Itkt d o kvs) g tt te vs σ Q H1)) : tLc (iKeys tl) g tt te vs σ H Q := q
theorem lcK_d {o : Obj} {nm : α → Str} (hT : H1 a = some (.frz o (.dK ((l.map fun x => (Sum.inr (nm x) : Key)).zip xs)))) (hk : l.length = xs.length) (p : α → Bool) (f : α → PyData) (hn : l.length ≤ 40000) (hf : ∀ x ∈ l, tupd (f x) = true)
    (hs : ∀ (x : α) (H : Hp) (Yes : VK) (No : Hp → Prop), x ∈ l → Same H1 H → (p x = true → ∀ y H4, Same H H4 → Dp K H4 y (f x) → Yes y H4) → (p x = false → ∀ H3, Same H H3 → No H3) →
      g (.str (nm x)) (wipe σ vs) H fun σ2 H2 => wipe σ2 vs = wipe σ vs ∧ tt σ2 H2 fun b H3 => if b = true then te σ2 H3 Yes else No H3)
    (hd : ∀ D H' ys, H1 D = none → Same H1 H' → H' D = some (.lst ys) → DpAll K H' ys ((l.filter p).map f) → Q (.ref D) H') : LcQ (Itk a o ((l.map fun x => (Sum.inr (nm x) : Key)).zip xs)) g tt te vs σ Q H1 := by
  have hz : ((l.map fun x => (Sum.inr (nm x) : Key)).zip xs).length = l.length := by rw [List.length_zip, List.length_map]; omega
  refine fun D hD => ?_
  refine lc_dat (K := K) walk_keys (pAt l p) (dAt l f) hD (by rw [hz]; exact hn) (dAt_tupd hf) (fun H s => s _ _ hT) (fun i H x H' y => by rw [y.1]; exact Same.refl H) (fun i x H H' Yes No hi s1 y yes no => ?_) (fun H' ys s1 e1 a1 => ?_)
  · obtain ⟨rfl, k, v, hx, rfl⟩ := y
    have hx := (List.getElem?_zip_eq_some.mp hx).1
    rw [List.getElem?_map] at hx
    obtain ⟨z, hz, rfl⟩ := Option.map_eq_some_iff.mp hx
    rw [pAt_eq hz, dAt_eq hz] at yes
    rw [pAt_eq hz] at no
    exact hs z H' Yes No (List.mem_of_getElem? hz) s1 yes no
  · rw [hz, keptD_list] at a1
    exact hd D H' ys hD s1 e1 a1
theorem lcR_d {n : Nat} (p : Nat → Bool) (f : Nat → PyData) (hn : n ≤ 40000) (hf : ∀ i, i < n → tupd (f i) = true)
    (hs : ∀ (i : Nat) (H : Hp) (Yes : VK) (No : Hp → Prop), i < n → Same H1 H → (p i = true → ∀ y H4, Same H H4 → Dp K H4 y (f i) → Yes y H4) → (p i = false → ∀ H3, Same H H3 → No H3) →
      g (.int i) (wipe σ vs) H fun σ2 H2 => wipe σ2 vs = wipe σ vs ∧ tt σ2 H2 fun b H3 => if b = true then te σ2 H3 Yes else No H3)
    (hd : ∀ D H' ys, H1 D = none → Same H1 H' → H' D = some (.lst ys) → DpAll K H' ys (((List.range n).filter p).map f) → Q (.ref D) H') : LcQ (Itr 0 n) g tt te vs σ Q H1 := by
  have hz : (List.range n).length = n := List.length_range
  refine fun D hD => ?_
  refine lc_dat (K := K) (walk_range (lo := 0) (n := n)) (pAt (List.range n) p) (dAt (List.range n) f) hD hn (dAt_tupd (fun x hx => hf x (List.mem_range.mp hx))) (fun H s => trivial) (fun i H x H' y => by rw [y.1]; exact Same.refl H) (fun i x H H' Yes No hi s1 y yes no => ?_) (fun H' ys s1 e1 a1 => ?_)
  · obtain ⟨rfl, rfl⟩ := y
    have hz : (List.range n)[i]? = some i := List.getElem?_range hi
    rw [pAt_eq hz, dAt_eq hz] at yes
    rw [pAt_eq hz] at no
    have := hs i H' Yes No hi s1 yes no
    dsimp only
    rw [Int.zero_add]
    exact this
  · have k := keptD_list (l := List.range n) (p := p) (f := f)
    rw [hz] at k
    rw [k] at a1
    exact hd D H' ys hD s1 e1 a1
end
theorem s_lockE {t : TE} {σ : L2.St} {H : Hp} {Q : VK} {d : Addr} {u : HO} (h : H d = some u) (m : Mut (some u)) (q : ∀ od, t σ (upd H d (.frz od u)) fun v H' => H' d = some (.frz od u) ∧ Q v (upd H' d u)) : tLockE t σ H Q := ⟨d, u, h, m, q⟩
end Z
set_option maxHeartbeats 1000000
namespace Z
open PySem PySem.Spec PyProof.Rows L2
theorem MSt.keep {K : Fg} {H H' : Hp} {D : MA} {P : Pl} {M : Md} (h : MSt K H D P M) {A : List Addr} (f : Fr A H H') (n : ∀ a ∈ D.own, a ∉ A) (n1 : D.ln ∉ A) (n2 : D.wk ∉ A) : MSt K H' D P M := ⟨h.md.keep f n, h.pl.keep f n1 n2, h.n1, h.n2⟩
def doneV (s : Str × Key) (b : Bool) : V := if s.1 = "ring" then .str (if b = true then "waits" else "merged") else .bl b
def doneD (s : Str × Key) (b : Bool) : PyData := if s.1 = "ring" then .str (if b = true then "waits" else "merged") else .bool b
theorem done_dp {K : Fg} {H : Hp} (s : Str × Key) (b : Bool) : Dp K H (doneV s b) (doneD s b) := by
  unfold doneV doneD
  split
  · exact .str _
  · exact .bl _
end Z
set_option maxHeartbeats 1000000
namespace Z
open PySem PySem.Spec PyProof.Rows L2
/-! ### how much the log and the joined rings grow in a tick -/
def Md.sz (M : Md) : Nat := M.joined.length + M.log.length
theorem passM_gr {P : Pl} (ok : P.Ok) : ∀ (n : Nat) {M : Md}, MInv P M → ∃ k, Gr P M (passM P n M) k ∧ k + left P (passM P n M).calls ≤ left P M.calls ∧ MInv P (passM P n M)
  | 0, M, iv => ⟨0, Gr.refl, by show 0 + left P M.calls ≤ _; omega, iv⟩
  | n + 1, M, iv => by
    rcases List.eq_nil_or_concat M.calls with e | ⟨fs, f, e⟩
    · rw [passM_none e]
      exact ⟨0, Gr.refl, by omega, iv⟩
    · rw [List.concat_eq_append] at e
      rw [passM_step e]
      split
      · rename_i hp
        obtain ⟨iv2, ⟨k, g, hk⟩, _, _⟩ := passes_ok ok iv e hp
        obtain ⟨k2, g2, hk2, iv3⟩ := passM_gr ok n iv2
        exact ⟨k + k2, g.trans g2, by omega, iv3⟩
      · exact ⟨0, Gr.refl, by omega, iv⟩
theorem left1_le {P : Pl} {f : Frm} : left1 P { f with st := f.st + 1, tk := 0 } ≤ left1 P f := by
  unfold left1
  show (P.ln f.ln).st.length - (f.st + 1) + 1 ≤ _
  omega
theorem tick2_sz {P : Pl} (ok : P.Ok) {M : Md} (iv : MInv P M) : (M.tick2 P).sz ≤ M.sz + (left P M.calls + 1) := by
  rcases List.eq_nil_or_concat M.calls with e | ⟨fs, f, e⟩
  · rw [tick2_none e]
    split
    · show M.sz ≤ _
      omega
    · have := doWork_ev (P := P) (jobs := M.jobs)
      show M.joined.length + (M.log ++ _).length ≤ M.joined.length + M.log.length + _
      rw [List.length_append, List.length_map]
      omega
  · rw [List.concat_eq_append] at e
    rw [tick2_eq e]
    split
    · show M.sz ≤ _
      omega
    · split
      · obtain ⟨_, ⟨k, g, hk⟩, _, _⟩ := goes_ok ok (M := { M with calls := fs ++ [{ f with st := f.st + 1, tk := 0 }] }) (fs := fs) (f := { f with st := f.st + 1, tk := 0 }) (g := { f with st := f.st + 1, tk := 0 }) rfl (fun h hh => by
          rcases List.mem_append.mp hh with hh | hh
          · exact iv.nm h (by rw [e]; simp [hh])
          · rw [List.mem_singleton.mp hh]
            exact iv.nm f (by rw [e]; simp)) (fun h hh => iv.rt h (by rw [e]; simp [hh])) rfl iv.jb
        have h1 := g.sz
        have h2 := left1_le (P := P) (f := f)
        rw [e, left_snoc]
        show Md.sz (Md.goes P { M with calls := fs ++ [{ f with st := f.st + 1, tk := 0 }] } fs { f with st := f.st + 1, tk := 0 }) ≤ _
        unfold Md.sz
        have h3 : (Md.goes P { M with calls := fs ++ [{ f with st := f.st + 1, tk := 0 }] } fs { f with st := f.st + 1, tk := 0 }).joined.length + (Md.goes P { M with calls := fs ++ [{ f with st := f.st + 1, tk := 0 }] } fs { f with st := f.st + 1, tk := 0 }).log.length ≤ M.joined.length + M.log.length + k := h1
        omega
      · show M.sz ≤ _
        omega
theorem tick_sz {P : Pl} (ok : P.Ok) {M : Md} (iv : MInv P M) (c12 : M.calls.length ≤ 12) : (M.tick P).sz ≤ M.sz + 300 := by
  obtain ⟨iv1, ⟨k, g, hk⟩, _⟩ := taking_ok ok iv
  obtain ⟨k2, g2, hk2, iv2⟩ := passM_gr ok (left P (M.taking P).calls) iv1
  have h3 := tick2_sz ok iv2
  have ll := leftM_le ok iv.nm
  have h1 := g.sz
  have h2 := g2.sz
  unfold Md.tick
  unfold Md.sz at h3 ⊢
  omega
/-! ### what is shown -/
theorem Eqs.len {α : Type} [DecidableEq α] {l m : List α} (h : Eqs l m) : l.length = m.length := ((List.perm_ext_iff_of_nodup h.n1 h.n2).mpr fun x => h.eq x).length_eq
theorem inOrd_eq {P : Pl} (ok : P.Ok) {zs : List Str} {p : Str → Bool} (hz : ∀ z ∈ zs, z ∈ P.names) (hn : zs.Nodup) (he : ∀ z ∈ P.names, p z = true ↔ z ∈ zs) : ((zs.map P.ln).mergeSort leO).map (·.nm) = P.order.filter p := by
  refine order_names ok (fun x hx => ?_) ?_ (fun x hx => ?_)
  · obtain ⟨z, h, rfl⟩ := List.mem_map.mp hx
    exact (ok.ln_mem (hz z h)).1
  · refine List.pairwise_map.mpr (hn.imp_of_mem ?_)
    intro a b ha hb hab e
    apply hab
    rw [← (ok.ln_mem (hz a ha)).2, ← (ok.ln_mem (hz b hb)).2, e]
  · rw [he x.nm (List.mem_map.mpr ⟨x, hx, rfl⟩)]
    constructor
    · intro h
      exact List.mem_map.mpr ⟨x.nm, h, ln_self ok hx⟩
    · intro h
      obtain ⟨z, h1, h2⟩ := List.mem_map.mp h
      rw [← h2, (ok.ln_mem (hz z h1)).2]
      exact h1
abbrev leI : Int → Int → Bool := PySem.W.dataLe false PyData.int
theorem leI_total : PySem.W.TotalLe leI := PySem.W.sortLe_total _ _ _
theorem leI_sorted (l : List Int) : (l.mergeSort leI).Pairwise fun a b => leI a b = true := List.pairwise_mergeSort leI_total.trans (fun a b => Bool.or_eq_true_iff.mpr (leI_total.total a b)) l
theorem leI_le {a b : Int} (h : leI a b = true) : a ≤ b := by
  have e1 : PySem.W.dataLt (PyData.int b) (PyData.int a) = false := by
    have : (!PySem.W.dataLt (PyData.int b) (PyData.int a)) = true := h
    simpa using this
  rw [PySem.W.dataLt_int] at e1
  simp only [decide_eq_false_iff_not] at e1
  omega
theorem srt_eqs {l m : List Int} (h : Eqs l m) : l.mergeSort leI = m.mergeSort leI := by
  refine List.Perm.eq_of_pairwise (fun a b _ _ h1 h2 => Int.le_antisymm (leI_le h1) (leI_le h2)) (leI_sorted l) (leI_sorted m) ?_
  exact (List.mergeSort_perm _ _).trans ((((List.perm_ext_iff_of_nodup h.n1 h.n2).mpr fun x => h.eq x)).trans (List.mergeSort_perm _ _).symm)
/-! ### processor and model, side by side -/
structure Both (P : Pl) (M : Md) (G : Sg) : Prop where
  rel : Rel P M G
  inv : RInv P G.C G.B
theorem names_len {P : Pl} (ok : P.Ok) : P.names.length ≤ 12 := by
  unfold Pl.names
  rw [List.length_map]
  exact ok.l12
section
variable {P : Pl} {M : Md} {G : Sg}
theorem Both.minv (b : Both P M G) : MInv P M := ⟨fun f hf => b.inv.cok.fok.nm f (by rw [← b.rel.calls]; exact hf), fun f hf => b.inv.rt f (by rw [← b.rel.calls]; exact hf), fun j hj => by
  rw [b.rel.c.jobs] at hj
  exact ⟨b.inv.cok.jok.sub j hj, b.inv.jb j hj⟩⟩
theorem Both.rm (ok : P.Ok) (b : Both P M G) (h : M.sz ≤ 999000) : Rm P M 500 := by
  have bo := b.inv.cok.bok
  have n12 := names_len ok
  have h1 := b.rel.c.b.sh.len
  have h2 := b.rel.c.b.ed.len
  have h3 := b.rel.c.b.hi.len
  have h4 := b.rel.c.b.up.len
  have k1 := bo.sh.len
  have k2 := bo.wa.len
  have k3 := bo.hi.len
  have k4 := bo.ra.len
  have k5 : flagL.length ≤ 8 := by decide
  have k6 := b.inv.cok.fok.len ok
  have k7 := b.inv.cok.jok.len ok
  have e6 := congrArg List.length b.rel.calls
  have e7 := congrArg List.length b.rel.c.jobs
  unfold Md.sz at h
  exact ⟨by omega, by omega, by omega, by omega, by omega, by omega, fun j hj => (b.minv.jb j hj).1, by omega⟩
theorem Both.c12 (ok : P.Ok) (b : Both P M G) : M.calls.length ≤ 12 := by
  have k6 := b.inv.cok.fok.len ok
  have e6 := congrArg List.length b.rel.calls
  omega
theorem Both.sp4 (b : Both P M G) : M.spent.length = 4 := by
  obtain ⟨x, y, z, w, e, _⟩ := b.rel.sp
  rw [e]
  rfl
theorem Both.tick (ok : P.Ok) (b : Both P M G) : Both P (M.tick P) (G.tick P).1 ∧ (M.tick P).log = M.log ++ (G.tick P).2.map (stamp M.now) := by
  obtain ⟨h1, h2, h3⟩ := tick_sim ok b.rel b.inv
  exact ⟨⟨h1, h2⟩, h3⟩
theorem Both.waits (ok : P.Ok) (b : Both P M G) : (((P.names.filter M.waits).map P.ln).mergeSort leO).map (·.nm) = P.order.filter G.B.waiting := by
  refine inOrd_eq ok (fun z hz => (List.mem_filter.mp hz).1) (ok.lnd.sublist List.filter_sublist) (fun z hz => ?_)
  rw [← waits_sim b.rel.calls b.rel.c.b b.inv, List.mem_filter]
  exact ⟨fun h => ⟨hz, h⟩, fun h => h.2⟩
theorem Both.shut (ok : P.Ok) (b : Both P M G) : ((M.shut.map P.ln).mergeSort leO).map (·.nm) = P.order.filter fun z => decide (z ∈ G.B.shut) := by
  have e := b.rel.c.b.sh
  refine inOrd_eq ok (fun z hz => b.inv.cok.bok.sh.sub z ((e.eq z).mp hz)) e.n1 (fun z hz => ?_)
  rw [decide_eq_true_iff]
  exact (e.eq z).symm
theorem Both.high (ok : P.Ok) (b : Both P M G) : ((M.high.map P.ln).mergeSort leO).map (·.nm) = P.order.filter fun z => decide (z ∈ G.B.high) := by
  have e := b.rel.c.b.hi
  refine inOrd_eq ok (fun z hz => b.inv.cok.bok.hi.sub z ((e.eq z).mp hz)) e.n1 (fun z hz => ?_)
  rw [decide_eq_true_iff]
  exact (e.eq z).symm
theorem Both.spent (b : Both P M G) : M.spent = G.sums.map (·.2) := by
  obtain ⟨x, y, z, w, e, e2⟩ := b.rel.sp
  rw [e, e2]
  rfl
theorem carry_taken {B : Bd} {s : Str × Key} : (B.carry P s).1.taken = B.taken := by
  unfold Bd.carry Bd.ring
  repeat (first | rfl | split)
theorem Both.deed (ok : P.Ok) (b : Both P M G) {s : Str × Key} (cs : CarryIs P s) : Both P (M.does P s).1 { G with B := (G.B.carry P s).1 } ∧ (M.does P s).2 = (G.B.carry P s).2 := by
  obtain ⟨h1, h2⟩ := carry_sim ok b.rel.c.b cs
  have w1 : s.1 ≠ "bar" := by
    rcases cs with ⟨hw, _⟩ | ⟨hw, _⟩ <;> (intro e; rw [e] at hw; revert hw; decide)
  have w2 : s.1 ≠ "later" := by
    rcases cs with ⟨hw, _⟩ | ⟨hw, _⟩ <;> (intro e; rw [e] at hw; revert hw; decide)
  obtain ⟨c1, c2⟩ := carry_rest (P := P) (M := M) w1 w2
  obtain ⟨d1, d2, d3, d4⟩ := does_rest (P := P) (M := M) (s := s)
  refine ⟨⟨⟨d1.trans b.rel.calls, ⟨h1, c1.trans b.rel.c.lim, c2.trans b.rel.c.jobs⟩, d2.trans b.rel.now, by rw [d4]; exact b.rel.sp⟩, ?_⟩, h2⟩
  have ct := carry_taken (P := P) (B := G.B) (s := s)
  exact ⟨⟨b.inv.cok.bok.carry cs, b.inv.cok.jok, b.inv.cok.fok.taken ct⟩, fun z => by rw [ct]; exact b.inv.tk z, b.inv.rk, b.inv.rt, b.inv.jb⟩
end
end Z
set_option maxHeartbeats 1000000
namespace Z
open PySem PySem.Spec PyProof.Rows L2
theorem Both.start (P : Pl) : Both P Md.start (Sg.start P) := by
  refine ⟨⟨rfl, ⟨⟨Eqs.nil, Eqs.nil, Eqs.nil, Eqs.nil⟩, rfl, rfl⟩, rfl, 0, 0, 0, 0, rfl, rfl⟩, ⟨(Acct.start P).cok, fun z => ?_, by simp [Sg.start], by simp [Sg.start], by simp [Sg.start]⟩⟩
  simp [Sg.start]
theorem Both.sub (ok : P.Ok) {M : Md} {G : Sg} (b : Both P M G) : (∀ z ∈ M.shut, z ∈ P.names) ∧ (∀ z ∈ M.high, z ∈ P.names) := ⟨fun z hz => b.inv.cok.bok.sh.sub z ((b.rel.c.b.sh.eq z).mp hz), fun z hz => b.inv.cok.bok.hi.sub z ((b.rel.c.b.hi.eq z).mp hz)⟩
/-- processor and model in one heap, apart from each other and from what was there -/
structure Two (K : Fg) (H0 H : Hp) (A : SA) (D : MA) (P : Pl) (M : Md) (G : Sg) : Prop where
  sg : SgAt K H A P G
  st : MSt K H D P M
  dj : ∀ a ∈ A.own, a ∉ D.own ∧ a ≠ D.ln ∧ a ≠ D.wk
  dp : ∀ a ∈ A.PD.own, a ∉ D.own
  na : ∀ a ∈ A.own, H0 a = none
  nd : ∀ a ∈ D.own, H0 a = none
  np : ∀ a ∈ A.PD.own, H0 a = none
  nl : H0 D.ln = none ∧ H0 D.wk = none
section
variable {K : Fg} {H0 H H' : Hp} {A A' : SA} {D D' : MA} {P : Pl} {M M' : Md} {G G' : Sg}
theorem Two.keep (t : Two K H0 H A D P M G) {N : List Addr} (f : Fr N H H') (n : ∀ a ∈ N, H0 a ≠ none) : Two K H0 H' A D P M G := by
  have z : ∀ {a}, H0 a = none → a ∉ N := fun h q => n _ q h
  exact ⟨t.sg.keep f (fun a ha => z (t.na a ha)) (fun a ha => z (t.np a ha)), t.st.keep f (fun a ha => z (t.nd a ha)) (z t.nl.1) (z t.nl.2), t.dj, t.dp, t.na, t.nd, t.np, t.nl⟩
theorem Two.same (t : Two K H0 H A D P M G) (s : Same H H') : Two K H0 H' A D P M G := t.keep (N := []) s.fr (by simp)
theorem Two.row (t : Two K H0 H A D P M G) {r : Addr} (f : Fr [r] H H') (n : H0 r ≠ none) : Two K H0 H' A D P M G := t.keep f (by simpa using n)
theorem Two.mch (t : Two K H0 H A D P M G) (bk : ∀ a, H a = none → H0 a = none) (c : ChM H D H' D') (st : MSt K H' D' P M') : Two K H0 H' A D' P M' G := by
  refine ⟨t.sg.keep c.fr (fun a ha => (t.dj a ha).1) t.dp, st, fun a ha => ⟨fun z => ?_, ?_, ?_⟩, fun a ha z => ?_, t.na, fun a ha => ?_, t.np, ?_⟩
  · rcases c.own a z with z | z
    · exact (t.dj a ha).1 z
    · exact t.sg.ex a ha z
  · rw [c.ln]; exact (t.dj a ha).2.1
  · rw [c.wk]; exact (t.dj a ha).2.2
  · rcases c.own a z with z | z
    · exact t.dp a ha z
    · exact t.sg.cst.pl.ex a ha z
  · rcases c.own a ha with z | z
    · exact t.nd a z
    · exact bk a z
  · rw [c.ln, c.wk]; exact t.nl
theorem Two.sch (t : Two K H0 H A D P M G) (bk : ∀ a, H a = none → H0 a = none) (c : ChS H A H' A') (sg : SgAt K H' A' P G') : Two K H0 H' A' D P M G' := by
  have ePD : A'.PD = A.PD := c.PD
  refine ⟨sg, t.st.keep c.fr (fun a ha z => (t.dj a z).1 ha) (fun z => (t.dj _ z).2.1 rfl) (fun z => (t.dj _ z).2.2 rfl), fun a ha => ?_, ?_, fun a ha => ?_, t.nd, ?_, t.nl⟩
  · rcases c.own a ha with z | z
    · exact t.dj a z
    · exact ⟨fun q => t.st.md.ex a q z, fun e => t.st.pl.ex.1 (by rw [← e]; exact z), fun e => t.st.pl.ex.2 (by rw [← e]; exact z)⟩
  · rw [ePD]; exact t.dp
  · rcases c.own a ha with z | z
    · exact t.na a z
    · exact bk a z
  · rw [ePD]; exact t.np
end
theorem Gr.sz' {P : Pl} {M M' : Md} {n : Nat} (g : Gr P M M' n) : M'.sz ≤ M.sz + n := g.sz
theorem carry_does {P : Pl} {s : Str × Key} (cs : CarryIs P s) : DoesIs P s := .inr (.inr (.inr cs))
end Z
set_option maxHeartbeats 1000000
namespace Z
open PySem PySem.Spec PyProof.Rows L2
/-! ### set-ups of all kinds -/
def nmA : List Str := ["net", "disk", "heat", "fan", "a", "ab", "b", "c", "d", "flush", "sweep", "x", "idle", "zza", "zzb", "zzc", "zzd", "zze", "zzf"]
theorem nmA_name : ∀ z ∈ nmA, isName (.str z) = true ∧ short (.str z) = true ∧ (PyData.str z).canLay0 = true := by decide +kernel
abbrev NK := List (Str × Str)
inductive FitSt (nk : NK) (ws : List Str) : Str × Key → Prop where
  | run {n : Int} (h1 : 1 ≤ n) (h2 : n ≤ 99) : FitSt nk ws ("run", .inl n)
  | bar {n : Int} (h1 : 0 ≤ n) (h2 : n ≤ 9) : FitSt nk ws ("bar", .inl n)
  | flag {w : Str} {n : Int} (hw : w ∈ (["set", "clear", "await"] : List Str)) (h1 : 0 ≤ n) (h2 : n ≤ 7) : FitSt nk ws (w, .inl n)
  | line {w : Str} {z : Str} (hw : w ∈ (["ring", "mask", "unmask"] : List Str)) (hz : z ∈ nk.map (·.1)) : FitSt nk ws (w, .inr z)
  | quiet {z : Str} (hz : (z, ("level" : Str)) ∈ nk) : FitSt nk ws ("quiet", .inr z)
  | later {z : Str} (hz : z ∈ ws) : FitSt nk ws ("later", .inr z)
structure FitLn (nk : NK) (ws : List Str) (l : Ln) : Prop where
  nm : l.nm ∈ nmA
  kd : l.kd = "edge" ∨ l.kd = "level"
  r1 : 1 ≤ l.rk
  r9 : l.rk ≤ 9
  ne : l.st ≠ []
  s8 : l.st.length ≤ 8
  st : ∀ s ∈ l.st, FitSt nk ws s
structure FitWk (w : Wk) : Prop where
  nm : w.nm ∈ nmA
  r1 : 1 ≤ w.rk
  r9 : w.rk ≤ 9
  t1 : 1 ≤ w.tk
  t9 : w.tk ≤ 99
def nkOf (ls : List Ln) : NK := ls.map fun l => (l.nm, l.kd)
theorem nk_names (ls : List Ln) : (nkOf ls).map (·.1) = ls.map (·.nm) := by
  unfold nkOf
  rw [List.map_map]
  rfl
theorem kinds_mem : ∀ {ls : List Ln}, (ls.map (·.nm)).Nodup → ∀ {z k : Str}, (z, k) ∈ nkOf ls → valV (ls.map fun l => ((.inr l.nm : Key), V.str l.kd)) (.inr z) = some (.str k)
  | [], _, _, _, h => by cases h
  | l :: ls, hn, z, k, h => by
    rw [List.map_cons, List.nodup_cons] at hn
    rcases List.mem_cons.mp h with e | h
    · cases e
      exact valV_pos rfl
    · have hne : ¬ l.nm = z := fun e => hn.1 (by
        rw [e]
        obtain ⟨y, hy, e2⟩ := List.mem_map.mp h
        cases e2
        exact List.mem_map_of_mem hy)
      rw [List.map_cons, valV_neg (fun q => hne (Sum.inr.inj q))]
      exact kinds_mem hn.2 h
theorem flatw {l : List Str} {z : Str} (h : z ∈ l) : inV (.str z) (l.map V.str) = true := by
  rw [inV_strs]
  exact decide_eq_true h
theorem stepX_fit {ls : List Ln} (hn : (ls.map (·.nm)).Nodup) {ws : List Str} {s : Str × Key} (h : FitSt (nkOf ls) ws s) : isStepX (ls.map fun l => ((.inr l.nm : Key), V.str l.kd)) (ws.map V.str) s.1 (kD s.2) = true := by
  have hmem : ∀ {z : Str}, z ∈ (nkOf ls).map (·.1) → (valV (ls.map fun l => ((.inr l.nm : Key), V.str l.kd)) (.inr z)).isSome = true := fun {z} hz => by
    obtain ⟨y, hy, rfl⟩ := List.mem_map.mp hz
    rw [kinds_mem hn (z := y.1) (k := y.2) hy]
    rfl
  cases h with
  | run h1 h2 => exact stepX_run h1 h2
  | bar h1 h2 =>
    rename_i n
    show isStepX _ _ "bar" (.int n) = true
    unfold isStepX
    rw [if_neg (by decide), if_neg (by decide), if_neg (by decide)]
    have : isIntD 0 9 (.int n) = true := decide_eq_true ⟨h1, h2⟩
    rw [this, decide_eq_true (show V.str "bar" = V.str "bar" from rfl), Bool.true_and, Bool.or_true]
  | flag hw h1 h2 =>
    rename_i w n
    have : isIntD 0 7 (.int n) = true := decide_eq_true ⟨h1, h2⟩
    simp only [List.mem_cons, List.not_mem_nil, or_false] at hw
    show isStepX _ _ w (.int n) = true
    rcases hw with rfl | rfl | rfl
    all_goals
      unfold isStepX
      rw [if_neg (by decide), if_neg (by decide), if_pos (by decide)]
      exact this
  | line hw hz =>
    rename_i w z
    have hz := hmem hz
    simp only [List.mem_cons, List.not_mem_nil, or_false] at hw
    show isStepX _ _ w (.str z) = true
    rcases hw with rfl | rfl | rfl
    all_goals
      unfold isStepX
      rw [if_pos (by decide)]
      dsimp only
      rw [hz, decide_eq_false (show ¬ V.str _ = V.str "quiet" by decide)]
      rfl
  | quiet hz =>
    rename_i z
    have e := kinds_mem hn hz
    show isStepX _ _ "quiet" (.str z) = true
    unfold isStepX
    rw [if_pos (by decide)]
    dsimp only
    rw [e]
    simp
  | later hz => exact stepX_later (flatw hz)
theorem short_key {nk : NK} {ws : List Str} {s : Str × Key} (h : FitSt nk ws s) (hk : ∀ z ∈ nk.map (·.1), z ∈ nmA) (hw : ∀ z ∈ ws, z ∈ nmA) : short (dSt s) = true := by
  have st : ∀ {w : Str} {z : Str}, short (.str w) = true → z ∈ nmA → short (dSt (w, (.inr z : Key))) = true := fun {w z} h1 hz => by
    show (short (.str w) && (short (.str z) && true)) = true
    rw [h1, (nmA_name z hz).2.1]
    rfl
  cases h with
  | run _ _ => exact (show (short (.str "run") && (true && true)) = true by decide +kernel)
  | bar _ _ => exact (show (short (.str "bar") && (true && true)) = true by decide +kernel)
  | flag hw _ _ =>
    simp only [List.mem_cons, List.not_mem_nil, or_false] at hw
    rcases hw with rfl | rfl | rfl
    · exact (show (short (.str "set") && (true && true)) = true by decide +kernel)
    · exact (show (short (.str "clear") && (true && true)) = true by decide +kernel)
    · exact (show (short (.str "await") && (true && true)) = true by decide +kernel)
  | line hw hz =>
    have hz := hk _ hz
    simp only [List.mem_cons, List.not_mem_nil, or_false] at hw
    rcases hw with rfl | rfl | rfl
    · exact st (by decide +kernel) hz
    · exact st (by decide +kernel) hz
    · exact st (by decide +kernel) hz
  | quiet hz => exact st (by decide +kernel) (hk _ (List.mem_map.mpr ⟨_, hz, rfl⟩))
  | later hz => exact st (by decide +kernel) (hw _ hz)
theorem plan_fit {ls : List Ln} {ws : List Wk} (hl : ∀ l ∈ ls, FitLn (nkOf ls) (ws.map (·.nm)) l) (hn : (ls.map (·.nm)).Nodup) (hne : ls ≠ []) (h12 : ls.length ≤ 12) (hwn : (ws.map (·.nm)).Nodup) (hw8 : ws.length ≤ 8) (hwk : ∀ w ∈ ws, FitWk w) : Pl.Ok ⟨ls, ws⟩ := by
  have hk : ∀ z ∈ (nkOf ls).map (·.1), z ∈ nmA := fun z hz => by
    rw [nk_names] at hz
    obtain ⟨l, h, rfl⟩ := List.mem_map.mp hz
    exact (hl l h).nm
  have hw : ∀ z ∈ ws.map (·.nm), z ∈ nmA := fun z hz => by
    obtain ⟨l, h, rfl⟩ := List.mem_map.mp hz
    exact (hwk l h).nm
  refine ⟨hne, h12, hw8, fun l h => ?_, fun w h => ?_, hn, hwn, fun l h s hs => ?_, fun l h => ?_, fun w h => ?_⟩
  · have g := hl l h
    have h1 := (nmA_name _ g.nm).1
    show (isName (.str l.nm) && (isKind (.str l.kd) && (isIntD 1 9 (.int l.rk) && isSteps 8 (.tuple (l.st.map dSt))))) = true
    have h2 : isKind (.str l.kd) = true := by rcases g.kd with e | e <;> (rw [e]; decide)
    have h3 : isIntD 1 9 (.int l.rk) = true := decide_eq_true ⟨g.r1, g.r9⟩
    have h4 : isSteps 8 (.tuple (l.st.map dSt)) = true := by
      have p1 : 0 < l.st.length := List.length_pos_iff.mpr g.ne
      have p2 := g.s8
      simp only [isSteps, List.length_map, Bool.and_eq_true, decide_eq_true_eq]
      omega
    rw [h1, h2, h3, h4]
    rfl
  · have g := hwk w h
    have h1 := (nmA_name _ g.nm).1
    show (isName (.str w.nm) && (isIntD 1 9 (.int w.rk) && isIntD 1 99 (.int w.tk))) = true
    have h2 : isIntD 1 9 (.int w.rk) = true := decide_eq_true ⟨g.r1, g.r9⟩
    have h3 : isIntD 1 99 (.int w.tk) = true := decide_eq_true ⟨g.t1, g.t9⟩
    rw [h1, h2, h3]
    rfl
  · exact stepX_fit hn ((hl l h).st s hs)
  · have g := hl l h
    show (short (.str l.nm) && (short (.str l.kd) && (true && (shorts (l.st.map dSt) && true)))) = true
    have h1 := (nmA_name _ g.nm).2.1
    have h2 : short (.str l.kd) = true := by rcases g.kd with e | e <;> (rw [e]; decide +kernel)
    have h3 : shorts (l.st.map dSt) = true := shorts_map fun s hs => short_key (g.st s hs) hk hw
    rw [h1, h2, h3]
    rfl
  · have g := hwk w h
    obtain ⟨_, h1, h2⟩ := nmA_name _ g.nm
    refine ⟨?_, h2⟩
    show (short (.str w.nm) && (true && (true && true))) = true
    rw [h1]
    rfl
end Z
set_option maxHeartbeats 1000000
namespace Z
open PySem PySem.Spec PyProof.Rows L2
def nm6 : List Str := ["net", "disk", "heat", "fan", "a", "ab"]
/-- a set-up as it is drawn -/
structure Drawn (P : Pl) : Prop where
  fit : ∀ l ∈ P.ls, FitLn (nkOf P.ls) P.wnames l
  nd : P.names.Nodup
  ne : P.ls ≠ []
  six : ∀ z ∈ P.names, z ∈ nm6
  wf : ∀ w ∈ P.ws, FitWk w
  wn : ∃ k, P.wnames = nmW.take k
theorem Drawn.l6 {P : Pl} (d : Drawn P) : P.ls.length ≤ 6 := by
  have h : Sub P.names nm6 := ⟨d.nd, d.six⟩
  have := h.len
  unfold Pl.names at this
  rw [List.length_map] at this
  exact this
theorem Drawn.w2 {P : Pl} (d : Drawn P) : P.ws.length ≤ 2 := by
  obtain ⟨k, e⟩ := d.wn
  have h := congrArg List.length e
  unfold Pl.wnames at h
  rw [List.length_map, List.length_take] at h
  have : nmW.length = 2 := rfl
  omega
theorem Drawn.ok {P : Pl} (d : Drawn P) : P.Ok := by
  have h6 := d.l6
  have h2 := d.w2
  refine plan_fit (ls := P.ls) (ws := P.ws) d.fit d.nd d.ne (by omega) ?_ (by omega) d.wf
  obtain ⟨k, e⟩ := d.wn
  show P.wnames.Nodup
  rw [e]
  exact List.Nodup.sublist (List.take_sublist _ _) (by decide)
theorem nm6_A : ∀ z ∈ nm6, z ∈ nmA := by decide
theorem perm_strs {ys : List V} {l : List Str} (h : ys.Perm (l.map V.str)) : ∃ m : List Str, ys = m.map V.str ∧ m.Perm l := by
  have h1 : ∀ y ∈ ys, ∃ z, y = V.str z := fun y hy => by
    obtain ⟨z, _, e⟩ := List.mem_map.mp (h.mem_iff.mp hy)
    exact ⟨z, e.symm⟩
  obtain ⟨m, rfl⟩ : ∃ m : List Str, ys = m.map V.str := by
    clear h
    induction ys with
    | nil => exact ⟨[], rfl⟩
    | cons y ys ih =>
      obtain ⟨z, rfl⟩ := h1 y (by simp)
      obtain ⟨m, rfl⟩ := ih fun y hy => h1 y (by simp [hy])
      exact ⟨z :: m, rfl⟩
  refine ⟨m, rfl, ?_⟩
  have h2 := h.map (fun v : V => match v with | .str z => z | _ => "")
  rw [List.map_map, List.map_map] at h2
  have e : ∀ l : List Str, l.map ((fun v : V => match v with | .str z => z | _ => "") ∘ V.str) = l := fun l => by
    rw [show ((fun v : V => match v with | .str z => z | _ => "") ∘ V.str) = (id : Str → Str) from rfl, List.map_id]
  rw [e, e] at h2
  exact h2
theorem perm_ints {ys : List V} {l : List Int} (h : ys.Perm (l.map V.int)) : ∃ m : List Int, ys = m.map V.int ∧ m.Perm l := by
  have h1 : ∀ y ∈ ys, ∃ z, y = V.int z := fun y hy => by
    obtain ⟨z, _, e⟩ := List.mem_map.mp (h.mem_iff.mp hy)
    exact ⟨z, e.symm⟩
  obtain ⟨m, rfl⟩ : ∃ m : List Int, ys = m.map V.int := by
    clear h
    induction ys with
    | nil => exact ⟨[], rfl⟩
    | cons y ys ih =>
      obtain ⟨z, rfl⟩ := h1 y (by simp)
      obtain ⟨m, rfl⟩ := ih fun y hy => h1 y (by simp [hy])
      exact ⟨z :: m, rfl⟩
  refine ⟨m, rfl, ?_⟩
  have h2 := h.map (fun v : V => match v with | .int z => z | _ => 0)
  rw [List.map_map, List.map_map] at h2
  have e : ∀ l : List Int, l.map ((fun v : V => match v with | .int z => z | _ => 0) ∘ V.int) = l := fun l => by
    rw [show ((fun v : V => match v with | .int z => z | _ => 0) ∘ V.int) = (id : Int → Int) from rfl, List.map_id]
  rw [e, e] at h2
  exact h2
end Z
set_option maxHeartbeats 1000000
namespace Z
open PySem PySem.Spec PyProof.Rows L2
theorem strOk_name {z : Str} (h : isName (.str z) = true) : (PyData.str z).canLay0 = true := by
  unfold isName at h
  have h1 := (Bool.and_eq_true_iff.mp h).1
  unfold isWord at h1
  have h2 := List.all_eq_true.mp (Bool.and_eq_true_iff.mp h1).2
  have h3 : ∀ x ∈ letters, decide (x < 1114112) = true := by decide +kernel
  show (z.cps.all fun x => decide (x < 1114112)) = true
  rw [← Array.all_toList]
  exact List.all_eq_true.mpr fun x hx => h3 x (of_decide_eq_true (h2 x hx))
theorem Pl.Ok.lay {P : Pl} (ok : P.Ok) {z : Str} (h : z ∈ P.names ∨ z ∈ P.wnames) : (PyData.str z).canLay0 = true := by
  rcases h with h | h
  · have h2 := ok.lok _ (ok.ln_mem h).1
    rw [← (ok.ln_mem h).2]
    exact strOk_name (Bool.and_eq_true_iff.mp (show (isName (.str (P.ln z).nm) && _) = true from h2)).1
  · have h2 := (ok.shw _ (ok.wk_mem h).1).2
    rw [(ok.wk_mem h).2] at h2
    exact h2
theorem RowAt.kept {K : Fg} {H H1 H2 : Hp} {r sc : Addr} {ns : List Int} {N : List Addr} (h0 : RowAt K H r sc ns) (h : RowAt K H1 r sc ns) (f : Fr N H1 H2) (hN : ∀ a ∈ N, H a = none) : RowAt K H2 r sc ns := by
  refine h.keep f (fun z => h0.ex (hN _ z)) ?_
  rcases h0.scr with (k | ⟨o, k⟩) | k
  · exact .inl fun z => by rw [hN _ z] at k; cases k
  · exact .inl fun z => by rw [hN _ z] at k; cases k
  · exact .inr fun _ => .inr k
theorem perm_erase {α : Type} : ∀ {l : List α} {j : Nat} {y : α}, l[j]? = some y → (y :: l.eraseIdx j).Perm l
  | [], _, _, h => by simp at h
  | x :: l, 0, y, h => by
    simp only [List.getElem?_cons_zero, Option.some.injEq] at h
    subst h
    exact .refl _
  | x :: l, j + 1, y, h => by
    rw [List.getElem?_cons_succ] at h
    rw [List.eraseIdx_cons_succ]
    exact (List.Perm.swap x y _).trans ((perm_erase h).cons x)
/-! words and names of all events -/
def evW : List Str := ["begin", "end", "done"]
def EvW (P : Pl) (es : List Ev) : Prop := ∀ e ∈ es, e.1 ∈ evW ∧ (e.2 ∈ P.names ∨ e.2 ∈ P.wnames)
theorem EvW.nil {P : Pl} : EvW P [] := by intro e h; simp at h
theorem EvW.app {P : Pl} {a b : List Ev} (h : EvW P a) (k : EvW P b) : EvW P (a ++ b) := fun e he => by
  rcases List.mem_append.mp he with he | he
  · exact h e he
  · exact k e he
theorem EvW.one {P : Pl} {w z : Str} (h : w ∈ evW) (k : z ∈ P.names ∨ z ∈ P.wnames) : EvW P [(w, z)] := fun e he => by
  rw [List.mem_singleton.mp he]
  exact ⟨h, k⟩
theorem passL_evw {P : Pl} {fs : List Frm} {rest : List (Str × Key)} : ∀ {f : Frm} {lim : Int} {jobs : List (Str × Nat)} {B : Bd}, f.ln ∈ P.names → EvW P (passL P fs f lim jobs B rest).2.2 := by
  induction rest with
  | nil =>
    intro f lim jobs B hn
    exact EvW.one (by decide) (.inl hn)
  | cons s r ih =>
    intro f lim jobs B hn
    unfold passL
    split
    · exact EvW.nil
    · exact ih (f := { f with st := f.st + 1 }) hn
theorem pass_evw {P : Pl} {fs : List Frm} {f : Frm} {lim : Int} {jobs : List (Str × Nat)} {B : Bd} (hn : f.ln ∈ P.names) : EvW P (pass P fs f lim jobs B).2.2 := passL_evw hn
theorem spend_evw {P : Pl} {fs : List Frm} {f : Frm} {lim : Int} {jobs : List (Str × Nat)} {B : Bd} (hn : f.ln ∈ P.names) : EvW P (spend P fs f lim jobs B).2.2 := by
  unfold spend
  split
  · exact EvW.nil
  · exact pass_evw (f := { f with st := f.st + 1, tk := 0 }) hn
theorem passAll_evw {P : Pl} (ok : P.Ok) : ∀ (n : Nat) {C : Cr} {B : Bd} {es : List Ev}, COk P C B → EvW P es → EvW P (passAll P n C B es).2.2
  | 0, _, _, _, _, h => h
  | n + 1, C, B, es, h, k => by
    rcases List.eq_nil_or_concat C.frames with e | ⟨fs, f, e⟩
    · rw [passAll_nil e]; exact k
    · rw [List.concat_eq_append] at e
      cases hp : passing P B f with
      | false => rw [passAll_no e hp]; exact k
      | true =>
        rw [passAll_yes e hp]
        exact passAll_evw ok n (h.pass ok e) (k.app (pass_evw (h.fok.nm f (by rw [e]; simp))))
theorem doWork_evw {P : Pl} {jobs : List (Str × Nat)} (h : ∀ j ∈ jobs, j.1 ∈ P.wnames) : EvW P (doWork P jobs).2 := by
  unfold doWork
  split
  · exact EvW.nil
  · split
    · exact EvW.nil
    · rename_i j hj
      split
      · exact EvW.nil
      · exact EvW.one (by decide) (.inr (h j (List.mem_of_getElem? hj)))
theorem tick_evw {P : Pl} (ok : P.Ok) {C : Cr} {B : Bd} (h : COk P C B) : EvW P (C.tick P B).2.2.2 := by
  have h1 := passAll_evw ok (left P C.frames) h EvW.nil
  have h3 := COk.passAll ok (left P C.frames) (es := []) h
  unfold Cr.tick
  generalize passAll P (left P C.frames) C B [] = r at h1 h3
  rcases List.eq_nil_or_concat r.1.frames with e | ⟨fs, f, e⟩
  · by_cases hj : r.1.jobs = []
    · rw [tickC_idle e hj]; exact h1
    · rw [tickC_work e hj]; exact h1.app (doWork_evw h3.jok.sub)
  · rw [List.concat_eq_append] at e
    by_cases hw : (stepOf P f).1 = "await"
    · rw [tickC_spun e hw]; exact h1
    · rw [tickC_call e hw]; exact h1.app (spend_evw (h3.fok.nm f (by rw [e]; simp)))
theorem takeC_evw {P : Pl} {C : Cr} {B : Bd} : EvW P (takeC P C B).2.2 := by
  unfold takeC
  cases e : ready P B with
  | nil => exact EvW.nil
  | cons z r =>
    dsimp only
    split
    · have hz := (can_names e).1
      exact EvW.app (EvW.one (w := "begin") (by decide) (.inl hz)) (pass_evw (f := ⟨z, 0, 0, C.limit⟩) hz)
    · exact EvW.nil
theorem Sg.tick_evw {P : Pl} (ok : P.Ok) {G : Sg} (h : COk P G.C G.B) : EvW P (G.tick P).2 := takeC_evw.app (Z.tick_evw ok (takeC_ok ok h))
end Z
set_option maxHeartbeats 1000000
namespace Z
open PySem PySem.Spec PyProof.Rows L2
/-! ### comprehensions that draw numbers -/
section
variable {K : Fg} {σ : L2.St} {H1 : Hp} {Q : VK} {g : TG} {tt : TT} {te : TE} {vs : List Nat} {a r sc : Addr} {ns : List Int} {zs : List V} {α : Type}
theorem lcL_row (e : H1 a = some (.lst zs)) (ar : a ≠ r) (row1 : RowAt K H1 r sc ns) (hl : zs.length ≤ 40000) (R : Nat → α → Prop) (f : α → PyData) (hf : ∀ x, tupd (f x) = true)
    (hs : ∀ (i : Nat) (x : V) (Ha : Hp) (Yes : VK) (No : Hp → Prop), zs[i]? = some x → Fr [r] H1 Ha → RowAt K Ha r sc ns → (∀ y H4 b, Fr [r] Ha H4 → RowAt K H4 r sc ns → R i b → Dp K H4 y (f b) → Yes y H4) →
      g x (wipe σ vs) Ha fun σ2 H2 => wipe σ2 vs = wipe σ vs ∧ tt σ2 H2 fun b H3 => if b = true then te σ2 H3 Yes else No H3)
    (hd : ∀ D H' ys (l : List α), H1 D = none → Fr [r] H1 H' → RowAt K H' r sc ns → H' D = some (.lst ys) → l.length = zs.length → (∀ k x, l[k]? = some x → R k x) → DpAll K H' ys (l.map f) → Q (.ref D) H') : LcL K g tt te vs σ Q (.ref a) H1 := by
  refine ⟨a, rfl, ⟨_, SqL.of e⟩, fun D hD => lc_rel (K := K) (walk_list (xs := zs)) R f [r] (fun Ha => RowAt K Ha r sc ns) hD hl hf (fun b hb => by rw [List.mem_singleton.mp hb]; exact row1.ex) row1 (fun Ha Hb fr h => row1.kept h fr (by simpa using hD)) (fun Ha Hb s h => h.same s) (fun Ha fr h => fr.sqL (SqL.of e) (by simp [ar])) (fun i Ha x Hb y => by rw [y.1]; exact Same.refl _) (fun i x Ha Hb Yes No hi fa rowa y yes => ?_) (fun H4 ys l f4 row4 e4 hl4 hr4 a4 => hd D H4 ys l hD f4 row4 e4 hl4 hr4 a4)⟩
  obtain ⟨rfl, hx⟩ := y
  exact hs i x Hb Yes No hx fa rowa yes
theorem lcR_row {n : Nat} (row1 : RowAt K H1 r sc ns) (hl : n ≤ 40000) (R : Nat → α → Prop) (f : α → PyData) (hf : ∀ x, tupd (f x) = true)
    (hs : ∀ (i : Nat) (Ha : Hp) (Yes : VK) (No : Hp → Prop), i < n → Fr [r] H1 Ha → RowAt K Ha r sc ns → (∀ y H4 b, Fr [r] Ha H4 → RowAt K H4 r sc ns → R i b → Dp K H4 y (f b) → Yes y H4) →
      g (.int i) (wipe σ vs) Ha fun σ2 H2 => wipe σ2 vs = wipe σ vs ∧ tt σ2 H2 fun b H3 => if b = true then te σ2 H3 Yes else No H3)
    (hd : ∀ D H' ys (l : List α), H1 D = none → Fr [r] H1 H' → RowAt K H' r sc ns → H' D = some (.lst ys) → l.length = n → (∀ k x, l[k]? = some x → R k x) → DpAll K H' ys (l.map f) → Q (.ref D) H') : LcQ (Itr 0 n) g tt te vs σ Q H1 := by
  refine fun D hD => lc_rel (K := K) (walk_range (lo := 0) (n := n)) R f [r] (fun Ha => RowAt K Ha r sc ns) hD hl hf (fun b hb => by rw [List.mem_singleton.mp hb]; exact row1.ex) row1 (fun Ha Hb fr h => row1.kept h fr (by simpa using hD)) (fun Ha Hb s h => h.same s) (fun _ _ _ => True.intro) (fun i Ha x Hb y => by rw [y.1]; exact Same.refl _) (fun i x Ha Hb Yes No hi fa rowa y yes => ?_) (fun H4 ys l f4 row4 e4 hl4 hr4 a4 => hd D H4 ys l hD f4 row4 e4 hl4 hr4 a4)
  obtain ⟨rfl, rfl⟩ := y
  have := hs i Hb Yes No hi fa rowa yes
  dsimp only
  rw [Int.zero_add]
  exact this
end
def gS (l : List Str) (k : Nat) : Str := (l[k]?).getD ""
theorem gS_eq {l : List Str} {k : Nat} (h : k < l.length) : l[k]? = some (gS l k) := by
  unfold gS
  rw [List.getElem?_eq_getElem h]
  rfl
theorem gS_map {l : List Str} {k : Nat} (h : k < l.length) : (l.map V.str)[k]? = some (V.str (gS l k)) := by
  rw [List.getElem?_map, gS_eq h]
  rfl
theorem rel_all {α : Type} {R : Nat → α → Prop} {l : List α} (h : ∀ k x, l[k]? = some x → R k x) : ∀ x ∈ l, ∃ k, R k x := fun x hx => by
  obtain ⟨i, hi⟩ := List.mem_iff_getElem?.mp hx
  exact ⟨i, h i x hi⟩
end Z
set_option maxHeartbeats 1000000
namespace Z
open PySem PySem.Spec PyProof.Rows L2
/-- a plain set-up as it is drawn -/
structure PlainP (P : Pl) : Prop where
  ws : P.ws = []
  fit : ∀ l ∈ P.ls, FitLn (nkOf P.ls) [] l
  nd : P.names.Nodup
  ne : P.ls ≠ []
  six : ∀ z ∈ P.names, z ∈ nm6
  rks : (P.ls.map (·.rk)).Nodup
  edge : ∀ l ∈ P.ls, l.kd = "edge"
  run : ∀ l ∈ P.ls, ∀ s ∈ l.st, s.1 = "run"
theorem PlainP.l6 {P : Pl} (d : PlainP P) : P.ls.length ≤ 6 := by
  have h : Sub P.names nm6 := ⟨d.nd, d.six⟩
  have := h.len
  unfold Pl.names at this
  rw [List.length_map] at this
  exact this
theorem PlainP.ok {P : Pl} (d : PlainP P) : P.Ok := by
  have h6 := d.l6
  have e := d.ws
  refine plan_fit (ls := P.ls) (ws := P.ws) (fun l hl => ?_) d.nd d.ne (by omega) (by rw [e]; exact .nil) (by rw [e]; decide) (fun w hw => by rw [e] at hw; cases hw)
  rw [e]
  exact d.fit l hl
def gI (l : List Int) (k : Nat) : Int := (l[k]?).getD 0
theorem gI_eq {l : List Int} {k : Nat} (h : k < l.length) : l[k]? = some (gI l k) := by
  unfold gI
  rw [List.getElem?_eq_getElem h]
  rfl
theorem gI_map {l : List Int} {k : Nat} (h : k < l.length) : (l.map V.int)[k]? = some (V.int (gI l k)) := by
  rw [List.getElem?_map, gI_eq h]
  rfl
def oneTo9 : List Int := [1, 2, 3, 4, 5, 6, 7, 8, 9]
theorem rgV_19 : rgV 1 10 = oneTo9.map V.int := by kernel_rfl
theorem s_rg12 {a b : Int} {σ : L2.St} {H : Hp} {Q : VK} (ok : RgOk a b) (q : ∀ p, H p = none → Q (.ref p) (upd H p (.lst (rgV a b)))) : tLstRg (tRg2 (tC (.int a)) (tC (.int b))) σ H Q := ⟨a, b, rfl, rfl, ok, q⟩
end Z
set_option maxHeartbeats 1000000
namespace Z
open PySem PySem.Spec PyProof.Rows L2
/-- lines whose names are given, with steps that fit any lines -/
theorem plan_names {ls : List Ln} {ws : List Wk} {N : List Str} (hN : N.Nodup) (hNe : N ≠ []) (h12 : N.length ≤ 12) (hnm : ls.map (·.nm) = N) (hl : ∀ l ∈ ls, FitLn (nkOf ls) (ws.map (·.nm)) l) (hwn : (ws.map (·.nm)).Nodup) (hw8 : ws.length ≤ 8) (hwk : ∀ w ∈ ws, FitWk w) : Pl.Ok ⟨ls, ws⟩ := by
  have hll : ls.length = N.length := by rw [← hnm, List.length_map]
  refine plan_fit hl (by rw [hnm]; exact hN) (fun e => ?_) (by omega) hwn hw8 hwk
  rw [e] at hnm
  exact hNe hnm.symm
/-- the list that a script begins with -/
theorem row_new {K : Fg} {H H1 : Hp} {r sc : Addr} {ns : List Int} (hsc : SqL K H sc (ns.map V.int)) (hr : H r = none) (s1 : Same H H1) (e1 : H1 r = some (.lst [.ref sc, .int 0, .int 0, .int 0])) : RowAt K H1 r sc ns := by
  have hS0 : H sc ≠ none ∨ ∀ H, SqL K H sc (ns.map V.int) := by
    rcases hsc with (h | ⟨o, h⟩) | h
    · exact .inl (by rw [h]; simp)
    · exact .inl (by rw [h]; simp)
    · exact .inr fun H => .inr h
  exact ⟨⟨0, 0, 0, e1, by omega, by omega, by omega⟩, s1.seq hsc, hS0.imp (fun h e => h (by rw [e]; exact hr)) id⟩
theorem tds_st (l : List (Str × Key)) : tupds (l.map dSt) = true := tupds_map tupd_dSt l
theorem tds_ln (l : List Ln) : tupds (l.map dLn) = true := tupds_map tupd_dLn l
theorem dp_step {K : Fg} {H : Hp} {t : Addr} {w : Str} {k : Key} (h : SqT K H t [.str w, kV k]) : Dp K H (.ref t) (dSt (w, k)) := by
  refine .tup h (.cons (.str _) (.cons ?_ .nil))
  cases k with
  | inl i => exact .int i
  | inr z => exact .str z
end Z
set_option maxHeartbeats 1000000
namespace Z
open PySem PySem.Spec PyProof.Rows L2
theorem if_e {c : TT} {ta tb : TS} {D : Ends} {σ : L2.St} {H : Hp} (Ex : L2.St → Hp → Prop) (hx : ∀ σ H, Ex σ H → D.nx σ H) (h : (∀ σ H, Ex σ H → D.nx σ H) → tIfS c ta tb D σ H) : tIfS c ta tb D σ H := h hx
/-- kinds by names, in a dict -/
def kdV (nk : NK) : List (Key × V) := nk.map fun x => (.inr x.1, .str x.2)
theorem kdV_zip (nk : NK) : (nk.map fun x => (Sum.inr x.1 : Key)).zip (nk.map fun x => V.str x.2) = kdV nk := by
  unfold kdV
  rw [← List.zip_map']
theorem kdV_mem : ∀ {nk : NK}, (nk.map (·.1)).Nodup → ∀ {z k : Str}, (z, k) ∈ nk → valV (kdV nk) (.inr z) = some (.str k)
  | [], _, _, _, h => by cases h
  | x :: nk, hn, z, k, h => by
    rw [List.map_cons, List.nodup_cons] at hn
    rcases List.mem_cons.mp h with e | h
    · subst e
      exact valV_pos rfl
    · have hne : ¬ x.1 = z := fun e => hn.1 (by
        rw [e]
        exact List.mem_map.mpr ⟨_, h, rfl⟩)
      unfold kdV
      rw [List.map_cons, valV_neg (fun q => hne (Sum.inr.inj q))]
      exact kdV_mem hn.2 h
theorem dp_kd {K : Fg} {H : Hp} : ∀ {nk : NK} {vs : List V}, DpAll K H vs (nk.map fun x => PyData.str x.2) → vs = nk.map fun x => V.str x.2
  | [], _, .nil => rfl
  | _ :: nk, _, .cons h t => by
    cases h
    rw [dp_kd t]
    rfl
end Z
set_option maxHeartbeats 1000000
namespace Z
open PySem PySem.Spec PyProof.Rows L2
/-! ### plain set-ups: edges with run steps alone -/
structure Pln (P : Pl) : Prop where
  ok : P.Ok
  edge : ∀ l ∈ P.ls, l.kd = "edge"
  run : ∀ l ∈ P.ls, ∀ s ∈ l.st, s.1 = "run"
  jobs : P.ws = []
theorem PlainP.pln {P : Pl} (d : PlainP P) : Pln P := ⟨d.ok, d.edge, d.run, d.ws⟩
def onward (P : Pl) (f : Frm) : Option Frm := if (f.tk : Int) + 1 < kI (stepOf P f).2 then some { f with tk := f.tk + 1 } else if f.st + 1 < (P.ln f.ln).st.length then some { f with st := f.st + 1, tk := 0 } else none
section
variable {P : Pl}
theorem Pln.st (pn : Pln P) {z : Str} (hz : z ∈ P.names) {i : Nat} {s : Str × Key} (h : (P.ln z).st[i]? = some s) : s.1 = "run" := pn.run _ (pn.ok.ln_mem hz).1 s (List.mem_of_getElem? h)
theorem Pln.st0 (pn : Pln P) {z : Str} (hz : z ∈ P.names) : 0 < (P.ln z).st.length := by
  have h := pn.ok.lok _ (pn.ok.ln_mem hz).1
  have h2 : isSteps 8 (.tuple ((P.ln z).st.map dSt)) = true := by
    have : (isName (.str (P.ln z).nm) && (isKind (.str (P.ln z).kd) && (isIntD 1 9 (.int (P.ln z).rk) && isSteps 8 (.tuple ((P.ln z).st.map dSt))))) = true := h
    simp only [Bool.and_eq_true] at this
    exact this.2.2.2
  simp only [isSteps, List.length_map, Bool.and_eq_true, decide_eq_true_eq] at h2
  omega
theorem pass_plain (pn : Pln P) {fs : List Frm} {f : Frm} {lim : Int} {jobs : List (Str × Nat)} {B : Bd} (hn : f.ln ∈ P.names) :
    pass P fs f lim jobs B = if f.st < (P.ln f.ln).st.length then ((⟨fs ++ [f], lim, jobs⟩, B, []) : Cr × Bd × List Ev) else (⟨fs, f.kp, jobs⟩, B.ended f.ln, [("end", f.ln)]) := by
  unfold pass
  by_cases h : f.st < (P.ln f.ln).st.length
  · rw [if_pos h, drop_at h]
    unfold passL
    have hr := pn.st hn (List.getElem?_eq_getElem h)
    rw [if_pos]
    unfold stops
    rw [decide_eq_true hr]
    rfl
  · rw [if_neg h, List.drop_eq_nil_of_le (by omega)]
    rfl
theorem takeC_plain (pn : Pln P) {C : Cr} {B : Bd} : takeC P C B = match ready P B with
    | [] => (C, B, [])
    | z :: _ => if C.may P z = true then (⟨C.frames ++ [⟨z, 0, 0, C.limit⟩], C.limit, C.jobs⟩, B.begun z, [("begin", z)]) else (C, B, []) := by
  unfold takeC
  cases e : ready P B with
  | nil => rfl
  | cons z r =>
    have hz := (can_names e).1
    dsimp only
    rw [pass_plain pn (f := ⟨z, 0, 0, C.limit⟩) hz, if_pos (pn.st0 hz)]
theorem spend_plain (pn : Pln P) {fs : List Frm} {f : Frm} {lim : Int} {jobs : List (Str × Nat)} {B : Bd} (hn : f.ln ∈ P.names) :
    spend P fs f lim jobs B = match onward P f with
      | some g => (⟨fs ++ [g], lim, jobs⟩, B, [])
      | none => (⟨fs, f.kp, jobs⟩, B.ended f.ln, [("end", f.ln)]) := by
  unfold spend onward
  split
  · rfl
  · rw [pass_plain pn (f := { f with st := f.st + 1, tk := 0 }) hn]
    dsimp only
    split <;> rfl
/-- what is kept with plain set-ups -/
structure PIn (P : Pl) (G : Sg) : Prop where
  lim : G.C.limit = 0
  kp : ∀ f ∈ G.C.frames, f.kp = 0
  jobs : G.C.jobs = []
  shut : G.B.shut = []
  high : G.B.high = []
  mod : ∃ M, Both P M G
def pBeg (P : Pl) (G : Sg) : Option Str := match ready P G.B with
  | [] => none
  | z :: _ => if G.C.may P z = true then some z else none
def pIn (P : Pl) (G : Sg) : List Frm := G.C.frames ++ (pBeg P G).toList.map fun z => ⟨z, 0, 0, 0⟩
def pOn (P : Pl) (fs : List Frm) : List Frm := match fs.getLast? with
  | none => []
  | some f => fs.dropLast ++ (onward P f).toList
def pEnd (P : Pl) (fs : List Frm) : List Ev := match fs.getLast? with
  | none => []
  | some f => if onward P f = none then [("end", f.ln)] else []
theorem PIn.start (pn : Pln P) : PIn P (Sg.start P) := ⟨rfl, by simp [Sg.start], rfl, rfl, rfl, _, Both.start P⟩
theorem onward_ln {f g : Frm} (h : onward P f = some g) : g.ln = f.ln ∧ g.kp = f.kp := by
  unfold onward at h
  split at h
  · cases h; exact ⟨rfl, rfl⟩
  · split at h
    · cases h; exact ⟨rfl, rfl⟩
    · cases h
theorem onward_none {f : Frm} : (onward P f).isNone = decide (onward P f = none) := by cases onward P f <;> rfl
/-- a tick with a plain set-up -/
structure PTick (P : Pl) (G G' : Sg) (es : List Ev) : Prop where
  fr : G'.C.frames = pOn P (pIn P G)
  es : es = (pBeg P G).toList.map (fun z => (("begin" : Str), z)) ++ pEnd P (pIn P G)
  wa : G'.B.wanted = match pBeg P G with
    | none => G.B.wanted
    | some z => (putL G.B.wanted z false).1
  su : G'.sums = bump G.sums (if pIn P G = [] then "idle" else "call")
  ti : G'.time = G.time + 1
  inv : PIn P G'
theorem tick_plain (pn : Pln P) {G : Sg} (h : PIn P G) : PTick P G (G.tick P).1 (G.tick P).2 := by
  obtain ⟨M, b⟩ := h.mod
  have ok := pn.ok
  have bt := (b.tick ok).1
  have nm := b.inv.cok.fok.nm
  -- the call that begins
  have tk : ∃ C1 B1, (takeC P G.C G.B).1 = C1 ∧ (takeC P G.C G.B).2.1 = B1 ∧ (takeC P G.C G.B).2.2 = (pBeg P G).toList.map (fun z => (("begin" : Str), z)) ∧ C1.frames = pIn P G ∧ C1.limit = 0 ∧ C1.jobs = [] ∧ B1.shut = [] ∧ B1.high = [] ∧
      (B1.wanted = match pBeg P G with | none => G.B.wanted | some z => (putL G.B.wanted z false).1) ∧ (∀ f ∈ C1.frames, f.kp = 0) ∧ ∀ f ∈ C1.frames, f.ln ∈ P.names := by
    rw [takeC_plain pn]
    unfold pIn pBeg
    cases e : ready P G.B with
    | nil => exact ⟨_, _, rfl, rfl, rfl, by simp, h.lim, h.jobs, h.shut, h.high, rfl, h.kp, nm⟩
    | cons z r =>
      have hz := (can_names e).1
      dsimp only
      by_cases hm : G.C.may P z = true
      · rw [if_pos hm, if_pos hm]
        refine ⟨_, _, rfl, rfl, rfl, ?_, h.lim, h.jobs, h.shut, h.high, rfl, fun f hf => ?_, fun f hf => ?_⟩
        · show G.C.frames ++ [⟨z, 0, 0, G.C.limit⟩] = G.C.frames ++ [⟨z, 0, 0, 0⟩]
          rw [h.lim]
        · rcases List.mem_append.mp hf with hf | hf
          · exact h.kp f hf
          · rw [List.mem_singleton.mp hf]
            exact h.lim
        · rcases List.mem_append.mp hf with hf | hf
          · exact nm f hf
          · rw [List.mem_singleton.mp hf]
            exact hz
      · rw [if_neg hm, if_neg hm]
        exact ⟨_, _, rfl, rfl, rfl, by simp, h.lim, h.jobs, h.shut, h.high, rfl, h.kp, nm⟩
  obtain ⟨C1, B1, e1, e2, e3, h1, h2, h3, h4, h5, h6, h7, h8⟩ := tk
  have eT : G.tick P = (⟨(C1.tick P B1).2.2.1, (C1.tick P B1).2.1, G.time + 1, bump G.sums (C1.tick P B1).1⟩, (pBeg P G).toList.map (fun z => (("begin" : Str), z)) ++ (C1.tick P B1).2.2.2) := by
    unfold Sg.tick
    rw [e1, e2, e3]
  -- nobody passes
  have np : passAll P (left P C1.frames) C1 B1 [] = (C1, B1, []) := by
    rcases List.eq_nil_or_concat C1.frames with e | ⟨fs, f, e⟩
    · exact passAll_nil e
    · rw [List.concat_eq_append] at e
      refine passAll_no e ?_
      have hn := h8 f (by rw [e]; simp)
      unfold passing
      split
      · rename_i s hs
        have := pn.st hn hs
        rw [this, decide_eq_false (show ¬ ("run" : Str) = "await" by decide)]
        rfl
      · rfl
  have eC : C1.tick P B1 = tickC P C1 B1 [] := by
    unfold Cr.tick
    rw [np]
  rw [eC] at eT
  rcases List.eq_nil_or_concat C1.frames with e | ⟨fs, f, e⟩
  · rw [tickC_idle e h3] at eT
    have ei : pIn P G = [] := by rw [← h1, e]
    rw [eT] at bt ⊢
    refine ⟨?_, ?_, h6, ?_, rfl, ⟨h2, h7, h3, h4, h5, _, bt⟩⟩
    · show C1.frames = _
      rw [ei, e]
      rfl
    · show _ ++ [] = _ ++ pEnd P (pIn P G)
      rw [ei]
      rfl
    · rw [if_pos ei]
  · rw [List.concat_eq_append] at e
    have ei : pIn P G = fs ++ [f] := by rw [← h1, e]
    have hn := h8 f (by rw [e]; simp)
    have hf : (stepOf P f).1 ≠ "await" := by
      unfold stepOf
      cases hs : (P.ln f.ln).st[f.st]? with
      | none => decide
      | some s =>
        show s.1 ≠ "await"
        rw [pn.st hn hs]
        decide
    rw [tickC_call e hf, h2, h3, spend_plain pn hn] at eT
    have ne : pIn P G ≠ [] := by rw [ei]; simp
    have hk := h7 f (by rw [e]; simp)
    cases eo : onward P f with
    | some g =>
      rw [eo] at eT
      dsimp only at eT
      rw [eT] at bt ⊢
      refine ⟨?_, ?_, h6, ?_, rfl, ⟨rfl, fun g2 hg => ?_, rfl, h4, h5, _, bt⟩⟩
      · show fs ++ [g] = pOn P (pIn P G)
        unfold pOn
        rw [ei, List.getLast?_concat, List.dropLast_concat]
        dsimp only
        rw [eo]
        rfl
      · show _ ++ ([] ++ []) = _ ++ pEnd P (pIn P G)
        unfold pEnd
        rw [ei, List.getLast?_concat]
        dsimp only
        rw [eo]
        rfl
      · rw [if_neg ne]
      · rcases List.mem_append.mp hg with hg | hg
        · exact h7 g2 (by rw [e]; exact List.mem_append_left _ hg)
        · rw [List.mem_singleton.mp hg, (onward_ln eo).2]
          exact hk
    | none =>
      rw [eo] at eT
      dsimp only at eT
      rw [eT] at bt ⊢
      refine ⟨?_, ?_, h6, ?_, rfl, ⟨hk, fun g2 hg => h7 g2 (by rw [e]; exact List.mem_append_left _ hg), rfl, h4, h5, _, bt⟩⟩
      · show fs = pOn P (pIn P G)
        unfold pOn
        rw [ei, List.getLast?_concat, List.dropLast_concat]
        dsimp only
        rw [eo]
        simp
      · show _ ++ ([] ++ [_]) = _ ++ pEnd P (pIn P G)
        unfold pEnd
        rw [ei, List.getLast?_concat]
        dsimp only
        rw [eo]
        rfl
      · rw [if_neg ne]
/-- a ring with a plain set-up -/
theorem PIn.ring (pn : Pln P) {G : Sg} (h : PIn P G) {z : Str} (hz : z ∈ P.names) : PIn P (G.ring P z) ∧ (G.ring P z).C = G.C ∧ (G.ring P z).sums = G.sums ∧ (G.ring P z).time = G.time ∧ ((G.B.ring P z).2 = !decide (z ∈ G.B.wanted)) ∧ ∀ y, y ∈ (G.ring P z).B.wanted ↔ y ∈ G.B.wanted ∨ y = z := by
  obtain ⟨M, b⟩ := h.mod
  have ke : (P.ln z).kd = "edge" := pn.edge _ (pn.ok.ln_mem hz).1
  have bd := (b.deed pn.ok (s := ("ring", .inr z)) (.inl ⟨by simp, z, rfl, hz⟩)).1
  have eb : (G.B.carry P (("ring" : Str), (Sum.inr z : Key))).1 = (G.B.ring P z).1 := by
    unfold Bd.carry
    rw [if_pos rfl]
    rfl
  rw [eb] at bd
  have er : G.B.ring P z = if z ∈ G.B.wanted then ({ G.B with joined := bump G.B.joined z }, false) else ({ G.B with wanted := G.B.wanted ++ [z] }, true) := by
    unfold Bd.ring
    rw [if_pos ke]
  by_cases hw : z ∈ G.B.wanted
  · rw [if_pos hw] at er
    refine ⟨⟨h.lim, h.kp, h.jobs, ?_, ?_, _, bd⟩, rfl, rfl, rfl, ?_, fun y => ?_⟩
    · show (G.B.ring P z).1.shut = []
      rw [er]; exact h.shut
    · show (G.B.ring P z).1.high = []
      rw [er]; exact h.high
    · rw [er, decide_eq_true hw]; rfl
    · show y ∈ (G.B.ring P z).1.wanted ↔ _
      rw [er]
      constructor
      · exact .inl
      · rintro (h | rfl)
        · exact h
        · exact hw
  · rw [if_neg hw] at er
    refine ⟨⟨h.lim, h.kp, h.jobs, ?_, ?_, _, bd⟩, rfl, rfl, rfl, ?_, fun y => ?_⟩
    · show (G.B.ring P z).1.shut = []
      rw [er]; exact h.shut
    · show (G.B.ring P z).1.high = []
      rw [er]; exact h.high
    · rw [er, decide_eq_false hw]; rfl
    · show y ∈ (G.B.ring P z).1.wanted ↔ _
      rw [er]
      show y ∈ G.B.wanted ++ [z] ↔ _
      rw [List.mem_append, List.mem_singleton]
end
end Z
set_option maxHeartbeats 1000000
namespace Z
open PySem PySem.Spec PyProof.Rows L2
/-! ### lines of greater ranks -/
theorem leO_rk {a b : Ln} (h1 : leO a b = true) : b.rk ≤ a.rk := by
  have e1 : PySem.W.dataLt (ordD b) (ordD a) = false := by
    have : (!PySem.W.dataLt (ordD b) (ordD a)) = true := h1
    simpa using this
  unfold ordD at e1
  rw [PySem.W.dataLt_pair (by simp [PySem.W.alike]) (by simp [PySem.W.alike]), PySem.W.dataLt_int, PySem.W.dataLt_str] at e1
  simp only [PyData.eqv, beq_iff_eq] at e1
  by_cases hr : (0 - b.rk) = 0 - a.rk
  · omega
  · rw [if_neg hr] at e1
    simp only [decide_eq_false_iff_not] at e1
    omega
theorem ready_max {P : Pl} (ok : P.Ok) {B : Bd} {z : Str} {r : List Str} (h : ready P B = z :: r) : ∀ y ∈ r, (P.ln y).rk ≤ (P.ln z).rk := by
  unfold ready at h
  rw [order_filter ok] at h
  have hs := leO_sorted (P.ls.filter fun l => B.can l.nm)
  have hm : ∀ l ∈ (P.ls.filter fun l => B.can l.nm).mergeSort leO, l ∈ P.ls := fun l hl => (List.mem_filter.mp (List.mem_mergeSort.mp hl)).1
  generalize (P.ls.filter fun l => B.can l.nm).mergeSort leO = L at h hs hm
  cases L with
  | nil => cases h
  | cons l L =>
    rw [List.map_cons] at h
    injection h with h1 h2
    subst h1 h2
    intro y hy
    obtain ⟨m, hm2, rfl⟩ := List.mem_map.mp hy
    rw [ok.ln_eq (hm l (by simp)), ok.ln_eq (hm m (by simp [hm2]))]
    exact leO_rk ((List.pairwise_cons.mp hs).1 m hm2)
def upper (P : Pl) (least : Int) : Pl := ⟨P.ls.filter fun l => decide (least ≤ l.rk), []⟩
section
variable {P : Pl} {least : Int}
theorem fit_run {nk nk' : NK} {s : Str × Key} (h : FitSt nk [] s) (e : s.1 = "run") : FitSt nk' [] s := by
  cases h with
  | run h1 h2 => exact .run h1 h2
  | bar _ _ => exact absurd (show ("bar" : Str) = "run" from e) (by decide)
  | flag hw _ _ =>
    simp only at e
    rw [e] at hw
    exact absurd hw (by decide)
  | line hw _ =>
    simp only at e
    rw [e] at hw
    exact absurd hw (by decide)
  | quiet _ => exact absurd (show ("quiet" : Str) = "run" from e) (by decide)
  | later hz => cases hz
theorem upper_ls {l : Ln} : l ∈ (upper P least).ls ↔ l ∈ P.ls ∧ least ≤ l.rk := by
  unfold upper
  rw [List.mem_filter, decide_eq_true_iff]
theorem upper_plain (d : PlainP P) (ne : (upper P least).ls ≠ []) : PlainP (upper P least) := by
  have sub : ∀ l ∈ (upper P least).ls, l ∈ P.ls := fun l hl => (upper_ls.mp hl).1
  have sl : (upper P least).ls.Sublist P.ls := List.filter_sublist
  refine ⟨rfl, fun l hl => ?_, d.nd.sublist (sl.map _), ne, fun z hz => ?_, d.rks.sublist (sl.map _), fun l hl => d.edge l (sub l hl), fun l hl => d.run l (sub l hl)⟩
  · have g := d.fit l (sub l hl)
    exact ⟨g.nm, g.kd, g.r1, g.r9, g.ne, g.s8, fun s hs => fit_run (g.st s hs) (d.run l (sub l hl) s hs)⟩
  · obtain ⟨l, hl, rfl⟩ := List.mem_map.mp hz
    exact d.six _ (List.mem_map.mpr ⟨l, sub l hl, rfl⟩)
theorem upper_mem (ok : P.Ok) {z : Str} : z ∈ (upper P least).names ↔ z ∈ P.names ∧ least ≤ (P.ln z).rk := by
  constructor
  · intro h
    obtain ⟨l, hl, rfl⟩ := List.mem_map.mp h
    obtain ⟨h1, h2⟩ := upper_ls.mp hl
    rw [ok.ln_eq h1]
    exact ⟨List.mem_map.mpr ⟨l, h1, rfl⟩, h2⟩
  · rintro ⟨h1, h2⟩
    obtain ⟨h3, h4⟩ := ok.ln_mem h1
    exact List.mem_map.mpr ⟨P.ln z, upper_ls.mpr ⟨h3, h2⟩, h4⟩
theorem upper_ln (ok : P.Ok) (ok' : (upper P least).Ok) {z : Str} (h : z ∈ (upper P least).names) : (upper P least).ln z = P.ln z := by
  obtain ⟨l, hl, rfl⟩ := List.mem_map.mp h
  rw [ok'.ln_eq hl, ok.ln_eq (upper_ls.mp hl).1]
theorem upper_order (ok : P.Ok) : (upper P least).order = P.order.filter fun z => decide (z ∈ (upper P least).names) := by
  rw [order_filter ok]
  unfold Pl.order
  congr 2
  show (P.ls.filter fun l => decide (least ≤ l.rk)) = _
  apply List.filter_congr
  intro l hl
  have h := upper_mem (P := P) (least := least) ok (z := l.nm)
  rw [ok.ln_eq hl] at h
  by_cases k : least ≤ l.rk
  · rw [decide_eq_true k, decide_eq_true (h.mpr ⟨List.mem_map.mpr ⟨l, hl, rfl⟩, k⟩)]
  · rw [decide_eq_false k, decide_eq_false fun z => k (h.mp z).2]
structure RelU (P U : Pl) (G G' : Sg) : Prop where
  fr : G'.C.frames = G.C.frames.filter fun f => decide (f.ln ∈ U.names)
  wa : ∀ z, z ∈ G'.B.wanted ↔ z ∈ G.B.wanted ∧ z ∈ U.names
theorem RelU.start {P U : Pl} : RelU P U (Sg.start P) (Sg.start U) := ⟨rfl, by simp [Sg.start]⟩
theorem pin_can {P : Pl} {G : Sg} (h : PIn P G) (z : Str) : G.B.can z = (decide (z ∈ G.B.wanted) && !decide (z ∈ G.C.frames.map (·.ln))) := by
  obtain ⟨M, b⟩ := h.mod
  unfold Bd.can Bd.waiting
  rw [h.shut, h.high]
  have ht : decide (z ∈ G.B.taken) = decide (z ∈ G.C.frames.map (·.ln)) := by
    by_cases k : z ∈ G.B.taken
    · rw [decide_eq_true k, decide_eq_true ((b.inv.tk z).mp k)]
    · rw [decide_eq_false k, decide_eq_false fun q => k ((b.inv.tk z).mpr q)]
  rw [ht]
  simp
theorem pin_may {P : Pl} (ok : P.Ok) {G : Sg} (h : PIn P G) {z : Str} (hz : z ∈ P.names) : G.C.may P z = true ↔ ∀ f ∈ G.C.frames, rkF P f < (P.ln z).rk := by
  obtain ⟨M, b⟩ := h.mod
  have hm := may_sim ok b.rel.calls b.rel.c.lim b.inv hz
  rw [← hm]
  unfold Md.may
  rw [b.rel.calls, b.rel.c.lim, h.lim, Bool.and_eq_true_iff, List.all_eq_true]
  have hp := rk_pos ok hz
  constructor
  · intro k f hf
    exact of_decide_eq_true (k.2 f hf)
  · intro k
    exact ⟨decide_eq_true (by omega), fun f hf => decide_eq_true (k f hf)⟩
theorem pBeg_some {P : Pl} (ok : P.Ok) {G : Sg} (h : PIn P G) {z : Str} (e : pBeg P G = some z) : z ∈ P.names ∧ (∀ f ∈ G.C.frames, rkF P f < (P.ln z).rk) ∧ z ∈ G.B.wanted ∧ ∀ y ∈ ready P G.B, (P.ln y).rk ≤ (P.ln z).rk := by
  unfold pBeg at e
  split at e
  · cases e
  · rename_i y r hr
    split at e
    · rename_i hm
      cases e
      obtain ⟨h1, h2⟩ := can_names hr
      rw [pin_can h] at h2
      refine ⟨h1, (pin_may ok h h1).mp hm, of_decide_eq_true (Bool.and_eq_true_iff.mp h2).1, fun y hy => ?_⟩
      rw [hr] at hy
      rcases List.mem_cons.mp hy with rfl | hy
      · exact Int.le_refl _
      · exact ready_max ok hr y hy
    · cases e
theorem pIn_rk {P : Pl} (ok : P.Ok) {G : Sg} (h : PIn P G) : ((pIn P G).map (rkF P)).Pairwise (· < ·) ∧ ∀ f ∈ pIn P G, f.ln ∈ P.names := by
  obtain ⟨M, b⟩ := h.mod
  unfold pIn
  cases e : pBeg P G with
  | none => exact ⟨by simpa using b.inv.rk, by simpa using b.inv.cok.fok.nm⟩
  | some z =>
    obtain ⟨h1, h2, _, _⟩ := pBeg_some ok h e
    refine ⟨?_, fun f hf => ?_⟩
    · rw [List.map_append, List.pairwise_append]
      refine ⟨b.inv.rk, by simp, fun x hx y hy => ?_⟩
      obtain ⟨f, hf, rfl⟩ := List.mem_map.mp hx
      have : y = (P.ln z).rk := by simpa [rkF] using hy
      rw [this]
      exact h2 f hf
    · rcases List.mem_append.mp hf with hf | hf
      · exact b.inv.cok.fok.nm f hf
      · have : f = ⟨z, 0, 0, 0⟩ := by simpa using hf
        rw [this]
        exact h1
/-- going on, seen from above -/
theorem upper_on (ok : P.Ok) (ok' : (upper P least).Ok) {fs : List Frm} (hr : (fs.map (rkF P)).Pairwise (· < ·)) (hn : ∀ f ∈ fs, f.ln ∈ P.names) :
    pOn (upper P least) (fs.filter fun f => decide (f.ln ∈ (upper P least).names)) = (pOn P fs).filter (fun f => decide (f.ln ∈ (upper P least).names)) ∧
    pEnd (upper P least) (fs.filter fun f => decide (f.ln ∈ (upper P least).names)) = (pEnd P fs).filter (fun e => decide (e.2 ∈ (upper P least).names)) := by
  rcases List.eq_nil_or_concat fs with e | ⟨gs, f, e⟩
  · subst e
    exact ⟨rfl, rfl⟩
  · rw [List.concat_eq_append] at e
    subst e
    have hf := hn f (by simp)
    have eP : pOn P (gs ++ [f]) = gs ++ (onward P f).toList := by
      unfold pOn
      rw [List.getLast?_concat, List.dropLast_concat]
    have eE : pEnd P (gs ++ [f]) = if onward P f = none then [(("end" : Str), f.ln)] else [] := by
      unfold pEnd
      rw [List.getLast?_concat]
    by_cases hu : f.ln ∈ (upper P least).names
    · have eo : onward (upper P least) f = onward P f := by
        unfold onward stepOf
        rw [upper_ln ok ok' hu]
      have ef : (gs ++ [f]).filter (fun f => decide (f.ln ∈ (upper P least).names)) = gs.filter (fun f => decide (f.ln ∈ (upper P least).names)) ++ [f] := by
        rw [List.filter_append]
        simp [hu]
      rw [ef, eP, eE]
      constructor
      · unfold pOn
        rw [List.getLast?_concat, List.dropLast_concat, List.filter_append]
        dsimp only
        rw [eo]
        congr 1
        cases e : onward P f with
        | none => rfl
        | some g =>
          have := (onward_ln e).1
          simp [this, hu]
      · unfold pEnd
        rw [List.getLast?_concat]
        dsimp only
        rw [eo]
        split
        · simp [hu]
        · rfl
    · have hlt : ¬ least ≤ (P.ln f.ln).rk := fun k => hu ((upper_mem ok).mpr ⟨hf, k⟩)
      have hg : ∀ g ∈ gs, ¬ g.ln ∈ (upper P least).names := fun g hg k => by
        have h1 := ((upper_mem ok).mp k).2
        rw [List.map_append, List.pairwise_append] at hr
        have h2 := hr.2.2 (rkF P g) (List.mem_map_of_mem hg) (rkF P f) (by simp)
        unfold rkF at h2
        omega
      have e1 : gs.filter (fun f => decide (f.ln ∈ (upper P least).names)) = [] := List.filter_eq_nil_iff.mpr fun g h => by simp [hg g h]
      have ef : (gs ++ [f]).filter (fun f => decide (f.ln ∈ (upper P least).names)) = [] := by
        rw [List.filter_append, e1]
        simp [hu]
      rw [ef, eP, eE]
      constructor
      · rw [List.filter_append, e1]
        cases e : onward P f with
        | none => rfl
        | some g =>
          have := (onward_ln e).1
          simp [this, hu]
          rfl
      · split
        · simp [hu]
          rfl
        · rfl
theorem upper_beg (pn : Pln P) (pn' : Pln (upper P least)) {G G' : Sg} (h : PIn P G) (h' : PIn (upper P least) G') (r : RelU P (upper P least) G G') : pBeg (upper P least) G' = (pBeg P G).filter fun z => decide (z ∈ (upper P least).names) := by
  have ok := pn.ok
  have ok' := pn'.ok
  have hc : ∀ z, z ∈ (upper P least).names → G'.B.can z = G.B.can z := fun z hz => by
    rw [pin_can h, pin_can h', r.fr]
    have e1 : decide (z ∈ G'.B.wanted) = decide (z ∈ G.B.wanted) := by
      by_cases k : z ∈ G.B.wanted
      · rw [decide_eq_true k, decide_eq_true ((r.wa z).mpr ⟨k, hz⟩)]
      · rw [decide_eq_false k, decide_eq_false fun q => k ((r.wa z).mp q).1]
    have e2 : (z ∈ (G.C.frames.filter fun f => decide (f.ln ∈ (upper P least).names)).map (·.ln)) ↔ z ∈ G.C.frames.map (·.ln) := by
      constructor
      · intro k
        obtain ⟨f, hf, rfl⟩ := List.mem_map.mp k
        exact List.mem_map.mpr ⟨f, (List.mem_filter.mp hf).1, rfl⟩
      · intro k
        obtain ⟨f, hf, rfl⟩ := List.mem_map.mp k
        exact List.mem_map.mpr ⟨f, List.mem_filter.mpr ⟨hf, decide_eq_true hz⟩, rfl⟩
    rw [e1]
    congr 2
    exact decide_eq_decide.mpr e2
  have hrd : ready (upper P least) G'.B = (ready P G.B).filter fun z => decide (z ∈ (upper P least).names) := by
    unfold ready
    rw [upper_order ok, List.filter_filter, List.filter_filter]
    apply List.filter_congr
    intro z _
    by_cases k : z ∈ (upper P least).names
    · rw [hc z k]
      rw [Bool.and_comm]
    · rw [decide_eq_false k]
      simp
  unfold pBeg
  rw [hrd]
  cases e : ready P G.B with
  | nil => rfl
  | cons z q =>
    have hz := (can_names e).1
    by_cases k : z ∈ (upper P least).names
    · rw [List.filter_cons_of_pos (by simpa using k)]
      dsimp only
      have em : G'.C.may (upper P least) z = G.C.may P z := by
        have a1 := pin_may ok h hz
        have a2 := pin_may ok' h' k
        have a3 : (∀ f ∈ G'.C.frames, rkF (upper P least) f < ((upper P least).ln z).rk) ↔ ∀ f ∈ G.C.frames, rkF P f < (P.ln z).rk := by
          rw [upper_ln ok ok' k, r.fr]
          constructor
          · intro q f hf
            by_cases ku : f.ln ∈ (upper P least).names
            · have := q f (List.mem_filter.mpr ⟨hf, decide_eq_true ku⟩)
              unfold rkF at this ⊢
              rw [upper_ln ok ok' ku] at this
              exact this
            · have h1 := ((upper_mem ok).mp k).2
              obtain ⟨M, b⟩ := h.mod
              have h2 : ¬ least ≤ (P.ln f.ln).rk := fun q => ku ((upper_mem ok).mpr ⟨b.inv.cok.fok.nm f hf, q⟩)
              unfold rkF
              omega
          · intro q f hf
            obtain ⟨h1, h2⟩ := List.mem_filter.mp hf
            have := q f h1
            unfold rkF at this ⊢
            rw [upper_ln ok ok' (of_decide_eq_true h2)]
            exact this
        exact Bool.eq_iff_iff.mpr (a2.trans (a3.trans a1.symm))
      rw [em]
      split
      · simp [Option.filter, k]
      · rfl
    · have hq : ∀ y ∈ z :: q, ¬ y ∈ (upper P least).names := fun y hy ku => by
        have h1 := (upper_mem ok).mp ku
        rcases List.mem_cons.mp hy with rfl | hy
        · exact k ku
        · have := ready_max ok e y hy
          exact k ((upper_mem ok).mpr ⟨hz, by omega⟩)
      rw [List.filter_eq_nil_iff.mpr fun y hy => by simp [hq y hy]]
      dsimp only
      split
      · simp [Option.filter, k]
      · rfl
theorem upper_tick (pn : Pln P) (pn' : Pln (upper P least)) {G G' : Sg} (h : PIn P G) (h' : PIn (upper P least) G') (r : RelU P (upper P least) G G') :
    RelU P (upper P least) (G.tick P).1 (G'.tick (upper P least)).1 ∧ (G'.tick (upper P least)).2 = (G.tick P).2.filter fun e => decide (e.2 ∈ (upper P least).names) := by
  have t := tick_plain pn h
  have t' := tick_plain pn' h'
  have eb := upper_beg pn pn' h h' r
  have ok := pn.ok
  obtain ⟨hr, hn⟩ := pIn_rk ok h
  have ei : pIn (upper P least) G' = (pIn P G).filter fun f => decide (f.ln ∈ (upper P least).names) := by
    unfold pIn
    rw [eb, r.fr, List.filter_append]
    congr 1
    cases pBeg P G with
    | none => rfl
    | some z =>
      by_cases k : z ∈ (upper P least).names
      · simp [Option.filter, k]
      · simp [Option.filter, k]
  obtain ⟨o1, o2⟩ := upper_on (least := least) ok pn'.ok hr hn
  obtain ⟨M, b⟩ := h.mod
  obtain ⟨M', b'⟩ := h'.mod
  refine ⟨⟨by rw [t'.fr, ei, o1, t.fr], fun y => ?_⟩, ?_⟩
  · rw [t'.wa, t.wa, eb]
    cases e : pBeg P G with
    | none => exact r.wa y
    | some z =>
      have hw := (pBeg_some ok h e).2.2.1
      by_cases k : z ∈ (upper P least).names
      · rw [show (some z).filter (fun z => decide (z ∈ (upper P least).names)) = some z by simp [Option.filter, k]]
        dsimp only
        rw [putL_mem b'.inv.cok.bok.wa.nd, putL_mem b.inv.cok.bok.wa.nd, r.wa y]
        simp only [Bool.false_eq_true, and_false, or_false]
        constructor
        · rintro ⟨⟨h1, h2⟩, h3⟩
          exact ⟨⟨h1, h3⟩, h2⟩
        · rintro ⟨⟨h1, h3⟩, h2⟩
          exact ⟨⟨h1, h2⟩, h3⟩
      · rw [show (some z).filter (fun z => decide (z ∈ (upper P least).names)) = none by simp [Option.filter, k]]
        dsimp only
        rw [putL_mem b.inv.cok.bok.wa.nd, r.wa y]
        simp only [Bool.false_eq_true, and_false, or_false]
        constructor
        · rintro ⟨h1, h2⟩
          exact ⟨⟨h1, fun q => k (by rw [← q]; exact h2)⟩, h2⟩
        · rintro ⟨⟨h1, _⟩, h2⟩
          exact ⟨h1, h2⟩
  · rw [t'.es, t.es, eb, ei, o2, List.filter_append]
    congr 1
    cases pBeg P G with
    | none => rfl
    | some z =>
      by_cases k : z ∈ (upper P least).names
      · simp [Option.filter, k]
      · simp [Option.filter, k]
theorem upper_ring (pn : Pln P) (pn' : Pln (upper P least)) {G G' : Sg} (h : PIn P G) (h' : PIn (upper P least) G') (r : RelU P (upper P least) G G') {z : Str} (hz : z ∈ P.names) :
    (z ∈ (upper P least).names → RelU P (upper P least) (G.ring P z) (G'.ring (upper P least) z) ∧ (G'.B.ring (upper P least) z).2 = (G.B.ring P z).2) ∧ (z ∉ (upper P least).names → RelU P (upper P least) (G.ring P z) G') := by
  obtain ⟨_, hC, _, _, hb, hw⟩ := h.ring pn hz
  refine ⟨fun k => ?_, fun k => ?_⟩
  · obtain ⟨_, hC', _, _, hb', hw'⟩ := h'.ring pn' k
    refine ⟨⟨by rw [hC, hC']; exact r.fr, fun y => ?_⟩, ?_⟩
    · rw [hw y, hw' y, r.wa y]
      constructor
      · rintro (⟨h1, h2⟩ | rfl)
        · exact ⟨.inl h1, h2⟩
        · exact ⟨.inr rfl, k⟩
      · rintro ⟨h1 | rfl, h2⟩
        · exact .inl ⟨h1, h2⟩
        · exact .inr rfl
    · rw [hb, hb']
      congr 1
      exact decide_eq_decide.mpr ⟨fun q => ((r.wa z).mp q).1, fun q => (r.wa z).mpr ⟨q, k⟩⟩
  · refine ⟨by rw [hC]; exact r.fr, fun y => ?_⟩
    rw [hw y, r.wa y]
    constructor
    · rintro ⟨h1, h2⟩
      exact ⟨.inl h1, h2⟩
    · rintro ⟨h1 | rfl, h2⟩
      · exact ⟨h1, h2⟩
      · exact absurd h2 k
end
end Z
set_option maxHeartbeats 1000000
namespace Z
open PySem PySem.Spec PyProof.Rows L2
/-- two processors in one heap, apart from each other and from what was there -/
structure TwoS (K : Fg) (H0 H : Hp) (A A' : SA) (P P' : Pl) (G G' : Sg) : Prop where
  s1 : SgAt K H A P G
  s2 : SgAt K H A' P' G'
  d : ∀ a ∈ A.own, a ∉ A'.own
  e1 : ∀ a ∈ A.PD.own, a ∉ A'.own
  e2 : ∀ a ∈ A'.PD.own, a ∉ A.own
  n1 : ∀ a ∈ A.own, H0 a = none
  n2 : ∀ a ∈ A'.own, H0 a = none
  p1 : ∀ a ∈ A.PD.own, H0 a = none
  p2 : ∀ a ∈ A'.PD.own, H0 a = none
section
variable {K : Fg} {H0 H H' : Hp} {A A' B : SA} {P P' : Pl} {G G' G2 : Sg}
theorem TwoS.keep (t : TwoS K H0 H A A' P P' G G') {N : List Addr} (f : Fr N H H') (n : ∀ a ∈ N, H0 a ≠ none) : TwoS K H0 H' A A' P P' G G' := by
  have z : ∀ {a}, H0 a = none → a ∉ N := fun h q => n _ q h
  exact ⟨t.s1.keep f (fun a ha => z (t.n1 a ha)) (fun a ha => z (t.p1 a ha)), t.s2.keep f (fun a ha => z (t.n2 a ha)) (fun a ha => z (t.p2 a ha)), t.d, t.e1, t.e2, t.n1, t.n2, t.p1, t.p2⟩
theorem TwoS.same (t : TwoS K H0 H A A' P P' G G') (s : Same H H') : TwoS K H0 H' A A' P P' G G' := t.keep (N := []) s.fr (by simp)
theorem TwoS.row (t : TwoS K H0 H A A' P P' G G') {r : Addr} (f : Fr [r] H H') (n : H0 r ≠ none) : TwoS K H0 H' A A' P P' G G' := t.keep f (by simpa using n)
theorem TwoS.ch1 (t : TwoS K H0 H A A' P P' G G') (bk : ∀ a, H a = none → H0 a = none) (c : ChS H A H' B) (sg : SgAt K H' B P G2) : TwoS K H0 H' B A' P P' G2 G' := by
  have ePD : B.PD = A.PD := c.PD
  refine ⟨sg, t.s2.keep c.fr (fun a ha z => t.d a z ha) t.e2, fun a ha z => ?_, by rw [ePD]; exact t.e1, fun a ha z => ?_, fun a ha => ?_, t.n2, by rw [ePD]; exact t.p1, t.p2⟩
  · rcases c.own a ha with q | q
    · exact t.d a q z
    · exact t.s2.ex a z q
  · rcases c.own a z with q | q
    · exact t.e2 a ha q
    · exact t.s2.cst.pl.ex a ha q
  · rcases c.own a ha with q | q
    · exact t.n1 a q
    · exact bk a q
theorem TwoS.swap (t : TwoS K H0 H A A' P P' G G') : TwoS K H0 H A' A P' P G' G := ⟨t.s2, t.s1, fun a ha z => t.d a z ha, t.e2, t.e1, t.n2, t.n1, t.p2, t.p1⟩
theorem TwoS.ch2 (t : TwoS K H0 H A A' P P' G G') (bk : ∀ a, H a = none → H0 a = none) (c : ChS H A' H' B) (sg : SgAt K H' B P' G2) : TwoS K H0 H' A B P P' G G2 := (t.swap.ch1 bk c sg).swap
end
/-- one processor made: apart from what was there -/
structure OneS (K : Fg) (H0 H : Hp) (A : SA) (P : Pl) (G : Sg) : Prop where
  s : SgAt K H A P G
  n : ∀ a ∈ A.own, H0 a = none
  p : ∀ a ∈ A.PD.own, H0 a = none
theorem OneS.two {K : Fg} {H0 H1 H2 : Hp} {A A' : SA} {P P' : Pl} {G G' : Sg} (x : OneS K H0 H1 A P G) (s : Same H1 H2) (bk : ∀ a, H1 a = none → H0 a = none) (y : OneS K H1 H2 A' P' G') : TwoS K H0 H2 A A' P P' G G' :=
  ⟨x.s.same s, y.s, fun a ha z => x.s.ex a ha (y.n a z), fun a ha z => x.s.cst.pl.ex a ha (y.n a z), fun a ha z => x.s.ex a z (y.p a ha), x.n, fun a ha => bk a (y.n a ha), x.p, fun a ha => bk a (y.p a ha)⟩
/-- how a processor is made of a set-up that has just been made -/
theorem made {K : Fg} {H1 H2 H3 H4 H5 : Hp} {x rd wd : Addr} {A : SA} {P : Pl} {G : Sg} (hx : H1 x = none) (s2 : Same H1 H2) (hrd : H2 rd = none) (hwd : H2 wd = none) (f3 : Fr [x] H2 H3) (hy : H3 A.s = none) (s4 : Same H3 H4) (hAP : A.PD = ⟨x, rd, wd⟩) (hown : ∀ a ∈ A.own, a = A.s ∨ H4 a = none) (f5 : Fr [A.s] H4 H5) (sg : SgAt K H5 A P G) : OneS K H1 H5 A P G ∧ Same H1 H5 := by
  have F3 : Fr [] H1 H3 := s2.fr.seq f3 (fun a ha => .inr (by rw [List.mem_singleton.mp ha]; exact hx))
  have F4 : Fr [] H1 H4 := F3.trans s4.fr
  have hy1 : H1 A.s = none := F3.back hy
  have F5 : Fr [] H1 H5 := F4.seq f5 (fun a ha => .inr (by rw [List.mem_singleton.mp ha]; exact hy1))
  refine ⟨⟨sg, fun a ha => ?_, fun a ha => ?_⟩, F5.same⟩
  · rcases hown a ha with h | h
    · rw [h]; exact hy1
    · exact F4.back h
  · rw [hAP] at ha
    simp only [Z.PA.own, List.mem_cons, List.not_mem_nil, or_false] at ha
    rcases ha with rfl | rfl | rfl
    · exact hx
    · exact s2.fr.back (A := []) hrd
    · exact s2.fr.back (A := []) hwd
theorem upper0 {P : Pl} (ok : P.Ok) : (upper P 0).ls = P.ls := List.filter_eq_self.mpr fun l hl => decide_eq_true (by
  have h := rk_pos ok (z := l.nm) (List.mem_map.mpr ⟨l, hl, rfl⟩)
  rw [ok.ln_eq hl] at h
  omega)
end Z
set_option maxHeartbeats 1000000
namespace Z
open PySem PySem.Spec PyProof.Rows L2
/-! ### data that can be compared -/
def flatD : PyData → Bool
  | .none => true
  | .bool _ => true
  | .int _ => true
  | .str z => (PyData.str z).canLay0
  | _ => false
def flatT : PyData → Bool
  | .tuple l => l.all flatD
  | _ => false
theorem flatD_lay : ∀ {d : PyData}, flatD d = true → d.canLay0 = true ∧ d.depth = 0
  | .none, _ => ⟨rfl, rfl⟩
  | .bool _, _ => ⟨rfl, rfl⟩
  | .int _, _ => ⟨rfl, rfl⟩
  | .str _, h => ⟨h, rfl⟩
theorem flatDs_lay : ∀ {l : List PyData}, l.all flatD = true → PyData.canLayAll0 l = true ∧ PyData.depthAll l = 0
  | [], _ => ⟨rfl, rfl⟩
  | x :: l, h => by
    rw [List.all_cons, Bool.and_eq_true_iff] at h
    obtain ⟨h1, h2⟩ := flatD_lay h.1
    obtain ⟨h3, h4⟩ := flatDs_lay h.2
    refine ⟨?_, ?_⟩
    · show (x.canLay0 && PyData.canLayAll0 l) = true
      rw [h1, h3]
      rfl
    · show max x.depth (PyData.depthAll l) = 0
      rw [h2, h4]
      rfl
theorem flatT_lay : ∀ {d : PyData}, flatT d = true → d.canLay0 = true ∧ d.depth = 1
  | .tuple l, h => by
    obtain ⟨h1, h2⟩ := flatDs_lay (l := l) h
    refine ⟨h1, ?_⟩
    show PyData.depthAll l + 1 = 1
    rw [h2]
theorem flatTs_lay : ∀ {l : List PyData}, l.all flatT = true → PyData.canLayAll0 l = true ∧ PyData.depthAll l ≤ 1
  | [], _ => ⟨rfl, Nat.zero_le _⟩
  | x :: l, h => by
    rw [List.all_cons, Bool.and_eq_true_iff] at h
    obtain ⟨h1, h2⟩ := flatT_lay h.1
    obtain ⟨h3, h4⟩ := flatTs_lay h.2
    refine ⟨?_, ?_⟩
    · show (x.canLay0 && PyData.canLayAll0 l) = true
      rw [h1, h3]
      rfl
    · show max x.depth (PyData.depthAll l) ≤ 1
      omega
/-- lists of flat tuples -/
theorem shaped_ts {l : List PyData} (h : l.all flatT = true) : SeqAt.shaped (.list l) = true ∧ PyData.eqv (.list l) (.list l) = true := by
  obtain ⟨h1, h2⟩ := flatTs_lay h
  have h3 : (PyData.list l).canLay0 = true := h1
  refine ⟨?_, SeqAt.eqv_refl _ h3⟩
  show ((PyData.list l).canLay0 && decide ((PyData.list l).depth ≤ 64)) = true
  rw [h3, decide_eq_true (show (PyData.list l).depth ≤ 64 from (show PyData.depthAll l + 1 ≤ 64 by omega))]
  rfl
theorem flat_calls {P : Pl} (ok : P.Ok) {fs : List Frm} (h : ∀ f ∈ fs, f.ln ∈ P.names) : (fs.map dCall).all flatT = true := by
  rw [List.all_map]
  refine List.all_eq_true.mpr fun f hf => ?_
  show ((PyData.str f.ln).canLay0 && (true && (true && true))) = true
  rw [ok.lay (.inl (h f hf))]
  rfl
end Z
set_option maxHeartbeats 1000000
namespace Z
open PySem PySem.Spec PyProof.Rows L2
/-! ### a line more, that nobody rings -/
def more (P : Pl) (i : Ln) : Pl := ⟨P.ls ++ [i], P.ws⟩
def jx (B : Bd) (J : List (Str × Int)) : Bd := { B with joined := J }
section
variable {P : Pl} {i : Ln}
theorem more_ln {z : Str} (h : z ≠ i.nm) : (more P i).ln z = P.ln z := by
  unfold Pl.ln more
  dsimp only
  rw [List.find?_append]
  have : [i].find? (fun l => l.nm == z) = none := by
    rw [List.find?_cons, beq_eq_false_iff_ne.mpr (Ne.symm h)]
    rfl
  rw [this, Option.or_none]
theorem more_order (ok : P.Ok) (ok' : (more P i).Ok) {p : Str → Bool} (h : p i.nm = false) : (more P i).order.filter p = P.order.filter p := by
  rw [order_filter ok', order_filter ok]
  congr 2
  show (P.ls ++ [i]).filter _ = _
  rw [List.filter_append]
  have : [i].filter (fun l => p l.nm) = [] := by rw [List.filter_cons_of_neg (by simp [h])]; rfl
  rw [this, List.append_nil]
theorem more_names (hn : i.nm ∉ P.names) {z : Str} (hz : z ∈ P.names) : z ≠ i.nm := fun e => hn (by rw [← e]; exact hz)
theorem more_ring {B : Bd} {J : List (Str × Int)} {z : Str} (h : z ≠ i.nm) : ∃ J', ((jx B J).ring (more P i) z).1 = jx (B.ring P z).1 J' ∧ ((jx B J).ring (more P i) z).2 = (B.ring P z).2 := by
  unfold Bd.ring
  rw [more_ln h]
  by_cases h1 : (P.ln z).kd = "edge"
  · rw [if_pos h1, if_pos h1]
    by_cases h2 : z ∈ B.wanted
    · rw [if_pos (show z ∈ (jx B J).wanted from h2), if_pos h2]; exact ⟨_, rfl, rfl⟩
    · rw [if_neg (show ¬ z ∈ (jx B J).wanted from h2), if_neg h2]; exact ⟨_, rfl, rfl⟩
  · rw [if_neg h1, if_neg h1]
    by_cases h2 : z ∈ B.high
    · rw [if_pos (show z ∈ (jx B J).high from h2), if_pos h2]; exact ⟨_, rfl, rfl⟩
    · rw [if_neg (show ¬ z ∈ (jx B J).high from h2), if_neg h2]; exact ⟨_, rfl, rfl⟩
theorem more_carry {B : Bd} {J : List (Str × Int)} {s : Str × Key} (h : s.1 = "ring" → kS s.2 ≠ i.nm) : ∃ J', ((jx B J).carry (more P i) s).1 = jx (B.carry P s).1 J' ∧ ((jx B J).carry (more P i) s).2 = (B.carry P s).2 := by
  unfold Bd.carry
  by_cases h1 : s.1 = "ring"
  · rw [if_pos h1, if_pos h1]
    exact more_ring (h h1)
  · rw [if_neg h1, if_neg h1]
    by_cases h2 : s.1 = "quiet"
    · rw [if_pos h2, if_pos h2]; exact ⟨J, rfl, rfl⟩
    · rw [if_neg h2, if_neg h2]
      by_cases h3 : s.1 = "mask"
      · rw [if_pos h3, if_pos h3]; exact ⟨J, rfl, rfl⟩
      · rw [if_neg h3, if_neg h3]
        by_cases h4 : s.1 = "unmask"
        · rw [if_pos h4, if_pos h4]; exact ⟨J, rfl, rfl⟩
        · rw [if_neg h4, if_neg h4]
          by_cases h5 : s.1 = "set"
          · rw [if_pos h5, if_pos h5]; exact ⟨J, rfl, rfl⟩
          · rw [if_neg h5, if_neg h5]; exact ⟨J, rfl, rfl⟩
/-- what a result of passing is, beside the other -/
structure Bes (r r' : Cr × Bd × List Ev) : Prop where
  c : r'.1 = r.1
  b : ∃ J, r'.2.1 = jx r.2.1 J
  e : r'.2.2 = r.2.2
theorem more_passL {fs : List Frm} {rest : List (Str × Key)} : ∀ {f : Frm} {lim : Int} {jobs : List (Str × Nat)} {B : Bd} {J : List (Str × Int)}, (∀ s ∈ rest, s.1 = "ring" → kS s.2 ≠ i.nm) → Bes (passL P fs f lim jobs B rest) (passL (more P i) fs f lim jobs (jx B J) rest) := by
  induction rest with
  | nil => intro f lim jobs B J _; exact ⟨rfl, ⟨J, rfl⟩, rfl⟩
  | cons s r ih =>
    intro f lim jobs B J h
    unfold passL
    rw [show stops (jx B J) s = stops B s from rfl]
    by_cases hs : stops B s = true
    · rw [if_pos hs, if_pos hs]
      exact ⟨rfl, ⟨J, rfl⟩, rfl⟩
    · rw [if_neg hs, if_neg hs]
      have e : ∃ J', stepFx (more P i) lim jobs (jx B J) s = ((stepFx P lim jobs B s).1, (stepFx P lim jobs B s).2.1, jx (stepFx P lim jobs B s).2.2 J') := by
        unfold stepFx
        by_cases h1 : s.1 = "bar"
        · rw [if_pos h1, if_pos h1]; exact ⟨J, rfl⟩
        · rw [if_neg h1, if_neg h1]
          by_cases h2 : s.1 = "later"
          · rw [if_pos h2, if_pos h2]; exact ⟨J, rfl⟩
          · rw [if_neg h2, if_neg h2]
            by_cases h3 : s.1 ≠ "await"
            · rw [if_pos h3, if_pos h3]
              obtain ⟨J', e1, _⟩ := more_carry (P := P) (i := i) (B := B) (J := J) (h s (by simp))
              exact ⟨J', by rw [e1]⟩
            · rw [if_neg h3, if_neg h3]; exact ⟨J, rfl⟩
      obtain ⟨J', e⟩ := e
      rw [e]
      exact ih fun s' hs' => h s' (by simp [hs'])
theorem ring_names (ok : P.Ok) (hn : i.nm ∉ P.names) {z : Str} (hz : z ∈ P.names) : ∀ s ∈ (P.ln z).st, s.1 = "ring" → kS s.2 ≠ i.nm := fun s hs e => by
  have h := ok.sok _ (ok.ln_mem hz).1 s hs
  have h2 : isStepX P.kinds (P.wnames.map V.str) s.1 (kD s.2) = true := h
  rw [e] at h2
  unfold isStepX at h2
  rw [if_pos (by decide)] at h2
  cases hk : s.2 with
  | inl n =>
    rw [hk] at h2
    cases h2
  | inr y =>
    rw [hk] at h2
    have h3 : (valV P.kinds (.inr y)).isSome = true := (Bool.and_eq_true_iff.mp h2).1
    obtain ⟨v, hv⟩ := Option.isSome_iff_exists.mp h3
    obtain ⟨l, hl, e1, _⟩ := kinds_val hv
    show y ≠ i.nm
    intro e2
    exact hn (by rw [← e2, ← e1]; exact List.mem_map.mpr ⟨l, hl, rfl⟩)
theorem more_pass (ok : P.Ok) (hn : i.nm ∉ P.names) {fs : List Frm} {f : Frm} {lim : Int} {jobs : List (Str × Nat)} {B : Bd} {J : List (Str × Int)} (hf : f.ln ∈ P.names) : Bes (pass P fs f lim jobs B) (pass (more P i) fs f lim jobs (jx B J)) := by
  unfold pass
  rw [more_ln (more_names hn hf)]
  exact more_passL fun s hs => ring_names ok hn hf s (List.mem_of_mem_drop hs)
theorem more_step (hn : i.nm ∉ P.names) {f : Frm} (hf : f.ln ∈ P.names) : stepOf (more P i) f = stepOf P f := by
  unfold stepOf
  rw [more_ln (more_names hn hf)]
theorem more_spend (ok : P.Ok) (hn : i.nm ∉ P.names) {fs : List Frm} {f : Frm} {lim : Int} {jobs : List (Str × Nat)} {B : Bd} {J : List (Str × Int)} (hf : f.ln ∈ P.names) : Bes (spend P fs f lim jobs B) (spend (more P i) fs f lim jobs (jx B J)) := by
  unfold spend
  rw [more_step hn hf]
  by_cases h : (f.tk : Int) + 1 < kI (stepOf P f).2
  · rw [if_pos h, if_pos h]; exact ⟨rfl, ⟨J, rfl⟩, rfl⟩
  · rw [if_neg h, if_neg h]
    exact more_pass ok hn (f := { f with st := f.st + 1, tk := 0 }) hf
theorem more_left (hn : i.nm ∉ P.names) : ∀ {fs : List Frm}, (∀ f ∈ fs, f.ln ∈ P.names) → left (more P i) fs = left P fs
  | [], _ => rfl
  | f :: fs, h => by
    have e := more_left hn (fs := fs) fun g hg => h g (by simp [hg])
    unfold left at e ⊢
    rw [List.map_cons, List.map_cons, List.sum_cons, List.sum_cons, e]
    congr 1
    unfold left1
    rw [more_ln (more_names hn (h f (by simp)))]
theorem more_passAll (ok : P.Ok) (hn : i.nm ∉ P.names) : ∀ (n : Nat) {C : Cr} {B : Bd} {J : List (Str × Int)} {es : List Ev}, COk P C B → Bes (passAll P n C B es) (passAll (more P i) n C (jx B J) es)
  | 0, C, B, J, es, _ => ⟨rfl, ⟨J, rfl⟩, rfl⟩
  | n + 1, C, B, J, es, h => by
    rcases List.eq_nil_or_concat C.frames with e | ⟨fs, f, e⟩
    · rw [passAll_nil e, passAll_nil e]
      exact ⟨rfl, ⟨J, rfl⟩, rfl⟩
    · rw [List.concat_eq_append] at e
      have hf := h.fok.nm f (by rw [e]; simp)
      have ep : passing (more P i) (jx B J) f = passing P B f := by
        unfold passing
        rw [more_ln (more_names hn hf)]
        rfl
      cases hp : passing P B f with
      | false =>
        rw [passAll_no e hp, passAll_no e (by rw [ep]; exact hp)]
        exact ⟨rfl, ⟨J, rfl⟩, rfl⟩
      | true =>
        rw [passAll_yes e hp, passAll_yes e (by rw [ep]; exact hp)]
        have b := more_pass ok hn (fs := fs) (f := f) (lim := C.limit) (jobs := C.jobs) (B := B) (J := J) hf
        obtain ⟨J2, eb⟩ := b.b
        rw [b.c, b.e, eb]
        exact more_passAll ok hn n (h.pass ok e)
/-- processors beside each other -/
structure Bsd (G G' : Sg) : Prop where
  c : G'.C = G.C
  b : ∃ J, G'.B = jx G.B J
  t : G'.time = G.time
  s : G'.sums = G.sums
theorem more_takeC (ok : P.Ok) (ok' : (more P i).Ok) (hn : i.nm ∉ P.names) {C : Cr} {B : Bd} {J : List (Str × Int)} (h : COk P C B) : Bes (takeC P C B) (takeC (more P i) C (jx B J)) := by
  have er : ready (more P i) (jx B J) = ready P B := by
    unfold ready
    refine more_order ok ok' (p := B.can) ?_
    unfold Bd.can Bd.waiting
    have h1 : i.nm ∉ B.wanted := fun q => hn (h.bok.wa.sub _ q)
    have h2 : i.nm ∉ B.high := fun q => hn (h.bok.hi.sub _ q)
    rw [decide_eq_false h1, decide_eq_false h2]
    rfl
  unfold takeC
  rw [er]
  cases e : ready P B with
  | nil => exact ⟨rfl, ⟨J, rfl⟩, rfl⟩
  | cons z r =>
    have hz := (can_names e).1
    have ei : C.inner (more P i) = C.inner P := by
      unfold Cr.inner
      rcases List.eq_nil_or_concat C.frames with e | ⟨fs, f, e⟩
      · rw [e]
        rfl
      · rw [List.concat_eq_append] at e
        have hf := h.fok.nm f (by rw [e]; simp)
        rw [e, List.getLast?_concat]
        dsimp only
        rw [more_ln (more_names hn hf)]
    have em : C.may (more P i) z = C.may P z := by
      unfold Cr.may
      rw [more_ln (more_names hn hz), ei]
    dsimp only
    rw [em]
    split
    · have b := more_pass ok hn (fs := C.frames) (f := ⟨z, 0, 0, C.limit⟩) (lim := C.limit) (jobs := C.jobs) (B := B.begun z) (J := J) hz
      rw [show (jx B J).begun z = jx (B.begun z) J from rfl]
      obtain ⟨J2, eb⟩ := b.b
      exact ⟨b.c, ⟨J2, eb⟩, by rw [b.e]⟩
    · exact ⟨rfl, ⟨J, rfl⟩, rfl⟩
theorem more_tick (ok : P.Ok) (ok' : (more P i).Ok) (hn : i.nm ∉ P.names) {G G' : Sg} (h : COk P G.C G.B) (b : Bsd G G') : Bsd (G.tick P).1 (G'.tick (more P i)).1 ∧ (G'.tick (more P i)).2 = (G.tick P).2 := by
  obtain ⟨J, eB⟩ := b.b
  have t1 := more_takeC ok ok' hn (J := J) h
  have k1 := takeC_ok ok h
  unfold Sg.tick
  rw [b.c, eB, b.t, b.s]
  generalize takeC P G.C G.B = r at t1 k1
  generalize takeC (more P i) G.C (jx G.B J) = r' at t1
  obtain ⟨C1, B1, e1⟩ := r
  obtain ⟨C1', B1', e1'⟩ := r'
  obtain ⟨tc, ⟨J1, tb⟩, te⟩ := t1
  dsimp only at tc tb te k1 ⊢
  subst tc tb te
  have t2 := more_passAll ok hn (left P C1'.frames) (J := J1) (es := []) k1
  have k2 := COk.passAll ok (left P C1'.frames) (es := []) k1
  unfold Cr.tick
  rw [more_left hn k1.fok.nm]
  generalize passAll P (left P C1'.frames) C1' B1 [] = r at t2 k2
  generalize passAll (more P i) (left P C1'.frames) C1' (jx B1 J1) [] = r' at t2
  obtain ⟨C2, B2, e2⟩ := r
  obtain ⟨C2', B2', e2'⟩ := r'
  obtain ⟨tc, ⟨J2, tb⟩, te⟩ := t2
  dsimp only at tc tb te k2 ⊢
  subst tc tb te
  rcases List.eq_nil_or_concat C2'.frames with e | ⟨fs, f, e⟩
  · by_cases hj : C2'.jobs = []
    · rw [tickC_idle e hj, tickC_idle e hj]
      exact ⟨⟨rfl, ⟨J2, rfl⟩, rfl, rfl⟩, rfl⟩
    · rw [tickC_work e hj, tickC_work e hj]
      exact ⟨⟨rfl, ⟨J2, rfl⟩, rfl, rfl⟩, rfl⟩
  · rw [List.concat_eq_append] at e
    have hf := k2.fok.nm f (by rw [e]; simp)
    by_cases ha : (stepOf P f).1 = "await"
    · rw [tickC_spun e ha, tickC_spun e (by rw [more_step hn hf]; exact ha)]
      exact ⟨⟨rfl, ⟨J2, rfl⟩, rfl, rfl⟩, rfl⟩
    · rw [tickC_call e ha, tickC_call e (by rw [more_step hn hf]; exact ha)]
      have t3 := more_spend ok hn (fs := fs) (f := f) (lim := C2'.limit) (jobs := C2'.jobs) (B := B2) (J := J2) hf
      obtain ⟨J3, tb⟩ := t3.b
      exact ⟨⟨t3.c, ⟨J3, tb⟩, rfl, rfl⟩, by rw [t3.e]⟩
theorem more_deed (hn : i.nm ∉ P.names) {G G' : Sg} (b : Bsd G G') {s : Str × Key} (cs : CarryIs P s) : Bsd { G with B := (G.B.carry P s).1 } { G' with B := (G'.B.carry (more P i) s).1 } ∧ (G'.B.carry (more P i) s).2 = (G.B.carry P s).2 ∧ CarryIs (more P i) s := by
  obtain ⟨J, eB⟩ := b.b
  have hz : s.1 = "ring" → kS s.2 ≠ i.nm := fun e => by
    rcases cs with ⟨_, z, hk, hz⟩ | ⟨hw, _⟩
    · rw [hk]
      exact more_names hn hz
    · rw [e] at hw
      exact absurd hw (by decide)
  obtain ⟨J2, e1, e2⟩ := more_carry (P := P) (i := i) (B := G.B) (J := J) hz
  refine ⟨⟨b.c, ⟨J2, ?_⟩, b.t, b.s⟩, by rw [eB]; exact e2, ?_⟩
  · show (G'.B.carry (more P i) s).1 = _
    rw [eB, e1]
  · rcases cs with ⟨hw, z, hk, hz⟩ | h
    · refine .inl ⟨hw, z, hk, ?_⟩
      show z ∈ (P.ls ++ [i]).map (·.nm)
      rw [List.map_append]
      exact List.mem_append_left _ hz
    · exact .inr h
theorem Bsd.start : Bsd (Sg.start P) (Sg.start (more P i)) := ⟨rfl, ⟨_, rfl⟩, rfl, rfl⟩
end
end Z
set_option maxHeartbeats 1000000
namespace Z
open PySem PySem.Spec PyProof.Rows L2
/-! ### set-ups as data -/
def planD (P : Pl) : PyData := .tuple [.tuple (P.ls.map dLn), .tuple (P.ws.map dWk)]
theorem lay_map {α : Type} {g : α → PyData} {n : Nat} : ∀ {l : List α}, (∀ x ∈ l, (g x).canLay0 = true ∧ (g x).depth ≤ n) → PyData.canLayAll0 (l.map g) = true ∧ PyData.depthAll (l.map g) ≤ n
  | [], _ => ⟨rfl, Nat.zero_le _⟩
  | x :: l, h => by
    obtain ⟨h1, h2⟩ := h x (by simp)
    obtain ⟨h3, h4⟩ := lay_map (l := l) fun y hy => h y (by simp [hy])
    refine ⟨?_, ?_⟩
    · show ((g x).canLay0 && PyData.canLayAll0 (l.map g)) = true
      rw [h1, h3]
      rfl
    · show max (g x).depth (PyData.depthAll (l.map g)) ≤ n
      omega
theorem lay_st {P : Pl} (ok : P.Ok) {s : Str × Key} (h : StepIs P s) : (dSt s).canLay0 = true ∧ (dSt s).depth ≤ 1 := by
  have lt : ∀ w : Str, w ∈ (["run", "bar", "later", "set", "clear", "await", "ring", "mask", "unmask", "quiet"] : List Str) → (PyData.str w).canLay0 = true := by decide +kernel
  have fin : ∀ {w : Str} {k : Key}, (PyData.str w).canLay0 = true → (kD k).canLay0 = true → (dSt (w, k)).canLay0 = true ∧ (dSt (w, k)).depth ≤ 1 := fun {w k} h1 h2 => by
    refine ⟨?_, ?_⟩
    · show ((PyData.str w).canLay0 && ((kD k).canLay0 && true)) = true
      rw [h1, h2]
      rfl
    · show max 0 (max (kD k).depth 0) + 1 ≤ 1
      cases k <;> exact Nat.le_refl _
  cases h with
  | run i _ _ => exact fin (lt _ (by simp)) rfl
  | bar i _ _ => exact fin (lt _ (by simp)) rfl
  | later z hz => exact fin (lt _ (by simp)) (ok.lay (.inr hz))
  | flag w i hw _ _ =>
    refine fin (lt _ ?_) rfl
    simp only [List.mem_cons, List.not_mem_nil, or_false] at hw ⊢
    rcases hw with rfl | rfl | rfl <;> simp
  | line w z hw hz _ =>
    refine fin (lt _ ?_) (ok.lay (.inl hz))
    simp only [List.mem_cons, List.not_mem_nil, or_false] at hw ⊢
    rcases hw with rfl | rfl | rfl | rfl <;> simp
theorem lay_ln {P : Pl} (ok : P.Ok) {l : Ln} (hl : l ∈ P.ls) : (dLn l).canLay0 = true ∧ (dLn l).depth ≤ 3 := by
  obtain ⟨h1, h2⟩ := lay_map (g := dSt) (n := 1) fun s hs => lay_st ok (ok.step hl hs)
  have hn := ok.lay (.inl (List.mem_map.mpr ⟨l, hl, rfl⟩) : l.nm ∈ P.names ∨ l.nm ∈ P.wnames)
  have hk : (PyData.str l.kd).canLay0 = true := by
    have h := isEdge ok (z := l.nm) (List.mem_map.mpr ⟨l, hl, rfl⟩)
    rw [ok.ln_eq hl] at h
    rcases h with e | e <;> (rw [e]; decide +kernel)
  refine ⟨?_, ?_⟩
  · show ((PyData.str l.nm).canLay0 && ((PyData.str l.kd).canLay0 && (true && (PyData.canLayAll0 (l.st.map dSt) && true)))) = true
    rw [hn, hk, h1]
    rfl
  · show max 0 (max 0 (max 0 (max (PyData.depthAll (l.st.map dSt) + 1) 0))) + 1 ≤ 3
    omega
theorem shaped_plan {P : Pl} (ok : P.Ok) : SeqAt.shaped (planD P) = true := by
  obtain ⟨h1, h2⟩ := lay_map (l := P.ls) (g := dLn) (n := 3) fun l hl => lay_ln ok hl
  obtain ⟨h3, h4⟩ := lay_map (l := P.ws) (g := dWk) (n := 1) fun w hw => by
    have hn := ok.lay (.inr (List.mem_map.mpr ⟨w, hw, rfl⟩) : w.nm ∈ P.names ∨ w.nm ∈ P.wnames)
    refine ⟨?_, Nat.le_refl _⟩
    show ((PyData.str w.nm).canLay0 && (true && (true && true))) = true
    rw [hn]
    rfl
  have c : (planD P).canLay0 = true := by
    show (PyData.canLayAll0 (P.ls.map dLn) && (PyData.canLayAll0 (P.ws.map dWk) && true)) = true
    rw [h1, h3]
    rfl
  have d : (planD P).depth ≤ 64 := by
    show max (PyData.depthAll (P.ls.map dLn) + 1) (max (PyData.depthAll (P.ws.map dWk) + 1) 0) + 1 ≤ 64
    omega
  show ((planD P).canLay0 && decide ((planD P).depth ≤ 64)) = true
  rw [c, decide_eq_true d]
  rfl
theorem plan_refl {P : Pl} (ok : P.Ok) : PyData.eqv (planD P) (planD P) = true := SeqAt.eqv_refl _ (Bool.and_eq_true_iff.mp (shaped_plan ok)).1
theorem eqvAll_len : ∀ {a b : List PyData}, PyData.eqvAll a b = true → a.length = b.length
  | [], [], _ => rfl
  | x :: a, y :: b, h => by
    have h2 : (PyData.eqv x y && PyData.eqvAll a b) = true := h
    rw [List.length_cons, List.length_cons, eqvAll_len (Bool.and_eq_true_iff.mp h2).2]
theorem plan_len {P P' : Pl} (h : P.ls.length ≠ P'.ls.length) : PyData.eqv (planD P) (planD P') = false := by
  refine Bool.eq_false_iff.mpr fun e => h ?_
  have e2 : (PyData.eqvAll (P.ls.map dLn) (P'.ls.map dLn) && (PyData.eqvAll (P.ws.map dWk) (P'.ws.map dWk) && true)) = true := e
  have := eqvAll_len (Bool.and_eq_true_iff.mp e2).1
  rw [List.length_map, List.length_map] at this
  exact this
end Z
set_option maxHeartbeats 1000000
namespace Z
open PySem PySem.Spec PyProof.Rows L2
/-- two processors of set-ups that were there before them, apart from each other and from what was there -/
structure TwoR (K : Fg) (r : Addr) (H0 H : Hp) (A A' : SA) (P P' : Pl) (G G' : Sg) : Prop where
  s1 : SgAt K H A P G
  s2 : SgAt K H A' P' G'
  d : ∀ a ∈ A.own, a ∉ A'.own
  e1 : ∀ a ∈ A.PD.own, a ∉ A'.own
  e2 : ∀ a ∈ A'.PD.own, a ∉ A.own
  n1 : ∀ a ∈ A.own, H0 a = none
  n2 : ∀ a ∈ A'.own, H0 a = none
  p1 : r ∉ A.PD.own
  p2 : r ∉ A'.PD.own
section
variable {K : Fg} {r : Addr} {H0 H H' : Hp} {A A' B : SA} {P P' : Pl} {G G' G2 : Sg}
theorem TwoR.same (t : TwoR K r H0 H A A' P P' G G') (s : Same H H') : TwoR K r H0 H' A A' P P' G G' := ⟨t.s1.same s, t.s2.same s, t.d, t.e1, t.e2, t.n1, t.n2, t.p1, t.p2⟩
theorem TwoR.row (t : TwoR K r H0 H A A' P P' G G') (f : Fr [r] H H') (n : H0 r ≠ none) : TwoR K r H0 H' A A' P P' G G' := by
  have z : ∀ {a}, H0 a = none → a ∉ [r] := fun h q => n (by rw [← List.mem_singleton.mp q]; exact h)
  exact ⟨t.s1.keep f (fun a ha => z (t.n1 a ha)) (fun a ha q => t.p1 (by rw [← List.mem_singleton.mp q]; exact ha)), t.s2.keep f (fun a ha => z (t.n2 a ha)) (fun a ha q => t.p2 (by rw [← List.mem_singleton.mp q]; exact ha)), t.d, t.e1, t.e2, t.n1, t.n2, t.p1, t.p2⟩
theorem TwoR.ch1 (t : TwoR K r H0 H A A' P P' G G') (bk : ∀ a, H a = none → H0 a = none) (c : ChS H A H' B) (sg : SgAt K H' B P G2) : TwoR K r H0 H' B A' P P' G2 G' := by
  have ePD : B.PD = A.PD := c.PD
  refine ⟨sg, t.s2.keep c.fr (fun a ha z => t.d a z ha) t.e2, fun a ha z => ?_, by rw [ePD]; exact t.e1, fun a ha z => ?_, fun a ha => ?_, t.n2, by rw [ePD]; exact t.p1, t.p2⟩
  · rcases c.own a ha with q | q
    · exact t.d a q z
    · exact t.s2.ex a z q
  · rcases c.own a z with q | q
    · exact t.e2 a ha q
    · exact t.s2.cst.pl.ex a ha q
  · rcases c.own a ha with q | q
    · exact t.n1 a q
    · exact bk a q
theorem TwoR.swap (t : TwoR K r H0 H A A' P P' G G') : TwoR K r H0 H A' A P' P G' G := ⟨t.s2, t.s1, fun a ha z => t.d a z ha, t.e2, t.e1, t.n2, t.n1, t.p2, t.p1⟩
theorem TwoR.ch2 (t : TwoR K r H0 H A A' P P' G G') (bk : ∀ a, H a = none → H0 a = none) (c : ChS H A' H' B) (sg : SgAt K H' B P' G2) : TwoR K r H0 H' A B P P' G G2 := (t.swap.ch1 bk c sg).swap
end
theorem more_ok {P : Pl} (d : Drawn P) {kd : Str} {n : Int} (hk : kd = "edge" ∨ kd = "level") (h1 : 1 ≤ n) (h9 : n ≤ 9) : (more P ⟨"idle", kd, n, [("run", .inl 5), ("bar", .inl 9)]⟩).Ok ∧ ("idle" : Str) ∉ P.names := by
  have h6 := d.l6
  have h2 := d.w2
  have hni : ("idle" : Str) ∉ P.names := fun h => by
    have := d.six _ h
    exact absurd this (by decide)
  refine ⟨?_, hni⟩
  refine plan_fit (ls := P.ls ++ [_]) (ws := P.ws) (fun l hl => ?_) ?_ (by simp) (by rw [List.length_append, List.length_singleton]; omega) ?_ (by omega) d.wf
  · have sub : ∀ {s : Str × Key}, FitSt (nkOf P.ls) P.wnames s → FitSt (nkOf (P.ls ++ [⟨"idle", kd, n, [("run", .inl 5), ("bar", .inl 9)]⟩])) P.wnames s := fun {s} h => by
      have hm : ∀ x ∈ nkOf P.ls, x ∈ nkOf (P.ls ++ [⟨"idle", kd, n, [("run", .inl 5), ("bar", .inl 9)]⟩]) := fun x hx => by
        unfold nkOf at hx ⊢
        rw [List.map_append]
        exact List.mem_append_left _ hx
      cases h with
      | run a b => exact .run a b
      | bar a b => exact .bar a b
      | flag a b c => exact .flag a b c
      | line a b =>
        obtain ⟨x, hx, rfl⟩ := List.mem_map.mp b
        exact .line a (List.mem_map.mpr ⟨x, hm x hx, rfl⟩)
      | quiet a => exact .quiet (hm _ a)
      | later a => exact .later a
    rcases List.mem_append.mp hl with hl | hl
    · have g := d.fit l hl
      exact ⟨g.nm, g.kd, g.r1, g.r9, g.ne, g.s8, fun s hs => sub (g.st s hs)⟩
    · rw [List.mem_singleton.mp hl]
      refine ⟨(show ("idle" : Str) ∈ nmA by decide), hk, h1, h9, by simp, (show 2 ≤ 8 by decide), fun s hs => ?_⟩
      have hs : s = (("run" : Str), (Sum.inl 5 : Key)) ∨ s = (("bar" : Str), (Sum.inl 9 : Key)) := by simpa using hs
      rcases hs with rfl | rfl
      · exact .run (by decide) (by decide)
      · exact .bar (by decide) (by decide)
  · rw [List.map_append, List.nodup_append]
    refine ⟨d.nd, by simp, fun a ha b hb e => ?_⟩
    have hb : b = ("idle" : Str) := by simpa using hb
    exact hni (by rw [← hb, ← e]; exact ha)
  · show P.wnames.Nodup
    obtain ⟨k, e⟩ := d.wn
    rw [e]
    exact List.Nodup.sublist (List.take_sublist _ _) (by decide)
theorem less_more {P : Pl} {i : Ln} (hn : i.nm ∉ P.names) : (⟨(more P i).ls.filter fun l => !decide (l.nm = i.nm), (more P i).ws⟩ : Pl) = P := by
  have e : (more P i).ls.filter (fun l => !decide (l.nm = i.nm)) = P.ls := by
    show (P.ls ++ [i]).filter _ = _
    rw [List.filter_append, List.filter_eq_self.mpr, List.filter_cons_of_neg (by simp)]
    · simp
    · intro l hl
      have : l.nm ≠ i.nm := fun e => hn (by rw [← e]; exact List.mem_map.mpr ⟨l, hl, rfl⟩)
      simp [this]
  rw [e]
  rfl
end Z
set_option maxHeartbeats 1000000
namespace Z
open PySem PySem.Spec PyProof.Rows L2
/-! ### set-ups that are seen alike: lines and works in another turn -/
structure Vw (P R : Pl) : Prop where
  ln : ∀ z, R.ln z = P.ln z
  wk : ∀ z, R.wk z = P.wk z
  od : R.order = P.order
section
variable {P R : Pl}
theorem Vw.ring (v : Vw P R) (B : Bd) (z : Str) : B.ring R z = B.ring P z := by
  unfold Bd.ring
  rw [v.ln z]
theorem Vw.carry (v : Vw P R) (B : Bd) (s : Str × Key) : B.carry R s = B.carry P s := by
  unfold Bd.carry
  rw [v.ring]
theorem Vw.stepFx (v : Vw P R) (lim : Int) (jobs : List (Str × Nat)) (B : Bd) (s : Str × Key) : Z.stepFx R lim jobs B s = Z.stepFx P lim jobs B s := by
  unfold Z.stepFx
  rw [v.carry]
theorem Vw.passL (v : Vw P R) (fs : List Frm) : ∀ (rest : List (Str × Key)) (f : Frm) (lim : Int) (jobs : List (Str × Nat)) (B : Bd), Z.passL R fs f lim jobs B rest = Z.passL P fs f lim jobs B rest
  | [], _, _, _, _ => rfl
  | s :: r, f, lim, jobs, B => by
    unfold Z.passL
    rw [v.stepFx, Vw.passL v fs r]
theorem Vw.pass (v : Vw P R) (fs : List Frm) (f : Frm) (lim : Int) (jobs : List (Str × Nat)) (B : Bd) : Z.pass R fs f lim jobs B = Z.pass P fs f lim jobs B := by
  unfold Z.pass
  rw [v.ln, v.passL]
theorem Vw.stepOf (v : Vw P R) (f : Frm) : Z.stepOf R f = Z.stepOf P f := by
  unfold Z.stepOf
  rw [v.ln]
theorem Vw.spend (v : Vw P R) (fs : List Frm) (f : Frm) (lim : Int) (jobs : List (Str × Nat)) (B : Bd) : Z.spend R fs f lim jobs B = Z.spend P fs f lim jobs B := by
  unfold Z.spend
  rw [v.stepOf, v.pass]
theorem Vw.left (v : Vw P R) (fs : List Frm) : Z.left R fs = Z.left P fs := by
  unfold Z.left
  congr 2
  funext f
  unfold left1
  rw [v.ln]
theorem Vw.passing (v : Vw P R) (B : Bd) (f : Frm) : Z.passing R B f = Z.passing P B f := by
  unfold Z.passing
  rw [v.ln]
theorem Vw.passAll (v : Vw P R) : ∀ (n : Nat) (C : Cr) (B : Bd) (es : List Ev), Z.passAll R n C B es = Z.passAll P n C B es
  | 0, _, _, _ => rfl
  | n + 1, C, B, es => by
    unfold Z.passAll
    cases C.frames.getLast? with
    | none => rfl
    | some f =>
      dsimp only
      rw [v.passing, v.pass, Vw.passAll v n]
theorem Vw.jobD (v : Vw P R) : Z.jobD R = Z.jobD P := by
  funext x
  unfold Z.jobD
  rw [v.wk]
theorem Vw.places (v : Vw P R) (jobs : List (Str × Nat)) : Z.places R jobs = Z.places P jobs := by
  unfold Z.places
  rw [v.jobD]
theorem Vw.doWork (v : Vw P R) (jobs : List (Str × Nat)) : Z.doWork R jobs = Z.doWork P jobs := by
  unfold Z.doWork
  rw [v.places]
  cases Z.places P jobs with
  | nil => rfl
  | cons k r =>
    dsimp only
    cases jobs[k]? with
    | none => rfl
    | some j =>
      dsimp only
      rw [v.wk]
theorem Vw.tickC (v : Vw P R) (C : Cr) (B : Bd) (es : List Ev) : Z.tickC R C B es = Z.tickC P C B es := by
  unfold Z.tickC
  rw [v.doWork]
  cases C.frames.getLast? with
  | none => rfl
  | some f =>
    dsimp only
    rw [v.stepOf, v.spend]
theorem Vw.takeC (v : Vw P R) (C : Cr) (B : Bd) : Z.takeC R C B = Z.takeC P C B := by
  unfold Z.takeC ready
  rw [v.od]
  cases P.order.filter B.can with
  | nil => rfl
  | cons z r =>
    dsimp only
    have e : C.may R z = C.may P z := by
      have ei : C.inner R = C.inner P := by
        unfold Cr.inner
        cases C.frames.getLast? with
        | none => rfl
        | some f =>
          dsimp only
          rw [v.ln]
      unfold Cr.may
      rw [v.ln, ei]
    rw [e, v.pass]
theorem Vw.tick (v : Vw P R) (G : Sg) : G.tick R = G.tick P := by
  unfold Sg.tick Cr.tick
  rw [v.takeC, v.left, v.passAll, v.tickC]
theorem Vw.queue (v : Vw P R) (jobs : List (Str × Nat)) : queueOf R jobs = queueOf P jobs := by
  unfold queueOf
  rw [v.places]
theorem Vw.start (v : Vw P R) : Sg.start R = Sg.start P := by
  unfold Sg.start
  rw [v.od]
end
theorem find_perm {α : Type} {f : α → Str} {l m : List α} (hn : (l.map f).Nodup) (p : m.Perm l) (z : Str) : (m.find? fun x => f x == z) = l.find? fun x => f x == z := by
  have hm : (m.map f).Nodup := (p.map f).nodup_iff.mpr hn
  cases e : l.find? fun x => f x == z with
  | none =>
    rw [List.find?_eq_none] at e ⊢
    exact fun x hx => e x (p.mem_iff.mp hx)
  | some x =>
    have h1 : f x = z := by simpa using List.find?_some e
    have h2 := p.mem_iff.mpr (List.mem_of_find?_eq_some e)
    rw [← h1]
    exact find_nd hm h2
theorem Vw.of {P R : Pl} (ok : P.Ok) (ok' : R.Ok) (hl : R.ls.Perm P.ls) (hw : R.ws.Perm P.ws) : Vw P R := by
  refine ⟨fun z => ?_, fun z => ?_, ?_⟩
  · unfold Pl.ln
    rw [find_perm (f := fun l : Ln => l.nm) ok.lnd hl z]
  · unfold Pl.wk
    rw [find_perm (f := fun l : Wk => l.nm) ok.wnd hw z]
  · unfold Pl.order
    congr 1
    refine sorted_one ok (fun x hx => hl.mem_iff.mp (List.mem_mergeSort.mp hx)) (fun x hx => List.mem_mergeSort.mp hx) ?_ (leO_sorted _) (leO_sorted _)
    exact (List.mergeSort_perm _ _).trans (hl.trans (List.mergeSort_perm _ _).symm)
end Z
set_option maxHeartbeats 1000000
namespace Z
open PySem PySem.Spec PyProof.Rows L2
/-! ### lines under other names -/
def lineW : List Str := ["ring", "quiet", "mask", "unmask"]
def rnY (ρ : Str → Str) : Key → Key
  | .inl i => .inl i
  | .inr z => .inr (ρ z)
def rnK (ρ : Str → Str) (s : Str × Key) : Str × Key := if s.1 ∈ lineW then (s.1, rnY ρ s.2) else s
def LineOk (s : Str × Key) : Prop := s.1 ∈ lineW → ∃ z, s.2 = .inr z
def rnL (ρ : Str → Str) (l : Ln) : Ln := ⟨ρ l.nm, l.kd, l.rk, l.st.map (rnK ρ)⟩
def rnP (ρ : Str → Str) (P : Pl) : Pl := ⟨P.ls.map (rnL ρ), P.ws⟩
def rnF (ρ : Str → Str) (f : Frm) : Frm := { f with ln := ρ f.ln }
def rnJ (ρ : Str → Str) (l : List (Str × Int)) : List (Str × Int) := l.map fun x => (ρ x.1, x.2)
def rnB (ρ : Str → Str) (B : Bd) : Bd := ⟨B.shut.map ρ, B.wanted.map ρ, B.high.map ρ, B.taken.map ρ, B.raised, rnJ ρ B.joined⟩
def rnC (ρ : Str → Str) (C : Cr) : Cr := ⟨C.frames.map (rnF ρ), C.limit, C.jobs⟩
def rnE (ρ : Str → Str) (e : Ev) : Ev := if e.1 = "done" then e else (e.1, ρ e.2)
def rnG (ρ : Str → Str) (G : Sg) : Sg := ⟨rnB ρ G.B, rnC ρ G.C, G.time, G.sums⟩
def rnR (ρ : Str → Str) (r : Cr × Bd × List Ev) : Cr × Bd × List Ev := (rnC ρ r.1, rnB ρ r.2.1, r.2.2.map (rnE ρ))
section
variable {ρ : Str → Str} (inj : ∀ a b, ρ a = ρ b → a = b) {P : Pl}
include inj
theorem rn_mem {z : Str} {l : List Str} : ρ z ∈ l.map ρ ↔ z ∈ l := by
  constructor
  · intro h
    obtain ⟨y, hy, e⟩ := List.mem_map.mp h
    rw [← inj _ _ e]
    exact hy
  · exact List.mem_map_of_mem
theorem rn_dec {z : Str} {l : List Str} : decide (ρ z ∈ l.map ρ) = decide (z ∈ l) := decide_eq_decide.mpr (rn_mem inj)
theorem rn_erase {z : Str} : ∀ {l : List Str}, (l.map ρ).erase (ρ z) = (l.erase z).map ρ
  | [] => rfl
  | x :: l => by
    rw [List.map_cons, List.erase_cons, List.erase_cons]
    by_cases h : x = z
    · subst h
      simp
    · have h2 : ¬ ρ x = ρ z := fun e => h (inj _ _ e)
      have b1 : (ρ x == ρ z) = false := beq_eq_false_iff_ne.mpr h2
      have b2 : (x == z) = false := beq_eq_false_iff_ne.mpr h
      rw [b1, b2]
      simp only [Bool.false_eq_true, if_false, List.map_cons]
      rw [rn_erase]
theorem rn_put {l : List Str} {z : Str} {b : Bool} : putL (l.map ρ) (ρ z) b = ((putL l z b).1.map ρ, (putL l z b).2) := by
  unfold putL
  rw [rn_dec inj, rn_erase inj]
  by_cases h : decide (z ∈ l) = b
  · rw [if_pos h, if_pos h]
  · rw [if_neg h, if_neg h]
    cases b <;> simp
theorem rn_bump {l : List (Str × Int)} {z : Str} : bump (rnJ ρ l) (ρ z) = rnJ ρ (bump l z) := by
  unfold bump rnJ
  rw [List.map_map, List.map_map]
  apply List.map_congr_left
  intro x _
  show (if ρ x.1 = ρ z then (ρ x.1, x.2 + 1) else (ρ x.1, x.2)) = (fun x : Str × Int => (ρ x.1, x.2)) (if x.1 = z then (x.1, x.2 + 1) else x)
  by_cases h : x.1 = z
  · rw [if_pos h, if_pos (by rw [h])]
  · rw [if_neg h, if_neg fun e => h (inj _ _ e)]
theorem rn_find {z : Str} : ∀ {l : List Ln}, ((l.map (rnL ρ)).find? fun x => x.nm == ρ z) = (l.find? fun x => x.nm == z).map (rnL ρ)
  | [] => rfl
  | x :: l => by
    rw [List.map_cons, List.find?_cons, List.find?_cons]
    have e : ((rnL ρ x).nm == ρ z) = (x.nm == z) := by
      by_cases h : x.nm = z
      · rw [h, beq_self_eq_true]
        show (ρ x.nm == ρ z) = true
        rw [h, beq_self_eq_true]
      · rw [beq_eq_false_iff_ne.mpr h]
        exact beq_eq_false_iff_ne.mpr fun e => h (inj _ _ e)
    rw [e]
    cases x.nm == z with
    | true => rfl
    | false => exact rn_find
theorem rn_ln (z : Str) : (rnP ρ P).ln (ρ z) = rnL ρ (P.ln z) := by
  unfold Pl.ln
  show ((P.ls.map (rnL ρ)).find? fun x => x.nm == ρ z).getD _ = _
  rw [rn_find inj]
  cases P.ls.find? fun x => x.nm == z <;> rfl
theorem rn_ring (B : Bd) (z : Str) : (rnB ρ B).ring (rnP ρ P) (ρ z) = (rnB ρ (B.ring P z).1, (B.ring P z).2) := by
  unfold Bd.ring
  rw [rn_ln inj]
  show (if (P.ln z).kd = "edge" then (if ρ z ∈ B.wanted.map ρ then (({ rnB ρ B with joined := bump (rnJ ρ B.joined) (ρ z) }, false) : Bd × Bool) else ({ rnB ρ B with wanted := B.wanted.map ρ ++ [ρ z] }, true)) else (if ρ z ∈ B.high.map ρ then ({ rnB ρ B with joined := bump (rnJ ρ B.joined) (ρ z) }, false) else ({ rnB ρ B with high := B.high.map ρ ++ [ρ z] }, true))) = _
  rw [rn_bump inj]
  by_cases h1 : (P.ln z).kd = "edge"
  · rw [if_pos h1, if_pos h1]
    by_cases h2 : z ∈ B.wanted
    · rw [if_pos ((rn_mem inj).mpr h2), if_pos h2]; rfl
    · rw [if_neg fun q => h2 ((rn_mem inj).mp q), if_neg h2]
      unfold rnB
      simp
  · rw [if_neg h1, if_neg h1]
    by_cases h2 : z ∈ B.high
    · rw [if_pos ((rn_mem inj).mpr h2), if_pos h2]; rfl
    · rw [if_neg fun q => h2 ((rn_mem inj).mp q), if_neg h2]
      unfold rnB
      simp
omit inj in
theorem rnK_fst (s : Str × Key) : (rnK ρ s).1 = s.1 := by
  unfold rnK
  split <;> rfl
omit inj in
theorem rnK_no {s : Str × Key} (h : s.1 ∉ lineW) : rnK ρ s = s := if_neg h
omit inj in
theorem rnK_kS {s : Str × Key} (h : LineOk s) (hl : s.1 ∈ lineW) : kS (rnK ρ s).2 = ρ (kS s.2) := by
  unfold rnK
  rw [if_pos hl]
  obtain ⟨z, e⟩ := h hl
  rw [e]
  rfl
omit inj in
theorem rnK_kI (s : Str × Key) : kI (rnK ρ s).2 = kI s.2 := by
  unfold rnK
  split
  · cases s.2 <;> rfl
  · rfl
theorem rn_carry (B : Bd) {s : Str × Key} (h : LineOk s) : (rnB ρ B).carry (rnP ρ P) (rnK ρ s) = (rnB ρ (B.carry P s).1, (B.carry P s).2) := by
  have lw : ∀ w : Str, w ∈ lineW → s.1 = w → kS (rnK ρ s).2 = ρ (kS s.2) := fun w hw e => rnK_kS h (by rw [e]; exact hw)
  unfold Bd.carry
  rw [rnK_fst, rnK_kI]
  by_cases h1 : s.1 = "ring"
  · rw [if_pos h1, if_pos h1, lw _ (by decide) h1]
    exact rn_ring inj B _
  · rw [if_neg h1, if_neg h1]
    by_cases h2 : s.1 = "quiet"
    · rw [if_pos h2, if_pos h2, lw _ (by decide) h2]
      show (({ rnB ρ B with high := (putL (B.high.map ρ) _ false).1 }, (putL (B.high.map ρ) _ false).2) : Bd × Bool) = _
      rw [rn_put inj]
      rfl
    · rw [if_neg h2, if_neg h2]
      by_cases h3 : s.1 = "mask"
      · rw [if_pos h3, if_pos h3, lw _ (by decide) h3]
        show (({ rnB ρ B with shut := (putL (B.shut.map ρ) _ true).1 }, (putL (B.shut.map ρ) _ true).2) : Bd × Bool) = _
        rw [rn_put inj]
        rfl
      · rw [if_neg h3, if_neg h3]
        by_cases h4 : s.1 = "unmask"
        · rw [if_pos h4, if_pos h4, lw _ (by decide) h4]
          show (({ rnB ρ B with shut := (putL (B.shut.map ρ) _ false).1 }, (putL (B.shut.map ρ) _ false).2) : Bd × Bool) = _
          rw [rn_put inj]
          rfl
        · rw [if_neg h4, if_neg h4]
          by_cases h5 : s.1 = "set"
          · rw [if_pos h5, if_pos h5]; rfl
          · rw [if_neg h5, if_neg h5]; rfl
omit inj in
theorem rn_stops (B : Bd) (s : Str × Key) : stops (rnB ρ B) (rnK ρ s) = stops B s := by
  unfold stops
  rw [rnK_fst, rnK_kI]
  rfl
theorem rn_stepFx (lim : Int) (jobs : List (Str × Nat)) (B : Bd) {s : Str × Key} (h : LineOk s) : stepFx (rnP ρ P) lim jobs (rnB ρ B) (rnK ρ s) = ((stepFx P lim jobs B s).1, (stepFx P lim jobs B s).2.1, rnB ρ (stepFx P lim jobs B s).2.2) := by
  unfold stepFx
  rw [rnK_fst, rnK_kI]
  by_cases h1 : s.1 = "bar"
  · rw [if_pos h1, if_pos h1]
  · rw [if_neg h1, if_neg h1]
    by_cases h2 : s.1 = "later"
    · rw [if_pos h2, if_pos h2, rnK_no (by rw [h2]; decide)]
    · rw [if_neg h2, if_neg h2]
      by_cases h3 : s.1 ≠ "await"
      · rw [if_pos h3, if_pos h3, rn_carry inj B h]
      · rw [if_neg h3, if_neg h3]
theorem rn_passL (fs : List Frm) : ∀ (rest : List (Str × Key)) (f : Frm) (lim : Int) (jobs : List (Str × Nat)) (B : Bd), (∀ s ∈ rest, LineOk s) → passL (rnP ρ P) (fs.map (rnF ρ)) (rnF ρ f) lim jobs (rnB ρ B) (rest.map (rnK ρ)) = rnR ρ (passL P fs f lim jobs B rest)
  | [], f, lim, jobs, B, _ => by
    show ((⟨fs.map (rnF ρ), f.kp, jobs⟩, (rnB ρ B).ended (ρ f.ln), [(("end" : Str), ρ f.ln)]) : Cr × Bd × List Ev) = (⟨fs.map (rnF ρ), f.kp, jobs⟩, rnB ρ (B.ended f.ln), [rnE ρ ("end", f.ln)])
    have e1 : (rnB ρ B).ended (ρ f.ln) = rnB ρ (B.ended f.ln) := by
      show ({ rnB ρ B with taken := (B.taken.map ρ).erase (ρ f.ln) } : Bd) = _
      rw [rn_erase inj]
      rfl
    have e2 : rnE ρ (("end" : Str), f.ln) = (("end" : Str), ρ f.ln) := if_neg (show ¬ ("end" : Str) = "done" by decide)
    rw [e1, e2]
  | s :: r, f, lim, jobs, B, h => by
    rw [List.map_cons]
    unfold passL
    rw [rn_stops]
    by_cases hs : stops B s = true
    · rw [if_pos hs, if_pos hs]
      unfold rnR rnC
      simp
    · rw [if_neg hs, if_neg hs, rn_stepFx inj lim jobs B (h s (by simp))]
      exact rn_passL fs r { f with st := f.st + 1 } _ _ _ fun s' hs' => h s' (by simp [hs'])
omit inj in
theorem line_ok (ok : P.Ok) (z : Str) : ∀ s ∈ (P.ln z).st, LineOk s := fun s hs hw => by
  by_cases hz : z ∈ P.names
  · have h := ok.step (ok.ln_mem hz).1 hs
    cases h with
    | run i _ _ => exact absurd (show ("run" : Str) ∈ lineW from hw) (by decide)
    | bar i _ _ => exact absurd (show ("bar" : Str) ∈ lineW from hw) (by decide)
    | later y _ => exact absurd (show ("later" : Str) ∈ lineW from hw) (by decide)
    | flag w i hw2 _ _ =>
      simp only [List.mem_cons, List.not_mem_nil, or_false] at hw2
      rcases hw2 with rfl | rfl | rfl
      · exact absurd (show ("set" : Str) ∈ lineW from hw) (by decide)
      · exact absurd (show ("clear" : Str) ∈ lineW from hw) (by decide)
      · exact absurd (show ("await" : Str) ∈ lineW from hw) (by decide)
    | line w y _ _ _ => exact ⟨y, rfl⟩
  · have e : P.ln z = ⟨z, "", 0, []⟩ := by
      unfold Pl.ln
      have : P.ls.find? (fun l => l.nm == z) = none := by
        rw [List.find?_eq_none]
        intro l hl e
        exact hz (List.mem_map.mpr ⟨l, hl, by simpa using e⟩)
      rw [this]
      rfl
    rw [e] at hs
    cases hs
theorem rn_pass (ok : P.Ok) (fs : List Frm) (f : Frm) (lim : Int) (jobs : List (Str × Nat)) (B : Bd) : pass (rnP ρ P) (fs.map (rnF ρ)) (rnF ρ f) lim jobs (rnB ρ B) = rnR ρ (pass P fs f lim jobs B) := by
  unfold pass
  show passL (rnP ρ P) (fs.map (rnF ρ)) (rnF ρ f) lim jobs (rnB ρ B) (((rnP ρ P).ln (ρ f.ln)).st.drop f.st) = _
  rw [rn_ln inj]
  show passL (rnP ρ P) (fs.map (rnF ρ)) (rnF ρ f) lim jobs (rnB ρ B) (((P.ln f.ln).st.map (rnK ρ)).drop f.st) = _
  rw [← List.map_drop]
  exact rn_passL inj fs _ f lim jobs B fun s hs => line_ok ok f.ln s (List.mem_of_mem_drop hs)
theorem rn_stepOf (f : Frm) : stepOf (rnP ρ P) (rnF ρ f) = rnK ρ (stepOf P f) := by
  unfold stepOf
  show ((((rnP ρ P).ln (ρ f.ln)).st[f.st]?).getD _ : Str × Key) = _
  rw [rn_ln inj]
  show ((((P.ln f.ln).st.map (rnK ρ))[f.st]?).getD _ : Str × Key) = _
  rw [List.getElem?_map]
  cases (P.ln f.ln).st[f.st]? with
  | none => exact (rnK_no (show ("" : Str) ∉ lineW by decide)).symm
  | some s => rfl
theorem rn_spend (ok : P.Ok) (fs : List Frm) (f : Frm) (lim : Int) (jobs : List (Str × Nat)) (B : Bd) : spend (rnP ρ P) (fs.map (rnF ρ)) (rnF ρ f) lim jobs (rnB ρ B) = rnR ρ (spend P fs f lim jobs B) := by
  unfold spend
  rw [rn_stepOf inj, rnK_kI]
  show (if (f.tk : Int) + 1 < _ then _ else pass (rnP ρ P) (fs.map (rnF ρ)) (rnF ρ { f with st := f.st + 1, tk := 0 }) lim jobs (rnB ρ B)) = _
  rw [rn_pass inj ok]
  by_cases h : (f.tk : Int) + 1 < kI (stepOf P f).2
  · rw [if_pos h, if_pos h]
    unfold rnR rnC
    simp [rnF]
  · rw [if_neg h, if_neg h]
theorem rn_left (fs : List Frm) : left (rnP ρ P) (fs.map (rnF ρ)) = left P fs := by
  unfold left
  rw [List.map_map]
  congr 2
  funext f
  show left1 (rnP ρ P) (rnF ρ f) = left1 P f
  unfold left1
  show ((rnP ρ P).ln (ρ f.ln)).st.length - f.st + 1 = _
  rw [rn_ln inj]
  show ((P.ln f.ln).st.map _).length - f.st + 1 = _
  rw [List.length_map]
theorem rn_passing (B : Bd) (f : Frm) : passing (rnP ρ P) (rnB ρ B) (rnF ρ f) = passing P B f := by
  unfold passing
  show (match ((rnP ρ P).ln (ρ f.ln)).st[f.st]? with | some s => _ | none => _) = _
  rw [rn_ln inj]
  show (match ((P.ln f.ln).st.map (rnK ρ))[f.st]? with | some s => _ | none => _) = _
  rw [List.getElem?_map]
  cases (P.ln f.ln).st[f.st]? with
  | none => rfl
  | some s =>
    show (decide ((rnK ρ s).1 = ("await" : Str)) && decide (kI (rnK ρ s).2 ∈ B.raised)) = (decide (s.1 = ("await" : Str)) && decide (kI s.2 ∈ B.raised))
    rw [rnK_fst, rnK_kI]
end
end Z
set_option maxHeartbeats 1000000
namespace Z
open PySem PySem.Spec PyProof.Rows L2
section
variable {ρ : Str → Str} (inj : ∀ a b, ρ a = ρ b → a = b) {P : Pl}
include inj
theorem rn_passAll (ok : P.Ok) : ∀ (n : Nat) (C : Cr) (B : Bd) (es : List Ev), passAll (rnP ρ P) n (rnC ρ C) (rnB ρ B) (es.map (rnE ρ)) = rnR ρ (passAll P n C B es)
  | 0, _, _, _ => rfl
  | n + 1, C, B, es => by
    rcases List.eq_nil_or_concat C.frames with e | ⟨fs, f, e⟩
    · have e' : (rnC ρ C).frames = [] := by
        show C.frames.map _ = []
        rw [e]
        rfl
      rw [passAll_nil e, passAll_nil e']
      rfl
    · rw [List.concat_eq_append] at e
      have e' : (rnC ρ C).frames = fs.map (rnF ρ) ++ [rnF ρ f] := by
        show C.frames.map _ = _
        rw [e, List.map_append]
        rfl
      have ep := rn_passing (P := P) inj B f
      cases hp : passing P B f with
      | false =>
        rw [passAll_no e hp, passAll_no e' (by rw [ep]; exact hp)]
        rfl
      | true =>
        rw [passAll_yes e hp, passAll_yes e' (by rw [ep]; exact hp)]
        show passAll (rnP ρ P) n (pass (rnP ρ P) (fs.map (rnF ρ)) (rnF ρ f) C.limit C.jobs (rnB ρ B)).1 (pass (rnP ρ P) (fs.map (rnF ρ)) (rnF ρ f) C.limit C.jobs (rnB ρ B)).2.1 (es.map (rnE ρ) ++ (pass (rnP ρ P) (fs.map (rnF ρ)) (rnF ρ f) C.limit C.jobs (rnB ρ B)).2.2) = _
        rw [rn_pass inj ok, ← rn_passAll ok n, List.map_append]
        rfl
omit inj in
theorem rn_work (jobs : List (Str × Nat)) : doWork (rnP ρ P) jobs = doWork P jobs := rfl
omit inj in
theorem rn_workE (jobs : List (Str × Nat)) : (doWork P jobs).2.map (rnE ρ) = (doWork P jobs).2 := by
  unfold doWork
  split
  · rfl
  · split
    · rfl
    · split
      · rfl
      · rename_i j hj _
        show [rnE ρ (("done" : Str), j.1)] = [((("done" : Str), j.1) : Ev)]
        rw [show rnE ρ (("done" : Str), j.1) = (("done" : Str), j.1) from if_pos rfl]
theorem rn_tickC (ok : P.Ok) (C : Cr) (B : Bd) (es : List Ev) : tickC (rnP ρ P) (rnC ρ C) (rnB ρ B) (es.map (rnE ρ)) = ((tickC P C B es).1, rnR ρ (tickC P C B es).2) := by
  rcases List.eq_nil_or_concat C.frames with e | ⟨fs, f, e⟩
  · have e' : (rnC ρ C).frames = [] := by
      show C.frames.map _ = []
      rw [e]
      rfl
    by_cases hj : C.jobs = []
    · rw [tickC_idle e hj, tickC_idle e' hj]
      rfl
    · rw [tickC_work e hj, tickC_work e' hj]
      show (("work" : Str), ({ rnC ρ C with jobs := (doWork P C.jobs).1 } : Cr), rnB ρ B, es.map (rnE ρ) ++ (doWork P C.jobs).2) = (("work" : Str), rnC ρ { C with jobs := (doWork P C.jobs).1 }, rnB ρ B, (es ++ (doWork P C.jobs).2).map (rnE ρ))
      rw [List.map_append, rn_workE]
      rfl
  · rw [List.concat_eq_append] at e
    have e' : (rnC ρ C).frames = fs.map (rnF ρ) ++ [rnF ρ f] := by
      show C.frames.map _ = _
      rw [e, List.map_append]
      rfl
    have es' : (stepOf (rnP ρ P) (rnF ρ f)).1 = (stepOf P f).1 := by rw [rn_stepOf inj, rnK_fst]
    by_cases ha : (stepOf P f).1 = "await"
    · rw [tickC_spun e ha, tickC_spun e' (by rw [es']; exact ha)]
      rfl
    · rw [tickC_call e ha, tickC_call e' (by rw [es']; exact ha)]
      show (("call" : Str), (spend (rnP ρ P) (fs.map (rnF ρ)) (rnF ρ f) C.limit C.jobs (rnB ρ B)).1, (spend (rnP ρ P) (fs.map (rnF ρ)) (rnF ρ f) C.limit C.jobs (rnB ρ B)).2.1, es.map (rnE ρ) ++ (spend (rnP ρ P) (fs.map (rnF ρ)) (rnF ρ f) C.limit C.jobs (rnB ρ B)).2.2) = _
      rw [rn_spend inj ok]
      unfold rnR
      rw [List.map_append]
theorem rn_can (B : Bd) (z : Str) : (rnB ρ B).can (ρ z) = B.can z := by
  unfold Bd.can Bd.waiting
  show ((decide (ρ z ∈ B.wanted.map ρ) || (decide (ρ z ∈ B.high.map ρ) && !decide (ρ z ∈ B.taken.map ρ))) && (!decide (ρ z ∈ B.shut.map ρ) && !decide (ρ z ∈ B.taken.map ρ))) = _
  rw [rn_dec inj, rn_dec inj, rn_dec inj, rn_dec inj]
theorem rn_waiting (B : Bd) (z : Str) : (rnB ρ B).waiting (ρ z) = B.waiting z := by
  unfold Bd.waiting
  show (decide (ρ z ∈ B.wanted.map ρ) || (decide (ρ z ∈ B.high.map ρ) && !decide (ρ z ∈ B.taken.map ρ))) = _
  rw [rn_dec inj, rn_dec inj, rn_dec inj]
theorem rn_takeC (ok : P.Ok) (od : (rnP ρ P).order = P.order.map ρ) (C : Cr) (B : Bd) : takeC (rnP ρ P) (rnC ρ C) (rnB ρ B) = rnR ρ (takeC P C B) := by
  have er : ready (rnP ρ P) (rnB ρ B) = (ready P B).map ρ := by
    unfold ready
    rw [od, List.filter_map]
    congr 1
    apply List.filter_congr
    intro z _
    exact rn_can inj B z
  unfold takeC
  rw [er]
  cases e : ready P B with
  | nil => rfl
  | cons z r =>
    rw [List.map_cons]
    dsimp only
    have ei : (rnC ρ C).inner (rnP ρ P) = C.inner P := by
      unfold Cr.inner
      show (match (C.frames.map (rnF ρ)).getLast? with | none => 0 | some f => ((rnP ρ P).ln f.ln).rk) = _
      rw [List.getLast?_map]
      cases C.frames.getLast? with
      | none => rfl
      | some f =>
        show ((rnP ρ P).ln (ρ f.ln)).rk = _
        rw [rn_ln inj]
        rfl
    have em : (rnC ρ C).may (rnP ρ P) (ρ z) = C.may P z := by
      unfold Cr.may
      rw [ei, rn_ln inj]
      rfl
    rw [em]
    have eb : (rnB ρ B).begun (ρ z) = rnB ρ (B.begun z) := by
      show ({ rnB ρ B with taken := B.taken.map ρ ++ [ρ z], wanted := (putL (B.wanted.map ρ) (ρ z) false).1 } : Bd) = _
      rw [rn_put inj]
      unfold rnB Bd.begun
      simp
    have ep := rn_pass inj ok C.frames ⟨z, 0, 0, C.limit⟩ C.limit C.jobs (B.begun z)
    split
    · show ((pass (rnP ρ P) (C.frames.map (rnF ρ)) (rnF ρ ⟨z, 0, 0, C.limit⟩) C.limit C.jobs ((rnB ρ B).begun (ρ z))).1, (pass (rnP ρ P) (C.frames.map (rnF ρ)) (rnF ρ ⟨z, 0, 0, C.limit⟩) C.limit C.jobs ((rnB ρ B).begun (ρ z))).2.1, (("begin" : Str), ρ z) :: (pass (rnP ρ P) (C.frames.map (rnF ρ)) (rnF ρ ⟨z, 0, 0, C.limit⟩) C.limit C.jobs ((rnB ρ B).begun (ρ z))).2.2) = _
      rw [eb, ep]
      unfold rnR
      simp only [List.map_cons]
      rw [show rnE ρ (("begin" : Str), z) = (("begin" : Str), ρ z) from if_neg (show ¬ ("begin" : Str) = "done" by decide)]
    · rfl
theorem rn_tick (ok : P.Ok) (od : (rnP ρ P).order = P.order.map ρ) (G : Sg) : (rnG ρ G).tick (rnP ρ P) = (rnG ρ (G.tick P).1, (G.tick P).2.map (rnE ρ)) := by
  unfold Sg.tick
  show ((⟨((takeC (rnP ρ P) (rnC ρ G.C) (rnB ρ G.B)).1.tick (rnP ρ P) (takeC (rnP ρ P) (rnC ρ G.C) (rnB ρ G.B)).2.1).2.2.1, ((takeC (rnP ρ P) (rnC ρ G.C) (rnB ρ G.B)).1.tick (rnP ρ P) (takeC (rnP ρ P) (rnC ρ G.C) (rnB ρ G.B)).2.1).2.1, G.time + 1, bump G.sums ((takeC (rnP ρ P) (rnC ρ G.C) (rnB ρ G.B)).1.tick (rnP ρ P) (takeC (rnP ρ P) (rnC ρ G.C) (rnB ρ G.B)).2.1).1⟩, (takeC (rnP ρ P) (rnC ρ G.C) (rnB ρ G.B)).2.2 ++ ((takeC (rnP ρ P) (rnC ρ G.C) (rnB ρ G.B)).1.tick (rnP ρ P) (takeC (rnP ρ P) (rnC ρ G.C) (rnB ρ G.B)).2.1).2.2.2) : Sg × List Ev) = _
  rw [rn_takeC inj ok od]
  generalize takeC P G.C G.B = r
  obtain ⟨C1, B1, e1⟩ := r
  have et : (rnC ρ C1).tick (rnP ρ P) (rnB ρ B1) = ((C1.tick P B1).1, rnR ρ (C1.tick P B1).2) := by
    unfold Cr.tick
    have h1 : left (rnP ρ P) (rnC ρ C1).frames = left P C1.frames := rn_left inj C1.frames
    have h2 := rn_passAll inj ok (left P C1.frames) C1 B1 []
    rw [List.map_nil] at h2
    rw [h1, h2]
    exact rn_tickC inj ok _ _ _
  show ((⟨((rnC ρ C1).tick (rnP ρ P) (rnB ρ B1)).2.2.1, ((rnC ρ C1).tick (rnP ρ P) (rnB ρ B1)).2.1, G.time + 1, bump G.sums ((rnC ρ C1).tick (rnP ρ P) (rnB ρ B1)).1⟩, e1.map (rnE ρ) ++ ((rnC ρ C1).tick (rnP ρ P) (rnB ρ B1)).2.2.2) : Sg × List Ev) = _
  rw [et, List.map_append]
  rfl
omit inj in
theorem rn_start (od : (rnP ρ P).order = P.order.map ρ) : Sg.start (rnP ρ P) = rnG ρ (Sg.start P) := by
  unfold Sg.start
  rw [od]
  unfold rnG rnB rnC rnJ
  simp [Function.comp_def]
/-- names in the order of the texts: what the order is then -/
theorem rn_order (mono : ∀ a ∈ P.ls, ∀ b ∈ P.ls, leO (rnL ρ a) (rnL ρ b) = leO a b) : (rnP ρ P).order = P.order.map ρ := by
  unfold Pl.order
  show ((P.ls.map (rnL ρ)).mergeSort leO).map (·.nm) = _
  rw [← List.map_mergeSort (r := leO) (s := leO) (f := rnL ρ) (l := P.ls) (fun a ha b hb => (mono a ha b hb).symm), List.map_map, List.map_map]
  rfl
end
end Z
set_option maxHeartbeats 1000000
namespace Z
open PySem PySem.Spec PyProof.Rows L2
/-! ### the new names: in the order of the old ones -/
def zzL : List Str := ["zza", "zzb", "zzc", "zzd", "zze", "zzf"]
def rho (ns : List Str) (z : Str) : Str := if z ∈ ns then zzL.getD (ns.idxOf z) "" else "y" ++ z
theorem zz_lt : ∀ i < 6, ∀ j < 6, decide ((zzL.getD i "").cps.toList < (zzL.getD j "").cps.toList) = decide (i < j) := by decide +kernel
theorem zz_inj : ∀ i < 6, ∀ j < 6, zzL.getD i "" = zzL.getD j "" → i = j := by decide +kernel
theorem zz_z : ∀ i < 6, (zzL.getD i "").cps.toList.head? = some 122 := by decide +kernel
theorem zz_A : ∀ i < 6, zzL.getD i "" ∈ nmA := by decide +kernel
theorem y_cps (z : Str) : ("y" ++ z : Str).cps.toList = 121 :: z.cps.toList := by
  show (Str.append "y" z).cps.toList = _
  unfold Str.append
  rw [Array.toList_append]
  rfl
/-- names in order, at most six of them -/
structure Six (ns : List Str) : Prop where
  nd : ns.Nodup
  le : ns.length ≤ 6
  so : ns.Pairwise fun a b => ¬ b.cps.toList < a.cps.toList
section
variable {ns : List Str} (h : Six ns)
include h
theorem Six.ix {z : Str} (hz : z ∈ ns) : ns.idxOf z < 6 := by
  have := List.idxOf_lt_length_of_mem hz
  have := h.le
  omega
theorem Six.at {z : Str} (hz : z ∈ ns) : rho ns z = zzL.getD (ns.idxOf z) "" := if_pos hz
theorem Six.inj (a b : Str) (e : rho ns a = rho ns b) : a = b := by
  by_cases ha : a ∈ ns
  · by_cases hb : b ∈ ns
    · rw [h.at ha, h.at hb] at e
      have := zz_inj _ (h.ix ha) _ (h.ix hb) e
      have e1 := List.getElem_idxOf (List.idxOf_lt_length_of_mem ha)
      have e2 := List.getElem_idxOf (List.idxOf_lt_length_of_mem hb)
      rw [← e1, ← e2]
      congr 1
    · exfalso
      rw [h.at ha] at e
      have h1 := zz_z _ (h.ix ha)
      rw [e] at h1
      unfold rho at h1
      rw [if_neg hb, y_cps] at h1
      exact absurd h1 (by simp)
  · by_cases hb : b ∈ ns
    · exfalso
      rw [h.at hb] at e
      have h1 := zz_z _ (h.ix hb)
      rw [← e] at h1
      unfold rho at h1
      rw [if_neg ha, y_cps] at h1
      exact absurd h1 (by simp)
    · unfold rho at e
      rw [if_neg ha, if_neg hb] at e
      have e2 := congrArg (fun x : Str => x.cps.toList) e
      simp only [y_cps] at e2
      exact str_ext (List.cons.inj e2).2
theorem Six.lt {a b : Str} (ha : a ∈ ns) (hb : b ∈ ns) : decide ((rho ns a).cps.toList < (rho ns b).cps.toList) = decide (a.cps.toList < b.cps.toList) := by
  rw [h.at ha, h.at hb, zz_lt _ (h.ix ha) _ (h.ix hb)]
  have la := List.idxOf_lt_length_of_mem ha
  have lb := List.idxOf_lt_length_of_mem hb
  have e1 := List.getElem_idxOf la
  have e2 := List.getElem_idxOf lb
  have so := List.pairwise_iff_getElem.mp h.so
  apply decide_eq_decide.mpr
  constructor
  · intro hlt
    have h1 := so _ _ la lb hlt
    rw [e1, e2] at h1
    refine Classical.byContradiction fun hn => ?_
    have e : a = b := str_ext (List.le_antisymm (List.not_lt.mp h1) (List.not_lt.mp hn))
    rw [e] at hlt
    omega
  · intro hlt
    refine Classical.byContradiction fun hn => ?_
    by_cases e : ns.idxOf a = ns.idxOf b
    · have : a = b := by
        rw [← e1, ← e2]
        congr 1
      rw [this] at hlt
      exact absurd hlt (List.lt_irrefl _)
    · have h1 := so _ _ lb la (by omega)
      rw [e1, e2] at h1
      exact h1 hlt
theorem Six.mono {P : Pl} (hp : ∀ z ∈ P.names, z ∈ ns) : ∀ a ∈ P.ls, ∀ b ∈ P.ls, leO (rnL (rho ns) a) (rnL (rho ns) b) = leO a b := fun a ha b hb => by
  have ma : a.nm ∈ ns := hp _ (List.mem_map.mpr ⟨a, ha, rfl⟩)
  have mb : b.nm ∈ ns := hp _ (List.mem_map.mpr ⟨b, hb, rfl⟩)
  show (!PySem.W.dataLt (ordD (rnL (rho ns) b)) (ordD (rnL (rho ns) a))) = !PySem.W.dataLt (ordD b) (ordD a)
  congr 1
  unfold ordD
  rw [PySem.W.dataLt_pair (by simp [PySem.W.alike]) (by simp [PySem.W.alike]), PySem.W.dataLt_pair (by simp [PySem.W.alike]) (by simp [PySem.W.alike]), PySem.W.dataLt_int, PySem.W.dataLt_str, PySem.W.dataLt_int, PySem.W.dataLt_str]
  show _ = (if _ then (if _ then false else decide (b.nm.cps.toList < a.nm.cps.toList)) else _)
  rw [← h.lt mb ma]
  have e3 : (PyData.str (rnL (rho ns) b).nm).eqv (.str (rnL (rho ns) a).nm) = (PyData.str b.nm).eqv (.str a.nm) := by
    show (rho ns b.nm == rho ns a.nm) = (b.nm == a.nm)
    rw [Bool.eq_iff_iff, beq_iff_eq, beq_iff_eq]
    exact ⟨fun e => h.inj _ _ e, fun e => by rw [e]⟩
  rw [e3]
  rfl
theorem Six.order {P : Pl} (hp : ∀ z ∈ P.names, z ∈ ns) : (rnP (rho ns) P).order = P.order.map (rho ns) := rn_order h.inj (h.mono hp)
end
/-! ### the set-ups that are made of a drawn one -/
theorem FitSt.sub {nk nk' : NK} {ws ws' : List Str} (hm : ∀ x ∈ nk, x ∈ nk') (hw : ∀ x ∈ ws, x ∈ ws') {s : Str × Key} (h : FitSt nk ws s) : FitSt nk' ws' s := by
  cases h with
  | run a b => exact .run a b
  | bar a b => exact .bar a b
  | flag a b c => exact .flag a b c
  | line a b =>
    obtain ⟨x, hx, rfl⟩ := List.mem_map.mp b
    exact .line a (List.mem_map.mpr ⟨x, hm x hx, rfl⟩)
  | quiet a => exact .quiet (hm _ a)
  | later a => exact .later (hw _ a)
theorem Drawn.wnd {P : Pl} (d : Drawn P) : P.wnames.Nodup := by
  obtain ⟨k, e⟩ := d.wn
  rw [e]
  exact List.Nodup.sublist (List.take_sublist _ _) (by decide)
/-- in another turn -/
theorem turn_ok {P : Pl} (d : Drawn P) {ls : List Ln} {ws : List Wk} (hl : ls.Perm P.ls) (hw : ws.Perm P.ws) : Pl.Ok ⟨ls, ws⟩ := by
  have h6 := d.l6
  have h2 := d.w2
  have e1 := hl.length_eq
  have e2 := hw.length_eq
  refine plan_fit (fun l h => ?_) ((hl.map _).nodup_iff.mpr d.nd) (fun e => d.ne (by rw [e] at hl; exact hl.symm.eq_nil)) (by omega) ((hw.map _).nodup_iff.mpr d.wnd) (by omega) (fun w h => d.wf w (hw.mem_iff.mp h))
  have g := d.fit l (hl.mem_iff.mp h)
  exact ⟨g.nm, g.kd, g.r1, g.r9, g.ne, g.s8, fun s hs => (g.st s hs).sub (fun x hx => (hl.map _).mem_iff.mpr hx) (fun x hx => (hw.map _).mem_iff.mpr hx)⟩
/-- under other names -/
theorem name_ok {P : Pl} (d : Drawn P) {ns : List Str} (h : Six ns) (hp : ∀ z ∈ P.names, z ∈ ns) : (rnP (rho ns) P).Ok := by
  have h6 := d.l6
  have h2 := d.w2
  refine plan_fit (ls := P.ls.map (rnL (rho ns))) (ws := P.ws) (fun l hl => ?_) ?_ (fun e => d.ne (List.map_eq_nil_iff.mp e)) (by rw [List.length_map]; omega) d.wnd (by omega) d.wf
  · obtain ⟨l, hl', rfl⟩ := List.mem_map.mp hl
    clear hl
    have hl := hl'
    clear hl'
    have g := d.fit l hl
    have hm : l.nm ∈ ns := hp _ (List.mem_map.mpr ⟨l, hl, rfl⟩)
    have hk : ∀ x ∈ nkOf P.ls, (rho ns x.1, x.2) ∈ nkOf (P.ls.map (rnL (rho ns))) := fun x hx => by
      obtain ⟨m, hm, rfl⟩ := List.mem_map.mp hx
      exact List.mem_map.mpr ⟨rnL (rho ns) m, List.mem_map.mpr ⟨m, hm, rfl⟩, rfl⟩
    refine ⟨?_, g.kd, g.r1, g.r9, fun e => g.ne (List.map_eq_nil_iff.mp e), by show (l.st.map _).length ≤ 8; rw [List.length_map]; exact g.s8, fun s hs => ?_⟩
    · show rho ns l.nm ∈ nmA
      rw [h.at hm]
      exact zz_A _ (h.ix hm)
    · obtain ⟨s, hs', rfl⟩ := List.mem_map.mp hs
      clear hs
      have hs := g.st s hs'
      clear hs'
      cases hs with
      | run a b => exact .run a b
      | bar a b => exact .bar a b
      | flag a b c =>
        rename_i w n
        have : w ∉ lineW := by
          simp only [List.mem_cons, List.not_mem_nil, or_false] at a
          rcases a with rfl | rfl | rfl <;> decide
        rw [rnK_no this]
        exact .flag a b c
      | line a b =>
        rename_i w z
        have : w ∈ lineW := by
          simp only [List.mem_cons, List.not_mem_nil, or_false] at a
          rcases a with rfl | rfl | rfl <;> decide
        unfold rnK
        rw [if_pos this]
        obtain ⟨x, hx, rfl⟩ := List.mem_map.mp b
        exact .line a (List.mem_map.mpr ⟨_, hk x hx, rfl⟩)
      | quiet a => exact .quiet (hk _ a)
      | later a => exact .later a
  · rw [List.map_map]
    show (P.ls.map fun l => rho ns l.nm).Nodup
    have e : (P.ls.map fun l => rho ns l.nm) = P.names.map (rho ns) := by
      unfold Pl.names
      rw [List.map_map]
      rfl
    rw [e]
    exact (List.pairwise_map.mpr (d.nd.imp fun hne e => hne (h.inj _ _ e)))
/-! ### deeds -/
theorem CarryIs.turn {P R : Pl} {s : Str × Key} (c : CarryIs P s) (hl : R.ls.Perm P.ls) : CarryIs R s := by
  rcases c with ⟨hw, z, e, hz⟩ | c
  · exact .inl ⟨hw, z, e, (hl.map _).mem_iff.mpr hz⟩
  · exact .inr c
theorem CarryIs.named {P : Pl} {s : Str × Key} (c : CarryIs P s) (ρ : Str → Str) : CarryIs (rnP ρ P) (rnK ρ s) ∧ rnK ρ s = (s.1, rnY ρ s.2) ∧ LineOk s := by
  obtain ⟨w, k⟩ := s
  rcases c with ⟨hw, z, e, hz⟩ | ⟨hw, i, e, h0, h7⟩
  · subst e
    have e1 : rnK ρ (w, .inr z) = (w, .inr (ρ z)) := if_pos hw
    rw [e1]
    refine ⟨.inl ⟨hw, ρ z, rfl, ?_⟩, rfl, fun _ => ⟨z, rfl⟩⟩
    obtain ⟨l, hl, rfl⟩ := List.mem_map.mp hz
    exact List.mem_map.mpr ⟨rnL ρ l, List.mem_map.mpr ⟨l, hl, rfl⟩, rfl⟩
  · subst e
    have hn : w ∉ lineW := by
      have hw : w ∈ (["set", "clear"] : List Str) := hw
      simp only [List.mem_cons, List.not_mem_nil, or_false] at hw
      rcases hw with rfl | rfl <;> decide
    have e1 : rnK ρ (w, .inl i) = (w, .inl i) := rnK_no hn
    rw [e1]
    exact ⟨.inr ⟨hw, i, rfl, h0, h7⟩, rfl, fun q => absurd q hn⟩
theorem rn_doneD (ρ : Str → Str) (s : Str × Key) (b : Bool) : doneD (rnK ρ s) b = doneD s b := by
  unfold doneD
  rw [rnK_fst]
end Z
set_option maxHeartbeats 1000000
namespace Z
open PySem PySem.Spec PyProof.Rows L2
section
variable {K : Fg} {r : Addr} {H0 H H' : Hp} {A B C N : SA} {P1 P2 P3 : Pl} {G1 G2 G3 G : Sg}
theorem TwoR.far (t : TwoR K r H0 H B C P2 P3 G2 G3) {L : List Addr} (f : Fr L H H') (h : ∀ a ∈ L, a ∉ B.own ∧ a ∉ C.own ∧ a ∉ B.PD.own ∧ a ∉ C.PD.own) : TwoR K r H0 H' B C P2 P3 G2 G3 :=
  ⟨t.s1.keep f (fun a ha z => (h a z).1 ha) (fun a ha z => (h a z).2.2.1 ha), t.s2.keep f (fun a ha z => (h a z).2.1 ha) (fun a ha z => (h a z).2.2.2 ha), t.d, t.e1, t.e2, t.n1, t.n2, t.p1, t.p2⟩
/-- three processors in one heap -/
structure Trio (K : Fg) (r : Addr) (H0 H : Hp) (A B C : SA) (P1 P2 P3 : Pl) (G1 G2 G3 : Sg) : Prop where
  a : TwoR K r H0 H A B P1 P2 G1 G2
  b : TwoR K r H0 H A C P1 P3 G1 G3
  c : TwoR K r H0 H B C P2 P3 G2 G3
theorem Trio.same (t : Trio K r H0 H A B C P1 P2 P3 G1 G2 G3) (s : Same H H') : Trio K r H0 H' A B C P1 P2 P3 G1 G2 G3 := ⟨t.a.same s, t.b.same s, t.c.same s⟩
theorem Trio.row (t : Trio K r H0 H A B C P1 P2 P3 G1 G2 G3) (f : Fr [r] H H') (n : H0 r ≠ none) : Trio K r H0 H' A B C P1 P2 P3 G1 G2 G3 := ⟨t.a.row f n, t.b.row f n, t.c.row f n⟩
theorem Trio.ch1 (t : Trio K r H0 H A B C P1 P2 P3 G1 G2 G3) (bk : ∀ a, H a = none → H0 a = none) (c : ChS H A H' N) (sg : SgAt K H' N P1 G) : Trio K r H0 H' N B C P1 P2 P3 G G2 G3 :=
  ⟨t.a.ch1 bk c sg, t.b.ch1 bk c sg, t.c.far c.fr fun x hx => ⟨t.a.d x hx, t.b.d x hx, fun z => t.a.e2 x z hx, fun z => t.b.e2 x z hx⟩⟩
theorem Trio.ch2 (t : Trio K r H0 H A B C P1 P2 P3 G1 G2 G3) (bk : ∀ a, H a = none → H0 a = none) (c : ChS H B H' N) (sg : SgAt K H' N P2 G) : Trio K r H0 H' A N C P1 P2 P3 G1 G G3 :=
  ⟨t.a.ch2 bk c sg, t.b.far c.fr fun x hx => ⟨fun z => t.a.d x z hx, t.c.d x hx, fun z => t.a.e1 x z hx, fun z => t.c.e2 x z hx⟩, t.c.ch1 bk c sg⟩
theorem Trio.ch3 (t : Trio K r H0 H A B C P1 P2 P3 G1 G2 G3) (bk : ∀ a, H a = none → H0 a = none) (c : ChS H C H' N) (sg : SgAt K H' N P3 G) : Trio K r H0 H' A B N P1 P2 P3 G1 G2 G :=
  ⟨t.a.far c.fr fun x hx => ⟨fun z => t.b.d x z hx, fun z => t.c.d x z hx, fun z => t.b.e1 x z hx, fun z => t.c.e1 x z hx⟩, t.b.ch2 bk c sg, t.c.ch2 bk c sg⟩
end
section
variable {K : Fg} {r : Addr} {H0 H1 H H' : Hp} {A B : SA} {P1 P2 : Pl} {G1 G2 : Sg}
theorem TwoS.toR (t : TwoS K H1 H A B P1 P2 G1 G2) (bk : ∀ a, H1 a = none → H0 a = none) (hr : H1 r ≠ none) : TwoR K r H0 H A B P1 P2 G1 G2 :=
  ⟨t.s1, t.s2, t.d, t.e1, t.e2, fun a ha => bk a (t.n1 a ha), fun a ha => bk a (t.n2 a ha), fun z => hr (t.p1 r z), fun z => hr (t.p2 r z)⟩
theorem OneS.row (x : OneS K H0 H A P1 G1) (f : Fr [r] H H') (hr : H0 r ≠ none) : OneS K H0 H' A P1 G1 := by
  have z : ∀ {a}, H0 a = none → a ∉ [r] := fun h q => hr (by rw [← List.mem_singleton.mp q]; exact h)
  exact ⟨x.s.keep f (fun a ha => z (x.n a ha)) (fun a ha => z (x.p a ha)), x.n, x.p⟩
theorem OneS.same (x : OneS K H0 H A P1 G1) (s : Same H H') : OneS K H0 H' A P1 G1 := ⟨x.s.same s, x.n, x.p⟩
end
/-! ### the sorted names -/
theorem six_sort {P : Pl} (d : Drawn P) : ∃ ns : List Str, (P.names.map PyData.str).mergeSort (PySem.W.dataLe false id) = ns.map PyData.str ∧ ns.Perm P.names ∧ Six ns := by
  have hp := List.mergeSort_perm (P.names.map PyData.str) (PySem.W.dataLe false id)
  have hs : ((P.names.map PyData.str).mergeSort (PySem.W.dataLe false id)).Pairwise fun a b => PySem.W.dataLe false id a b = true :=
    List.pairwise_mergeSort (PySem.W.sortLe_total _ _ _).trans (fun a b => Bool.or_eq_true_iff.mpr ((PySem.W.sortLe_total _ _ _).total a b)) _
  generalize (P.names.map PyData.str).mergeSort (PySem.W.dataLe false id) = L at hp hs
  have h1 : ∀ y ∈ L, ∃ z, y = PyData.str z := fun y hy => by
    obtain ⟨z, _, e⟩ := List.mem_map.mp (hp.mem_iff.mp hy)
    exact ⟨z, e.symm⟩
  obtain ⟨m, rfl⟩ : ∃ m : List Str, L = m.map PyData.str := by
    clear hp hs
    induction L with
    | nil => exact ⟨[], rfl⟩
    | cons y ys ih =>
      obtain ⟨z, rfl⟩ := h1 y (by simp)
      obtain ⟨m, rfl⟩ := ih fun y hy => h1 y (by simp [hy])
      exact ⟨z :: m, rfl⟩
  have hm : m.Perm P.names := by
    have h2 := hp.map (fun v : PyData => match v with | .str z => z | _ => "")
    rw [List.map_map, List.map_map] at h2
    have e : ∀ l : List Str, l.map ((fun v : PyData => match v with | .str z => z | _ => "") ∘ PyData.str) = l := fun l => by
      rw [show ((fun v : PyData => match v with | .str z => z | _ => "") ∘ PyData.str) = (id : Str → Str) from rfl, List.map_id]
    rw [e, e] at h2
    exact h2
  refine ⟨m, rfl, hm, hm.nodup_iff.mpr d.nd, ?_, ?_⟩
  · have := d.l6
    have e := hm.length_eq
    unfold Pl.names at e
    rw [List.length_map] at e
    omega
  · rw [List.pairwise_map] at hs
    refine hs.imp fun {a b} h => ?_
    have h3 : PySem.W.dataLt (.str b) (.str a) = false := by
      have : (!PySem.W.dataLt (.str b) (.str a)) = true := h
      simpa using this
    rw [PySem.W.dataLt_str] at h3
    exact of_decide_eq_false h3
end Z
set_option maxHeartbeats 1000000
namespace Z
open PySem PySem.Spec PyProof.Rows L2
/-! ### data in another turn -/
theorem DpAll.turn {K : Fg} {H : Hp} {α : Type} {f : α → PyData} {vs ms : List V} (p : vs.Perm ms) : ∀ {l : List α}, DpAll K H vs (l.map f) → ∃ l' : List α, l'.Perm l ∧ DpAll K H ms (l'.map f) := by
  induction p with
  | nil =>
    intro l h
    exact ⟨l, .refl _, h⟩
  | cons x p ih =>
    intro l h
    cases l with
    | nil => cases h
    | cons a l =>
      cases h with | cons h1 h2 => ?_
      obtain ⟨l', p', h'⟩ := ih h2
      exact ⟨a :: l', .cons a p', .cons h1 h'⟩
  | swap x y q =>
    intro l h
    cases l with
    | nil => cases h
    | cons a l =>
      cases h with | cons h1 h2 => ?_
      cases l with
      | nil => cases h2
      | cons b l =>
        cases h2 with | cons h2 h3 => ?_
        exact ⟨b :: a :: l, .swap a b l, .cons h2 (.cons h1 h3)⟩
  | trans p1 p2 ih1 ih2 =>
    intro l h
    obtain ⟨l1, q1, h1⟩ := ih1 h
    obtain ⟨l2, q2, h2⟩ := ih2 h1
    exact ⟨l2, q2.trans q1, h2⟩
/-- three processors made one behind another -/
theorem trio_made {K : Fg} {r : Addr} {H0 H1 H2 H3 H4 : Hp} {A B C : SA} {P1 P2 P3 : Pl} {G1 G2 G3 : Sg} (hr : H0 r ≠ none) (x : OneS K H0 H1 A P1 G1) (s1 : Same H0 H1) (y : OneS K H1 H2 B P2 G2) (s2 : Same H1 H2) (f : Fr [r] H2 H3) (z : OneS K H3 H4 C P3 G3) (s4 : Same H3 H4) : Trio K r H0 H4 A B C P1 P2 P3 G1 G2 G3 := by
  have b1 : ∀ a, H1 a = none → H0 a = none := fun a h => s1.fr.back (A := []) h
  have b2 : ∀ a, H2 a = none → H1 a = none := fun a h => s2.fr.back (A := []) h
  have b3 : ∀ a, H3 a = none → H2 a = none := fun a h => f.back h
  have hr1 : H1 r ≠ none := fun h => hr (b1 r h)
  refine ⟨?_, ?_, ?_⟩
  · exact (((x.two s2 b1 y).row f hr).same s4).toR (fun _ h => h) hr
  · exact (((x.same s2).row f hr).two s4 (fun a h => b1 a (b2 a (b3 a h))) z).toR (fun _ h => h) hr
  · exact ((y.row f hr1).two s4 (fun a h => b2 a (b3 a h)) z).toR b1 hr1
/-! ### what begins and ends are lines -/
def EvN (P : Pl) (es : List Ev) : Prop := ∀ e ∈ es, e.1 ≠ "done" → e.2 ∈ P.names
theorem EvN.nil {P : Pl} : EvN P [] := by intro e h; simp at h
theorem EvN.app {P : Pl} {a b : List Ev} (h : EvN P a) (k : EvN P b) : EvN P (a ++ b) := fun e he => by
  rcases List.mem_append.mp he with he | he
  · exact h e he
  · exact k e he
theorem EvN.one {P : Pl} {w z : Str} (k : w = "done" ∨ z ∈ P.names) : EvN P [(w, z)] := fun e he hn => by
  rw [List.mem_singleton.mp he] at hn ⊢
  exact k.resolve_left hn
theorem passL_evn {P : Pl} {fs : List Frm} {rest : List (Str × Key)} : ∀ {f : Frm} {lim : Int} {jobs : List (Str × Nat)} {B : Bd}, f.ln ∈ P.names → EvN P (passL P fs f lim jobs B rest).2.2 := by
  induction rest with
  | nil =>
    intro f lim jobs B hn
    exact EvN.one (.inr hn)
  | cons s r ih =>
    intro f lim jobs B hn
    unfold passL
    split
    · exact EvN.nil
    · exact ih (f := { f with st := f.st + 1 }) hn
theorem pass_evn {P : Pl} {fs : List Frm} {f : Frm} {lim : Int} {jobs : List (Str × Nat)} {B : Bd} (hn : f.ln ∈ P.names) : EvN P (pass P fs f lim jobs B).2.2 := passL_evn hn
theorem spend_evn {P : Pl} {fs : List Frm} {f : Frm} {lim : Int} {jobs : List (Str × Nat)} {B : Bd} (hn : f.ln ∈ P.names) : EvN P (spend P fs f lim jobs B).2.2 := by
  unfold spend
  split
  · exact EvN.nil
  · exact pass_evn (f := { f with st := f.st + 1, tk := 0 }) hn
theorem passAll_evn {P : Pl} (ok : P.Ok) : ∀ (n : Nat) {C : Cr} {B : Bd} {es : List Ev}, COk P C B → EvN P es → EvN P (passAll P n C B es).2.2
  | 0, _, _, _, _, h => h
  | n + 1, C, B, es, h, k => by
    rcases List.eq_nil_or_concat C.frames with e | ⟨fs, f, e⟩
    · rw [passAll_nil e]; exact k
    · rw [List.concat_eq_append] at e
      cases hp : passing P B f with
      | false => rw [passAll_no e hp]; exact k
      | true =>
        rw [passAll_yes e hp]
        exact passAll_evn ok n (h.pass ok e) (k.app (pass_evn (h.fok.nm f (by rw [e]; simp))))
theorem doWork_evn {P : Pl} {jobs : List (Str × Nat)} (h : ∀ j ∈ jobs, j.1 ∈ P.wnames) : EvN P (doWork P jobs).2 := by
  unfold doWork
  split
  · exact EvN.nil
  · split
    · exact EvN.nil
    · rename_i j hj
      split
      · exact EvN.nil
      · exact EvN.one (.inl rfl)
theorem tick_evn {P : Pl} (ok : P.Ok) {C : Cr} {B : Bd} (h : COk P C B) : EvN P (C.tick P B).2.2.2 := by
  have h1 := passAll_evn ok (left P C.frames) h EvN.nil
  have h3 := COk.passAll ok (left P C.frames) (es := []) h
  unfold Cr.tick
  generalize passAll P (left P C.frames) C B [] = r at h1 h3
  rcases List.eq_nil_or_concat r.1.frames with e | ⟨fs, f, e⟩
  · by_cases hj : r.1.jobs = []
    · rw [tickC_idle e hj]; exact h1
    · rw [tickC_work e hj]; exact h1.app (doWork_evn h3.jok.sub)
  · rw [List.concat_eq_append] at e
    by_cases hw : (stepOf P f).1 = "await"
    · rw [tickC_spun e hw]; exact h1
    · rw [tickC_call e hw]; exact h1.app (spend_evn (h3.fok.nm f (by rw [e]; simp)))
theorem takeC_evn {P : Pl} {C : Cr} {B : Bd} : EvN P (takeC P C B).2.2 := by
  unfold takeC
  cases e : ready P B with
  | nil => exact EvN.nil
  | cons z r =>
    dsimp only
    split
    · have hz := (can_names e).1
      exact EvN.app (EvN.one (w := "begin") (.inr hz)) (pass_evn (f := ⟨z, 0, 0, C.limit⟩) hz)
    · exact EvN.nil
theorem Sg.tick_evn {P : Pl} (ok : P.Ok) {G : Sg} (h : COk P G.C G.B) : EvN P (G.tick P).2 := takeC_evn.app (Z.tick_evn ok (takeC_ok ok h))
end Z
set_option maxHeartbeats 1000000
namespace Z
open PySem PySem.Spec PyProof.Rows L2
/-! ### k16: the greatest rank goes on -/
section
variable {P : Pl} {G : Sg}
/-- what waits or has a call -/
def wants (P : Pl) (G : Sg) : List Str := P.order.filter G.B.waiting ++ G.C.frames.map (·.ln)
def begs (es : List Ev) : List Str := (es.filter fun e => decide (e.1 = ("begin" : Str))).map (·.2)
theorem pin_wait (h : PIn P G) (z : Str) : G.B.waiting z = decide (z ∈ G.B.wanted) := by
  unfold Bd.waiting
  rw [h.high]
  simp
theorem wants_mem (h : PIn P G) {z : Str} : z ∈ wants P G ↔ z ∈ G.B.wanted ∨ z ∈ G.C.frames.map (·.ln) := by
  obtain ⟨M, b⟩ := h.mod
  unfold wants
  rw [List.mem_append, List.mem_filter, pin_wait h, decide_eq_true_eq, P.order_perm.mem_iff]
  exact ⟨fun k => k.imp (·.2) id, fun k => k.imp (fun w => ⟨b.inv.cok.bok.wa.2 _ w, w⟩) id⟩
theorem wants_names (h : PIn P G) {z : Str} (hz : z ∈ wants P G) : z ∈ P.names := by
  obtain ⟨M, b⟩ := h.mod
  rcases (wants_mem h).mp hz with k | k
  · exact b.inv.cok.bok.wa.2 _ k
  · obtain ⟨f, hf, rfl⟩ := List.mem_map.mp k
    exact b.inv.cok.fok.nm f hf
theorem wants_len (ok : P.Ok) (h : PIn P G) : (wants P G).length ≤ 24 := by
  obtain ⟨M, b⟩ := h.mod
  unfold wants
  have h1 := b.inv.cok.fok.len ok
  have h2 : (P.order.filter G.B.waiting).length ≤ P.order.length := List.length_filter_le _ _
  have h3 := P.order_perm.length_eq
  have h4 := names_len ok
  rw [List.length_append, List.length_map]
  omega
theorem frames_rise (h : PIn P G) : (G.C.frames.map (rkF P)).Pairwise (· < ·) := by
  obtain ⟨M, b⟩ := h.mod
  exact b.inv.rk
theorem begs_app (a b : List Ev) : begs (a ++ b) = begs a ++ begs b := by
  unfold begs
  rw [List.filter_append, List.map_append]
theorem begs_tick (pn : Pln P) (h : PIn P G) : begs (G.tick P).2 = (pBeg P G).toList := by
  rw [(tick_plain pn h).es, begs_app]
  have h1 : begs ((pBeg P G).toList.map (fun z => (("begin" : Str), z))) = (pBeg P G).toList := by cases pBeg P G <;> rfl
  have h2 : begs (pEnd P (pIn P G)) = [] := by
    unfold pEnd
    split
    · rfl
    · split
      · unfold begs
        rw [List.filter_cons_of_neg (by
          show ¬ decide (("end" : Str) = ("begin" : Str)) = true
          decide)]
        rfl
      · rfl
  rw [h1, h2, List.append_nil]
theorem beg_none_nil (h : PIn P G) (e : wants P G = []) : pBeg P G = none := by
  cases hb : pBeg P G with
  | none => rfl
  | some z =>
    have : z ∈ wants P G := by
      refine (wants_mem h).mpr (.inl ?_)
      unfold pBeg at hb
      split at hb
      · cases hb
      · rename_i y r hr
        split at hb
        · cases hb
          have := (can_names hr).2
          rw [pin_can h] at this
          exact of_decide_eq_true (Bool.and_eq_true_iff.mp this).1
        · cases hb
    rw [e] at this
    cases this
theorem tick_idle (pn : Pln P) (h : PIn P G) (e : wants P G = []) : (G.tick P).2 = [] ∧ (G.tick P).1.sums = bump G.sums "idle" := by
  have t := tick_plain pn h
  have e1 := beg_none_nil h e
  have e2 : G.C.frames = [] := by
    unfold wants at e
    exact List.map_eq_nil_iff.mp (List.append_eq_nil_iff.mp e).2
  have e3 : pIn P G = [] := by
    unfold pIn
    rw [e1, e2]
    rfl
  refine ⟨?_, ?_⟩
  · rw [t.es, e1, e3]
    rfl
  · rw [t.su, if_pos e3]
theorem tick_best (pn : Pln P) (h : PIn P G) (ne : wants P G ≠ []) : (G.tick P).1.sums = bump G.sums "call" ∧
    ((∃ z, pBeg P G = some z ∧ z ∈ wants P G ∧ ∀ y ∈ wants P G, (P.ln y).rk ≤ (P.ln z).rk) ∨
     (pBeg P G = none ∧ ∃ f, G.C.frames.getLast? = some f ∧ f.ln ∈ wants P G ∧ ∀ y ∈ wants P G, (P.ln y).rk ≤ (P.ln f.ln).rk)) := by
  have t := tick_plain pn h
  have ok := pn.ok
  cases hb : pBeg P G with
  | some z =>
    obtain ⟨h1, h2, h3, h4⟩ := pBeg_some ok h hb
    refine ⟨?_, .inl ⟨z, rfl, (wants_mem h).mpr (.inl h3), fun y hy => ?_⟩⟩
    · rw [t.su, if_neg]
      unfold pIn
      rw [hb]
      simp
    · by_cases hc : y ∈ G.C.frames.map (·.ln)
      · obtain ⟨f, hf, rfl⟩ := List.mem_map.mp hc
        exact Int.le_of_lt (h2 f hf)
      · refine h4 y ?_
        unfold ready
        refine List.mem_filter.mpr ⟨P.order_perm.mem_iff.mpr (wants_names h hy), ?_⟩
        rw [pin_can h, decide_eq_true (((wants_mem h).mp hy).resolve_right hc), decide_eq_false hc]
        rfl
  | none =>
    have low : ∀ y ∈ wants P G, y ∉ G.C.frames.map (·.ln) → ∃ f ∈ G.C.frames, (P.ln y).rk ≤ rkF P f := fun y hy hc => by
      have hr : y ∈ ready P G.B := by
        unfold ready
        refine List.mem_filter.mpr ⟨P.order_perm.mem_iff.mpr (wants_names h hy), ?_⟩
        rw [pin_can h, decide_eq_true (((wants_mem h).mp hy).resolve_right hc), decide_eq_false hc]
        rfl
      unfold pBeg at hb
      split at hb
      · rename_i e
        rw [e] at hr
        cases hr
      · rename_i x r e
        split at hb
        · cases hb
        · rename_i hm
          have hx := (can_names e).1
          have hyx : (P.ln y).rk ≤ (P.ln x).rk := by
            rw [e] at hr
            rcases List.mem_cons.mp hr with rfl | hr
            · exact Int.le_refl _
            · exact ready_max ok e y hr
          have hm2 : ¬ ∀ f ∈ G.C.frames, rkF P f < (P.ln x).rk := fun q => hm ((pin_may ok h hx).mpr q)
          apply Classical.byContradiction
          intro hno
          apply hm2
          intro f hf
          apply Classical.byContradiction
          intro hlt
          exact hno ⟨f, hf, by omega⟩
    have fne : G.C.frames ≠ [] := fun e => by
      obtain ⟨y, hy⟩ := List.exists_mem_of_ne_nil _ ne
      obtain ⟨f, hf, _⟩ := low y hy (by rw [e]; simp)
      rw [e] at hf
      cases hf
    obtain ⟨fs, f, e⟩ : ∃ fs f, G.C.frames = fs ++ [f] := ⟨_, _, (List.dropLast_concat_getLast fne).symm⟩
    have top : ∀ g ∈ G.C.frames, rkF P g ≤ rkF P f := fun g hg => by
      have hp := frames_rise h
      rw [e, List.map_append, List.pairwise_append] at hp
      rw [e] at hg
      rcases List.mem_append.mp hg with hg | hg
      · exact Int.le_of_lt (hp.2.2 _ (List.mem_map.mpr ⟨g, hg, rfl⟩) _ (by simp))
      · rw [List.mem_singleton.mp hg]
        exact Int.le_refl _
    refine ⟨?_, .inr ⟨rfl, f, by rw [e, List.getLast?_concat], (wants_mem h).mpr (.inr (by rw [e]; simp)), fun y hy => ?_⟩⟩
    · rw [t.su, if_neg]
      unfold pIn
      rw [hb]
      simpa using fne
    · by_cases hc : y ∈ G.C.frames.map (·.ln)
      · obtain ⟨g, hg, rfl⟩ := List.mem_map.mp hc
        exact top g hg
      · obtain ⟨g, hg, hle⟩ := low y hy hc
        exact Int.le_trans hle (top g hg)
/-- two rising lists with the same members are one -/
theorem rise_eq : ∀ {l m : List Int}, l.Pairwise (· < ·) → m.Pairwise (· < ·) → (∀ k, k ∈ l ↔ k ∈ m) → l = m
  | [], [], _, _, _ => rfl
  | [], y :: m, _, _, h => by have := (h y).mpr (by simp); cases this
  | x :: l, [], _, _, h => by have := (h x).mp (by simp); cases this
  | x :: l, y :: m, hl, hm, h => by
    obtain ⟨l1, l2⟩ := List.pairwise_cons.mp hl
    obtain ⟨m1, m2⟩ := List.pairwise_cons.mp hm
    have e : x = y := by
      rcases List.mem_cons.mp ((h x).mp (by simp)) with k | k
      · exact k
      · rcases List.mem_cons.mp ((h y).mpr (by simp)) with q | q
        · exact q.symm
        · have := m1 _ k
          have := l1 _ q
          omega
    subst e
    rw [rise_eq l2 m2 fun k => ⟨fun hk => ?_, fun hk => ?_⟩]
    · rcases List.mem_cons.mp ((h k).mp (by simp [hk])) with q | q
      · have := l1 _ hk
        omega
      · exact q
    · rcases List.mem_cons.mp ((h k).mpr (by simp [hk])) with q | q
      · have := m1 _ hk
        omega
      · exact q
/-- the four sums -/
theorem sums_four {l : List (Str × Int)} (h : l.map (·.1) = sumKeys) : ∃ a b c d : Int, l = ([("call", a), ("spun", b), ("work", c), ("idle", d)] : List (Str × Int)) := by
  match l, h with
  | [(k1, a), (k2, b), (k3, c), (k4, d)], h =>
    unfold sumKeys at h
    simp only [List.map_cons, List.map_nil, List.cons.injEq, and_true] at h
    obtain ⟨rfl, rfl, rfl, rfl⟩ := h
    exact ⟨a, b, c, d, rfl⟩
theorem bump_call (a b c d : Int) : bump ([("call", a), ("spun", b), ("work", c), ("idle", d)] : List (Str × Int)) "call" = ([("call", a + 1), ("spun", b), ("work", c), ("idle", d)] : List (Str × Int)) := by
  unfold bump
  simp only [List.map_cons, List.map_nil]
  rw [if_pos True.intro, if_neg (by decide), if_neg (by decide), if_neg (by decide)]
theorem bump_idle (a b c d : Int) : bump ([("call", a), ("spun", b), ("work", c), ("idle", d)] : List (Str × Int)) "idle" = ([("call", a), ("spun", b), ("work", c), ("idle", d + 1)] : List (Str × Int)) := by
  unfold bump
  simp only [List.map_cons, List.map_nil]
  rw [if_neg (by decide), if_neg (by decide), if_neg (by decide), if_pos True.intro]
theorem shaped_i4 (a b c d : Int) : SeqAt.shaped (.tuple [.int a, .int b, .int c, .int d]) = true ∧ PyData.eqv (.tuple [.int a, .int b, .int c, .int d]) (.tuple [.int a, .int b, .int c, .int d]) = true := ⟨rfl, SeqAt.eqv_refl _ rfl⟩
theorem shaped_ints (l : List Int) : SeqAt.shaped (.list (l.map PyData.int)) = true ∧ PyData.eqv (.list (l.map PyData.int)) (.list (l.map PyData.int)) = true := by
  have h : (l.map PyData.int).all flatD = true := by
    rw [List.all_map]
    exact List.all_eq_true.mpr fun _ _ => rfl
  obtain ⟨h1, h2⟩ := flatDs_lay h
  have h3 : (PyData.list (l.map PyData.int)).canLay0 = true := h1
  refine ⟨?_, SeqAt.eqv_refl _ h3⟩
  show ((PyData.list (l.map PyData.int)).canLay0 && decide ((PyData.list (l.map PyData.int)).depth ≤ 64)) = true
  rw [h3, decide_eq_true (show (PyData.list (l.map PyData.int)).depth ≤ 64 from (show PyData.depthAll (l.map PyData.int) + 1 ≤ 64 by omega))]
  rfl
end
end Z
set_option maxHeartbeats 1000000
namespace Z
open PySem PySem.Spec PyProof.Rows L2
/-- one processor and the drawn row, over a heap Hb in which it stood as A0; it was made over H0 -/
structure OneX (K : Fg) (r sc : Addr) (ns : List Int) (H0 Hb : Hp) (A0 : SA) (H : Hp) (A : SA) (P : Pl) (G : Sg) : Prop where
  s : SgAt K H A P G
  row : RowAt K H r sc ns
  fr : Fr (r :: A0.own) Hb H
  ow : ∀ a ∈ A.own, a ∈ A0.own ∨ Hb a = none
  pd : A.PD = A0.PD
  n0 : ∀ a ∈ A0.own, H0 a = none
  p0 : ∀ a ∈ A0.PD.own, H0 a = none
  r0 : RowAt K H0 r sc ns
  bk : ∀ a, Hb a = none → H0 a = none
section
variable {K : Fg} {r sc : Addr} {ns : List Int} {H0 Hb H H' : Hp} {A0 A B : SA} {P : Pl} {G G2 : Sg}
theorem OneX.start (x : OneS K H0 H A P G) (s : Same H Hb) (f : Fr [] H0 H) (r0 : RowAt K H0 r sc ns) : OneX K r sc ns H0 Hb A Hb A P G :=
  ⟨x.s.same s, r0.same (f.trans s.fr).same, Fr.refl, fun a ha => .inl ha, rfl, x.n, x.p, r0, fun a h => f.back (s.fr.back (A := []) h)⟩
theorem OneX.own0 (x : OneX K r sc ns H0 Hb A0 H A P G) : ∀ a ∈ A.own, H0 a = none := fun a ha => (x.ow a ha).elim (x.n0 a) (x.bk a)
theorem OneX.at (x : OneX K r sc ns H0 Hb A0 H A P G) {a : Addr} {o : HO} (h : Hb a = some o) (hr : a ≠ r) (ho : a ∉ A0.own) : H a = some o := x.fr.at h (by simp [hr, ho])
theorem OneX.same (x : OneX K r sc ns H0 Hb A0 H A P G) (s : Same H H') : OneX K r sc ns H0 Hb A0 H' A P G := ⟨x.s.same s, x.row.same s, x.fr.trans s.fr, x.ow, x.pd, x.n0, x.p0, x.r0, x.bk⟩
theorem OneX.rowch (x : OneX K r sc ns H0 Hb A0 H A P G) (f : Fr [r] H H') (rw' : RowAt K H' r sc ns) : OneX K r sc ns H0 Hb A0 H' A P G := by
  refine ⟨x.s.keep f (fun a ha z => ?_) (fun a ha z => ?_), rw', x.fr.trans (f.mono (by simp)), x.ow, x.pd, x.n0, x.p0, x.r0, x.bk⟩
  · rw [List.mem_singleton.mp z] at ha
    exact x.r0.ex (x.own0 _ ha)
  · rw [List.mem_singleton.mp z, x.pd] at ha
    exact x.r0.ex (x.p0 _ ha)
theorem OneX.ch (x : OneX K r sc ns H0 Hb A0 H A P G) (c : ChS H A H' B) (sg : SgAt K H' B P G2) : OneX K r sc ns H0 Hb A0 H' B P G2 := by
  refine ⟨sg, x.r0.kept x.row c.fr x.own0, x.fr.seq c.fr (fun a ha => (x.ow a ha).imp (fun q => by simp [q]) id), fun a ha => ?_, c.PD.trans x.pd, x.n0, x.p0, x.r0, x.bk⟩
  rcases c.own a ha with q | q
  · exact x.ow a q
  · exact .inr (x.fr.back q)
end
/-- ints of a column -/
theorem dp_col {α : Type} {K : Fg} {H : Hp} {f : α → Int} : ∀ {vs : List V} {l : List α}, DpAll K H vs (l.map fun x => .int (f x)) → vs = l.map fun x => V.int (f x)
  | _, [], h => by cases h; rfl
  | _, _ :: l, h => by
    cases h with
    | cons a b =>
      cases a
      rw [dp_col b]
      rfl
theorem val_col {α : Type} {nm : α → Str} {f : α → V} : ∀ {l : List α} {x : α}, (l.map nm).Nodup → x ∈ l → valV ((l.map fun y => (Sum.inr (nm y) : Key)).zip (l.map f)) (.inr (nm x)) = some (f x)
  | [], _, _, h => by cases h
  | y :: l, x, hn, h => by
    rw [List.map_cons, List.nodup_cons] at hn
    rw [List.map_cons, List.map_cons, List.zip_cons_cons]
    rcases List.mem_cons.mp h with rfl | h
    · exact valV_pos rfl
    · have : ¬ nm y = nm x := fun e => hn.1 (by rw [e]; exact List.mem_map_of_mem h)
      rw [valV_neg (fun q => this (Sum.inr.inj q))]
      exact val_col hn.2 h
theorem rank_of {P : Pl} (ok : P.Ok) {z : Str} (hz : z ∈ P.names) : valV ((P.ls.map fun x => (Sum.inr x.nm : Key)).zip (P.ls.map fun x => V.int x.rk)) (.inr z) = some (.int (P.ln z).rk) := by
  obtain ⟨h1, h2⟩ := ok.ln_mem hz
  have h := val_col (nm := fun x : Ln => x.nm) (f := fun x : Ln => V.int x.rk) ok.lnd h1
  rw [h2] at h
  exact h
theorem val_e {ta : TE} {σ : L2.St} {H : Hp} {Q : VK} (V0 : V → Hp → Prop) (rest : ∀ v H', V0 v H' → Q v H') (go : (∀ v H', V0 v H' → Q v H') → ta σ H Q) : ta σ H Q := go rest
theorem s_catA2 {K : Fg} {H : Hp} {Q : VK} {a b : Addr} {xs ys : List V} (ha : SqT K H a xs) (hb : SqT K H b ys) (hz : xs.length + ys.length ≤ sizeLine) (hx : xs ≠ []) (hy : ys ≠ []) (q : ∀ p, H p = none → Q (.ref p) (upd H p (.tup (xs ++ ys)))) : rCatA K (.ref a) (.ref b) H Q :=
  ⟨a, b, xs, ys, rfl, rfl, ha, hb, hz, fun e => absurd e hx, fun _ e => absurd e hy, fun _ _ => q⟩
end Z
set_option maxHeartbeats 1000000
namespace T
open PySem PySem.Spec PyProof.Rows L2 Z
open He (ga ma)
local macro_rules | `(tactic| walk_at "z") => `(tactic| first
  | with_reducible refine s_seq ?_
  | with_reducible refine s_asg ?_
  | with_reducible refine s_gname ?_
  | with_reducible refine s_ret ?_
  | with_reducible refine s_retN ?_
  | with_reducible refine s_ifS ?_
  | with_reducible refine s_drop ?_
  | with_reducible refine s_next ?_
  | with_reducible refine s_cont ?_
  | with_reducible refine s_break ?_
  | with_reducible refine s_par ?_
  | with_reducible refine s_par2 ?_
  | with_reducible refine s_c ?_
  | ((with_reducible refine s_var (v := ?v1) ?h1 ?q1); (case h1 => exact rfl))
  | with_reducible refine s_op ?_
  | with_reducible refine s_un ?_
  | with_reducible refine s_cb ?_
  | with_reducible refine s_cons ?_
  | with_reducible refine s_nil ?_
  | with_reducible refine s_star ?_
  | with_reducible refine s_test ?_
  | with_reducible refine s_B ?_
  | with_reducible refine s_and ?_
  | with_reducible refine s_or ?_
  | with_reducible refine s_not ?_
  | with_reducible refine s_andV ?_
  | with_reducible refine s_orV ?_
  | with_reducible refine s_notV ?_
  | with_reducible refine s_if ?_
  | with_reducible refine s_chain ?_
  | with_reducible refine s_call ?_
  | with_reducible refine s_bl ?_
  | with_reducible refine s_yes ?_
  | with_reducible refine s_gcons ?_
  | with_reducible refine s_gnil ?_
  | with_reducible refine s_din ?_
  | with_reducible refine s_dnin ?_
  | with_reducible refine s_dget ?_
  | with_reducible refine s_bm ?_
  | with_reducible refine s_bm0 ?_
  | with_reducible refine s_fldg ?_
  | with_reducible refine s_meth ?_
  | with_reducible refine s_prop ?_
  | with_reducible refine s_lcT ?_
  | with_reducible refine s_daugg ?_
  | with_reducible refine s_disp ?_
  | with_reducible refine s_pcons ?_
  | with_reducible refine s_pnil ?_
  | with_reducible refine s_gsub ?_
  | with_reducible refine s_augS ?_
  | with_reducible refine s_fldaug ?_
  | with_reducible refine s_add ?_
  | with_reducible refine s_ipI ?_
  | with_reducible refine s_ixO ?_
  | with_reducible refine s_lcL ?_
  | with_reducible refine s_dcT ?_
  | with_reducible refine s_cvalg ?_
  | with_reducible refine s_fldS ?_
  | with_reducible refine s_I0 ?_
  | with_reducible refine s_U ?_
  | ((with_reducible refine s_eq ?h1 ?q1); (case h1 => exact rfl))
  | ((with_reducible refine s_ne ?h1 ?q1); (case h1 => exact rfl))
  | (with_reducible refine s_tup ?_)
  | (with_reducible refine s_lst ?_)
  | ((with_reducible refine s_isi (d := ?d1) ?h1 ?h2 ?q1); (case h1 => first | assumption | constructor); (case h2 => decide))
  | with_reducible refine ⟨_, _, rfl, rfl, ?_⟩
  | with_reducible refine ⟨_, rfl, ?_⟩)
local macro_rules | `(tactic| walk_at "zi") => `(tactic| first
  | walk_at "z"
  | ((with_reducible refine ite_f ?h1 ?q1); (case h1 => rfl))
  | ((with_reducible refine ite_t ?h1 ?q1); (case h1 => rfl)))
local macro_rules | `(tactic| walk_at "zn") => `(tactic| (intro p hp; generalize eH : upd _ p _ = H2; have s2 := newS hp eH; have e2 := newE eH; clear eH))
local macro_rules | `(tactic| walk_at "zt") => `(tactic| (refine ⟨Nat.le_of_ble_eq_true rfl, ?_⟩; intro p hp; generalize eH : upd _ p _ = H2; have s2 := newS hp eH; have e2 := newE eH; clear eH))
/-! ### numbers, words, names -/
def spIsInt (K : Fg) : Sp := fun vs H Q _ => ∃ v d lo hi, vs = [v, .int lo, .int hi] ∧ Dp K H v d ∧ Q (.bl (isIntD lo hi d)) H
section
variable {P : Program} {w : World} {K : Fg} {mg : Str → Option Value} {base : Heap}
theorem ok_is_integer (T : Txt K mg) : FnOk P w K mg base (L2.CX P w) 1 (ga K "is_integer") (fdOf K (ga K "is_integer")) ["value", "low", "high"] (spIsInt K) := by
  refine FunD.ok T.F_is_integer sc_is_integer (fun vs H Q E h => ?_) (fun cdv A outer s H vs Q E hr h => ⟨_, PSs.nox (pss_one (ps_ret (pe_and (pe_callB (call_isiDK K) (by rfl) T.u_isinstance (by decide +kernel) (pa_cons (pv 0) (pa_cons (z_ty (n := "int") T.u_int) pa_nil))) (pe_and (pe_not (pe_callB (call_isiDK K) (by rfl) T.u_isinstance (by decide +kernel) (pa_cons (pv 0) (pa_cons (z_ty (n := "bool") T.u_bool) pa_nil)))) (pe_one (pe_chain op_le op_le (pv 1) (pv 0) (pv 2))))))), ?_⟩)
  · obtain ⟨v, d, lo, hi, rfl, _⟩ := h
    rfl
  obtain ⟨v, d, lo, hi, rfl, hd, q⟩ := h
  show (_ : TS) _ [some v, some (.int lo), some (.int hi)] H
  try dsimp only [cxOf]
  have hd0 := hd
  cases hd <;> (repeat walk_at "zi") <;> try exact q
  rename_i i
  by_cases h1 : lo ≤ i
  · refine ite_t (decide_eq_true h1) ?_
    repeat walk_at "zi"
    have e : isIntD lo hi (.int i) = decide (i ≤ hi) := by simp [isIntD, h1]
    rw [e] at q
    exact q
  · refine ite_f (decide_eq_false h1) ?_
    have e : isIntD lo hi (.int i) = false := by simp [isIntD, h1]
    rw [e] at q
    exact q
def spIsWord (K : Fg) : Sp := fun vs H Q _ => ∃ v d, vs = [v] ∧ Dp K H v d ∧ short d = true ∧ ∀ H', Same H H' → Q (.bl (isWord d)) H'
theorem ok_is_word (T : Txt K mg) : FnOk P w K mg base (L2.CX P w) 1 (ga K "is_word") (fdOf K (ga K "is_word")) ["value"] (spIsWord K) := by
  refine FunD.ok T.F_is_word sc_is_word (fun vs H Q E h => ?_) (fun cdv A outer s H vs Q E hr h => ⟨_, PSs.nox (pss_one (ps_ret (pe_and (pe_callB (call_isiDK K) (by rfl) T.u_isinstance (by decide +kernel) (pa_cons (pv 0) (pa_cons (z_ty (n := "str") T.u_str) pa_nil))) (pe_and (pe_cmpR op_ne (pv 0) pe_str (nomark _)) (pe_one (pe_callB (cr_allK K rfl) (by rfl) T.u_all (by decide +kernel) (pa_cons (pe_lc (own := [("letter", 1)]) rfl sc_is_word.nd (pi_str (pv 0)) (blkOk_by (own := [("letter", 1)]) (N := n_is_word) (sc := defScope s_is_word) (by decide +kernel)) (fun _ _ _ _ _ => (zg 1 sc_is_word.nd)) (fun _ _ _ _ _ => pts_nil) (fun _ _ _ _ _ => (pe_cmpR op_in_sign (pv 1) (z_str T.i_LETTERS) (by rfl)))) pa_nil))))))), ?_⟩)
  · obtain ⟨v, d, rfl, _⟩ := h
    rfl
  obtain ⟨v, d, rfl, hd, hz, q⟩ := h
  show (_ : TS) _ [some v, none] H
  try dsimp only [cxOf]
  have hd0 := hd
  cases hd <;> (repeat walk_at "zi") <;> try exact q _ (Same.refl H)
  rename_i z
  refine ite_b (fun h1 => ?_) (fun h1 => ?_)
  · repeat walk_at "zi"
    refine ⟨_, rfl, z, rfl, fun D hD => lc_dat (K := K) walk_str (fun _ => true) (dAt z.cps.toList fun c => .bool (decide (c ∈ letters))) hD (short_str hz) (dAt_tupd fun _ _ => rfl) (fun _ _ => True.intro) (fun i H x H' y => by rw [y.1]; exact Same.refl H) (fun i x H H' Yes No hi s1 y yes no => ?_) (fun H' ys s1 e1 a1 => ?_)⟩
    · obtain ⟨rfl, c, hc, rfl⟩ := y
      refine ⟨rfl, ?_⟩
      repeat walk_at "zi"
      refine yes rfl _ _ (Same.refl _) ?_
      rw [dAt_eq (by simpa using hc)]
      exact .bl _
    · have e := keptD_map z.cps.toList fun c => PyData.bool (decide (c ∈ letters))
      rw [Array.length_toList] at e
      rw [e, map_bool] at a1
      rw [dp_bools a1] at e1
      refine s_all (SqL.of e1) ?_
      have e2 : isWord (.str z) = ((z.cps.toList.map fun c => decide (c ∈ letters)).all id) := by
        simp only [isWord, h1, Bool.true_and, List.all_map]
        rfl
      rw [← e2]
      exact q _ s1
  · repeat walk_at "zi"
    have e2 : isWord (.str z) = false := by simp only [isWord, h1, Bool.false_and]
    rw [e2] at q
    exact q _ (Same.refl H)
def spIsName (K : Fg) : Sp := fun vs H Q _ => ∃ v d, vs = [v] ∧ Dp K H v d ∧ short d = true ∧ ∀ H', Same H H' → Q (.bl (isName d)) H'
theorem ok_is_name (T : Txt K mg) : FnOk P w K mg base (L2.CX P w) 2 (ga K "is_name") (fdOf K (ga K "is_name")) ["value"] (spIsName K) := by
  refine FunD.ok T.F_is_name sc_is_name (fun vs H Q E h => ?_) (fun cdv A outer s H vs Q E hr h => ⟨_, PSs.nox (pss_one (ps_ret (pe_and (z_call (ok_is_word T) T.c_is_word (hr.mono (by decide)) rfl T.g_is_word passL (pa_cons (pv 0) pa_nil)) (pe_one (pe_cmpR op_le (pe_callB (call_lenK K) (by rfl) T.u_len (by decide +kernel) (pa_cons (pv 0) pa_nil)) (z_int T.i_MAX_NAME) (nomark _)))))), ?_⟩)
  · obtain ⟨v, d, rfl, _⟩ := h
    rfl
  obtain ⟨v, d, rfl, hd, hz, q⟩ := h
  show (_ : TS) _ [some v] H
  try dsimp only [cxOf]
  repeat walk_at "zi"
  refine ⟨v, d, rfl, hd, hz, fun H' s1 => ?_⟩
  repeat walk_at "zi"
  refine ite_b (fun h1 => ?_) (fun h1 => ?_)
  · cases hd <;> try (simp [isWord] at h1; done)
    rename_i z
    repeat walk_at "zi"
    refine s_lenS (by have := short_str hz; show z.cps.size ≤ sizeLine; rw [sizeLine_eq]; omega) ?_
    repeat walk_at "zi"
    have e2 : isName (.str z) = decide ((z.length : Int) ≤ 8) := by simp only [isName, h1, Bool.true_and]
    rw [e2] at q
    exact q _ s1
  · repeat walk_at "zi"
    have e2 : isName d = false := by simp only [isName, h1, Bool.false_and]
    rw [e2] at q
    exact q _ s1
def spIsLine (K : Fg) : Sp := fun vs H Q _ => ∃ v d, vs = [v] ∧ Dp K H v d ∧ short d = true ∧ ∀ H', Same H H' → Q (.bl (isLine d)) H'
theorem ok_is_line (T : Txt K mg) : FnOk P w K mg base (L2.CX P w) 3 (ga K "is_line") (fdOf K (ga K "is_line")) ["line"] (spIsLine K) := by
  refine FunD.ok T.F_is_line sc_is_line (fun vs H Q E h => ?_) (fun cdv A outer s H vs Q E hr h => ⟨_, PSs.nox (pss_cons (ps_if (PW.pt (pw_or (pt_not (pt_val (pe_callB (call_isiDK K) (by rfl) T.u_isinstance (by decide +kernel) (pa_cons (pv 0) (pa_cons (z_ty (n := "tuple") T.u_tuple) pa_nil))))) (pw_or (pt_cmpR op_ne (pe_callB (call_lenK K) (by rfl) T.u_len (by decide +kernel) (pa_cons (pv 0) pa_nil)) pe_int (nomark _)) (pw_or1 (pt_not (pt_val (z_call (ok_is_name T) T.c_is_name (hr.mono (by decide)) rfl T.g_is_name passL (pa_cons (pe_ix (ix_tupK K) (pv 0) pe_int (fun _ _ => rfl)) pa_nil)))))))) (pss_one (ps_ret pe_bl)) pss_nil)
      (pss_cons (ps_if (PW.pt (pw_or (pt_not (pt_val (pe_callB (call_isiDK K) (by rfl) T.u_isinstance (by decide +kernel) (pa_cons (pe_ix (ix_tupK K) (pv 0) pe_int (fun _ _ => rfl)) (pa_cons (z_ty (n := "str") T.u_str) pa_nil))))) (pw_or (pt_cmpR (op_notIn_seqK K) (pe_ix (ix_tupK K) (pv 0) pe_int (fun _ _ => rfl)) (pe_tup (pa_cons (z_str T.i_EDGE) (pa_cons (z_str T.i_LEVEL) pa_nil))) (by rfl)) (pw_or1 (pt_not (pt_val (z_call (ok_is_integer T) T.c_is_integer (hr.mono (by decide)) rfl T.g_is_integer passL (pa_cons (pe_ix (ix_tupK K) (pv 0) pe_int (fun _ _ => rfl)) (pa_cons pe_int (pa_cons (z_int T.i_MAX_RANK) pa_nil)))))))))) (pss_one (ps_ret pe_bl)) pss_nil)
      (pss_one (ps_ret (pe_and (pe_callB (call_isiDK K) (by rfl) T.u_isinstance (by decide +kernel) (pa_cons (pe_ix (ix_tupK K) (pv 0) pe_int (fun _ _ => rfl)) (pa_cons (z_ty (n := "tuple") T.u_tuple) pa_nil))) (pe_one (pe_chain op_le op_le pe_int (pe_callB (call_lenK K) (by rfl) T.u_len (by decide +kernel) (pa_cons (pe_ix (ix_tupK K) (pv 0) pe_int (fun _ _ => rfl)) pa_nil)) (z_int T.i_MAX_STEPS)))))))), ?_⟩)
  · obtain ⟨v, d, rfl, _⟩ := h
    rfl
  obtain ⟨v, d, rfl, hd, hz, q⟩ := h
  show (_ : TS) _ [some v] H
  try dsimp only [cxOf]
  have hd0 := hd
  cases hd <;> (repeat walk_at "zi") <;> try exact q _ (Same.refl H)
  rename_i a xs ds hT hA
  refine s_lenT hT ?_
  repeat walk_at "zi"
  by_cases h4 : ds.length = 4
  · have hl : xs.length = 4 := hA.len.trans h4
    refine ite_f (by rw [hl]; rfl) ?_
    obtain ⟨da, db, dc, de, rfl⟩ : ∃ da db dc de, ds = [da, db, dc, de] := by
      match ds, h4 with
      | [a, b, c, e], _ => exact ⟨a, b, c, e, rfl⟩
    cases hA with | cons h1 hA => ?_
    cases hA with | cons h2 hA => ?_
    cases hA with | cons h3 hA => ?_
    cases hA with | cons h5 hA => ?_
    cases hA
    repeat walk_at "zi"
    refine s_ixT hT rfl ?_
    repeat walk_at "zi"
    have sz := short_tup hz
    refine ⟨_, _, rfl, h1, shorts_at sz (by simp), fun H1 s1 => ?_⟩
    repeat walk_at "zi"
    refine ite_b (fun n1 => ?_) (fun n1 => ?_)
    · repeat walk_at "zi"
      have e : isLine (.tuple [da, db, dc, de]) = false := by simp [isLine, bnt n1]
      rw [e] at q
      exact q _ s1
    have m1 : isName da = true := by simpa using n1
    replace hT := s1.sqT hT
    replace h2 := h2.same s1
    replace h3 := h3.same s1
    replace h5 := h5.same s1
    repeat walk_at "zi"
    refine s_ixT hT rfl ?_
    repeat walk_at "zi"
    have h20 := h2
    cases h2 <;> (repeat walk_at "zi") <;> try (
      refine (?_ : _ → _) (q _ s1)
      rw [show isLine (.tuple [da, _, dc, de]) = false from by simp [isLine, isKind]]
      exact fun z => z)
    rename_i z
    refine s_ixT hT rfl ?_
    repeat walk_at "zi"
    refine ⟨by show 2 ≤ sizeLine; decide, ?_⟩
    walk_at "zn"
    rename_i p hp H2 s2 e2
    refine s_in (.inr (SqT.of e2)) rfl rfl ?_
    repeat walk_at "zi"
    refine ite_b (fun n2 => ?_) (fun n2 => ?_)
    · repeat walk_at "zi"
      have e : isLine (.tuple [da, .str z, dc, de]) = false := by
        have n3 : inV (.str z) [.str "edge", .str "level"] = false := by simpa using n2
        simp [isLine, isKind, n3]
      rw [e] at q
      exact q _ (s1.trans s2)
    have m2 : isKind (.str z) = true := by simpa [isKind] using n2
    replace hT := s2.sqT hT
    replace h3 := h3.same s2
    replace h5 := h5.same s2
    repeat walk_at "zi"
    refine s_ixT hT rfl ?_
    repeat walk_at "zi"
    refine ⟨_, _, _, _, rfl, h3, ?_⟩
    repeat walk_at "zi"
    refine ite_b (fun n2 => ?_) (fun n2 => ?_)
    · repeat walk_at "zi"
      have e : isLine (.tuple [da, .str z, dc, de]) = false := by simp [isLine, bnt n2]
      rw [e] at q
      exact q _ (s1.trans s2)
    have m3 : isIntD 1 9 dc = true := by simpa using n2
    have e : isLine (.tuple [da, .str z, dc, de]) = isSteps 8 de := by simp [isLine, m1, m2, m3]
    rw [e] at q
    repeat walk_at "zi"
    refine s_ixT hT rfl ?_
    repeat walk_at "zi"
    have h50 := h5
    cases h5 <;> (repeat walk_at "zi") <;> try exact q _ (s1.trans s2)
    rename_i a' xs' ds' hT' hA'
    refine s_ixT hT rfl ?_
    repeat walk_at "zi"
    refine s_lenT hT' ?_
    repeat walk_at "zi"
    have el := hA'.len
    refine ite_b (fun n5 => ?_) (fun n5 => ?_)
    · repeat walk_at "zi"
      have e6 : isSteps 8 (.tuple ds') = decide ((xs'.length : Int) ≤ 8) := by
        rw [el] at n5
        show (decide ((1 : Int) ≤ ds'.length) && decide ((ds'.length : Int) ≤ (8 : Nat))) = _
        rw [n5, ← el]
        rfl
      rw [e6] at q
      exact q _ (s1.trans s2)
    · repeat walk_at "zi"
      have e6 : isSteps 8 (.tuple ds') = false := by
        rw [el] at n5
        show (decide ((1 : Int) ≤ ds'.length) && decide ((ds'.length : Int) ≤ (8 : Nat))) = _
        rw [n5]
        rfl
      rw [e6] at q
      exact q _ (s1.trans s2)
  · refine ite_t ?_ ?_
    · have hl : xs.length ≠ 4 := by rw [hA.len]; exact h4
      simp
      omega
    · repeat walk_at "zi"
      rw [isLine_no h4] at q
      exact q _ (Same.refl H)
def spIsWork (K : Fg) : Sp := fun vs H Q _ => ∃ v d, vs = [v] ∧ Dp K H v d ∧ short d = true ∧ ∀ H', Same H H' → Q (.bl (isWork d)) H'
theorem ok_is_work (T : Txt K mg) : FnOk P w K mg base (L2.CX P w) 3 (ga K "is_work") (fdOf K (ga K "is_work")) ["work"] (spIsWork K) := by
  refine FunD.ok T.F_is_work sc_is_work (fun vs H Q E h => ?_) (fun cdv A outer s H vs Q E hr h => ⟨_, PSs.nox (pss_cons (ps_if (PW.pt (pw_or (pt_not (pt_val (pe_callB (call_isiDK K) (by rfl) T.u_isinstance (by decide +kernel) (pa_cons (pv 0) (pa_cons (z_ty (n := "tuple") T.u_tuple) pa_nil))))) (pw_or (pt_cmpR op_ne (pe_callB (call_lenK K) (by rfl) T.u_len (by decide +kernel) (pa_cons (pv 0) pa_nil)) pe_int (nomark _)) (pw_or1 (pt_not (pt_val (z_call (ok_is_name T) T.c_is_name (hr.mono (by decide)) rfl T.g_is_name passL (pa_cons (pe_ix (ix_tupK K) (pv 0) pe_int (fun _ _ => rfl)) pa_nil)))))))) (pss_one (ps_ret pe_bl)) pss_nil)
      (pss_one (ps_ret (pe_and (z_call (ok_is_integer T) T.c_is_integer (hr.mono (by decide)) rfl T.g_is_integer passL (pa_cons (pe_ix (ix_tupK K) (pv 0) pe_int (fun _ _ => rfl)) (pa_cons pe_int (pa_cons (z_int T.i_MAX_RANK) pa_nil)))) (pe_one (z_call (ok_is_integer T) T.c_is_integer (hr.mono (by decide)) rfl T.g_is_integer passL (pa_cons (pe_ix (ix_tupK K) (pv 0) pe_int (fun _ _ => rfl)) (pa_cons pe_int (pa_cons (z_int T.i_MAX_TICKS) pa_nil))))))))), ?_⟩)
  · obtain ⟨v, d, rfl, _⟩ := h
    rfl
  obtain ⟨v, d, rfl, hd, hz, q⟩ := h
  show (_ : TS) _ [some v] H
  try dsimp only [cxOf]
  have hd0 := hd
  cases hd <;> (repeat walk_at "zi") <;> try exact q _ (Same.refl H)
  rename_i a xs ds hT hA
  refine s_lenT hT ?_
  repeat walk_at "zi"
  by_cases h4 : ds.length = 3
  · have hl : xs.length = 3 := hA.len.trans h4
    refine ite_f (by rw [hl]; rfl) ?_
    obtain ⟨da, db, dc, rfl⟩ : ∃ da db dc, ds = [da, db, dc] := by
      match ds, h4 with
      | [a, b, c], _ => exact ⟨a, b, c, rfl⟩
    cases hA with | cons h1 hA => ?_
    cases hA with | cons h2 hA => ?_
    cases hA with | cons h3 hA => ?_
    cases hA
    repeat walk_at "zi"
    refine s_ixT hT rfl ?_
    repeat walk_at "zi"
    have sz := short_tup hz
    refine ⟨_, _, rfl, h1, shorts_at sz (by simp), fun H1 s1 => ?_⟩
    repeat walk_at "zi"
    refine ite_b (fun n1 => ?_) (fun n1 => ?_)
    · repeat walk_at "zi"
      have e : isWork (.tuple [da, db, dc]) = false := by simp [isWork, bnt n1]
      rw [e] at q
      exact q _ s1
    have e : isWork (.tuple [da, db, dc]) = (isIntD 1 9 db && isIntD 1 99 dc) := by simp [isWork, bnf n1]
    rw [e] at q
    replace hT := s1.sqT hT
    replace h2 := h2.same s1
    replace h3 := h3.same s1
    repeat walk_at "zi"
    refine s_ixT hT rfl ?_
    repeat walk_at "zi"
    refine ⟨_, _, _, _, rfl, h2, ?_⟩
    repeat walk_at "zi"
    refine ite_b (fun n2 => ?_) (fun n2 => ?_)
    · repeat walk_at "zi"
      refine s_ixT hT rfl ?_
      repeat walk_at "zi"
      refine ⟨_, _, _, _, rfl, h3, ?_⟩
      rw [n2] at q
      exact q _ s1
    · rw [n2] at q
      exact q _ s1
  · refine ite_t ?_ ?_
    · have hl : xs.length ≠ 3 := by rw [hA.len]; exact h4
      simp
      omega
    · repeat walk_at "zi"
      rw [isWork_no h4] at q
      exact q _ (Same.refl H)
end
end T
set_option maxHeartbeats 1000000
namespace T
open PySem PySem.Spec PyProof.Rows L2 Z
open He (ga ma)
local macro_rules | `(tactic| walk_at "z") => `(tactic| first
  | with_reducible refine s_seq ?_
  | with_reducible refine s_asg ?_
  | with_reducible refine s_gname ?_
  | with_reducible refine s_ret ?_
  | with_reducible refine s_retN ?_
  | with_reducible refine s_ifS ?_
  | with_reducible refine s_drop ?_
  | with_reducible refine s_next ?_
  | with_reducible refine s_cont ?_
  | with_reducible refine s_break ?_
  | with_reducible refine s_par ?_
  | with_reducible refine s_par2 ?_
  | with_reducible refine s_c ?_
  | ((with_reducible refine s_var (v := ?v1) ?h1 ?q1); (case h1 => exact rfl))
  | with_reducible refine s_op ?_
  | with_reducible refine s_un ?_
  | with_reducible refine s_cb ?_
  | with_reducible refine s_cons ?_
  | with_reducible refine s_nil ?_
  | with_reducible refine s_star ?_
  | with_reducible refine s_test ?_
  | with_reducible refine s_B ?_
  | with_reducible refine s_and ?_
  | with_reducible refine s_or ?_
  | with_reducible refine s_not ?_
  | with_reducible refine s_andV ?_
  | with_reducible refine s_orV ?_
  | with_reducible refine s_notV ?_
  | with_reducible refine s_if ?_
  | with_reducible refine s_chain ?_
  | with_reducible refine s_call ?_
  | with_reducible refine s_bl ?_
  | with_reducible refine s_yes ?_
  | with_reducible refine s_gcons ?_
  | with_reducible refine s_gnil ?_
  | with_reducible refine s_din ?_
  | with_reducible refine s_dnin ?_
  | with_reducible refine s_dget ?_
  | with_reducible refine s_bm ?_
  | with_reducible refine s_bm0 ?_
  | with_reducible refine s_fldg ?_
  | with_reducible refine s_meth ?_
  | with_reducible refine s_prop ?_
  | with_reducible refine s_lcT ?_
  | with_reducible refine s_daugg ?_
  | with_reducible refine s_disp ?_
  | with_reducible refine s_pcons ?_
  | with_reducible refine s_pnil ?_
  | with_reducible refine s_gsub ?_
  | with_reducible refine s_augS ?_
  | with_reducible refine s_fldaug ?_
  | with_reducible refine s_add ?_
  | with_reducible refine s_ipI ?_
  | with_reducible refine s_ixO ?_
  | with_reducible refine s_lcL ?_
  | with_reducible refine s_dcT ?_
  | with_reducible refine s_cvalg ?_
  | with_reducible refine s_fldS ?_
  | with_reducible refine s_I0 ?_
  | with_reducible refine s_U ?_
  | ((with_reducible refine s_eq ?h1 ?q1); (case h1 => exact rfl))
  | ((with_reducible refine s_ne ?h1 ?q1); (case h1 => exact rfl))
  | (with_reducible refine s_tup ?_)
  | (with_reducible refine s_lst ?_)
  | ((with_reducible refine s_isi (d := ?d1) ?h1 ?h2 ?q1); (case h1 => first | assumption | constructor); (case h2 => decide))
  | with_reducible refine ⟨_, _, rfl, rfl, ?_⟩
  | with_reducible refine ⟨_, rfl, ?_⟩)
local macro_rules | `(tactic| walk_at "zi") => `(tactic| first
  | walk_at "z"
  | ((with_reducible refine ite_f ?h1 ?q1); (case h1 => rfl))
  | ((with_reducible refine ite_t ?h1 ?q1); (case h1 => rfl)))
local macro_rules | `(tactic| walk_at "zn") => `(tactic| (intro p hp; generalize eH : upd _ p _ = H2; have s2 := newS hp eH; have e2 := newE eH; clear eH))
local macro_rules | `(tactic| walk_at "zt") => `(tactic| (refine ⟨Nat.le_of_ble_eq_true rfl, ?_⟩; intro p hp; generalize eH : upd _ p _ = H2; have s2 := newS hp eH; have e2 := newE eH; clear eH))
/-! ### steps -/
def spIsStep (K : Fg) : Sp := fun vs H Q _ => ∃ v d dk kvs wl ws, vs = [v, .ref dk, .ref wl] ∧ Dp K H v d ∧ H dk = some (.dK kvs) ∧ strVals kvs ∧ SqL K H wl ws ∧ ws.all flatV = true ∧ Q (.bl (isStep kvs ws d)) H
section
variable {P : Program} {w : World} {K : Fg} {mg : Str → Option Value} {base : Heap}
theorem ok_is_step (T : Txt K mg) : FnOk P w K mg base (L2.CX P w) 2 (ga K "is_step") (fdOf K (ga K "is_step")) ["step", "kinds", "works"] (spIsStep K) := by
  refine FunD.ok T.F_is_step sc_is_step (fun vs H Q E h => ?_) (fun cdv A outer s H vs Q E hr h => ⟨_, PSs.nox (pss_cons (ps_if (PW.pt (pw_or (pt_not (pt_val (pe_callB (call_isiDK K) (by rfl) T.u_isinstance (by decide +kernel) (pa_cons (pv 0) (pa_cons (z_ty (n := "tuple") T.u_tuple) pa_nil))))) (pw_or (pt_cmpR op_ne (pe_callB (call_lenK K) (by rfl) T.u_len (by decide +kernel) (pa_cons (pv 0) pa_nil)) pe_int (nomark _)) (pw_or1 (pt_not (pt_val (pe_callB (call_isiDK K) (by rfl) T.u_isinstance (by decide +kernel) (pa_cons (pe_ix (ix_tupK K) (pv 0) pe_int (fun _ _ => rfl)) (pa_cons (z_ty (n := "str") T.u_str) pa_nil))))))))) (pss_one (ps_ret pe_bl)) pss_nil)
      (pss_cons (ps_asg (pv 0) (kGT K (pg_tup (n := 2) rfl (pgs_cons (zg 3 sc_is_step.nd) (pgs_cons (zg 4 sc_is_step.nd) pgs_nil)))))
      (pss_cons (ps_if (pt_cmpR (op_in_seqK K) (pv 3) (z_ref T.g_LINE_WORDS) (by rfl)) (pss_one (ps_ret (pe_and (pe_callB (call_isiDK K) (by rfl) T.u_isinstance (by decide +kernel) (pa_cons (pv 4) (pa_cons (z_ty (n := "str") T.u_str) pa_nil))) (pe_and (pe_cmp (pc_din (hu_of hr) (pv 4) (pv 1))) (pe_one (pe_or (pe_cmpR op_ne (pv 3) (z_str T.i_QUIET) (nomark _)) (pe_one (pe_cmpR op_eq (pe_dget (hu_of hr) (pv 1) (pv 4) (fun _ _ => rfl)) (z_str T.i_LEVEL) (nomark _))))))))) pss_nil)
      (pss_cons (ps_if (pt_cmpR op_eq (pv 3) (z_str T.i_LATER) (nomark _)) (pss_one (ps_ret (pe_and (pe_callB (call_isiDK K) (by rfl) T.u_isinstance (by decide +kernel) (pa_cons (pv 4) (pa_cons (z_ty (n := "str") T.u_str) pa_nil))) (pe_one (pe_cmpR (op_in_seqK K) (pv 4) (pv 2) (by rfl)))))) pss_nil)
      (pss_cons (ps_if (pt_cmpR (op_in_seqK K) (pv 3) (z_ref T.g_FLAG_WORDS) (by rfl)) (pss_one (ps_ret (z_call (ok_is_integer T) T.c_is_integer (hr.mono (by decide)) rfl T.g_is_integer passL (pa_cons (pv 4) (pa_cons pe_int (pa_cons (z_int T.i_MAX_FLAG) pa_nil)))))) pss_nil)
      (pss_one (ps_ret (pe_or (pe_and (pe_cmpR op_eq (pv 3) (z_str T.i_RUN) (nomark _)) (pe_one (z_call (ok_is_integer T) T.c_is_integer (hr.mono (by decide)) rfl T.g_is_integer passL (pa_cons (pv 4) (pa_cons pe_int (pa_cons (z_int T.i_MAX_TICKS) pa_nil)))))) (pe_one (pe_and (pe_cmpR op_eq (pv 3) (z_str T.i_BAR) (nomark _)) (pe_one (z_call (ok_is_integer T) T.c_is_integer (hr.mono (by decide)) rfl T.g_is_integer passL (pa_cons (pv 4) (pa_cons pe_int (pa_cons (z_int T.i_MAX_RANK) pa_nil))))))))))))))), ?_⟩)
  · obtain ⟨v, d, dk, kvs, wl, ws, rfl, _⟩ := h
    rfl
  obtain ⟨v, d, dk, kvs, wl, ws, rfl, hd, hK, hkv, hW, hws, q⟩ := h
  show (_ : TS) _ [some v, some (.ref dk), some (.ref wl), none, none] H
  try dsimp only [cxOf]
  have hd0 := hd
  cases hd <;> (repeat walk_at "zi") <;> try exact q
  rename_i a xs ds hT hA
  refine s_lenT hT ?_
  repeat walk_at "zi"
  by_cases h4 : ds.length = 2
  · have hl : xs.length = 2 := hA.len.trans h4
    refine ite_f (by rw [hl]; rfl) ?_
    obtain ⟨da, db, rfl⟩ : ∃ da db, ds = [da, db] := by
      match ds, h4 with
      | [a, b], _ => exact ⟨a, b, rfl⟩
    cases hA with | cons h1 hA => ?_
    cases hA with | cons h2 hA => ?_
    cases hA
    repeat walk_at "zi"
    refine s_ixT hT rfl ?_
    repeat walk_at "zi"
    have h10 := h1
    cases h1 <;> (repeat walk_at "zi") <;> try exact q
    rename_i y w
    refine s_gtup hT rfl ?_
    repeat walk_at "zi"
    have q' : Q (.bl (isStepX kvs ws w db)) H := q
    unfold isStepX at q'
    refine s_in (.inr (T.t_LINE_WORDS H)) rfl rfl ?_
    repeat walk_at "zi"
    refine ite_b (fun n1 => ?_) (fun n1 => ?_)
    · have n1' : inV (.str w) lineWords = true := n1
      have h20 := h2
      cases h2 <;> (repeat walk_at "zi") <;> try (rw [if_pos n1'] at q'; exact q')
      rename_i y
      rw [if_pos n1'] at q'
      dsimp only at q'
      refine s_dS hK ?_
      repeat walk_at "zi"
      refine ite_b (fun n2 => ?_) (fun n2 => ?_)
      · rw [n2, Bool.true_and] at q'
        repeat walk_at "zi"
        refine ite_b (fun n3 => ?_) (fun n3 => ?_)
        · rw [n3] at q'
          exact q'
        · rw [n3, Bool.false_or] at q'
          obtain ⟨u, hu⟩ := Option.isSome_iff_exists.mp n2
          obtain ⟨z, rfl⟩ := hkv _ _ hu
          repeat walk_at "zi"
          refine s_dgS hK hu ?_
          repeat walk_at "zi"
          rw [hu] at q'
          have e : decide ((some (V.str z) : Option V) = some (.str "level")) = decide (V.str z = V.str "level") := by simp
          rw [e] at q'
          exact q'
      · rw [n2, Bool.false_and] at q'
        exact q'
    have n1' : ¬ inV (.str w) lineWords = true := by rw [show inV (.str w) lineWords = false from n1]; decide
    rw [if_neg n1'] at q'
    repeat walk_at "zi"
    refine ite_b (fun n2 => ?_) (fun n2 => ?_)
    · rw [if_pos n2] at q'
      repeat walk_at "zi"
      have h20 := h2
      cases h2 <;> (repeat walk_at "zi") <;> try exact q'
      refine s_in (.inl hW) rfl hws ?_
      exact q'
    rw [if_neg (by rw [n2]; decide)] at q'
    repeat walk_at "zi"
    refine s_in (.inr (T.t_FLAG_WORDS H)) rfl rfl ?_
    repeat walk_at "zi"
    refine ite_b (fun n3 => ?_) (fun n3 => ?_)
    · rw [if_pos (show inV (.str w) flagWords = true from n3)] at q'
      repeat walk_at "zi"
      exact ⟨_, _, _, _, rfl, h2, q'⟩
    rw [if_neg (show ¬ inV (.str w) flagWords = true by rw [show inV (.str w) flagWords = false from n3]; decide)] at q'
    repeat walk_at "zi"
    refine ite_b (fun n4 => ?_) (fun n4 => ?_)
    · rw [n4, Bool.true_and] at q'
      repeat walk_at "zi"
      refine ⟨_, _, _, _, rfl, h2, ?_⟩
      repeat walk_at "zi"
      refine ite_b (fun n5 => ?_) (fun n5 => ?_)
      · rw [n5] at q'
        exact q'
      · rw [n5, Bool.false_or] at q'
        repeat walk_at "zi"
        refine ite_b (fun n6 => ?_) (fun n6 => ?_)
        · rw [n6, Bool.true_and] at q'
          repeat walk_at "zi"
          exact ⟨_, _, _, _, rfl, h2, q'⟩
        · rw [n6, Bool.false_and] at q'
          exact q'
    · rw [n4, Bool.false_and, Bool.false_or] at q'
      repeat walk_at "zi"
      refine ite_b (fun n6 => ?_) (fun n6 => ?_)
      · rw [n6, Bool.true_and] at q'
        repeat walk_at "zi"
        exact ⟨_, _, _, _, rfl, h2, q'⟩
      · rw [n6, Bool.false_and] at q'
        exact q'
  · refine ite_t ?_ ?_
    · have hl : xs.length ≠ 2 := by rw [hA.len]; exact h4
      simp
      omega
    · repeat walk_at "zi"
      rw [isStep_no h4] at q
      exact q
end
end T
set_option maxHeartbeats 1000000
namespace T
open PySem PySem.Spec PyProof.Rows L2 Z
open He (ga ma)
local macro_rules | `(tactic| walk_at "z") => `(tactic| first
  | with_reducible refine s_seq ?_
  | with_reducible refine s_asg ?_
  | with_reducible refine s_gname ?_
  | with_reducible refine s_ret ?_
  | with_reducible refine s_retN ?_
  | with_reducible refine s_ifS ?_
  | with_reducible refine s_drop ?_
  | with_reducible refine s_next ?_
  | with_reducible refine s_cont ?_
  | with_reducible refine s_break ?_
  | with_reducible refine s_par ?_
  | with_reducible refine s_par2 ?_
  | with_reducible refine s_c ?_
  | ((with_reducible refine s_var (v := ?v1) ?h1 ?q1); (case h1 => exact rfl))
  | with_reducible refine s_op ?_
  | with_reducible refine s_un ?_
  | with_reducible refine s_cb ?_
  | with_reducible refine s_cons ?_
  | with_reducible refine s_nil ?_
  | with_reducible refine s_star ?_
  | with_reducible refine s_test ?_
  | with_reducible refine s_B ?_
  | with_reducible refine s_and ?_
  | with_reducible refine s_or ?_
  | with_reducible refine s_not ?_
  | with_reducible refine s_andV ?_
  | with_reducible refine s_orV ?_
  | with_reducible refine s_notV ?_
  | with_reducible refine s_if ?_
  | with_reducible refine s_chain ?_
  | with_reducible refine s_call ?_
  | with_reducible refine s_bl ?_
  | with_reducible refine s_yes ?_
  | with_reducible refine s_gcons ?_
  | with_reducible refine s_gnil ?_
  | with_reducible refine s_din ?_
  | with_reducible refine s_dnin ?_
  | with_reducible refine s_dget ?_
  | with_reducible refine s_bm ?_
  | with_reducible refine s_bm0 ?_
  | with_reducible refine s_fldg ?_
  | with_reducible refine s_meth ?_
  | with_reducible refine s_prop ?_
  | with_reducible refine s_lcT ?_
  | with_reducible refine s_daugg ?_
  | with_reducible refine s_disp ?_
  | with_reducible refine s_pcons ?_
  | with_reducible refine s_pnil ?_
  | with_reducible refine s_gsub ?_
  | with_reducible refine s_augS ?_
  | with_reducible refine s_fldaug ?_
  | with_reducible refine s_add ?_
  | with_reducible refine s_ipI ?_
  | with_reducible refine s_ixO ?_
  | with_reducible refine s_lcL ?_
  | with_reducible refine s_dcT ?_
  | with_reducible refine s_cvalg ?_
  | with_reducible refine s_fldS ?_
  | with_reducible refine s_I0 ?_
  | with_reducible refine s_U ?_
  | ((with_reducible refine s_eq ?h1 ?q1); (case h1 => exact rfl))
  | ((with_reducible refine s_ne ?h1 ?q1); (case h1 => exact rfl))
  | (with_reducible refine s_tup ?_)
  | (with_reducible refine s_lst ?_)
  | ((with_reducible refine s_isi (d := ?d1) ?h1 ?h2 ?q1); (case h1 => first | assumption | constructor); (case h2 => decide))
  | with_reducible refine ⟨_, _, rfl, rfl, ?_⟩
  | with_reducible refine ⟨_, rfl, ?_⟩)
local macro_rules | `(tactic| walk_at "zi") => `(tactic| first
  | walk_at "z"
  | ((with_reducible refine ite_f ?h1 ?q1); (case h1 => rfl))
  | ((with_reducible refine ite_t ?h1 ?q1); (case h1 => rfl)))
local macro_rules | `(tactic| walk_at "zn") => `(tactic| (intro p hp; generalize eH : upd _ p _ = H2; have s2 := newS hp eH; have e2 := newE eH; clear eH))
local macro_rules | `(tactic| walk_at "zt") => `(tactic| (refine ⟨Nat.le_of_ble_eq_true rfl, ?_⟩; intro p hp; generalize eH : upd _ p _ = H2; have s2 := newS hp eH; have e2 := newE eH; clear eH))
/-! ### lines and works that are right -/
def spCheckLines (K : Fg) (ok : PyData → Bool) : Sp := fun vs H Q _ => ∃ v ls, ∃ most : Int, vs = [v, .int most] ∧ Dp K H v (.tuple ls) ∧ shorts ls = true ∧ (∀ d ∈ ls, ok d = true) ∧ (ls.map nameD).Nodup ∧ (ls.length : Int) ≤ most ∧ ls.length ≤ 10000 ∧ ∀ H', Same H H' → Q .non H'
section
variable {P : Program} {w : World} {K : Fg} {mg : Str → Option Value} {base : Heap}
theorem ok_check_lines (T : Txt K mg) : FnOk P w K mg base (L2.CX P w) 4 (ga K "check_lines") (fdOf K (ga K "check_lines")) ["lines", "most"] (spCheckLines K isLine) := by
  refine FunD.ok T.F_check_lines sc_check_lines (fun vs H Q E h => ?_) (fun cdv A outer s H vs Q E hr h => ⟨_, PSs.nox (pss_cons (zset 2 sc_check_lines.nd (pe_lst pa_nil))
      (pss_one (ps_for PassesOwn.never rfl (kIET K (pi_enumT (by rfl) T.u_enumerate (pa_cons (pv 0) pa_nil))) (kGT K (pg_tup (n := 2) rfl (pgs_cons (zg 3 sc_check_lines.nd) (pgs_cons (zg 4 sc_check_lines.nd) pgs_nil))))
      (pss_cons (ps_if (PW.pt (pw_or (pt_cmpR op_eq (pv 3) (pv 1) (nomark _)) (pw_or (pt_not (pt_val (z_call (ok_is_line T) T.c_is_line (hr.mono (by decide)) rfl T.g_is_line passL (pa_cons (pv 4) pa_nil)))) (pw_or1 (pt_cmpR (op_in_seqK K) (pe_ix (ix_tupK K) (pv 4) pe_int (fun _ _ => rfl)) (pv 2) (by rfl)))))) (pss_one ps_never) pss_nil)
      (pss_one (ps_expr (kBM K (pe_bm PySem.F.plainAttrs_list PySem.F.slot_list_append PySem.F.type_list_append mt_append (pv 2) (pa_cons (pe_ix (ix_tupK K) (pv 4) pe_int (fun _ _ => rfl)) pa_nil))))))))), ?_⟩)
  · obtain ⟨v, ls, most, rfl, _⟩ := h
    rfl
  obtain ⟨v, ls, most, rfl, hd, hz, hok, hnd, hm, hn, q⟩ := h
  obtain ⟨a, xs, rfl, hT, hA⟩ := hd.tupI
  show (_ : TS) _ [some (.ref a), some (.int most), none, none, none] H
  try dsimp only [cxOf]
  repeat walk_at "zi"
  refine ⟨by decide, ?_⟩
  walk_at "zn"
  rename_i l hl H1 s1 e1
  repeat walk_at "zi"
  refine ⟨_, rfl, a, xs, rfl, s1.sqT hT, for_it walk_enumT (fun i σ H' => ∃ v3 v4, σ = [some (.ref a), some (.int most), some (.ref l), v3, v4] ∧ Same H H' ∧ H' l = some (.lst (((ls.map nameD).take i).map V.str))) ⟨none, none, rfl, s1, e1⟩ (fun i σ H' _ ⟨_, _, _, s2, _⟩ => s2.sqT hT) (fun i x σ H2 H3 hi p y => ?_) (fun σ H' ⟨_, _, _, s2, _⟩ => q _ s2)⟩
  obtain ⟨v3, v4, rfl, s2, e2⟩ := p
  obtain ⟨t, y1, y2, rfl, ht, rfl, h1, h2⟩ := y
  cases h1
  generalize eH : upd H2 t _ = H3
  have s3 := newS ht eH
  have e3 := newE eH
  clear eH
  refine s_gtup (SqT.of e3) rfl ?_
  repeat walk_at "zi"
  have hix : i < ls.length := by rw [← hA.len]; exact hi
  have hx2 : xs[i]? = some y2 := h2
  obtain ⟨d, hdi, hdd⟩ := hA.getv hx2
  have hmem : d ∈ ls := List.mem_of_getElem? hdi
  refine ite_f (decide_eq_false fun z => by cases z; omega) ?_
  repeat walk_at "zi"
  refine ⟨y2, d, rfl, (hdd.same s2).same s3, shorts_at hz hmem, fun H4 s4 => ?_⟩
  rw [hok d hmem]
  repeat walk_at "zi"
  obtain ⟨nm, rest, hd5⟩ := isLine_name2 (hok d hmem)
  subst hd5
  have s24 := (s2.trans s3).trans s4
  obtain ⟨b, zs, rfl, hTb, hAb⟩ := (hdd.same s24).tupI
  cases hAb with | cons b1 hAb => ?_
  cases b1
  refine s_ixT hTb (at_of (j := 0) rfl rfl) ?_
  repeat walk_at "zi"
  have e4 : H4 l = some (.lst (((ls.map nameD).take i).map V.str)) := s4 _ _ (s3 _ _ e2)
  have hnm : (ls.map nameD)[i]? = some nm := by
    rw [List.getElem?_map, hdi]
    rfl
  refine s_in (.inl (SqL.of e4)) rfl flat_strs ?_
  repeat walk_at "zi"
  refine ite_f (by rw [if_neg (by decide), inV_strs]; exact decide_eq_false (nodup_take hnd hnm)) ?_
  repeat walk_at "zi"
  refine s_tyL e4 ?_
  repeat walk_at "zi"
  refine s_ixT hTb (at_of (j := 0) rfl rfl) ?_
  repeat walk_at "zi"
  refine s_append e4 ?_ ?_
  · rw [List.length_map, List.length_take, List.length_map, sizeLine_eq]
    omega
  refine ⟨_, _, rfl, fun c o h => ?_, ?_⟩
  · rw [upd_ne (ne_of_none h hl)]
    exact s24 _ _ h
  · rw [upd_same, List.take_add_one, hnm, List.map_append]
    rfl
theorem ok_check_works (T : Txt K mg) : FnOk P w K mg base (L2.CX P w) 4 (ga K "check_works") (fdOf K (ga K "check_works")) ["works", "most"] (spCheckLines K isWork) := by
  refine FunD.ok T.F_check_works sc_check_works (fun vs H Q E h => ?_) (fun cdv A outer s H vs Q E hr h => ⟨_, PSs.nox (pss_cons (zset 2 sc_check_works.nd (pe_lst pa_nil))
      (pss_one (ps_for PassesOwn.never rfl (kIET K (pi_enumT (by rfl) T.u_enumerate (pa_cons (pv 0) pa_nil))) (kGT K (pg_tup (n := 2) rfl (pgs_cons (zg 3 sc_check_works.nd) (pgs_cons (zg 4 sc_check_works.nd) pgs_nil))))
      (pss_cons (ps_if (PW.pt (pw_or (pt_cmpR op_eq (pv 3) (pv 1) (nomark _)) (pw_or (pt_not (pt_val (z_call (ok_is_work T) T.c_is_work (hr.mono (by decide)) rfl T.g_is_work passL (pa_cons (pv 4) pa_nil)))) (pw_or1 (pt_cmpR (op_in_seqK K) (pe_ix (ix_tupK K) (pv 4) pe_int (fun _ _ => rfl)) (pv 2) (by rfl)))))) (pss_one ps_never) pss_nil)
      (pss_one (ps_expr (kBM K (pe_bm PySem.F.plainAttrs_list PySem.F.slot_list_append PySem.F.type_list_append mt_append (pv 2) (pa_cons (pe_ix (ix_tupK K) (pv 4) pe_int (fun _ _ => rfl)) pa_nil))))))))), ?_⟩)
  · obtain ⟨v, ls, most, rfl, _⟩ := h
    rfl
  obtain ⟨v, ls, most, rfl, hd, hz, hok, hnd, hm, hn, q⟩ := h
  obtain ⟨a, xs, rfl, hT, hA⟩ := hd.tupI
  show (_ : TS) _ [some (.ref a), some (.int most), none, none, none] H
  try dsimp only [cxOf]
  repeat walk_at "zi"
  refine ⟨by decide, ?_⟩
  walk_at "zn"
  rename_i l hl H1 s1 e1
  repeat walk_at "zi"
  refine ⟨_, rfl, a, xs, rfl, s1.sqT hT, for_it walk_enumT (fun i σ H' => ∃ v3 v4, σ = [some (.ref a), some (.int most), some (.ref l), v3, v4] ∧ Same H H' ∧ H' l = some (.lst (((ls.map nameD).take i).map V.str))) ⟨none, none, rfl, s1, e1⟩ (fun i σ H' _ ⟨_, _, _, s2, _⟩ => s2.sqT hT) (fun i x σ H2 H3 hi p y => ?_) (fun σ H' ⟨_, _, _, s2, _⟩ => q _ s2)⟩
  obtain ⟨v3, v4, rfl, s2, e2⟩ := p
  obtain ⟨t, y1, y2, rfl, ht, rfl, h1, h2⟩ := y
  cases h1
  generalize eH : upd H2 t _ = H3
  have s3 := newS ht eH
  have e3 := newE eH
  clear eH
  refine s_gtup (SqT.of e3) rfl ?_
  repeat walk_at "zi"
  have hix : i < ls.length := by rw [← hA.len]; exact hi
  have hx2 : xs[i]? = some y2 := h2
  obtain ⟨d, hdi, hdd⟩ := hA.getv hx2
  have hmem : d ∈ ls := List.mem_of_getElem? hdi
  refine ite_f (decide_eq_false fun z => by cases z; omega) ?_
  repeat walk_at "zi"
  refine ⟨y2, d, rfl, (hdd.same s2).same s3, shorts_at hz hmem, fun H4 s4 => ?_⟩
  rw [hok d hmem]
  repeat walk_at "zi"
  obtain ⟨nm, rest, hd5⟩ := isWork_name2 (hok d hmem)
  subst hd5
  have s24 := (s2.trans s3).trans s4
  obtain ⟨b, zs, rfl, hTb, hAb⟩ := (hdd.same s24).tupI
  cases hAb with | cons b1 hAb => ?_
  cases b1
  refine s_ixT hTb (at_of (j := 0) rfl rfl) ?_
  repeat walk_at "zi"
  have e4 : H4 l = some (.lst (((ls.map nameD).take i).map V.str)) := s4 _ _ (s3 _ _ e2)
  have hnm : (ls.map nameD)[i]? = some nm := by
    rw [List.getElem?_map, hdi]
    rfl
  refine s_in (.inl (SqL.of e4)) rfl flat_strs ?_
  repeat walk_at "zi"
  refine ite_f (by rw [if_neg (by decide), inV_strs]; exact decide_eq_false (nodup_take hnd hnm)) ?_
  repeat walk_at "zi"
  refine s_tyL e4 ?_
  repeat walk_at "zi"
  refine s_ixT hTb (at_of (j := 0) rfl rfl) ?_
  repeat walk_at "zi"
  refine s_append e4 ?_ ?_
  · rw [List.length_map, List.length_take, List.length_map, sizeLine_eq]
    omega
  refine ⟨_, _, rfl, fun c o h => ?_, ?_⟩
  · rw [upd_ne (ne_of_none h hl)]
    exact s24 _ _ h
  · rw [upd_same, List.take_add_one, hnm, List.map_append]
    rfl
end
end T
set_option maxHeartbeats 1000000
namespace T
open PySem PySem.Spec PyProof.Rows L2 Z
open He (ga ma)
local macro_rules | `(tactic| walk_at "z") => `(tactic| first
  | with_reducible refine s_seq ?_
  | with_reducible refine s_asg ?_
  | with_reducible refine s_gname ?_
  | with_reducible refine s_ret ?_
  | with_reducible refine s_retN ?_
  | with_reducible refine s_ifS ?_
  | with_reducible refine s_drop ?_
  | with_reducible refine s_next ?_
  | with_reducible refine s_cont ?_
  | with_reducible refine s_break ?_
  | with_reducible refine s_par ?_
  | with_reducible refine s_par2 ?_
  | with_reducible refine s_c ?_
  | ((with_reducible refine s_var (v := ?v1) ?h1 ?q1); (case h1 => exact rfl))
  | with_reducible refine s_op ?_
  | with_reducible refine s_un ?_
  | with_reducible refine s_cb ?_
  | with_reducible refine s_cons ?_
  | with_reducible refine s_nil ?_
  | with_reducible refine s_star ?_
  | with_reducible refine s_test ?_
  | with_reducible refine s_B ?_
  | with_reducible refine s_and ?_
  | with_reducible refine s_or ?_
  | with_reducible refine s_not ?_
  | with_reducible refine s_andV ?_
  | with_reducible refine s_orV ?_
  | with_reducible refine s_notV ?_
  | with_reducible refine s_if ?_
  | with_reducible refine s_chain ?_
  | with_reducible refine s_call ?_
  | with_reducible refine s_bl ?_
  | with_reducible refine s_yes ?_
  | with_reducible refine s_gcons ?_
  | with_reducible refine s_gnil ?_
  | with_reducible refine s_din ?_
  | with_reducible refine s_dnin ?_
  | with_reducible refine s_dget ?_
  | with_reducible refine s_bm ?_
  | with_reducible refine s_bm0 ?_
  | with_reducible refine s_fldg ?_
  | with_reducible refine s_meth ?_
  | with_reducible refine s_prop ?_
  | with_reducible refine s_lcT ?_
  | with_reducible refine s_daugg ?_
  | with_reducible refine s_disp ?_
  | with_reducible refine s_pcons ?_
  | with_reducible refine s_pnil ?_
  | with_reducible refine s_gsub ?_
  | with_reducible refine s_augS ?_
  | with_reducible refine s_fldaug ?_
  | with_reducible refine s_add ?_
  | with_reducible refine s_ipI ?_
  | with_reducible refine s_ixO ?_
  | with_reducible refine s_lcL ?_
  | with_reducible refine s_dcT ?_
  | with_reducible refine s_cvalg ?_
  | with_reducible refine s_fldS ?_
  | with_reducible refine s_I0 ?_
  | with_reducible refine s_U ?_
  | ((with_reducible refine s_eq ?h1 ?q1); (case h1 => exact rfl))
  | ((with_reducible refine s_ne ?h1 ?q1); (case h1 => exact rfl))
  | (with_reducible refine s_tup ?_)
  | (with_reducible refine s_lst ?_)
  | ((with_reducible refine s_isi (d := ?d1) ?h1 ?h2 ?q1); (case h1 => first | assumption | constructor); (case h2 => decide))
  | with_reducible refine ⟨_, _, rfl, rfl, ?_⟩
  | with_reducible refine ⟨_, rfl, ?_⟩)
local macro_rules | `(tactic| walk_at "zi") => `(tactic| first
  | walk_at "z"
  | ((with_reducible refine ite_f ?h1 ?q1); (case h1 => rfl))
  | ((with_reducible refine ite_t ?h1 ?q1); (case h1 => rfl)))
local macro_rules | `(tactic| walk_at "zn") => `(tactic| (intro p hp; generalize eH : upd _ p _ = H2; have s2 := newS hp eH; have e2 := newE eH; clear eH))
local macro_rules | `(tactic| walk_at "zt") => `(tactic| (refine ⟨Nat.le_of_ble_eq_true rfl, ?_⟩; intro p hp; generalize eH : upd _ p _ = H2; have s2 := newS hp eH; have e2 := newE eH; clear eH))
/-! ### a new set-up -/
def spSetupInit (K : Fg) : Sp := fun vs H Q _ => ∃ x a b dx P, vs = [.ref x, .ref a, .ref b] ∧ H x = some (.ins (ga K "Setup") dx []) ∧ Dp K H (.ref a) (.tuple (P.ls.map dLn)) ∧ Dp K H (.ref b) (.tuple (P.ws.map dWk)) ∧ P.Ok ∧
  ∀ H' rd wd, H rd = none → H wd = none → rd ≠ wd → Fr [x] H H' → PlanAt K H' ⟨x, rd, wd⟩ P → Q .non H'
section
variable {P : Program} {w : World} {K : Fg} {mg : Str → Option Value} {base : Heap}
theorem ok_Setup_init (T : Txt K mg) : FnOk P w K mg base (L2.CX P w) 5 (ma K (ga K "Setup") "__init__") (fdOf K (ma K (ga K "Setup") "__init__")) ["self", "lines", "works"] (spSetupInit K) := by
  refine FunD.ok T.F_Setup_init sc_Setup_init (fun vs H Q E h => ?_) (fun cdv A outer s H vs Q E hr h => ⟨_, PSs.nox (pss_cons (ps_if (PW.pt (pw_or (pt_not (pt_val (pe_callB (call_isiDK K) (by rfl) T.u_isinstance (by decide +kernel) (pa_cons (pv 1) (pa_cons (z_ty (n := "tuple") T.u_tuple) pa_nil))))) (pw_or1 (pt_cmpR (op_eq0K K hr.units) (pv 1) (pe_tup pa_nil) (nomark _))))) (pss_one ps_never) pss_nil)
      (pss_cons (ps_expr (z_call (ok_check_lines T) T.c_check_lines (hr.mono (by decide)) rfl T.g_check_lines passL (pa_cons (pv 1) (pa_cons (ClX.pe_cval (z_ref T.g_Setup)) pa_nil))))
      (pss_cons (ps_if (pt_not (pt_val (pe_callB (call_isiDK K) (by rfl) T.u_isinstance (by decide +kernel) (pa_cons (pv 2) (pa_cons (z_ty (n := "tuple") T.u_tuple) pa_nil))))) (pss_one ps_never) pss_nil)
      (pss_cons (ps_expr (z_call (ok_check_works T) T.c_check_works (hr.mono (by decide)) rfl T.g_check_works passL (pa_cons (pv 2) (pa_cons (ClX.pe_cval (z_ref T.g_Setup)) pa_nil))))
      (pss_cons (zset 3 sc_Setup_init.nd (pe_dc (own := [("line", 6)]) rfl sc_Setup_init.nd (kIT K (pi_tup (pv 1))) (blkOk_by (own := [("line", 6)]) (N := n_Setup_init) (sc := defScope s_Setup_init) (by decide +kernel)) (fun _ _ _ _ _ => (zg 6 sc_Setup_init.nd)) (fun _ _ _ _ _ => pts_nil) (fun _ _ _ _ _ => (pe_ix (ix_tupK K) (pv 6) pe_int (fun _ _ => rfl))) (fun _ _ _ _ _ => (pe_ix (ix_tupK K) (pv 6) pe_int (fun _ _ => rfl)))))
      (pss_cons (zset 4 sc_Setup_init.nd (pe_lc (own := [("work", 7)]) rfl sc_Setup_init.nd (kIT K (pi_tup (pv 2))) (blkOk_by (own := [("work", 7)]) (N := n_Setup_init) (sc := defScope s_Setup_init) (by decide +kernel)) (fun _ _ _ _ _ => (zg 7 sc_Setup_init.nd)) (fun _ _ _ _ _ => pts_nil) (fun _ _ _ _ _ => (pe_ix (ix_tupK K) (pv 7) pe_int (fun _ _ => rfl)))))
      (pss_cons (ps_for PassesOwn.never rfl (kIET K (pi_enumT (by rfl) T.u_enumerate (pa_cons (pv 1) pa_nil))) (kGT K (pg_tup (n := 2) rfl (pgs_cons (zg 5 sc_Setup_init.nd) (pgs_cons (zg 6 sc_Setup_init.nd) pgs_nil))))
      (pss_one (ps_if (pt_not (pt_val (pe_callB (cr_allK K rfl) (by rfl) T.u_all (by decide +kernel) (pa_cons (pe_lc (own := [("step", 8)]) rfl sc_Setup_init.nd (kIT K (pi_tup (pe_ix (ix_tupK K) (pv 6) pe_int (fun _ _ => rfl)))) (blkOk_by (own := [("step", 8)]) (N := n_Setup_init) (sc := defScope s_Setup_init) (by decide +kernel)) (fun _ _ _ _ _ => (zg 8 sc_Setup_init.nd)) (fun _ _ _ _ _ => pts_nil) (fun _ _ _ _ _ => (z_call (ok_is_step T) T.c_is_step (hr.mono (by decide)) rfl T.g_is_step passL (pa_cons (pv 8) (pa_cons (pv 3) (pa_cons (pv 4) pa_nil)))))) pa_nil)))) (pss_one ps_never) pss_nil)))
      (pss_cons (ps_fld (pv 0) (pv 1) rfl)
      (pss_cons (ps_fld (pv 0) (pv 2) rfl)
      (pss_cons (ps_fld (pv 0) (pe_dc (own := [("line", 6)]) rfl sc_Setup_init.nd (kIT K (pi_tup (pv 1))) (blkOk_by (own := [("line", 6)]) (N := n_Setup_init) (sc := defScope s_Setup_init) (by decide +kernel)) (fun _ _ _ _ _ => (zg 6 sc_Setup_init.nd)) (fun _ _ _ _ _ => pts_nil) (fun _ _ _ _ _ => (pe_ix (ix_tupK K) (pv 6) pe_int (fun _ _ => rfl))) (fun _ _ _ _ _ => (pv 6))) rfl)
      (pss_one (ps_fld (pv 0) (pe_dc (own := [("work", 7)]) rfl sc_Setup_init.nd (kIT K (pi_tup (pv 2))) (blkOk_by (own := [("work", 7)]) (N := n_Setup_init) (sc := defScope s_Setup_init) (by decide +kernel)) (fun _ _ _ _ _ => (zg 7 sc_Setup_init.nd)) (fun _ _ _ _ _ => pts_nil) (fun _ _ _ _ _ => (pe_ix (ix_tupK K) (pv 7) pe_int (fun _ _ => rfl))) (fun _ _ _ _ _ => (pv 7))) rfl)))))))))))), ?_⟩)
  · obtain ⟨x, a, b, dx, P, rfl, _⟩ := h
    rfl
  obtain ⟨x, a, b, dx, P, rfl, hx, hda, hdb, ok, q⟩ := h
  show (_ : TS) _ [some (.ref x), some (.ref a), some (.ref b), none, none, none, none, none, none] H
  try dsimp only [cxOf]
  repeat walk_at "zi"
  refine ⟨by decide, ?_⟩
  walk_at "zn"
  rename_i p hp H1 s1 e1
  obtain ⟨_, xs, e, hT, hA⟩ := hda.tupI
  cases e
  obtain ⟨_, ys, e, hTb, hAb⟩ := hdb.tupI
  cases e
  have hxl : xs.length = P.ls.length := by rw [hA.len, List.length_map]
  refine s_eq0T (s1.sqT hT) (SqT.of e1) ?_
  repeat walk_at "zi"
  refine ite_f ?_ ?_
  · cases xs with
    | nil => exact absurd (List.length_eq_zero_iff.mp hxl.symm) ok.ne
    | cons _ _ => rfl
  repeat walk_at "zi"
  refine s_cval T.k_Setup_MAX_LINES ?_
  repeat walk_at "zi"
  have hnm : (P.ls.map dLn).map nameD = P.names := by rw [List.map_map]; rfl
  have hnw : (P.ws.map dWk).map nameD = P.wnames := by rw [List.map_map]; rfl
  have l12 := ok.l12
  have w8 := ok.w8
  refine ⟨_, P.ls.map dLn, 12, rfl, hda.same s1, shorts_map ok.shl, fun d hd => ?_, by rw [hnm]; exact ok.lnd, by rw [List.length_map]; omega, by rw [List.length_map]; omega, fun H2 s2 => ?_⟩
  · obtain ⟨l, hl, rfl⟩ := List.mem_map.mp hd
    exact ok.lok l hl
  have s12 := s1.trans s2
  have hdb2 := hdb.same s12
  repeat walk_at "zi"
  refine s_cval T.k_Setup_MAX_WORKS ?_
  repeat walk_at "zi"
  refine ⟨_, P.ws.map dWk, 8, rfl, hdb.same s12, shorts_map fun w hw => (ok.shw w hw).1, fun d hd => ?_, by rw [hnw]; exact ok.wnd, by rw [List.length_map]; omega, by rw [List.length_map]; omega, fun H3 s3 => ?_⟩
  · obtain ⟨l, hl, rfl⟩ := List.mem_map.mp hd
    exact ok.wok l hl
  repeat walk_at "zi"
  have s13 := s12.trans s3
  have hkk : (P.ls.map fun l => (Sum.inr l.nm : Key)) = P.names.map Sum.inr := by rw [Pl.names, List.map_map]; rfl
  have hkn : (P.ls.map fun l => (Sum.inr l.nm : Key)).Nodup := by
    rw [hkk]
    exact List.Pairwise.map Sum.inr (fun a b h e => h (Sum.inr.inj e)) ok.lnd
  have hkw : (P.ws.map fun l => (Sum.inr l.nm : Key)).Nodup := by
    rw [show (P.ws.map fun l => (Sum.inr l.nm : Key)) = P.wnames.map Sum.inr by rw [Pl.wnames, List.map_map]; rfl]
    exact List.Pairwise.map Sum.inr (fun a b h e => h (Sum.inr.inj e)) ok.wnd
  refine dcT_d (l := P.ls) (da := dLn) (s13.sqT hT) (hA.same s13) (fun l => .inr l.nm) (P.ls.map fun l => .str l.kd) (by rw [List.length_map]) hkn (by omega) (fun i l y v H4 Z N hl hi hy hv s4 hd z => ?_) (fun kd H4 hkd s4 e4 => ?_)
  · obtain ⟨t, zs, rfl, ht, ha⟩ := hd.tupI
    repeat walk_at "zi"
    refine ⟨rfl, ?_⟩
    repeat walk_at "zi"
    cases ha with | cons h1 ha => ?_
    cases ha with | cons h2 ha => ?_
    cases h1
    cases h2
    refine s_ixT ht (at_of (j := 0) rfl rfl) ?_
    repeat walk_at "zi"
    refine s_ixT ht (at_of (j := 1) rfl rfl) ?_
    rw [List.getElem?_map, hi] at hv
    cases hv
    exact z _ (Same.refl _)
  have hkz : (P.ls.map fun l => (Sum.inr l.nm : Key)).zip (P.ls.map fun l => V.str l.kd) = P.kinds := by
    rw [List.zip_map']
    rfl
  rw [hkz] at e4
  repeat walk_at "zi"
  have s14 := s13.trans s4
  refine lcT_d (l := P.ws) (da := dWk) (s14.sqT hTb) (hAb.same s14) (fun _ => true) (fun w => .str w.nm) (by omega) (fun _ _ => rfl) (fun l v H5 Yes No hl s5 hd yes no => ?_) (fun nl H5 ns hnl s5 e5 a5 => ?_)
  · obtain ⟨t, zs, rfl, ht, ha⟩ := hd.tupI
    repeat walk_at "zi"
    refine ⟨rfl, ?_⟩
    repeat walk_at "zi"
    cases ha with | cons h1 ha => ?_
    cases h1
    refine s_ixT ht (at_of (j := 0) rfl rfl) ?_
    exact yes rfl _ _ (Same.refl _) (.str _)
  rw [List.filter_eq_self.mpr (fun _ _ => rfl), map_str] at a5
  have e5' := dp_strs a5
  subst e5'
  have s15 := s14.trans s5
  rw [show (P.ws.map fun w => w.nm) = P.wnames from rfl] at e5
  have hkv : strVals P.kinds := fun k v h => by
    unfold valV at h
    obtain ⟨kv, h1, h2⟩ := Option.map_eq_some_iff.mp h
    obtain ⟨l, hl, rfl⟩ := List.mem_map.mp (List.mem_of_find?_eq_some h1)
    exact ⟨l.kd, h2.symm⟩
  repeat walk_at "zi"
  refine ⟨_, rfl, a, xs, rfl, s15.sqT hT, for_it walk_enumT (fun i σ H' => ∃ v5 v6, σ = [some (.ref x), some (.ref a), some (.ref b), some (.ref kd), some (.ref nl), v5, v6, none, none] ∧ Same H5 H') ⟨none, none, rfl, Same.refl _⟩ (fun i σ H' _ ⟨_, _, _, s6⟩ => s6.sqT (s15.sqT hT)) (fun i x' σ H6 H7 hi p y => ?_) (fun σ H6 ⟨v5, v6, hσ, s6⟩ => ?_)⟩
  · obtain ⟨v5, v6, rfl, s6⟩ := p
    obtain ⟨t, y1, y2, rfl, ht, rfl, h1, h2⟩ := y
    cases h1
    generalize eH : upd H6 t _ = H7
    have s7 := newS ht eH
    have e7 := newE eH
    clear eH
    refine s_gtup (SqT.of e7) rfl ?_
    repeat walk_at "zi"
    have s57 := s6.trans s7
    have s17 := s15.trans s57
    obtain ⟨d, hdi, hdd⟩ := hA.getv h2
    rw [List.getElem?_map] at hdi
    obtain ⟨l, hl, rfl⟩ := Option.map_eq_some_iff.mp hdi
    obtain ⟨c, zs, rfl, hTc, hAc⟩ := (hdd.same s17).tupI
    cases hAc with | cons h1 hAc => ?_
    cases hAc with | cons h2 hAc => ?_
    cases hAc with | cons h3 hAc => ?_
    cases hAc with | cons h4 hAc => ?_
    cases hAc
    refine s_ixT hTc (at_of (j := 3) rfl rfl) ?_
    obtain ⟨st, ss, rfl, hTs, hAs⟩ := h4.tupI
    have hlm := List.mem_of_getElem? hl
    have hst : l.st.length ≤ 8 := by
      have hk := ok.lok l hlm
      simp only [isLine, dLn, isSteps, Bool.and_eq_true, decide_eq_true_eq, List.length_map] at hk
      omega
    refine lcT_d (l := l.st) (da := dSt) hTs hAs (fun _ => true) (fun s => .bool (isStep P.kinds (P.wnames.map V.str) (dSt s))) (by omega) (fun _ _ => rfl) (fun s v H8 Yes No hs s8 hd yes no => ?_) (fun bl H8 bs hbl s8 e8 a8 => ?_)
    · repeat walk_at "zi"
      refine ⟨rfl, ?_⟩
      repeat walk_at "zi"
      refine ⟨_, _, _, _, _, _, rfl, hd, s8 _ _ (s57 _ _ (s5 _ _ e4)), hkv, SqL.of (s8 _ _ (s57 _ _ e5)), flat_strs, ?_⟩
      exact yes rfl _ _ (Same.refl _) (.bl _)
    rw [List.filter_eq_self.mpr (fun _ _ => rfl), map_bool] at a8
    have e8' := dp_bools a8
    subst e8'
    repeat walk_at "zi"
    refine s_all (SqL.of e8) ?_
    repeat walk_at "zi"
    refine ite_f ?_ ?_
    · rw [List.all_map]
      exact congrArg Bool.not (List.all_eq_true.mpr fun s hs => ok.sok l hlm s hs)
    repeat walk_at "zi"
    exact ⟨_, _, rfl, s57.trans s8⟩
  subst hσ
  have s16 := s15.trans s6
  repeat walk_at "zi"
  refine s_fldput (s16 _ _ hx) T.cl_Setup T.n_Setup_line_rows (of_decide_eq_true (by kernel_rfl)) ?_
  repeat walk_at "zi"
  refine s_fldput upd_same T.cl_Setup T.n_Setup_work_rows (of_decide_eq_true (by kernel_rfl)) ?_
  generalize eH : upd (upd H6 x _) x _ = H8
  have e8 : H8 x = some (.ins (ga K "Setup") dx (putF "work_rows" (.ref b) (putF "line_rows" (.ref a) []))) := by rw [← eH, upd_same]
  have f8 : Fr [x] H H8 := by
    rw [← eH]
    exact s16.fr.trans ((Fr.upd (by simp) (s16 _ _ hx) rfl).trans (Fr.upd (by simp) upd_same rfl))
  clear eH
  have hrow : ∀ {H9 : Hp}, Fr [x] H H9 → SqT K H9 a xs ∧ DpAll K H9 xs (P.ls.map dLn) ∧ SqT K H9 b ys ∧ DpAll K H9 ys (P.ws.map dWk) := fun f => ⟨f.tk.sqT hT, hA.tk f.tk (tupds_map tupd_dLn _), f.tk.sqT hTb, hAb.tk f.tk (tupds_map tupd_dWk _)⟩
  repeat walk_at "zi"
  refine dcT_d (l := P.ls) (da := dLn) (hrow f8).1 (hrow f8).2.1 (fun l => .inr l.nm) xs hxl.symm hkn (by omega) (fun i l y v H9 Z N hl hi hy hv s9 hd z => ?_) (fun rd H9 hrd s9 e9 => ?_)
  · obtain ⟨t, zs, rfl, ht, ha⟩ := hd.tupI
    repeat walk_at "zi"
    refine ⟨rfl, ?_⟩
    repeat walk_at "zi"
    cases ha with | cons h1 ha => ?_
    cases h1
    refine s_ixT ht (at_of (j := 0) rfl rfl) ?_
    repeat walk_at "zi"
    rw [hy] at hv
    cases hv
    exact z _ (Same.refl _)
  repeat walk_at "zi"
  refine s_fldput (s9 _ _ e8) T.cl_Setup T.n_Setup_rows_by_name (of_decide_eq_true (by kernel_rfl)) ?_
  generalize eH : upd H9 x _ = H10
  have e10 : H10 x = some (.ins (ga K "Setup") dx (putF "rows_by_name" (.ref rd) (putF "work_rows" (.ref b) (putF "line_rows" (.ref a) [])))) := by rw [← eH, upd_same]
  have f9 : Fr [x] H9 H10 := by rw [← eH]; exact Fr.upd (by simp) (s9 _ _ e8) rfl
  have f10 : Fr [x] H H10 := (f8.trans s9.fr).trans f9
  have hxrd : rd ≠ x := fun z => by rw [z, e8] at hrd; cases hrd
  have d10 : H10 rd = some (.dK ((P.ls.map fun l => (Sum.inr l.nm : Key)).zip xs)) := f9.at e9 (by simp [hxrd])
  clear eH
  have hyl : ys.length = P.ws.length := by rw [hAb.len, List.length_map]
  repeat walk_at "zi"
  refine dcT_d (l := P.ws) (da := dWk) (hrow f10).2.2.1 (hrow f10).2.2.2 (fun l => .inr l.nm) ys hyl.symm hkw (by omega) (fun i l y v H9 Z N hl hi hy hv s9 hd z => ?_) (fun wd H11 hwd s11 e11 => ?_)
  · obtain ⟨t, zs, rfl, ht, ha⟩ := hd.tupI
    repeat walk_at "zi"
    refine ⟨rfl, ?_⟩
    repeat walk_at "zi"
    cases ha with | cons h1 ha => ?_
    cases h1
    refine s_ixT ht (at_of (j := 0) rfl rfl) ?_
    repeat walk_at "zi"
    rw [hy] at hv
    cases hv
    exact z _ (Same.refl _)
  repeat walk_at "zi"
  refine s_fldput (s11 _ _ e10) T.cl_Setup T.n_Setup_works_by_name (of_decide_eq_true (by kernel_rfl)) ?_
  generalize eH : upd H11 x _ = H12
  have f12 : Fr [x] H11 H12 := by rw [← eH]; exact Fr.upd (by simp) (s11 _ _ e10) rfl
  have e12 : H12 x = some (.ins (ga K "Setup") dx (planF a b rd wd)) := by
    rw [← eH, upd_same]
    kernel_rfl
  clear eH
  have f := (f10.trans s11.fr).trans f12
  have hxwd : wd ≠ x := fun z => by rw [z, e10] at hwd; cases hwd
  have new : ∀ {a : Addr} {H9 : Hp}, Fr [x] H H9 → a ≠ x → H9 a = none → H a = none := fun {a H9} f n h => by
    cases e : H a with
    | none => rfl
    | some o => rw [f.at e (by simp [n])] at h; cases h
  refine q H12 rd wd (new f8 hxrd hrd) (new f10 hxwd hwd) (fun z => by rw [← z, d10] at hwd; cases hwd) f ⟨ok, ⟨dx, a, b, e12, hda.tk f.tk (tupds_map tupd_dLn _), hdb.tk f.tk (tupds_map tupd_dWk _)⟩, dictOf_zip (nm := Ln.nm) (f12.at (s11 _ _ d10) (by simp [hxrd])) ok.lnd (hrow f).2.1, dictOf_zip (nm := Wk.nm) (f12.at e11 (by simp [hxwd])) ok.wnd (hrow f).2.2.2⟩
end
end T
set_option maxHeartbeats 1000000
namespace T
open PySem PySem.Spec PyProof.Rows L2 Z
open He (ga ma)
local macro_rules | `(tactic| walk_at "z") => `(tactic| first
  | with_reducible refine s_seq ?_
  | with_reducible refine s_asg ?_
  | with_reducible refine s_gname ?_
  | with_reducible refine s_ret ?_
  | with_reducible refine s_retN ?_
  | with_reducible refine s_ifS ?_
  | with_reducible refine s_drop ?_
  | with_reducible refine s_next ?_
  | with_reducible refine s_cont ?_
  | with_reducible refine s_break ?_
  | with_reducible refine s_par ?_
  | with_reducible refine s_par2 ?_
  | with_reducible refine s_c ?_
  | ((with_reducible refine s_var (v := ?v1) ?h1 ?q1); (case h1 => exact rfl))
  | with_reducible refine s_op ?_
  | with_reducible refine s_un ?_
  | with_reducible refine s_cb ?_
  | with_reducible refine s_cons ?_
  | with_reducible refine s_nil ?_
  | with_reducible refine s_star ?_
  | with_reducible refine s_test ?_
  | with_reducible refine s_B ?_
  | with_reducible refine s_and ?_
  | with_reducible refine s_or ?_
  | with_reducible refine s_not ?_
  | with_reducible refine s_andV ?_
  | with_reducible refine s_orV ?_
  | with_reducible refine s_notV ?_
  | with_reducible refine s_if ?_
  | with_reducible refine s_chain ?_
  | with_reducible refine s_call ?_
  | with_reducible refine s_bl ?_
  | with_reducible refine s_yes ?_
  | with_reducible refine s_gcons ?_
  | with_reducible refine s_gnil ?_
  | with_reducible refine s_din ?_
  | with_reducible refine s_dnin ?_
  | with_reducible refine s_dget ?_
  | with_reducible refine s_bm ?_
  | with_reducible refine s_bm0 ?_
  | with_reducible refine s_fldg ?_
  | with_reducible refine s_meth ?_
  | with_reducible refine s_prop ?_
  | with_reducible refine s_lcT ?_
  | with_reducible refine s_daugg ?_
  | with_reducible refine s_disp ?_
  | with_reducible refine s_pcons ?_
  | with_reducible refine s_pnil ?_
  | with_reducible refine s_gsub ?_
  | with_reducible refine s_augS ?_
  | with_reducible refine s_fldaug ?_
  | with_reducible refine s_add ?_
  | with_reducible refine s_ipI ?_
  | with_reducible refine s_ixO ?_
  | with_reducible refine s_lcL ?_
  | with_reducible refine s_dcT ?_
  | with_reducible refine s_cvalg ?_
  | with_reducible refine s_fldS ?_
  | with_reducible refine s_I0 ?_
  | with_reducible refine s_U ?_
  | ((with_reducible refine s_eq ?h1 ?q1); (case h1 => exact rfl))
  | ((with_reducible refine s_ne ?h1 ?q1); (case h1 => exact rfl))
  | (with_reducible refine s_tup ?_)
  | (with_reducible refine s_lst ?_)
  | ((with_reducible refine s_isi (d := ?d1) ?h1 ?h2 ?q1); (case h1 => first | assumption | constructor); (case h2 => decide))
  | with_reducible refine ⟨_, _, rfl, rfl, ?_⟩
  | with_reducible refine ⟨_, rfl, ?_⟩)
local macro_rules | `(tactic| walk_at "zi") => `(tactic| first
  | walk_at "z"
  | ((with_reducible refine ite_f ?h1 ?q1); (case h1 => rfl))
  | ((with_reducible refine ite_t ?h1 ?q1); (case h1 => rfl)))
local macro_rules | `(tactic| walk_at "zn") => `(tactic| (intro p hp; generalize eH : upd _ p _ = H2; have s2 := newS hp eH; have e2 := newE eH; clear eH))
local macro_rules | `(tactic| walk_at "zt") => `(tactic| (refine ⟨Nat.le_of_ble_eq_true rfl, ?_⟩; intro p hp; generalize eH : upd _ p _ = H2; have s2 := newS hp eH; have e2 := newE eH; clear eH))
/-! ### what is asked of a set-up -/
def nameIn (P : Pl) : PyData → Bool
  | .str z => decide (z ∈ P.names)
  | _ => false
def spContains (K : Fg) : Sp := fun vs H Q _ => ∃ D v d P, vs = [.ref D.p, v] ∧ PlanAt K H D P ∧ Dp K H v d ∧ Q (.bl (nameIn P d)) H
def spCheckLine (K : Fg) : Sp := fun vs H Q _ => ∃ D z P, vs = [.ref D.p, .str z] ∧ PlanAt K H D P ∧ z ∈ P.names ∧ Q .non H
def spGetItem (K : Fg) : Sp := fun vs H Q _ => ∃ D z P, vs = [.ref D.p, .str z] ∧ PlanAt K H D P ∧ z ∈ P.names ∧ ∀ v, Dp K H v (dLn (P.ln z)) → Q v H
def spOrder (K : Fg) : Sp := fun vs H Q _ => ∃ D P, vs = [.ref D.p] ∧ PlanAt K H D P ∧ ∀ H' a, Same H H' → H a = none → H' a = some (.tup (P.order.map V.str)) → Q (.ref a) H'
def spTicksOf (K : Fg) : Sp := fun vs H Q _ => ∃ D z P, vs = [.ref D.p, .str z] ∧ PlanAt K H D P ∧ z ∈ P.names ∧ ∀ H', Same H H' → Q (.int (ticksOf (P.ln z))) H'
section
variable {P : Program} {w : World} {K : Fg} {mg : Str → Option Value} {base : Heap}
theorem ok_Setup_contains (T : Txt K mg) : FnOk P w K mg base (L2.CX P w) 1 (ma K (ga K "Setup") "__contains__") (fdOf K (ma K (ga K "Setup") "__contains__")) ["self", "name"] (spContains K) := by
  refine FunD.ok T.F_Setup_contains sc_Setup_contains (fun vs H Q E h => ?_) (fun cdv A outer s H vs Q E hr h => ⟨_, PSs.nox (pss_one (ps_ret (pe_and (pe_callB (call_isiDK K) (by rfl) T.u_isinstance (by decide +kernel) (pa_cons (pv 1) (pa_cons (z_ty (n := "str") T.u_str) pa_nil))) (pe_one (pe_cmp (pc_din (hu_of hr) (pv 1) (kFld K (pe_fld (pv 0) rfl)))))))), ?_⟩)
  · obtain ⟨D, v, d, P, rfl, _⟩ := h
    rfl
  obtain ⟨D, v, d, P, rfl, pl, hd, q⟩ := h
  show (_ : TS) _ [some (.ref D.p), some v] H
  try dsimp only [cxOf]
  have hd0 := hd
  obtain ⟨dx, a, b, hp, _⟩ := pl.ins
  obtain ⟨kr, hrd, hk, _⟩ := pl.rows.at_
  cases hd <;> (repeat walk_at "zi") <;> try exact q
  refine s_fldat hp T.cl_Setup T.n_Setup_rows_by_name plF_rn ?_
  refine s_dS hrd ?_
  rw [hk]
  exact q
theorem ok_Setup_check_line (T : Txt K mg) : FnOk P w K mg base (L2.CX P w) 2 (ma K (ga K "Setup") "check_line") (fdOf K (ma K (ga K "Setup") "check_line")) ["self", "name"] (spCheckLine K) := by
  refine FunD.ok T.F_Setup_check_line sc_Setup_check_line (fun vs H Q E h => ?_) (fun cdv A outer s H vs Q E hr h => ⟨_, PSs.nox (pss_one (ps_if (pt_cmpR (op_notInO T.m_Setup_contains.at_ T.m_Setup_contains.fn (ok_Setup_contains T) T.c_Setup_contains (hr.mono (by decide)) passL) (pv 1) (pv 0) (by rfl)) (pss_one ps_never) pss_nil)), ?_⟩)
  · obtain ⟨D, z, P, rfl, _⟩ := h
    rfl
  obtain ⟨D, z, P, rfl, pl, hz, q⟩ := h
  show (_ : TS) _ [some (.ref D.p), some (.str z)] H
  try dsimp only [cxOf]
  repeat walk_at "zi"
  obtain ⟨dx, a, b, hp, _⟩ := pl.ins
  refine ⟨_, _, _, rfl, hp, D, _, _, P, rfl, pl, .str z, ?_⟩
  repeat walk_at "zi"
  refine ite_f (by rw [if_pos rfl]; exact congrArg Bool.not (decide_eq_true hz)) ?_
  repeat walk_at "zi"
  exact q
theorem ok_Setup_getitem (T : Txt K mg) : FnOk P w K mg base (L2.CX P w) 3 (ma K (ga K "Setup") "__getitem__") (fdOf K (ma K (ga K "Setup") "__getitem__")) ["self", "name"] (spGetItem K) := by
  refine FunD.ok T.F_Setup_getitem sc_Setup_getitem (fun vs H Q E h => ?_) (fun cdv A outer s H vs Q E hr h => ⟨_, PSs.nox (pss_cons (ps_expr (z_meth (pv 0) T.cl_Setup T.m_Setup_check_line (ok_Setup_check_line T) T.c_Setup_check_line (hr.mono (by decide)) passL (pa_cons (pv 1) pa_nil)))
      (pss_one (ps_ret (pe_dget (hu_of hr) (kFld K (pe_fld (pv 0) rfl)) (pv 1) (fun _ _ => rfl))))), ?_⟩)
  · obtain ⟨D, z, P, rfl, _⟩ := h
    rfl
  obtain ⟨D, z, P, rfl, pl, hz, q⟩ := h
  show (_ : TS) _ [some (.ref D.p), some (.str z)] H
  try dsimp only [cxOf]
  obtain ⟨dx, a, b, hp, _⟩ := pl.ins
  obtain ⟨kr, hrd, hk, hv⟩ := pl.rows.at_
  obtain ⟨hl, en⟩ := pl.ok.ln_mem hz
  obtain ⟨v, h1, h2⟩ := hv _ hl
  rw [en] at h1
  repeat walk_at "zi"
  refine s_methat hp (by kernel_rfl) ?_
  repeat walk_at "zi"
  refine ⟨D, z, P, rfl, pl, hz, ?_⟩
  repeat walk_at "zi"
  refine s_fldat hp T.cl_Setup T.n_Setup_rows_by_name plF_rn ?_
  repeat walk_at "zi"
  refine s_dgS hrd h1 ?_
  exact q v h2
theorem ok_Setup_order (T : Txt K mg) : FnOk P w K mg base (L2.CX P w) 1 (pga K (ga K "Setup") "order") (fdOf K (pga K (ga K "Setup") "order")) ["self"] (spOrder K) := by
  refine FunD.ok T.F_Setup_order sc_Setup_order (fun vs H Q E h => ?_) (fun cdv A outer s H vs Q E hr h => ⟨_, PSs.nox (pss_cons (zset 1 sc_Setup_order.nd (pe_callB (cr_sortedDatK K hr.units) (by rfl) T.u_sorted (by decide +kernel) (pa_cons (pe_lc (own := [("line", 2)]) rfl sc_Setup_order.nd (kIT K (pi_tup (kFld K (pe_fld (pv 0) rfl)))) (blkOk_by (own := [("line", 2)]) (N := n_Setup_order) (sc := defScope s_Setup_order) (by decide +kernel)) (fun _ _ _ _ _ => (zg 2 sc_Setup_order.nd)) (fun _ _ _ _ _ => pts_nil) (fun _ _ _ _ _ => (pe_tup (pa_cons (pe_op op_sub pe_int (pe_ix (ix_tupK K) (pv 2) pe_int (fun _ _ => rfl))) (pa_cons (pe_ix (ix_tupK K) (pv 2) pe_int (fun _ _ => rfl)) pa_nil))))) pa_nil)))
      (pss_one (ps_ret (pe_callTy (call_tuple_ofK K) (by rfl) T.u_tuple (by decide +kernel) (pa_cons (pe_lc (own := [("rank", 3), ("name", 4)]) rfl sc_Setup_order.nd (kIL K (pi_list (pv 1))) (blkOk_by (own := [("rank", 3), ("name", 4)]) (N := n_Setup_order) (sc := defScope s_Setup_order) (by decide +kernel)) (fun _ _ _ _ _ => (kGT K (pg_tup (n := 2) rfl (pgs_cons (zg 3 sc_Setup_order.nd) (pgs_cons (zg 4 sc_Setup_order.nd) pgs_nil))))) (fun _ _ _ _ _ => pts_nil) (fun _ _ _ _ _ => (pv 4))) pa_nil))))), ?_⟩)
  · obtain ⟨D, P, rfl, _⟩ := h
    rfl
  obtain ⟨D, P, rfl, pl, q⟩ := h
  show (_ : TS) _ [some (.ref D.p), none, none, none, none] H
  try dsimp only [cxOf]
  obtain ⟨dx, a, b, hp, hda, hdb⟩ := pl.ins
  obtain ⟨_, xs, e, hT, hA⟩ := hda.tupI
  cases e
  have l12 := pl.ok.l12
  repeat walk_at "zi"
  refine s_fldat hp T.cl_Setup T.n_Setup_line_rows plF_lr ?_
  refine lcT_d (l := P.ls) (da := dLn) hT hA (fun _ => true) ordD (by omega) (fun _ _ => rfl) (fun l v H5 Yes No hl s5 hd yes no => ?_) (fun nl H1 ns hnl s1 e1 a1 => ?_)
  · obtain ⟨t, zs, rfl, ht, ha⟩ := hd.tupI
    repeat walk_at "zi"
    refine ⟨rfl, ?_⟩
    repeat walk_at "zi"
    cases ha with | cons h1 ha => ?_
    cases ha with | cons h2 ha => ?_
    cases ha with | cons h3 ha => ?_
    cases h1
    cases h3
    refine s_ixT ht (at_of (j := 2) rfl rfl) ?_
    repeat walk_at "zi"
    refine s_ixT ht (at_of (j := 0) rfl rfl) ?_
    repeat walk_at "zi"
    walk_at "zt"
    rename_i p hp H2 s2 e2
    exact yes rfl _ _ s2 (.tup (SqT.of e2) (.cons (.int _) (.cons (.str _) .nil)))
  rw [List.filter_eq_self.mpr (fun _ _ => rfl)] at a1
  repeat walk_at "zi"
  refine ⟨nl, ns, P.ls.map ordD, rfl, SqL.of e1, a1, PySem.W.AllAlike.of (fun _ _ => rfl), PySem.W.Sortable.tuples (fun b => ⟨_, _, rfl⟩), fun d hd => ?_, fun ys p ha hp2 => ?_⟩
  · obtain ⟨l, _, rfl⟩ := List.mem_map.mp hd
    exact of_decide_eq_true rfl
  rw [← List.map_mergeSort (f := ordD) (r := PySem.W.dataLe false ordD) (s := PySem.W.dataLe false id) (fun a _ b _ => rfl)] at ha
  generalize eH : upd H1 p _ = H2
  have s2 := newS hp2 eH
  have e2 := newE eH
  clear eH
  repeat walk_at "zi"
  have hlen : (P.ls.mergeSort (PySem.W.dataLe false ordD)).length = P.ls.length := List.length_mergeSort _
  refine lcL_d (l := P.ls.mergeSort (PySem.W.dataLe false ordD)) (da := ordD) (SqL.of e2) (ha.same s2) (fun _ => true) (fun l => .str l.nm) (by omega) (fun _ _ => rfl) (fun l v H5 Yes No hl s5 hd yes no => ?_) (fun nm H3 ms hnm s3 e3 a3 => ?_)
  · obtain ⟨t, zs, rfl, ht, hz⟩ := hd.tupI
    cases hz with | cons h1 hz => ?_
    cases hz with | cons h2 hz => ?_
    cases hz
    cases h1
    cases h2
    refine s_gtup ht rfl ?_
    repeat walk_at "zi"
    refine ⟨rfl, ?_⟩
    repeat walk_at "zi"
    exact yes rfl _ _ (Same.refl _) (.str _)
  rw [List.filter_eq_self.mpr (fun _ _ => rfl), map_str] at a3
  have e4 := dp_strs a3
  subst e4
  repeat walk_at "zi"
  refine ⟨nm, _, rfl, .inl ⟨SqL.of e3, fun t ht => ?_⟩⟩
  have s13 := (s1.trans s2).trans s3
  refine q _ t (s13.trans (Same.new ht)) ?_ upd_same
  cases e : H t with
  | none => rfl
  | some o => rw [s13 _ _ e] at ht; cases ht
end
end T
set_option maxHeartbeats 1000000
namespace T
open PySem PySem.Spec PyProof.Rows L2 Z
open He (ga ma)
local macro_rules | `(tactic| walk_at "z") => `(tactic| first
  | with_reducible refine s_seq ?_
  | with_reducible refine s_asg ?_
  | with_reducible refine s_gname ?_
  | with_reducible refine s_ret ?_
  | with_reducible refine s_retN ?_
  | with_reducible refine s_ifS ?_
  | with_reducible refine s_drop ?_
  | with_reducible refine s_next ?_
  | with_reducible refine s_cont ?_
  | with_reducible refine s_break ?_
  | with_reducible refine s_par ?_
  | with_reducible refine s_par2 ?_
  | with_reducible refine s_c ?_
  | ((with_reducible refine s_var (v := ?v1) ?h1 ?q1); (case h1 => exact rfl))
  | with_reducible refine s_op ?_
  | with_reducible refine s_un ?_
  | with_reducible refine s_cb ?_
  | with_reducible refine s_cons ?_
  | with_reducible refine s_nil ?_
  | with_reducible refine s_star ?_
  | with_reducible refine s_test ?_
  | with_reducible refine s_B ?_
  | with_reducible refine s_and ?_
  | with_reducible refine s_or ?_
  | with_reducible refine s_not ?_
  | with_reducible refine s_andV ?_
  | with_reducible refine s_orV ?_
  | with_reducible refine s_notV ?_
  | with_reducible refine s_if ?_
  | with_reducible refine s_chain ?_
  | with_reducible refine s_call ?_
  | with_reducible refine s_bl ?_
  | with_reducible refine s_yes ?_
  | with_reducible refine s_gcons ?_
  | with_reducible refine s_gnil ?_
  | with_reducible refine s_din ?_
  | with_reducible refine s_dnin ?_
  | with_reducible refine s_dget ?_
  | with_reducible refine s_bm ?_
  | with_reducible refine s_bm0 ?_
  | with_reducible refine s_fldg ?_
  | with_reducible refine s_meth ?_
  | with_reducible refine s_prop ?_
  | with_reducible refine s_lcT ?_
  | with_reducible refine s_daugg ?_
  | with_reducible refine s_disp ?_
  | with_reducible refine s_pcons ?_
  | with_reducible refine s_pnil ?_
  | with_reducible refine s_gsub ?_
  | with_reducible refine s_augS ?_
  | with_reducible refine s_fldaug ?_
  | with_reducible refine s_add ?_
  | with_reducible refine s_ipI ?_
  | with_reducible refine s_ixO ?_
  | with_reducible refine s_lcL ?_
  | with_reducible refine s_dcT ?_
  | with_reducible refine s_cvalg ?_
  | with_reducible refine s_fldS ?_
  | with_reducible refine s_I0 ?_
  | with_reducible refine s_U ?_
  | ((with_reducible refine s_eq ?h1 ?q1); (case h1 => exact rfl))
  | ((with_reducible refine s_ne ?h1 ?q1); (case h1 => exact rfl))
  | (with_reducible refine s_tup ?_)
  | (with_reducible refine s_lst ?_)
  | ((with_reducible refine s_isi (d := ?d1) ?h1 ?h2 ?q1); (case h1 => first | assumption | constructor); (case h2 => decide))
  | with_reducible refine ⟨_, _, rfl, rfl, ?_⟩
  | with_reducible refine ⟨_, rfl, ?_⟩)
local macro_rules | `(tactic| walk_at "zi") => `(tactic| first
  | walk_at "z"
  | ((with_reducible refine ite_f ?h1 ?q1); (case h1 => rfl))
  | ((with_reducible refine ite_t ?h1 ?q1); (case h1 => rfl)))
local macro_rules | `(tactic| walk_at "zn") => `(tactic| (intro p hp; generalize eH : upd _ p _ = H2; have s2 := newS hp eH; have e2 := newE eH; clear eH))
local macro_rules | `(tactic| walk_at "zt") => `(tactic| (refine ⟨Nat.le_of_ble_eq_true rfl, ?_⟩; intro p hp; generalize eH : upd _ p _ = H2; have s2 := newS hp eH; have e2 := newE eH; clear eH))
/-! ### the board -/
def spPut (K : Fg) : Sp := fun vs H Q _ => ∃ self l b, (∃ z ys, vs = [self, .ref l, .str z, .bl b] ∧ H l = some (.lst (ys.map V.str)) ∧ ys.length ≤ 1000 ∧ Q (.bl (putL ys z b).2) (upd H l (.lst ((putL ys z b).1.map V.str)))) ∨
  ∃ z ys, vs = [self, .ref l, .int z, .bl b] ∧ H l = some (.lst (ys.map V.int)) ∧ ys.length ≤ 1000 ∧ Q (.bl (putL ys z b).2) (upd H l (.lst ((putL ys z b).1.map V.int)))
def spBInit (K : Fg) : Sp := fun vs H Q _ => ∃ b PD dx P, vs = [.ref b, .ref PD.p] ∧ H b = some (.ins (ga K "Board") dx []) ∧ PlanAt K H PD P ∧ ∀ H' D, D.b = b → (∀ a ∈ D.own, a = b ∨ H a = none) → Fr [b] H H' → BoardAt K H' PD.p D ⟨[], [], [], [], [], P.order.map fun z => (z, 0)⟩ → Q .non H'
def spBRing (K : Fg) : Sp := fun vs H Q _ => ∃ PD P D B z, vs = [.ref D.b, .str z] ∧ PlanAt K H PD P ∧ BoardAt K H PD.p D B ∧ B.Ok P ∧ z ∈ P.names ∧ ∀ H', Fr D.own H H' → BoardAt K H' PD.p D (B.ring P z).1 → Q (.bl (B.ring P z).2) H'
def spBUp (K : Fg) : Sp := fun vs H Q _ => ∃ p D B i, vs = [.ref D.b, .int i] ∧ BoardAt K H p D B ∧ Q (.bl (decide (i ∈ B.raised))) H
def spBWait (K : Fg) : Sp := fun vs H Q _ => ∃ p D B z, vs = [.ref D.b, .str z] ∧ BoardAt K H p D B ∧ Q (.bl (B.waiting z)) H
def spBCan (K : Fg) : Sp := fun vs H Q _ => ∃ p D B z, vs = [.ref D.b, .str z] ∧ BoardAt K H p D B ∧ Q (.bl (B.can z)) H
def spBBegun (K : Fg) : Sp := fun vs H Q _ => ∃ p D B z, vs = [.ref D.b, .str z] ∧ BoardAt K H p D B ∧ B.taken.length ≤ 1000 ∧ B.wanted.length ≤ 1000 ∧ ∀ H', Fr D.own H H' → BoardAt K H' p D (B.begun z) → Q .non H'
def spBEnded (K : Fg) : Sp := fun vs H Q _ => ∃ p D B z, vs = [.ref D.b, .str z] ∧ BoardAt K H p D B ∧ z ∈ B.taken ∧ ∀ H', Fr D.own H H' → BoardAt K H' p D (B.ended z) → Q .non H'
def spBCarry (K : Fg) : Sp := fun vs H Q _ => ∃ PD P D B s t, vs = [.ref D.b, .ref t] ∧ Dp K H (.ref t) (dSt s) ∧ PlanAt K H PD P ∧ BoardAt K H PD.p D B ∧ B.Ok P ∧ CarryIs P s ∧ ∀ H', Fr D.own H H' → BoardAt K H' PD.p D (B.carry P s).1 → Q (.bl (B.carry P s).2) H'
section
variable {P : Program} {w : World} {K : Fg} {mg : Str → Option Value} {base : Heap}
theorem ok_Board_put (T : Txt K mg) : FnOk P w K mg base (L2.CX P w) 1 (ma K (ga K "Board") "put") (fdOf K (ma K (ga K "Board") "put")) ["self", "things", "thing", "is_in"] (spPut K) := by
  refine FunD.ok T.F_Board_put sc_Board_put (fun vs H Q E h => ?_) (fun cdv A outer s H vs Q E hr h => ⟨_, PSs.nox (pss_cons (ps_if (pt_cmpR op_eq (pe_cmpR (op_in_seqK K) (pv 2) (pv 1) (by rfl)) (pv 3) (nomark _)) (pss_one (ps_ret pe_bl)) pss_nil)
      (pss_cons (ps_if (pt_val (pv 3)) (pss_one (ps_expr (kBM K (pe_bm PySem.F.plainAttrs_list PySem.F.slot_list_append PySem.F.type_list_append mt_append (pv 1) (pa_cons (pv 2) pa_nil))))) (pss_one (ps_expr (kBM K (pe_bm PySem.F.plainAttrs_list PySem.F.slot_list_remove PySem.F.type_list_remove mt_removeA (pv 1) (pa_cons (pv 2) pa_nil))))))
      (pss_one (ps_ret pe_bl)))), ?_⟩)
  · obtain ⟨self, l, b, ⟨z, ys, rfl, _⟩ | ⟨z, ys, rfl, _⟩⟩ := h <;> rfl
  obtain ⟨self, l, b, ⟨z, ys, rfl, hl, hn, q⟩ | ⟨z, ys, rfl, hl, hn, q⟩⟩ := h
  · show (_ : TS) _ [some self, some (.ref l), some (.str z), some (.bl b)] H
    try dsimp only [cxOf]
    repeat walk_at "zi"
    refine s_in (.inl (SqL.of hl)) rfl flat_strs ?_
    rw [if_neg (by decide), inV_strs]
    repeat walk_at "zi"
    unfold putL at q
    refine ite_b (fun h => ?_) (fun h => ?_)
    · have h' : decide (z ∈ ys) = b := by simpa using h
      rw [if_pos h'] at q
      repeat walk_at "zi"
      rw [upd_id hl] at q
      exact q
    · have h' : ¬ decide (z ∈ ys) = b := by simpa using h
      rw [if_neg h'] at q
      repeat walk_at "zi"
      cases b with
      | true =>
        repeat walk_at "zi"
        refine s_tyL hl ?_
        repeat walk_at "zi"
        refine s_append hl (by rw [List.length_map, sizeLine_eq]; omega) ?_
        repeat walk_at "zi"
        rw [if_pos rfl, List.map_append] at q
        exact q
      | false =>
        repeat walk_at "zi"
        refine s_tyL hl ?_
        repeat walk_at "zi"
        refine s_remS hl (by simpa using h') ?_
        repeat walk_at "zi"
        rw [if_neg (by decide)] at q
        exact q
  · show (_ : TS) _ [some self, some (.ref l), some (.int z), some (.bl b)] H
    try dsimp only [cxOf]
    repeat walk_at "zi"
    refine s_in (.inl (SqL.of hl)) rfl flat_ints ?_
    rw [if_neg (by decide), inV_int]
    repeat walk_at "zi"
    unfold putL at q
    refine ite_b (fun h => ?_) (fun h => ?_)
    · have h' : decide (z ∈ ys) = b := by simpa using h
      rw [if_pos h'] at q
      repeat walk_at "zi"
      rw [upd_id hl] at q
      exact q
    · have h' : ¬ decide (z ∈ ys) = b := by simpa using h
      rw [if_neg h'] at q
      repeat walk_at "zi"
      cases b with
      | true =>
        repeat walk_at "zi"
        refine s_tyL hl ?_
        repeat walk_at "zi"
        refine s_append hl (by rw [List.length_map, sizeLine_eq]; omega) ?_
        repeat walk_at "zi"
        rw [if_pos rfl, List.map_append] at q
        exact q
      | false =>
        repeat walk_at "zi"
        refine s_tyL hl ?_
        repeat walk_at "zi"
        refine s_remI hl (by simpa using h') ?_
        repeat walk_at "zi"
        rw [if_neg (by decide)] at q
        exact q
theorem ok_Board_is_up (T : Txt K mg) : FnOk P w K mg base (L2.CX P w) 1 (ma K (ga K "Board") "is_up") (fdOf K (ma K (ga K "Board") "is_up")) ["self", "flag"] (spBUp K) := by
  refine FunD.ok T.F_Board_is_up sc_Board_is_up (fun vs H Q E h => ?_) (fun cdv A outer s H vs Q E hr h => ⟨_, PSs.nox (pss_one (ps_ret (pe_cmpR (op_in_seqK K) (pv 1) (kFld K (pe_fld (pv 0) rfl)) (by rfl)))), ?_⟩)
  · obtain ⟨p, D, B, i, rfl, _⟩ := h
    rfl
  obtain ⟨p, D, B, i, rfl, bd, q⟩ := h
  show (_ : TS) _ [some (.ref D.b), some (.int i)] H
  try dsimp only [cxOf]
  obtain ⟨dx, hb⟩ := bd.ins
  repeat walk_at "zi"
  refine s_fldat hb T.cl_Board T.n_Board_raised bdF_ra ?_
  refine s_in (.inl (SqL.of bd.ra)) rfl flat_ints ?_
  rw [if_neg (by decide), inV_int]
  exact q
theorem ok_Board_is_waiting (T : Txt K mg) : FnOk P w K mg base (L2.CX P w) 1 (ma K (ga K "Board") "is_waiting") (fdOf K (ma K (ga K "Board") "is_waiting")) ["self", "line"] (spBWait K) := by
  refine FunD.ok T.F_Board_is_waiting sc_Board_is_waiting (fun vs H Q E h => ?_) (fun cdv A outer s H vs Q E hr h => ⟨_, PSs.nox (pss_one (ps_ret (pe_or (pe_cmpR (op_in_seqK K) (pv 1) (kFld K (pe_fld (pv 0) rfl)) (by rfl)) (pe_one (pe_and (pe_cmpR (op_in_seqK K) (pv 1) (kFld K (pe_fld (pv 0) rfl)) (by rfl)) (pe_one (pe_cmpR (op_notIn_seqK K) (pv 1) (kFld K (pe_fld (pv 0) rfl)) (by rfl)))))))), ?_⟩)
  · obtain ⟨p, D, B, i, rfl, _⟩ := h
    rfl
  obtain ⟨p, D, B, z, rfl, bd, q⟩ := h
  show (_ : TS) _ [some (.ref D.b), some (.str z)] H
  try dsimp only [cxOf]
  obtain ⟨dx, hb⟩ := bd.ins
  unfold Bd.waiting at q
  repeat walk_at "zi"
  refine s_fldat hb T.cl_Board T.n_Board_wanted bdF_wa ?_
  refine s_in (.inl (SqL.of bd.wa)) rfl flat_strs ?_
  rw [if_neg (by decide), inV_strs]
  repeat walk_at "zi"
  refine ite_b (fun h => ?_) (fun h => ?_)
  · rw [h, Bool.true_or] at q
    exact q
  rw [h, Bool.false_or] at q
  repeat walk_at "zi"
  refine s_fldat hb T.cl_Board T.n_Board_high bdF_hi ?_
  refine s_in (.inl (SqL.of bd.hi)) rfl flat_strs ?_
  rw [if_neg (by decide), inV_strs]
  repeat walk_at "zi"
  refine ite_b (fun h2 => ?_) (fun h2 => ?_)
  · rw [h2, Bool.true_and] at q
    repeat walk_at "zi"
    refine s_fldat hb T.cl_Board T.n_Board_taken bdF_ta ?_
    refine s_in (.inl (SqL.of bd.ta)) rfl flat_strs ?_
    rw [if_pos rfl, inV_strs]
    exact q
  · rw [h2, Bool.false_and] at q
    exact q
theorem ok_Board_can_begin (T : Txt K mg) : FnOk P w K mg base (L2.CX P w) 2 (ma K (ga K "Board") "can_begin") (fdOf K (ma K (ga K "Board") "can_begin")) ["self", "line"] (spBCan K) := by
  refine FunD.ok T.F_Board_can_begin sc_Board_can_begin (fun vs H Q E h => ?_) (fun cdv A outer s H vs Q E hr h => ⟨_, PSs.nox (pss_one (ps_ret (pe_and (z_meth (pv 0) T.cl_Board T.m_Board_is_waiting (ok_Board_is_waiting T) T.c_Board_is_waiting (hr.mono (by decide)) passL (pa_cons (pv 1) pa_nil)) (pe_and (pe_cmpR (op_notIn_seqK K) (pv 1) (kFld K (pe_fld (pv 0) rfl)) (by rfl)) (pe_one (pe_cmpR (op_notIn_seqK K) (pv 1) (kFld K (pe_fld (pv 0) rfl)) (by rfl))))))), ?_⟩)
  · obtain ⟨p, D, B, i, rfl, _⟩ := h
    rfl
  obtain ⟨p, D, B, z, rfl, bd, q⟩ := h
  show (_ : TS) _ [some (.ref D.b), some (.str z)] H
  try dsimp only [cxOf]
  obtain ⟨dx, hb⟩ := bd.ins
  unfold Bd.can at q
  repeat walk_at "zi"
  refine s_methat hb (by kernel_rfl) ?_
  repeat walk_at "zi"
  refine ⟨p, D, B, z, rfl, bd, ?_⟩
  repeat walk_at "zi"
  refine ite_b (fun h => ?_) (fun h => ?_)
  · rw [h, Bool.true_and] at q
    repeat walk_at "zi"
    refine s_fldat hb T.cl_Board T.n_Board_shut bdF_sh ?_
    refine s_in (.inl (SqL.of bd.sh)) rfl flat_strs ?_
    rw [if_pos rfl, inV_strs]
    repeat walk_at "zi"
    refine ite_b (fun h2 => ?_) (fun h2 => ?_)
    · rw [h2, Bool.true_and] at q
      repeat walk_at "zi"
      refine s_fldat hb T.cl_Board T.n_Board_taken bdF_ta ?_
      refine s_in (.inl (SqL.of bd.ta)) rfl flat_strs ?_
      rw [if_pos rfl, inV_strs]
      exact q
    · rw [h2, Bool.false_and] at q
      exact q
  · rw [h, Bool.false_and] at q
    exact q
theorem ok_Board_begun (T : Txt K mg) : FnOk P w K mg base (L2.CX P w) 2 (ma K (ga K "Board") "begun") (fdOf K (ma K (ga K "Board") "begun")) ["self", "line"] (spBBegun K) := by
  refine FunD.ok T.F_Board_begun sc_Board_begun (fun vs H Q E h => ?_) (fun cdv A outer s H vs Q E hr h => ⟨_, PSs.nox (pss_cons (ps_expr (kBM K (pe_bm PySem.F.plainAttrs_list PySem.F.slot_list_append PySem.F.type_list_append mt_append (kFld K (pe_fld (pv 0) rfl)) (pa_cons (pv 1) pa_nil))))
      (pss_one (ps_expr (z_meth (pv 0) T.cl_Board T.m_Board_put (ok_Board_put T) T.c_Board_put (hr.mono (by decide)) passL (pa_cons (kFld K (pe_fld (pv 0) rfl)) (pa_cons (pv 1) (pa_cons pe_bl pa_nil))))))), ?_⟩)
  · obtain ⟨p, D, B, i, rfl, _⟩ := h
    rfl
  obtain ⟨p, D, B, z, rfl, bd, l1, l2, q⟩ := h
  show (_ : TS) _ [some (.ref D.b), some (.str z)] H
  try dsimp only [cxOf]
  obtain ⟨dx, hb⟩ := bd.ins
  repeat walk_at "zi"
  refine s_fldat hb T.cl_Board T.n_Board_taken bdF_ta ?_
  refine s_tyL bd.ta ?_
  repeat walk_at "zi"
  refine s_append bd.ta (by rw [List.length_map, sizeLine_eq]; omega) ?_
  have b2 := bd.setTa (B.taken ++ [z])
  rw [List.map_append] at b2
  have f2 : Fr D.own H (upd H D.ta (.lst (B.taken.map V.str ++ [V.str z]))) := Fr.upd (by simp [BA.own]) bd.ta rfl
  obtain ⟨dx2, hb2⟩ := b2.ins
  repeat walk_at "zi"
  refine s_methat hb2 (by kernel_rfl) ?_
  repeat walk_at "zi"
  refine s_fldat hb2 T.cl_Board T.n_Board_wanted bdF_wa ?_
  repeat walk_at "zi"
  refine ⟨_, _, false, .inl ⟨z, B.wanted, rfl, b2.wa, l2, ?_⟩⟩
  repeat walk_at "zi"
  exact q _ (f2.trans (Fr.upd (by simp [BA.own]) b2.wa rfl)) (b2.setWa _)
theorem ok_Board_ended (T : Txt K mg) : FnOk P w K mg base (L2.CX P w) 1 (ma K (ga K "Board") "ended") (fdOf K (ma K (ga K "Board") "ended")) ["self", "line"] (spBEnded K) := by
  refine FunD.ok T.F_Board_ended sc_Board_ended (fun vs H Q E h => ?_) (fun cdv A outer s H vs Q E hr h => ⟨_, PSs.nox (pss_one (ps_expr (kBM K (pe_bm PySem.F.plainAttrs_list PySem.F.slot_list_remove PySem.F.type_list_remove mt_removeA (kFld K (pe_fld (pv 0) rfl)) (pa_cons (pv 1) pa_nil))))), ?_⟩)
  · obtain ⟨p, D, B, i, rfl, _⟩ := h
    rfl
  obtain ⟨p, D, B, z, rfl, bd, hz, q⟩ := h
  show (_ : TS) _ [some (.ref D.b), some (.str z)] H
  try dsimp only [cxOf]
  obtain ⟨dx, hb⟩ := bd.ins
  repeat walk_at "zi"
  refine s_fldat hb T.cl_Board T.n_Board_taken bdF_ta ?_
  refine s_tyL bd.ta ?_
  repeat walk_at "zi"
  refine s_remS bd.ta hz ?_
  exact q _ (Fr.upd (by simp [BA.own]) bd.ta rfl) (bd.setTa _)
end
end T
set_option maxHeartbeats 1000000
namespace T
open PySem PySem.Spec PyProof.Rows L2 Z
open He (ga ma)
local macro_rules | `(tactic| walk_at "z") => `(tactic| first
  | with_reducible refine s_seq ?_
  | with_reducible refine s_asg ?_
  | with_reducible refine s_gname ?_
  | with_reducible refine s_ret ?_
  | with_reducible refine s_retN ?_
  | with_reducible refine s_ifS ?_
  | with_reducible refine s_drop ?_
  | with_reducible refine s_next ?_
  | with_reducible refine s_cont ?_
  | with_reducible refine s_break ?_
  | with_reducible refine s_par ?_
  | with_reducible refine s_par2 ?_
  | with_reducible refine s_c ?_
  | ((with_reducible refine s_var (v := ?v1) ?h1 ?q1); (case h1 => exact rfl))
  | with_reducible refine s_op ?_
  | with_reducible refine s_un ?_
  | with_reducible refine s_cb ?_
  | with_reducible refine s_cons ?_
  | with_reducible refine s_nil ?_
  | with_reducible refine s_star ?_
  | with_reducible refine s_test ?_
  | with_reducible refine s_B ?_
  | with_reducible refine s_and ?_
  | with_reducible refine s_or ?_
  | with_reducible refine s_not ?_
  | with_reducible refine s_andV ?_
  | with_reducible refine s_orV ?_
  | with_reducible refine s_notV ?_
  | with_reducible refine s_if ?_
  | with_reducible refine s_chain ?_
  | with_reducible refine s_call ?_
  | with_reducible refine s_bl ?_
  | with_reducible refine s_yes ?_
  | with_reducible refine s_gcons ?_
  | with_reducible refine s_gnil ?_
  | with_reducible refine s_din ?_
  | with_reducible refine s_dnin ?_
  | with_reducible refine s_dget ?_
  | with_reducible refine s_bm ?_
  | with_reducible refine s_bm0 ?_
  | with_reducible refine s_fldg ?_
  | with_reducible refine s_meth ?_
  | with_reducible refine s_prop ?_
  | with_reducible refine s_lcT ?_
  | with_reducible refine s_daugg ?_
  | with_reducible refine s_disp ?_
  | with_reducible refine s_pcons ?_
  | with_reducible refine s_pnil ?_
  | with_reducible refine s_gsub ?_
  | with_reducible refine s_augS ?_
  | with_reducible refine s_fldaug ?_
  | with_reducible refine s_add ?_
  | with_reducible refine s_ipI ?_
  | with_reducible refine s_ixO ?_
  | with_reducible refine s_lcL ?_
  | with_reducible refine s_dcT ?_
  | with_reducible refine s_cvalg ?_
  | with_reducible refine s_fldS ?_
  | with_reducible refine s_I0 ?_
  | with_reducible refine s_U ?_
  | ((with_reducible refine s_eq ?h1 ?q1); (case h1 => exact rfl))
  | ((with_reducible refine s_ne ?h1 ?q1); (case h1 => exact rfl))
  | (with_reducible refine s_tup ?_)
  | (with_reducible refine s_lst ?_)
  | ((with_reducible refine s_isi (d := ?d1) ?h1 ?h2 ?q1); (case h1 => first | assumption | constructor); (case h2 => decide))
  | with_reducible refine ⟨_, _, rfl, rfl, ?_⟩
  | with_reducible refine ⟨_, rfl, ?_⟩)
local macro_rules | `(tactic| walk_at "zi") => `(tactic| first
  | walk_at "z"
  | ((with_reducible refine ite_f ?h1 ?q1); (case h1 => rfl))
  | ((with_reducible refine ite_t ?h1 ?q1); (case h1 => rfl)))
local macro_rules | `(tactic| walk_at "zn") => `(tactic| (intro p hp; generalize eH : upd _ p _ = H2; have s2 := newS hp eH; have e2 := newE eH; clear eH))
local macro_rules | `(tactic| walk_at "zt") => `(tactic| (refine ⟨Nat.le_of_ble_eq_true rfl, ?_⟩; intro p hp; generalize eH : upd _ p _ = H2; have s2 := newS hp eH; have e2 := newE eH; clear eH))
section
variable {P : Program} {w : World} {K : Fg} {mg : Str → Option Value} {base : Heap}
theorem ok_Board_ring (T : Txt K mg) : FnOk P w K mg base (L2.CX P w) 5 (ma K (ga K "Board") "ring") (fdOf K (ma K (ga K "Board") "ring")) ["self", "line"] (spBRing K) := by
  refine FunD.ok T.F_Board_ring sc_Board_ring (fun vs H Q E h => ?_) (fun cdv A outer s H vs Q E hr h => ⟨_, PSs.nox (pss_cons (zset 2 sc_Board_ring.nd (pe_ifExp (pt_cmpR op_eq (pe_ix (ix_tupK K) (z_ixO (kFld K (pe_fld (pv 0) rfl)) (pv 1) T.m_Setup_getitem.at_ T.sub_Setup T.m_Setup_getitem.fn (ok_Setup_getitem T) T.c_Setup_getitem (hr.mono (by decide)) passL) pe_int (fun _ _ => rfl)) (z_str T.i_EDGE) (nomark _)) (kFld K (pe_fld (pv 0) rfl)) (kFld K (pe_fld (pv 0) rfl))))
      (pss_cons (ps_if (pt_cmpR (op_in_seqK K) (pv 1) (pv 2) (by rfl)) (pss_cons (ps_daug (hu_of hr) (kFld K (pe_fld (pv 0) rfl)) (pv 1) pe_int in_add (fun _ _ _ => rfl))
      (pss_one (ps_ret pe_bl))) pss_nil)
      (pss_cons (ps_expr (kBM K (pe_bm PySem.F.plainAttrs_list PySem.F.slot_list_append PySem.F.type_list_append mt_append (pv 2) (pa_cons (pv 1) pa_nil))))
      (pss_one (ps_ret pe_bl))))), ?_⟩)
  · obtain ⟨PD, P, D, B, z, rfl, _⟩ := h
    rfl
  obtain ⟨PD, P, D, B, z, rfl, pl, bd, ok, hz, q⟩ := h
  show (_ : TS) _ [some (.ref D.b), some (.str z), none] H
  try dsimp only [cxOf]
  obtain ⟨dx, hb⟩ := bd.ins
  obtain ⟨pdx, pa, pb, hp, _⟩ := pl.ins
  have hzo : z ∈ B.joined.map (·.1) := by rw [ok.jk]; exact P.order_perm.mem_iff.mpr hz
  have hjn : (B.joined.map (·.1)).Nodup := by rw [ok.jk]; exact P.order_perm.nodup_iff.mpr pl.ok.lnd
  obtain ⟨cnt, hcnt⟩ := joinK_val hzo
  have hjl : (joinK B.joined).length ≤ 1000 := by
    have h1 : (B.joined.map (·.1)).length ≤ 12 := by rw [ok.jk, P.order_perm.length_eq]; exact pl.ok.len
    rw [List.length_map] at h1
    show (B.joined.map _).length ≤ _
    rw [List.length_map]
    omega
  repeat walk_at "zi"
  refine s_fldat hb T.cl_Board T.n_Board_plan bdF_plan ?_
  repeat walk_at "zi"
  refine ⟨_, _, _, rfl, hp, PD, z, P, rfl, pl, hz, fun v hv => ?_⟩
  obtain ⟨c, zs, rfl, hTc, hAc⟩ := hv.tupI
  cases hAc with | cons h1 hAc => ?_
  cases hAc with | cons h2 hAc => ?_
  cases h2
  repeat walk_at "zi"
  refine s_ixT hTc (at_of (j := 1) rfl rfl) ?_
  repeat walk_at "zi"
  unfold Bd.ring at q
  have l1 := ok.wa.len12 pl.ok
  have l2 := ok.hi.len12 pl.ok
  refine ite_b (fun hk => ?_) (fun hk => ?_)
  · have hk' : (P.ln z).kd = "edge" := by simpa using hk
    simp only [if_pos hk'] at q
    repeat walk_at "zi"
    refine s_fldat hb T.cl_Board T.n_Board_wanted bdF_wa ?_
    repeat walk_at "zi"
    refine s_in (.inl (SqL.of bd.wa)) rfl flat_strs ?_
    rw [if_neg (by decide), inV_strs]
    repeat walk_at "zi"
    refine ite_b (fun h => ?_) (fun h => ?_)
    · simp only [if_pos (of_decide_eq_true h)] at q
      repeat walk_at "zi"
      refine s_fldat hb T.cl_Board T.n_Board_joined bdF_jo ?_
      repeat walk_at "zi"
      refine s_dgS2 bd.jo hcnt ?_
      repeat walk_at "zi"
      refine s_dputS bd.jo (by rw [sizeLine_eq]; omega) ?_
      rw [joinK_put hjn hcnt]
      repeat walk_at "zi"
      exact q _ (Fr.upd (by simp [BA.own]) bd.jo rfl) (bd.setJo _)
    · simp only [if_neg (of_decide_eq_false h)] at q
      repeat walk_at "zi"
      refine s_tyL bd.wa ?_
      repeat walk_at "zi"
      refine s_append bd.wa (by rw [List.length_map, sizeLine_eq]; omega) ?_
      have b2 := bd.setWa (B.wanted ++ [z])
      rw [List.map_append] at b2
      repeat walk_at "zi"
      exact q _ (Fr.upd (by simp [BA.own]) bd.wa rfl) b2
  · have hk' : ¬ (P.ln z).kd = "edge" := by simpa using hk
    simp only [if_neg hk'] at q
    repeat walk_at "zi"
    refine s_fldat hb T.cl_Board T.n_Board_high bdF_hi ?_
    repeat walk_at "zi"
    refine s_in (.inl (SqL.of bd.hi)) rfl flat_strs ?_
    rw [if_neg (by decide), inV_strs]
    repeat walk_at "zi"
    refine ite_b (fun h => ?_) (fun h => ?_)
    · simp only [if_pos (of_decide_eq_true h)] at q
      repeat walk_at "zi"
      refine s_fldat hb T.cl_Board T.n_Board_joined bdF_jo ?_
      repeat walk_at "zi"
      refine s_dgS2 bd.jo hcnt ?_
      repeat walk_at "zi"
      refine s_dputS bd.jo (by rw [sizeLine_eq]; omega) ?_
      rw [joinK_put hjn hcnt]
      repeat walk_at "zi"
      exact q _ (Fr.upd (by simp [BA.own]) bd.jo rfl) (bd.setJo _)
    · simp only [if_neg (of_decide_eq_false h)] at q
      repeat walk_at "zi"
      refine s_tyL bd.hi ?_
      repeat walk_at "zi"
      refine s_append bd.hi (by rw [List.length_map, sizeLine_eq]; omega) ?_
      have b2 := bd.setHi (B.high ++ [z])
      rw [List.map_append] at b2
      repeat walk_at "zi"
      exact q _ (Fr.upd (by simp [BA.own]) bd.hi rfl) b2
theorem ok_Board_carry (T : Txt K mg) : FnOk P w K mg base (L2.CX P w) 6 (ma K (ga K "Board") "carry") (fdOf K (ma K (ga K "Board") "carry")) ["self", "step"] (spBCarry K) := by
  refine FunD.ok T.F_Board_carry sc_Board_carry (fun vs H Q E h => ?_) (fun cdv A outer s H vs Q E hr h => ⟨_, PSs.nox (pss_cons (ps_asg (pv 1) (kGT K (pg_tup (n := 2) rfl (pgs_cons (zg 2 sc_Board_carry.nd) (pgs_cons (zg 3 sc_Board_carry.nd) pgs_nil)))))
      (pss_cons (ps_if (pt_cmpR op_eq (pv 2) pe_str (nomark _)) (pss_one (ps_ret (z_meth (pv 0) T.cl_Board T.m_Board_ring (ok_Board_ring T) T.c_Board_ring (hr.mono (by decide)) passL (pa_cons (pv 3) pa_nil)))) pss_nil)
      (pss_cons (zset 4 sc_Board_carry.nd (pe_disp (pps_cons pe_str (kFld K (pe_fld (pv 0) rfl)) (pps_cons pe_str (kFld K (pe_fld (pv 0) rfl)) (pps_cons pe_str (kFld K (pe_fld (pv 0) rfl)) (pps_cons pe_str (kFld K (pe_fld (pv 0) rfl)) (pps_cons pe_str (kFld K (pe_fld (pv 0) rfl)) pps_nil))))) (by rfl) (by rfl) (fun z => by cases z) (by decide)))
      (pss_one (ps_ret (z_meth (pv 0) T.cl_Board T.m_Board_put (ok_Board_put T) T.c_Board_put (hr.mono (by decide)) passL (pa_cons (pe_dget (hu_of hr) (pv 4) (pv 2) (fun _ _ => rfl)) (pa_cons (pv 3) (pa_cons (pe_cmpR (op_in_seqK K) (pv 2) (pe_tup (pa_cons pe_str (pa_cons pe_str pa_nil))) (by rfl)) pa_nil))))))))), ?_⟩)
  · obtain ⟨PD, P, D, B, s, t, rfl, _⟩ := h
    rfl
  obtain ⟨PD, P, D, B, ⟨wd, k⟩, t, rfl, ht, pl, bd, ok, hs, q⟩ := h
  show (_ : TS) _ [some (.ref D.b), some (.ref t), none, none, none] H
  try dsimp only [cxOf]
  obtain ⟨dx, hb⟩ := bd.ins
  obtain ⟨_, zs, e, hT, hA⟩ := ht.tupI
  cases e
  cases hA with | cons h1 hA => ?_
  cases hA with | cons h2 hA => ?_
  cases hA
  cases h1
  repeat walk_at "zi"
  refine s_gtup hT rfl ?_
  repeat walk_at "zi"
  refine ite_b (fun h => ?_) (fun h => ?_)
  · have hw : wd = "ring" := by simpa using h
    subst hw
    rcases hs with ⟨_, z, e, hz⟩ | ⟨hw, _⟩
    · simp only at e
      subst e
      cases h2
      repeat walk_at "zi"
      refine s_methat hb (by kernel_rfl) ?_
      repeat walk_at "zi"
      exact ⟨PD, P, D, B, z, rfl, pl, bd, ok, hz, q⟩
    · exact absurd (show ("ring" : Str) ∈ (["set", "clear"] : List Str) from hw) (by decide)
  have hw : wd ≠ "ring" := by simpa using h
  repeat walk_at "zi"
  intro c hc
  generalize eH : upd H c _ = H1
  have s1 := newS hc eH
  have e1 := newE eH
  clear eH
  have bd1 := bd.same s1
  obtain ⟨dx1, hb1⟩ := bd1.ins
  repeat walk_at "zi"
  refine s_fldat hb1 T.cl_Board T.n_Board_high bdF_hi ?_
  repeat walk_at "zi"
  refine s_fldat hb1 T.cl_Board T.n_Board_shut bdF_sh ?_
  repeat walk_at "zi"
  refine s_fldat hb1 T.cl_Board T.n_Board_shut bdF_sh ?_
  repeat walk_at "zi"
  refine s_fldat hb1 T.cl_Board T.n_Board_raised bdF_ra ?_
  repeat walk_at "zi"
  refine s_fldat hb1 T.cl_Board T.n_Board_raised bdF_ra ?_
  repeat walk_at "zi"
  refine ⟨e1, [(.inr "quiet", .ref D.hi), (.inr "mask", .ref D.sh), (.inr "unmask", .ref D.sh), (.inr "set", .ref D.ra), (.inr "clear", .ref D.ra)], rfl, of_decide_eq_true rfl, ?_⟩
  have em : mergeK [] [((.inr "quiet" : Key), V.ref D.hi), (.inr "mask", .ref D.sh), (.inr "unmask", .ref D.sh), (.inr "set", .ref D.ra), (.inr "clear", .ref D.ra)] = [(.inr "quiet", .ref D.hi), (.inr "mask", .ref D.sh), (.inr "unmask", .ref D.sh), (.inr "set", .ref D.ra), (.inr "clear", .ref D.ra)] := by kernel_rfl
  rw [em]
  generalize eH : upd H1 c _ = H2
  have s2 : Same H H2 := fun a o h => by
    rw [← eH, upd_ne (ne_of_none h hc)]
    exact s1 _ _ h
  have e2 := newE eH
  clear eH
  have bd2 := bd.same s2
  obtain ⟨dx2, hb2⟩ := bd2.ins
  have l1 := ok.sh.len12 pl.ok
  have l2 := ok.hi.len12 pl.ok
  have l3 := ok.ra.len8
  repeat walk_at "zi"
  refine s_methat hb2 (by kernel_rfl) ?_
  repeat walk_at "zi"
  have fin : ∀ {H3 : Hp} {l : Addr} {o : HO} {B' : Bd} {r : Bool}, Same H H3 → l ∈ D.own → (∃ u, H3 l = some u ∧ tupO u = false) → BoardAt K (upd H3 l o) PD.p D B' → B.carry P (wd, k) = (B', r) → Q (.bl r) (upd H3 l o) := fun {H3 l o B' r} s3 hm ⟨u, hu, ht⟩ b e => by
    have := q (upd H3 l o) (s3.fr.trans (Fr.upd hm hu ht)) (by rw [e]; exact b)
    rw [e] at this
    exact this
  rcases hs with ⟨hm, z, e, hz⟩ | ⟨hm, i, e, h0, h7⟩
  · simp only at e hm
    subst e
    cases h2
    simp only [List.mem_cons, List.not_mem_nil, or_false] at hm
    rcases hm with rfl | rfl | rfl | rfl
    · exact absurd rfl hw
    · refine s_dgS e2 (v := .ref D.hi) (by kernel_rfl) ?_
      repeat walk_at "zi"
      walk_at "zt"
      rename_i p hp H3 s3 e3
      refine s_in (.inr (SqT.of e3)) rfl rfl ?_
      repeat walk_at "zi"
      have bd3 := bd2.same s3
      refine ⟨_, _, false, .inl ⟨_, B.high, rfl, bd3.hi, by omega, ?_⟩⟩
      exact fin (s2.trans s3) (by simp [BA.own]) ⟨_, bd3.hi, rfl⟩ (bd3.setHi _) (by kernel_rfl)
    · refine s_dgS e2 (v := .ref D.sh) (by kernel_rfl) ?_
      repeat walk_at "zi"
      walk_at "zt"
      rename_i p hp H3 s3 e3
      refine s_in (.inr (SqT.of e3)) rfl rfl ?_
      repeat walk_at "zi"
      have bd3 := bd2.same s3
      refine ⟨_, _, true, .inl ⟨_, B.shut, rfl, bd3.sh, by omega, ?_⟩⟩
      exact fin (s2.trans s3) (by simp [BA.own]) ⟨_, bd3.sh, rfl⟩ (bd3.setSh _) (by kernel_rfl)
    · refine s_dgS e2 (v := .ref D.sh) (by kernel_rfl) ?_
      repeat walk_at "zi"
      walk_at "zt"
      rename_i p hp H3 s3 e3
      refine s_in (.inr (SqT.of e3)) rfl rfl ?_
      repeat walk_at "zi"
      have bd3 := bd2.same s3
      refine ⟨_, _, false, .inl ⟨_, B.shut, rfl, bd3.sh, by omega, ?_⟩⟩
      exact fin (s2.trans s3) (by simp [BA.own]) ⟨_, bd3.sh, rfl⟩ (bd3.setSh _) (by kernel_rfl)
  · simp only at e hm
    subst e
    cases h2
    simp only [List.mem_cons, List.not_mem_nil, or_false] at hm
    rcases hm with rfl | rfl
    · refine s_dgS e2 (v := .ref D.ra) (by kernel_rfl) ?_
      repeat walk_at "zi"
      walk_at "zt"
      rename_i p hp H3 s3 e3
      refine s_in (.inr (SqT.of e3)) rfl rfl ?_
      repeat walk_at "zi"
      have bd3 := bd2.same s3
      refine ⟨_, _, true, .inr ⟨_, B.raised, rfl, bd3.ra, by omega, ?_⟩⟩
      exact fin (s2.trans s3) (by simp [BA.own]) ⟨_, bd3.ra, rfl⟩ (bd3.setRa _) (by kernel_rfl)
    · refine s_dgS e2 (v := .ref D.ra) (by kernel_rfl) ?_
      repeat walk_at "zi"
      walk_at "zt"
      rename_i p hp H3 s3 e3
      refine s_in (.inr (SqT.of e3)) rfl rfl ?_
      repeat walk_at "zi"
      have bd3 := bd2.same s3
      refine ⟨_, _, false, .inr ⟨_, B.raised, rfl, bd3.ra, by omega, ?_⟩⟩
      exact fin (s2.trans s3) (by simp [BA.own]) ⟨_, bd3.ra, rfl⟩ (bd3.setRa _) (by kernel_rfl)
theorem ok_Board_init (T : Txt K mg) : FnOk P w K mg base (L2.CX P w) 3 (ma K (ga K "Board") "__init__") (fdOf K (ma K (ga K "Board") "__init__")) ["self", "plan"] (spBInit K) := by
  refine FunD.ok T.F_Board_init sc_Board_init (fun vs H Q E h => ?_) (fun cdv A outer s H vs Q E hr h => ⟨_, PSs.nox (pss_cons (ps_fld (pv 0) (pv 1) rfl)
      (pss_cons (ps_fld (pv 0) (pe_lst pa_nil) rfl)
      (pss_cons (ps_fld (pv 0) (pe_lst pa_nil) rfl)
      (pss_cons (ps_fld (pv 0) (pe_lst pa_nil) rfl)
      (pss_cons (ps_fld (pv 0) (pe_lst pa_nil) rfl)
      (pss_cons (ps_fld (pv 0) (pe_lst pa_nil) rfl)
      (pss_one (ps_fld (pv 0) (pe_dc (own := [("name", 2)]) rfl sc_Board_init.nd (kIT K (pi_tup (z_prop (pv 1) T.cl_Setup T.p_Setup_order (ok_Setup_order T) T.c_Setup_order (hr.mono (by decide)) rfl))) (blkOk_by (own := [("name", 2)]) (N := n_Board_init) (sc := defScope s_Board_init) (by decide +kernel)) (fun _ _ _ _ _ => (zg 2 sc_Board_init.nd)) (fun _ _ _ _ _ => pts_nil) (fun _ _ _ _ _ => (pv 2)) (fun _ _ _ _ _ => pe_int)) rfl)))))))), ?_⟩)
  · obtain ⟨b, PD, dx, P, rfl, _⟩ := h
    rfl
  obtain ⟨b, PD, dx, P, rfl, hb, pl, q⟩ := h
  show (_ : TS) _ [some (.ref b), some (.ref PD.p), none] H
  try dsimp only [cxOf]
  repeat walk_at "zi"
  refine s_fldput hb T.cl_Board T.n_Board_plan (of_decide_eq_true (by kernel_rfl)) ?_
  generalize eH : upd H b _ = H0
  have f0 : Fr [b] H H0 := by rw [← eH]; exact Fr.upd (by simp) hb rfl
  have b0 : H0 b = some (.ins (ga K "Board") dx [("plan", .ref PD.p)]) := by rw [← eH, upd_same]; rfl
  clear eH
  repeat walk_at "zi"
  refine ⟨Nat.le_of_ble_eq_true rfl, fun p1 hp1 => ?_⟩
  repeat walk_at "zi"
  refine s_fldnew hp1 b0 T.cl_Board T.n_Board_shut (of_decide_eq_true (by kernel_rfl)) fun H1 n1 f1 b1 e1 => ?_
  repeat walk_at "zi"
  refine ⟨Nat.le_of_ble_eq_true rfl, fun p2 hp2 => ?_⟩
  repeat walk_at "zi"
  refine s_fldnew hp2 b1 T.cl_Board T.n_Board_wanted (of_decide_eq_true (by kernel_rfl)) fun H2 n2 f2 b2 e2 => ?_
  repeat walk_at "zi"
  refine ⟨Nat.le_of_ble_eq_true rfl, fun p3 hp3 => ?_⟩
  repeat walk_at "zi"
  refine s_fldnew hp3 b2 T.cl_Board T.n_Board_high (of_decide_eq_true (by kernel_rfl)) fun H3 n3 f3 b3 e3 => ?_
  repeat walk_at "zi"
  refine ⟨Nat.le_of_ble_eq_true rfl, fun p4 hp4 => ?_⟩
  repeat walk_at "zi"
  refine s_fldnew hp4 b3 T.cl_Board T.n_Board_taken (of_decide_eq_true (by kernel_rfl)) fun H4 n4 f4 b4 e4 => ?_
  repeat walk_at "zi"
  refine ⟨Nat.le_of_ble_eq_true rfl, fun p5 hp5 => ?_⟩
  repeat walk_at "zi"
  refine s_fldnew hp5 b4 T.cl_Board T.n_Board_raised (of_decide_eq_true (by kernel_rfl)) fun H5 n5 f5 b5 e5 => ?_
  repeat walk_at "zi"
  have F05 : Fr [b] H H5 := ((((f0.trans f1).trans f2).trans f3).trans f4).trans f5
  have hpb : PD.p ≠ b := fun e => by
    obtain ⟨_, _, _, h, _⟩ := pl.ins
    rw [e, hb] at h
    have h2 : (HO.ins (ga K "Board") dx []) = _ := Option.some.inj h
    injection h2 with _ _ h3
    cases h3
  have hrb : PD.rd ≠ b := fun e => by
    obtain ⟨_, h, _⟩ := pl.rows.at_
    rw [e, hb] at h
    cases h
  have hwb : PD.wd ≠ b := fun e => by
    obtain ⟨_, h, _⟩ := pl.works.at_
    rw [e, hb] at h
    cases h
  have pl5 := pl.keep F05 (by simp [PA.own, hpb, hrb, hwb])
  obtain ⟨pdx, pa, pb, hp, _⟩ := pl5.ins
  refine s_propat hp ?_
  refine ⟨PD, P, rfl, pl5, fun H6 t s6 ht e6 => ?_⟩
  have hon : P.order.Nodup := P.order_perm.nodup_iff.mpr pl.ok.lnd
  have hol : P.order.length ≤ 12 := by rw [P.order_perm.length_eq]; exact pl.ok.len
  have hsd : ∀ l : List Str, DpAll K H6 (l.map V.str) (l.map PyData.str) := fun l => by
    induction l with
    | nil => exact .nil
    | cons x l ih => exact .cons (.str x) ih
  refine dcT_d (l := P.order) (da := PyData.str) (SqT.of e6) (hsd _) Sum.inr (P.order.map fun _ => .int 0) (by rw [List.length_map]) (List.Pairwise.map Sum.inr (fun a b h e => h (Sum.inr.inj e)) hon) (by omega) (fun i l y v H7 Z N hl hi hy hv s7 hd z => ?_) (fun jo H7 hjo s7 e7 => ?_)
  · cases hd
    repeat walk_at "zi"
    refine ⟨rfl, ?_⟩
    repeat walk_at "zi"
    rw [List.getElem?_map, hi] at hv
    cases hv
    exact z _ (Same.refl _)
  repeat walk_at "zi"
  have s57 := s6.trans s7
  refine s_fldput (s57 _ _ b5) T.cl_Board T.n_Board_joined (of_decide_eq_true (by kernel_rfl)) ?_
  generalize eH : upd H7 b _ = H8
  have f8 : Fr [b] H7 H8 := by rw [← eH]; exact Fr.upd (by simp) (s57 _ _ b5) rfl
  have b8 : H8 b = some (.ins (ga K "Board") dx (boardF PD.p ⟨b, p1, p2, p3, p4, p5, jo⟩)) := by
    rw [← eH, upd_same]
    kernel_rfl
  clear eH
  have hj7 : H5 jo = none := s6.fr.fresh (A := []) (by simp) hjo
  have njb : jo ≠ b := fun e => by rw [e, b5] at hj7; cases hj7
  have g2 : H2 p1 = some (.lst []) := f2.at e1 (by simp [n1])
  have g3 : H3 p1 = some (.lst []) ∧ H3 p2 = some (.lst []) := ⟨f3.at g2 (by simp [n1]), f3.at e2 (by simp [n2])⟩
  have g4 : H4 p1 = some (.lst []) ∧ H4 p2 = some (.lst []) ∧ H4 p3 = some (.lst []) := ⟨f4.at g3.1 (by simp [n1]), f4.at g3.2 (by simp [n2]), f4.at e3 (by simp [n3])⟩
  have g5 : H5 p1 = some (.lst []) ∧ H5 p2 = some (.lst []) ∧ H5 p3 = some (.lst []) ∧ H5 p4 = some (.lst []) := ⟨f5.at g4.1 (by simp [n1]), f5.at g4.2.1 (by simp [n2]), f5.at g4.2.2 (by simp [n3]), f5.at e4 (by simp [n4])⟩
  have nd : BA.own ⟨b, p1, p2, p3, p4, p5, jo⟩ |>.Nodup := by
    have m12 := ne_of_none e1 hp2
    have m13 := ne_of_none g2 hp3
    have m23 := ne_of_none e2 hp3
    have m14 := ne_of_none g3.1 hp4
    have m24 := ne_of_none g3.2 hp4
    have m34 := ne_of_none e3 hp4
    have m15 := ne_of_none g4.1 hp5
    have m25 := ne_of_none g4.2.1 hp5
    have m35 := ne_of_none g4.2.2 hp5
    have m45 := ne_of_none e4 hp5
    have m1 := ne_of_none g5.1 hj7
    have m2 := ne_of_none g5.2.1 hj7
    have m3 := ne_of_none g5.2.2.1 hj7
    have m4 := ne_of_none g5.2.2.2 hj7
    have m5 := ne_of_none e5 hj7
    simp [BA.own, Ne.symm n1, Ne.symm n2, Ne.symm n3, Ne.symm n4, Ne.symm n5, Ne.symm njb, m12, m13, m23, m14, m24, m34, m15, m25, m35, m45, m1, m2, m3, m4, m5]
  have at8 : ∀ {a : Addr} {o : HO}, a ≠ b → H5 a = some o → H8 a = some o := fun n h => f8.at (s57 _ _ h) (by simp [n])
  refine q H8 ⟨b, p1, p2, p3, p4, p5, jo⟩ rfl (fun a ha => ?_) (F05.trans (s57.fr.trans f8)) ⟨nd, ⟨dx, b8⟩, at8 n1 g5.1, at8 n2 g5.2.1, at8 n3 g5.2.2.1, at8 n4 g5.2.2.2, at8 n5 e5, ?_⟩
  · have k1 := f0.fresh (by simp [n1]) hp1
    have k2 := (f0.trans f1).fresh (by simp [n2]) hp2
    have k3 := ((f0.trans f1).trans f2).fresh (by simp [n3]) hp3
    have k4 := (((f0.trans f1).trans f2).trans f3).fresh (by simp [n4]) hp4
    have k5 := ((((f0.trans f1).trans f2).trans f3).trans f4).fresh (by simp [n5]) hp5
    have k6 := F05.fresh (by simp [njb]) hj7
    simp only [BA.own, List.mem_cons, List.not_mem_nil, or_false] at ha
    rcases ha with rfl | rfl | rfl | rfl | rfl | rfl | rfl
    · exact .inl rfl
    · exact .inr k1
    · exact .inr k2
    · exact .inr k3
    · exact .inr k4
    · exact .inr k5
    · exact .inr k6
  · have e9 := f8.at e7 (by simp [njb])
    rw [List.zip_map'] at e9
    show H8 jo = some (.dK (joinK (P.order.map fun z => (z, 0))))
    rw [e9]
    unfold joinK
    rw [List.map_map]
    rfl
end
end T
set_option maxHeartbeats 1000000
namespace T
open PySem PySem.Spec PyProof.Rows L2 Z
open He (ga ma)
local macro_rules | `(tactic| walk_at "z") => `(tactic| first
  | with_reducible refine s_seq ?_
  | with_reducible refine s_asg ?_
  | with_reducible refine s_gname ?_
  | with_reducible refine s_ret ?_
  | with_reducible refine s_retN ?_
  | with_reducible refine s_ifS ?_
  | with_reducible refine s_drop ?_
  | with_reducible refine s_next ?_
  | with_reducible refine s_cont ?_
  | with_reducible refine s_break ?_
  | with_reducible refine s_par ?_
  | with_reducible refine s_par2 ?_
  | with_reducible refine s_c ?_
  | ((with_reducible refine s_var (v := ?v1) ?h1 ?q1); (case h1 => exact rfl))
  | with_reducible refine s_op ?_
  | with_reducible refine s_un ?_
  | with_reducible refine s_cb ?_
  | with_reducible refine s_cons ?_
  | with_reducible refine s_nil ?_
  | with_reducible refine s_star ?_
  | with_reducible refine s_test ?_
  | with_reducible refine s_B ?_
  | with_reducible refine s_and ?_
  | with_reducible refine s_or ?_
  | with_reducible refine s_not ?_
  | with_reducible refine s_andV ?_
  | with_reducible refine s_orV ?_
  | with_reducible refine s_notV ?_
  | with_reducible refine s_if ?_
  | with_reducible refine s_chain ?_
  | with_reducible refine s_call ?_
  | with_reducible refine s_bl ?_
  | with_reducible refine s_yes ?_
  | with_reducible refine s_gcons ?_
  | with_reducible refine s_gnil ?_
  | with_reducible refine s_din ?_
  | with_reducible refine s_dnin ?_
  | with_reducible refine s_dget ?_
  | with_reducible refine s_bm ?_
  | with_reducible refine s_bm0 ?_
  | with_reducible refine s_fldg ?_
  | with_reducible refine s_meth ?_
  | with_reducible refine s_prop ?_
  | with_reducible refine s_lcT ?_
  | with_reducible refine s_daugg ?_
  | with_reducible refine s_disp ?_
  | with_reducible refine s_pcons ?_
  | with_reducible refine s_pnil ?_
  | with_reducible refine s_gsub ?_
  | with_reducible refine s_augS ?_
  | with_reducible refine s_fldaug ?_
  | with_reducible refine s_add ?_
  | with_reducible refine s_ipI ?_
  | with_reducible refine s_ixO ?_
  | with_reducible refine s_lcL ?_
  | with_reducible refine s_dcT ?_
  | with_reducible refine s_cvalg ?_
  | with_reducible refine s_fldS ?_
  | with_reducible refine s_I0 ?_
  | with_reducible refine s_U ?_
  | ((with_reducible refine s_eq ?h1 ?q1); (case h1 => exact rfl))
  | ((with_reducible refine s_ne ?h1 ?q1); (case h1 => exact rfl))
  | (with_reducible refine s_tup ?_)
  | (with_reducible refine s_lst ?_)
  | ((with_reducible refine s_isi (d := ?d1) ?h1 ?h2 ?q1); (case h1 => first | assumption | constructor); (case h2 => decide))
  | with_reducible refine ⟨_, _, rfl, rfl, ?_⟩
  | with_reducible refine ⟨_, rfl, ?_⟩)
local macro_rules | `(tactic| walk_at "zi") => `(tactic| first
  | walk_at "z"
  | ((with_reducible refine ite_f ?h1 ?q1); (case h1 => rfl))
  | ((with_reducible refine ite_t ?h1 ?q1); (case h1 => rfl)))
local macro_rules | `(tactic| walk_at "zn") => `(tactic| (intro p hp; generalize eH : upd _ p _ = H2; have s2 := newS hp eH; have e2 := newE eH; clear eH))
local macro_rules | `(tactic| walk_at "zt") => `(tactic| (refine ⟨Nat.le_of_ble_eq_true rfl, ?_⟩; intro p hp; generalize eH : upd _ p _ = H2; have s2 := newS hp eH; have e2 := newE eH; clear eH))
/-! ### a processor -/
def spCInit (K : Fg) : Sp := fun vs H Q _ => ∃ c p dx, vs = [.ref c, .ref p] ∧ H c = some (.ins (ga K "Core") dx []) ∧ ∀ H' D, D.c = c → (∀ a ∈ D.own, a = c ∨ H a = none) → Fr [c] H H' → CoreAt K H' p D ⟨[], 0, []⟩ → Q .non H'
def spCInner (K : Fg) : Sp := fun vs H Q _ => ∃ PD P D C, vs = [.ref D.c] ∧ PlanAt K H PD P ∧ CoreAt K H PD.p D C ∧ (∀ f ∈ C.frames, f.ln ∈ P.names) ∧ ∀ H', Same H H' → Q (.int (C.inner P)) H'
def spCMay (K : Fg) : Sp := fun vs H Q _ => ∃ PD P D C z, vs = [.ref D.c, .str z] ∧ PlanAt K H PD P ∧ CoreAt K H PD.p D C ∧ (∀ f ∈ C.frames, f.ln ∈ P.names) ∧ z ∈ P.names ∧ ∀ H', Same H H' → Q (.bl (C.may P z)) H'
def spCStep (K : Fg) : Sp := fun vs H Q _ => ∃ PD P D C fs f s, vs = [.ref D.c] ∧ PlanAt K H PD P ∧ CoreAt K H PD.p D C ∧ C.frames = fs ++ [f] ∧ f.ln ∈ P.names ∧ (P.ln f.ln).st[f.st]? = some s ∧ ∀ v, Dp K H v (dSt s) → Q v H
def spCPassing (K : Fg) : Sp := fun vs H Q _ => ∃ PD P D C fs f s E B, vs = [.ref D.c, .ref E.b] ∧ PlanAt K H PD P ∧ CoreAt K H PD.p D C ∧ BoardAt K H PD.p E B ∧ C.frames = fs ++ [f] ∧ f.ln ∈ P.names ∧ (P.ln f.ln).st[f.st]? = some s ∧ Q (.bl (decide (s.1 = ("await" : Str)) && decide (kI s.2 ∈ B.raised))) H
def spCLeave (K : Fg) : Sp := fun vs H Q _ => ∃ PD P D C E B z, vs = [.ref D.c, .str z] ∧ CSt K H PD P D C E B ∧ z ∈ P.wnames ∧ ∀ H' D', Chg H D E H' D' → D'.fs = D.fs → CSt K H' PD P D' { C with jobs := leave C.jobs z } E B → Q .non H'
def spCPassStep (K : Fg) : Sp := fun vs H Q _ => ∃ PD P D C E B s, vs = [.ref D.c, .str s.1, kV s.2, .ref E.b] ∧ CSt K H PD P D C E B ∧ StepIs P s ∧ s.1 ≠ "run" ∧
  ∀ H' D', Chg H D E H' D' → D'.fs = D.fs → CSt K H' PD P D' { C with limit := (stepFx P C.limit C.jobs B s).1, jobs := (stepFx P C.limit C.jobs B s).2.1 } E (stepFx P C.limit C.jobs B s).2.2 → Q .non H'
section
variable {P : Program} {w : World} {K : Fg} {mg : Str → Option Value} {base : Heap}
theorem ok_Core_init (T : Txt K mg) : FnOk P w K mg base (L2.CX P w) 1 (ma K (ga K "Core") "__init__") (fdOf K (ma K (ga K "Core") "__init__")) ["self", "plan"] (spCInit K) := by
  refine FunD.ok T.F_Core_init sc_Core_init (fun vs H Q E h => ?_) (fun cdv A outer s H vs Q E hr h => ⟨_, PSs.nox (pss_cons (ps_fld (pv 0) (pv 1) rfl)
      (pss_cons (ps_fld (pv 0) (pe_lst pa_nil) rfl)
      (pss_cons (ps_fld (pv 0) pe_int rfl)
      (pss_one (ps_fld (pv 0) (pe_lst pa_nil) rfl))))), ?_⟩)
  · obtain ⟨c, p, dx, rfl, _⟩ := h
    rfl
  obtain ⟨c, p, dx, rfl, hc, q⟩ := h
  show (_ : TS) _ [some (.ref c), some (.ref p)] H
  try dsimp only [cxOf]
  repeat walk_at "zi"
  refine s_fldput hc T.cl_Core T.n_Core_plan (of_decide_eq_true (by kernel_rfl)) ?_
  generalize eH : upd H c _ = H0
  have f0 : Fr [c] H H0 := by rw [← eH]; exact Fr.upd (by simp) hc rfl
  have b0 : H0 c = some (.ins (ga K "Core") dx [("plan", .ref p)]) := by rw [← eH, upd_same]; rfl
  clear eH
  repeat walk_at "zi"
  refine ⟨Nat.le_of_ble_eq_true rfl, fun p1 hp1 => ?_⟩
  repeat walk_at "zi"
  refine s_fldnew hp1 b0 T.cl_Core T.n_Core_frames (of_decide_eq_true (by kernel_rfl)) fun H1 n1 f1 b1 e1 => ?_
  repeat walk_at "zi"
  refine s_fldput b1 T.cl_Core T.n_Core_limit (of_decide_eq_true (by kernel_rfl)) ?_
  generalize eH : upd H1 c _ = H2
  have f2 : Fr [c] H1 H2 := by rw [← eH]; exact Fr.upd (by simp) b1 rfl
  have b2 : H2 c = some (.ins (ga K "Core") dx (putF "limit" (.int 0) (putF "frames" (.ref p1) [("plan", .ref p)]))) := by rw [← eH, upd_same]
  have e2 := f2.at e1 (by simp [n1])
  clear eH
  repeat walk_at "zi"
  refine ⟨Nat.le_of_ble_eq_true rfl, fun p2 hp2 => ?_⟩
  repeat walk_at "zi"
  refine s_fldnew hp2 b2 T.cl_Core T.n_Core_jobs (of_decide_eq_true (by kernel_rfl)) fun H3 n3 f3 b3 e3 => ?_
  have k1 := f0.back hp1
  have k2 := (f0.trans (f1.trans f2)).back hp2
  have m12 := ne_of_none e2 hp2
  refine q H3 ⟨c, p1, p2, [], []⟩ rfl (fun a ha => ?_) (f0.trans (f1.trans (f2.trans f3))) ⟨?_, ⟨dx, ?_⟩, f3.at e2 (by simp [n1]), e3, .nil, .nil⟩
  · simp only [CA.own, List.append_nil, List.mem_cons, List.not_mem_nil, or_false] at ha
    rcases ha with rfl | rfl | rfl
    · exact .inl rfl
    · exact .inr k1
    · exact .inr k2
  · simp [CA.own, Ne.symm n1, Ne.symm n3, m12]
  · rw [b3]
    kernel_rfl
theorem ok_Core_innermost_rank (T : Txt K mg) : FnOk P w K mg base (L2.CX P w) 5 (ma K (ga K "Core") "innermost_rank") (fdOf K (ma K (ga K "Core") "innermost_rank")) ["self"] (spCInner K) := by
  refine FunD.ok T.F_Core_innermost_rank sc_Core_innermost_rank (fun vs H Q E h => ?_) (fun cdv A outer s H vs Q E hr h => ⟨_, PSs.nox (pss_one (ps_ret (pe_ifExp (pt_cmpR (op_ne0K K hr.units) (kFld K (pe_fld (pv 0) rfl)) (pe_lst pa_nil) (nomark _)) (pe_ix (ix_tupK K) (z_ixO (kFld K (pe_fld (pv 0) rfl)) (pe_ix (ix_listK K) (pe_ix (ix_listK K) (kFld K (pe_fld (pv 0) rfl)) (pe_un un_neg pe_int) (fun _ _ => rfl)) pe_int (fun _ _ => rfl)) T.m_Setup_getitem.at_ T.sub_Setup T.m_Setup_getitem.fn (ok_Setup_getitem T) T.c_Setup_getitem (hr.mono (by decide)) passL) pe_int (fun _ _ => rfl)) pe_int))), ?_⟩)
  · obtain ⟨PD, P, D, C, rfl, _⟩ := h
    rfl
  obtain ⟨PD, P, D, C, rfl, pl, co, hn, q⟩ := h
  show (_ : TS) _ [some (.ref D.c)] H
  try dsimp only [cxOf]
  obtain ⟨dx, hc⟩ := co.ins
  repeat walk_at "zi"
  refine s_fldat hc T.cl_Core T.n_Core_frames coF_fr ?_
  repeat walk_at "zi"
  walk_at "zt"
  rename_i t ht H1 s1 e1
  have co1 := co.same s1
  have pl1 := pl.same s1
  obtain ⟨pdx, pa, pb, hp, _⟩ := pl1.ins
  refine s_eq0L (SqL.of co1.fr) (SqL.of e1) ?_
  repeat walk_at "zi"
  rcases List.eq_nil_or_concat C.frames with e | ⟨fs, f, e⟩
  · have ed : D.fs = [] := by
      have := co.fs.len
      rw [e] at this
      exact List.length_eq_zero_iff.mp this
    rw [ed]
    repeat walk_at "zi"
    have : C.inner P = 0 := by unfold Cr.inner; rw [e]; rfl
    rw [this] at q
    exact q _ s1
  · rw [List.concat_eq_append] at e
    obtain ⟨as, a, ed, ha, _⟩ := co1.last e
    have hfn := hn f (by rw [e]; simp)
    refine ite_t (by rw [ed]; simp) ?_
    have hc1 := s1 _ _ hc
    repeat walk_at "zi"
    refine s_fldat hc1 T.cl_Core T.n_Core_plan coF_plan ?_
    repeat walk_at "zi"
    refine s_fldat hc1 T.cl_Core T.n_Core_frames coF_fr ?_
    repeat walk_at "zi"
    refine s_ixL (SqL.of co1.fr) (v := .ref a) (by rw [ed, List.map_append]; exact atI_last) ?_
    repeat walk_at "zi"
    refine s_ixL (SqL.of ha) (at_of (j := 0) rfl rfl) ?_
    repeat walk_at "zi"
    refine ⟨_, _, _, rfl, hp, PD, _, P, rfl, pl1, hfn, fun v hv => ?_⟩
    obtain ⟨c, zs, rfl, hTc, hAc⟩ := hv.tupI
    cases hAc with | cons h1 hAc => ?_
    cases hAc with | cons h2 hAc => ?_
    cases hAc with | cons h3 hAc => ?_
    cases h3
    repeat walk_at "zi"
    refine s_ixT hTc (at_of (j := 2) rfl rfl) ?_
    have : C.inner P = (P.ln f.ln).rk := by unfold Cr.inner; rw [e, List.getLast?_concat]
    rw [this] at q
    exact q _ s1
theorem ok_Core_may_take (T : Txt K mg) : FnOk P w K mg base (L2.CX P w) 6 (ma K (ga K "Core") "may_take") (fdOf K (ma K (ga K "Core") "may_take")) ["self", "line"] (spCMay K) := by
  refine FunD.ok T.F_Core_may_take sc_Core_may_take (fun vs H Q E h => ?_) (fun cdv A outer s H vs Q E hr h => ⟨_, PSs.nox (pss_one (ps_ret (pe_cmpR op_gt (pe_ix (ix_tupK K) (z_ixO (kFld K (pe_fld (pv 0) rfl)) (pv 1) T.m_Setup_getitem.at_ T.sub_Setup T.m_Setup_getitem.fn (ok_Setup_getitem T) T.c_Setup_getitem (hr.mono (by decide)) passL) pe_int (fun _ _ => rfl)) (pe_callB (call_max2 rfl) (by rfl) T.u_max (by decide +kernel) (pa_cons (kFld K (pe_fld (pv 0) rfl)) (pa_cons (z_meth0 (pv 0) T.cl_Core T.m_Core_innermost_rank (ok_Core_innermost_rank T) T.c_Core_innermost_rank (hr.mono (by decide)) passL) pa_nil))) (nomark _)))), ?_⟩)
  · obtain ⟨PD, P, D, C, z, rfl, _⟩ := h
    rfl
  obtain ⟨PD, P, D, C, z, rfl, pl, co, hn, hz, q⟩ := h
  show (_ : TS) _ [some (.ref D.c), some (.str z)] H
  try dsimp only [cxOf]
  obtain ⟨dx, hc⟩ := co.ins
  obtain ⟨pdx, pa, pb, hp, _⟩ := pl.ins
  repeat walk_at "zi"
  refine s_fldat hc T.cl_Core T.n_Core_plan coF_plan ?_
  repeat walk_at "zi"
  refine ⟨_, _, _, rfl, hp, PD, _, P, rfl, pl, hz, fun v hv => ?_⟩
  obtain ⟨c, zs, rfl, hTc, hAc⟩ := hv.tupI
  cases hAc with | cons h1 hAc => ?_
  cases hAc with | cons h2 hAc => ?_
  cases hAc with | cons h3 hAc => ?_
  cases h3
  repeat walk_at "zi"
  refine s_ixT hTc (at_of (j := 2) rfl rfl) ?_
  repeat walk_at "zi"
  refine s_fldat hc T.cl_Core T.n_Core_limit coF_lim ?_
  repeat walk_at "zi"
  refine s_methat hc (by kernel_rfl) ?_
  repeat walk_at "zi"
  refine ⟨PD, P, D, C, rfl, pl, co, hn, fun H1 s1 => ?_⟩
  repeat walk_at "zi"
  refine ⟨_, _, rfl, ?_⟩
  repeat walk_at "zi"
  exact q _ s1
theorem ok_Core_step_now (T : Txt K mg) : FnOk P w K mg base (L2.CX P w) 5 (ma K (ga K "Core") "step_now") (fdOf K (ma K (ga K "Core") "step_now")) ["self"] (spCStep K) := by
  refine FunD.ok T.F_Core_step_now sc_Core_step_now (fun vs H Q E h => ?_) (fun cdv A outer s H vs Q E hr h => ⟨_, PSs.nox (pss_cons (ps_asg (pe_ix (ix_listK K) (kFld K (pe_fld (pv 0) rfl)) (pe_un un_neg pe_int) (fun _ _ => rfl)) (kGL K (pg_lst (n := 4) rfl (pgs_cons (zg 1 sc_Core_step_now.nd) (pgs_cons (zg 2 sc_Core_step_now.nd) (pgs_cons (zg 3 sc_Core_step_now.nd) (pgs_cons (zg 4 sc_Core_step_now.nd) pgs_nil)))))))
      (pss_one (ps_ret (pe_ix (ix_tupK K) (pe_ix (ix_tupK K) (z_ixO (kFld K (pe_fld (pv 0) rfl)) (pv 1) T.m_Setup_getitem.at_ T.sub_Setup T.m_Setup_getitem.fn (ok_Setup_getitem T) T.c_Setup_getitem (hr.mono (by decide)) passL) pe_int (fun _ _ => rfl)) (pv 2) (fun _ _ => rfl))))), ?_⟩)
  · obtain ⟨PD, P, D, C, fs, f, s, rfl, _⟩ := h
    rfl
  obtain ⟨PD, P, D, C, fs, f, sp, rfl, pl, co, e, hfn, hs, q⟩ := h
  show (_ : TS) _ [some (.ref D.c), none, none, none, none] H
  try dsimp only [cxOf]
  obtain ⟨dx, hc⟩ := co.ins
  obtain ⟨pdx, pa, pb, hp, _⟩ := pl.ins
  obtain ⟨as, a, ed, ha, _⟩ := co.last e
  repeat walk_at "zi"
  refine s_fldat hc T.cl_Core T.n_Core_frames coF_fr ?_
  repeat walk_at "zi"
  refine s_ixL (SqL.of co.fr) (v := .ref a) (by rw [ed, List.map_append]; exact atI_last) ?_
  refine s_glst (xs := [.str f.ln, .int f.st, .int f.tk, .int f.kp]) (SqL.of ha) rfl ?_
  repeat walk_at "zi"
  refine s_fldat hc T.cl_Core T.n_Core_plan coF_plan ?_
  repeat walk_at "zi"
  refine ⟨_, _, _, rfl, hp, PD, _, P, rfl, pl, hfn, fun v hv => ?_⟩
  obtain ⟨c, zs, rfl, hTc, hAc⟩ := hv.tupI
  cases hAc with | cons h1 hAc => ?_
  cases hAc with | cons h2 hAc => ?_
  cases hAc with | cons h3 hAc => ?_
  cases hAc with | cons h4 hAc => ?_
  cases hAc
  repeat walk_at "zi"
  refine s_ixT hTc (at_of (j := 3) rfl rfl) ?_
  repeat walk_at "zi"
  obtain ⟨st, ss, rfl, hTs, hAs⟩ := h4.tupI
  have h5 : ((P.ln f.ln).st.map dSt)[f.st]? = some (dSt sp) := by rw [List.getElem?_map, hs]; rfl
  obtain ⟨v, hv, hd⟩ := hAs.get h5
  refine s_ixT hTs (v := v) (atI_nat hv) ?_
  exact q v hd
theorem ok_Core_is_passing (T : Txt K mg) : FnOk P w K mg base (L2.CX P w) 6 (ma K (ga K "Core") "is_passing") (fdOf K (ma K (ga K "Core") "is_passing")) ["self", "board"] (spCPassing K) := by
  refine FunD.ok T.F_Core_is_passing sc_Core_is_passing (fun vs H Q E h => ?_) (fun cdv A outer s H vs Q E hr h => ⟨_, PSs.nox (pss_cons (ps_asg (z_meth0 (pv 0) T.cl_Core T.m_Core_step_now (ok_Core_step_now T) T.c_Core_step_now (hr.mono (by decide)) passL) (kGT K (pg_tup (n := 2) rfl (pgs_cons (zg 2 sc_Core_is_passing.nd) (pgs_cons (zg 3 sc_Core_is_passing.nd) pgs_nil)))))
      (pss_one (ps_ret (pe_and (pe_cmpR op_eq (pv 2) (z_str T.i_AWAIT) (nomark _)) (pe_one (z_meth (pv 1) T.cl_Board T.m_Board_is_up (ok_Board_is_up T) T.c_Board_is_up (hr.mono (by decide)) passL (pa_cons (pv 3) pa_nil))))))), ?_⟩)
  · obtain ⟨PD, P, D, C, fs, f, s, E, B, rfl, _⟩ := h
    rfl
  obtain ⟨PD, P, D, C, fs, f, ⟨wd, k⟩, E, B, rfl, pl, co, bd, e, hfn, hs, q⟩ := h
  show (_ : TS) _ [some (.ref D.c), some (.ref E.b), none, none] H
  try dsimp only [cxOf]
  obtain ⟨dx, hc⟩ := co.ins
  obtain ⟨bdx, hb⟩ := bd.ins
  have sis := pl.ok.step (pl.ok.ln_mem hfn).1 (List.mem_of_getElem? hs)
  repeat walk_at "zi"
  refine s_methat hc (by kernel_rfl) ?_
  repeat walk_at "zi"
  refine ⟨PD, P, D, C, fs, f, _, rfl, pl, co, e, hfn, hs, fun v hv => ?_⟩
  obtain ⟨t, zs, rfl, hT, hA⟩ := hv.tupI
  cases hA with | cons h1 hA => ?_
  cases hA with | cons h2 hA => ?_
  cases hA
  cases h1
  refine s_gtup hT rfl ?_
  repeat walk_at "zi"
  simp only at q
  refine ite_b (fun h => ?_) (fun h => ?_)
  · have hw : wd = "await" := by simpa using h
    subst hw
    obtain ⟨i, rfl⟩ : ∃ i, k = .inl i := by
      cases sis with
      | flag _ i _ _ _ => exact ⟨i, rfl⟩
      | line _ _ hw _ _ => exact absurd hw (by decide)
    cases h2
    repeat walk_at "zi"
    refine s_methat hb (by kernel_rfl) ?_
    repeat walk_at "zi"
    refine ⟨PD.p, E, B, i, rfl, bd, ?_⟩
    rw [decide_eq_true rfl, Bool.true_and] at q
    exact q
  · have hw : ¬ wd = "await" := by simpa using h
    rw [decide_eq_false hw, Bool.false_and] at q
    exact q
theorem ok_Core_leave_work (T : Txt K mg) : FnOk P w K mg base (L2.CX P w) 1 (ma K (ga K "Core") "leave_work") (fdOf K (ma K (ga K "Core") "leave_work")) ["self", "work"] (spCLeave K) := by
  refine FunD.ok T.F_Core_leave_work sc_Core_leave_work (fun vs H Q E h => ?_) (fun cdv A outer s H vs Q E hr h => ⟨_, PSs.nox (pss_one (ps_if (pt_cmpR (op_notInDK K hr.units5) (pe_lst (pa_cons (pv 1) (pa_cons pe_int pa_nil))) (kFld K (pe_fld (pv 0) rfl)) (by rfl)) (pss_one (ps_expr (kBM K (pe_bm PySem.F.plainAttrs_list PySem.F.slot_list_append PySem.F.type_list_append mt_append (kFld K (pe_fld (pv 0) rfl)) (pa_cons (pe_lst (pa_cons (pv 1) (pa_cons pe_int pa_nil))) pa_nil))))) pss_nil)), ?_⟩)
  · obtain ⟨PD, P, D, C, E, B, z, rfl, _⟩ := h
    rfl
  obtain ⟨PD, P, D, C, E, B, z, rfl, st, hz, q⟩ := h
  show (_ : TS) _ [some (.ref D.c), some (.str z)] H
  try dsimp only [cxOf]
  obtain ⟨dx, hc⟩ := st.co.ins
  repeat walk_at "zi"
  walk_at "zt"
  rename_i t ht H1 s1 e1
  have st1 := st.same s1
  have hc1 := s1 _ _ hc
  repeat walk_at "zi"
  refine s_fldat hc1 T.cl_Core T.n_Core_jobs coF_jo ?_
  refine ⟨.list [.str z, .int 0], _, .lst (SqL.of e1) (.cons (.str _) (.cons (.int _) .nil)), dp_jobs st1.co, ?_, jobs_shaped st.pl.ok st.jok.sub, ?_⟩
  · have := jobs_shaped st.pl.ok (l := [(z, 0)]) (by simpa using hz)
    obtain ⟨hw, en⟩ := st.pl.ok.wk_mem hz
    have e := (st.pl.ok.shw _ hw).2
    rw [en] at e
    unfold SeqAt.shaped
    refine Bool.and_eq_true_iff.mpr ⟨?_, of_decide_eq_true rfl⟩
    show ((PyData.str z).canLay0 && (true && true)) = true
    rw [e]
    rfl
  rw [jobs_in]
  repeat walk_at "zi"
  unfold leave at q
  refine ite_b (fun h => ?_) (fun h => ?_)
  · have hn : ¬ (z, 0) ∈ C.jobs := by simpa using h
    have q' := q
    simp only [if_neg hn] at q'
    repeat walk_at "zi"
    refine s_fldat hc1 T.cl_Core T.n_Core_jobs coF_jo ?_
    refine s_tyL st1.co.jo ?_
    repeat walk_at "zi"
    walk_at "zt"
    rename_i t2 ht2 H2 s2 e2
    have st2 := st1.same s2
    have l16 := st.jok.len st.pl.ok
    have ljs := st.co.js.len
    rw [List.length_map] at ljs
    refine s_append st2.co.jo (by rw [List.length_map, sizeLine_eq]; omega) ?_
    repeat walk_at "zi"
    have hfresh : ∀ a ∈ D.own, a ≠ t2 := fun a ha e => st1.co.ex a ha (by rw [e]; exact ht2)
    have sp := CA.sep st.co.nd
    have f2 : Fr D.own H2 (upd H2 D.jo (.lst (D.js.map V.ref ++ [V.ref t2]))) := Fr.upd (by simp [CA.own]) st2.co.jo rfl
    have f2' : Fr [D.jo] H2 (upd H2 D.jo (.lst (D.js.map V.ref ++ [V.ref t2]))) := Fr.upd (by simp) st2.co.jo rfl
    have s12 := s1.trans s2
    have own : ∀ a ∈ CA.own { D with js := D.js ++ [t2] }, a ∈ D.own ∨ H a = none := fun a ha => by
      simp only [CA.own, List.mem_cons, List.mem_append, List.not_mem_nil, or_false] at ha
      rcases ha with rfl | rfl | rfl | ha | ha | rfl
      · exact .inl (by simp [CA.own])
      · exact .inl (by simp [CA.own])
      · exact .inl (by simp [CA.own])
      · exact .inl (by simp [CA.own, ha])
      · exact .inl (by simp [CA.own, ha])
      · exact .inr (s1.fr.back (A := []) ht2)
    have own2 : ∀ a ∈ CA.own { D with js := D.js ++ [t2] }, a ∈ D.own ∨ H2 a = none ∨ a = t2 := fun a ha => by
      simp only [CA.own, List.mem_cons, List.mem_append, List.not_mem_nil, or_false] at ha
      rcases ha with rfl | rfl | rfl | ha | ha | rfl
      · exact .inl (by simp [CA.own])
      · exact .inl (by simp [CA.own])
      · exact .inl (by simp [CA.own])
      · exact .inl (by simp [CA.own, ha])
      · exact .inl (by simp [CA.own, ha])
      · exact .inr (.inr rfl)
    have nt : t2 ∉ D.own := fun z => hfresh _ z rfl
    have ntj : t2 ≠ D.jo := fun z => nt (by rw [z]; simp [CA.own])
    obtain ⟨dx2, hc2⟩ := st2.co.ins
    have co3 : CoreAt K (upd H2 D.jo (.lst (D.js.map V.ref ++ [V.ref t2]))) PD.p { D with js := D.js ++ [t2] } { C with jobs := C.jobs ++ [(z, 0)] } := by
      refine ⟨?_, ⟨dx2, f2'.at hc2 (by simp [sp.cjo])⟩, f2'.at st2.co.fr (by simp [sp.frjo]), ?_, st2.co.fs.keep f2' fun a ha => ?_, ?_⟩
      · refine CA.Sep.own ⟨sp.cfr, sp.cjo, sp.frjo, sp.cfs, ?_, sp.frfs, ?_, sp.jofs, ?_, sp.fsn, ?_, fun a ha => ?_⟩
        · show D.c ∉ D.js ++ [t2]
          simp [sp.cjs, hfresh D.c (by simp [CA.own])]
        · show D.fr ∉ D.js ++ [t2]
          simp [sp.frjs, hfresh D.fr (by simp [CA.own])]
        · show D.jo ∉ D.js ++ [t2]
          simp [sp.jojs, hfresh D.jo (by simp [CA.own])]
        · show (D.js ++ [t2]).Nodup
          exact List.nodup_append.mpr ⟨sp.jsn, by simp, fun a ha b hb e => hfresh a (by simp [CA.own, ha]) (e.trans (List.mem_singleton.mp hb))⟩
        · show a ∉ D.js ++ [t2]
          have ha' : a ∈ D.fs := ha
          simp [sp.fj a ha', hfresh a (by simp [CA.own, ha'])]
      · show upd _ D.jo _ D.jo = some (.lst ((D.js ++ [t2]).map V.ref))
        rw [upd_same, List.map_append]
        rfl
      · rintro z
        rw [List.mem_singleton.mp z] at ha
        exact sp.jofs ha
      · show Lsts _ (D.js ++ [t2]) ((C.jobs ++ [(_, 0)]).map jbV)
        rw [List.map_append]
        refine (st2.co.js.keep f2' fun a ha z => ?_).app (.cons (f2'.at e2 (by simp [ntj])) .nil)
        rw [List.mem_singleton.mp z] at ha
        exact sp.jojs ha
    have jk : JOk P (C.jobs ++ [(z, 0)]) := by
      have := st.jok.leave hz
      unfold leave at this
      rw [if_neg hn] at this
      exact this
    refine q' _ { D with js := D.js ++ [t2] } ⟨(s12.fr.trans f2).mono fun a ha => List.mem_append_left _ ha, rfl, own⟩ rfl ?_
    refine ⟨st2.pl.keep f2 fun a ha => (st.pd a ha).1, co3, st2.bd.keep f2 fun a ha z => st.de a z ha, fun a ha => ⟨fun z => ?_, (st.pd a ha).2⟩, fun a ha => ?_, st.bok, jk⟩
    · rcases own a z with z | z
      · exact (st.pd a ha).1 z
      · exact st.pl.ex a ha z
    · rcases own a ha with z | z
      · exact st.de a z
      · exact fun w => st.bd.ex a w z
  · have hn : (z, 0) ∈ C.jobs := by simpa using h
    have q' := q
    simp only [if_pos hn] at q'
    repeat walk_at "zi"
    exact q' _ D (Chg.same s1) rfl st1
theorem ok_Core_pass_step (T : Txt K mg) : FnOk P w K mg base (L2.CX P w) 7 (ma K (ga K "Core") "pass_step") (fdOf K (ma K (ga K "Core") "pass_step")) ["self", "word", "value", "board"] (spCPassStep K) := by
  refine FunD.ok T.F_Core_pass_step sc_Core_pass_step (fun vs H Q E h => ?_) (fun cdv A outer s H vs Q E hr h => ⟨_, PSs.nox (pss_one (ps_if (pt_cmpR op_eq (pv 1) (z_str T.i_BAR) (nomark _)) (pss_one (ps_fld (pv 0) (pv 2) rfl)) (pss_one (ps_if (pt_cmpR op_eq (pv 1) (z_str T.i_LATER) (nomark _)) (pss_one (ps_expr (z_meth (pv 0) T.cl_Core T.m_Core_leave_work (ok_Core_leave_work T) T.c_Core_leave_work (hr.mono (by decide)) passL (pa_cons (pv 2) pa_nil)))) (pss_one (ps_if (pt_cmpR op_ne (pv 1) (z_str T.i_AWAIT) (nomark _)) (pss_one (ps_expr (z_meth (pv 3) T.cl_Board T.m_Board_carry (ok_Board_carry T) T.c_Board_carry (hr.mono (by decide)) passL (pa_cons (pe_tup (pa_cons (pv 1) (pa_cons (pv 2) pa_nil))) pa_nil)))) pss_nil)))))), ?_⟩)
  · obtain ⟨PD, P, D, C, E, B, s, rfl, _⟩ := h
    rfl
  obtain ⟨PD, P, D, C, E, B, ⟨wd, k⟩, rfl, st, sis, hnr, q⟩ := h
  show (_ : TS) _ [some (.ref D.c), some (.str wd), some (kV k), some (.ref E.b)] H
  try dsimp only [cxOf]
  obtain ⟨dx, hc⟩ := st.co.ins
  obtain ⟨bdx, hb⟩ := st.bd.ins
  unfold stepFx at q
  simp only at q
  repeat walk_at "zi"
  refine ite_b (fun h => ?_) (fun h => ?_)
  · have hw : wd = "bar" := by simpa using h
    subst hw
    simp only [if_pos] at q
    obtain ⟨i, rfl⟩ : ∃ i, k = .inl i := by
      cases sis with
      | bar i _ _ => exact ⟨i, rfl⟩
      | flag _ _ hw _ _ => exact absurd hw (by decide)
      | line _ _ hw _ _ => exact absurd hw (by decide)
    repeat walk_at "zi"
    refine s_fldput hc T.cl_Core T.n_Core_limit (of_decide_eq_true (by kernel_rfl)) ?_
    have f1 : ∀ o, Fr D.own H (upd H D.c o) := fun o => Fr.upd (by simp [CA.own]) hc rfl
    have co1 := st.co.setLim i hc
    rw [show putF "limit" (kV (Sum.inl i)) (coreF PD.p D.fr D.jo C.limit) = coreF PD.p D.fr D.jo i from coF_putl]
    exact q _ D (Chg.core (f1 _) rfl fun _ h => .inl h) rfl (st.core (f1 _) co1 (fun _ h => .inl h) st.jok)
  have hw1 : ¬ wd = "bar" := by simpa using h
  simp only [if_neg hw1] at q
  repeat walk_at "zi"
  refine ite_b (fun h => ?_) (fun h => ?_)
  · have hw : wd = "later" := by simpa using h
    subst hw
    simp only [if_pos] at q
    obtain ⟨z, rfl, hz⟩ : ∃ z, k = .inr z ∧ z ∈ P.wnames := by
      cases sis with
      | later z hz => exact ⟨z, rfl, hz⟩
      | flag _ _ hw _ _ => exact absurd hw (by decide)
      | line _ _ hw _ _ => exact absurd hw (by decide)
    repeat walk_at "zi"
    refine s_methat hc (by kernel_rfl) ?_
    repeat walk_at "zi"
    exact ⟨PD, P, D, C, E, B, z, rfl, st, hz, q⟩
  have hw2 : ¬ wd = "later" := by simpa using h
  simp only [if_neg hw2] at q
  repeat walk_at "zi"
  refine ite_b (fun h => ?_) (fun h => ?_)
  · have hw3 : wd ≠ "await" := by simpa using h
    simp only [if_pos hw3] at q
    repeat walk_at "zi"
    refine s_methat hb (by kernel_rfl) ?_
    repeat walk_at "zi"
    walk_at "zt"
    rename_i t ht H1 s1 e1
    have st1 := st.same s1
    have car : CarryIs P (wd, k) := by
      cases sis with
      | run i _ _ => exact absurd rfl hnr
      | bar i _ _ => exact absurd rfl hw1
      | later z _ => exact absurd rfl hw2
      | flag w i hm h0 h7 =>
        refine .inr ⟨?_, i, rfl, h0, h7⟩
        simp only [List.mem_cons, List.not_mem_nil, or_false] at hm ⊢
        rcases hm with rfl | rfl | rfl
        · exact .inl rfl
        · exact .inr rfl
        · exact absurd rfl hw3
      | line w z hm hz _ => exact .inl ⟨hm, z, rfl, hz⟩
    have dk : Dp K H1 (kV k) (kD k) := by
      cases k with
      | inl i => exact .int i
      | inr z => exact .str z
    refine ⟨PD, P, E, B, (wd, k), t, rfl, .tup (SqT.of e1) (.cons (.str _) (.cons dk .nil)), st1.pl, st1.bd, st.bok, car, fun H2 f2 b2 => ?_⟩
    exact q H2 D ((Chg.same s1).trans (Chg.board f2)) rfl (st1.board f2 b2 (st.bok.carry car))
  · have hw3 : ¬ (wd ≠ "await") := by simpa using h
    simp only [if_neg hw3] at q
    repeat walk_at "zi"
    exact q H D Chg.refl rfl st
end
end T
set_option maxHeartbeats 1000000
namespace T
open PySem PySem.Spec PyProof.Rows L2 Z
open He (ga ma)
local macro_rules | `(tactic| walk_at "z") => `(tactic| first
  | with_reducible refine s_seq ?_
  | with_reducible refine s_asg ?_
  | with_reducible refine s_gname ?_
  | with_reducible refine s_ret ?_
  | with_reducible refine s_retN ?_
  | with_reducible refine s_ifS ?_
  | with_reducible refine s_drop ?_
  | with_reducible refine s_next ?_
  | with_reducible refine s_cont ?_
  | with_reducible refine s_break ?_
  | with_reducible refine s_par ?_
  | with_reducible refine s_par2 ?_
  | with_reducible refine s_c ?_
  | ((with_reducible refine s_var (v := ?v1) ?h1 ?q1); (case h1 => exact rfl))
  | with_reducible refine s_op ?_
  | with_reducible refine s_un ?_
  | with_reducible refine s_cb ?_
  | with_reducible refine s_cons ?_
  | with_reducible refine s_nil ?_
  | with_reducible refine s_star ?_
  | with_reducible refine s_test ?_
  | with_reducible refine s_B ?_
  | with_reducible refine s_and ?_
  | with_reducible refine s_or ?_
  | with_reducible refine s_not ?_
  | with_reducible refine s_andV ?_
  | with_reducible refine s_orV ?_
  | with_reducible refine s_notV ?_
  | with_reducible refine s_if ?_
  | with_reducible refine s_chain ?_
  | with_reducible refine s_call ?_
  | with_reducible refine s_bl ?_
  | with_reducible refine s_yes ?_
  | with_reducible refine s_gcons ?_
  | with_reducible refine s_gnil ?_
  | with_reducible refine s_din ?_
  | with_reducible refine s_dnin ?_
  | with_reducible refine s_dget ?_
  | with_reducible refine s_bm ?_
  | with_reducible refine s_bm0 ?_
  | with_reducible refine s_fldg ?_
  | with_reducible refine s_meth ?_
  | with_reducible refine s_prop ?_
  | with_reducible refine s_lcT ?_
  | with_reducible refine s_daugg ?_
  | with_reducible refine s_disp ?_
  | with_reducible refine s_pcons ?_
  | with_reducible refine s_pnil ?_
  | with_reducible refine s_gsub ?_
  | with_reducible refine s_augS ?_
  | with_reducible refine s_fldaug ?_
  | with_reducible refine s_add ?_
  | with_reducible refine s_ipI ?_
  | with_reducible refine s_ixO ?_
  | with_reducible refine s_lcL ?_
  | with_reducible refine s_dputg ?_
  | with_reducible refine s_for ?_
  | with_reducible refine s_rng1 ?_
  | with_reducible refine s_iT ?_
  | with_reducible refine s_iL ?_
  | with_reducible refine Or.inl (Exists.intro _ (And.intro rfl ?_))
  | with_reducible refine Or.inr (Exists.intro _ (And.intro rfl ?_))
  | with_reducible refine s_make ?_
  | with_reducible refine s_sl ?_
  | with_reducible refine s_nop ?_
  | with_reducible refine s_part ?_
  | with_reducible refine s_lcE ?_
  | with_reducible refine s_lc ?_
  | with_reducible refine s_dcT ?_
  | with_reducible refine s_cvalg ?_
  | with_reducible refine s_fldS ?_
  | with_reducible refine s_I0 ?_
  | with_reducible refine s_U ?_
  | ((with_reducible refine s_eq ?h1 ?q1); (case h1 => exact rfl))
  | ((with_reducible refine s_ne ?h1 ?q1); (case h1 => exact rfl))
  | (with_reducible refine s_tup ?_)
  | (with_reducible refine s_lst ?_)
  | ((with_reducible refine s_isi (d := ?d1) ?h1 ?h2 ?q1); (case h1 => first | assumption | constructor); (case h2 => decide))
  | with_reducible refine ⟨_, _, rfl, rfl, ?_⟩
  | with_reducible refine ⟨_, rfl, ?_⟩)
local macro_rules | `(tactic| walk_at "zi") => `(tactic| first
  | walk_at "z"
  | ((with_reducible refine ite_f ?h1 ?q1); (case h1 => rfl))
  | ((with_reducible refine ite_t ?h1 ?q1); (case h1 => rfl)))
local macro_rules | `(tactic| walk_at "zn") => `(tactic| (intro p hp; generalize eH : upd _ p _ = H2; have s2 := newS hp eH; have e2 := newE eH; clear eH))
local macro_rules | `(tactic| walk_at "zt") => `(tactic| ((with_reducible refine And.intro ?h1 ?_); (case h1 => exact Nat.le_of_ble_eq_true rfl); intro p hp; generalize eH : upd _ p _ = H2; have s2 := newS hp eH; have e2 := newE eH; clear eH))
local macro_rules | `(tactic| walk_at "hl") => `(tactic| first
  | assumption
  | ((with_reducible apply at_same); (· assumption); · walk_at "hl")
  | ((with_reducible apply sqT_same); (· assumption); · walk_at "hl")
  | ((with_reducible apply sqL_same); (· assumption); · walk_at "hl")
  | ((with_reducible apply SqT.of); · walk_at "hl")
  | ((with_reducible apply SqL.of); · walk_at "hl")
  | ((with_reducible apply dp_same); (· assumption); · walk_at "hl")
  | ((with_reducible apply dpA_same); (· assumption); · walk_at "hl")
  | ((with_reducible apply pl_same); (· assumption); · walk_at "hl")
  | ((with_reducible apply bd_same); (· assumption); · walk_at "hl")
  | ((with_reducible apply co_same); (· assumption); · walk_at "hl")
  | ((with_reducible apply cst_same); (· assumption); · walk_at "hl")
  | ((with_reducible apply sg_same); (· assumption); · walk_at "hl")
  | ((with_reducible apply row_same); (· assumption); · walk_at "hl")
  | ((with_reducible apply md_same); (· assumption); · walk_at "hl")
  | ((with_reducible apply plm_same); (· assumption); · walk_at "hl")
  | ((with_reducible apply mst_same); (· assumption); · walk_at "hl")
  | ((with_reducible apply ev_same); (· assumption); · walk_at "hl"))
local macro_rules | `(tactic| walk_at "lk") => `(tactic| with_reducible first
  | exact plF_lr | exact plF_wr | exact plF_rn | exact plF_wn
  | exact bdF_plan | exact bdF_sh | exact bdF_wa | exact bdF_hi | exact bdF_ta | exact bdF_ra | exact bdF_jo
  | exact sgF_plan | exact sgF_board | exact sgF_core | exact sgF_time | exact sgF_sums
  | exact coF_plan | exact coF_fr | exact coF_lim | exact coF_jo)
local macro_rules | `(tactic| walk_at "mk") => `(tactic| with_reducible first | exact mk_ca | exact mk_ed | exact mk_hi | exact mk_up | exact mk_sh | exact mk_bar | exact mk_jo | exact mk_now | exact mk_lg | exact mk_sp | exact mk_jn | exact mk_ln | exact mk_wk)
local macro_rules | `(tactic| walk_at "cl") => `(tactic| with_reducible first | exact Txt.cl_Setup (by assumption) | exact Txt.cl_Board (by assumption) | exact Txt.cl_Core (by assumption) | exact Txt.cl_Single (by assumption))
local macro_rules | `(tactic| walk_at "na") => `(tactic| with_reducible first | exact Txt.n_Setup_line_rows (by assumption) | exact Txt.n_Setup_work_rows (by assumption) | exact Txt.n_Setup_rows_by_name (by assumption) | exact Txt.n_Setup_works_by_name (by assumption) | exact Txt.n_Board_plan (by assumption) | exact Txt.n_Board_shut (by assumption) | exact Txt.n_Board_wanted (by assumption) | exact Txt.n_Board_high (by assumption) | exact Txt.n_Board_taken (by assumption) | exact Txt.n_Board_raised (by assumption) | exact Txt.n_Board_joined (by assumption) | exact Txt.n_Core_plan (by assumption) | exact Txt.n_Core_frames (by assumption) | exact Txt.n_Core_limit (by assumption) | exact Txt.n_Core_jobs (by assumption) | exact Txt.n_Single_plan (by assumption) | exact Txt.n_Single_board (by assumption) | exact Txt.n_Single_core (by assumption) | exact Txt.n_Single_time (by assumption) | exact Txt.n_Single_sums (by assumption))
local macro_rules | `(tactic| walk_at "zz") => `(tactic| first
  | walk_at "zi"
  | ((with_reducible apply s_fldat); (· walk_at "hl"); (· walk_at "cl"); (· walk_at "na"); (· walk_at "lk"))
  | ((with_reducible apply s_methat); (· walk_at "hl"); (· kernel_rfl))
  | ((with_reducible apply s_propat); (· walk_at "hl"))
  | ((with_reducible apply s_ixT); (· walk_at "hl"); (· with_reducible first | exact at0 | exact at1 | exact at2 | exact at3 | exact at4))
  | ((with_reducible apply s_ixL); (· walk_at "hl"); (· with_reducible first | exact at0 | exact at1 | exact at2 | exact at3 | exact at4))
  | ((with_reducible apply s_dgS); (· walk_at "hl"); (· walk_at "mk"))
  | walk_at "zt")
local macro_rules | `(tactic| walk_at "zm") => `(tactic| (intro x dx hx hdx hne; generalize eH : upd (upd _ dx _) x _ = H2; have s2 := mkS hx hdx eH; have e2 := mkE eH; clear eH hdx hne))
local macro_rules | `(tactic| walk_at "zb") => `(tactic| with_reducible first | refine s_gcons ?_ | refine s_gnil ?_ | refine s_gname ?_ | refine s_seq ?_ | refine s_ifS ?_ | refine s_if ?_ | refine s_next ?_ | refine s_drop ?_ | refine s_ret ?_ | refine s_asg ?_)
/-! ### calls go on -/
/-- a line by its name -/
theorem s_getit {K : Fg} {H : Hp} {PD : Z.PA} {P : Pl} {z : Str} {Q : VK} {E : XK} (pl : PlanAt K H PD P) (hz : z ∈ P.names)
    (q : ∀ c st ss, SqT K H c [.str z, .str (P.ln z).kd, .int (P.ln z).rk, .ref st] → SqT K H st ss → DpAll K H ss ((P.ln z).st.map dSt) → Q (.ref c) H) :
    spGetItem K [.ref PD.p, .str z] H Q E := by
  refine ⟨PD, z, P, rfl, pl, hz, fun v hv => ?_⟩
  obtain ⟨c, zs, rfl, hTc, hAc⟩ := hv.tupI
  cases hAc with | cons h1 hAc => ?_
  cases hAc with | cons h2 hAc => ?_
  cases hAc with | cons h3 hAc => ?_
  cases hAc with | cons h4 hAc => ?_
  cases hAc
  cases h1
  cases h2
  cases h3
  obtain ⟨st, ss, rfl, hTs, hAs⟩ := h4.tupI
  rw [(pl.ok.ln_mem hz).2] at hTc
  exact q c st ss hTc hTs hAs
def spCPass (K : Fg) : Sp := fun vs H Q _ => ∃ PD P D C E B fs f, vs = [.ref D.c, .ref E.b] ∧ CSt K H PD P D C E B ∧ C.frames = fs ++ [f] ∧ f.ln ∈ P.names ∧ f.ln ∈ B.taken ∧
  ∀ H' D' l, Chg H D E H' D' → CSt K H' PD P D' (pass P fs f C.limit C.jobs B).1 E (pass P fs f C.limit C.jobs B).2.1 → H l = none → l ∉ D'.own → EvAt K H' l (pass P fs f C.limit C.jobs B).2.2 → Q (.ref l) H'
section
variable {P : Program} {w : World} {K : Fg} {mg : Str → Option Value} {base : Heap}
theorem ok_Core_pass_steps (T : Txt K mg) : FnOk P w K mg base (L2.CX P w) 8 (ma K (ga K "Core") "pass_steps") (fdOf K (ma K (ga K "Core") "pass_steps")) ["self", "board"] (spCPass K) := by
  refine FunD.ok T.F_Core_pass_steps sc_Core_pass_steps (fun vs H Q E h => ?_) (fun cdv A outer s H vs Q E hr h => ⟨_, PSs.nox (pss_cons (zset 2 sc_Core_pass_steps.nd (pe_ix (ix_listK K) (kFld K (pe_fld (pv 0) rfl)) (pe_un un_neg pe_int) (fun _ _ => rfl)))
      (pss_cons (ps_while PassesOwn.never (pt_cmpR op_lt (pe_ix (ix_listK K) (pv 2) pe_int (fun _ _ => rfl)) (pe_callB (call_lenK K) (by rfl) T.u_len (by decide +kernel) (pa_cons (pe_ix (ix_tupK K) (z_ixO (kFld K (pe_fld (pv 0) rfl)) (pe_ix (ix_listK K) (pv 2) pe_int (fun _ _ => rfl)) T.m_Setup_getitem.at_ T.sub_Setup T.m_Setup_getitem.fn (ok_Setup_getitem T) T.c_Setup_getitem (hr.mono (by decide)) passL) pe_int (fun _ _ => rfl)) pa_nil)) (nomark _))
      (pss_cons (ps_asg (z_meth0 (pv 0) T.cl_Core T.m_Core_step_now (ok_Core_step_now T) T.c_Core_step_now (hr.mono (by decide)) passL) (kGT K (pg_tup (n := 2) rfl (pgs_cons (zg 3 sc_Core_pass_steps.nd) (pgs_cons (zg 4 sc_Core_pass_steps.nd) pgs_nil)))))
      (pss_cons (ps_if (PW.pt (pw_or (pt_cmpR op_eq (pv 3) (z_str T.i_RUN) (nomark _)) (pw_or1 (PW.pt (pw_and (pt_cmpR op_eq (pv 3) (z_str T.i_AWAIT) (nomark _)) (pw_and1 (pt_not (pt_val (z_meth (pv 1) T.cl_Board T.m_Board_is_up (ok_Board_is_up T) T.c_Board_is_up (hr.mono (by decide)) passL (pa_cons (pv 4) pa_nil)))))))))) (pss_one (ps_ret (pe_lst pa_nil))) pss_nil)
      (pss_cons (ps_expr (z_meth (pv 0) T.cl_Core T.m_Core_pass_step (ok_Core_pass_step T) T.c_Core_pass_step (hr.mono (by decide)) passL (pa_cons (pv 3) (pa_cons (pv 4) (pa_cons (pv 1) pa_nil)))))
      (pss_one (ps_augS (pv 2) pe_int (get_listK K) pe_int ip_add set_list))))))
      (pss_cons (ps_expr (kBM0 K (pe_bm0 PySem.F.plainAttrs_list PySem.F.slot_list_pop PySem.F.type_list_pop mt_pop (kFld K (pe_fld (pv 0) rfl)))))
      (pss_cons (ps_fld (pv 0) (pe_ix (ix_listK K) (pv 2) pe_int (fun _ _ => rfl)) rfl)
      (pss_cons (ps_expr (z_meth (pv 1) T.cl_Board T.m_Board_ended (ok_Board_ended T) T.c_Board_ended (hr.mono (by decide)) passL (pa_cons (pe_ix (ix_listK K) (pv 2) pe_int (fun _ _ => rfl)) pa_nil)))
      (pss_one (ps_ret (pe_lst (pa_cons (pe_tup (pa_cons pe_str (pa_cons (pe_ix (ix_listK K) (pv 2) pe_int (fun _ _ => rfl)) pa_nil))) pa_nil))))))))), ?_⟩)
  · obtain ⟨PD, P, D, C, E, B, fs, f, rfl, _⟩ := h
    rfl
  obtain ⟨PD, P, D, C, E, B, fs, f, rfl, st, e, hfn, hft, q⟩ := h
  show (_ : TS) _ [some (.ref D.c), some (.ref E.b), none, none, none] H
  try dsimp only [cxOf]
  obtain ⟨dx, hc⟩ := st.co.ins
  obtain ⟨as, a, ed, ha, _⟩ := st.co.last e
  have hfr := st.co.fr
  repeat walk_at "zz"
  refine s_ixL (SqL.of hfr) (v := .ref a) (by rw [ed, List.map_append]; exact atI_last) ?_
  repeat walk_at "zz"
  refine ⟨fun m σ H1 => ∃ D1 C1 B1 f1 x y, σ = [some (.ref D.c), some (.ref E.b), some (.ref a), x, y] ∧ Chg H D E H1 D1 ∧ CSt K H1 PD P D1 C1 E B1 ∧ C1.frames = fs ++ [f1] ∧ f1.ln = f.ln ∧ D1.fs = D.fs ∧ B1.taken = B.taken ∧
    m = ((P.ln f.ln).st.drop f1.st).length ∧ Z.passL P fs f1 C1.limit C1.jobs B1 ((P.ln f.ln).st.drop f1.st) = pass P fs f C.limit C.jobs B,
    ⟨_, D, C, B, f, none, none, rfl, Chg.refl, st, e, rfl, rfl, rfl, rfl, rfl⟩, ?_⟩
  rintro m σ H1 ⟨D1, C1, B1, f1, x, y, rfl, ch, st1, e1, hl1, hfs1, hta, rfl, hp⟩
  have hf1n : f1.ln ∈ P.names := by rw [hl1]; exact hfn
  rw [← hl1] at hp hft
  rw [← hl1]
  obtain ⟨dx1, hc1⟩ := st1.co.ins
  obtain ⟨pdx, pa, pb, hpl, _⟩ := st1.pl.ins
  obtain ⟨bdx, hb1⟩ := st1.bd.ins
  rw [ch.c] at hc1
  obtain ⟨as1, a1, ed1, ha1, _⟩ := st1.co.last e1
  rw [hfs1, ed] at ed1
  obtain ⟨_, e4⟩ := List.append_inj' ed1 rfl
  cases e4
  have hq1 : SqL K H1 a [.str f1.ln, .int f1.st, .int f1.tk, .int f1.kp] := SqL.of ha1
  repeat walk_at "zz"
  refine s_getit st1.pl hf1n fun c stt ss hTc hTs hAs => ?_
  repeat walk_at "zz"
  have hssl : ss.length = (P.ln f1.ln).st.length := by rw [hAs.len, List.length_map]
  refine s_lenT hTs ?_
  repeat walk_at "zz"
  rw [hssl]
  refine ite_b (fun hlt => ?_) (fun hlt => ?_)
  · have hlt' : f1.st < (P.ln f1.ln).st.length := by simpa using hlt
    obtain ⟨⟨wd, k⟩, hs⟩ : ∃ s, (P.ln f1.ln).st[f1.st]? = some s := ⟨_, List.getElem?_eq_getElem hlt'⟩
    have hd : (P.ln f1.ln).st.drop f1.st = (wd, k) :: (P.ln f1.ln).st.drop (f1.st + 1) := by
      rw [List.drop_eq_getElem_cons hlt']
      congr 1
      exact (List.getElem?_eq_some_iff.mp hs).2
    have sis := st1.pl.ok.step (st1.pl.ok.ln_mem hf1n).1 (List.mem_of_getElem? hs)
    rw [hd] at hp
    unfold Z.passL at hp
    have fin : stops B1 (wd, k) = true → ∀ p H2, H1 p = none → Same H1 H2 → H2 p = some (.lst []) → Q (.ref p) H2 := fun hst p H2 hp1 s2 e2 => by
      rw [if_pos hst] at hp
      have eC : C1 = ⟨fs ++ [f1], C1.limit, C1.jobs⟩ := by
        cases C1
        cases e1
        rfl
      refine q H2 D1 p (ch.trans (Chg.same s2)) ?_ (ch.fr.back hp1) (fun z => st1.co.ex _ z hp1) ?_
      · rw [← hp, ← eC]
        exact st1.same s2
      · rw [← hp]
        exact ⟨[], e2, .nil⟩
    refine ⟨_, fun σ' H' n => n, ?_⟩
    repeat walk_at "zz"
    refine ⟨PD, P, D1, C1, fs, f1, (wd, k), by rw [ch.c]; rfl, st1.pl, st1.co, e1, hf1n, hs, fun v hv => ?_⟩
    obtain ⟨t, zs, rfl, hT, hA⟩ := hv.tupI
    cases hA with | cons h1 hA => ?_
    cases hA with | cons h2 hA => ?_
    cases hA
    cases h1
    cases dp_kD h2
    refine s_gtup hT rfl ?_
    repeat walk_at "zb"
    refine tt_by (stops B1 (wd, k)) H1 (fun R r => ?_) ?_
    · unfold stops at r
      simp only at r
      repeat walk_at "zz"
      refine ite_b (fun h => ?_) (fun h => ?_)
      · have hw : wd = "run" := by simpa using h
        rw [decide_eq_true hw, Bool.true_or] at r
        exact r
      have hnr : wd ≠ "run" := by simpa using h
      rw [decide_eq_false hnr, Bool.false_or] at r
      repeat walk_at "zz"
      refine ite_b (fun h => ?_) (fun h => ?_)
      · have hw : wd = "await" := by simpa using h
        subst hw
        obtain ⟨i, rfl⟩ := sis.await_int
        repeat walk_at "zz"
        refine ⟨PD.p, E, B1, i, rfl, st1.bd, ?_⟩
        repeat walk_at "zz"
        exact r
      · have hw : ¬ wd = "await" := by simpa using h
        rw [decide_eq_false hw, Bool.false_and] at r
        exact r
    refine ite_b (fun hst => ?_) (fun hst => ?_)
    · repeat walk_at "zz"
      exact fin hst _ _ (by assumption) (by assumption) (by assumption)
    have hnr := stops_no hst
    rw [if_neg (by rw [hst]; simp)] at hp
    repeat walk_at "zz"
    refine ⟨PD, P, D1, C1, E, B1, (wd, k), by rw [ch.c]; rfl, st1, sis, hnr, fun H2 D2 ch2 hfs2 st2 => ?_⟩
    have ed2 : D2.fs = as ++ [a] := by rw [hfs2, hfs1, ed]
    have ha2 : H2 a = some (.lst (frV f1)) := by
      obtain ⟨as2, a2, ed3, ha2, _⟩ := st2.co.last (f := f1) (fs := fs) e1
      rw [ed2] at ed3
      obtain ⟨_, e5⟩ := List.append_inj' ed3 rfl
      cases e5
      exact ha2
    have hq2 : SqL K H2 a [.str f1.ln, .int f1.st, .int f1.tk, .int f1.kp] := SqL.of ha2
    repeat walk_at "zz"
    refine s_setL ha2 (j := 1) rfl ?_
    have co3 := st2.co.setFrm (fs := fs) (f := f1) (g := { f1 with st := f1.st + 1 }) e1 ed2
    have ham : a ∈ D2.own := by simp [CA.own, ed2]
    have f3 : ∀ o, Fr D2.own H2 (upd H2 a o) := fun o => Fr.upd ham ha2 rfl
    rw [show ((frV f1).set 1 (.int ((f1.st : Int) + 1))) = frV { f1 with st := f1.st + 1 } from frV_st]
    repeat walk_at "zz"
    refine ⟨_, ?_, D2, _, _, { f1 with st := f1.st + 1 }, _, _, rfl, (ch.trans ch2).trans (Chg.core (f3 _) rfl fun _ h => .inl h), st2.core (f3 _) co3 (fun _ h => .inl h) st2.jok, rfl, rfl, by rw [hfs2, hfs1], by rw [stepFx_taken, hta], rfl, hp⟩
    rw [hd]
    simp
  · have hlt' : ¬ f1.st < (P.ln f1.ln).st.length := by simpa using hlt
    have hd : (P.ln f1.ln).st.drop f1.st = [] := List.drop_eq_nil_of_le (by omega)
    rw [hd] at hp
    unfold Z.passL at hp
    have hfr1 := st1.co.fr
    have ed2 : D1.fs = as ++ [a] := by rw [hfs1, ed]
    have edl : D1.fs.map V.ref = as.map V.ref ++ [V.ref a] := by rw [ed2, List.map_append]; rfl
    repeat walk_at "zz"
    refine s_tyL hfr1 (s_pop hfr1 (y := .ref a) (by rw [edl]; simp) ?_)
    rw [edl, List.dropLast_concat]
    have co2 := st1.co.popF e1 ed2
    have sp1 := CA.sep st1.co.nd
    have f2 : Fr [D1.fr] H1 (upd H1 D1.fr (.lst (as.map V.ref))) := Fr.upd (by simp) hfr1 rfl
    have f2' : Fr D1.own H1 (upd H1 D1.fr (.lst (as.map V.ref))) := Fr.upd (by simp [CA.own]) hfr1 rfl
    have ham : a ∈ D1.fs := by rw [ed2]; simp
    have hin : ∀ c ∈ CA.own { D1 with fs := as }, c ∈ D1.own := fun c hc => by
      simp only [CA.own, List.mem_cons, List.mem_append] at hc ⊢
      rw [ed2]
      simp only [List.mem_append]
      rcases hc with h | h | h | h | h
      · exact .inl h
      · exact .inr (.inl h)
      · exact .inr (.inr (.inl h))
      · exact .inr (.inr (.inr (.inl (.inl h))))
      · exact .inr (.inr (.inr (.inr h)))
    have st2 := st1.core f2' co2 (fun c hc => .inl (hin c hc)) st1.jok
    have ha2 := f2.at ha1 (by simp only [List.mem_singleton]; rintro rfl; exact sp1.frfs ham)
    rw [← ch.c] at hc1
    have hc2 := f2.at hc1 (by simp [sp1.cfr])
    generalize upd H1 D1.fr (.lst (as.map V.ref)) = H2 at *
    have hq2 : SqL K H2 a [.str f1.ln, .int f1.st, .int f1.tk, .int f1.kp] := SqL.of ha2
    repeat walk_at "zz"
    rw [← ch.c]
    refine s_fldput hc2 T.cl_Core T.n_Core_limit (of_decide_eq_true (by kernel_rfl)) ?_
    rw [show putF "limit" (V.int f1.kp) (coreF PD.p D1.fr D1.jo C1.limit) = coreF PD.p D1.fr D1.jo f1.kp from coF_putl]
    have co3 := co2.setLim f1.kp hc2
    have f3 : Fr [D1.c] H2 (upd H2 D1.c (.ins (ga K "Core") dx1 (coreF PD.p D1.fr D1.jo f1.kp))) := Fr.upd (by simp) hc2 rfl
    have f3' : Fr (CA.own { D1 with fs := as }) H2 (upd H2 D1.c (.ins (ga K "Core") dx1 (coreF PD.p D1.fr D1.jo f1.kp))) := Fr.upd (by simp [CA.own]) hc2 rfl
    have st3 := st2.core f3' co3 (fun _ h => .inl h) st1.jok
    have ha3 := f3.at ha2 (by simp only [List.mem_singleton]; rintro rfl; exact sp1.cfs ham)
    have k3 : Fr D1.own H1 (upd H2 D1.c (.ins (ga K "Core") dx1 (coreF PD.p D1.fr D1.jo f1.kp))) := f2'.trans (f3'.mono hin)
    generalize upd H2 D1.c (.ins (ga K "Core") dx1 (coreF PD.p D1.fr D1.jo f1.kp)) = H3 at *
    have hq3 : SqL K H3 a [.str f1.ln, .int f1.st, .int f1.tk, .int f1.kp] := SqL.of ha3
    obtain ⟨bdx3, hb3⟩ := st3.bd.ins
    repeat walk_at "zz"
    refine ⟨PD.p, E, B1, f1.ln, rfl, st3.bd, by rw [hta]; exact hft, fun H4 f4 b4 => ?_⟩
    have st4 := st3.board f4 b4 (st1.bok.ended f1.ln)
    have ha4 := f4.at ha3 (fun z => st1.de a (by simp [CA.own, ham]) z)
    have hq4 : SqL K H4 a [.str f1.ln, .int f1.st, .int f1.tk, .int f1.kp] := SqL.of ha4
    repeat walk_at "zz"
    rename_i t ht H5 s5 e5 l hl H6 s6 e6
    have ch4 : Chg H1 D1 E H4 { D1 with fs := as } := (Chg.core (D' := { D1 with fs := as }) k3 rfl fun c hc => .inl (hin c hc)).trans (Chg.board f4)
    have hl4 := s5.fr.back (A := []) hl
    refine q H6 { D1 with fs := as } l (ch.trans (ch4.trans (Chg.same (s5.trans s6)))) ?_ (ch.fr.back (ch4.fr.back hl4)) (fun z => st4.co.ex _ z hl4) ?_
    · rw [← hp]
      exact st4.same (s5.trans s6)
    · rw [← hp]
      exact ⟨_, e6, .cons (.tup (s6.sqT (SqT.of e5)) (.cons (.str _) (.cons (.str _) .nil))) .nil⟩
def spCBegin (K : Fg) : Sp := fun vs H Q _ => ∃ PD P D C E B z, vs = [.ref D.c, .str z, .ref E.b] ∧ CSt K H PD P D C E B ∧ C.frames.length ≤ 1000 ∧ z ∈ P.names ∧ z ∉ B.taken ∧
  ∀ H' D' l, Chg H D E H' D' → CSt K H' PD P D' (pass P C.frames ⟨z, 0, 0, C.limit⟩ C.limit C.jobs (B.begun z)).1 E (pass P C.frames ⟨z, 0, 0, C.limit⟩ C.limit C.jobs (B.begun z)).2.1 → H l = none → l ∉ D'.own → EvAt K H' l (pass P C.frames ⟨z, 0, 0, C.limit⟩ C.limit C.jobs (B.begun z)).2.2 → Q (.ref l) H'
theorem ok_Core_begin (T : Txt K mg) : FnOk P w K mg base (L2.CX P w) 9 (ma K (ga K "Core") "begin") (fdOf K (ma K (ga K "Core") "begin")) ["self", "line", "board"] (spCBegin K) := by
  refine FunD.ok T.F_Core_begin sc_Core_begin (fun vs H Q E h => ?_) (fun cdv A outer s H vs Q E hr h => ⟨_, PSs.nox (pss_cons (ps_expr (z_meth (pv 2) T.cl_Board T.m_Board_begun (ok_Board_begun T) T.c_Board_begun (hr.mono (by decide)) passL (pa_cons (pv 1) pa_nil)))
      (pss_cons (ps_expr (kBM K (pe_bm PySem.F.plainAttrs_list PySem.F.slot_list_append PySem.F.type_list_append mt_append (kFld K (pe_fld (pv 0) rfl)) (pa_cons (pe_lst (pa_cons (pv 1) (pa_cons pe_int (pa_cons pe_int (pa_cons (kFld K (pe_fld (pv 0) rfl)) pa_nil))))) pa_nil))))
      (pss_one (ps_ret (z_meth (pv 0) T.cl_Core T.m_Core_pass_steps (ok_Core_pass_steps T) T.c_Core_pass_steps (hr.mono (by decide)) passL (pa_cons (pv 2) pa_nil)))))), ?_⟩)
  · obtain ⟨PD, P, D, C, E, B, z, rfl, _⟩ := h
    rfl
  obtain ⟨PD, P, D, C, E, B, z, rfl, st, hlen, hz, hzt, q⟩ := h
  show (_ : TS) _ [some (.ref D.c), some (.str z), some (.ref E.b)] H
  try dsimp only [cxOf]
  obtain ⟨bdx, hb⟩ := st.bd.ins
  have l1 := st.bok.ta.len12 st.pl.ok
  have l2 := st.bok.wa.len12 st.pl.ok
  repeat walk_at "zz"
  refine ⟨PD.p, E, B, z, rfl, st.bd, by omega, by omega, fun H1 f1 b1 => ?_⟩
  have st1 := st.board f1 b1 (st.bok.begun hz hzt)
  obtain ⟨dx1, hc1⟩ := st1.co.ins
  repeat walk_at "zz"
  refine s_tyL st1.co.fr ?_
  repeat walk_at "zz"
  rename_i t ht H2 s2 e2
  have st2 := st1.same s2
  have hfl : D.fs.length ≤ 1000 := by
    have := st.co.fs.len
    rw [List.length_map] at this
    omega
  refine s_append st2.co.fr (by rw [List.length_map, sizeLine_eq]; omega) ?_
  have nt : t ∉ D.own := fun z => st1.co.ex t z ht
  have co3 := st2.co.pushF (g := ⟨z, 0, 0, C.limit⟩) e2 nt
  rw [List.map_append] at co3
  have f3 : Fr D.own H2 (upd H2 D.fr (.lst (D.fs.map V.ref ++ [V.ref t]))) := Fr.upd (by simp [CA.own]) st2.co.fr rfl
  have own2 : ∀ a ∈ CA.own { D with fs := D.fs ++ [t] }, a ∈ D.own ∨ a = t := fun a ha => by
    simp only [CA.own, List.mem_cons, List.mem_append, List.not_mem_nil, or_false] at ha ⊢
    rcases ha with h | h | h | (h | h) | h
    · exact .inl (.inl h)
    · exact .inl (.inr (.inl h))
    · exact .inl (.inr (.inr (.inl h)))
    · exact .inl (.inr (.inr (.inr (.inl h))))
    · exact .inr h
    · exact .inl (.inr (.inr (.inr (.inr h))))
  have own1 : ∀ a ∈ CA.own { D with fs := D.fs ++ [t] }, a ∈ D.own ∨ H1 a = none := fun a ha => (own2 a ha).imp id fun e => by rw [e]; exact ht
  have st3 := st1.core (s2.fr.trans f3) co3 own1 st.jok
  have ch3 : Chg H D E _ { D with fs := D.fs ++ [t] } := (Chg.board (D := D) f1).trans (Chg.core (s2.fr.trans f3) rfl own1)
  obtain ⟨dx3, hc3⟩ := st3.co.ins
  generalize upd H2 D.fr (.lst (D.fs.map V.ref ++ [V.ref t])) = H3 at *
  repeat walk_at "zz"
  refine ⟨PD, P, { D with fs := D.fs ++ [t] }, _, E, B.begun z, C.frames, ⟨z, 0, 0, C.limit⟩, rfl, st3, rfl, hz, by simp [Bd.begun], fun H4 D4 l ch4 st4 hl nl ev => ?_⟩
  exact q H4 D4 l (ch3.trans ch4) st4 (ch3.fr.back hl) nl ev
end
end T
set_option maxHeartbeats 1000000
namespace T
open PySem PySem.Spec PyProof.Rows L2 Z
open He (ga ma)
local macro_rules | `(tactic| walk_at "z") => `(tactic| first
  | with_reducible refine s_seq ?_
  | with_reducible refine s_asg ?_
  | with_reducible refine s_gname ?_
  | with_reducible refine s_ret ?_
  | with_reducible refine s_retN ?_
  | with_reducible refine s_ifS ?_
  | with_reducible refine s_drop ?_
  | with_reducible refine s_next ?_
  | with_reducible refine s_cont ?_
  | with_reducible refine s_break ?_
  | with_reducible refine s_par ?_
  | with_reducible refine s_par2 ?_
  | with_reducible refine s_c ?_
  | ((with_reducible refine s_var (v := ?v1) ?h1 ?q1); (case h1 => exact rfl))
  | with_reducible refine s_op ?_
  | with_reducible refine s_un ?_
  | with_reducible refine s_cb ?_
  | with_reducible refine s_cons ?_
  | with_reducible refine s_nil ?_
  | with_reducible refine s_star ?_
  | with_reducible refine s_test ?_
  | with_reducible refine s_B ?_
  | with_reducible refine s_and ?_
  | with_reducible refine s_or ?_
  | with_reducible refine s_not ?_
  | with_reducible refine s_andV ?_
  | with_reducible refine s_orV ?_
  | with_reducible refine s_notV ?_
  | with_reducible refine s_if ?_
  | with_reducible refine s_chain ?_
  | with_reducible refine s_call ?_
  | with_reducible refine s_bl ?_
  | with_reducible refine s_yes ?_
  | with_reducible refine s_gcons ?_
  | with_reducible refine s_gnil ?_
  | with_reducible refine s_din ?_
  | with_reducible refine s_dnin ?_
  | with_reducible refine s_dget ?_
  | with_reducible refine s_bm ?_
  | with_reducible refine s_bm0 ?_
  | with_reducible refine s_fldg ?_
  | with_reducible refine s_meth ?_
  | with_reducible refine s_prop ?_
  | with_reducible refine s_lcT ?_
  | with_reducible refine s_daugg ?_
  | with_reducible refine s_disp ?_
  | with_reducible refine s_pcons ?_
  | with_reducible refine s_pnil ?_
  | with_reducible refine s_gsub ?_
  | with_reducible refine s_augS ?_
  | with_reducible refine s_fldaug ?_
  | with_reducible refine s_add ?_
  | with_reducible refine s_ipI ?_
  | with_reducible refine s_ixO ?_
  | with_reducible refine s_lcL ?_
  | with_reducible refine s_dputg ?_
  | with_reducible refine s_for ?_
  | with_reducible refine s_rng1 ?_
  | with_reducible refine s_iT ?_
  | with_reducible refine s_iL ?_
  | with_reducible refine Or.inl (Exists.intro _ (And.intro rfl ?_))
  | with_reducible refine Or.inr (Exists.intro _ (And.intro rfl ?_))
  | with_reducible refine s_make ?_
  | with_reducible refine s_sl ?_
  | with_reducible refine s_nop ?_
  | with_reducible refine s_part ?_
  | with_reducible refine s_lcE ?_
  | with_reducible refine s_lc ?_
  | with_reducible refine s_dcT ?_
  | with_reducible refine s_cvalg ?_
  | with_reducible refine s_fldS ?_
  | with_reducible refine s_I0 ?_
  | with_reducible refine s_U ?_
  | ((with_reducible refine s_eq ?h1 ?q1); (case h1 => exact rfl))
  | ((with_reducible refine s_ne ?h1 ?q1); (case h1 => exact rfl))
  | (with_reducible refine s_tup ?_)
  | (with_reducible refine s_lst ?_)
  | ((with_reducible refine s_isi (d := ?d1) ?h1 ?h2 ?q1); (case h1 => first | assumption | constructor); (case h2 => decide))
  | with_reducible refine ⟨_, _, rfl, rfl, ?_⟩
  | with_reducible refine ⟨_, rfl, ?_⟩)
local macro_rules | `(tactic| walk_at "zi") => `(tactic| first
  | walk_at "z"
  | ((with_reducible refine ite_f ?h1 ?q1); (case h1 => rfl))
  | ((with_reducible refine ite_t ?h1 ?q1); (case h1 => rfl)))
local macro_rules | `(tactic| walk_at "zn") => `(tactic| (intro p hp; generalize eH : upd _ p _ = H2; have s2 := newS hp eH; have e2 := newE eH; clear eH))
local macro_rules | `(tactic| walk_at "zt") => `(tactic| ((with_reducible refine And.intro ?h1 ?_); (case h1 => exact Nat.le_of_ble_eq_true rfl); intro p hp; generalize eH : upd _ p _ = H2; have s2 := newS hp eH; have e2 := newE eH; clear eH))
local macro_rules | `(tactic| walk_at "hl") => `(tactic| first
  | assumption
  | ((with_reducible apply at_same); (· assumption); · walk_at "hl")
  | ((with_reducible apply sqT_same); (· assumption); · walk_at "hl")
  | ((with_reducible apply sqL_same); (· assumption); · walk_at "hl")
  | ((with_reducible apply SqT.of); · walk_at "hl")
  | ((with_reducible apply SqL.of); · walk_at "hl")
  | ((with_reducible apply dp_same); (· assumption); · walk_at "hl")
  | ((with_reducible apply dpA_same); (· assumption); · walk_at "hl")
  | ((with_reducible apply pl_same); (· assumption); · walk_at "hl")
  | ((with_reducible apply bd_same); (· assumption); · walk_at "hl")
  | ((with_reducible apply co_same); (· assumption); · walk_at "hl")
  | ((with_reducible apply cst_same); (· assumption); · walk_at "hl")
  | ((with_reducible apply sg_same); (· assumption); · walk_at "hl")
  | ((with_reducible apply row_same); (· assumption); · walk_at "hl")
  | ((with_reducible apply md_same); (· assumption); · walk_at "hl")
  | ((with_reducible apply plm_same); (· assumption); · walk_at "hl")
  | ((with_reducible apply mst_same); (· assumption); · walk_at "hl")
  | ((with_reducible apply ev_same); (· assumption); · walk_at "hl"))
local macro_rules | `(tactic| walk_at "lk") => `(tactic| with_reducible first
  | exact plF_lr | exact plF_wr | exact plF_rn | exact plF_wn
  | exact bdF_plan | exact bdF_sh | exact bdF_wa | exact bdF_hi | exact bdF_ta | exact bdF_ra | exact bdF_jo
  | exact sgF_plan | exact sgF_board | exact sgF_core | exact sgF_time | exact sgF_sums
  | exact coF_plan | exact coF_fr | exact coF_lim | exact coF_jo)
local macro_rules | `(tactic| walk_at "mk") => `(tactic| with_reducible first | exact mk_ca | exact mk_ed | exact mk_hi | exact mk_up | exact mk_sh | exact mk_bar | exact mk_jo | exact mk_now | exact mk_lg | exact mk_sp | exact mk_jn | exact mk_ln | exact mk_wk)
local macro_rules | `(tactic| walk_at "cl") => `(tactic| with_reducible first | exact Txt.cl_Setup (by assumption) | exact Txt.cl_Board (by assumption) | exact Txt.cl_Core (by assumption) | exact Txt.cl_Single (by assumption))
local macro_rules | `(tactic| walk_at "na") => `(tactic| with_reducible first | exact Txt.n_Setup_line_rows (by assumption) | exact Txt.n_Setup_work_rows (by assumption) | exact Txt.n_Setup_rows_by_name (by assumption) | exact Txt.n_Setup_works_by_name (by assumption) | exact Txt.n_Board_plan (by assumption) | exact Txt.n_Board_shut (by assumption) | exact Txt.n_Board_wanted (by assumption) | exact Txt.n_Board_high (by assumption) | exact Txt.n_Board_taken (by assumption) | exact Txt.n_Board_raised (by assumption) | exact Txt.n_Board_joined (by assumption) | exact Txt.n_Core_plan (by assumption) | exact Txt.n_Core_frames (by assumption) | exact Txt.n_Core_limit (by assumption) | exact Txt.n_Core_jobs (by assumption) | exact Txt.n_Single_plan (by assumption) | exact Txt.n_Single_board (by assumption) | exact Txt.n_Single_core (by assumption) | exact Txt.n_Single_time (by assumption) | exact Txt.n_Single_sums (by assumption))
local macro_rules | `(tactic| walk_at "zz") => `(tactic| first
  | walk_at "zi"
  | ((with_reducible apply s_fldat); (· walk_at "hl"); (· walk_at "cl"); (· walk_at "na"); (· walk_at "lk"))
  | ((with_reducible apply s_methat); (· walk_at "hl"); (· kernel_rfl))
  | ((with_reducible apply s_propat); (· walk_at "hl"))
  | ((with_reducible apply s_ixT); (· walk_at "hl"); (· with_reducible first | exact at0 | exact at1 | exact at2 | exact at3 | exact at4))
  | ((with_reducible apply s_ixL); (· walk_at "hl"); (· with_reducible first | exact at0 | exact at1 | exact at2 | exact at3 | exact at4))
  | ((with_reducible apply s_dgS); (· walk_at "hl"); (· walk_at "mk"))
  | walk_at "zt")
local macro_rules | `(tactic| walk_at "zm") => `(tactic| (intro x dx hx hdx hne; generalize eH : upd (upd _ dx _) x _ = H2; have s2 := mkS hx hdx eH; have e2 := mkE eH; clear eH hdx hne))
local macro_rules | `(tactic| walk_at "zb") => `(tactic| with_reducible first | refine s_gcons ?_ | refine s_gnil ?_ | refine s_gname ?_ | refine s_seq ?_ | refine s_ifS ?_ | refine s_if ?_ | refine s_next ?_ | refine s_drop ?_ | refine s_ret ?_ | refine s_asg ?_)
/-- a work by its name -/
theorem s_work {K : Fg} {H : Hp} {PD : Z.PA} {P : Pl} {z : Str} {R : V → Prop} (pl : PlanAt K H PD P) (hz : z ∈ P.wnames) (q : ∀ c, SqT K H c [.str z, .int (P.wk z).rk, .int (P.wk z).tk] → R (.ref c)) :
    ∃ b u, V.ref PD.wd = .ref b ∧ DGet H b (.str z) (some u) ∧ R u := by
  obtain ⟨kvs, h1, h2, h3⟩ := pl.works.at_
  obtain ⟨hw, en⟩ := pl.ok.wk_mem hz
  obtain ⟨v, h4, h5⟩ := h3 _ hw
  rw [en] at h4
  refine s_dgS h1 h4 ?_
  obtain ⟨c, zs, rfl, hT, hA⟩ := h5.tupI
  cases hA with | cons h1 hA => ?_
  cases hA with | cons h2 hA => ?_
  cases hA with | cons h3 hA => ?_
  cases hA
  cases h1
  cases h2
  cases h3
  rw [en] at hT
  exact q c hT
def spCPlaces (K : Fg) : Sp := fun vs H Q _ => ∃ PD P D C, vs = [.ref D.c] ∧ PlanAt K H PD P ∧ CoreAt K H PD.p D C ∧ (∀ j ∈ C.jobs, j.1 ∈ P.wnames) ∧ C.jobs.length ≤ 1000 ∧ ∀ H' l, Same H H' → H l = none → H' l = some (.lst ((places P C.jobs).map fun n => V.int (n : Nat))) → Q (.ref l) H'
section
variable {P : Program} {w : World} {K : Fg} {mg : Str → Option Value} {base : Heap}
theorem ok_Core_job_places (T : Txt K mg) : FnOk P w K mg base (L2.CX P w) 1 (ma K (ga K "Core") "job_places") (fdOf K (ma K (ga K "Core") "job_places")) ["self"] (spCPlaces K) := by
  refine FunD.ok T.F_Core_job_places sc_Core_job_places (fun vs H Q E h => ?_) (fun cdv A outer s H vs Q E hr h => ⟨_, PSs.nox (pss_cons (ps_setLc (i := 1) (own := [("place", 2), ("job", 3)]) rfl sc_Core_job_places.nd rfl rfl (sw_true rfl rfl rfl (by decide +kernel)) (kIE K (pi_enum (by rfl) T.u_enumerate (pa_cons (kFld K (pe_fld (pv 0) rfl)) pa_nil))) (blkOk_by (own := [("place", 2), ("job", 3)]) (N := n_Core_job_places) (sc := defScope s_Core_job_places) (by decide +kernel)) (fun _ _ _ _ _ => (kGT K (pg_tup (n := 2) rfl (pgs_cons (zg 2 sc_Core_job_places.nd) (pgs_cons (zg 3 sc_Core_job_places.nd) pgs_nil))))) (fun _ _ _ _ _ => pts_nil) (fun _ _ _ _ _ => (pe_tup (pa_cons (pe_op op_sub pe_int (pe_ix (ix_tupK K) (pe_dget (hu_of hr) (kFld K (pe_fld (kFld K (pe_fld (pv 0) rfl)) rfl)) (pe_ix (ix_listK K) (pv 3) pe_int (fun _ _ => rfl)) (fun _ _ => rfl)) pe_int (fun _ _ => rfl))) (pa_cons (pv 2) pa_nil)))))
      (pss_one (ps_ret (pe_lc (own := [("rank", 4), ("place", 2)]) rfl sc_Core_job_places.nd (kIL K (pi_list (pe_callB (cr_sortedDatK K hr.units) (by rfl) T.u_sorted (by decide +kernel) (pa_cons (pv 1) pa_nil)))) (blkOk_by (own := [("rank", 4), ("place", 2)]) (N := n_Core_job_places) (sc := defScope s_Core_job_places) (by decide +kernel)) (fun _ _ _ _ _ => (kGT K (pg_tup (n := 2) rfl (pgs_cons (zg 4 sc_Core_job_places.nd) (pgs_cons (zg 2 sc_Core_job_places.nd) pgs_nil))))) (fun _ _ _ _ _ => pts_nil) (fun _ _ _ _ _ => (pv 2)))))), ?_⟩)
  · obtain ⟨PD, P, D, C, rfl, _⟩ := h
    rfl
  obtain ⟨PD, P, D, C, rfl, pl, co, hj, hlen, q⟩ := h
  show (_ : TS) _ [some (.ref D.c), none, none, none, none] H
  try dsimp only [cxOf]
  obtain ⟨dx, hc⟩ := co.ins
  obtain ⟨pdx, pa, pb, hpl, _⟩ := pl.ins
  obtain ⟨_, xs, e, hL, hA⟩ := (dp_jobs co).lstI
  cases e
  repeat walk_at "zz"
  refine lcE_d (l := C.jobs) hL hA (fun i j => jobD P (j, i)) (by omega) (fun _ _ => rfl) (fun i j v t H1 Yes No hi s1 hd ht yes => ?_) (fun D1 H1 ys hD1 s1 e1 a1 => ?_)
  · obtain ⟨a, zs, rfl, hLa, hAa⟩ := hd.lstI
    cases hAa with | cons h1 hAa => ?_
    cases hAa with | cons h2 hAa => ?_
    cases hAa
    cases h1
    cases h2
    refine s_gtup ht rfl ?_
    repeat walk_at "zz"
    refine ⟨rfl, ?_⟩
    repeat walk_at "zz"
    refine s_work (pl.same s1) (hj _ (List.mem_of_getElem? hi)) fun c hTc => ?_
    repeat walk_at "zz"
    rename_i p hp H2 s2 e2
    exact yes _ _ s2 (.tup (SqT.of e2) (.cons (.int _) (.cons (.int _) .nil)))
  repeat walk_at "zz"
  replace a1 : DpAll K H1 ys (C.jobs.zipIdx.map (jobD P)) := a1
  refine ⟨D1, ys, _, rfl, SqL.of e1, a1, PySem.W.AllAlike.of (fun _ _ => rfl), PySem.W.Sortable.tuples (fun b => ⟨_, _, rfl⟩), fun d hd => ?_, fun zs p ha hp2 => ?_⟩
  · obtain ⟨l, _, rfl⟩ := List.mem_map.mp hd
    exact of_decide_eq_true rfl
  rw [← List.map_mergeSort (f := jobD P) (r := PySem.W.dataLe false (jobD P)) (s := PySem.W.dataLe false id) (fun a _ b _ => rfl)] at ha
  generalize eH : upd H1 p _ = H2
  have s2 := newS hp2 eH
  have e2 := newE eH
  clear eH
  refine lcL_d (da := jobD P) (SqL.of e2) (ha.same s2) (fun _ => true) (fun x => .int (x.2 : Nat)) (by rw [List.length_mergeSort, List.length_zipIdx]; omega) (fun _ _ => rfl) (fun x v H5 Yes No hl s5 hd yes no => ?_) (fun nm H3 ms hnm s3 e3 a3 => ?_)
  · obtain ⟨t, zs, rfl, ht, hz⟩ := hd.tupI
    cases hz with | cons h1 hz => ?_
    cases hz with | cons h2 hz => ?_
    cases hz
    cases h1
    cases h2
    refine s_gtup ht rfl ?_
    repeat walk_at "zz"
    refine ⟨rfl, ?_⟩
    repeat walk_at "zz"
    exact yes rfl _ _ (Same.refl _) (.int _)
  rw [List.filter_eq_self.mpr (fun _ _ => rfl), map_int] at a3
  have e4 := dp_ints a3
  subst e4
  have s13 := s1.trans s2
  refine q H3 nm (s13.trans s3) (s13.fr.back (A := []) hnm) ?_
  rw [e3]
  unfold places
  rw [List.map_map, List.map_map]
  rfl
def spCWork (K : Fg) : Sp := fun vs H Q _ => ∃ PD P D C E B, vs = [.ref D.c] ∧ CSt K H PD P D C E B ∧ C.jobs ≠ [] ∧
  ∀ H' D' l, Chg H D E H' D' → CSt K H' PD P D' { C with jobs := (doWork P C.jobs).1 } E B → H l = none → l ∉ D'.own → EvAt K H' l (doWork P C.jobs).2 → Q (.ref l) H'
theorem ok_Core_do_work (T : Txt K mg) : FnOk P w K mg base (L2.CX P w) 2 (ma K (ga K "Core") "do_work") (fdOf K (ma K (ga K "Core") "do_work")) ["self"] (spCWork K) := by
  refine FunD.ok T.F_Core_do_work sc_Core_do_work (fun vs H Q E h => ?_) (fun cdv A outer s H vs Q E hr h => ⟨_, PSs.nox (pss_cons (zset 1 sc_Core_do_work.nd (pe_ix (ix_listK K) (z_meth0 (pv 0) T.cl_Core T.m_Core_job_places (ok_Core_job_places T) T.c_Core_job_places (hr.mono (by decide)) passL) pe_int (fun _ _ => rfl)))
      (pss_cons (ps_asg (pe_ix (ix_listK K) (kFld K (pe_fld (pv 0) rfl)) (pv 1) (fun _ _ => rfl)) (kGL K (pg_lst (n := 2) rfl (pgs_cons (zg 2 sc_Core_do_work.nd) (pgs_cons (zg 3 sc_Core_do_work.nd) pgs_nil)))))
      (pss_cons (ps_asg (pe_lst (pa_cons (pv 2) (pa_cons (pe_op op_add (pv 3) pe_int) pa_nil))) (pg_sub (kFld K (pe_fld (pv 0) rfl)) (pv 1) set_list))
      (pss_cons (ps_if (pt_cmpR op_lt (pe_op op_add (pv 3) pe_int) (pe_ix (ix_tupK K) (pe_dget (hu_of hr) (kFld K (pe_fld (kFld K (pe_fld (pv 0) rfl)) rfl)) (pv 2) (fun _ _ => rfl)) pe_int (fun _ _ => rfl)) (nomark _)) (pss_one (ps_ret (pe_lst pa_nil))) pss_nil)
      (pss_cons (ps_fld (pv 0) (pe_op op_cat (pe_slice (sl_listK K) (kFld K (pe_fld (pv 0) rfl)) po_none (po_some (pv 1))) (pe_slice (sl_listK K) (kFld K (pe_fld (pv 0) rfl)) (po_some (pe_op op_add (pv 1) pe_int)) po_none)) rfl)
      (pss_one (ps_ret (pe_lst (pa_cons (pe_tup (pa_cons pe_str (pa_cons (pv 2) pa_nil))) pa_nil))))))))), ?_⟩)
  · obtain ⟨PD, P, D, C, E, B, rfl, _⟩ := h
    rfl
  obtain ⟨PD, P, D, C, E, B, rfl, st, hne, q⟩ := h
  show (_ : TS) _ [some (.ref D.c), none, none, none] H
  try dsimp only [cxOf]
  obtain ⟨dx, hc⟩ := st.co.ins
  have l16 := st.jok.len st.pl.ok
  obtain ⟨k, r, hpl⟩ : ∃ k r, places P C.jobs = k :: r := by
    cases e : places P C.jobs with
    | nil =>
      have := places_len P C.jobs
      rw [e] at this
      exact absurd (List.length_eq_zero_iff.mp this.symm) hne
    | cons k r => exact ⟨k, r, rfl⟩
  obtain ⟨j, hj, hfirst⟩ := places_head hpl
  obtain ⟨a, ha, haj⟩ : ∃ a, D.js[k]? = some a ∧ H a = some (.lst (jbV j)) := st.co.js.geti (by rw [List.getElem?_map, hj]; rfl)
  have hkl : k < D.js.length := (List.getElem?_eq_some_iff.mp ha).1
  have hjl : D.js.length = C.jobs.length := by have := st.co.js.len; rwa [List.length_map] at this
  unfold doWork at q
  simp only [hpl, hj] at q
  repeat walk_at "zz"
  refine ⟨PD, P, D, C, rfl, st.pl, st.co, st.jok.sub, by omega, fun H1 l s1 hl e1 => ?_⟩
  rw [hpl] at e1
  have hL1 : SqL K H1 l (V.int (k : Nat) :: r.map fun n => V.int (n : Nat)) := SqL.of e1
  have st1 := st.same s1
  have hjo1 := st1.co.jo
  repeat walk_at "zz"
  refine s_ixL (SqL.of hjo1) (v := .ref a) (atI_nat (by rw [List.getElem?_map, ha]; rfl)) ?_
  refine s_glst (xs := [.str j.1, .int j.2]) (SqL.of (s1 _ _ haj)) rfl ?_
  repeat walk_at "zz"
  rename_i t ht H2 s2 e2
  have st2 := st1.same s2
  have nt : t ∉ D.own := fun z => st1.co.ex t z ht
  refine s_setL st2.co.jo (j := k) (by rw [List.length_map]; exact ixN_n hkl) ?_
  rw [← List.map_set]
  have co3 := st2.co.setJ (g := (j.1, j.2 + 1)) (by rw [e2]; rfl) nt k
  have f3 : Fr D.own H2 (upd H2 D.jo (.lst ((D.js.set k t).map V.ref))) := Fr.upd (by simp [CA.own]) st2.co.jo rfl
  have own2 : ∀ a ∈ CA.own { D with js := D.js.set k t }, a ∈ D.own ∨ a = t := fun a ha => by
    simp only [CA.own, List.mem_cons, List.mem_append] at ha ⊢
    rcases ha with h | h | h | h | h
    · exact .inl (.inl h)
    · exact .inl (.inr (.inl h))
    · exact .inl (.inr (.inr (.inl h)))
    · exact .inl (.inr (.inr (.inr (.inl h))))
    · rcases List.mem_or_eq_of_mem_set h with h | h
      · exact .inl (.inr (.inr (.inr (.inr h))))
      · exact .inr h
  have own1 : ∀ a ∈ CA.own { D with js := D.js.set k t }, a ∈ D.own ∨ H1 a = none := fun a ha => (own2 a ha).imp id fun e => by rw [e]; exact ht
  have st3 := st1.core (s2.fr.trans f3) co3 own1 (st.jok.setJ hj hfirst _ (Nat.succ_ne_zero _))
  have ch3 : Chg H D E _ { D with js := D.js.set k t } := (Chg.same (D := D) s1).trans (Chg.core (s2.fr.trans f3) rfl own1)
  obtain ⟨dx3, hc3⟩ := st3.co.ins
  obtain ⟨pdx, pa, pb, hpl3, _⟩ := st3.pl.ins
  generalize upd H2 D.jo (.lst ((D.js.set k t).map V.ref)) = H3 at *
  repeat walk_at "zz"
  refine s_work st3.pl (st.jok.sub j (List.mem_of_getElem? hj)) fun c hTc => ?_
  repeat walk_at "zz"
  refine ite_b (fun h => ?_) (fun h => ?_)
  · have h' := of_decide_eq_true h
    simp only [if_pos h'] at q
    repeat walk_at "zz"
    rename_i l4 hl4 H4 s4 e4
    exact q H4 _ l4 (ch3.trans (Chg.same s4)) (st3.same s4) (ch3.fr.back hl4) (fun z => st3.co.ex _ z hl4) ⟨_, e4, .nil⟩
  · have h' := of_decide_eq_false h
    simp only [if_neg h'] at q
    have hjo3 := st3.co.jo
    repeat walk_at "zz"
    refine s_slL (SqL.of hjo3) fun p4 hp4 => ?_
    generalize eH : upd H3 p4 _ = H4
    have s4 := newS hp4 eH
    have e4 := newE eH
    clear eH
    repeat walk_at "zz"
    refine s_slL (SqL.of (s4 _ _ hjo3)) fun p5 hp5 => ?_
    generalize eH : upd H4 p5 _ = H5
    have s5 := newS hp5 eH
    have e5 := newE eH
    clear eH
    rw [cut_take] at e4
    rw [show ((k : Int) + 1) = ((k + 1 : Nat) : Int) by omega, cut_drop] at e5
    have hln : ((D.js.set k t).map V.ref).length ≤ 1000 := by rw [List.length_map, List.length_set]; omega
    replace e4 : H4 p4 = some (.lst (((D.js.set k t).map V.ref).take k)) := e4
    replace e5 : H5 p5 = some (.lst (((D.js.set k t).map V.ref).drop (k + 1))) := e5
    refine s_cat (s5 _ _ e4) e5 (by rw [sizeLine_eq, List.length_take, List.length_drop]; omega) fun p6 hp6 => ?_
    generalize eH : upd H5 p6 _ = H6
    have s6 := newS hp6 eH
    have e6 := newE eH
    clear eH
    rw [List.map_set, set_take_drop, erase_map] at e6
    have s36 := (s4.trans s5).trans s6
    have st6 := st3.same s36
    have hc6 := s36 _ _ hc3
    repeat walk_at "zz"
    refine s_fldput hc6 T.cl_Core T.n_Core_jobs (of_decide_eq_true (by kernel_rfl)) ?_
    rw [show putF "jobs" (V.ref p6) (coreF PD.p D.fr D.jo C.limit) = coreF PD.p D.fr p6 C.limit from coF_putj]
    have sp := CA.sep st.co.nd
    have np6 : p6 ∉ CA.own { D with js := D.js.set k t } := fun z => (st3.same (s4.trans s5)).co.ex _ z hp6
    have hje : ∀ a ∈ D.js.eraseIdx k, a ∈ D.js := fun a ha => List.mem_of_mem_eraseIdx ha
    have hp6H : H3 p6 = none := (s4.trans s5).fr.back (A := []) hp6
    have hp6D : ∀ a ∈ D.own, a ≠ p6 := fun a ha e => st.co.ex a ha (by rw [e]; exact ch3.fr.back hp6H)
    have hls : Lsts H6 (D.js.eraseIdx k) ((C.jobs.eraseIdx k).map jbV) := by
      have h1 := (st6.co.js.take k).app (st6.co.js.drop (k + 1))
      rw [show ({ D with js := D.js.set k t } : CA).js = D.js.set k t from rfl, set_take_drop, List.map_set, set_take_drop, erase_map] at h1
      exact h1
    have co7 := st6.co.newJ (j := p6) (js := D.js.eraseIdx k) (jobs := C.jobs.eraseIdx k) hc6 e6 hls np6 (fun a ha => ⟨hp6D a (by simp [CA.own, hje a ha]), fun e => sp.cjs (by rw [← e]; exact hje a ha), fun e => sp.frjs (by rw [← e]; exact hje a ha), fun z => sp.fj a z (hje a ha)⟩) (sp.jsn.sublist (List.eraseIdx_sublist _ _))
    have f7 : Fr (CA.own { D with js := D.js.set k t }) H6 (upd H6 D.c (.ins (ga K "Core") dx3 (coreF PD.p D.fr p6 C.limit))) := Fr.upd (by simp [CA.own]) hc6 rfl
    have own7 : ∀ a ∈ CA.own { D with jo := p6, js := D.js.eraseIdx k }, a ∈ CA.own { D with js := D.js.set k t } ∨ H3 a = none := fun a ha => by
      simp only [CA.own, List.mem_cons, List.mem_append] at ha ⊢
      rcases ha with h | h | h | h | h
      · exact .inl (.inl h)
      · exact .inl (.inr (.inl h))
      · exact .inr (by rw [h]; exact hp6H)
      · exact .inl (.inr (.inr (.inr (.inl h))))
      · refine .inl (.inr (.inr (.inr (.inr ?_))))
        rw [← set_take_drop (x := t)] at h
        rcases List.mem_append.mp h with h | h
        · exact List.mem_of_mem_take h
        · exact List.mem_of_mem_drop h
    have st7 := st3.core (s36.fr.trans f7) co7 own7 (st.jok.eraseJ k)
    have ch7 := ch3.trans (Chg.core (E := E) (D' := { D with jo := p6, js := D.js.eraseIdx k }) (s36.fr.trans f7) rfl own7)
    generalize upd H6 D.c (.ins (ga K "Core") dx3 (coreF PD.p D.fr p6 C.limit)) = H7 at *
    repeat walk_at "zz"
    rename_i t8 ht8 H8 s8 e8 l9 hl9 H9 s9 e9
    have hl7 := s8.fr.back (A := []) hl9
    exact q H9 _ l9 (ch7.trans (Chg.same (s8.trans s9))) (st7.same (s8.trans s9)) (ch7.fr.back hl7) (fun z => st7.co.ex _ z hl7) ⟨_, e9, .cons (.tup (s9.sqT (SqT.of e8)) (.cons (.str _) (.cons (.str _) .nil))) .nil⟩
end
end T
set_option maxHeartbeats 1000000
namespace T
open PySem PySem.Spec PyProof.Rows L2 Z
open He (ga ma)
local macro_rules | `(tactic| walk_at "z") => `(tactic| first
  | with_reducible refine s_seq ?_
  | with_reducible refine s_asg ?_
  | with_reducible refine s_gname ?_
  | with_reducible refine s_ret ?_
  | with_reducible refine s_retN ?_
  | with_reducible refine s_ifS ?_
  | with_reducible refine s_drop ?_
  | with_reducible refine s_next ?_
  | with_reducible refine s_cont ?_
  | with_reducible refine s_break ?_
  | with_reducible refine s_par ?_
  | with_reducible refine s_par2 ?_
  | with_reducible refine s_c ?_
  | ((with_reducible refine s_var (v := ?v1) ?h1 ?q1); (case h1 => exact rfl))
  | with_reducible refine s_op ?_
  | with_reducible refine s_un ?_
  | with_reducible refine s_cb ?_
  | with_reducible refine s_cons ?_
  | with_reducible refine s_nil ?_
  | with_reducible refine s_star ?_
  | with_reducible refine s_test ?_
  | with_reducible refine s_B ?_
  | with_reducible refine s_and ?_
  | with_reducible refine s_or ?_
  | with_reducible refine s_not ?_
  | with_reducible refine s_andV ?_
  | with_reducible refine s_orV ?_
  | with_reducible refine s_notV ?_
  | with_reducible refine s_if ?_
  | with_reducible refine s_chain ?_
  | with_reducible refine s_call ?_
  | with_reducible refine s_bl ?_
  | with_reducible refine s_yes ?_
  | with_reducible refine s_gcons ?_
  | with_reducible refine s_gnil ?_
  | with_reducible refine s_din ?_
  | with_reducible refine s_dnin ?_
  | with_reducible refine s_dget ?_
  | with_reducible refine s_bm ?_
  | with_reducible refine s_bm0 ?_
  | with_reducible refine s_fldg ?_
  | with_reducible refine s_meth ?_
  | with_reducible refine s_prop ?_
  | with_reducible refine s_lcT ?_
  | with_reducible refine s_daugg ?_
  | with_reducible refine s_disp ?_
  | with_reducible refine s_pcons ?_
  | with_reducible refine s_pnil ?_
  | with_reducible refine s_gsub ?_
  | with_reducible refine s_augS ?_
  | with_reducible refine s_fldaug ?_
  | with_reducible refine s_add ?_
  | with_reducible refine s_ipI ?_
  | with_reducible refine s_ixO ?_
  | with_reducible refine s_lcL ?_
  | with_reducible refine s_dputg ?_
  | with_reducible refine s_for ?_
  | with_reducible refine s_rng1 ?_
  | with_reducible refine s_iT ?_
  | with_reducible refine s_iL ?_
  | with_reducible refine Or.inl (Exists.intro _ (And.intro rfl ?_))
  | with_reducible refine Or.inr (Exists.intro _ (And.intro rfl ?_))
  | with_reducible refine s_make ?_
  | with_reducible refine s_sl ?_
  | with_reducible refine s_nop ?_
  | with_reducible refine s_part ?_
  | with_reducible refine s_lcE ?_
  | with_reducible refine s_lc ?_
  | with_reducible refine s_dcT ?_
  | with_reducible refine s_cvalg ?_
  | with_reducible refine s_fldS ?_
  | with_reducible refine s_I0 ?_
  | with_reducible refine s_U ?_
  | ((with_reducible refine s_eq ?h1 ?q1); (case h1 => exact rfl))
  | ((with_reducible refine s_ne ?h1 ?q1); (case h1 => exact rfl))
  | (with_reducible refine s_tup ?_)
  | (with_reducible refine s_lst ?_)
  | ((with_reducible refine s_isi (d := ?d1) ?h1 ?h2 ?q1); (case h1 => first | assumption | constructor); (case h2 => decide))
  | with_reducible refine ⟨_, _, rfl, rfl, ?_⟩
  | with_reducible refine ⟨_, rfl, ?_⟩)
local macro_rules | `(tactic| walk_at "zi") => `(tactic| first
  | walk_at "z"
  | ((with_reducible refine ite_f ?h1 ?q1); (case h1 => rfl))
  | ((with_reducible refine ite_t ?h1 ?q1); (case h1 => rfl)))
local macro_rules | `(tactic| walk_at "zn") => `(tactic| (intro p hp; generalize eH : upd _ p _ = H2; have s2 := newS hp eH; have e2 := newE eH; clear eH))
local macro_rules | `(tactic| walk_at "zt") => `(tactic| ((with_reducible refine And.intro ?h1 ?_); (case h1 => exact Nat.le_of_ble_eq_true rfl); intro p hp; generalize eH : upd _ p _ = H2; have s2 := newS hp eH; have e2 := newE eH; clear eH))
local macro_rules | `(tactic| walk_at "hl") => `(tactic| first
  | assumption
  | ((with_reducible apply at_same); (· assumption); · walk_at "hl")
  | ((with_reducible apply sqT_same); (· assumption); · walk_at "hl")
  | ((with_reducible apply sqL_same); (· assumption); · walk_at "hl")
  | ((with_reducible apply SqT.of); · walk_at "hl")
  | ((with_reducible apply SqL.of); · walk_at "hl")
  | ((with_reducible apply dp_same); (· assumption); · walk_at "hl")
  | ((with_reducible apply dpA_same); (· assumption); · walk_at "hl")
  | ((with_reducible apply pl_same); (· assumption); · walk_at "hl")
  | ((with_reducible apply bd_same); (· assumption); · walk_at "hl")
  | ((with_reducible apply co_same); (· assumption); · walk_at "hl")
  | ((with_reducible apply cst_same); (· assumption); · walk_at "hl")
  | ((with_reducible apply sg_same); (· assumption); · walk_at "hl")
  | ((with_reducible apply row_same); (· assumption); · walk_at "hl")
  | ((with_reducible apply md_same); (· assumption); · walk_at "hl")
  | ((with_reducible apply plm_same); (· assumption); · walk_at "hl")
  | ((with_reducible apply mst_same); (· assumption); · walk_at "hl")
  | ((with_reducible apply ev_same); (· assumption); · walk_at "hl"))
local macro_rules | `(tactic| walk_at "lk") => `(tactic| with_reducible first
  | exact plF_lr | exact plF_wr | exact plF_rn | exact plF_wn
  | exact bdF_plan | exact bdF_sh | exact bdF_wa | exact bdF_hi | exact bdF_ta | exact bdF_ra | exact bdF_jo
  | exact sgF_plan | exact sgF_board | exact sgF_core | exact sgF_time | exact sgF_sums
  | exact coF_plan | exact coF_fr | exact coF_lim | exact coF_jo)
local macro_rules | `(tactic| walk_at "mk") => `(tactic| with_reducible first | exact mk_ca | exact mk_ed | exact mk_hi | exact mk_up | exact mk_sh | exact mk_bar | exact mk_jo | exact mk_now | exact mk_lg | exact mk_sp | exact mk_jn | exact mk_ln | exact mk_wk)
local macro_rules | `(tactic| walk_at "cl") => `(tactic| with_reducible first | exact Txt.cl_Setup (by assumption) | exact Txt.cl_Board (by assumption) | exact Txt.cl_Core (by assumption) | exact Txt.cl_Single (by assumption))
local macro_rules | `(tactic| walk_at "na") => `(tactic| with_reducible first | exact Txt.n_Setup_line_rows (by assumption) | exact Txt.n_Setup_work_rows (by assumption) | exact Txt.n_Setup_rows_by_name (by assumption) | exact Txt.n_Setup_works_by_name (by assumption) | exact Txt.n_Board_plan (by assumption) | exact Txt.n_Board_shut (by assumption) | exact Txt.n_Board_wanted (by assumption) | exact Txt.n_Board_high (by assumption) | exact Txt.n_Board_taken (by assumption) | exact Txt.n_Board_raised (by assumption) | exact Txt.n_Board_joined (by assumption) | exact Txt.n_Core_plan (by assumption) | exact Txt.n_Core_frames (by assumption) | exact Txt.n_Core_limit (by assumption) | exact Txt.n_Core_jobs (by assumption) | exact Txt.n_Single_plan (by assumption) | exact Txt.n_Single_board (by assumption) | exact Txt.n_Single_core (by assumption) | exact Txt.n_Single_time (by assumption) | exact Txt.n_Single_sums (by assumption))
local macro_rules | `(tactic| walk_at "zz") => `(tactic| first
  | walk_at "zi"
  | ((with_reducible apply s_fldat); (· walk_at "hl"); (· walk_at "cl"); (· walk_at "na"); (· walk_at "lk"))
  | ((with_reducible apply s_methat); (· walk_at "hl"); (· kernel_rfl))
  | ((with_reducible apply s_propat); (· walk_at "hl"))
  | ((with_reducible apply s_ixT); (· walk_at "hl"); (· with_reducible first | exact at0 | exact at1 | exact at2 | exact at3 | exact at4))
  | ((with_reducible apply s_ixL); (· walk_at "hl"); (· with_reducible first | exact at0 | exact at1 | exact at2 | exact at3 | exact at4))
  | ((with_reducible apply s_dgS); (· walk_at "hl"); (· walk_at "mk"))
  | walk_at "zt")
local macro_rules | `(tactic| walk_at "zm") => `(tactic| (intro x dx hx hdx hne; generalize eH : upd (upd _ dx _) x _ = H2; have s2 := mkS hx hdx eH; have e2 := mkE eH; clear eH hdx hne))
local macro_rules | `(tactic| walk_at "zb") => `(tactic| with_reducible first | refine s_gcons ?_ | refine s_gnil ?_ | refine s_gname ?_ | refine s_seq ?_ | refine s_ifS ?_ | refine s_if ?_ | refine s_next ?_ | refine s_drop ?_ | refine s_ret ?_ | refine s_asg ?_)
def spCSpend (K : Fg) : Sp := fun vs H Q _ => ∃ PD P D C E B fs f, vs = [.ref D.c, .ref E.b] ∧ CSt K H PD P D C E B ∧ C.frames = fs ++ [f] ∧ f.ln ∈ P.names ∧ f.ln ∈ B.taken ∧ (∃ n : Int, (P.ln f.ln).st[f.st]? = some (("run" : Str), (Sum.inl n : Key))) ∧
  ∀ H' D' l, Chg H D E H' D' → CSt K H' PD P D' (spend P fs f C.limit C.jobs B).1 E (spend P fs f C.limit C.jobs B).2.1 → H l = none → l ∉ D'.own → EvAt K H' l (spend P fs f C.limit C.jobs B).2.2 → Q (.ref l) H'
section
variable {P : Program} {w : World} {K : Fg} {mg : Str → Option Value} {base : Heap}
theorem ok_Core_spend (T : Txt K mg) : FnOk P w K mg base (L2.CX P w) 9 (ma K (ga K "Core") "spend") (fdOf K (ma K (ga K "Core") "spend")) ["self", "board"] (spCSpend K) := by
  refine FunD.ok T.F_Core_spend sc_Core_spend (fun vs H Q E h => ?_) (fun cdv A outer s H vs Q E hr h => ⟨_, PSs.nox (pss_cons (zset 2 sc_Core_spend.nd (pe_ix (ix_listK K) (kFld K (pe_fld (pv 0) rfl)) (pe_un un_neg pe_int) (fun _ _ => rfl)))
      (pss_cons (ps_augS (pv 2) pe_int (get_listK K) pe_int ip_add set_list)
      (pss_cons (ps_if (pt_cmpR op_lt (pe_ix (ix_listK K) (pv 2) pe_int (fun _ _ => rfl)) (pe_ix (ix_tupK K) (z_meth0 (pv 0) T.cl_Core T.m_Core_step_now (ok_Core_step_now T) T.c_Core_step_now (hr.mono (by decide)) passL) pe_int (fun _ _ => rfl)) (nomark _)) (pss_one (ps_ret (pe_lst pa_nil))) pss_nil)
      (pss_cons (ps_augS (pv 2) pe_int (get_listK K) pe_int ip_add set_list)
      (pss_cons (ps_asg pe_int (pg_sub (pv 2) pe_int set_list))
      (pss_one (ps_ret (z_meth (pv 0) T.cl_Core T.m_Core_pass_steps (ok_Core_pass_steps T) T.c_Core_pass_steps (hr.mono (by decide)) passL (pa_cons (pv 1) pa_nil))))))))), ?_⟩)
  · obtain ⟨PD, P, D, C, E, B, fs, f, rfl, _⟩ := h
    rfl
  obtain ⟨PD, P, D, C, E, B, fs, f, rfl, st, e, hfn, hft, ⟨n, hn⟩, q⟩ := h
  show (_ : TS) _ [some (.ref D.c), some (.ref E.b), none] H
  try dsimp only [cxOf]
  obtain ⟨dx, hc⟩ := st.co.ins
  obtain ⟨as, a, ed, ha, _⟩ := st.co.last e
  have hfr := st.co.fr
  have hst : stepOf P f = (("run" : Str), (Sum.inl n : Key)) := by unfold stepOf; rw [hn]; rfl
  repeat walk_at "zz"
  refine s_ixL (SqL.of hfr) (v := .ref a) (by rw [ed, List.map_append]; exact atI_last) ?_
  have hq : SqL K H a [.str f.ln, .int f.st, .int f.tk, .int f.kp] := SqL.of ha
  have ham : a ∈ D.own := by simp [CA.own, ed]
  repeat walk_at "zz"
  refine s_setL ha (j := 2) rfl ?_
  rw [show ((frV f).set 2 (.int ((f.tk : Int) + 1))) = frV { f with tk := f.tk + 1 } by simp [frV]]
  have co1 := st.co.setFrm (fs := fs) (f := f) (g := { f with tk := f.tk + 1 }) e ed
  have f1 : Fr D.own H (upd H a (.lst (frV { f with tk := f.tk + 1 }))) := Fr.upd ham ha rfl
  have st1 := st.core f1 co1 (fun _ h => .inl h) st.jok
  have ch1 : Chg H D E _ D := Chg.core f1 rfl fun _ h => .inl h
  have ha1 : upd H a (.lst (frV { f with tk := f.tk + 1 })) a = some (.lst (frV { f with tk := f.tk + 1 })) := upd_same
  obtain ⟨dx1, hc1⟩ := st1.co.ins
  generalize upd H a (.lst (frV { f with tk := f.tk + 1 })) = H1 at *
  have hq1 : SqL K H1 a [.str f.ln, .int f.st, .int ((f.tk + 1 : Nat) : Int), .int f.kp] := SqL.of ha1
  repeat walk_at "zz"
  refine ⟨PD, P, D, _, fs, { f with tk := f.tk + 1 }, _, rfl, st1.pl, st1.co, rfl, hfn, hn, fun v hv => ?_⟩
  obtain ⟨t, zs, rfl, hT, hA⟩ := hv.tupI
  cases hA with | cons h1 hA => ?_
  cases hA with | cons h2 hA => ?_
  cases hA
  cases h1
  cases h2
  repeat walk_at "zz"
  refine ite_b (fun h => ?_) (fun h => ?_)
  · have h' : (f.tk : Int) + 1 < n := by simpa using h
    rw [spend_lt hst h'] at q
    repeat walk_at "zz"
    rename_i l hl H2 s2 e2
    exact q H2 D l (ch1.trans (Chg.same s2)) (st1.same s2) (ch1.fr.back hl) (fun z => st1.co.ex _ z hl) ⟨_, e2, .nil⟩
  · have h' : ¬ (f.tk : Int) + 1 < n := by simpa using h
    rw [spend_ge hst h'] at q
    repeat walk_at "zz"
    refine s_setL ha1 (j := 1) rfl ?_
    rw [show ((frV { f with tk := f.tk + 1 }).set 1 (.int ((f.st : Int) + 1))) = frV { f with tk := f.tk + 1, st := f.st + 1 } by simp [frV]]
    have co2 := st1.co.setFrm (fs := fs) (f := { f with tk := f.tk + 1 }) (g := { f with tk := f.tk + 1, st := f.st + 1 }) rfl ed
    have f2 : Fr D.own H1 (upd H1 a (.lst (frV { f with tk := f.tk + 1, st := f.st + 1 }))) := Fr.upd ham ha1 rfl
    have st2 := st1.core f2 co2 (fun _ h => .inl h) st.jok
    have ch2 : Chg H D E _ D := ch1.trans (Chg.core f2 rfl fun _ h => .inl h)
    have ha2 : upd H1 a (.lst (frV { f with tk := f.tk + 1, st := f.st + 1 })) a = some (.lst (frV { f with tk := f.tk + 1, st := f.st + 1 })) := upd_same
    generalize upd H1 a (.lst (frV { f with tk := f.tk + 1, st := f.st + 1 })) = H2 at *
    repeat walk_at "zz"
    refine s_setL ha2 (j := 2) rfl ?_
    rw [show ((frV { f with tk := f.tk + 1, st := f.st + 1 }).set 2 (.int 0)) = frV { f with tk := 0, st := f.st + 1 } by simp [frV]]
    have co3 := st2.co.setFrm (fs := fs) (f := { f with tk := f.tk + 1, st := f.st + 1 }) (g := { f with tk := 0, st := f.st + 1 }) rfl ed
    have f3 : Fr D.own H2 (upd H2 a (.lst (frV { f with tk := 0, st := f.st + 1 }))) := Fr.upd ham ha2 rfl
    have st3 := st2.core f3 co3 (fun _ h => .inl h) st.jok
    have ch3 : Chg H D E _ D := ch2.trans (Chg.core f3 rfl fun _ h => .inl h)
    generalize upd H2 a (.lst (frV { f with tk := 0, st := f.st + 1 })) = H3 at *
    obtain ⟨dx3, hc3⟩ := st3.co.ins
    repeat walk_at "zz"
    refine ⟨PD, P, D, _, E, B, fs, { f with tk := 0, st := f.st + 1 }, rfl, st3, rfl, hfn, hft, fun H4 D4 l ch4 st4 hl nl ev => ?_⟩
    exact q H4 D4 l (ch3.trans ch4) st4 (ch3.fr.back hl) nl ev
end
end T
set_option maxHeartbeats 1000000
namespace T
open PySem PySem.Spec PyProof.Rows L2 Z
open He (ga ma)
local macro_rules | `(tactic| walk_at "z") => `(tactic| first
  | with_reducible refine s_seq ?_
  | with_reducible refine s_asg ?_
  | with_reducible refine s_gname ?_
  | with_reducible refine s_ret ?_
  | with_reducible refine s_retN ?_
  | with_reducible refine s_ifS ?_
  | with_reducible refine s_drop ?_
  | with_reducible refine s_next ?_
  | with_reducible refine s_cont ?_
  | with_reducible refine s_break ?_
  | with_reducible refine s_par ?_
  | with_reducible refine s_par2 ?_
  | with_reducible refine s_c ?_
  | ((with_reducible refine s_var (v := ?v1) ?h1 ?q1); (case h1 => exact rfl))
  | with_reducible refine s_op ?_
  | with_reducible refine s_un ?_
  | with_reducible refine s_cb ?_
  | with_reducible refine s_cons ?_
  | with_reducible refine s_nil ?_
  | with_reducible refine s_star ?_
  | with_reducible refine s_test ?_
  | with_reducible refine s_B ?_
  | with_reducible refine s_and ?_
  | with_reducible refine s_or ?_
  | with_reducible refine s_not ?_
  | with_reducible refine s_andV ?_
  | with_reducible refine s_orV ?_
  | with_reducible refine s_notV ?_
  | with_reducible refine s_if ?_
  | with_reducible refine s_chain ?_
  | with_reducible refine s_call ?_
  | with_reducible refine s_bl ?_
  | with_reducible refine s_yes ?_
  | with_reducible refine s_gcons ?_
  | with_reducible refine s_gnil ?_
  | with_reducible refine s_din ?_
  | with_reducible refine s_dnin ?_
  | with_reducible refine s_dget ?_
  | with_reducible refine s_bm ?_
  | with_reducible refine s_bm0 ?_
  | with_reducible refine s_fldg ?_
  | with_reducible refine s_meth ?_
  | with_reducible refine s_prop ?_
  | with_reducible refine s_lcT ?_
  | with_reducible refine s_daugg ?_
  | with_reducible refine s_disp ?_
  | with_reducible refine s_pcons ?_
  | with_reducible refine s_pnil ?_
  | with_reducible refine s_gsub ?_
  | with_reducible refine s_augS ?_
  | with_reducible refine s_fldaug ?_
  | with_reducible refine s_add ?_
  | with_reducible refine s_ipI ?_
  | with_reducible refine s_ixO ?_
  | with_reducible refine s_lcL ?_
  | with_reducible refine s_dputg ?_
  | with_reducible refine s_for ?_
  | with_reducible refine s_rng1 ?_
  | with_reducible refine s_iT ?_
  | with_reducible refine s_iL ?_
  | with_reducible refine Or.inl (Exists.intro _ (And.intro rfl ?_))
  | with_reducible refine Or.inr (Exists.intro _ (And.intro rfl ?_))
  | with_reducible refine s_make ?_
  | with_reducible refine s_sl ?_
  | with_reducible refine s_nop ?_
  | with_reducible refine s_part ?_
  | with_reducible refine s_lcE ?_
  | with_reducible refine s_lc ?_
  | with_reducible refine s_dcT ?_
  | with_reducible refine s_cvalg ?_
  | with_reducible refine s_fldS ?_
  | with_reducible refine s_I0 ?_
  | with_reducible refine s_U ?_
  | ((with_reducible refine s_eq ?h1 ?q1); (case h1 => exact rfl))
  | ((with_reducible refine s_ne ?h1 ?q1); (case h1 => exact rfl))
  | (with_reducible refine s_tup ?_)
  | (with_reducible refine s_lst ?_)
  | ((with_reducible refine s_isi (d := ?d1) ?h1 ?h2 ?q1); (case h1 => first | assumption | constructor); (case h2 => decide))
  | with_reducible refine ⟨_, _, rfl, rfl, ?_⟩
  | with_reducible refine ⟨_, rfl, ?_⟩)
local macro_rules | `(tactic| walk_at "zi") => `(tactic| first
  | walk_at "z"
  | ((with_reducible refine ite_f ?h1 ?q1); (case h1 => rfl))
  | ((with_reducible refine ite_t ?h1 ?q1); (case h1 => rfl)))
local macro_rules | `(tactic| walk_at "zn") => `(tactic| (intro p hp; generalize eH : upd _ p _ = H2; have s2 := newS hp eH; have e2 := newE eH; clear eH))
local macro_rules | `(tactic| walk_at "zt") => `(tactic| ((with_reducible refine And.intro ?h1 ?_); (case h1 => exact Nat.le_of_ble_eq_true rfl); intro p hp; generalize eH : upd _ p _ = H2; have s2 := newS hp eH; have e2 := newE eH; clear eH))
local macro_rules | `(tactic| walk_at "hl") => `(tactic| first
  | assumption
  | ((with_reducible apply at_same); (· assumption); · walk_at "hl")
  | ((with_reducible apply sqT_same); (· assumption); · walk_at "hl")
  | ((with_reducible apply sqL_same); (· assumption); · walk_at "hl")
  | ((with_reducible apply SqT.of); · walk_at "hl")
  | ((with_reducible apply SqL.of); · walk_at "hl")
  | ((with_reducible apply dp_same); (· assumption); · walk_at "hl")
  | ((with_reducible apply dpA_same); (· assumption); · walk_at "hl")
  | ((with_reducible apply pl_same); (· assumption); · walk_at "hl")
  | ((with_reducible apply bd_same); (· assumption); · walk_at "hl")
  | ((with_reducible apply co_same); (· assumption); · walk_at "hl")
  | ((with_reducible apply cst_same); (· assumption); · walk_at "hl")
  | ((with_reducible apply sg_same); (· assumption); · walk_at "hl")
  | ((with_reducible apply row_same); (· assumption); · walk_at "hl")
  | ((with_reducible apply md_same); (· assumption); · walk_at "hl")
  | ((with_reducible apply plm_same); (· assumption); · walk_at "hl")
  | ((with_reducible apply mst_same); (· assumption); · walk_at "hl")
  | ((with_reducible apply ev_same); (· assumption); · walk_at "hl"))
local macro_rules | `(tactic| walk_at "lk") => `(tactic| with_reducible first
  | exact plF_lr | exact plF_wr | exact plF_rn | exact plF_wn
  | exact bdF_plan | exact bdF_sh | exact bdF_wa | exact bdF_hi | exact bdF_ta | exact bdF_ra | exact bdF_jo
  | exact sgF_plan | exact sgF_board | exact sgF_core | exact sgF_time | exact sgF_sums
  | exact coF_plan | exact coF_fr | exact coF_lim | exact coF_jo)
local macro_rules | `(tactic| walk_at "mk") => `(tactic| with_reducible first | exact mk_ca | exact mk_ed | exact mk_hi | exact mk_up | exact mk_sh | exact mk_bar | exact mk_jo | exact mk_now | exact mk_lg | exact mk_sp | exact mk_jn | exact mk_ln | exact mk_wk)
local macro_rules | `(tactic| walk_at "cl") => `(tactic| with_reducible first | exact Txt.cl_Setup (by assumption) | exact Txt.cl_Board (by assumption) | exact Txt.cl_Core (by assumption) | exact Txt.cl_Single (by assumption))
local macro_rules | `(tactic| walk_at "na") => `(tactic| with_reducible first | exact Txt.n_Setup_line_rows (by assumption) | exact Txt.n_Setup_work_rows (by assumption) | exact Txt.n_Setup_rows_by_name (by assumption) | exact Txt.n_Setup_works_by_name (by assumption) | exact Txt.n_Board_plan (by assumption) | exact Txt.n_Board_shut (by assumption) | exact Txt.n_Board_wanted (by assumption) | exact Txt.n_Board_high (by assumption) | exact Txt.n_Board_taken (by assumption) | exact Txt.n_Board_raised (by assumption) | exact Txt.n_Board_joined (by assumption) | exact Txt.n_Core_plan (by assumption) | exact Txt.n_Core_frames (by assumption) | exact Txt.n_Core_limit (by assumption) | exact Txt.n_Core_jobs (by assumption) | exact Txt.n_Single_plan (by assumption) | exact Txt.n_Single_board (by assumption) | exact Txt.n_Single_core (by assumption) | exact Txt.n_Single_time (by assumption) | exact Txt.n_Single_sums (by assumption))
local macro_rules | `(tactic| walk_at "zz") => `(tactic| first
  | walk_at "zi"
  | ((with_reducible apply s_fldat); (· walk_at "hl"); (· walk_at "cl"); (· walk_at "na"); (· walk_at "lk"))
  | ((with_reducible apply s_methat); (· walk_at "hl"); (· kernel_rfl))
  | ((with_reducible apply s_propat); (· walk_at "hl"))
  | ((with_reducible apply s_ixT); (· walk_at "hl"); (· with_reducible first | exact at0 | exact at1 | exact at2 | exact at3 | exact at4))
  | ((with_reducible apply s_ixL); (· walk_at "hl"); (· with_reducible first | exact at0 | exact at1 | exact at2 | exact at3 | exact at4))
  | ((with_reducible apply s_dgS); (· walk_at "hl"); (· walk_at "mk"))
  | walk_at "zt")
local macro_rules | `(tactic| walk_at "zm") => `(tactic| (intro x dx hx hdx hne; generalize eH : upd (upd _ dx _) x _ = H2; have s2 := mkS hx hdx eH; have e2 := mkE eH; clear eH hdx hne))
local macro_rules | `(tactic| walk_at "zb") => `(tactic| with_reducible first | refine s_gcons ?_ | refine s_gnil ?_ | refine s_gname ?_ | refine s_seq ?_ | refine s_ifS ?_ | refine s_if ?_ | refine s_next ?_ | refine s_drop ?_ | refine s_ret ?_ | refine s_asg ?_)
def spCTick (K : Fg) : Sp := fun vs H Q _ => ∃ PD P D C E B, vs = [.ref D.c, .ref E.b] ∧ CSt K H PD P D C E B ∧ FOk P C.frames B ∧
  ∀ H' D' t l, Chg H D E H' D' → CSt K H' PD P D' (C.tick P B).2.1 E (C.tick P B).2.2.1 → H' t = some (.tup [.str (C.tick P B).1, .ref l]) → H l = none → l ∉ D'.own → EvAt K H' l (C.tick P B).2.2.2 → Q (.ref t) H'
section
variable {P : Program} {w : World} {K : Fg} {mg : Str → Option Value} {base : Heap}
theorem ok_Core_tick (T : Txt K mg) : FnOk P w K mg base (L2.CX P w) 10 (ma K (ga K "Core") "tick") (fdOf K (ma K (ga K "Core") "tick")) ["self", "board"] (spCTick K) := by
  refine FunD.ok T.F_Core_tick sc_Core_tick (fun vs H Q E h => ?_) (fun cdv A outer s H vs Q E hr h => ⟨_, PSs.nox (pss_cons (zset 2 sc_Core_tick.nd (pe_lst pa_nil))
      (pss_cons (ps_while PassesOwn.never (PW.pt (pw_and (pt_cmpR (op_ne0K K hr.units) (kFld K (pe_fld (pv 0) rfl)) (pe_lst pa_nil) (nomark _)) (pw_and1 (pt_val (z_meth (pv 0) T.cl_Core T.m_Core_is_passing (ok_Core_is_passing T) T.c_Core_is_passing (hr.mono (by decide)) passL (pa_cons (pv 1) pa_nil))))))
      (pss_one (ps_expr (kBM K (pe_bm PySem.F.plainAttrs_list PySem.F.slot_list_extend PySem.F.type_list_extend mt_extend (pv 2) (pa_cons (z_meth (pv 0) T.cl_Core T.m_Core_pass_steps (ok_Core_pass_steps T) T.c_Core_pass_steps (hr.mono (by decide)) passL (pa_cons (pv 1) pa_nil)) pa_nil))))))
      (pss_cons (ps_if (pt_cmpR (op_ne0K K hr.units) (kFld K (pe_fld (pv 0) rfl)) (pe_lst pa_nil) (nomark _)) (pss_cons (ps_if (pt_cmpR op_eq (pe_ix (ix_tupK K) (z_meth0 (pv 0) T.cl_Core T.m_Core_step_now (ok_Core_step_now T) T.c_Core_step_now (hr.mono (by decide)) passL) pe_int (fun _ _ => rfl)) (z_str T.i_AWAIT) (nomark _)) (pss_one (ps_ret (pe_tup (pa_cons (z_str T.i_SPUN) (pa_cons (pv 2) pa_nil))))) pss_nil)
      (pss_one (ps_ret (pe_tup (pa_cons (z_str T.i_CALL) (pa_cons (pe_op op_cat (pv 2) (z_meth (pv 0) T.cl_Core T.m_Core_spend (ok_Core_spend T) T.c_Core_spend (hr.mono (by decide)) passL (pa_cons (pv 1) pa_nil))) pa_nil)))))) pss_nil)
      (pss_cons (ps_if (pt_cmpR (op_eq0K K hr.units) (kFld K (pe_fld (pv 0) rfl)) (pe_lst pa_nil) (nomark _)) (pss_one (ps_ret (pe_tup (pa_cons (z_str T.i_IDLE) (pa_cons (pv 2) pa_nil))))) pss_nil)
      (pss_one (ps_ret (pe_tup (pa_cons (z_str T.i_WORK) (pa_cons (pe_op op_cat (pv 2) (z_meth0 (pv 0) T.cl_Core T.m_Core_do_work (ok_Core_do_work T) T.c_Core_do_work (hr.mono (by decide)) passL)) pa_nil))))))))), ?_⟩)
  · obtain ⟨PD, P, D, C, E, B, rfl, _⟩ := h
    rfl
  obtain ⟨PD, P, D, C, E, B, rfl, st, fok, q⟩ := h
  show (_ : TS) _ [some (.ref D.c), some (.ref E.b), none] H
  try dsimp only [cxOf]
  have cok : COk P C B := ⟨st.bok, st.jok, fok⟩
  repeat walk_at "zz"
  rename_i l0 hl0 H0 s0 e0
  have st0 := st.same s0
  refine while_e (fun σ H1 => ∃ D1 C1 B1 es, σ = [some (.ref D.c), some (.ref E.b), some (.ref l0)] ∧ Chg H D E H1 D1 ∧ CSt K H1 PD P D1 C1 E B1 ∧ COk P C1 B1 ∧ l0 ∉ D1.own ∧ EvAt K H1 l0 es ∧ es.length ≤ 108 ∧
    passAll P (left P C.frames) C B [] = (C1, B1, es)) ?rest (fun hx => ?loop)
  case loop =>
    refine ⟨fun m σ H1 => ∃ D1 C1 B1 es, σ = [some (.ref D.c), some (.ref E.b), some (.ref l0)] ∧ Chg H D E H1 D1 ∧ CSt K H1 PD P D1 C1 E B1 ∧ COk P C1 B1 ∧ l0 ∉ D1.own ∧ EvAt K H1 l0 es ∧ es.length + left P C1.frames ≤ 108 ∧
      m = left P C1.frames ∧ passAll P (left P C1.frames) C1 B1 es = passAll P (left P C.frames) C B [],
      ⟨_, D, C, B, [], rfl, Chg.same s0, st0, cok, fun z => st.co.ex _ z hl0, ⟨[], e0, .nil⟩, by have := cok.len st.pl.ok; simpa using this, rfl, rfl⟩, ?_⟩
    rintro m σ H1 ⟨D1, C1, B1, es, rfl, ch1, st1, cok1, nl1, ev1, hes, rfl, hpa⟩
    obtain ⟨dx1, hc1⟩ := st1.co.ins
    rw [ch1.c] at hc1
    obtain ⟨bdx, hb1⟩ := st1.bd.ins
    have hfr1 := st1.co.fr
    repeat walk_at "zz"
    rename_i t2 ht2 H2 s2 e2
    have st2 := st1.same s2
    refine s_eq0L (SqL.of st2.co.fr) (SqL.of e2) ?_
    repeat walk_at "zz"
    rcases List.eq_nil_or_concat C1.frames with ef | ⟨fs, f, ef⟩
    · have ed : D1.fs = [] := by
        have := st1.co.fs.len
        rw [ef] at this
        exact List.length_eq_zero_iff.mp this
      rw [ed]
      refine ite_f rfl (ite_f rfl ?_)
      refine hx _ _ ⟨D1, C1, B1, es, rfl, ch1.trans (Chg.same s2), st2, cok1, nl1, ev1.keep (A := []) s2.fr (by simp), by omega, ?_⟩
      rw [← hpa, passAll_nil ef]
    · rw [List.concat_eq_append] at ef
      obtain ⟨as, a, ed, ha, _⟩ := st1.co.last ef
      refine ite_t (by rw [ed]; simp) ?_
      have hf1 := cok1.fok
      rw [ef] at hf1
      obtain ⟨h1, h2, h3, h4, ⟨sp, hsp, hsw⟩⟩ := hf1.init
      repeat walk_at "zz"
      refine ⟨PD, P, D1, C1, fs, f, sp, E, B1, by rw [ch1.c]; rfl, st2.pl, st2.co, st2.bd, ef, h2, hsp, ?_⟩
      repeat walk_at "zz"
      rw [← passing_eq hsp]
      refine ite_b (fun hp => ?_) (fun hp => ?_)
      · refine ⟨_, fun σ' H' n => n, ?_⟩
        have ev2 := ev1.keep (A := []) s2.fr (by simp)
        obtain ⟨xs2, ex2, exl, exd⟩ := ev2.len
        repeat walk_at "zz"
        refine s_tyL ex2 ?_
        repeat walk_at "zz"
        refine ⟨PD, P, D1, C1, E, B1, fs, f, by rw [ch1.c]; rfl, st2, ef, h2, h3, fun H3 D3 l3 ch3 st3 hl3 nl3 ev3 => ?_⟩
        have nl0E : l0 ∉ E.own := fun z => st.bd.ex _ z hl0
        have hex3 : H3 l0 = some (.lst xs2) := ch3.fr.at ex2 (by simp [nl1, nl0E])
        have nl3' : l0 ∉ D3.own := fun z => by
          rcases ch3.own _ z with z | z
          · exact nl1 z
          · rw [ex2] at z
            cases z
        obtain ⟨xs3, ey3, eyl, eyd⟩ := ev3.len
        have hpe := pass_ev (P := P) (fs := fs) (f := f) (lim := C1.limit) (jobs := C1.jobs) (B := B1)
        rw [ef] at hes
        have hle := pass_left (fs := fs) (lim := C1.limit) (jobs := C1.jobs) hp
        repeat walk_at "zz"
        refine s_extend hex3 ey3 (by rw [sizeLine_eq]; omega) ?_
        have f4 : Fr [l0] H3 (upd H3 l0 (.lst (xs2 ++ xs3))) := Fr.upd (by simp) hex3 rfl
        have st4 : CSt K (upd H3 l0 (.lst (xs2 ++ xs3))) PD P D3 _ E _ := ⟨st3.pl.keep f4 fun a ha z => st.pl.ex a ha (by rw [List.mem_singleton.mp z]; exact hl0), st3.co.keep f4 fun a ha z => nl3' (by rw [← List.mem_singleton.mp z]; exact ha), st3.bd.keep f4 fun a ha z => nl0E (by rw [← List.mem_singleton.mp z]; exact ha), st3.pd, st3.de, st3.bok, st3.jok⟩
        have ch4 : Chg H D E (upd H3 l0 (.lst (xs2 ++ xs3))) D3 := by
          have c3 := ch1.trans ((Chg.same s2).trans ch3)
          refine ⟨⟨fun a o h n => ?_, fun a h => ?_⟩, c3.c, c3.own⟩
          · have h' := c3.fr.1 a o h n
            rw [upd_ne (ne_of_none h hl0)]
            exact h'
          · by_cases e : a = l0
            · rw [e]
              exact hl0
            · rw [upd_ne e] at h
              exact c3.fr.back h
        repeat walk_at "zz"
        have tk34 := f4.tk
        refine ⟨left P (pass P fs f C1.limit C1.jobs B1).1.frames, by rw [ef]; exact hle, D3, _, _, es ++ (pass P fs f C1.limit C1.jobs B1).2.2, rfl, ch4, st4, cok1.pass st.pl.ok ef, nl3', ⟨_, upd_same, ?_⟩, ?_, rfl, ?_⟩
        · rw [List.map_append]
          exact ((exd.tk ch3.fr.tk (tupds_map tupd_dEv _)).tk tk34 (tupds_map tupd_dEv _)).app (eyd.tk tk34 (tupds_map tupd_dEv _))
        · rw [List.length_append]
          omega
        · rw [← hpa]
          have h5 := passAll_yes (n := left P C1.frames - 1) (es := es) ef hp
          have h6 : left P C1.frames - 1 + 1 = left P C1.frames := by rw [ef]; omega
          rw [h6] at h5
          rw [h5]
          rw [ef] at h6 ⊢
          exact passAll_fuel _ _ (Nat.le_refl _) (by omega)
      · refine hx _ _ ⟨D1, C1, B1, es, rfl, ch1.trans (Chg.same s2), st2, cok1, nl1, ev1.keep (A := []) s2.fr (by simp), by omega, ?_⟩
        rw [← hpa, passAll_no ef hp]
  case rest =>
    rintro σ H1 ⟨D1, C1, B1, es, rfl, ch1, st1, cok1, nl1, ev1, hes, hpa⟩
    obtain ⟨dx1, hc1⟩ := st1.co.ins
    rw [ch1.c] at hc1
    obtain ⟨bdx, hb1⟩ := st1.bd.ins
    have hfr1 := st1.co.fr
    unfold Cr.tick at q
    rw [hpa] at q
    simp only at q
    obtain ⟨xs1, ex1, exl, exd⟩ := ev1.len
    have nl0E : l0 ∉ E.own := fun z => st.bd.ex _ z hl0
    repeat walk_at "zz"
    rename_i t2 ht2 H2 s2 e2
    have st2 := st1.same s2
    have hjo2 := st2.co.jo
    refine s_eq0L (SqL.of st2.co.fr) (SqL.of e2) ?_
    repeat walk_at "zz"
    rcases List.eq_nil_or_concat C1.frames with ef | ⟨fs, f, ef⟩
    · have ed : D1.fs = [] := by
        have := st1.co.fs.len
        rw [ef] at this
        exact List.length_eq_zero_iff.mp this
      rw [ed]
      unfold tickC at q
      rw [ef] at q
      dsimp only [List.getLast?_nil] at q
      repeat walk_at "zz"
      rename_i t3 ht3 H3 s3 e3
      have st3 := st2.same s3
      refine s_eq0L (SqL.of st3.co.jo) (SqL.of e3) ?_
      have hjl : D1.js.length = C1.jobs.length := by have := st1.co.js.len; rwa [List.length_map] at this
      repeat walk_at "zz"
      refine ite_b (fun h => ?_) (fun h => ?_)
      · have hj : C1.jobs = [] := by
          have : D1.js = [] := by simpa using h
          rw [this] at hjl
          exact List.length_eq_zero_iff.mp hjl.symm
        rw [if_pos hj] at q
        repeat walk_at "zz"
        rename_i t4 ht4 H4 s4 e4
        have s14 := (s2.trans s3).trans s4
        exact q H4 D1 t4 l0 (ch1.trans (Chg.same s14)) (by have := st1.same s14; cases C1; cases ef; exact this) e4 hl0 nl1 (ev1.keep (A := []) s14.fr (by simp))
      · have hj : C1.jobs ≠ [] := by
          intro e
          rw [e] at hjl
          have : D1.js = [] := List.length_eq_zero_iff.mp hjl
          rw [this] at h
          simp at h
        rw [if_neg hj] at q
        repeat walk_at "zz"
        refine ⟨PD, P, D1, C1, E, B1, by rw [ch1.c]; rfl, st3, hj, fun H4 D4 l4 ch4 st4 hl4 nl4 ev4 => ?_⟩
        obtain ⟨ys4, ey4, eyl, eyd⟩ := ev4.len
        have hd1 := doWork_ev (P := P) (jobs := C1.jobs)
        have ex4 : H4 l0 = some (.lst xs1) := ch4.fr.at (s3 _ _ (s2 _ _ ex1)) (by simp [nl1, nl0E])
        refine s_cat ex4 ey4 (by rw [sizeLine_eq]; omega) fun p5 hp5 => ?_
        generalize eH : upd H4 p5 _ = H5
        have s5 := newS hp5 eH
        have e5 := newE eH
        clear eH
        repeat walk_at "zz"
        rename_i t6 ht6 H6 s6 e6
        have c4 := ch1.trans ((Chg.same (s2.trans s3)).trans ch4)
        have s46 := s5.trans s6
        have exd4 := ((exd.same (s2.trans s3)).tk ch4.fr.tk (tupds_map tupd_dEv _))
        refine q H6 D4 t6 p5 (c4.trans (Chg.same s46)) (by have := st4.same s46; rw [ef] at this; exact this) e6 (c4.fr.back hp5) (fun z => st4.co.ex _ z hp5) ⟨_, s6 _ _ e5, ?_⟩
        rw [List.map_append]
        exact (exd4.same s46).app (eyd.same s46)
    · rw [List.concat_eq_append] at ef
      obtain ⟨as, a, ed, ha, _⟩ := st1.co.last ef
      refine ite_t (by rw [ed]; simp) ?_
      have hf1 := cok1.fok
      rw [ef] at hf1
      obtain ⟨h1, h2, h3, h4, ⟨⟨wd, k⟩, hsp, hsw⟩⟩ := hf1.init
      have hso : stepOf P f = (wd, k) := by unfold stepOf; rw [hsp]; rfl
      unfold tickC at q
      rw [ef, List.getLast?_concat, List.dropLast_concat] at q
      dsimp only at q
      rw [hso] at q
      dsimp only at q
      repeat walk_at "zz"
      refine ⟨PD, P, D1, C1, fs, f, _, by rw [ch1.c]; rfl, st2.pl, st2.co, ef, h2, hsp, fun v hv => ?_⟩
      obtain ⟨t, zs, rfl, hT, hA⟩ := hv.tupI
      cases hA with | cons h5 hA => ?_
      cases hA with | cons h6 hA => ?_
      cases hA
      cases h5
      repeat walk_at "zz"
      refine ite_b (fun h => ?_) (fun h => ?_)
      · have hw : wd = "await" := by simpa using h
        rw [if_pos hw] at q
        repeat walk_at "zz"
        rename_i t4 ht4 H4 s4 e4
        have s14 := s2.trans s4
        exact q H4 D1 t4 l0 (ch1.trans (Chg.same s14)) (by have := st1.same s14; cases C1; cases ef; exact this) e4 hl0 nl1 (ev1.keep (A := []) s14.fr (by simp))
      · have hw : ¬ wd = "await" := by simpa using h
        have hw2 : wd = "run" := hsw.resolve_right hw
        subst hw2
        rw [if_neg hw] at q
        obtain ⟨n, en, _⟩ := (st.pl.ok.step (st.pl.ok.ln_mem h2).1 (List.mem_of_getElem? hsp)).run_int rfl
        simp only at en
        subst en
        repeat walk_at "zz"
        refine ⟨PD, P, D1, C1, E, B1, fs, f, by rw [ch1.c]; rfl, st2, ef, h2, h3, ⟨n, hsp⟩, fun H4 D4 l4 ch4 st4 hl4 nl4 ev4 => ?_⟩
        obtain ⟨ys4, ey4, eyl, eyd⟩ := ev4.len
        have hd1 := spend_ev (P := P) (fs := fs) (f := f) (lim := C1.limit) (jobs := C1.jobs) (B := B1)
        have hd2 := cok1.len st.pl.ok
        rw [ef, left_snoc] at hd2
        have hd3 := st.pl.ok.steps8 (st.pl.ok.ln_mem h2).1
        have ex4 : H4 l0 = some (.lst xs1) := ch4.fr.at (s2 _ _ ex1) (by simp [nl1, nl0E])
        refine s_cat ex4 ey4 (by rw [sizeLine_eq]; omega) fun p5 hp5 => ?_
        generalize eH : upd H4 p5 _ = H5
        have s5 := newS hp5 eH
        have e5 := newE eH
        clear eH
        repeat walk_at "zz"
        rename_i t6 ht6 H6 s6 e6
        have c4 := ch1.trans ((Chg.same s2).trans ch4)
        have s46 := s5.trans s6
        have exd4 := ((exd.same s2).tk ch4.fr.tk (tupds_map tupd_dEv _))
        refine q H6 D4 t6 p5 (c4.trans (Chg.same s46)) (st4.same s46) e6 (c4.fr.back hp5) (fun z => st4.co.ex _ z hp5) ⟨_, s6 _ _ e5, ?_⟩
        rw [List.map_append]
        exact (exd4.same s46).app (eyd.same s46)
end
end T
set_option maxHeartbeats 1000000
namespace T
open PySem PySem.Spec PyProof.Rows L2 Z
open He (ga ma)
local macro_rules | `(tactic| walk_at "z") => `(tactic| first
  | with_reducible refine s_seq ?_
  | with_reducible refine s_asg ?_
  | with_reducible refine s_gname ?_
  | with_reducible refine s_ret ?_
  | with_reducible refine s_retN ?_
  | with_reducible refine s_ifS ?_
  | with_reducible refine s_drop ?_
  | with_reducible refine s_next ?_
  | with_reducible refine s_cont ?_
  | with_reducible refine s_break ?_
  | with_reducible refine s_par ?_
  | with_reducible refine s_par2 ?_
  | with_reducible refine s_c ?_
  | ((with_reducible refine s_var (v := ?v1) ?h1 ?q1); (case h1 => exact rfl))
  | with_reducible refine s_op ?_
  | with_reducible refine s_un ?_
  | with_reducible refine s_cb ?_
  | with_reducible refine s_cons ?_
  | with_reducible refine s_nil ?_
  | with_reducible refine s_star ?_
  | with_reducible refine s_test ?_
  | with_reducible refine s_B ?_
  | with_reducible refine s_and ?_
  | with_reducible refine s_or ?_
  | with_reducible refine s_not ?_
  | with_reducible refine s_andV ?_
  | with_reducible refine s_orV ?_
  | with_reducible refine s_notV ?_
  | with_reducible refine s_if ?_
  | with_reducible refine s_chain ?_
  | with_reducible refine s_call ?_
  | with_reducible refine s_bl ?_
  | with_reducible refine s_yes ?_
  | with_reducible refine s_gcons ?_
  | with_reducible refine s_gnil ?_
  | with_reducible refine s_din ?_
  | with_reducible refine s_dnin ?_
  | with_reducible refine s_dget ?_
  | with_reducible refine s_bm ?_
  | with_reducible refine s_bm0 ?_
  | with_reducible refine s_fldg ?_
  | with_reducible refine s_meth ?_
  | with_reducible refine s_prop ?_
  | with_reducible refine s_lcT ?_
  | with_reducible refine s_daugg ?_
  | with_reducible refine s_disp ?_
  | with_reducible refine s_pcons ?_
  | with_reducible refine s_pnil ?_
  | with_reducible refine s_gsub ?_
  | with_reducible refine s_augS ?_
  | with_reducible refine s_fldaug ?_
  | with_reducible refine s_add ?_
  | with_reducible refine s_ipI ?_
  | with_reducible refine s_ixO ?_
  | with_reducible refine s_lcL ?_
  | with_reducible refine s_dputg ?_
  | with_reducible refine s_for ?_
  | with_reducible refine s_rng1 ?_
  | with_reducible refine s_iT ?_
  | with_reducible refine s_iL ?_
  | with_reducible refine Or.inl (Exists.intro _ (And.intro rfl ?_))
  | with_reducible refine Or.inr (Exists.intro _ (And.intro rfl ?_))
  | with_reducible refine s_make ?_
  | with_reducible refine s_sl ?_
  | with_reducible refine s_nop ?_
  | with_reducible refine s_part ?_
  | with_reducible refine s_lcE ?_
  | with_reducible refine s_lc ?_
  | with_reducible refine s_dcT ?_
  | with_reducible refine s_cvalg ?_
  | with_reducible refine s_fldS ?_
  | with_reducible refine s_I0 ?_
  | with_reducible refine s_U ?_
  | ((with_reducible refine s_eq ?h1 ?q1); (case h1 => exact rfl))
  | ((with_reducible refine s_ne ?h1 ?q1); (case h1 => exact rfl))
  | (with_reducible refine s_tup ?_)
  | (with_reducible refine s_lst ?_)
  | ((with_reducible refine s_isi (d := ?d1) ?h1 ?h2 ?q1); (case h1 => first | assumption | constructor); (case h2 => decide))
  | with_reducible refine ⟨_, _, rfl, rfl, ?_⟩
  | with_reducible refine ⟨_, rfl, ?_⟩)
local macro_rules | `(tactic| walk_at "zi") => `(tactic| first
  | walk_at "z"
  | ((with_reducible refine ite_f ?h1 ?q1); (case h1 => rfl))
  | ((with_reducible refine ite_t ?h1 ?q1); (case h1 => rfl)))
local macro_rules | `(tactic| walk_at "zn") => `(tactic| (intro p hp; generalize eH : upd _ p _ = H2; have s2 := newS hp eH; have e2 := newE eH; clear eH))
local macro_rules | `(tactic| walk_at "zt") => `(tactic| ((with_reducible refine And.intro ?h1 ?_); (case h1 => exact Nat.le_of_ble_eq_true rfl); intro p hp; generalize eH : upd _ p _ = H2; have s2 := newS hp eH; have e2 := newE eH; clear eH))
local macro_rules | `(tactic| walk_at "hl") => `(tactic| first
  | assumption
  | ((with_reducible apply at_same); (· assumption); · walk_at "hl")
  | ((with_reducible apply sqT_same); (· assumption); · walk_at "hl")
  | ((with_reducible apply sqL_same); (· assumption); · walk_at "hl")
  | ((with_reducible apply SqT.of); · walk_at "hl")
  | ((with_reducible apply SqL.of); · walk_at "hl")
  | ((with_reducible apply dp_same); (· assumption); · walk_at "hl")
  | ((with_reducible apply dpA_same); (· assumption); · walk_at "hl")
  | ((with_reducible apply pl_same); (· assumption); · walk_at "hl")
  | ((with_reducible apply bd_same); (· assumption); · walk_at "hl")
  | ((with_reducible apply co_same); (· assumption); · walk_at "hl")
  | ((with_reducible apply cst_same); (· assumption); · walk_at "hl")
  | ((with_reducible apply sg_same); (· assumption); · walk_at "hl")
  | ((with_reducible apply row_same); (· assumption); · walk_at "hl")
  | ((with_reducible apply md_same); (· assumption); · walk_at "hl")
  | ((with_reducible apply plm_same); (· assumption); · walk_at "hl")
  | ((with_reducible apply mst_same); (· assumption); · walk_at "hl")
  | ((with_reducible apply ev_same); (· assumption); · walk_at "hl"))
local macro_rules | `(tactic| walk_at "lk") => `(tactic| with_reducible first
  | exact plF_lr | exact plF_wr | exact plF_rn | exact plF_wn
  | exact bdF_plan | exact bdF_sh | exact bdF_wa | exact bdF_hi | exact bdF_ta | exact bdF_ra | exact bdF_jo
  | exact sgF_plan | exact sgF_board | exact sgF_core | exact sgF_time | exact sgF_sums
  | exact coF_plan | exact coF_fr | exact coF_lim | exact coF_jo)
local macro_rules | `(tactic| walk_at "mk") => `(tactic| with_reducible first | exact mk_ca | exact mk_ed | exact mk_hi | exact mk_up | exact mk_sh | exact mk_bar | exact mk_jo | exact mk_now | exact mk_lg | exact mk_sp | exact mk_jn | exact mk_ln | exact mk_wk)
local macro_rules | `(tactic| walk_at "cl") => `(tactic| with_reducible first | exact Txt.cl_Setup (by assumption) | exact Txt.cl_Board (by assumption) | exact Txt.cl_Core (by assumption) | exact Txt.cl_Single (by assumption))
local macro_rules | `(tactic| walk_at "na") => `(tactic| with_reducible first | exact Txt.n_Setup_line_rows (by assumption) | exact Txt.n_Setup_work_rows (by assumption) | exact Txt.n_Setup_rows_by_name (by assumption) | exact Txt.n_Setup_works_by_name (by assumption) | exact Txt.n_Board_plan (by assumption) | exact Txt.n_Board_shut (by assumption) | exact Txt.n_Board_wanted (by assumption) | exact Txt.n_Board_high (by assumption) | exact Txt.n_Board_taken (by assumption) | exact Txt.n_Board_raised (by assumption) | exact Txt.n_Board_joined (by assumption) | exact Txt.n_Core_plan (by assumption) | exact Txt.n_Core_frames (by assumption) | exact Txt.n_Core_limit (by assumption) | exact Txt.n_Core_jobs (by assumption) | exact Txt.n_Single_plan (by assumption) | exact Txt.n_Single_board (by assumption) | exact Txt.n_Single_core (by assumption) | exact Txt.n_Single_time (by assumption) | exact Txt.n_Single_sums (by assumption))
local macro_rules | `(tactic| walk_at "zz") => `(tactic| first
  | walk_at "zi"
  | ((with_reducible apply s_fldat); (· walk_at "hl"); (· walk_at "cl"); (· walk_at "na"); (· walk_at "lk"))
  | ((with_reducible apply s_methat); (· walk_at "hl"); (· kernel_rfl))
  | ((with_reducible apply s_propat); (· walk_at "hl"))
  | ((with_reducible apply s_ixT); (· walk_at "hl"); (· with_reducible first | exact at0 | exact at1 | exact at2 | exact at3 | exact at4))
  | ((with_reducible apply s_ixL); (· walk_at "hl"); (· with_reducible first | exact at0 | exact at1 | exact at2 | exact at3 | exact at4))
  | ((with_reducible apply s_dgS); (· walk_at "hl"); (· walk_at "mk"))
  | walk_at "zt")
local macro_rules | `(tactic| walk_at "zm") => `(tactic| (intro x dx hx hdx hne; generalize eH : upd (upd _ dx _) x _ = H2; have s2 := mkS hx hdx eH; have e2 := mkE eH; clear eH hdx hne))
local macro_rules | `(tactic| walk_at "zb") => `(tactic| with_reducible first | refine s_gcons ?_ | refine s_gnil ?_ | refine s_gname ?_ | refine s_seq ?_ | refine s_ifS ?_ | refine s_if ?_ | refine s_next ?_ | refine s_drop ?_ | refine s_ret ?_ | refine s_asg ?_)
/-! ### one processor -/
def spGInit (K : Fg) : Sp := fun vs H Q _ => ∃ x PD dx P, vs = [.ref x, .ref PD.p] ∧ H x = some (.ins (ga K "Single") dx []) ∧ PlanAt K H PD P ∧ x ∉ PD.own ∧ ∀ H' A, A.s = x → A.PD = PD → (∀ a ∈ A.own, a = x ∨ H a = none) → Fr [x] H H' → SgAt K H' A P (Sg.start P) → Q .non H'
def spGRing (K : Fg) : Sp := fun vs H Q _ => ∃ A P G z, vs = [.ref A.s, .str z] ∧ SgAt K H A P G ∧ z ∈ P.names ∧ ∀ H', ChS H A H' A → SgAt K H' A P (G.ring P z) → Q (.str (if (G.B.ring P z).2 = true then "waits" else "merged")) H'
def spGTake (K : Fg) : Sp := fun vs H Q _ => ∃ A P G, vs = [.ref A.s] ∧ SgAt K H A P G ∧ ∀ H' D' l, ChS H A H' { A with D := D' } → SgAt K H' { A with D := D' } P { G with C := (takeC P G.C G.B).1, B := (takeC P G.C G.B).2.1 } → H l = none → l ∉ SA.own { A with D := D' } → EvAt K H' l (takeC P G.C G.B).2.2 → Q (.ref l) H'
def spGTick (K : Fg) : Sp := fun vs H Q _ => ∃ A P G, vs = [.ref A.s] ∧ SgAt K H A P G ∧ ∀ H' D' l, ChS H A H' { A with D := D' } → SgAt K H' { A with D := D' } P (G.tick P).1 → H l = none → l ∉ SA.own { A with D := D' } → EvAt K H' l (G.tick P).2 → Q (.ref l) H'
section
variable {P : Program} {w : World} {K : Fg} {mg : Str → Option Value} {base : Heap}
theorem ok_Single_ring (T : Txt K mg) : FnOk P w K mg base (L2.CX P w) 6 (ma K (ga K "Single") "ring") (fdOf K (ma K (ga K "Single") "ring")) ["self", "line"] (spGRing K) := by
  refine FunD.ok T.F_Single_ring sc_Single_ring (fun vs H Q E h => ?_) (fun cdv A outer s H vs Q E hr h => ⟨_, PSs.nox (pss_cons (ps_expr (z_meth (kFld K (pe_fld (pv 0) rfl)) T.cl_Setup T.m_Setup_check_line (ok_Setup_check_line T) T.c_Setup_check_line (hr.mono (by decide)) passL (pa_cons (pv 1) pa_nil)))
      (pss_one (ps_ret (pe_ifExp (pt_val (z_meth (kFld K (pe_fld (pv 0) rfl)) T.cl_Board T.m_Board_ring (ok_Board_ring T) T.c_Board_ring (hr.mono (by decide)) passL (pa_cons (pv 1) pa_nil))) pe_str pe_str)))), ?_⟩)
  · obtain ⟨A, P, G, z, rfl, _⟩ := h
    rfl
  obtain ⟨A, P, G, z, rfl, sg, hz, q⟩ := h
  show (_ : TS) _ [some (.ref A.s), some (.str z)] H
  try dsimp only [cxOf]
  obtain ⟨dx, hs⟩ := sg.ins
  have pl := sg.cst.pl
  have bd := sg.cst.bd
  obtain ⟨pdx, pa, pb, hpl, _⟩ := pl.ins
  obtain ⟨bdx, hb⟩ := bd.ins
  repeat walk_at "zz"
  refine ⟨A.PD, z, P, rfl, pl, hz, ?_⟩
  repeat walk_at "zz"
  refine ⟨A.PD, P, A.E, G.B, z, rfl, pl, bd, sg.cst.bok, hz, fun H1 f1 b1 => ?_⟩
  have st1 := sg.cst.board f1 b1 (sg.cst.bok.ring hz)
  have tk1 : (G.B.ring P z).1.taken = G.B.taken := by
    unfold Bd.ring
    repeat (first | rfl | split)
  obtain ⟨sg1, cs1⟩ := sg.chg (Chg.board f1) st1 (sg.fok.taken tk1)
  have q1 := q H1 cs1 sg1
  repeat walk_at "zz"
  refine ite_b (fun h => ?_) (fun h => ?_)
  · rw [if_pos h] at q1
    exact q1
  · rw [if_neg (by rw [h]; simp)] at q1
    exact q1
theorem ok_Single_take (T : Txt K mg) : FnOk P w K mg base (L2.CX P w) 10 (ma K (ga K "Single") "take") (fdOf K (ma K (ga K "Single") "take")) ["self"] (spGTake K) := by
  refine FunD.ok T.F_Single_take sc_Single_take (fun vs H Q E h => ?_) (fun cdv A outer s H vs Q E hr h => ⟨_, PSs.nox (pss_cons (ps_setLc (i := 1) (own := [("line", 2)]) rfl sc_Single_take.nd rfl rfl (sw_true rfl rfl rfl (by decide +kernel)) (kIT K (pi_tup (z_prop (kFld K (pe_fld (pv 0) rfl)) T.cl_Setup T.p_Setup_order (ok_Setup_order T) T.c_Setup_order (hr.mono (by decide)) rfl))) (blkOk_by (own := [("line", 2)]) (N := n_Single_take) (sc := defScope s_Single_take) (by decide +kernel)) (fun _ _ _ _ _ => (zg 2 sc_Single_take.nd)) (fun _ _ _ _ _ => (pts_one (pt_val (z_meth (kFld K (pe_fld (pv 0) rfl)) T.cl_Board T.m_Board_can_begin (ok_Board_can_begin T) T.c_Board_can_begin (hr.mono (by decide)) passL (pa_cons (pv 2) pa_nil))))) (fun _ _ _ _ _ => (pv 2)))
      (pss_cons (ps_if (PW.pt (pw_or (pt_cmpR (op_eq0K K hr.units) (pv 1) (pe_lst pa_nil) (nomark _)) (pw_or1 (pt_not (pt_val (z_meth (kFld K (pe_fld (pv 0) rfl)) T.cl_Core T.m_Core_may_take (ok_Core_may_take T) T.c_Core_may_take (hr.mono (by decide)) passL (pa_cons (pe_ix (ix_listK K) (pv 1) pe_int (fun _ _ => rfl)) pa_nil))))))) (pss_one (ps_ret (pe_lst pa_nil))) pss_nil)
      (pss_one (ps_ret (pe_lst (pa_cons (pe_tup (pa_cons pe_str (pa_cons (pe_ix (ix_listK K) (pv 1) pe_int (fun _ _ => rfl)) pa_nil))) (kSt K (StX.pa_star (z_meth (kFld K (pe_fld (pv 0) rfl)) T.cl_Core T.m_Core_begin (ok_Core_begin T) T.c_Core_begin (hr.mono (by decide)) passL (pa_cons (pe_ix (ix_listK K) (pv 1) pe_int (fun _ _ => rfl)) (pa_cons (kFld K (pe_fld (pv 0) rfl)) pa_nil))) pa_nil)))))))), ?_⟩)
  · obtain ⟨A, P, G, rfl, _⟩ := h
    rfl
  obtain ⟨A, P, G, rfl, sg, q⟩ := h
  show (_ : TS) _ [some (.ref A.s), none, none] H
  try dsimp only [cxOf]
  obtain ⟨dx, hs⟩ := sg.ins
  have pl := sg.cst.pl
  have bd := sg.cst.bd
  have co := sg.cst.co
  obtain ⟨pdx, pa, pb, hpl, _⟩ := pl.ins
  obtain ⟨bdx, hb⟩ := bd.ins
  obtain ⟨cdx, hc⟩ := co.ins
  have cok : COk P G.C G.B := ⟨sg.cst.bok, sg.cst.jok, sg.fok⟩
  have hol : P.order.length ≤ 12 := by rw [P.order_perm.length_eq]; exact pl.ok.len
  repeat walk_at "zz"
  refine ⟨A.PD, P, rfl, pl, fun H1 t s1 ht e1 => ?_⟩
  have hsd : ∀ l : List Str, DpAll K H1 (l.map V.str) (l.map PyData.str) := fun l => by
    induction l with
    | nil => exact .nil
    | cons x l ih => exact .cons (.str x) ih
  refine lcT_d (l := P.order) (da := PyData.str) (SqT.of e1) (hsd _) G.B.can PyData.str (by omega) (fun _ _ => rfl) (fun z v H2 Yes No hz s2 hd yes no => ?_) (fun D2 H2 ys hD2 s2 e2 a2 => ?_)
  · cases hd
    repeat walk_at "zz"
    refine ⟨rfl, ?_⟩
    repeat walk_at "zz"
    refine ⟨A.PD.p, A.E, G.B, z, rfl, (bd.same s1).same s2, ?_⟩
    repeat walk_at "zz"
    refine ite_b (fun h => ?_) (fun h => ?_)
    · repeat walk_at "zz"
      exact yes h _ _ (Same.refl _) (.str _)
    · exact no h _ (Same.refl _)
  have e3 : ys = (ready P G.B).map V.str := dp_strs a2
  subst e3
  have s12 := s1.trans s2
  have sg2 := sg.same s12
  unfold takeC at q
  repeat walk_at "zz"
  rename_i p3 hp3 H3 s3 e3
  refine s_eq0L (SqL.of (s3 _ _ e2)) (SqL.of e3) ?_
  have sg3 := sg2.same s3
  cases er : ready P G.B with
  | nil =>
    rw [er] at q
    repeat walk_at "zz"
    rename_i p4 hp4 H4 s4 e4
    have s14 := (s12.trans s3).trans s4
    exact q H4 A.D p4 (ChS.same s14) (sg.same s14) ((s12.trans s3).fr.back (A := []) hp4) (fun z => sg3.ex _ z hp4) ⟨_, e4, .nil⟩
  | cons z r =>
    rw [er] at q
    simp only at q
    rw [er, List.map_cons] at e2
    have hL2 : SqL K H2 D2 (V.str z :: r.map V.str) := SqL.of e2
    obtain ⟨hzn, hcan⟩ := can_names er
    repeat walk_at "zz"
    refine ⟨A.PD, P, A.D, G.C, z, rfl, sg3.cst.pl, sg3.cst.co, sg.fok.nm, hzn, fun H4 s4 => ?_⟩
    have s14 := (s12.trans s3).trans s4
    have sg4 := sg.same s14
    have hL4 : SqL K H4 D2 (V.str z :: r.map V.str) := SqL.of (s4 _ _ (s3 _ _ e2))
    repeat walk_at "zz"
    refine ite_b (fun h => ?_) (fun h => ?_)
    · have hm : ¬ G.C.may P z = true := by simpa using h
      rw [if_neg hm] at q
      repeat walk_at "zz"
      rename_i p5 hp5 H5 s5 e5
      have s15 := s14.trans s5
      exact q H5 A.D p5 (ChS.same s15) (sg.same s15) (s14.fr.back (A := []) hp5) (fun z => sg4.ex _ z hp5) ⟨_, e5, .nil⟩
    · have hm : G.C.may P z = true := by simpa using h
      rw [if_pos hm] at q
      repeat walk_at "zz"
      rename_i p5 hp5 H5 s5 e5
      have s15 := s14.trans s5
      have sg5 := sg.same s15
      have fl := sg.fok.len pl.ok
      have hL5 : SqL K H5 D2 (V.str z :: r.map V.str) := SqL.of (s5 _ _ (s4 _ _ (s3 _ _ e2)))
      repeat walk_at "zz"
      refine ⟨A.PD, P, A.D, G.C, A.E, G.B, z, rfl, sg5.cst, by omega, hzn, can_taken hcan, fun H6 D6 l6 ch6 st6 hl6 nl6 ev6 => ?_⟩
      have hok := takeC_ok pl.ok cok
      unfold takeC at hok
      rw [er] at hok
      simp only [if_pos hm] at hok
      obtain ⟨sg6, cs6⟩ := sg5.chg ch6 st6 hok.fok
      obtain ⟨ys, ey, eyl, eyd⟩ := ev6.len
      have hevl := takeC_ev pl.ok cok
      unfold takeC at hevl
      rw [er] at hevl
      simp only [if_pos hm, List.length_cons] at hevl
      refine ⟨l6, ys, rfl, .inr (SqL.of ey), ?_⟩
      repeat walk_at "zz"
      refine ⟨by rw [sizeLine_eq]; simp only [List.length_cons, List.length_append, List.length_nil]; omega, fun l7 hl7 => ?_⟩
      generalize eH : upd H6 l7 _ = H7
      have s7 := newS hl7 eH
      have e7 := newE eH
      clear eH
      have e5' := ch6.fr.1 _ _ e5 (.inr rfl)
      have cs := (ChS.same (A := A) s15).trans cs6
      refine q H7 D6 l7 (cs.trans (ChS.same s7)) (sg6.same s7) (cs.fr.back hl7) (fun z => sg6.ex _ z hl7) ⟨_, e7, ?_⟩
      rw [List.append_nil]
      exact .cons (.tup (SqT.of (s7 _ _ e5')) (.cons (.str _) (.cons (.str _) .nil))) (eyd.same s7)
theorem ok_Single_tick (T : Txt K mg) : FnOk P w K mg base (L2.CX P w) 11 (ma K (ga K "Single") "tick") (fdOf K (ma K (ga K "Single") "tick")) ["self"] (spGTick K) := by
  refine FunD.ok T.F_Single_tick sc_Single_tick (fun vs H Q E h => ?_) (fun cdv A outer s H vs Q E hr h => ⟨_, PSs.nox (pss_cons (zset 1 sc_Single_tick.nd (z_meth0 (pv 0) T.cl_Single T.m_Single_take (ok_Single_take T) T.c_Single_take (hr.mono (by decide)) passL))
      (pss_cons (ps_asg (z_meth (kFld K (pe_fld (pv 0) rfl)) T.cl_Core T.m_Core_tick (ok_Core_tick T) T.c_Core_tick (hr.mono (by decide)) passL (pa_cons (kFld K (pe_fld (pv 0) rfl)) pa_nil)) (kGT K (pg_tup (n := 2) rfl (pgs_cons (zg 2 sc_Single_tick.nd) (pgs_cons (zg 3 sc_Single_tick.nd) pgs_nil)))))
      (pss_cons (ps_daug (hu_of hr) (kFld K (pe_fld (pv 0) rfl)) (pv 2) pe_int in_add (fun _ _ _ => rfl))
      (pss_cons (ps_fldaug (pv 0) pe_int in_add)
      (pss_one (ps_ret (pe_op op_cat (pv 1) (pv 3)))))))), ?_⟩)
  · obtain ⟨A, P, G, rfl, _⟩ := h
    rfl
  obtain ⟨A, P, G, rfl, sg, q⟩ := h
  show (_ : TS) _ [some (.ref A.s), none, none, none] H
  try dsimp only [cxOf]
  obtain ⟨dx, hs⟩ := sg.ins
  have cok : COk P G.C G.B := ⟨sg.cst.bok, sg.cst.jok, sg.fok⟩
  repeat walk_at "zz"
  refine ⟨A, P, G, rfl, sg, fun H1 D1 l1 cs1 sg1 hl1 nl1 ev1 => ?_⟩
  obtain ⟨dx1, hs1⟩ := sg1.ins
  obtain ⟨bdx, hb1⟩ := sg1.cst.bd.ins
  obtain ⟨cdx, hc1⟩ := sg1.cst.co.ins
  have hs1' : H1 A.s = some (.ins (ga K "Single") dx1 (singF { A with D := D1 } G.time)) := hs1
  have cok1 : COk P (takeC P G.C G.B).1 (takeC P G.C G.B).2.1 := takeC_ok sg.cst.pl.ok cok
  repeat walk_at "zz"
  refine ⟨A.PD, P, D1, _, A.E, _, rfl, sg1.cst, sg1.fok, fun H2 D2 t2 l2 ch2 st2 e2 hl2 nl2 ev2 => ?_⟩
  have cok2 := cok1.tick sg.cst.pl.ok
  obtain ⟨sg2, cs2⟩ := sg1.chg ch2 st2 cok2.fok
  obtain ⟨dx2, hs2⟩ := sg2.ins
  have hs2' : H2 A.s = some (.ins (ga K "Single") dx2 (singF { A with D := D2 } G.time)) := hs2
  obtain ⟨xs1, ex1, exl, exd⟩ := ev1.len
  obtain ⟨ys2, ey2, eyl, eyd⟩ := ev2.len
  have ex2 : H2 l1 = some (.lst xs1) := cs2.fr.at ex1 nl1
  refine s_gtup (SqT.of e2) rfl ?_
  repeat walk_at "zz"
  have kin := tick_kind (P := P) (C := (takeC P G.C G.B).1) (B := (takeC P G.C G.B).2.1)
  have hkm : ((takeC P G.C G.B).1.tick P (takeC P G.C G.B).2.1).1 ∈ G.sums.map (·.1) := by rw [sg.sk]; exact kin
  have hkn : (G.sums.map (·.1)).Nodup := by rw [sg.sk]; decide
  obtain ⟨cnt, hcnt⟩ := joinK_val hkm
  refine s_dgS2 sg2.su hcnt ?_
  repeat walk_at "zz"
  have hjl : (joinK G.sums).length ≤ 1000 := by
    have h1 : (G.sums.map (·.1)).length = 4 := by rw [sg.sk]; rfl
    rw [List.length_map] at h1
    show (G.sums.map _).length ≤ _
    rw [List.length_map]
    omega
  refine s_dputS sg2.su (by rw [sizeLine_eq]; exact Nat.lt_of_le_of_lt hjl (by decide)) ?_
  rw [joinK_put hkn hcnt]
  obtain ⟨sg3, cs3⟩ := sg2.setSu (bump G.sums ((takeC P G.C G.B).1.tick P (takeC P G.C G.B).2.1).1) (by rw [bump_fst]; exact sg.sk)
  have nsl1 : l1 ≠ A.su := fun e => sg.ex A.su (by simp [SA.own]) (by rw [← e]; exact hl1)
  have nsl2 : l2 ≠ A.su := fun e => sg1.ex A.su (by simp [SA.own]) (by rw [← e]; exact hl2)
  have nss : A.s ≠ A.su := sg.ssu
  have f3 : Fr [A.su] H2 (upd H2 A.su (.dK (joinK (bump G.sums ((takeC P G.C G.B).1.tick P (takeC P G.C G.B).2.1).1)))) := Fr.upd (by simp) sg2.su rfl
  have hs3 := f3.at hs2' (by simp [nss])
  have ex3 := f3.at ex2 (by simp [nsl1])
  have ey3 := f3.at ey2 (by simp [nsl2])
  have tk3 := f3.tk
  replace sg3 : SgAt K (upd H2 A.su (.dK (joinK (bump G.sums ((takeC P G.C G.B).1.tick P (takeC P G.C G.B).2.1).1)))) { A with D := D2 } P _ := sg3
  replace cs3 : ChS H2 { A with D := D2 } (upd H2 A.su (.dK (joinK (bump G.sums ((takeC P G.C G.B).1.tick P (takeC P G.C G.B).2.1).1)))) { A with D := D2 } := cs3
  show (_ : L2.St → Hp → Prop) _ (upd H2 A.su (.dK (joinK (bump G.sums ((takeC P G.C G.B).1.tick P (takeC P G.C G.B).2.1).1))))
  generalize upd H2 A.su (.dK (joinK (bump G.sums ((takeC P G.C G.B).1.tick P (takeC P G.C G.B).2.1).1))) = H3 at *
  repeat walk_at "zz"
  refine ⟨A.s, _, dx2, _, .int G.time, rfl, hs3, T.cl_Single, T.n_Single_time, sgF_time, ?_⟩
  repeat walk_at "zz"
  refine ⟨dx2, _, hs3, of_decide_eq_true (by kernel_rfl), ?_⟩
  rw [show putF "time" (V.int (G.time + 1)) (singF { A with D := D2 } G.time) = singF { A with D := D2 } (G.time + 1) from sgF_putt]
  obtain ⟨sg4, cs4⟩ := sg3.setT (dx := dx2) (G.time + 1) hs3
  have nsl1 : l1 ≠ A.s := fun e => sg.ex A.s (by simp [SA.own]) (by rw [← e]; exact hl1)
  have nsl2 : l2 ≠ A.s := fun e => sg1.ex A.s (by simp [SA.own]) (by rw [← e]; exact hl2)
  have f4 : Fr [A.s] H3 (upd H3 A.s (.ins (ga K "Single") dx2 (singF { A with D := D2 } (G.time + 1)))) := Fr.upd (by simp) hs3 rfl
  have ex4 := f4.at ex3 (by simp [nsl1])
  have ey4 := f4.at ey3 (by simp [nsl2])
  replace sg4 : SgAt K (upd H3 A.s (.ins (ga K "Single") dx2 (singF { A with D := D2 } (G.time + 1)))) { A with D := D2 } P (G.tick P).1 := sg4
  replace cs4 : ChS H3 { A with D := D2 } (upd H3 A.s (.ins (ga K "Single") dx2 (singF { A with D := D2 } (G.time + 1)))) { A with D := D2 } := cs4
  have tk4 := f4.tk
  generalize upd H3 A.s (.ins (ga K "Single") dx2 (singF { A with D := D2 } (G.time + 1))) = H4 at *
  have b1 := takeC_ev sg.cst.pl.ok cok
  have b2 := tick_ev sg.cst.pl.ok cok1
  repeat walk_at "zz"
  refine s_cat ex4 ey4 (by rw [sizeLine_eq, exl, eyl]; exact Nat.le_trans (Nat.add_le_add b1 b2) (by decide)) fun l5 hl5 => ?_
  generalize eH : upd H4 l5 _ = H5
  have s5 := newS hl5 eH
  have e5 := newE eH
  clear eH
  have cs : ChS H A H4 { A with D := D2 } := cs1.trans (cs2.trans (cs3.trans cs4))
  refine q H5 D2 l5 (cs.trans (ChS.same s5)) (sg4.same s5) (cs.fr.back hl5) (fun z => sg4.ex _ z hl5) ⟨_, e5, ?_⟩
  show DpAll K H5 _ (List.map dEv (_ ++ _))
  rw [List.map_append]
  have td := tupds_map tupd_dEv
  exact ((((exd.tk cs2.fr.tk (td _)).tk tk3 (td _)).tk tk4 (td _)).same s5).app (((eyd.tk tk3 (td _)).tk tk4 (td _)).same s5)
theorem ok_Single_init (T : Txt K mg) : FnOk P w K mg base (L2.CX P w) 5 (ma K (ga K "Single") "__init__") (fdOf K (ma K (ga K "Single") "__init__")) ["self", "setup"] (spGInit K) := by
  refine FunD.ok T.F_Single_init sc_Single_init (fun vs H Q E h => ?_) (fun cdv A outer s H vs Q E hr h => ⟨_, PSs.nox (pss_cons (ps_fld (pv 0) (pv 1) rfl)
      (pss_cons (ps_fld (pv 0) (z_make T.mk_Board (ok_Board_init T) T.c_Board_init (hr.mono (by decide)) rfl T.g_Board passL (pa_cons (pv 1) pa_nil)) rfl)
      (pss_cons (ps_fld (pv 0) (z_make T.mk_Core (ok_Core_init T) T.c_Core_init (hr.mono (by decide)) rfl T.g_Core passL (pa_cons (pv 1) pa_nil)) rfl)
      (pss_cons (ps_fld (pv 0) pe_int rfl)
      (pss_one (ps_fld (pv 0) (pe_disp (pps_cons (z_str T.i_CALL) pe_int (pps_cons (z_str T.i_SPUN) pe_int (pps_cons (z_str T.i_WORK) pe_int (pps_cons (z_str T.i_IDLE) pe_int pps_nil)))) (by rfl) (by rfl) (fun z => by cases z) (by decide)) rfl)))))), ?_⟩)
  · obtain ⟨x, PD, dx, P, rfl, _⟩ := h
    rfl
  obtain ⟨x, PD, dx, P, rfl, hx, pl, hxp, q⟩ := h
  show (_ : TS) _ [some (.ref x), some (.ref PD.p)] H
  try dsimp only [cxOf]
  repeat walk_at "zz"
  refine s_fldput hx T.cl_Single T.n_Single_plan (of_decide_eq_true (by kernel_rfl)) ?_
  generalize eH : upd H x _ = H0
  have f0 : Fr [x] H H0 := by rw [← eH]; exact Fr.upd (by simp) hx rfl
  have x0 : H0 x = some (.ins (ga K "Single") dx [("plan", .ref PD.p)]) := by rw [← eH, upd_same]; rfl
  clear eH
  have pl0 := pl.keep f0 fun a ha z => hxp (by rw [← List.mem_singleton.mp z]; exact ha)
  repeat walk_at "zz"
  walk_at "zm"
  rename_i b bdx hb H1 s1 e1
  refine ⟨b, PD, bdx, P, rfl, e1, pl0.same s1, fun H2 E hEb hEo f2 bd2 => ⟨rfl, ?_⟩⟩
  subst hEb
  have hbx : x ≠ E.b := ne_of_none x0 hb
  have x2 := f2.at (s1 _ _ x0) (by simp [hbx])
  have hE0 : ∀ a ∈ E.own, H0 a = none := fun a ha => by
    rcases hEo a ha with h | h
    · rw [h]; exact hb
    · exact s1.fr.back (A := []) h
  have g2 : Fr [] H0 H2 := s1.fr.seq f2 (by simp [hb])
  have pl2 := pl0.keep g2 (by simp)
  repeat walk_at "zz"
  refine s_fldput x2 T.cl_Single T.n_Single_board (of_decide_eq_true (by kernel_rfl)) ?_
  generalize eH : upd H2 x _ = H3
  have f3 : Fr [x] H2 H3 := by rw [← eH]; exact Fr.upd (by simp) x2 rfl
  have x3 : H3 x = some (.ins (ga K "Single") dx (putF "board" (.ref E.b) [("plan", .ref PD.p)])) := by rw [← eH, upd_same]
  clear eH
  have hEx : ∀ a ∈ E.own, a ≠ x := fun a ha e => by have := hE0 a ha; rw [e, x0] at this; cases this
  have hPx : ∀ a ∈ PD.own, a ∉ [x] := fun a ha z => hxp (by rw [← List.mem_singleton.mp z]; exact ha)
  have bd3 := bd2.keep f3 fun a ha => by simp [hEx a ha]
  have pl3 := pl2.keep f3 hPx
  repeat walk_at "zz"
  walk_at "zm"
  rename_i c cdx hc H4 s4 e4
  refine ⟨c, PD.p, cdx, rfl, e4, fun H5 D hDc hDo f5 co5 => ⟨rfl, ?_⟩⟩
  subst hDc
  have hcx : x ≠ D.c := ne_of_none x3 hc
  have x5 := f5.at (s4 _ _ x3) (by simp [hcx])
  have hD3 : ∀ a ∈ D.own, H3 a = none := fun a ha => by
    rcases hDo a ha with h | h
    · rw [h]; exact hc
    · exact s4.fr.back (A := []) h
  have g5 : Fr [] H3 H5 := s4.fr.seq f5 (by simp [hc])
  have pl5 := pl3.keep g5 (by simp)
  have bd5 := bd3.keep g5 (by simp)
  repeat walk_at "zz"
  refine s_fldput x5 T.cl_Single T.n_Single_core (of_decide_eq_true (by kernel_rfl)) ?_
  generalize eH : upd H5 x _ = H6
  have f6 : Fr [x] H5 H6 := by rw [← eH]; exact Fr.upd (by simp) x5 rfl
  have x6 : H6 x = some (.ins (ga K "Single") dx (putF "core" (.ref D.c) (putF "board" (.ref E.b) [("plan", .ref PD.p)]))) := by rw [← eH, upd_same]
  clear eH
  have hDx : ∀ a ∈ D.own, a ≠ x := fun a ha e => by have := hD3 a ha; rw [e, x3] at this; cases this
  repeat walk_at "zz"
  refine s_fldput x6 T.cl_Single T.n_Single_time (of_decide_eq_true (by kernel_rfl)) ?_
  generalize eH : upd H6 x _ = H7
  have f7 : Fr [x] H6 H7 := by rw [← eH]; exact Fr.upd (by simp) x6 rfl
  have x7 : H7 x = some (.ins (ga K "Single") dx (putF "time" (.int 0) (putF "core" (.ref D.c) (putF "board" (.ref E.b) [("plan", .ref PD.p)])))) := by rw [← eH, upd_same]
  clear eH
  have f67 := f6.trans f7
  have pl7 := pl5.keep f67 hPx
  have bd7 := bd5.keep f67 fun a ha => by simp [hEx a ha]
  have co7 := co5.keep f67 fun a ha => by simp [hDx a ha]
  repeat walk_at "zz"
  intro su hsu
  generalize eH : upd H7 su _ = H8
  have s8 := newS hsu eH
  have e8 := newE eH
  clear eH
  repeat walk_at "zz"
  refine ⟨e8, [(.inr "call", .int 0), (.inr "spun", .int 0), (.inr "work", .int 0), (.inr "idle", .int 0)], rfl, of_decide_eq_true rfl, ?_⟩
  have em : mergeK [] [((.inr "call" : Key), V.int 0), (.inr "spun", .int 0), (.inr "work", .int 0), (.inr "idle", .int 0)] = joinK (sumKeys.map fun k => (k, 0)) := by kernel_rfl
  rw [em]
  generalize eH : upd H8 su _ = H9
  have s9 : Same H7 H9 := fun a o h => by
    rw [← eH, upd_ne (ne_of_none h hsu)]
    exact s8 _ _ h
  have e9 := newE eH
  clear eH
  repeat walk_at "zz"
  have x9 := s9 _ _ x7
  refine s_fldput x9 T.cl_Single T.n_Single_sums (of_decide_eq_true (by kernel_rfl)) ?_
  generalize eH : upd H9 x _ = H10
  have f10 : Fr [x] H9 H10 := by rw [← eH]; exact Fr.upd (by simp) x9 rfl
  have x10 : H10 x = some (.ins (ga K "Single") dx (singF ⟨x, su, PD, D, E⟩ 0)) := by rw [← eH, upd_same]; kernel_rfl
  clear eH
  have hsx : su ≠ x := Ne.symm (ne_of_none x7 hsu)
  have f79 := s9.fr.trans f10
  have pl10 := (pl7.same s9).keep f10 hPx
  have bd10 := (bd7.same s9).keep f10 fun a ha => by simp [hEx a ha]
  have co10 := (co7.same s9).keep f10 fun a ha => by simp [hDx a ha]
  have exE : ∀ a ∈ E.own, H3 a ≠ none := bd3.ex
  have exP : ∀ a ∈ PD.own, H3 a ≠ none := pl3.ex
  have exP0 : ∀ a ∈ PD.own, H0 a ≠ none := pl0.ex
  have G3 : Fr [x] H H3 := f0.trans ((g2.mono (by simp)).trans f3)
  have G7 : Fr [x] H H7 := G3.trans ((g5.mono (by simp)).trans f67)
  refine q H10 ⟨x, su, PD, D, E⟩ rfl rfl (fun a ha => ?_) (G7.trans f79) ⟨⟨pl10, co10, bd10, fun a ha => ⟨fun z => exP a ha (hD3 a z), fun z => exP0 a ha (hE0 a z)⟩, fun a ha z => exE a z (hD3 a ha), ?_, JOk.nil⟩, ⟨by simp [Sg.start], by simp [Sg.start], by simp [Sg.start], by simp [Sg.start]⟩, ⟨dx, x10⟩, f10.at e9 (by simp [hsx]), by kernel_rfl, Ne.symm hsx, ⟨hxp, fun z => hDx _ z rfl, fun z => hEx _ z rfl⟩, ⟨fun z => pl7.ex _ z hsu, fun z => co7.ex _ z hsu, fun z => bd7.ex _ z hsu⟩⟩
  · simp only [SA.own, List.mem_cons, List.mem_append] at ha
    rcases ha with h | h | h | h
    · exact .inl h
    · exact .inr (by rw [h]; exact G7.back hsu)
    · exact .inr (G3.back (hD3 a h))
    · exact .inr (f0.back (hE0 a h))
  · refine ⟨Sub.nil, Sub.nil, Sub.nil, Sub.nil, Sub.nil, ?_⟩
    show (P.order.map _).map _ = P.order
    rw [List.map_map]
    exact List.map_id _
end
end T
set_option maxHeartbeats 1000000
namespace T
open PySem PySem.Spec PyProof.Rows L2 Z
open He (ga ma)
local macro_rules | `(tactic| walk_at "z") => `(tactic| first
  | with_reducible refine s_seq ?_
  | with_reducible refine s_asg ?_
  | with_reducible refine s_gname ?_
  | with_reducible refine s_ret ?_
  | with_reducible refine s_retN ?_
  | with_reducible refine s_ifS ?_
  | with_reducible refine s_drop ?_
  | with_reducible refine s_next ?_
  | with_reducible refine s_cont ?_
  | with_reducible refine s_break ?_
  | with_reducible refine s_par ?_
  | with_reducible refine s_par2 ?_
  | with_reducible refine s_c ?_
  | ((with_reducible refine s_var (v := ?v1) ?h1 ?q1); (case h1 => exact rfl))
  | with_reducible refine s_op ?_
  | with_reducible refine s_un ?_
  | with_reducible refine s_cb ?_
  | with_reducible refine s_cons ?_
  | with_reducible refine s_nil ?_
  | with_reducible refine s_star ?_
  | with_reducible refine s_test ?_
  | with_reducible refine s_B ?_
  | with_reducible refine s_and ?_
  | with_reducible refine s_or ?_
  | with_reducible refine s_not ?_
  | with_reducible refine s_andV ?_
  | with_reducible refine s_orV ?_
  | with_reducible refine s_notV ?_
  | with_reducible refine s_if ?_
  | with_reducible refine s_chain ?_
  | with_reducible refine s_call ?_
  | with_reducible refine s_bl ?_
  | with_reducible refine s_yes ?_
  | with_reducible refine s_gcons ?_
  | with_reducible refine s_gnil ?_
  | with_reducible refine s_din ?_
  | with_reducible refine s_dnin ?_
  | with_reducible refine s_dget ?_
  | with_reducible refine s_bm ?_
  | with_reducible refine s_bm0 ?_
  | with_reducible refine s_fldg ?_
  | with_reducible refine s_meth ?_
  | with_reducible refine s_prop ?_
  | with_reducible refine s_lcT ?_
  | with_reducible refine s_daugg ?_
  | with_reducible refine s_disp ?_
  | with_reducible refine s_pcons ?_
  | with_reducible refine s_pnil ?_
  | with_reducible refine s_gsub ?_
  | with_reducible refine s_augS ?_
  | with_reducible refine s_fldaug ?_
  | with_reducible refine s_add ?_
  | with_reducible refine s_ipI ?_
  | with_reducible refine s_ixO ?_
  | with_reducible refine s_lcL ?_
  | with_reducible refine s_dputg ?_
  | with_reducible refine s_for ?_
  | with_reducible refine s_rng1 ?_
  | with_reducible refine s_iT ?_
  | with_reducible refine s_iL ?_
  | with_reducible refine Or.inl (Exists.intro _ (And.intro rfl ?_))
  | with_reducible refine Or.inr (Exists.intro _ (And.intro rfl ?_))
  | with_reducible refine s_make ?_
  | with_reducible refine s_sl ?_
  | with_reducible refine s_nop ?_
  | with_reducible refine s_part ?_
  | with_reducible refine s_lcE ?_
  | with_reducible refine s_lc ?_
  | with_reducible refine s_dcT ?_
  | with_reducible refine s_cvalg ?_
  | with_reducible refine s_fldS ?_
  | with_reducible refine s_I0 ?_
  | with_reducible refine s_U ?_
  | ((with_reducible refine s_eq ?h1 ?q1); (case h1 => exact rfl))
  | ((with_reducible refine s_ne ?h1 ?q1); (case h1 => exact rfl))
  | (with_reducible refine s_tup ?_)
  | (with_reducible refine s_lst ?_)
  | ((with_reducible refine s_isi (d := ?d1) ?h1 ?h2 ?q1); (case h1 => first | assumption | constructor); (case h2 => decide))
  | with_reducible refine ⟨_, _, rfl, rfl, ?_⟩
  | with_reducible refine ⟨_, rfl, ?_⟩)
local macro_rules | `(tactic| walk_at "zi") => `(tactic| first
  | walk_at "z"
  | ((with_reducible refine ite_f ?h1 ?q1); (case h1 => rfl))
  | ((with_reducible refine ite_t ?h1 ?q1); (case h1 => rfl)))
local macro_rules | `(tactic| walk_at "zn") => `(tactic| (intro p hp; generalize eH : upd _ p _ = H2; have s2 := newS hp eH; have e2 := newE eH; clear eH))
local macro_rules | `(tactic| walk_at "zt") => `(tactic| ((with_reducible refine And.intro ?h1 ?_); (case h1 => exact Nat.le_of_ble_eq_true rfl); intro p hp; generalize eH : upd _ p _ = H2; have s2 := newS hp eH; have e2 := newE eH; clear eH))
local macro_rules | `(tactic| walk_at "hl") => `(tactic| first
  | assumption
  | ((with_reducible apply at_same); (· assumption); · walk_at "hl")
  | ((with_reducible apply sqT_same); (· assumption); · walk_at "hl")
  | ((with_reducible apply sqL_same); (· assumption); · walk_at "hl")
  | ((with_reducible apply SqT.of); · walk_at "hl")
  | ((with_reducible apply SqL.of); · walk_at "hl")
  | ((with_reducible apply dp_same); (· assumption); · walk_at "hl")
  | ((with_reducible apply dpA_same); (· assumption); · walk_at "hl")
  | ((with_reducible apply pl_same); (· assumption); · walk_at "hl")
  | ((with_reducible apply bd_same); (· assumption); · walk_at "hl")
  | ((with_reducible apply co_same); (· assumption); · walk_at "hl")
  | ((with_reducible apply cst_same); (· assumption); · walk_at "hl")
  | ((with_reducible apply sg_same); (· assumption); · walk_at "hl")
  | ((with_reducible apply row_same); (· assumption); · walk_at "hl")
  | ((with_reducible apply md_same); (· assumption); · walk_at "hl")
  | ((with_reducible apply plm_same); (· assumption); · walk_at "hl")
  | ((with_reducible apply mst_same); (· assumption); · walk_at "hl")
  | ((with_reducible apply ev_same); (· assumption); · walk_at "hl"))
local macro_rules | `(tactic| walk_at "lk") => `(tactic| with_reducible first
  | exact plF_lr | exact plF_wr | exact plF_rn | exact plF_wn
  | exact bdF_plan | exact bdF_sh | exact bdF_wa | exact bdF_hi | exact bdF_ta | exact bdF_ra | exact bdF_jo
  | exact sgF_plan | exact sgF_board | exact sgF_core | exact sgF_time | exact sgF_sums
  | exact coF_plan | exact coF_fr | exact coF_lim | exact coF_jo)
local macro_rules | `(tactic| walk_at "mk") => `(tactic| with_reducible first | exact mk_ca | exact mk_ed | exact mk_hi | exact mk_up | exact mk_sh | exact mk_bar | exact mk_jo | exact mk_now | exact mk_lg | exact mk_sp | exact mk_jn | exact mk_ln | exact mk_wk)
local macro_rules | `(tactic| walk_at "cl") => `(tactic| with_reducible first | exact Txt.cl_Setup (by assumption) | exact Txt.cl_Board (by assumption) | exact Txt.cl_Core (by assumption) | exact Txt.cl_Single (by assumption))
local macro_rules | `(tactic| walk_at "na") => `(tactic| with_reducible first | exact Txt.n_Setup_line_rows (by assumption) | exact Txt.n_Setup_work_rows (by assumption) | exact Txt.n_Setup_rows_by_name (by assumption) | exact Txt.n_Setup_works_by_name (by assumption) | exact Txt.n_Board_plan (by assumption) | exact Txt.n_Board_shut (by assumption) | exact Txt.n_Board_wanted (by assumption) | exact Txt.n_Board_high (by assumption) | exact Txt.n_Board_taken (by assumption) | exact Txt.n_Board_raised (by assumption) | exact Txt.n_Board_joined (by assumption) | exact Txt.n_Core_plan (by assumption) | exact Txt.n_Core_frames (by assumption) | exact Txt.n_Core_limit (by assumption) | exact Txt.n_Core_jobs (by assumption) | exact Txt.n_Single_plan (by assumption) | exact Txt.n_Single_board (by assumption) | exact Txt.n_Single_core (by assumption) | exact Txt.n_Single_time (by assumption) | exact Txt.n_Single_sums (by assumption))
local macro_rules | `(tactic| walk_at "zz") => `(tactic| first
  | walk_at "zi"
  | ((with_reducible apply s_fldat); (· walk_at "hl"); (· walk_at "cl"); (· walk_at "na"); (· walk_at "lk"))
  | ((with_reducible apply s_methat); (· walk_at "hl"); (· kernel_rfl))
  | ((with_reducible apply s_propat); (· walk_at "hl"))
  | ((with_reducible apply s_ixT); (· walk_at "hl"); (· with_reducible first | exact at0 | exact at1 | exact at2 | exact at3 | exact at4))
  | ((with_reducible apply s_ixL); (· walk_at "hl"); (· with_reducible first | exact at0 | exact at1 | exact at2 | exact at3 | exact at4))
  | ((with_reducible apply s_dgS); (· walk_at "hl"); (· walk_at "mk"))
  | walk_at "zt")
local macro_rules | `(tactic| walk_at "zm") => `(tactic| (intro x dx hx hdx hne; generalize eH : upd (upd _ dx _) x _ = H2; have s2 := mkS hx hdx eH; have e2 := mkE eH; clear eH hdx hne))
local macro_rules | `(tactic| walk_at "zb") => `(tactic| with_reducible first | refine s_gcons ?_ | refine s_gnil ?_ | refine s_gname ?_ | refine s_seq ?_ | refine s_ifS ?_ | refine s_if ?_ | refine s_next ?_ | refine s_drop ?_ | refine s_ret ?_ | refine s_asg ?_)
def spGCalls (K : Fg) : Sp := fun vs H Q _ => ∃ A P G, vs = [.ref A.s] ∧ SgAt K H A P G ∧ ∀ H' l xs, Same H H' → H l = none → H' l = some (.lst xs) → DpAll K H' xs (G.C.frames.map dCall) → Q (.ref l) H'
def spGQueue (K : Fg) : Sp := fun vs H Q _ => ∃ A P G, vs = [.ref A.s] ∧ SgAt K H A P G ∧ ∀ H' l xs, Same H H' → H l = none → H' l = some (.lst xs) → DpAll K H' xs ((queueOf P G.C.jobs).map dJob) → Q (.ref l) H'
def spGSpent (K : Fg) : Sp := fun vs H Q _ => ∃ A P G, vs = [.ref A.s] ∧ SgAt K H A P G ∧ ∀ H' t, Same H H' → H t = none → H' t = some (.tup (G.sums.map fun x => V.int x.2)) → Q (.ref t) H'
def spTaken (K : Fg) : Sp := fun vs H Q _ => ∃ r sc ns many, vs = [.ref r, .int many] ∧ RowAt K H r sc ns ∧ 0 < many ∧ many < 1000000 ∧ ∀ n H', 0 ≤ n → n < many → Fr [r] H H' → RowAt K H' r sc ns → Q (.int n) H'
section
variable {P : Program} {w : World} {K : Fg} {mg : Str → Option Value} {base : Heap}
theorem ok_Single_calls (T : Txt K mg) : FnOk P w K mg base (L2.CX P w) 1 (pga K (ga K "Single") "calls") (fdOf K (pga K (ga K "Single") "calls")) ["self"] (spGCalls K) := by
  refine FunD.ok T.F_Single_calls sc_Single_calls (fun vs H Q E h => ?_) (fun cdv A outer s H vs Q E hr h => ⟨_, PSs.nox (pss_one (ps_ret (pe_lc (own := [("line", 1), ("step", 2), ("ticks", 3), ("kept", 4)]) rfl sc_Single_calls.nd (kIL K (pi_list (kFld K (pe_fld (kFld K (pe_fld (pv 0) rfl)) rfl)))) (blkOk_by (own := [("line", 1), ("step", 2), ("ticks", 3), ("kept", 4)]) (N := n_Single_calls) (sc := defScope s_Single_calls) (by decide +kernel)) (fun _ _ _ _ _ => (kGL K (pg_lst (n := 4) rfl (pgs_cons (zg 1 sc_Single_calls.nd) (pgs_cons (zg 2 sc_Single_calls.nd) (pgs_cons (zg 3 sc_Single_calls.nd) (pgs_cons (zg 4 sc_Single_calls.nd) pgs_nil))))))) (fun _ _ _ _ _ => pts_nil) (fun _ _ _ _ _ => (pe_tup (pa_cons (pv 1) (pa_cons (pv 2) (pa_cons (pv 3) pa_nil)))))))), ?_⟩)
  · obtain ⟨A, P, G, rfl, _⟩ := h
    rfl
  obtain ⟨A, P, G, rfl, sg, q⟩ := h
  show (_ : TS) _ [some (.ref A.s), none, none, none, none] H
  try dsimp only [cxOf]
  obtain ⟨dx, hs⟩ := sg.ins
  obtain ⟨cdx, hc⟩ := sg.cst.co.ins
  have hl := sg.fok.len sg.cst.pl.ok
  repeat walk_at "zz"
  refine lcL_d (l := G.C.frames) (da := fun f => .list [.str f.ln, .int f.st, .int f.tk, .int f.kp]) (SqL.of sg.cst.co.fr) (sg.cst.co.fs.dp fun f => .cons (.str _) (.cons (.int _) (.cons (.int _) (.cons (.int _) .nil)))) (fun _ => true) dCall (by omega) (fun _ _ => rfl) (fun f v H1 Yes No hf s1 hd yes no => ?_) (fun l H1 xs hl s1 e1 a1 => ?_)
  · obtain ⟨a, zs, rfl, hLa, hAa⟩ := hd.lstI
    cases hAa with | cons h1 hAa => ?_
    cases hAa with | cons h2 hAa => ?_
    cases hAa with | cons h3 hAa => ?_
    cases hAa with | cons h4 hAa => ?_
    cases hAa
    cases h1
    cases h2
    cases h3
    cases h4
    refine s_glst hLa rfl ?_
    repeat walk_at "zz"
    refine ⟨rfl, ?_⟩
    repeat walk_at "zz"
    rename_i p hp H2 s2 e2
    exact yes rfl _ _ s2 (.tup (SqT.of e2) (.cons (.str _) (.cons (.int _) (.cons (.int _) .nil))))
  · rw [List.filter_eq_self.mpr (fun _ _ => rfl)] at a1
    exact q H1 l xs s1 hl e1 a1
theorem ok_Single_queue (T : Txt K mg) : FnOk P w K mg base (L2.CX P w) 2 (pga K (ga K "Single") "queue") (fdOf K (pga K (ga K "Single") "queue")) ["self"] (spGQueue K) := by
  refine FunD.ok T.F_Single_queue sc_Single_queue (fun vs H Q E h => ?_) (fun cdv A outer s H vs Q E hr h => ⟨_, PSs.nox (pss_one (ps_ret (pe_lc (own := [("place", 1)]) rfl sc_Single_queue.nd (kIL K (pi_list (z_meth0 (kFld K (pe_fld (pv 0) rfl)) T.cl_Core T.m_Core_job_places (ok_Core_job_places T) T.c_Core_job_places (hr.mono (by decide)) passL))) (blkOk_by (own := [("place", 1)]) (N := n_Single_queue) (sc := defScope s_Single_queue) (by decide +kernel)) (fun _ _ _ _ _ => (zg 1 sc_Single_queue.nd)) (fun _ _ _ _ _ => pts_nil) (fun _ _ _ _ _ => (pe_callTy (call_tuple_ofK K) (by rfl) T.u_tuple (by decide +kernel) (pa_cons (pe_ix (ix_listK K) (kFld K (pe_fld (kFld K (pe_fld (pv 0) rfl)) rfl)) (pv 1) (fun _ _ => rfl)) pa_nil)))))), ?_⟩)
  · obtain ⟨A, P, G, rfl, _⟩ := h
    rfl
  obtain ⟨A, P, G, rfl, sg, q⟩ := h
  show (_ : TS) _ [some (.ref A.s), none] H
  try dsimp only [cxOf]
  obtain ⟨dx, hs⟩ := sg.ins
  obtain ⟨cdx, hc⟩ := sg.cst.co.ins
  have hl := sg.cst.jok.len sg.cst.pl.ok
  repeat walk_at "zz"
  refine ⟨A.PD, P, A.D, G.C, rfl, sg.cst.pl, sg.cst.co, sg.cst.jok.sub, by omega, fun H1 l s1 hl1 e1 => ?_⟩
  have hints : ∀ m : List Nat, DpAll K H1 (m.map fun n => V.int (n : Nat)) (m.map fun n : Nat => PyData.int n) := fun m => by
    induction m with
    | nil => exact .nil
    | cons x m ih => exact .cons (.int _) ih
  have hpl := places_len P G.C.jobs
  refine lcL_d (l := places P G.C.jobs) (da := fun n : Nat => .int n) (SqL.of e1) (hints _) (fun _ => true) (fun k => dJob (jobAt G.C.jobs k)) (by omega) (fun _ _ => rfl) (fun k v H2 Yes No hk s2 hd yes no => ?_) (fun l2 H2 xs hl2 s2 e2 a2 => ?_)
  · cases hd
    have sg2 := (sg.same s1).same s2
    have hjo := sg2.cst.co.jo
    have hklt := places_lt hk
    obtain ⟨a, ha, haj⟩ := sg2.cst.co.js.geti (i := k) (xs := jbV (jobAt G.C.jobs k)) (by
      rw [List.getElem?_map]
      unfold jobAt
      rw [List.getElem?_eq_getElem hklt]
      rfl)
    repeat walk_at "zz"
    refine ⟨rfl, ?_⟩
    repeat walk_at "zz"
    refine s_ixL (SqL.of hjo) (v := .ref a) (atI_nat (by rw [List.getElem?_map, ha]; rfl)) ?_
    repeat walk_at "zz"
    refine ⟨a, _, rfl, .inl ⟨SqL.of haj, fun t ht => ?_⟩⟩
    exact yes rfl _ _ (Same.new ht) (.tup (SqT.of upd_same) (.cons (.str _) (.cons (.int _) .nil)))
  · rw [List.filter_eq_self.mpr (fun _ _ => rfl)] at a2
    refine q H2 l2 xs (s1.trans s2) (s1.fr.back (A := []) hl2) e2 ?_
    unfold queueOf
    rw [List.map_map]
    exact a2
theorem ok_Single_spent (T : Txt K mg) : FnOk P w K mg base (L2.CX P w) 1 (pga K (ga K "Single") "spent") (fdOf K (pga K (ga K "Single") "spent")) ["self"] (spGSpent K) := by
  refine FunD.ok T.F_Single_spent sc_Single_spent (fun vs H Q E h => ?_) (fun cdv A outer s H vs Q E hr h => ⟨_, PSs.nox (pss_one (ps_ret (pe_callTy (call_tuple_ofK K) (by rfl) T.u_tuple (by decide +kernel) (pa_cons (pe_lc (own := [("kind", 1)]) rfl sc_Single_spent.nd (kIT K (pi_tup (pe_tup (pa_cons (z_str T.i_CALL) (pa_cons (z_str T.i_SPUN) (pa_cons (z_str T.i_WORK) (pa_cons (z_str T.i_IDLE) pa_nil))))))) (blkOk_by (own := [("kind", 1)]) (N := n_Single_spent) (sc := defScope s_Single_spent) (by decide +kernel)) (fun _ _ _ _ _ => (zg 1 sc_Single_spent.nd)) (fun _ _ _ _ _ => pts_nil) (fun _ _ _ _ _ => (pe_dget (hu_of hr) (kFld K (pe_fld (pv 0) rfl)) (pv 1) (fun _ _ => rfl)))) pa_nil)))), ?_⟩)
  · obtain ⟨A, P, G, rfl, _⟩ := h
    rfl
  obtain ⟨A, P, G, rfl, sg, q⟩ := h
  show (_ : TS) _ [some (.ref A.s), none] H
  try dsimp only [cxOf]
  obtain ⟨dx, hs⟩ := sg.ins
  have hsu := sg.su
  have hkn : (G.sums.map (·.1)).Nodup := by rw [sg.sk]; decide
  have hk4 : G.sums.length = 4 := by
    have h1 : (G.sums.map (·.1)).length = 4 := by rw [sg.sk]; rfl
    rwa [List.length_map] at h1
  repeat walk_at "zz"
  rename_i p1 hp1 H1 s1 e1
  have ek : ([V.str "call", V.str "spun", V.str "work", V.str "idle"] : List V) = G.sums.map fun x => V.str x.1 := by
    have : (G.sums.map (·.1)).map V.str = sumKeys.map V.str := by rw [sg.sk]
    rw [List.map_map] at this
    exact this.symm
  rw [ek] at e1
  refine lcT_d (l := G.sums) (da := fun x => .str x.1) (SqT.of e1) (dp_pairs _) (fun _ => true) (fun x => .int x.2) (by omega) (fun _ _ => rfl) (fun x v H2 Yes No hx s2 hd yes no => ?_) (fun l2 H2 xs hl2 s2 e2 a2 => ?_)
  · cases hd
    repeat walk_at "zz"
    refine ⟨rfl, ?_⟩
    repeat walk_at "zz"
    refine s_dgS (s2 _ _ (s1 _ _ hsu)) (joinK_mem hkn hx) ?_
    exact yes rfl _ _ (Same.refl _) (.int _)
  · rw [List.filter_eq_self.mpr (fun _ _ => rfl), map_int] at a2
    have e3 := dp_ints a2
    subst e3
    repeat walk_at "zz"
    have s12 := s1.trans s2
    refine ⟨l2, _, rfl, .inl ⟨SqL.of e2, fun t ht => ?_⟩⟩
    refine q _ t (s12.trans (Same.new ht)) (s12.fr.back (A := []) ht) ?_
    rw [upd_same, List.map_map]
    rfl
theorem ok_w_taken (T : Txt K mg) : FnOk P w K mg base (L2.CX P w) 1 (ga K "_law_taken") (fdOf K (ga K "_law_taken")) ["_law_row", "_law_many"] (spTaken K) := by
  refine FunD.ok T.F_w_taken sc_w_taken (fun vs H Q E h => ?_) (fun cdv A outer s H vs Q E hr h => ⟨_, PSs.nox (pss_cons (ps_if (pt_cmpR op_gt (pe_ix (ix_listK K) (pv 0) pe_int (fun _ _ => rfl)) pe_int (nomark _)) (pss_cons (zset 2 sc_w_taken.nd (pe_op op_mod (pe_callTy call_int1 (by rfl) T.u_int (by decide +kernel) (pa_cons (pe_ix (ix_listK K) (pv 0) pe_int (fun _ _ => rfl)) pa_nil)) (pv 1)))
      (pss_cons (ps_asg (pe_op op_fdiv (pe_ix (ix_listK K) (pv 0) pe_int (fun _ _ => rfl)) (pv 1)) (pg_sub (pv 0) pe_int set_list))
      (pss_one (ps_ret (pv 2))))) pss_nil)
      (pss_cons (ps_asg (pe_op op_add (pe_ix (ix_listK K) (pv 0) pe_int (fun _ _ => rfl)) pe_int) (pg_sub (pv 0) pe_int set_list))
      (pss_cons (ps_if (pt_cmpR op_gt (pe_ix (ix_listK K) (pv 0) pe_int (fun _ _ => rfl)) (pe_callB (call_lenK K) (by rfl) T.u_len (by decide +kernel) (pa_cons (pe_ix (ix_listK K) (pv 0) pe_int (fun _ _ => rfl)) pa_nil)) (nomark _)) (pss_cons (ps_asg (pe_op op_mod (pe_callTy call_int1 (by rfl) T.u_int (by decide +kernel) (pa_cons (pe_op op_add (pe_op op_mul (pe_ix (ix_listK K) (pv 0) pe_int (fun _ _ => rfl)) pe_int) pe_int) pa_nil)) pe_int) (pg_sub (pv 0) pe_int set_list))
      (pss_one (ps_ret (pe_op op_mod (pe_callTy call_int1 (by rfl) T.u_int (by decide +kernel) (pa_cons (pe_op op_fdiv (pe_ix (ix_listK K) (pv 0) pe_int (fun _ _ => rfl)) pe_int) pa_nil)) (pv 1))))) pss_nil)
      (pss_cons (zset 3 sc_w_taken.nd (pe_ix (ix_listK K) (pe_ix (ix_listK K) (pv 0) pe_int (fun _ _ => rfl)) (pe_op op_sub (pe_ix (ix_listK K) (pv 0) pe_int (fun _ _ => rfl)) pe_int) (fun _ _ => rfl)))
      (pss_cons (ps_asg (pe_op op_mod (pe_callTy call_int1 (by rfl) T.u_int (by decide +kernel) (pa_cons (pe_op op_add (pe_op op_add (pe_op op_mul (pe_ix (ix_listK K) (pv 0) pe_int (fun _ _ => rfl)) pe_int) (pv 3)) pe_int) pa_nil)) pe_int) (pg_sub (pv 0) pe_int set_list))
      (pss_cons (ps_if (pt_cmpR op_ge (pv 3) (pe_op op_pow pe_int pe_int) (nomark _)) (pss_one (ps_asg (pe_op op_fdiv (pv 3) (pv 1)) (pg_sub (pv 0) pe_int set_list))) pss_nil)
      (pss_one (ps_ret (pe_op op_mod (pe_callTy call_int1 (by rfl) T.u_int (by decide +kernel) (pa_cons (pv 3) pa_nil)) (pv 1)))))))))), ?_⟩)
  · obtain ⟨r, sc, ns, many, rfl, _⟩ := h
    rfl
  obtain ⟨r, sc, ns, many, rfl, hrow, hm0, hm1, q⟩ := h
  show (_ : TS) _ [some (.ref r), some (.int many), none, none] H
  try dsimp only [cxOf]
  obtain ⟨i, seed, rest, er, hi, hs0, hs1⟩ := hrow.row
  have hL : SqL K H r [.ref sc, .int i, .int seed, .int rest] := SqL.of er
  have hsc := hrow.scr
  have hne := hrow.ne
  repeat walk_at "zz"
  refine ite_b (fun h => ?_) (fun h => ?_)
  · repeat walk_at "zz"
    refine s_I hm0 ?_
    repeat walk_at "zz"
    refine s_I ⟨hm0, by omega⟩ ?_
    repeat walk_at "zz"
    refine s_setL er (j := 3) rfl ?_
    repeat walk_at "zz"
    refine q _ _ (Int.emod_nonneg _ (by omega)) (Int.emod_lt_of_pos _ hm0) (Fr.upd (by simp) er rfl) ⟨⟨i, seed, rest / many, upd_same, hi, hs0, hs1⟩, (Fr.upd (A := [r]) (by simp) er rfl).scr hsc hne, hne⟩
  · have f1 : ∀ o, Fr [r] H (upd H r o) := fun o => Fr.upd (by simp) er rfl
    repeat walk_at "zz"
    refine s_setL er (j := 1) rfl ?_
    show (_ : L2.St → Hp → Prop) _ (upd H r (.lst [.ref sc, .int (i + 1), .int seed, .int rest]))
    have f1 : Fr [r] H (upd H r (.lst [.ref sc, .int (i + 1), .int seed, .int rest])) := Fr.upd (by simp) er rfl
    have er1 : upd H r (.lst [.ref sc, .int (i + 1), .int seed, .int rest]) r = some (.lst [.ref sc, .int (i + 1), .int seed, .int rest]) := upd_same
    generalize upd H r (.lst [.ref sc, .int (i + 1), .int seed, .int rest]) = H1 at *
    have hL1 : SqL K H1 r [.ref sc, .int (i + 1), .int seed, .int rest] := SqL.of er1
    have hsc1 := f1.scr hsc hne
    repeat walk_at "zz"
    refine s_lenL hsc1 ?_
    rw [List.length_map]
    repeat walk_at "zz"
    refine ite_b (fun h => ?_) (fun h => ?_)
    · repeat walk_at "zz"
      refine s_I (.inl ⟨by omega, by omega⟩) ?_
      repeat walk_at "zz"
      refine s_I (by decide) ?_
      repeat walk_at "zz"
      refine s_setL er1 (j := 2) rfl ?_
      show (_ : L2.St → Hp → Prop) _ (upd H1 r (.lst [.ref sc, .int (i + 1), .int ((seed * 48271 + 11) % 2147483647), .int rest]))
      have f2 : Fr [r] H1 (upd H1 r (.lst [.ref sc, .int (i + 1), .int ((seed * 48271 + 11) % 2147483647), .int rest])) := Fr.upd (by simp) er1 rfl
      have er2 : upd H1 r (.lst [.ref sc, .int (i + 1), .int ((seed * 48271 + 11) % 2147483647), .int rest]) r = some (.lst [.ref sc, .int (i + 1), .int ((seed * 48271 + 11) % 2147483647), .int rest]) := upd_same
      generalize upd H1 r (.lst [.ref sc, .int (i + 1), .int ((seed * 48271 + 11) % 2147483647), .int rest]) = H2 at *
      have hL2 : SqL K H2 r [.ref sc, .int (i + 1), .int ((seed * 48271 + 11) % 2147483647), .int rest] := SqL.of er2
      repeat walk_at "zz"
      refine s_I ⟨by decide, by decide⟩ ?_
      repeat walk_at "zz"
      refine s_I hm0 ?_
      exact q _ _ (Int.emod_nonneg _ (by omega)) (Int.emod_lt_of_pos _ hm0) (f1.trans f2) ⟨⟨_, _, _, er2, by omega, Int.emod_nonneg _ (by omega), Int.emod_lt_of_pos _ (by omega)⟩, f2.scr hsc1 hne, hne⟩
    · have hlt : i.toNat < ns.length := by
        have := of_decide_eq_false h
        omega
      obtain ⟨cell, hcell⟩ : ∃ c, ns[i.toNat]? = some c := ⟨_, List.getElem?_eq_getElem hlt⟩
      repeat walk_at "zz"
      refine s_ixL hsc1 (v := .int cell) (at_of (j := i.toNat) (by omega) (by rw [List.getElem?_map, hcell]; rfl)) ?_
      repeat walk_at "zz"
      refine s_I (.inl ⟨by omega, by omega⟩) ?_
      repeat walk_at "zz"
      refine s_I (by decide) ?_
      repeat walk_at "zz"
      refine s_setL er1 (j := 2) rfl ?_
      show (_ : L2.St → Hp → Prop) _ (upd H1 r (.lst [.ref sc, .int (i + 1), .int ((seed * 48271 + cell + 11) % 2147483647), .int rest]))
      have f2 : Fr [r] H1 (upd H1 r (.lst [.ref sc, .int (i + 1), .int ((seed * 48271 + cell + 11) % 2147483647), .int rest])) := Fr.upd (by simp) er1 rfl
      have er2 : upd H1 r (.lst [.ref sc, .int (i + 1), .int ((seed * 48271 + cell + 11) % 2147483647), .int rest]) r = some (.lst [.ref sc, .int (i + 1), .int ((seed * 48271 + cell + 11) % 2147483647), .int rest]) := upd_same
      generalize upd H1 r (.lst [.ref sc, .int (i + 1), .int ((seed * 48271 + cell + 11) % 2147483647), .int rest]) = H2 at *
      have f12 := f1.trans f2
      have hsc2 := f2.scr hsc1 hne
      have fin : ∀ (H3 : Hp) (x y z : Int), Fr [r] H H3 → SqL K H3 sc (ns.map V.int) → H3 r = some (.lst [.ref sc, .int x, .int y, .int z]) → 0 ≤ x → 0 ≤ y → y < 2147483647 → Q (.int (cell % many)) H3 := fun H3 x y z f hs he h1 h2 h3 =>
        q _ _ (Int.emod_nonneg _ (by omega)) (Int.emod_lt_of_pos _ hm0) f ⟨⟨_, _, _, he, h1, h2, h3⟩, hs, hne⟩
      repeat walk_at "zz"
      refine s_I ⟨by decide, by decide, by decide⟩ ?_
      repeat walk_at "zz"
      refine ite_b (fun h => ?_) (fun h => ?_)
      · repeat walk_at "zz"
        refine s_I ⟨hm0, by omega⟩ ?_
        repeat walk_at "zz"
        refine s_setL er2 (j := 3) rfl ?_
        repeat walk_at "zz"
        refine s_I hm0 ?_
        have f3 : ∀ o, Fr [r] H2 (upd H2 r o) := fun o => Fr.upd (by simp) er2 rfl
        exact fin _ (i + 1) ((seed * 48271 + cell + 11) % 2147483647) (cell / many) (f12.trans (f3 _)) ((f3 _).scr hsc2 hne) upd_same (by omega) (Int.emod_nonneg _ (by omega)) (Int.emod_lt_of_pos _ (by omega))
      · repeat walk_at "zz"
        refine s_I hm0 ?_
        exact fin H2 _ _ _ f12 hsc2 er2 (by omega) (Int.emod_nonneg _ (by omega)) (Int.emod_lt_of_pos _ (by omega))
end
end T
set_option maxHeartbeats 1000000
namespace T
open PySem PySem.Spec PyProof.Rows L2 Z
open He (ga ma)
local macro_rules | `(tactic| walk_at "z") => `(tactic| first
  | with_reducible refine s_seq ?_
  | with_reducible refine s_asg ?_
  | with_reducible refine s_gname ?_
  | with_reducible refine s_ret ?_
  | with_reducible refine s_retN ?_
  | with_reducible refine s_ifS ?_
  | with_reducible refine s_drop ?_
  | with_reducible refine s_next ?_
  | with_reducible refine s_cont ?_
  | with_reducible refine s_break ?_
  | with_reducible refine s_par ?_
  | with_reducible refine s_par2 ?_
  | with_reducible refine s_c ?_
  | ((with_reducible refine s_var (v := ?v1) ?h1 ?q1); (case h1 => exact rfl))
  | with_reducible refine s_op ?_
  | with_reducible refine s_un ?_
  | with_reducible refine s_cb ?_
  | with_reducible refine s_cons ?_
  | with_reducible refine s_nil ?_
  | with_reducible refine s_star ?_
  | with_reducible refine s_test ?_
  | with_reducible refine s_B ?_
  | with_reducible refine s_and ?_
  | with_reducible refine s_or ?_
  | with_reducible refine s_not ?_
  | with_reducible refine s_andV ?_
  | with_reducible refine s_orV ?_
  | with_reducible refine s_notV ?_
  | with_reducible refine s_if ?_
  | with_reducible refine s_chain ?_
  | with_reducible refine s_call ?_
  | with_reducible refine s_bl ?_
  | with_reducible refine s_yes ?_
  | with_reducible refine s_gcons ?_
  | with_reducible refine s_gnil ?_
  | with_reducible refine s_din ?_
  | with_reducible refine s_dnin ?_
  | with_reducible refine s_dget ?_
  | with_reducible refine s_bm ?_
  | with_reducible refine s_bm0 ?_
  | with_reducible refine s_fldg ?_
  | with_reducible refine s_meth ?_
  | with_reducible refine s_prop ?_
  | with_reducible refine s_lcT ?_
  | with_reducible refine s_daugg ?_
  | with_reducible refine s_disp ?_
  | with_reducible refine s_pcons ?_
  | with_reducible refine s_pnil ?_
  | with_reducible refine s_gsub ?_
  | with_reducible refine s_augS ?_
  | with_reducible refine s_fldaug ?_
  | with_reducible refine s_add ?_
  | with_reducible refine s_ipI ?_
  | with_reducible refine s_ixO ?_
  | with_reducible refine s_lcL ?_
  | with_reducible refine s_dputg ?_
  | with_reducible refine s_for ?_
  | with_reducible refine s_rng1 ?_
  | with_reducible refine s_iT ?_
  | with_reducible refine s_iL ?_
  | with_reducible refine Or.inl (Exists.intro _ (And.intro rfl ?_))
  | with_reducible refine Or.inr (Exists.intro _ (And.intro rfl ?_))
  | with_reducible refine s_make ?_
  | with_reducible refine s_sl ?_
  | with_reducible refine s_nop ?_
  | with_reducible refine s_part ?_
  | with_reducible refine s_lcE ?_
  | with_reducible refine s_lc ?_
  | with_reducible refine s_dcT ?_
  | with_reducible refine s_cvalg ?_
  | with_reducible refine s_fldS ?_
  | with_reducible refine s_I0 ?_
  | with_reducible refine s_U ?_
  | ((with_reducible refine s_eq ?h1 ?q1); (case h1 => exact rfl))
  | ((with_reducible refine s_ne ?h1 ?q1); (case h1 => exact rfl))
  | (with_reducible refine s_tup ?_)
  | (with_reducible refine s_lst ?_)
  | ((with_reducible refine s_isi (d := ?d1) ?h1 ?h2 ?q1); (case h1 => first | assumption | constructor); (case h2 => decide))
  | with_reducible refine ⟨_, _, rfl, rfl, ?_⟩
  | with_reducible refine ⟨_, rfl, ?_⟩)
local macro_rules | `(tactic| walk_at "zi") => `(tactic| first
  | walk_at "z"
  | ((with_reducible refine ite_f ?h1 ?q1); (case h1 => rfl))
  | ((with_reducible refine ite_t ?h1 ?q1); (case h1 => rfl)))
local macro_rules | `(tactic| walk_at "zn") => `(tactic| (intro p hp; generalize eH : upd _ p _ = H2; have s2 := newS hp eH; have e2 := newE eH; clear eH))
local macro_rules | `(tactic| walk_at "zt") => `(tactic| ((with_reducible refine And.intro ?h1 ?_); (case h1 => exact Nat.le_of_ble_eq_true rfl); intro p hp; generalize eH : upd _ p _ = H2; have s2 := newS hp eH; have e2 := newE eH; clear eH))
local macro_rules | `(tactic| walk_at "hl") => `(tactic| first
  | assumption
  | ((with_reducible apply at_same); (· assumption); · walk_at "hl")
  | ((with_reducible apply sqT_same); (· assumption); · walk_at "hl")
  | ((with_reducible apply sqL_same); (· assumption); · walk_at "hl")
  | ((with_reducible apply SqT.of); · walk_at "hl")
  | ((with_reducible apply SqL.of); · walk_at "hl")
  | ((with_reducible apply dp_same); (· assumption); · walk_at "hl")
  | ((with_reducible apply dpA_same); (· assumption); · walk_at "hl")
  | ((with_reducible apply pl_same); (· assumption); · walk_at "hl")
  | ((with_reducible apply bd_same); (· assumption); · walk_at "hl")
  | ((with_reducible apply co_same); (· assumption); · walk_at "hl")
  | ((with_reducible apply cst_same); (· assumption); · walk_at "hl")
  | ((with_reducible apply sg_same); (· assumption); · walk_at "hl")
  | ((with_reducible apply row_same); (· assumption); · walk_at "hl")
  | ((with_reducible apply md_same); (· assumption); · walk_at "hl")
  | ((with_reducible apply plm_same); (· assumption); · walk_at "hl")
  | ((with_reducible apply mst_same); (· assumption); · walk_at "hl")
  | ((with_reducible apply ev_same); (· assumption); · walk_at "hl"))
local macro_rules | `(tactic| walk_at "lk") => `(tactic| with_reducible first
  | exact plF_lr | exact plF_wr | exact plF_rn | exact plF_wn
  | exact bdF_plan | exact bdF_sh | exact bdF_wa | exact bdF_hi | exact bdF_ta | exact bdF_ra | exact bdF_jo
  | exact sgF_plan | exact sgF_board | exact sgF_core | exact sgF_time | exact sgF_sums
  | exact coF_plan | exact coF_fr | exact coF_lim | exact coF_jo)
local macro_rules | `(tactic| walk_at "mk") => `(tactic| with_reducible first | exact mk_ca | exact mk_ed | exact mk_hi | exact mk_up | exact mk_sh | exact mk_bar | exact mk_jo | exact mk_now | exact mk_lg | exact mk_sp | exact mk_jn | exact mk_ln | exact mk_wk)
local macro_rules | `(tactic| walk_at "cl") => `(tactic| with_reducible first | exact Txt.cl_Setup (by assumption) | exact Txt.cl_Board (by assumption) | exact Txt.cl_Core (by assumption) | exact Txt.cl_Single (by assumption))
local macro_rules | `(tactic| walk_at "na") => `(tactic| with_reducible first | exact Txt.n_Setup_line_rows (by assumption) | exact Txt.n_Setup_work_rows (by assumption) | exact Txt.n_Setup_rows_by_name (by assumption) | exact Txt.n_Setup_works_by_name (by assumption) | exact Txt.n_Board_plan (by assumption) | exact Txt.n_Board_shut (by assumption) | exact Txt.n_Board_wanted (by assumption) | exact Txt.n_Board_high (by assumption) | exact Txt.n_Board_taken (by assumption) | exact Txt.n_Board_raised (by assumption) | exact Txt.n_Board_joined (by assumption) | exact Txt.n_Core_plan (by assumption) | exact Txt.n_Core_frames (by assumption) | exact Txt.n_Core_limit (by assumption) | exact Txt.n_Core_jobs (by assumption) | exact Txt.n_Single_plan (by assumption) | exact Txt.n_Single_board (by assumption) | exact Txt.n_Single_core (by assumption) | exact Txt.n_Single_time (by assumption) | exact Txt.n_Single_sums (by assumption))
local macro_rules | `(tactic| walk_at "zz") => `(tactic| first
  | walk_at "zi"
  | ((with_reducible apply s_fldat); (· walk_at "hl"); (· walk_at "cl"); (· walk_at "na"); (· walk_at "lk"))
  | ((with_reducible apply s_methat); (· walk_at "hl"); (· kernel_rfl))
  | ((with_reducible apply s_propat); (· walk_at "hl"))
  | ((with_reducible apply s_ixT); (· walk_at "hl"); (· with_reducible first | exact at0 | exact at1 | exact at2 | exact at3 | exact at4))
  | ((with_reducible apply s_ixL); (· walk_at "hl"); (· with_reducible first | exact at0 | exact at1 | exact at2 | exact at3 | exact at4))
  | ((with_reducible apply s_dgS); (· walk_at "hl"); (· walk_at "mk"))
  | walk_at "zt")
local macro_rules | `(tactic| walk_at "zm") => `(tactic| (intro x dx hx hdx hne; generalize eH : upd (upd _ dx _) x _ = H2; have s2 := mkS hx hdx eH; have e2 := mkE eH; clear eH hdx hne))
local macro_rules | `(tactic| walk_at "zb") => `(tactic| with_reducible first | refine s_gcons ?_ | refine s_gnil ?_ | refine s_gname ?_ | refine s_seq ?_ | refine s_ifS ?_ | refine s_if ?_ | refine s_next ?_ | refine s_drop ?_ | refine s_ret ?_ | refine s_asg ?_)
def spGNow (K : Fg) : Sp := fun vs H Q _ => ∃ A P G, vs = [.ref A.s] ∧ SgAt K H A P G ∧ Q (.int G.time) H
def spGBar (K : Fg) : Sp := fun vs H Q _ => ∃ A P G, vs = [.ref A.s] ∧ SgAt K H A P G ∧ Q (.int G.C.limit) H
def spGNames (K : Fg) (sel : Bd → Str → Bool) : Sp := fun vs H Q _ => ∃ A P G, vs = [.ref A.s] ∧ SgAt K H A P G ∧ ∀ H' l, Same H H' → H l = none → H' l = some (.lst ((P.order.filter (sel G.B)).map V.str)) → Q (.ref l) H'
theorem dp_strs_of' {K : Fg} {H : Hp} : ∀ (l : List Str), DpAll K H (l.map V.str) (l.map PyData.str)
  | [] => .nil
  | _ :: l => .cons (.str _) (dp_strs_of' l)
theorem back_none {H H1 : Hp} {a : Addr} (s : Same H H1) (h : H1 a = none) : H a = none := by
  cases e : H a with
  | none => rfl
  | some o => rw [s _ _ e] at h; cases h
section
variable {P : Program} {w : World} {K : Fg} {mg : Str → Option Value} {base : Heap}
theorem ok_Single_now (T : Txt K mg) : FnOk P w K mg base (L2.CX P w) 1 (pga K (ga K "Single") "now") (fdOf K (pga K (ga K "Single") "now")) ["self"] (spGNow K) := by
  refine FunD.ok T.F_Single_now sc_Single_now (fun vs H Q E h => ?_) (fun cdv A outer s H vs Q E hr h => ⟨_, PSs.nox (pss_one (ps_ret (kFld K (pe_fld (pv 0) rfl)))), ?_⟩)
  · obtain ⟨A, P, G, rfl, _⟩ := h
    rfl
  obtain ⟨A, P, G, rfl, sg, q⟩ := h
  show (_ : TS) _ [some (.ref A.s)] H
  try dsimp only [cxOf]
  obtain ⟨dx, hs⟩ := sg.ins
  repeat walk_at "zz"
  exact q
theorem ok_Single_bar (T : Txt K mg) : FnOk P w K mg base (L2.CX P w) 1 (pga K (ga K "Single") "bar") (fdOf K (pga K (ga K "Single") "bar")) ["self"] (spGBar K) := by
  refine FunD.ok T.F_Single_bar sc_Single_bar (fun vs H Q E h => ?_) (fun cdv A outer s H vs Q E hr h => ⟨_, PSs.nox (pss_one (ps_ret (kFld K (pe_fld (kFld K (pe_fld (pv 0) rfl)) rfl)))), ?_⟩)
  · obtain ⟨A, P, G, rfl, _⟩ := h
    rfl
  obtain ⟨A, P, G, rfl, sg, q⟩ := h
  show (_ : TS) _ [some (.ref A.s)] H
  try dsimp only [cxOf]
  obtain ⟨dx, hs⟩ := sg.ins
  obtain ⟨cdx, hc⟩ := sg.cst.co.ins
  repeat walk_at "zz"
  exact q
theorem ok_Single_waiting (T : Txt K mg) : FnOk P w K mg base (L2.CX P w) 4 (pga K (ga K "Single") "waiting") (fdOf K (pga K (ga K "Single") "waiting")) ["self"] (spGNames K Bd.waiting) := by
  refine FunD.ok T.F_Single_waiting sc_Single_waiting (fun vs H Q E h => ?_) (fun cdv A outer s H vs Q E hr h => ⟨_, PSs.nox (pss_one (ps_ret (pe_lc (own := [("line", 1)]) rfl sc_Single_waiting.nd (kIT K (pi_tup (z_prop (kFld K (pe_fld (pv 0) rfl)) T.cl_Setup T.p_Setup_order (ok_Setup_order T) T.c_Setup_order (hr.mono (by decide)) rfl))) (blkOk_by (own := [("line", 1)]) (N := n_Single_waiting) (sc := defScope s_Single_waiting) (by decide +kernel)) (fun _ _ _ _ _ => (zg 1 sc_Single_waiting.nd)) (fun _ _ _ _ _ => (pts_one (pt_val (z_meth (kFld K (pe_fld (pv 0) rfl)) T.cl_Board T.m_Board_is_waiting (ok_Board_is_waiting T) T.c_Board_is_waiting (hr.mono (by decide)) passL (pa_cons (pv 1) pa_nil))))) (fun _ _ _ _ _ => (pv 1))))), ?_⟩)
  · obtain ⟨A, P, G, rfl, _⟩ := h
    rfl
  obtain ⟨A, P, G, rfl, sg, q⟩ := h
  show (_ : TS) _ [some (.ref A.s), none] H
  try dsimp only [cxOf]
  obtain ⟨dx, hs⟩ := sg.ins
  have pl := sg.cst.pl
  have bd := sg.cst.bd
  obtain ⟨pdx, pa, pb, hpl, _⟩ := pl.ins
  obtain ⟨bdx, hb⟩ := bd.ins
  have hol : P.order.length ≤ 12 := by rw [P.order_perm.length_eq]; exact pl.ok.len
  repeat walk_at "zz"
  refine ⟨A.PD, P, rfl, pl, fun H1 t s1 ht e1 => ?_⟩
  refine lcT_d (l := P.order) (da := PyData.str) (SqT.of e1) (dp_strs_of' _) (Bd.waiting G.B) PyData.str (by omega) (fun _ _ => rfl) (fun z v H2 Yes No hz s2 hd yes no => ?_) (fun D2 H2 ys hD2 s2 e2 a2 => ?_)
  · cases hd
    have bd2 := (bd.same s1).same s2
    repeat walk_at "zz"
    refine ⟨rfl, ?_⟩
    repeat walk_at "zz"
    refine ⟨A.PD.p, A.E, G.B, z, rfl, bd2, ?_⟩
    repeat walk_at "zz"
    refine ite_b (fun h => ?_) (fun h => ?_)
    · repeat walk_at "zz"
      exact yes (by simpa using h) _ _ (Same.refl _) (.str _)
    · exact no (by simpa using h) _ (Same.refl _)
  cases dp_strs a2
  exact q H2 D2 (s1.trans s2) (back_none s1 hD2) e2
theorem ok_Single_masked (T : Txt K mg) : FnOk P w K mg base (L2.CX P w) 4 (pga K (ga K "Single") "masked") (fdOf K (pga K (ga K "Single") "masked")) ["self"] (spGNames K (fun B z => decide (z ∈ B.shut))) := by
  refine FunD.ok T.F_Single_masked sc_Single_masked (fun vs H Q E h => ?_) (fun cdv A outer s H vs Q E hr h => ⟨_, PSs.nox (pss_one (ps_ret (pe_lc (own := [("line", 1)]) rfl sc_Single_masked.nd (kIT K (pi_tup (z_prop (kFld K (pe_fld (pv 0) rfl)) T.cl_Setup T.p_Setup_order (ok_Setup_order T) T.c_Setup_order (hr.mono (by decide)) rfl))) (blkOk_by (own := [("line", 1)]) (N := n_Single_masked) (sc := defScope s_Single_masked) (by decide +kernel)) (fun _ _ _ _ _ => (zg 1 sc_Single_masked.nd)) (fun _ _ _ _ _ => (pts_one (pt_cmpR (op_in_seqK K) (pv 1) (kFld K (pe_fld (kFld K (pe_fld (pv 0) rfl)) rfl)) (by rfl)))) (fun _ _ _ _ _ => (pv 1))))), ?_⟩)
  · obtain ⟨A, P, G, rfl, _⟩ := h
    rfl
  obtain ⟨A, P, G, rfl, sg, q⟩ := h
  show (_ : TS) _ [some (.ref A.s), none] H
  try dsimp only [cxOf]
  obtain ⟨dx, hs⟩ := sg.ins
  have pl := sg.cst.pl
  have bd := sg.cst.bd
  obtain ⟨pdx, pa, pb, hpl, _⟩ := pl.ins
  obtain ⟨bdx, hb⟩ := bd.ins
  have hol : P.order.length ≤ 12 := by rw [P.order_perm.length_eq]; exact pl.ok.len
  repeat walk_at "zz"
  refine ⟨A.PD, P, rfl, pl, fun H1 t s1 ht e1 => ?_⟩
  refine lcT_d (l := P.order) (da := PyData.str) (SqT.of e1) (dp_strs_of' _) ((fun B z => decide (z ∈ B.shut)) G.B) PyData.str (by omega) (fun _ _ => rfl) (fun z v H2 Yes No hz s2 hd yes no => ?_) (fun D2 H2 ys hD2 s2 e2 a2 => ?_)
  · cases hd
    have bd2 := (bd.same s1).same s2
    repeat walk_at "zz"
    refine ⟨rfl, ?_⟩
    repeat walk_at "zz"
    refine s_in (.inl (SqL.of bd2.sh)) rfl flat_strs ?_
    rw [if_neg (by decide), inV_strs]
    repeat walk_at "zz"
    refine ite_b (fun h => ?_) (fun h => ?_)
    · repeat walk_at "zz"
      exact yes (by simpa using h) _ _ (Same.refl _) (.str _)
    · exact no (by simpa using h) _ (Same.refl _)
  cases dp_strs a2
  exact q H2 D2 (s1.trans s2) (back_none s1 hD2) e2
end
end T
set_option maxHeartbeats 4000000
namespace T
open PySem PySem.Spec PyProof.Rows L2 Z
open He (ga ma)
local macro_rules | `(tactic| walk_at "z") => `(tactic| first
  | with_reducible refine s_seq ?_
  | with_reducible refine s_asg ?_
  | with_reducible refine s_gname ?_
  | with_reducible refine s_ret ?_
  | with_reducible refine s_retN ?_
  | with_reducible refine s_ifS ?_
  | with_reducible refine s_drop ?_
  | with_reducible refine s_next ?_
  | with_reducible refine s_cont ?_
  | with_reducible refine s_break ?_
  | with_reducible refine s_par ?_
  | with_reducible refine s_par2 ?_
  | with_reducible refine s_c ?_
  | ((with_reducible refine s_var (v := ?v1) ?h1 ?q1); (case h1 => exact rfl))
  | with_reducible refine s_op ?_
  | with_reducible refine s_un ?_
  | with_reducible refine s_cb ?_
  | with_reducible refine s_cons ?_
  | with_reducible refine s_nil ?_
  | with_reducible refine s_star ?_
  | with_reducible refine s_test ?_
  | with_reducible refine s_B ?_
  | with_reducible refine s_and ?_
  | with_reducible refine s_or ?_
  | with_reducible refine s_not ?_
  | with_reducible refine s_andV ?_
  | with_reducible refine s_orV ?_
  | with_reducible refine s_notV ?_
  | with_reducible refine s_if ?_
  | with_reducible refine s_chain ?_
  | with_reducible refine s_call ?_
  | with_reducible refine s_bl ?_
  | with_reducible refine s_yes ?_
  | with_reducible refine s_gcons ?_
  | with_reducible refine s_gnil ?_
  | with_reducible refine s_din ?_
  | with_reducible refine s_dnin ?_
  | with_reducible refine s_dget ?_
  | with_reducible refine s_bm ?_
  | with_reducible refine s_bm0 ?_
  | with_reducible refine s_fldg ?_
  | with_reducible refine s_meth ?_
  | with_reducible refine s_prop ?_
  | with_reducible refine s_lcT ?_
  | with_reducible refine s_daugg ?_
  | with_reducible refine s_disp ?_
  | with_reducible refine s_pcons ?_
  | with_reducible refine s_pnil ?_
  | with_reducible refine s_gsub ?_
  | with_reducible refine s_augS ?_
  | with_reducible refine s_fldaug ?_
  | with_reducible refine s_add ?_
  | with_reducible refine s_ipI ?_
  | with_reducible refine s_ixO ?_
  | with_reducible refine s_lcL ?_
  | with_reducible refine s_dputg ?_
  | with_reducible refine s_for ?_
  | with_reducible refine s_rng1 ?_
  | with_reducible refine s_iT ?_
  | with_reducible refine s_iL ?_
  | with_reducible refine Or.inl (Exists.intro _ (And.intro rfl ?_))
  | with_reducible refine Or.inr (Exists.intro _ (And.intro rfl ?_))
  | with_reducible refine s_make ?_
  | with_reducible refine s_sl ?_
  | with_reducible refine s_nop ?_
  | with_reducible refine s_part ?_
  | with_reducible refine s_lcE ?_
  | with_reducible refine s_lc ?_
  | with_reducible refine s_dcT ?_
  | with_reducible refine s_cvalg ?_
  | with_reducible refine s_fldS ?_
  | with_reducible refine s_I0 ?_
  | with_reducible refine s_U ?_
  | ((with_reducible refine s_eq ?h1 ?q1); (case h1 => exact rfl))
  | ((with_reducible refine s_ne ?h1 ?q1); (case h1 => exact rfl))
  | (with_reducible refine s_tup ?_)
  | (with_reducible refine s_lst ?_)
  | ((with_reducible refine s_isi (d := ?d1) ?h1 ?h2 ?q1); (case h1 => first | assumption | constructor); (case h2 => decide))
  | with_reducible refine ⟨_, _, rfl, rfl, ?_⟩
  | with_reducible refine ⟨_, rfl, ?_⟩)
local macro_rules | `(tactic| walk_at "zi") => `(tactic| first
  | walk_at "z"
  | ((with_reducible refine ite_f ?h1 ?q1); (case h1 => rfl))
  | ((with_reducible refine ite_t ?h1 ?q1); (case h1 => rfl)))
local macro_rules | `(tactic| walk_at "zn") => `(tactic| (intro p hp; generalize eH : upd _ p _ = H2; have s2 := newS hp eH; have e2 := newE eH; clear eH))
local macro_rules | `(tactic| walk_at "zt") => `(tactic| ((with_reducible refine And.intro ?h1 ?_); (case h1 => exact Nat.le_of_ble_eq_true rfl); intro p hp; generalize eH : upd _ p _ = H2; have s2 := newS hp eH; have e2 := newE eH; clear eH))
local macro_rules | `(tactic| walk_at "hl") => `(tactic| first
  | assumption
  | ((with_reducible apply at_same); (· assumption); · walk_at "hl")
  | ((with_reducible apply sqT_same); (· assumption); · walk_at "hl")
  | ((with_reducible apply sqL_same); (· assumption); · walk_at "hl")
  | ((with_reducible apply SqT.of); · walk_at "hl")
  | ((with_reducible apply SqL.of); · walk_at "hl")
  | ((with_reducible apply dp_same); (· assumption); · walk_at "hl")
  | ((with_reducible apply dpA_same); (· assumption); · walk_at "hl")
  | ((with_reducible apply pl_same); (· assumption); · walk_at "hl")
  | ((with_reducible apply bd_same); (· assumption); · walk_at "hl")
  | ((with_reducible apply co_same); (· assumption); · walk_at "hl")
  | ((with_reducible apply cst_same); (· assumption); · walk_at "hl")
  | ((with_reducible apply sg_same); (· assumption); · walk_at "hl")
  | ((with_reducible apply row_same); (· assumption); · walk_at "hl")
  | ((with_reducible apply md_same); (· assumption); · walk_at "hl")
  | ((with_reducible apply plm_same); (· assumption); · walk_at "hl")
  | ((with_reducible apply mst_same); (· assumption); · walk_at "hl")
  | ((with_reducible apply ev_same); (· assumption); · walk_at "hl"))
local macro_rules | `(tactic| walk_at "lk") => `(tactic| with_reducible first
  | exact plF_lr | exact plF_wr | exact plF_rn | exact plF_wn
  | exact bdF_plan | exact bdF_sh | exact bdF_wa | exact bdF_hi | exact bdF_ta | exact bdF_ra | exact bdF_jo
  | exact sgF_plan | exact sgF_board | exact sgF_core | exact sgF_time | exact sgF_sums
  | exact coF_plan | exact coF_fr | exact coF_lim | exact coF_jo)
local macro_rules | `(tactic| walk_at "mk") => `(tactic| with_reducible first | exact mk_ca | exact mk_ed | exact mk_hi | exact mk_up | exact mk_sh | exact mk_bar | exact mk_jo | exact mk_now | exact mk_lg | exact mk_sp | exact mk_jn | exact mk_ln | exact mk_wk)
local macro_rules | `(tactic| walk_at "cl") => `(tactic| with_reducible first | exact Txt.cl_Setup (by assumption) | exact Txt.cl_Board (by assumption) | exact Txt.cl_Core (by assumption) | exact Txt.cl_Single (by assumption))
local macro_rules | `(tactic| walk_at "na") => `(tactic| with_reducible first | exact Txt.n_Setup_line_rows (by assumption) | exact Txt.n_Setup_work_rows (by assumption) | exact Txt.n_Setup_rows_by_name (by assumption) | exact Txt.n_Setup_works_by_name (by assumption) | exact Txt.n_Board_plan (by assumption) | exact Txt.n_Board_shut (by assumption) | exact Txt.n_Board_wanted (by assumption) | exact Txt.n_Board_high (by assumption) | exact Txt.n_Board_taken (by assumption) | exact Txt.n_Board_raised (by assumption) | exact Txt.n_Board_joined (by assumption) | exact Txt.n_Core_plan (by assumption) | exact Txt.n_Core_frames (by assumption) | exact Txt.n_Core_limit (by assumption) | exact Txt.n_Core_jobs (by assumption) | exact Txt.n_Single_plan (by assumption) | exact Txt.n_Single_board (by assumption) | exact Txt.n_Single_core (by assumption) | exact Txt.n_Single_time (by assumption) | exact Txt.n_Single_sums (by assumption))
local macro_rules | `(tactic| walk_at "zz") => `(tactic| first
  | walk_at "zi"
  | ((with_reducible apply s_fldat); (· walk_at "hl"); (· walk_at "cl"); (· walk_at "na"); (· walk_at "lk"))
  | ((with_reducible apply s_methat); (· walk_at "hl"); (· kernel_rfl))
  | ((with_reducible apply s_propat); (· walk_at "hl"))
  | ((with_reducible apply s_ixT); (· walk_at "hl"); (· with_reducible first | exact at0 | exact at1 | exact at2 | exact at3 | exact at4))
  | ((with_reducible apply s_ixL); (· walk_at "hl"); (· with_reducible first | exact at0 | exact at1 | exact at2 | exact at3 | exact at4))
  | ((with_reducible apply s_dgS); (· walk_at "hl"); (· walk_at "mk"))
  | walk_at "zt")
local macro_rules | `(tactic| walk_at "zm") => `(tactic| (intro x dx hx hdx hne; generalize eH : upd (upd _ dx _) x _ = H2; have s2 := mkS hx hdx eH; have e2 := mkE eH; clear eH hdx hne))
local macro_rules | `(tactic| walk_at "zb") => `(tactic| with_reducible first | refine s_gcons ?_ | refine s_gnil ?_ | refine s_gname ?_ | refine s_seq ?_ | refine s_ifS ?_ | refine s_if ?_ | refine s_next ?_ | refine s_drop ?_ | refine s_ret ?_ | refine s_asg ?_)
def spMixed (K : Fg) : Sp := fun vs H Q _ => ∃ r sc ns a, ∃ xs : List V, vs = [.ref r, .ref a] ∧ RowAt K H r sc ns ∧ (SqL K H a xs ∨ SqT K H a xs) ∧ xs.length ≤ 100 ∧ ∀ H' p ys, Fr [r] H H' → RowAt K H' r sc ns → H p = none → H' p = some (.lst ys) → ys.Perm xs → Q (.ref p) H'
section
variable {P : Program} {w : World} {K : Fg} {mg : Str → Option Value} {base : Heap}
theorem ok_w_mixed (T : Txt K mg) : FnOk P w K mg base (L2.CX P w) 4 (ga K "_law_mixed") (fdOf K (ga K "_law_mixed")) ["_law_row", "_law_things"] (spMixed K) := by
  refine FunD.ok T.F_w_mixed sc_w_mixed (fun vs H Q E h => ?_) (fun cdv A outer s H vs Q E hr h => ⟨_, PSs.nox (pss_cons (ps_par (by rfl) sc_w_mixed.nd (i := 2) (j := 3) rfl rfl (by decide) rfl rfl (pa_cons (pe_callTy call_list_of (by rfl) T.u_list (by decide +kernel) (pa_cons (pv 1) pa_nil)) (pa_cons (pe_lst pa_nil) pa_nil)) (by rfl))
      (pss_cons (ps_while PassesOwn.never (pt_cmpR (op_ne0K K hr.units) (pv 2) (pe_lst pa_nil) (nomark _))
      (pss_one (ps_expr (kBM K (pe_bm PySem.F.plainAttrs_list PySem.F.slot_list_append PySem.F.type_list_append mt_append (pv 3) (pa_cons (kBM K (pe_bm PySem.F.plainAttrs_list PySem.F.slot_list_pop PySem.F.type_list_pop mt_popAt (pv 2) (pa_cons (z_call (ok_w_taken T) T.c_w_taken (hr.mono (by decide)) rfl T.g_w_taken passL (pa_cons (pv 0) (pa_cons (pe_callB (call_lenK K) (by rfl) T.u_len (by decide +kernel) (pa_cons (pv 2) pa_nil)) pa_nil))) pa_nil))) pa_nil))))))
      (pss_one (ps_ret (pv 3))))), ?_⟩)
  · obtain ⟨r, sc, ns, a, xs, rfl, _⟩ := h
    rfl
  obtain ⟨r, sc, ns, a, xs, rfl, hrow, ha, l100, q⟩ := h
  show (_ : TS) _ [some (.ref r), some (.ref a), none, none] H
  try dsimp only [cxOf]
  repeat walk_at "zz"
  refine ⟨a, xs, rfl, ha, fun l hl => ?_⟩
  generalize eH : upd H l _ = H1
  have s1 := newS hl eH
  have e1 := newE eH
  clear eH
  repeat walk_at "zz"
  rename_i f hf H2 s2 e2
  have row2 := (hrow.same s1).same s2
  have hlr : l ≠ r := fun e => hrow.ex (by rw [← e]; exact hl)
  have hfr : f ≠ r := fun e => hrow.ex (by rw [← e]; exact s1.fr.back (A := []) hf)
  have hfl : f ≠ l := fun e => by rw [e, e1] at hf; cases hf
  have hf0 : H f = none := s1.fr.back (A := []) hf
  refine while_e (fun σ H3 => ∃ ys, σ = [some (.ref r), some (.ref a), some (.ref l), some (.ref f)] ∧ Fr [r] H H3 ∧ RowAt K H3 r sc ns ∧ H3 f = some (.lst ys) ∧ ys.Perm xs) ?rest (fun hx => ?loop)
  case rest =>
    rintro σ H3 ⟨ys, rfl, f3, row3, e3, p3⟩
    repeat walk_at "zz"
    exact q _ _ _ f3 row3 hf0 e3 p3
  refine ⟨fun m σ H3 => ∃ zs ys, σ = [some (.ref r), some (.ref a), some (.ref l), some (.ref f)] ∧ Fr [r] H H3 ∧ RowAt K H3 r sc ns ∧ H3 l = some (.lst zs) ∧ H3 f = some (.lst ys) ∧ (ys ++ zs).Perm xs ∧ m = zs.length,
    ⟨_, xs, [], rfl, s1.fr.trans s2.fr, row2, s2 _ _ e1, e2, .refl _, rfl⟩, ?_⟩
  rintro m σ H3 ⟨zs, ys, rfl, f3, row3, el, ef, pm, rfl⟩
  have plen := pm.length_eq
  rw [List.length_append] at plen
  repeat walk_at "zz"
  rename_i p4 hp4 H4 s4 e4
  refine s_eq0L (SqL.of (s4 _ _ el)) (SqL.of e4) ?_
  have row4 := row3.same s4
  have f4 : Fr [r] H H4 := f3.trans s4.fr
  have el4 := s4 _ _ el
  have ef4 := s4 _ _ ef
  clear e4
  cases zs with
  | nil =>
    refine ⟨false, rfl, ?_⟩
    rw [if_neg (by simp)]
    rw [List.append_nil] at pm
    exact hx _ _ ⟨ys, rfl, f4, row4, ef4, pm⟩
  | cons z zs =>
    refine ⟨true, rfl, ?_⟩
    rw [if_pos rfl]
    refine ⟨_, fun σ' H' n => n, ?_⟩
    repeat walk_at "zz"
    refine s_tyL ef4 ?_
    repeat walk_at "zz"
    refine s_tyL el4 ?_
    repeat walk_at "zz"
    refine s_lenL (SqL.of el4) ?_
    repeat walk_at "zz"
    refine ⟨r, sc, ns, _, rfl, row4, by simp only [List.length_cons]; omega, by simp only [List.length_cons] at plen ⊢; omega, fun n H5 n0 n1 f5 row5 => ?_⟩
    have el5 := f5.at el4 (by simp [hlr])
    have ef5 := f5.at ef4 (by simp [hfr])
    obtain ⟨k, rfl⟩ := Int.eq_ofNat_of_zero_le n0
    have hk : k < (z :: zs).length := by omega
    obtain ⟨j, h1, h2, h3⟩ := atI_get (atI_nat (xs := z :: zs) (List.getElem?_eq_getElem hk))
    repeat walk_at "zz"
    refine ⟨l, z :: zs, k, j, _, rfl, rfl, el5, by omega, by simp only [List.length_cons] at plen hk; omega, h1, h2, ?_⟩
    generalize (z :: zs)[k] = y at h2
    generalize eH : upd H5 l _ = H6
    have f6 : Fr [l] H5 H6 := by rw [← eH]; exact Fr.upd (by simp) el5 rfl
    have el6 := newE eH
    clear eH
    have ef6 := f6.at ef5 (by simp [hfl])
    repeat walk_at "zz"
    refine s_append ef6 (by rw [sizeLine_eq]; omega) ?_
    generalize eH : upd H6 f _ = H7
    have f7 : Fr [f] H6 H7 := by rw [← eH]; exact Fr.upd (by simp) ef6 rfl
    have ef7 := newE eH
    clear eH
    have el7 := f7.at el6 (by simp [Ne.symm hfl])
    repeat walk_at "zz"
    refine ⟨_, ?_, (z :: zs).eraseIdx j, ys ++ [y], rfl, ((f4.trans f5).seq f6 (by simp [hl])).seq f7 (by simp [hf0]), hrow.kept (hrow.kept row5 f6 (by simp [hl])) f7 (by simp [hf0]), el7, ef7, ?_, rfl⟩
    · rw [List.length_eraseIdx_of_lt h3.1]
      omega
    · refine List.Perm.trans ?_ pm
      rw [List.append_assoc]
      refine List.Perm.append_left ys ?_
      exact perm_erase h2
end
end T
set_option maxHeartbeats 8000000
namespace T
open PySem PySem.Spec PyProof.Rows L2 Z
open He (ga ma)
local macro_rules | `(tactic| walk_at "z") => `(tactic| first
  | with_reducible refine s_seq ?_
  | with_reducible refine s_asg ?_
  | with_reducible refine s_gname ?_
  | with_reducible refine s_ret ?_
  | with_reducible refine s_retN ?_
  | with_reducible refine s_ifS ?_
  | with_reducible refine s_drop ?_
  | with_reducible refine s_next ?_
  | with_reducible refine s_cont ?_
  | with_reducible refine s_break ?_
  | with_reducible refine s_par ?_
  | with_reducible refine s_par2 ?_
  | with_reducible refine s_c ?_
  | ((with_reducible refine s_var (v := ?v1) ?h1 ?q1); (case h1 => exact rfl))
  | with_reducible refine s_op ?_
  | with_reducible refine s_un ?_
  | with_reducible refine s_cb ?_
  | with_reducible refine s_cons ?_
  | with_reducible refine s_nil ?_
  | with_reducible refine s_star ?_
  | with_reducible refine s_test ?_
  | with_reducible refine s_B ?_
  | with_reducible refine s_and ?_
  | with_reducible refine s_or ?_
  | with_reducible refine s_not ?_
  | with_reducible refine s_andV ?_
  | with_reducible refine s_orV ?_
  | with_reducible refine s_notV ?_
  | with_reducible refine s_if ?_
  | with_reducible refine s_chain ?_
  | with_reducible refine s_call ?_
  | with_reducible refine s_bl ?_
  | with_reducible refine s_yes ?_
  | with_reducible refine s_gcons ?_
  | with_reducible refine s_gnil ?_
  | with_reducible refine s_din ?_
  | with_reducible refine s_dnin ?_
  | with_reducible refine s_dget ?_
  | with_reducible refine s_bm ?_
  | with_reducible refine s_bm0 ?_
  | with_reducible refine s_fldg ?_
  | with_reducible refine s_meth ?_
  | with_reducible refine s_prop ?_
  | with_reducible refine s_lcT ?_
  | with_reducible refine s_daugg ?_
  | with_reducible refine s_disp ?_
  | with_reducible refine s_pcons ?_
  | with_reducible refine s_pnil ?_
  | with_reducible refine s_gsub ?_
  | with_reducible refine s_augS ?_
  | with_reducible refine s_fldaug ?_
  | with_reducible refine s_add ?_
  | with_reducible refine s_ipI ?_
  | with_reducible refine s_ixO ?_
  | with_reducible refine s_lcL ?_
  | with_reducible refine s_dputg ?_
  | with_reducible refine s_for ?_
  | with_reducible refine s_rng1 ?_
  | with_reducible refine s_iT ?_
  | with_reducible refine s_iL ?_
  | with_reducible refine Or.inl (Exists.intro _ (And.intro rfl ?_))
  | with_reducible refine Or.inr (Exists.intro _ (And.intro rfl ?_))
  | with_reducible refine s_make ?_
  | with_reducible refine s_sl ?_
  | with_reducible refine s_nop ?_
  | with_reducible refine s_part ?_
  | with_reducible refine s_lcE ?_
  | with_reducible refine s_lc ?_
  | with_reducible refine s_dcT ?_
  | with_reducible refine s_cvalg ?_
  | with_reducible refine s_fldS ?_
  | with_reducible refine s_I0 ?_
  | with_reducible refine s_U ?_
  | ((with_reducible refine s_eq ?h1 ?q1); (case h1 => exact rfl))
  | ((with_reducible refine s_ne ?h1 ?q1); (case h1 => exact rfl))
  | (with_reducible refine s_tup ?_)
  | (with_reducible refine s_lst ?_)
  | ((with_reducible refine s_isi (d := ?d1) ?h1 ?h2 ?q1); (case h1 => first | assumption | constructor); (case h2 => decide))
  | with_reducible refine ⟨_, _, rfl, rfl, ?_⟩
  | with_reducible refine ⟨_, rfl, ?_⟩)
local macro_rules | `(tactic| walk_at "zi") => `(tactic| first
  | walk_at "z"
  | ((with_reducible refine ite_f ?h1 ?q1); (case h1 => rfl))
  | ((with_reducible refine ite_t ?h1 ?q1); (case h1 => rfl)))
local macro_rules | `(tactic| walk_at "zn") => `(tactic| (intro p hp; generalize eH : upd _ p _ = H2; have s2 := newS hp eH; have e2 := newE eH; clear eH))
local macro_rules | `(tactic| walk_at "zt") => `(tactic| ((with_reducible refine And.intro ?h1 ?_); (case h1 => exact Nat.le_of_ble_eq_true rfl); intro p hp; generalize eH : upd _ p _ = H2; have s2 := newS hp eH; have e2 := newE eH; clear eH))
local macro_rules | `(tactic| walk_at "hl") => `(tactic| first
  | assumption
  | ((with_reducible apply at_same); (· assumption); · walk_at "hl")
  | ((with_reducible apply sqT_same); (· assumption); · walk_at "hl")
  | ((with_reducible apply sqL_same); (· assumption); · walk_at "hl")
  | ((with_reducible apply SqT.of); · walk_at "hl")
  | ((with_reducible apply SqL.of); · walk_at "hl")
  | ((with_reducible apply dp_same); (· assumption); · walk_at "hl")
  | ((with_reducible apply dpA_same); (· assumption); · walk_at "hl")
  | ((with_reducible apply pl_same); (· assumption); · walk_at "hl")
  | ((with_reducible apply bd_same); (· assumption); · walk_at "hl")
  | ((with_reducible apply co_same); (· assumption); · walk_at "hl")
  | ((with_reducible apply cst_same); (· assumption); · walk_at "hl")
  | ((with_reducible apply sg_same); (· assumption); · walk_at "hl")
  | ((with_reducible apply row_same); (· assumption); · walk_at "hl")
  | ((with_reducible apply md_same); (· assumption); · walk_at "hl")
  | ((with_reducible apply plm_same); (· assumption); · walk_at "hl")
  | ((with_reducible apply mst_same); (· assumption); · walk_at "hl")
  | ((with_reducible apply ev_same); (· assumption); · walk_at "hl"))
local macro_rules | `(tactic| walk_at "lk") => `(tactic| with_reducible first
  | exact plF_lr | exact plF_wr | exact plF_rn | exact plF_wn
  | exact bdF_plan | exact bdF_sh | exact bdF_wa | exact bdF_hi | exact bdF_ta | exact bdF_ra | exact bdF_jo
  | exact sgF_plan | exact sgF_board | exact sgF_core | exact sgF_time | exact sgF_sums
  | exact coF_plan | exact coF_fr | exact coF_lim | exact coF_jo)
local macro_rules | `(tactic| walk_at "mk") => `(tactic| with_reducible first | exact mk_ca | exact mk_ed | exact mk_hi | exact mk_up | exact mk_sh | exact mk_bar | exact mk_jo | exact mk_now | exact mk_lg | exact mk_sp | exact mk_jn | exact mk_ln | exact mk_wk)
local macro_rules | `(tactic| walk_at "cl") => `(tactic| with_reducible first | exact Txt.cl_Setup (by assumption) | exact Txt.cl_Board (by assumption) | exact Txt.cl_Core (by assumption) | exact Txt.cl_Single (by assumption))
local macro_rules | `(tactic| walk_at "na") => `(tactic| with_reducible first | exact Txt.n_Setup_line_rows (by assumption) | exact Txt.n_Setup_work_rows (by assumption) | exact Txt.n_Setup_rows_by_name (by assumption) | exact Txt.n_Setup_works_by_name (by assumption) | exact Txt.n_Board_plan (by assumption) | exact Txt.n_Board_shut (by assumption) | exact Txt.n_Board_wanted (by assumption) | exact Txt.n_Board_high (by assumption) | exact Txt.n_Board_taken (by assumption) | exact Txt.n_Board_raised (by assumption) | exact Txt.n_Board_joined (by assumption) | exact Txt.n_Core_plan (by assumption) | exact Txt.n_Core_frames (by assumption) | exact Txt.n_Core_limit (by assumption) | exact Txt.n_Core_jobs (by assumption) | exact Txt.n_Single_plan (by assumption) | exact Txt.n_Single_board (by assumption) | exact Txt.n_Single_core (by assumption) | exact Txt.n_Single_time (by assumption) | exact Txt.n_Single_sums (by assumption))
local macro_rules | `(tactic| walk_at "zz") => `(tactic| first
  | walk_at "zi"
  | ((with_reducible apply s_fldat); (· walk_at "hl"); (· walk_at "cl"); (· walk_at "na"); (· walk_at "lk"))
  | ((with_reducible apply s_methat); (· walk_at "hl"); (· kernel_rfl))
  | ((with_reducible apply s_propat); (· walk_at "hl"))
  | ((with_reducible apply s_ixT); (· walk_at "hl"); (· with_reducible first | exact at0 | exact at1 | exact at2 | exact at3 | exact at4))
  | ((with_reducible apply s_ixL); (· walk_at "hl"); (· with_reducible first | exact at0 | exact at1 | exact at2 | exact at3 | exact at4))
  | ((with_reducible apply s_dgS); (· walk_at "hl"); (· walk_at "mk"))
  | walk_at "zt")
local macro_rules | `(tactic| walk_at "zm") => `(tactic| (intro x dx hx hdx hne; generalize eH : upd (upd _ dx _) x _ = H2; have s2 := mkS hx hdx eH; have e2 := mkE eH; clear eH hdx hne))
local macro_rules | `(tactic| walk_at "zb") => `(tactic| with_reducible first | refine s_gcons ?_ | refine s_gnil ?_ | refine s_gname ?_ | refine s_seq ?_ | refine s_ifS ?_ | refine s_if ?_ | refine s_next ?_ | refine s_drop ?_ | refine s_ret ?_ | refine s_asg ?_)
def spMPlain (K : Fg) : Sp := fun vs H Q _ => ∃ r sc ns, ∃ most long : Int, vs = [.ref r, .int most, .int long] ∧ RowAt K H r sc ns ∧ 1 ≤ most ∧ most ≤ 6 ∧ 1 ≤ long ∧ long ≤ 90 ∧ ∀ t P H', Fr [r] H H' → RowAt K H' r sc ns → PlainP P → Dp K H' (.ref t) (.tuple (P.ls.map dLn)) → Q (.ref t) H'
theorem s_take {K : Fg} {H : Hp} {r sc : Addr} {ns : List Int} {many : Int} {Q : VK} {E : XK} (h : RowAt K H r sc ns) (h0 : 0 < many) (h1 : many < 1000000) (q : ∀ n H', 0 ≤ n → n < many → Fr [r] H H' → RowAt K H' r sc ns → Q (.int n) H') : spTaken K [.ref r, .int many] H Q E := ⟨r, sc, ns, many, rfl, h, h0, h1, q⟩
section
variable {P : Program} {w : World} {K : Fg} {mg : Str → Option Value} {base : Heap}
theorem ok_w_plain (T : Txt K mg) : FnOk P w K mg base (L2.CX P w) 6 (ga K "_law_plain") (fdOf K (ga K "_law_plain")) ["_law_row", "_law_most", "_law_long"] (spMPlain K) := by
  refine FunD.ok T.F_w_plain sc_w_plain (fun vs H Q E h => ?_) (fun cdv A outer s H vs Q E hr h => ⟨_, PSs.nox (pss_cons (zset 3 sc_w_plain.nd (pe_slice (sl_listK K) (z_call (ok_w_mixed T) T.c_w_mixed (hr.mono (by decide)) rfl T.g_w_mixed passL (pa_cons (pv 0) (pa_cons (pe_lst (pa_cons pe_str (pa_cons pe_str (pa_cons pe_str (pa_cons pe_str (pa_cons pe_str (pa_cons pe_str pa_nil))))))) pa_nil))) po_none (po_some (pe_op op_add pe_int (z_call (ok_w_taken T) T.c_w_taken (hr.mono (by decide)) rfl T.g_w_taken passL (pa_cons (pv 0) (pa_cons (pv 1) pa_nil)))))))
      (pss_cons (ps_par (by rfl) sc_w_plain.nd (i := 4) (j := 5) rfl rfl (by decide) rfl rfl (pa_cons (z_call (ok_w_mixed T) T.c_w_mixed (hr.mono (by decide)) rfl T.g_w_mixed passL (pa_cons (pv 0) (pa_cons (pe_listRg rfl (by rfl) T.u_list (prg_2 (by rfl) T.u_range pe_int pe_int)) pa_nil))) (pa_cons (pe_lst pa_nil) pa_nil)) (by rfl))
      (pss_cons (ps_for PassesOwn.never rfl (pi_range1 rfl T.u_range (pa_cons (pe_callB (call_lenK K) (by rfl) T.u_len (by decide +kernel) (pa_cons (pv 3) pa_nil)) pa_nil)) (zg 6 sc_w_plain.nd)
      (pss_cons (ps_setLc (i := 7) (own := [("_law_turn", 8)]) rfl sc_w_plain.nd rfl rfl (sw_true rfl rfl rfl (by decide +kernel)) (pi_range1 rfl T.u_range (pa_cons (pe_op op_add pe_int (z_call (ok_w_taken T) T.c_w_taken (hr.mono (by decide)) rfl T.g_w_taken passL (pa_cons (pv 0) (pa_cons pe_int pa_nil)))) pa_nil)) (blkOk_by (own := [("_law_turn", 8)]) (N := n_w_plain) (sc := defScope s_w_plain) (by decide +kernel)) (fun _ _ _ _ _ => (zg 8 sc_w_plain.nd)) (fun _ _ _ _ _ => pts_nil) (fun _ _ _ _ _ => (pe_tup (pa_cons pe_str (pa_cons (pe_op op_add pe_int (z_call (ok_w_taken T) T.c_w_taken (hr.mono (by decide)) rfl T.g_w_taken passL (pa_cons (pv 0) (pa_cons (pv 2) pa_nil)))) pa_nil)))))
      (pss_one (ps_expr (kBM K (pe_bm PySem.F.plainAttrs_list PySem.F.slot_list_append PySem.F.type_list_append mt_append (pv 5) (pa_cons (pe_tup (pa_cons (pe_ix (ix_listK K) (pv 3) (pv 6) (fun _ _ => rfl)) (pa_cons pe_str (pa_cons (pe_ix (ix_listK K) (pv 4) (pv 6) (fun _ _ => rfl)) (pa_cons (pe_callTy (call_tuple_ofK K) (by rfl) T.u_tuple (by decide +kernel) (pa_cons (pv 7) pa_nil)) pa_nil))))) pa_nil)))))))
      (pss_one (ps_ret (pe_callTy (call_tuple_ofK K) (by rfl) T.u_tuple (by decide +kernel) (pa_cons (pv 5) pa_nil))))))), ?_⟩)
  · obtain ⟨r, sc, ns, most, long, rfl, _⟩ := h
    rfl
  obtain ⟨r, sc, ns, most, long, rfl, hrow, m1, m6, g1, g90, q⟩ := h
  show (_ : TS) _ [some (.ref r), some (.int most), some (.int long), none, none, none, none, none, none] H
  try dsimp only [cxOf]
  have hr0 := hrow.ex
  repeat walk_at "zz"
  rename_i l1 hl1 H1 s1 e1
  refine ⟨r, sc, ns, l1, nm6.map V.str, rfl, hrow.same s1, .inl (SqL.of e1), by decide, fun H2 l2 ys f2 row2 hl2 e2 pm => ?_⟩
  obtain ⟨nms, rfl, pn⟩ := perm_strs pm
  have hl2r : l2 ≠ r := fun e => hr0 (by rw [← e]; exact s1.fr.back (A := []) hl2)
  repeat walk_at "zz"
  refine s_take row2 (by omega) (by omega) fun nn H3 nn0 nn1 f3 row3 => ?_
  have e3 := f3.at e2 (by simp [hl2r])
  repeat walk_at "zz"
  refine s_slL (SqL.of e3) fun l4 hl4 => ?_
  rw [show 1 + nn = (((1 + nn).toNat : Nat) : Int) by omega, cut_take, ← List.map_take]
  generalize eH : upd H3 l4 _ = H4
  have s4 := newS hl4 eH
  have e4 := newE eH
  clear eH
  have n6 : nms.length = 6 := pn.length_eq
  have pnd : nms.Nodup := pn.nodup_iff.mpr (by decide)
  have pin : ∀ z ∈ nms, z ∈ nm6 := fun z hz => pn.mem_iff.mp hz
  generalize hN : nms.take (1 + nn).toNat = N at e4
  have hN6 : 1 ≤ N.length ∧ N.length ≤ 6 := by rw [← hN, List.length_take]; omega
  have hNd : N.Nodup := by rw [← hN]; exact pnd.sublist (List.take_sublist _ _)
  have hNi : ∀ z ∈ N, z ∈ nm6 := fun z hz => pin z (by rw [← hN] at hz; exact List.mem_of_mem_take hz)
  have row4 := row3.same s4
  have f14 : Fr [r] H H4 := (s1.fr.trans f2).trans (f3.trans s4.fr)
  have hl40 : H l4 = none := ((s1.fr.trans f2).trans f3 : Fr [r] H H3).back hl4
  have hl4r : l4 ≠ r := fun e => hr0 (by rw [← e]; exact hl40)
  clear e1 e2 e3 pm s1 s4 f2 f3 row2 row3 hl1 hl2 hl2r hl4 hN pn
  repeat walk_at "zz"
  refine s_rg12 ⟨by decide, by decide, by decide, by decide, by decide⟩ fun l5 hl5 => ?_
  rw [rgV_19]
  generalize eH : upd H4 l5 _ = H5
  have s5 := newS hl5 eH
  have e5 := newE eH
  clear eH
  repeat walk_at "zz"
  refine ⟨r, sc, ns, l5, oneTo9.map V.int, rfl, row4.same s5, .inl (SqL.of e5), by decide, fun H6 l6 ys f6 row6 hl6 e6 pm => ?_⟩
  obtain ⟨rks, rfl, pr⟩ := perm_ints pm
  have r9 : rks.length = 9 := pr.length_eq
  have rnd : rks.Nodup := pr.nodup_iff.mpr (by decide)
  have rin : ∀ n ∈ rks, 1 ≤ n ∧ n ≤ 9 := fun n hn => by
    have h := pr.mem_iff.mp hn
    have : ∀ n ∈ oneTo9, 1 ≤ n ∧ n ≤ 9 := by decide
    exact this n h
  have f46 : Fr [r] H4 H6 := s5.fr.trans f6
  have en6 := f46.at e4 (by simp [hl4r])
  have hl60 : H l6 = none := f14.back (s5.fr.back (A := []) hl6)
  have hl6r : l6 ≠ r := fun e => hr0 (by rw [← e]; exact hl60)
  have f16 := f14.trans f46
  clear e4 e5 s5 f6 row4 pm pr hl6 f46
  repeat walk_at "zz"
  rename_i l10 hl10 H10 s10 e10
  have en10 := s10 _ _ en6
  have er10 := s10 _ _ e6
  have row10 := row6.same s10
  have f110 : Fr [r] H H10 := f16.trans s10.fr
  have hl100 : H l10 = none := f16.back hl10
  have hl10r : l10 ≠ r := fun e => hr0 (by rw [← e]; exact hl100)
  have n104 : l10 ≠ l4 := fun e => by rw [e, en6] at hl10; cases hl10
  have n106 : l10 ≠ l6 := fun e => by rw [e, e6] at hl10; cases hl10
  clear en6 e6 row6 s10 hl10
  refine s_lenL (SqL.of en10) ?_
  rw [List.length_map]
  repeat walk_at "zz"
  refine ⟨by omega, by omega, for_range (lo := 0) (n := ((N.length : Nat) : Int).toNat) (fun i σ Ha => ∃ y6 y7, σ = [some (.ref r), some (.int most), some (.int long), some (.ref l4), some (.ref l6), some (.ref l10), y6, y7, none] ∧ Fr [r, l10] H10 Ha ∧ RowAt K Ha r sc ns ∧
    ∃ ls xs, Ha l10 = some (.lst xs) ∧ DpAll K Ha xs (ls.map dLn) ∧ ls.map (·.nm) = N.take i ∧ ls.map (·.rk) = rks.take i ∧ ∀ l ∈ ls, (∀ nk, FitLn nk [] l) ∧ l.kd = "edge" ∧ ∀ s ∈ l.st, s.1 = "run") ⟨_, _, rfl, Fr.refl, row10, [], [], e10, .nil, rfl, rfl, by simp⟩ (fun i σ Ha hi hPv => ?_) (fun σ Ha hPv => ?_)⟩
  case _ =>
    obtain ⟨y6, y7, rfl, fa, rowa, ls, xs, ea, da, hnm, hrk, hfit⟩ := hPv
    rw [Int.toNat_natCast] at hi
    have hi2 : i < rks.length := by omega
    have e0 : (0 + ((i : Nat) : Int)) = i := by omega
    rw [e0]
    repeat walk_at "zz"
    refine s_take rowa (by omega) (by omega) fun nst Hb hst0 hst4 fb rowb => ?_
    have en10b := fb.at (fa.at en10 (by simp [hl4r, Ne.symm n104])) (by simp [hl4r])
    have er10b := fb.at (fa.at er10 (by simp [hl6r, Ne.symm n106])) (by simp [hl6r])
    have eab := fb.at ea (by simp [hl10r])
    have tl : tupds (ls.map dLn) = true := tupds_map tupd_dLn _
    have ts : ∀ l : List (Str × Key), tupds (l.map dSt) = true := fun l => tupds_map tupd_dSt l
    have dab := da.tk fb.tk tl
    repeat walk_at "zz"
    refine ⟨by omega, by omega, lcR_row rowb (by omega) (fun _ (s : Str × Key) => s.1 = ("run" : Str) ∧ ∀ nk, FitSt nk [] s) dSt tupd_dSt (fun j Hc Yes No hj fc rowc yes => ?_) (fun l11 Hd ys st hl11 fd rowd ed hsl hst dd => ?_)⟩
    · repeat walk_at "zz"
      refine ⟨rfl, ?_⟩
      repeat walk_at "zz"
      refine s_take rowc (by omega) (by omega) fun n1 He h1 h2 fe rowe => ?_
      repeat walk_at "zz"
      rename_i t12 ht12 Hf sf ef
      exact yes _ _ (("run" : Str), (Sum.inl (1 + n1) : Key)) (fe.trans sf.fr) (rowe.same sf) ⟨rfl, fun nk => .run (by omega) (by omega)⟩ (.tup (SqT.of ef) (.cons (.str _) (.cons (.int _) .nil)))
    have hst : ∀ s ∈ st, s.1 = ("run" : Str) ∧ ∀ nk, FitSt nk [] s := fun s hs => by
      obtain ⟨_, h⟩ := rel_all hst s hs
      exact h
    have hl11r : l11 ≠ r := fun e => rowb.ex (by rw [← e]; exact hl11)
    have ead := fd.at eab (by simp [hl10r])
    have dad := dab.tk fd.tk tl
    have end_ := fd.at en10b (by simp [hl4r])
    have erd := fd.at er10b (by simp [hl6r])
    repeat walk_at "zz"
    refine s_tyL ead ?_
    repeat walk_at "zz"
    refine s_ixL (SqL.of end_) (atI_nat (gS_map hi)) ?_
    repeat walk_at "zz"
    refine s_ixL (SqL.of erd) (atI_nat (gI_map hi2)) ?_
    repeat walk_at "zz"
    refine ⟨l11, ys, rfl, .inl ⟨SqL.of ed, fun t12 ht12 => ?_⟩⟩
    generalize eH : upd Hd t12 _ = Hf
    have sf := newS ht12 eH
    have ef := newE eH
    clear eH
    repeat walk_at "zz"
    rename_i t13 ht13 Hg sg eg
    have eag := sg _ _ (sf _ _ ead)
    have hxl : xs.length = i := by
      have h1 := da.len
      have h2 := congrArg List.length hnm
      rw [List.length_map] at h1
      rw [List.length_map, List.length_take] at h2
      omega
    refine s_append eag (by rw [sizeLine_eq]; omega) ?_
    generalize eH : upd Hg l10 _ = Hh
    have fh : Fr [l10] Hg Hh := by rw [← eH]; exact Fr.upd (by simp) eag rfl
    have eh := newE eH
    clear eH
    repeat walk_at "zz"
    have sfg := sf.trans sg
    have fag : Fr [r] Ha Hg := (fb.trans fd).trans sfg.fr
    have dst := dd.same sfg
    have d13 : Dp K Hg (.ref t13) (dLn ⟨gS N i, "edge", gI rks i, st⟩) := .tup (SqT.of eg) (.cons (.str _) (.cons (.str _) (.cons (.int _) (.cons (.tup (sg.sqT (SqT.of ef)) dst) .nil))))
    have stl : st.length = (1 + nst).toNat := hsl
    refine ⟨_, _, rfl, (fa.trans (fag.mono (by simp))).trans (fh.mono (by simp)), hrow.kept (rowd.same sfg) fh (by simp [hl100]), ls ++ [⟨gS N i, "edge", gI rks i, st⟩], _, eh, ?_, ?_, ?_, fun l hl => ?_⟩
    · rw [List.map_append]
      exact ((dad.same sfg).tk fh.tk tl).app (.cons (d13.tk fh.tk (tupd_dLn _)) .nil)
    · rw [List.map_append, hnm, List.take_add_one, gS_eq hi]
      rfl
    · rw [List.map_append, hrk, List.take_add_one, gI_eq hi2]
      rfl
    · rcases List.mem_append.mp hl with hl | hl
      · exact hfit l hl
      · rw [List.mem_singleton.mp hl]
        have hrb := rin _ (List.mem_of_getElem? (gI_eq hi2))
        refine ⟨fun nk => ⟨nm6_A _ (hNi _ (List.mem_of_getElem? (gS_eq hi))), .inl rfl, hrb.1, hrb.2, fun e => ?_, by show st.length ≤ 8; omega, fun s hs => (hst s hs).2 nk⟩, rfl, fun s hs => (hst s hs).1⟩
        have e : st = [] := e
        rw [e] at stl
        simp only [List.length_nil] at stl
        omega
  case _ =>
    obtain ⟨y6, y7, rfl, fa, rowa, ls, xs, ea, da, hnm, hrk, hfit⟩ := hPv
    rw [Int.toNat_natCast, List.take_length] at hnm
    rw [Int.toNat_natCast] at hrk
    have fra : Fr [r] H Ha := f110.seq fa (fun a ha => by
      simp only [List.mem_cons, List.not_mem_nil, or_false] at ha
      rcases ha with rfl | rfl
      · exact .inl (by simp)
      · exact .inr hl100)
    repeat walk_at "zz"
    refine ⟨l10, xs, rfl, .inl ⟨SqL.of ea, fun t12 ht12 => ?_⟩⟩
    generalize eH : upd Ha t12 _ = Hc
    have sc1 := newS ht12 eH
    have ec := newE eH
    clear eH
    refine q t12 ⟨ls, []⟩ Hc (fra.trans sc1.fr) (rowa.same sc1) ⟨rfl, fun l hl => (hfit l hl).1 _, ?_, ?_, ?_, ?_, fun l hl => (hfit l hl).2.1, fun l hl => (hfit l hl).2.2⟩ (.tup (SqT.of ec) (da.same sc1))
    · show (ls.map (·.nm)).Nodup
      rw [hnm]
      exact hNd
    · show ls ≠ []
      rintro rfl
      rw [← hnm] at hN6
      simp at hN6
    · show ∀ z ∈ ls.map (·.nm), z ∈ nm6
      rw [hnm]
      exact hNi
    · show (ls.map (·.rk)).Nodup
      rw [hrk]
      exact rnd.sublist (List.take_sublist _ _)
end
end T
set_option maxHeartbeats 8000000
namespace T
open PySem PySem.Spec PyProof.Rows L2 Z
open He (ga ma)
local macro_rules | `(tactic| walk_at "z") => `(tactic| first
  | with_reducible refine s_seq ?_
  | with_reducible refine s_asg ?_
  | with_reducible refine s_gname ?_
  | with_reducible refine s_ret ?_
  | with_reducible refine s_retN ?_
  | with_reducible refine s_ifS ?_
  | with_reducible refine s_drop ?_
  | with_reducible refine s_next ?_
  | with_reducible refine s_cont ?_
  | with_reducible refine s_break ?_
  | with_reducible refine s_par ?_
  | with_reducible refine s_par2 ?_
  | with_reducible refine s_c ?_
  | ((with_reducible refine s_var (v := ?v1) ?h1 ?q1); (case h1 => exact rfl))
  | with_reducible refine s_op ?_
  | with_reducible refine s_un ?_
  | with_reducible refine s_cb ?_
  | with_reducible refine s_cons ?_
  | with_reducible refine s_nil ?_
  | with_reducible refine s_star ?_
  | with_reducible refine s_test ?_
  | with_reducible refine s_B ?_
  | with_reducible refine s_and ?_
  | with_reducible refine s_or ?_
  | with_reducible refine s_not ?_
  | with_reducible refine s_andV ?_
  | with_reducible refine s_orV ?_
  | with_reducible refine s_notV ?_
  | with_reducible refine s_if ?_
  | with_reducible refine s_chain ?_
  | with_reducible refine s_call ?_
  | with_reducible refine s_bl ?_
  | with_reducible refine s_yes ?_
  | with_reducible refine s_gcons ?_
  | with_reducible refine s_gnil ?_
  | with_reducible refine s_din ?_
  | with_reducible refine s_dnin ?_
  | with_reducible refine s_dget ?_
  | with_reducible refine s_bm ?_
  | with_reducible refine s_bm0 ?_
  | with_reducible refine s_fldg ?_
  | with_reducible refine s_meth ?_
  | with_reducible refine s_prop ?_
  | with_reducible refine s_lcT ?_
  | with_reducible refine s_daugg ?_
  | with_reducible refine s_disp ?_
  | with_reducible refine s_pcons ?_
  | with_reducible refine s_pnil ?_
  | with_reducible refine s_gsub ?_
  | with_reducible refine s_augS ?_
  | with_reducible refine s_fldaug ?_
  | with_reducible refine s_add ?_
  | with_reducible refine s_ipI ?_
  | with_reducible refine s_ixO ?_
  | with_reducible refine s_lcL ?_
  | with_reducible refine s_dputg ?_
  | with_reducible refine s_for ?_
  | with_reducible refine s_rng1 ?_
  | with_reducible refine s_iT ?_
  | with_reducible refine s_iL ?_
  | with_reducible refine Or.inl (Exists.intro _ (And.intro rfl ?_))
  | with_reducible refine Or.inr (Exists.intro _ (And.intro rfl ?_))
  | with_reducible refine s_make ?_
  | with_reducible refine s_sl ?_
  | with_reducible refine s_nop ?_
  | with_reducible refine s_part ?_
  | with_reducible refine s_lcE ?_
  | with_reducible refine s_lc ?_
  | with_reducible refine s_dcT ?_
  | with_reducible refine s_cvalg ?_
  | with_reducible refine s_fldS ?_
  | with_reducible refine s_I0 ?_
  | with_reducible refine s_U ?_
  | ((with_reducible refine s_eq ?h1 ?q1); (case h1 => exact rfl))
  | ((with_reducible refine s_ne ?h1 ?q1); (case h1 => exact rfl))
  | (with_reducible refine s_tup ?_)
  | (with_reducible refine s_lst ?_)
  | ((with_reducible refine s_isi (d := ?d1) ?h1 ?h2 ?q1); (case h1 => first | assumption | constructor); (case h2 => decide))
  | with_reducible refine ⟨_, _, rfl, rfl, ?_⟩
  | with_reducible refine ⟨_, rfl, ?_⟩)
local macro_rules | `(tactic| walk_at "zi") => `(tactic| first
  | walk_at "z"
  | ((with_reducible refine ite_f ?h1 ?q1); (case h1 => rfl))
  | ((with_reducible refine ite_t ?h1 ?q1); (case h1 => rfl)))
local macro_rules | `(tactic| walk_at "zn") => `(tactic| (intro p hp; generalize eH : upd _ p _ = H2; have s2 := newS hp eH; have e2 := newE eH; clear eH))
local macro_rules | `(tactic| walk_at "zt") => `(tactic| ((with_reducible refine And.intro ?h1 ?_); (case h1 => exact Nat.le_of_ble_eq_true rfl); intro p hp; generalize eH : upd _ p _ = H2; have s2 := newS hp eH; have e2 := newE eH; clear eH))
local macro_rules | `(tactic| walk_at "hl") => `(tactic| first
  | assumption
  | ((with_reducible apply at_same); (· assumption); · walk_at "hl")
  | ((with_reducible apply sqT_same); (· assumption); · walk_at "hl")
  | ((with_reducible apply sqL_same); (· assumption); · walk_at "hl")
  | ((with_reducible apply SqT.of); · walk_at "hl")
  | ((with_reducible apply SqL.of); · walk_at "hl")
  | ((with_reducible apply dp_same); (· assumption); · walk_at "hl")
  | ((with_reducible apply dpA_same); (· assumption); · walk_at "hl")
  | ((with_reducible apply pl_same); (· assumption); · walk_at "hl")
  | ((with_reducible apply bd_same); (· assumption); · walk_at "hl")
  | ((with_reducible apply co_same); (· assumption); · walk_at "hl")
  | ((with_reducible apply cst_same); (· assumption); · walk_at "hl")
  | ((with_reducible apply sg_same); (· assumption); · walk_at "hl")
  | ((with_reducible apply row_same); (· assumption); · walk_at "hl")
  | ((with_reducible apply md_same); (· assumption); · walk_at "hl")
  | ((with_reducible apply plm_same); (· assumption); · walk_at "hl")
  | ((with_reducible apply mst_same); (· assumption); · walk_at "hl")
  | ((with_reducible apply ev_same); (· assumption); · walk_at "hl"))
local macro_rules | `(tactic| walk_at "lk") => `(tactic| with_reducible first
  | exact plF_lr | exact plF_wr | exact plF_rn | exact plF_wn
  | exact bdF_plan | exact bdF_sh | exact bdF_wa | exact bdF_hi | exact bdF_ta | exact bdF_ra | exact bdF_jo
  | exact sgF_plan | exact sgF_board | exact sgF_core | exact sgF_time | exact sgF_sums
  | exact coF_plan | exact coF_fr | exact coF_lim | exact coF_jo)
local macro_rules | `(tactic| walk_at "mk") => `(tactic| with_reducible first | exact mk_ca | exact mk_ed | exact mk_hi | exact mk_up | exact mk_sh | exact mk_bar | exact mk_jo | exact mk_now | exact mk_lg | exact mk_sp | exact mk_jn | exact mk_ln | exact mk_wk)
local macro_rules | `(tactic| walk_at "cl") => `(tactic| with_reducible first | exact Txt.cl_Setup (by assumption) | exact Txt.cl_Board (by assumption) | exact Txt.cl_Core (by assumption) | exact Txt.cl_Single (by assumption))
local macro_rules | `(tactic| walk_at "na") => `(tactic| with_reducible first | exact Txt.n_Setup_line_rows (by assumption) | exact Txt.n_Setup_work_rows (by assumption) | exact Txt.n_Setup_rows_by_name (by assumption) | exact Txt.n_Setup_works_by_name (by assumption) | exact Txt.n_Board_plan (by assumption) | exact Txt.n_Board_shut (by assumption) | exact Txt.n_Board_wanted (by assumption) | exact Txt.n_Board_high (by assumption) | exact Txt.n_Board_taken (by assumption) | exact Txt.n_Board_raised (by assumption) | exact Txt.n_Board_joined (by assumption) | exact Txt.n_Core_plan (by assumption) | exact Txt.n_Core_frames (by assumption) | exact Txt.n_Core_limit (by assumption) | exact Txt.n_Core_jobs (by assumption) | exact Txt.n_Single_plan (by assumption) | exact Txt.n_Single_board (by assumption) | exact Txt.n_Single_core (by assumption) | exact Txt.n_Single_time (by assumption) | exact Txt.n_Single_sums (by assumption))
local macro_rules | `(tactic| walk_at "zz") => `(tactic| first
  | walk_at "zi"
  | ((with_reducible apply s_fldat); (· walk_at "hl"); (· walk_at "cl"); (· walk_at "na"); (· walk_at "lk"))
  | ((with_reducible apply s_methat); (· walk_at "hl"); (· kernel_rfl))
  | ((with_reducible apply s_propat); (· walk_at "hl"))
  | ((with_reducible apply s_ixT); (· walk_at "hl"); (· with_reducible first | exact at0 | exact at1 | exact at2 | exact at3 | exact at4))
  | ((with_reducible apply s_ixL); (· walk_at "hl"); (· with_reducible first | exact at0 | exact at1 | exact at2 | exact at3 | exact at4))
  | ((with_reducible apply s_dgS); (· walk_at "hl"); (· walk_at "mk"))
  | walk_at "zt")
local macro_rules | `(tactic| walk_at "zm") => `(tactic| (intro x dx hx hdx hne; generalize eH : upd (upd _ dx _) x _ = H2; have s2 := mkS hx hdx eH; have e2 := mkE eH; clear eH hdx hne))
local macro_rules | `(tactic| walk_at "zb") => `(tactic| with_reducible first | refine s_gcons ?_ | refine s_gnil ?_ | refine s_gname ?_ | refine s_seq ?_ | refine s_ifS ?_ | refine s_if ?_ | refine s_next ?_ | refine s_drop ?_ | refine s_ret ?_ | refine s_asg ?_)
def spLaw (K : Fg) : Sp := fun vs H Q _ => ∃ (a : Addr) (ns : List Int), vs = [.ref a] ∧ SqL K H a (ns.map V.int) ∧ ∀ H', Q (.bl true) H'
section
variable {P : Program} {w : World} {K : Fg} {mg : Str → Option Value} {base : Heap}
theorem ok_law (T : Txt K mg) : FnOk P w K mg base (L2.CX P w) 32 (ga K "law") (fdOf K (ga K "law")) ["_law_script"] (spLaw K) := by
  refine FunD.ok T.F_law sc_law (fun vs H Q E h => ?_) (fun cdv A outer s H vs Q E hr h => ⟨_, PSs.nox (pss_cons (zset 1 sc_law.nd (pe_lst (pa_cons (pv 0) (pa_cons pe_int (pa_cons pe_int (pa_cons pe_int pa_nil))))))
      (pss_cons (ps_for PassesOwn.never rfl (pi_range1 rfl T.u_range (pa_cons pe_int pa_nil)) (zg 2 sc_law.nd)
      (pss_cons (zset 3 sc_law.nd (z_call (ok_w_plain T) T.c_w_plain (hr.mono (by decide)) rfl T.g_w_plain passL (pa_cons (pv 1) (pa_cons pe_int (pa_cons pe_int pa_nil)))))
      (pss_cons (ps_asg (pe_tup (pa_cons (z_make T.mk_Single (ok_Single_init T) T.c_Single_init (hr.mono (by decide)) rfl T.g_Single passL (pa_cons (z_make T.mk_Setup (ok_Setup_init T) T.c2_Setup_init (hr.mono (by decide)) rfl T.g_Setup passL (pa_cons (pv 3) pa_nil)) pa_nil)) (pa_cons (pe_callTy (call_dictP rfl) (by rfl) T.u_dict (by decide +kernel) (pa_cons (pe_lc (own := [("_law_line", 17)]) rfl sc_law.nd (kIT K (pi_tup (pv 3))) (blkOk_by (own := [("_law_line", 17)]) (N := n_law) (sc := defScope s_law) (by decide +kernel)) (fun _ _ _ _ _ => (zg 17 sc_law.nd)) (fun _ _ _ _ _ => pts_nil) (fun _ _ _ _ _ => (pe_tup (pa_cons (pe_ix (ix_tupK K) (pv 17) pe_int (fun _ _ => rfl)) (pa_cons (pe_ix (ix_tupK K) (pv 17) pe_int (fun _ _ => rfl)) pa_nil))))) pa_nil)) pa_nil))) (kGT K (pg_tup (n := 2) rfl (pgs_cons (zg 4 sc_law.nd) (pgs_cons (zg 5 sc_law.nd) pgs_nil)))))
      (pss_cons (zset 6 sc_law.nd (pe_callB (call_sortedD rfl) (by rfl) T.u_sorted (by decide +kernel) (pa_cons (pv 5) pa_nil)))
      (pss_one (ps_for PassesOwn.never rfl (pi_range1 rfl T.u_range (pa_cons pe_int pa_nil)) (zg 7 sc_law.nd)
      (pss_cons (ps_for PassesOwn.never rfl (pi_range1 rfl T.u_range (pa_cons (z_call (ok_w_taken T) T.c_w_taken (hr.mono (by decide)) rfl T.g_w_taken passL (pa_cons (pv 1) (pa_cons pe_int pa_nil))) pa_nil)) (zg 8 sc_law.nd)
      (pss_one (ps_expr (z_meth (pv 4) T.cl_Single T.m_Single_ring (ok_Single_ring T) T.c_Single_ring (hr.mono (by decide)) passL (pa_cons (pe_ix (ix_listK K) (pv 6) (z_call (ok_w_taken T) T.c_w_taken (hr.mono (by decide)) rfl T.g_w_taken passL (pa_cons (pv 1) (pa_cons (pe_callB (call_lenK K) (by rfl) T.u_len (by decide +kernel) (pa_cons (pv 6) pa_nil)) pa_nil))) (fun _ _ => rfl)) pa_nil)))))
      (pss_cons (ps_setLc (i := 9) (own := [("_law_call", 18)]) rfl sc_law.nd rfl rfl (sw_true rfl rfl rfl (by decide +kernel)) (kIL K (pi_list (z_prop (pv 4) T.cl_Single T.p_Single_calls (ok_Single_calls T) T.c_Single_calls (hr.mono (by decide)) rfl))) (blkOk_by (own := [("_law_call", 18)]) (N := n_law) (sc := defScope s_law) (by decide +kernel)) (fun _ _ _ _ _ => (zg 18 sc_law.nd)) (fun _ _ _ _ _ => pts_nil) (fun _ _ _ _ _ => (pe_ix (ix_tupK K) (pv 18) pe_int (fun _ _ => rfl))))
      (pss_cons (zset 10 sc_law.nd (pe_callB (cr_sortedX rfl hr.units) (by rfl) T.u_sorted (by decide +kernel) (pa_cons (pe_callTy (cr_setXK K rfl) (by rfl) T.u_set (by decide +kernel) (pa_cons (pe_op op_cat (z_prop (pv 4) T.cl_Single T.p_Single_waiting (ok_Single_waiting T) T.c_Single_waiting (hr.mono (by decide)) rfl) (pv 9)) pa_nil)) pa_nil)))
      (pss_cons (zset 11 sc_law.nd (z_prop (pv 4) T.cl_Single T.p_Single_spent (ok_Single_spent T) T.c_Single_spent (hr.mono (by decide)) rfl))
      (pss_cons (zset 12 sc_law.nd (z_meth0 (pv 4) T.cl_Single T.m_Single_tick (ok_Single_tick T) T.c_Single_tick (hr.mono (by decide)) passL))
      (pss_cons (ps_setLc (i := 13) (own := [("_law_word", 19), ("_law_name", 20)]) rfl sc_law.nd rfl rfl (sw_true rfl rfl rfl (by decide +kernel)) (kIL K (pi_list (pv 12))) (blkOk_by (own := [("_law_word", 19), ("_law_name", 20)]) (N := n_law) (sc := defScope s_law) (by decide +kernel)) (fun _ _ _ _ _ => (kGT K (pg_tup (n := 2) rfl (pgs_cons (zg 19 sc_law.nd) (pgs_cons (zg 20 sc_law.nd) pgs_nil))))) (fun _ _ _ _ _ => (pts_one (pt_cmpR op_eq (pv 19) pe_str (nomark _)))) (fun _ _ _ _ _ => (pv 20)))
      (pss_cons (ps_if (pt_cmpR (op_eq0K K hr.units) (pv 10) (pe_lst pa_nil) (nomark _)) (pss_cons (ps_if (PW.pt (pw_or (pt_cmpR (op_ne0K K hr.units) (pv 12) (pe_lst pa_nil) (nomark _)) (pw_or1 (pt_cmpR (op_neDK K hr.units) (z_prop (pv 4) T.cl_Single T.p_Single_spent (ok_Single_spent T) T.c_Single_spent (hr.mono (by decide)) rfl) (pe_op (op_catAK K) (pe_slice (sl_tupAK K) (pv 11) po_none (po_some pe_int)) (pe_tup (pa_cons (pe_op op_add (pe_ix (ix_tupK K) (pv 11) pe_int (fun _ _ => rfl)) pe_int) pa_nil))) (nomark _))))) (pss_one (ps_ret pe_bl)) pss_nil)
      (pss_one ps_continue)) pss_nil)
      (pss_cons (zset 14 sc_law.nd (pe_callB (cr_maxK K rfl) (by rfl) T.u_max (by decide +kernel) (pa_cons (pe_lc (own := [("_law_name", 20)]) rfl sc_law.nd (kIL K (pi_list (pv 10))) (blkOk_by (own := [("_law_name", 20)]) (N := n_law) (sc := defScope s_law) (by decide +kernel)) (fun _ _ _ _ _ => (zg 20 sc_law.nd)) (fun _ _ _ _ _ => pts_nil) (fun _ _ _ _ _ => (pe_dget (hu_of hr) (pv 5) (pv 20) (fun _ _ => rfl)))) pa_nil)))
      (pss_cons (zset 15 sc_law.nd (pe_ifExp (pt_cmpR (op_ne0K K hr.units) (pv 13) (pe_lst pa_nil) (nomark _)) (pe_ix (ix_listK K) (pv 13) pe_int (fun _ _ => rfl)) (pe_ifExp (pt_cmpR (op_ne0K K hr.units) (pv 9) (pe_lst pa_nil) (nomark _)) (pe_ix (ix_listK K) (pv 9) (pe_un un_neg pe_int) (fun _ _ => rfl)) pe_str)))
      (pss_cons (ps_if (PW.pt (pw_or (pt_cmpR op_eq (pv 15) pe_str (nomark _)) (pw_or (pt_cmpR op_ne (pe_dget (hu_of hr) (pv 5) (pv 15) (fun _ _ => rfl)) (pv 14) (nomark _)) (pw_or1 (pt_cmpR (op_neDK K hr.units) (z_prop (pv 4) T.cl_Single T.p_Single_spent (ok_Single_spent T) T.c_Single_spent (hr.mono (by decide)) rfl) (pe_op (op_catAK K) (pe_tup (pa_cons (pe_op op_add (pe_ix (ix_tupK K) (pv 11) pe_int (fun _ _ => rfl)) pe_int) pa_nil)) (pe_slice (sl_tupAK K) (pv 11) (po_some pe_int) po_none)) (nomark _)))))) (pss_one (ps_ret pe_bl)) pss_nil)
      (pss_cons (ps_setLc (i := 16) (own := [("_law_call", 18)]) rfl sc_law.nd rfl rfl (sw_true rfl rfl rfl (by decide +kernel)) (kIL K (pi_list (z_prop (pv 4) T.cl_Single T.p_Single_calls (ok_Single_calls T) T.c_Single_calls (hr.mono (by decide)) rfl))) (blkOk_by (own := [("_law_call", 18)]) (N := n_law) (sc := defScope s_law) (by decide +kernel)) (fun _ _ _ _ _ => (zg 18 sc_law.nd)) (fun _ _ _ _ _ => pts_nil) (fun _ _ _ _ _ => (pe_dget (hu_of hr) (pv 5) (pe_ix (ix_tupK K) (pv 18) pe_int (fun _ _ => rfl)) (fun _ _ => rfl))))
      (pss_one (ps_if (PW.pt (pw_or (pt_cmpR (op_neDK K hr.units) (pv 16) (pe_callB (cr_sortedX rfl hr.units) (by rfl) T.u_sorted (by decide +kernel) (pa_cons (pe_callTy (cr_setXK K rfl) (by rfl) T.u_set (by decide +kernel) (pa_cons (pv 16) pa_nil)) pa_nil)) (nomark _)) (pw_or1 (pt_cmpR op_gt (pe_callB (call_lenK K) (by rfl) T.u_len (by decide +kernel) (pa_cons (pv 13) pa_nil)) pe_int (nomark _))))) (pss_one (ps_ret pe_bl)) pss_nil)))))))))))))))))))
      (pss_one (ps_ret pe_bl)))), ?_⟩)
  · obtain ⟨a, ns, rfl, _⟩ := h
    rfl
  obtain ⟨sc, ns, rfl, hsc, q⟩ := h
  show (_ : TS) _ [some (.ref sc), none, none, none, none, none, none, none, none, none, none, none, none, none, none, none, none, none, none, none, none] H
  try dsimp only [cxOf]
  repeat walk_at "zz"
  rename_i r hr0 H1 s1 e1
  have row1 := row_new hsc hr0 s1 e1
  clear e1
  repeat walk_at "zz"
  refine ⟨by decide, by decide, for_range (lo := 0) (n := 3) (fun _ σ H2 => (∃ x2 x3 x4 x5 x6 x7 x8 x9 x10 x11 x12 x13 x14 x15 x16, σ = [some (.ref sc), some (.ref r), x2, x3, x4, x5, x6, x7, x8, x9, x10, x11, x12, x13, x14, x15, x16, none, none, none, none]) ∧ RowAt K H2 r sc ns)
    ⟨⟨none, none, none, none, none, none, none, none, none, none, none, none, none, none, none, rfl⟩, row1⟩ (fun turn σ H2 hturn hPv => ?_) (fun σ H2 _ => ?_)⟩
  case _ =>
    obtain ⟨⟨x2, x3, x4, x5, x6, x7, x8, x9, x10, x11, x12, x13, x14, x15, x16, rfl⟩, row2⟩ := hPv
    have hr2 := row2.ex
    repeat walk_at "zz"
    refine ⟨r, sc, ns, 6, 6, rfl, row2, by omega, by omega, by omega, by omega, fun t P H3 f3 row3 pl da => ?_⟩
    have pn := pl.pln
    have ok := pl.ok
    have l6 := pl.l6
    obtain ⟨_, las, e, hTa, hAa⟩ := da.tupI
    cases e
    have lasl : las.length = P.ls.length := by rw [hAa.len, List.length_map]
    repeat walk_at "zz"
    walk_at "zm"
    rename_i x dx hx9 H9 s9 e9
    refine ⟨x, t, _, dx, P, rfl, e9, da.same s9, by rw [pl.ws]; exact .tup (T.dt_Setup_init _) .nil, ok, fun H10 rd wd hrd hwd hrw f10 pla => ⟨rfl, ?_⟩⟩
    repeat walk_at "zz"
    walk_at "zm"
    rename_i y dy hy H11 s11 e11
    refine ⟨y, ⟨x, rd, wd⟩, dy, P, rfl, e11, pla.same s11, fun z => pla.ex _ z hy, fun H12 A hAs hAP hown f12 sg1 => ⟨rfl, ?_⟩⟩
    subst hAs
    obtain ⟨one, s312⟩ := made hx9 s9 hrd hwd f10 hy s11 hAP hown f12 sg1
    clear hx9 s9 e9 hrd hwd hrw f10 pla hy s11 e11 hAP hown f12 sg1
    repeat walk_at "zz"
    refine lcT_d (l := P.ls) (da := dLn) (s312.sqT hTa) (hAa.same s312) (fun _ => true) (fun l => .tuple [.str l.nm, .int l.rk]) (by omega) (fun _ _ => rfl) (fun l v Ha Yes No hl sa hd yes no => ?_) (fun c13 H13 ms hc13 s13 e13 a13 => ?_)
    · obtain ⟨t9, zs, rfl, hT, hA⟩ := hd.tupI
      cases hA with | cons h1 hA => ?_
      cases hA with | cons h2 hA => ?_
      cases hA with | cons h3 hA => ?_
      cases h1
      cases h3
      repeat walk_at "zz"
      refine ⟨rfl, ?_⟩
      repeat walk_at "zz"
      rename_i p10 hp10 H10 s10 e10
      exact yes rfl _ _ s10 (.tup (SqT.of e10) (.cons (.str _) (.cons (.int _) .nil)))
    rw [List.filter_eq_self.mpr (fun _ _ => rfl)] at a13
    obtain ⟨ps, vs, rfl, hps, hvs⟩ := paired_nv (nm := fun l : Ln => l.nm) (d := fun l : Ln => .int l.rk) a13
    repeat walk_at "zz"
    refine ⟨c13, ps, _, rfl, SqL.of e13, hps, fun dl hdl => ?_⟩
    rw [mergeK_zip ok.lnd hvs, dp_col hvs]
    generalize eH : upd H13 dl _ = H14
    have s14 := newS hdl eH
    have e14 := newE eH
    clear eH hps a13 e13 hvs
    repeat walk_at "zz"
    rename_i p15 hp15 H15 s15 e15
    refine s_gtup (SqT.of e15) rfl ?_
    repeat walk_at "zz"
    refine ⟨dl, _, P.names, rfl, .inl (s15 _ _ e14), ?_, ?_, fun nms nl hnms _ hnl => ?_⟩
    · rw [List.map_fst_zip (by simp)]
      unfold Pl.names
      rw [List.map_map]
      rfl
    · unfold Pl.names
      rw [List.length_map]
      omega
    generalize eH : upd H15 nl _ = Hb
    have s16 := newS hnl eH
    have e16 := newE eH
    clear eH
    have nmn : ∀ z ∈ nms, z ∈ P.names := fun z hz => hnms.mem_iff.mp hz
    have nml : nms.length = P.ls.length := by
      rw [hnms.length_eq]
      unfold Pl.names
      rw [List.length_map]
    have lpos : 0 < P.ls.length := List.length_pos_iff.mpr pl.ne
    have s1215 := s13.trans (s14.trans s15)
    have f312 : Fr [] H3 H12 := s312.fr
    have x0 := OneX.start one (s1215.trans s16) f312 row3
    have hr12 : H12 r ≠ none := (row3.same s312).ex
    have dlr : dl ≠ r := fun e => hr12 (s13.fr.back (A := []) (by rw [← e]; exact hdl))
    have nlr : nl ≠ r := fun e => hr12 (s1215.fr.back (A := []) (by rw [← e]; exact hnl))
    have dlo : dl ∉ A.own := fun z => one.s.ex _ z (s13.fr.back (A := []) hdl)
    have nlo : nl ∉ A.own := fun z => one.s.ex _ z (s1215.fr.back (A := []) hnl)
    have e14b := s16 _ _ (s15 _ _ e14)
    clear s16 s15 e15 hp15 s1215 s14 e14 s13 hnl hdl hc13
    repeat walk_at "zz"
    refine ⟨by decide, by decide, for_range (lo := 0) (n := 40) (fun i σ Hi => ∃ Dc G y7 y8 y9 y10 y11 y12 y13 y14 y15 y16, σ = [some (.ref sc), some (.ref r), some (.int (0 + turn)), some (.ref t), some (.ref A.s), some (.ref dl), some (.ref nl), y7, y8, y9, y10, y11, y12, y13, y14, y15, y16, none, none, none, none] ∧ OneX K r sc ns H3 Hb A Hi { A with D := Dc } P G ∧ PIn P G)
      ⟨A.D, _, _, _, _, _, _, _, _, _, _, _, rfl, x0, PIn.start pn⟩ (fun i σ Hi hi hPv => ?_) (fun σ Hi hPv => ?_)⟩
    case _ =>
      clear x0
      obtain ⟨Dc, G, y7, y8, y9, y10, y11, y12, y13, y14, y15, y16, rfl, xi, pg⟩ := hPv
      repeat walk_at "zz"
      refine s_take xi.row (by omega) (by omega) fun n Hj n0 n1 fj rowj => ?_
      have xj := xi.rowch fj rowj
      clear xi fj rowj
      repeat walk_at "zz"
      refine ⟨by omega, by omega, for_range (lo := 0) (n := n.toNat) (fun j σ Hk => ∃ G y8, σ = [some (.ref sc), some (.ref r), some (.int (0 + turn)), some (.ref t), some (.ref A.s), some (.ref dl), some (.ref nl), some (.int (0 + (i : Nat))), y8, y9, y10, y11, y12, y13, y14, y15, y16, none, none, none, none] ∧ OneX K r sc ns H3 Hb A Hk { A with D := Dc } P G ∧ PIn P G)
        ⟨G, _, rfl, xj, pg⟩ (fun j σ Hk hj hPv => ?_) (fun σ Hk hPv => ?_)⟩
      case _ =>
        clear xj pg G
        obtain ⟨G, y8, rfl, xk, pg⟩ := hPv
        obtain ⟨dx1, hs1⟩ := xk.s.ins
        have hs1' : Hk A.s = some (.ins (ga K "Single") dx1 (singF { A with D := Dc } G.time)) := hs1
        clear hs1
        repeat walk_at "zz"
        refine s_lenL (SqL.of (xk.at e16 nlr nlo)) ?_
        repeat walk_at "zz"
        refine s_take xk.row (by rw [List.length_map]; omega) (by rw [List.length_map]; omega) fun nn Hl m0 m1 fl rowl => ?_
        have xl := xk.rowch fl rowl
        obtain ⟨kk, rfl⟩ := Int.eq_ofNat_of_zero_le m0
        rw [List.length_map] at m1
        have hkk : kk < nms.length := by omega
        refine s_ixL (SqL.of (xl.at e16 nlr nlo)) (v := .str nms[kk]) (atI_nat (by rw [List.getElem?_map, List.getElem?_eq_getElem hkk]; rfl)) ?_
        have hlm := nmn _ (List.getElem_mem hkk)
        generalize nms[kk] = z at hlm
        repeat walk_at "zz"
        refine ⟨{ A with D := Dc }, P, G, z, rfl, xl.s, hlm, fun Hm cs sgm => ?_⟩
        repeat walk_at "zz"
        exact ⟨_, _, rfl, xl.ch cs sgm, (pg.ring pn hlm).1⟩
      case _ =>
        clear xj pg G
        obtain ⟨G, y8, rfl, xk, pg⟩ := hPv
        obtain ⟨dx1, hs1⟩ := xk.s.ins
        have hs1' : Hk A.s = some (.ins (ga K "Single") dx1 (singF { A with D := Dc } G.time)) := hs1
        clear hs1
        repeat walk_at "zz"
        refine ⟨{ A with D := Dc }, P, G, rfl, xk.s, fun Hl l5 xs5 sl hl5 e5 d5 => ?_⟩
        have k12 := xk.s.fok.len ok
        refine lcL_d (l := G.C.frames) (da := dCall) (SqL.of e5) d5 (fun _ => true) (fun f => .str f.ln) (by omega) (fun _ _ => rfl) (fun f v Ha Yes No hf sa hd yes no => ?_) (fun l6 Hm es6 hl6 sm em am => ?_)
        · obtain ⟨t9, zs, rfl, hT, hA⟩ := hd.tupI
          cases hA with | cons h1 hA => ?_
          cases h1
          repeat walk_at "zz"
          refine ⟨rfl, ?_⟩
          repeat walk_at "zz"
          exact yes rfl _ _ (Same.refl _) (.str _)
        rw [List.filter_eq_self.mpr (fun _ _ => rfl)] at am
        have eN : G.C.frames.map (fun f => PyData.str f.ln) = (G.C.frames.map (·.ln)).map PyData.str := by
          rw [List.map_map]
          rfl
        rw [eN] at am
        cases dp_strs am
        have xm := (xk.same sl).same sm
        have l6o : l6 ∉ SA.own { A with D := Dc } := fun z => (xk.same sl).s.ex _ z hl6
        clear xk
        obtain ⟨dx2, hs2⟩ := xm.s.ins
        have hs2' : Hm A.s = some (.ins (ga K "Single") dx2 (singF { A with D := Dc } G.time)) := hs2
        clear hs2 hs1' am e5 d5
        repeat walk_at "zz"
        refine ⟨{ A with D := Dc }, P, G, rfl, xm.s, fun Hn lw sn hlw ew => ?_⟩
        have xn := xm.same sn
        repeat walk_at "zz"
        have wl := wants_len ok pg
        refine s_cat ew (sn _ _ em) (by rw [← List.length_append, ← List.map_append, sizeLine_eq, List.length_map]; show (wants P G).length ≤ _; omega) fun lc hlc => ?_
        rw [← List.map_append]
        generalize eH : upd Hn lc _ = Ho
        have so := newS hlc eH
        have eo : Ho lc = some (.lst ((wants P G).map V.str)) := newE eH
        clear eH ew
        repeat walk_at "zz"
        refine ⟨lc, rfl, .inl ⟨wants P G, SqL.of eo, by omega, fun ls lset hls hnd hmem hlen => ?_⟩⟩
        generalize eH : upd Ho ls _ = Hy
        have sp := newS hls eH
        have ep := newE eH
        clear eH eo
        repeat walk_at "zz"
        refine ⟨ls, rfl, .inl ⟨lset, ep, by omega, fun zs pz hzs hpz => ?_⟩⟩
        generalize eH : upd Hy pz _ = Hq
        have sq := newS hpz eH
        have eq := newE eH
        clear eH ep
        have zsm : ∀ z, z ∈ zs ↔ z ∈ wants P G := fun z => hzs.mem_iff.trans (hmem z)
        have zsl : zs.length ≤ 24 := by rw [hzs.length_eq]; omega
        have emq := sq _ _ (sp _ _ (so _ _ (sn _ _ em)))
        clear em
        have xq := ((xn.same so).same sp).same sq
        have pzo : pz ∉ SA.own { A with D := Dc } := fun z => ((xn.same so).same sp).s.ex _ z hpz
        clear hmem hzs hnd hlen so sn xm xn
        obtain ⟨dx3, hs3⟩ := xq.s.ins
        have hs3' : Hq A.s = some (.ins (ga K "Single") dx3 (singF { A with D := Dc } G.time)) := hs3
        clear hs3 hs2'
        repeat walk_at "zz"
        refine ⟨{ A with D := Dc }, P, G, rfl, xq.s, fun Hr tsp sr htsp er => ?_⟩
        have xr := xq.same sr
        have eqr := sr _ _ eq
        have emr := sr _ _ emq
        clear emq
        obtain ⟨dx4, hs4⟩ := xr.s.ins
        have hs4' : Hr A.s = some (.ins (ga K "Single") dx4 (singF { A with D := Dc } G.time)) := hs4
        clear hs4 hs3' eq sq sp
        repeat walk_at "zz"
        obtain ⟨M, bo⟩ := pg.mod
        have xk0 := xr.s.sk
        have elen := Sg.tick_len ok bo.inv.cok
        have pt := tick_plain pn pg
        have bt := begs_tick pn pg
        refine ⟨{ A with D := Dc }, P, G, rfl, xr.s, fun Hs D2 l7 cs sgs hl7 nl7 ev7 => ?_⟩
        have xs := xr.ch cs sgs
        obtain ⟨exs, eex, exd⟩ := ev7
        have eqs := cs.fr.at eqr pzo
        have ems := cs.fr.at emr l6o
        have ers := cs.fr.tk.sqT (K := K) (SqT.of er)
        clear eqr er hs4' xr xq emr
        repeat walk_at "zz"
        refine lcL_d (l := (G.tick P).2) (da := dEv) (SqL.of eex) exd (fun e => decide (e.1 = ("begin" : Str))) (fun e => .str e.2) (by omega) (fun _ _ => rfl) (fun e v Ha Yes No he sa hd yes no => ?_) (fun l8 Ht es8 hl8 st et at8 => ?_)
        · obtain ⟨t9, zs9, rfl, hT, hA⟩ := hd.tupI
          cases hA with | cons h1 hA => ?_
          cases hA with | cons h2 hA => ?_
          cases hA
          cases h1
          cases h2
          refine s_gtup hT rfl ?_
          repeat walk_at "zz"
          refine ⟨rfl, ?_⟩
          repeat walk_at "zz"
          refine ite_b (fun h => ?_) (fun h => ?_)
          · repeat walk_at "zz"
            exact yes (by simpa using h) _ _ (Same.refl _) (.str _)
          · exact no (by simpa using h) _ (Same.refl _)
        have eB : ((G.tick P).2.filter fun e => decide (e.1 = ("begin" : Str))).map (fun e => PyData.str e.2) = (pBeg P G).toList.map PyData.str := by
          rw [← bt]
          unfold begs
          rw [List.map_map]
          rfl
        rw [eB] at at8
        cases dp_strs at8
        clear at8 eB
        have xt := xs.same st
        have eqt := st _ _ eqs
        have emt := st _ _ ems
        clear ems
        have ert := st.sqT ers
        have eex' := st _ _ eex
        have exd' := exd.same st
        clear eqs ers eex exd xs
        obtain ⟨s0, s1, s2, s3, eS⟩ := sums_four xk0
        have ert' : SqT K Ht tsp [V.int s0, V.int s1, V.int s2, V.int s3] := by rw [eS] at ert; exact ert
        clear ert
        have hin : ∀ {Hx : Hp}, Same Ht Hx → ∃ dx, Hx A.s = some (.ins (ga K "Single") dx (singF { A with D := D2 } (G.tick P).1.time)) := fun s => (xt.same s).s.ins
        repeat walk_at "zz"
        rename_i p20 hp20 Hu su eu
        refine s_eq0L (SqL.of (su _ _ eqt)) (SqL.of eu) ?_
        repeat walk_at "zz"
        refine ite_b (fun hz => ?_) (fun hz => ?_)
        · have zn : zs = [] := by cases zs with | nil => rfl | cons _ _ => cases hz
          have wn : wants P G = [] := by
            cases e : wants P G with
            | nil => rfl
            | cons a b => have := (zsm a).mpr (by rw [e]; simp); rw [zn] at this; cases this
          obtain ⟨i1, i2⟩ := tick_idle pn pg wn
          have exn : exs = [] := by
            rw [i1] at exd'
            exact List.eq_nil_of_length_eq_zero exd'.len
          subst exn
          obtain ⟨dx5, hs5⟩ := hin su
          repeat walk_at "zz"
          rename_i p21 hp21 Hv sv ev
          refine s_eq0L (SqL.of (sv _ _ (su _ _ eex'))) (SqL.of ev) ?_
          repeat walk_at "zz"
          have s23 := su.trans sv
          refine ⟨{ A with D := D2 }, P, (G.tick P).1, rfl, (xt.same s23).s, fun Hw t22 sw ht22 e22 => ?_⟩
          rw [i2, eS, bump_idle] at e22
          have s24 := s23.trans sw
          repeat walk_at "zz"
          refine s_slA (s24.sqT ert') fun t23 Hx sx ht23 => ?_
          have ht23' : SqT K Hx t23 [V.int s0, V.int s1, V.int s2] := ht23
          repeat walk_at "zz"
          rename_i t24 ht24 Hy2 sy ey
          refine s_catA2 (sy.sqT ht23') (SqT.of ey) (by simp [sizeLine_eq]) (by simp) (by simp) fun t25 ht25 => ?_
          generalize eH : upd Hy2 t25 _ = Hz
          have sz := newS ht25 eH
          have ez : Hz t25 = some (.tup [V.int s0, V.int s1, V.int s2, V.int (s3 + 1)]) := newE eH
          clear eH
          have hi4 : ∀ a b c d : Int, DpAll K Hz [V.int a, V.int b, V.int c, V.int d] [.int a, .int b, .int c, .int d] := fun a b c d => .cons (.int _) (.cons (.int _) (.cons (.int _) (.cons (.int _) .nil)))
          have s25 := sx.trans (sy.trans sz)
          refine ⟨_, _, .tup (s25.sqT (SqT.of e22)) (hi4 _ _ _ _), .tup (SqT.of ez) (hi4 _ _ _ _), (shaped_i4 _ _ _ _).1, (shaped_i4 _ _ _ _).1, ?_⟩
          rw [(shaped_i4 _ _ _ _).2]
          repeat walk_at "zz"
          exact ⟨_, _, _, _, _, _, _, _, _, _, _, _, rfl, (xt.same s24).same s25, pt.inv⟩
        · have wn : wants P G ≠ [] := fun e => by
            have : zs = [] := List.eq_nil_iff_forall_not_mem.mpr fun z hz2 => by
              have := (zsm z).mp hz2
              rw [e] at this
              cases this
            subst this
            cases hz
          have zn : zs ≠ [] := fun e => by subst e; cases hz
          obtain ⟨b1, b2⟩ := tick_best pn pg wn
          have edl : ∀ {Hx : Hp}, Same Ht Hx → Hx dl = some (.dK ((P.ls.map fun x => (Sum.inr x.nm : Key)).zip (P.ls.map fun x => V.int x.rk))) := fun s => (xt.same s).at e14b dlr dlo
          have edl0 := edl su
          repeat walk_at "zz"
          refine lcL_d (l := zs) (da := PyData.str) (SqL.of (su _ _ eqt)) (dp_strs_of' _) (fun _ => true) (fun z => .int (P.ln z).rk) (by omega) (fun _ _ => rfl) (fun z v Ha Yes No hzz sa hd yes no => ?_) (fun l30 Hv rs hl30 sv ev av => ?_)
          · cases hd
            have edla := sa _ _ edl0
            repeat walk_at "zz"
            refine ⟨rfl, ?_⟩
            repeat walk_at "zz"
            refine s_dgS edla (rank_of ok (wants_names pg ((zsm z).mp hzz))) ?_
            exact yes rfl _ _ (Same.refl _) (.int _)
          rw [List.filter_eq_self.mpr (fun _ _ => rfl)] at av
          cases dp_col (f := fun z : Str => (P.ln z).rk) av
          have hmm : (zs.map fun x => V.int (P.ln x).rk) = (zs.map fun x => (P.ln x).rk).map V.int := by
            rw [List.map_map]
            rfl
          rw [hmm] at ev
          repeat walk_at "zz"
          refine s_max (SqL.of ev) (by simpa using zn) fun best hb1 hb2 => ?_
          refine s_gname ?_
          refine s_seq ?_
          refine s_asg ?_
          have suv := su.trans sv
          have hbest : best ∈ zs.map fun x => (P.ln x).rk := hb1
          refine val_e (fun v H' => ∃ z, v = .str z ∧ Same Hv H' ∧ z ∈ wants P G ∧ (P.ln z).rk = best) ?rest (fun hx => ?go)
          case go =>
            have top : ∀ z, z ∈ wants P G → (∀ y ∈ wants P G, (P.ln y).rk ≤ (P.ln z).rk) → (P.ln z).rk = best := fun z h1 h2 => by
              obtain ⟨x, h3, h4⟩ := List.mem_map.mp hbest
              have h5 := h2 x ((zsm x).mp h3)
              have h6 := hb2 _ (List.mem_map.mpr ⟨z, (zsm z).mpr h1, rfl⟩)
              omega
            rcases b2 with ⟨z, c1, c2, c3⟩ | ⟨c1, f, c2, c3, c4⟩
            · have et' := suv _ _ et
              rw [c1] at et'
              have et2 : Hv l8 = some (.lst [V.str z]) := et'
              repeat walk_at "zz"
              rename_i p41 hp41 Hw sw ew
              refine s_eq0L (SqL.of (sw _ _ et2)) (SqL.of ew) ?_
              repeat walk_at "zz"
              refine s_ixL (SqL.of (sw _ _ et2)) at0 ?_
              exact hx _ _ ⟨z, rfl, sw, c2, top z c2 c3⟩
            · have et' := suv _ _ et
              rw [c1] at et'
              have et2 : Hv l8 = some (.lst []) := et'
              repeat walk_at "zz"
              rename_i p41 hp41 Hw sw ew
              refine s_eq0L (SqL.of (sw _ _ et2)) (SqL.of ew) ?_
              repeat walk_at "zz"
              have emw := sw _ _ (suv _ _ emt)
              obtain ⟨fs, hfs⟩ : ∃ fs, G.C.frames = fs ++ [f] := List.getLast?_eq_some_iff.mp c2
              rw [hfs, List.map_append, List.map_append] at emw
              rename_i p42 hp42 Hw2 sw2 ew2
              refine s_eq0L (SqL.of (sw2 _ _ emw)) (SqL.of ew2) ?_
              rw [show (!((fs.map (·.ln)).map V.str ++ (([f] : List Frm).map (·.ln)).map V.str).isEmpty) = true by simp]
              repeat walk_at "zz"
              refine s_ixL (SqL.of (sw2 _ _ emw)) (v := .str f.ln) atI_last ?_
              exact hx _ _ ⟨_, rfl, sw.trans sw2, c3, top _ c3 c4⟩
          case rest =>
            rintro _ Hw ⟨z, rfl, sw, z1, z2⟩
            have suw := suv.trans sw
            have edlw := edl suw
            obtain ⟨dx5, hs5⟩ := hin suw
            have zN := wants_names pg z1
            have zne : z ≠ ("" : Str) := fun e => by
              have h := pl.six z zN
              rw [e] at h
              exact absurd h (by decide)
            repeat walk_at "zz"
            refine ite_f (decide_eq_false fun e => zne (by cases e; rfl)) ?_
            repeat walk_at "zz"
            refine s_dgS edlw (rank_of ok zN) ?_
            repeat walk_at "zz"
            rw [z2]
            refine ite_f (by simp) ?_
            repeat walk_at "zz"
            refine ⟨{ A with D := D2 }, P, (G.tick P).1, rfl, (xt.same suw).s, fun Hx t22 sx ht22 e22 => ?_⟩
            rw [b1, eS, bump_call] at e22
            have s24 := suw.trans sx
            repeat walk_at "zz"
            rename_i t24 ht24 Hy sy ey
            refine s_slA (sy.sqT (s24.sqT ert')) fun t25 Hz sz ht25 => ?_
            have ht25' : SqT K Hz t25 [V.int s1, V.int s2, V.int s3] := ht25
            refine s_catA2 (SqT.of (sz _ _ ey)) ht25' (by simp [sizeLine_eq]) (by simp) (by simp) fun t26 ht26 => ?_
            generalize eH : upd Hz t26 _ = Ha
            have sa := newS ht26 eH
            have ea : Ha t26 = some (.tup [V.int (s0 + 1), V.int s1, V.int s2, V.int s3]) := newE eH
            clear eH
            have hi4 : ∀ a b c d : Int, DpAll K Ha [V.int a, V.int b, V.int c, V.int d] [.int a, .int b, .int c, .int d] := fun a b c d => .cons (.int _) (.cons (.int _) (.cons (.int _) (.cons (.int _) .nil)))
            have s25 := sy.trans (sz.trans sa)
            refine ⟨_, _, .tup (s25.sqT (SqT.of e22)) (hi4 _ _ _ _), .tup (SqT.of ea) (hi4 _ _ _ _), (shaped_i4 _ _ _ _).1, (shaped_i4 _ _ _ _).1, ?_⟩
            rw [(shaped_i4 _ _ _ _).2]
            have sua := s24.trans s25
            have xa := xt.same sua
            obtain ⟨dx6, hs6⟩ := hin sua
            have eta := sua _ _ et
            clear hs5 edlw edl0 e22 ht22 sx ht24 sy ey ht25 ht25' sz ht26 sa ea hi4 s24 s25 eex' exd' emt eqt
            repeat walk_at "zz"
            refine ⟨{ A with D := D2 }, P, (G.tick P).1, rfl, xa.s, fun Hb2 l31 xs31 sb hl31 e31 d31 => ?_⟩
            have k12' := xa.s.fok.len ok
            have fnm := xa.s.fok.nm
            refine lcL_d (l := (G.tick P).1.C.frames) (da := dCall) (SqL.of e31) d31 (fun _ => true) (fun f => .int (rkF P f)) (by omega) (fun _ _ => rfl) (fun f v Hc Yes No hf sc1 hd yes no => ?_) (fun l32 Hc rs2 hl32 sc1 ec ac => ?_)
            · obtain ⟨t9, zs9, rfl, hT, hA⟩ := hd.tupI
              cases hA with | cons h1 hA => ?_
              cases h1
              repeat walk_at "zz"
              refine ⟨rfl, ?_⟩
              repeat walk_at "zz"
              refine s_dgS (edl (sua.trans (sb.trans sc1))) (rank_of ok (fnm f hf)) ?_
              exact yes rfl _ _ (Same.refl _) (.int _)
            rw [List.filter_eq_self.mpr (fun _ _ => rfl)] at ac
            cases dp_col (f := fun f : Frm => rkF P f) ac
            have sbc := sb.trans sc1
            have hnn : ((G.tick P).1.C.frames.map fun x => V.int (rkF P x)) = ((G.tick P).1.C.frames.map (rkF P)).map V.int := by
              rw [List.map_map]
              rfl
            rw [hnn] at ec
            have rise := frames_rise pt.inv
            have rl : ((G.tick P).1.C.frames.map (rkF P)).length ≤ 12 := by rw [List.length_map]; exact k12'
            generalize (G.tick P).1.C.frames.map (rkF P) = now at ec rise rl
            repeat walk_at "zz"
            refine ⟨l32, rfl, .inr ⟨now, SqL.of ec, by omega, fun p33 c33 hp33 hc33 => ?_⟩⟩
            generalize eH : upd Hc p33 _ = Hd
            have sd := newS hp33 eH
            have ed := newE eH
            clear eH
            repeat walk_at "zz"
            refine ⟨p33, rfl, .inr ⟨_, c33, ed, by omega, fun ns2 p34 hn1 hn2 hn3 hp34 => ?_⟩⟩
            have en2 : ns2 = now := rise_eq hn1 rise fun k => by rw [hn2 k, decide_eq_true_eq]
            subst en2
            generalize eH : upd Hd p34 _ = He
            have se := newS hp34 eH
            have ee := newE eH
            clear eH
            have dpi : ∀ (H : Hp) (l : List Int), DpAll K H (l.map V.int) (l.map PyData.int) := fun H l => by
              induction l with
              | nil => exact .nil
              | cons x l ih => exact .cons (.int _) ih
            refine ⟨_, _, .lst (SqL.of (se _ _ (sd _ _ ec))) (dpi _ _), .lst (SqL.of ee) (dpi _ _), (shaped_ints _).1, (shaped_ints _).1, ?_⟩
            rw [(shaped_ints _).2]
            have sde := sbc.trans (sd.trans se)
            repeat walk_at "zz"
            refine s_lenL (SqL.of (sde _ _ eta)) ?_
            have blen : ((pBeg P G).toList.map V.str).length ≤ 1 := by cases pBeg P G <;> simp
            repeat walk_at "zz"
            refine ite_f (decide_eq_false (by omega)) ?_
            repeat walk_at "zz"
            exact ⟨_, _, _, _, _, _, _, _, _, _, _, _, rfl, xa.same sde, pt.inv⟩
    case _ =>
      obtain ⟨Dc, G, y7, y8, y9, y10, y11, y12, y13, y14, y15, y16, rfl, xi, pg⟩ := hPv
      repeat walk_at "zz"
      exact ⟨⟨_, _, _, _, _, _, _, _, _, _, _, _, _, _, _, rfl⟩, xi.row⟩
  case _ =>
    repeat walk_at "zz"
    exact q _
end
end T
set_option maxHeartbeats 0
namespace Z
open PySem PySem.Spec PyProof.Rows L2
/-- the end of a law whose defs may raise -/
theorem walkEX {l : PySem.W.OpenLaw} {n k : Nat} {q : Program} {ls : List Str} {XP : (Str → Option Value) → Heap → Prop} {YP : World → Heap → Prop} {d : DefRec} {x : Str} (hn : l.most = some n) (hz : n ≤ sizeLine) (hdf : d.params.defaults = []) (room : Room k callerA)
    (F : ∀ (w : World) (mg : Str → Option Value) (f : Addr) (h : Heap), YP w h → h.Ns mainGlobals mg → mg d.name = some (.ref f) → ∃ (K : Fg) (fd : FuncData) (sp : Sp), K.In h ∧ (∀ (s : Shared) (u : Value), BindsTo s fd ⟨[u], []⟩ [(x, u)]) ∧
      (∀ (H : Hp) (a : Addr) (ns : List Int), ns.length ≤ n → SqL K H a (ns.map V.int) → sp [.ref a] H (fun v _ => v = .bl true) fun _ _ _ => False) ∧ ∀ base : Heap, K.In base → base.Ns mainGlobals mg → FnOk l.prog w K mg base (L2.CX l.prog w) k f fd [x] sp) :
    PySem.W.WalkO q ls XP YP l.row.toRowW d [] (fun f vs => PySem.call f vs) := by
  refine Att.attach_call hn hdf fun w _ s1 mg _ f _ _ _ _ a _ ns G Y _ _ _ hm ho hi hl hg => ?_
  obtain ⟨K, fd, sp, KX, hb, hsp, hF⟩ := F w mg f _ Y G.T.g hm
  refine law_call KX G.T.g G.T.b G.T.builtins G.T.nolimit hg ho hi (Nat.le_trans hl hz) room hF hb (fun H _ hS => hsp H a ns hl hS) fun H e s' z => ?_
  obtain ⟨_, _, _, _, _, _, _, _, _, _, _, _, z⟩ := z
  exact z
end Z
namespace T
open PySem PySem.Spec PyProof.Rows L2 Z
open He (ga ma)
theorem facts {P : Program} {w : World} {K : Fg} {h : Heap} {mg : Str → Option Value} {f : Addr} (X : K.In h) (G : h.Ns mainGlobals mg) (hfa : mg ("law" : Str) = some (.ref f)) (c : SaysZ fa fn K) :
    ∃ fd : FuncData, (∀ (s : Shared) (v : Value), BindsTo s fd ⟨[v], []⟩ [("_law_script", v)]) ∧ ∀ base : Heap, K.In base → base.Ns mainGlobals mg → FnOk P w K mg base (L2.CX P w) 32 f fd ["_law_script"] (spLaw K) := by
  have T := txt_of X G c
  have e := hfa.symm.trans T.g_law
  cases e
  have b := FunD.bindsA (ps := ["_law_script"]) T.F_law fun _ _ _ _ _ _ us hl => match us, hl with | [_], _ => rfl
  exact ⟨_, fun s v => b s [v] rfl, fun base _ _ => ok_law T⟩
end T
open PySem PySem.W PySem.Calls PyProof.Rows
theorem PySem.Challenge.cw_callbells_k16_whole_the_greatest_rank_go_holds : PySem.Challenge.rw_callbells_k16_whole_the_greatest_rank_go.Holds := by
  w_on; o_law
  refine HandSHeadRun.head_any (r := OpenLaw.row PySem.Challenge.rw_callbells_k16_whole_the_greatest_rank_go) (q := view (OpenLaw.row PySem.Challenge.rw_callbells_k16_whole_the_greatest_rank_go).prog [49]) (H := T.hk) (ob := T.ob) (M := 9000) (loose := T.names) (d := HandSHeadRun.topDef (OpenLaw.row PySem.Challenge.rw_callbells_k16_whole_the_greatest_rank_go).prog 49) (kwd := []) T.ob_eq
    (by kernel_rfl) (fun s => by kernel_rfl) T.run (by kernel_rfl) (by kernel_rfl) (by kernel_rfl) (by rfl) (by first | assumption | decide +kernel) (by decide +kernel) ⟨rfl, rfl, rfl, rfl, rfl, by decide +kernel⟩ ?hw ?hc
  case hw => w_witness2
  case hc =>
    refine Z.walkEX (l := PySem.Challenge.rw_callbells_k16_whole_the_greatest_rank_go) (n := 63) (k := 32) (x := "_law_script") rfl (by decide) (by kernel_rfl) ⟨rfl, by decide, by decide⟩ ?_
    intro w mg f h Y G hm0
    obtain ⟨K, KX, c⟩ := Y
    have hm : mg ("law" : PySem.Str) = some (.ref f) := by
      have e : (HandSHeadRun.topDef (OpenLaw.row PySem.Challenge.rw_callbells_k16_whole_the_greatest_rank_go).prog 49).name = ("law" : PySem.Str) := by kernel_rfl
      rw [← e]
      exact hm0
    obtain ⟨fd, hb, hF⟩ := T.facts (P := (PySem.Challenge.rw_callbells_k16_whole_the_greatest_rank_go).prog) (w := w) KX G hm c
    exact ⟨K, fd, T.spLaw K, KX, hb, fun H a ns hl hS => ⟨a, ns, rfl, hS, fun _ => rfl⟩, hF⟩
