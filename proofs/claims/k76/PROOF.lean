import PyProof.Rows.All
import Wide.All
import OpenK.AllK
import Wide.FinOn
import KE.KStateDown
import HandS.ForMost
import HandS.Walk
import HandS.Star
import HandS.DictComp
import HandS.Defaults
import HandS.Property
import HandS.ClsMeth
import HandS.IsInst
import HandS.Flow
import HandS.Deep
import HandS.NoneIn
import HandS.Sort
import HandS.SortRule
import HandS.TupAny
import HandS.Wide
import HandS.WordsExc
import HandS.Head2
import HandS.HeadEnd
import HandS.HeadHook2
import KE.GoesEnum
import KE.GoesMore
import KE.DataFind
import KE.SortData
import HandS.SetFor
import HandS.TryOnly
import KE.KTupSum
import HandS.More
import HandS.Dict
import HandS.Style
import HandS.SetTxt0
import HandS.Strs
import HandS.MakeKwOnly
import KE.DataMinMax
import KE.KCallOwn
import HandS.ListItems
import KE.KDictList
import HandS.Lambda
import HandS.HeadHook4
import OpenK.KOps
import KE.KEqNest
import KE.GoesZip
import HandS.Zip
import HandS.TupMul
import HandS.ExcIs
import HandS.ExcField
import HandS.ExcInit
import HandS.ExcOwn
import KE.KExcIs
import HandS.FStr
import PyProof.FString2
import KE.KDictKeyed
import KE.KDictDisplayH
import KE.KDictItemsList
import KE.KDictPairs
import HandS.TupLen
import KE.KEqDict
import HandS.Conv
import PySem.Challenge.RW_callbells_k76_whole_more_processors
set_option Elab.async false
set_option linter.all false
set_option maxRecDepth 100000
set_option maxHeartbeats 1000000
namespace Z
open PySem PySem.Spec PyProof.Rows L2
abbrev Fg := PySem.W.Frag
def fd0 : FuncData := PySem.W.fnOf "" "" (defArgs (.Pass ⟨0, 0, 0, 0⟩)) [] (defScope (.Pass ⟨0, 0, 0, 0⟩)) .none .none .none .none none .none .none
def fdOf (K : Fg) (a : Addr) : FuncData := match K.lookup a with
  | some ⟨_, _, .func fd, _⟩ => fd
  | _ => fd0
theorem fdOf_eq {K : Fg} {x q : Str} {pa : Arguments} {bd : List Stmt} {sc : Scope} {dv : List V} {kw : List (Str × V)} {f : Addr} {fd : FuncData} (F : FunD K x q pa bd sc dv kw f fd) : fdOf K f = fd := by
  obtain ⟨⟨oc, od, dV, kV, doc, pm, an, cdv, ct, osl, e, lk, _⟩, _⟩ := F
  unfold fdOf
  rw [lk]
structure Cal (K : Fg) (f : Addr) (ps : List Str) (dvs : List V) : Prop where
  kp : PySem.W.keepIn K (.ref f) = true
  b : ∃ ds, Binds K (fdOf K f) ps ds ∧ Vals dvs ds
section
variable {X : Cx} {k : Nat} {f C p0 : Addr} {ps : List Str} {sp : Sp} {dvs : List V} {x m : Str} {p pos apos : Pos} {e o i : Expr} {es : List Expr} {ta tb : TE} {t : TA} {E : XK}
abbrev FnX (X : Cx) (k : Nat) (f : Addr) (ps : List Str) (sp : Sp) : Prop := FnOk X.prog X.w X.K X.mg X.base (L2.CX X.prog X.w) k f (fdOf X.K f) ps sp
theorem z_call (F : FnX X k f ps sp) (c : Cal X.K f ps dvs) (hr : Room k X.A) (hg : Gl X x) (hm : X.mg x = some (.ref f)) (hx : Passes (L2.CX X.prog X.w) X E) (ha : PA X (e :: es) t) (hdb : (x == ("__debug__" : Str)) = false := by decide)
    (he : starEach (e :: es) X.env = (false, eval e X.env) :: starEach es X.env := by rfl) (hpl : (backTo pos (starEach es X.env)).any (·.1) = false := by rfl) : PE X (.Call (.Name x p) (e :: es) [] pos) (tCall sp dvs E t) := by
  obtain ⟨ds, hb, hd⟩ := c.b
  exact pe_call F hr hg hm c.kp hb hd hx ha hdb he hpl
theorem z_meth {pl : Sem Bool} (he : PE X o ta) (cl : Cls X.K C) (hm : Meth X.K C m f) (F : FnX X k f ps sp) (c : Cal X.K f ps dvs) (hr : Room k X.A) (hx : Passes (L2.CX X.prog X.w) X E) (ha : PA X (e :: es) t)
    (hst : starEach (e :: es) X.env = (false, eval e X.env) :: starEach es X.env := by rfl) (hpl : (backTo pos (starEach es X.env)).any (·.1) = false := by rfl)
    (ht : eval (.Call (.Attribute o m apos) (e :: es) [] pos) X.env = (do
      let ov ← eval o X.env
      standAt apos.atName
      let (f, first) ← holding [ov] (getMethod ov m pl)
      callWith pos f first (backTo pos (starEach (e :: es) X.env)) (backToKw pos (keywordEach [] X.env))) := by rfl) :
    PE X (.Call (.Attribute o m apos) (e :: es) [] pos) (tMeth C m sp dvs E ta t) := by
  obtain ⟨ds, hb, hd⟩ := c.b
  exact pe_meth he cl hm F hr hb hd hx ha hst hpl ht
theorem z_make (M : Mk X.K C f) (F : FnX X k f ps sp) (c : Cal X.K f ps dvs) (hr : Room (k + 1) X.A) (hg : Gl X x) (hm : X.mg x = some (.ref C)) (hx : Passes (L2.CX X.prog X.w) X E) (ha : PA X (e :: es) t) (hdb : (x == ("__debug__" : Str)) = false := by decide)
    (he : starEach (e :: es) X.env = (false, eval e X.env) :: starEach es X.env := by rfl) (hpl : (backTo pos (starEach es X.env)).any (·.1) = false := by rfl) : PE X (.Call (.Name x p) (e :: es) [] pos) (tMake C sp dvs E t) := by
  obtain ⟨ds, hb, hd⟩ := c.b
  exact pe_make M F hr hg hm hb hd hx ha hdb he hpl
theorem z_prop (he : PE X e ta) (cl : Cls X.K C) (hp : PropOf X.K C m p0 f) (F : FnX X k f ps sp) (c : Cal X.K f ps []) (hr : Room (k + 1) X.A) (hab : attributeBase e m X.env (eval e X.env) = eval e X.env) : PE X (.Attribute e m pos) (tProp C sp [] E0 ta) := by
  obtain ⟨ds, hb, hd⟩ := c.b
  exact pe_prop he cl hp F hr hb hd passL hab
theorem run_in1 {pins : List (Addr × Obj)} {σ : L2.St} {H : Hp} {s : Shared} {Q : VK} {us : List Value} {vs : List V} (F : FnX X k f ps sp) (c : Cal X.K f ps []) (hr : Room (k + 1) X.A) (hx : Passes (L2.CX X.prog X.w) X E)
    (I : Inv X pins σ H s) (r : Vals vs us) (h : sp vs H Q E) : wpAny (model X.prog X.w) X.A.in1 (call (.ref f) us) (EP X pins σ Q) X.xe s := by
  obtain ⟨ds, hb, hd⟩ := c.b
  cases hd
  have hl : (us ++ []).length = ps.length := by
    rw [List.append_nil, ← r.length]
    exact F.len _ _ _ _ h
  have hbb := hb s us I.kIn hl
  rw [List.append_nil] at hbb
  refine wpAny_call (codeAny_mono (F.run X.A.in1 X.stack s H ⟨us, []⟩ us vs Q E hr.in1 I.env0.in1 hbb r h) fun r s' hq => ?_)
  cases r with
  | error e => exact hx pins σ H s e s' I hq
  | ok fl =>
    cases fl with
    | ret u => exact I.after hq
    | next => exact False.elim hq
    | brk => exact False.elim hq
    | cont => exact False.elim hq
theorem run_in0 {pins : List (Addr × Obj)} {σ : L2.St} {H : Hp} {s : Shared} {Q : VK} {us : List Value} {vs : List V} (F : FnX X k f ps sp) (c : Cal X.K f ps []) (hr : Room k X.A) (hx : Passes (L2.CX X.prog X.w) X E)
    (I : Inv X pins σ H s) (r : Vals vs us) (h : sp vs H Q E) : wpAny (model X.prog X.w) X.A (call (.ref f) us) (EP X pins σ Q) X.xe s := by
  obtain ⟨ds, hb, hd⟩ := c.b
  cases hd
  have h' : sp (vs ++ []) H Q E := by rw [List.append_nil]; exact h
  exact run_fn F hr hb .nil hx I r h'
def tIxO (C : Addr) (sp : Sp) (E : XK) (ta tb : TE) : TE := fun σ H Q => ta σ H fun x H1 => tb σ H1 fun y H2 => ∃ a dx fs, x = .ref a ∧ H2 a = some (.ins C dx fs) ∧ sp [.ref a, y] H2 Q E
theorem z_ixO (ho : PE X o ta) (hi : PE X i tb) (hs : PySem.W.findIn X.K (.ref C) "__getitem__" = some (some (.ref f))) (hf1 : PySem.W.fnIn X.K f = true) (hfn : PySem.W.isFn X.K (.ref f) = true) (F : FnX X k f ps sp) (c : Cal X.K f ps []) (hr : Room (k + 1) X.A)
    (hx : Passes (L2.CX X.prog X.w) X E) (hsl : ∀ x i', subscripted i true x i' = runValue (.builtin "lifetime.subscript" ⟨[x, i'], []⟩) := by intros; with_unfolding_all rfl) : PE X (.Subscript o i pos) (tIxO C sp E ta tb) := by
  refine ⟨fun pins s σ H Q I h => ?_⟩
  refine Subscript_ (binT ho hi I h fun v u s2 x y H2 I2 rx ry q => ?_)
  obtain ⟨a, dx, fs, rfl, ea, q⟩ := q
  obtain rfl : v = Value.ref a := rx
  obtain ⟨mA, O, _, _, _, _⟩ := ins_get I2.hok ea
  obtain ⟨od, J, _⟩ := O.look
  obtain ⟨mf, fr⟩ := I2.fr
  exact PySem.W.sub_K fr I2.mod.kin J hs hf1 hfn (run_in1 F c hr hx I2 (.cons (show L2.RelV (.ref a) (.ref a) from rfl) (.cons ry .nil)) q) (hsl _ _)
def tInO (C : Addr) (sp : Sp) (neg : Bool) (E : XK) : R2 := fun x y H Q => ∃ a dx fs, y = .ref a ∧ H a = some (.ins C dx fs) ∧ sp [.ref a, x] H (fun v H2 => ∃ b, v = .bl b ∧ Q (.bl (if neg then !b else b)) H2) E
theorem op_notInO (hs : PySem.W.findIn X.K (.ref C) "__contains__" = some (some (.ref f))) (hfn : PySem.W.isFn X.K (.ref f) = true) (F : FnX X k f ps sp) (c : Cal X.K f ps []) (hr : Room k X.A) (hx : Passes (L2.CX X.prog X.w) X E) : OpR X (compareOp .NotIn) (tInO C sp true E) := by
  intro pins s σ H x y v u Q I rx ry h
  obtain ⟨a, dx, fs, rfl, ea, q⟩ := h
  obtain rfl : u = Value.ref a := ry
  obtain ⟨mA, O, _, _, _, _⟩ := ins_get I.hok ea
  obtain ⟨od, J, _⟩ := O.look
  obtain ⟨mf, fr⟩ := I.fr
  refine PySem.W.notIn_K fr I.mod.kin J hs hfn (thn (run_in0 F c hr hx I (.cons (show L2.RelV (.ref a) (.ref a) from rfl) (.cons rx .nil)) q) fun r s' ⟨z, H2, I2, rz, b, ez, q2⟩ => ?_)
  subst ez
  cases rz
  exact wpAny_truthy_bool ⟨.bl (!b), H2, I2, rfl, q2⟩
end
end Z
set_option maxHeartbeats 1000000
namespace L2
open PySem PySem.Spec PyProof.Rows Z
def Kp (A : List Addr) (H H' : Hp) : Prop := ∀ a o, H a = some o → a ∉ A → H' a = some o
theorem Same.kp {H H' : Hp} {A : List Addr} (s : Same H H') : Kp A H H' := fun a o h _ => s a o h
theorem Kp.refl {A : List Addr} {H : Hp} : Kp A H H := fun _ _ h _ => h
theorem Kp.nil {H H' : Hp} (k : Kp [] H H') : Same H H' := fun a o h => k a o h (by simp)
theorem Kp.mono {A B : List Addr} {H H' : Hp} (k : Kp A H H') (s : ∀ a ∈ A, a ∈ B) : Kp B H H' := fun a o h n => k a o h fun z => n (s a z)
theorem Kp.trans {A : List Addr} {H H1 H2 : Hp} (a : Kp A H H1) (b : Kp A H1 H2) : Kp A H H2 := fun c o h n => b c o (a c o h n) n
theorem Same.new {H : Hp} {p : Addr} {o : HO} (h : H p = none) : Same H (upd H p o) := fun a u e => by
  rw [upd_ne (ne_of_none e h)]
  exact e
theorem Same.sqT {K : Fg} {H H' : Hp} {a : Addr} {xs : List V} (e : Same H H') (h : SqT K H a xs) : SqT K H' a xs := by
  rcases h with (h | ⟨o, h⟩) | h
  · exact .inl (.inl (e _ _ h))
  · exact .inl (.inr ⟨o, e _ _ h⟩)
  · exact .inr h
def Tk (H H' : Hp) : Prop := ∀ a, ((∃ xs, H a = some (.tup xs)) ∨ ∃ o u, H a = some (.frz o u)) → H' a = H a
theorem Tk.refl (H : Hp) : Tk H H := fun _ _ => rfl
theorem Tk.trans {H H1 H2 : Hp} (a : Tk H H1) (b : Tk H1 H2) : Tk H H2 := fun c h => by
  have e := a c h
  have h1 : (∃ xs, H1 c = some (.tup xs)) ∨ ∃ o u, H1 c = some (.frz o u) := by
    rw [e]
    exact h
  rw [b c h1, e]
theorem Same.tk {H H' : Hp} (s : Same H H') : Tk H H' := fun a h => by
  rcases h with ⟨xs, h⟩ | ⟨o, u, h⟩ <;> rw [h, s a _ h]
theorem Tk.sqT {K : Fg} {H H' : Hp} {a : Addr} {xs : List V} (e : Tk H H') (h : SqT K H a xs) : SqT K H' a xs := by
  rcases h with (h | ⟨o, h⟩) | h
  · exact .inl (.inl (by rw [e a (.inl ⟨_, h⟩)]; exact h))
  · exact .inl (.inr ⟨o, by rw [e a (.inr ⟨_, _, h⟩)]; exact h⟩)
  · exact .inr h
mutual
theorem Dp.same {K : Fg} {H H' : Hp} (e : Same H H') : ∀ {v : V} {d : PyData}, Dp K H v d → Dp K H' v d
  | _, _, .non => .non
  | _, _, .bl b => .bl b
  | _, _, .int i => .int i
  | _, _, .str x => .str x
  | _, _, .lst s a => .lst (e.seq s) (DpAll.same e a)
  | _, _, .tup s a => .tup (e.sqT s) (DpAll.same e a)
theorem DpAll.same {K : Fg} {H H' : Hp} (e : Same H H') : ∀ {v : List V} {d : List PyData}, DpAll K H v d → DpAll K H' v d
  | _, _, .nil => .nil
  | _, _, .cons a b => .cons (Dp.same e a) (DpAll.same e b)
end
mutual
def tupd : PyData → Bool
  | .none => true
  | .bool _ => true
  | .int _ => true
  | .str _ => true
  | .list _ => false
  | .tuple xs => tupds xs
  | .dict _ => false
def tupds : List PyData → Bool
  | [] => true
  | d :: ds => tupd d && tupds ds
end
mutual
theorem Dp.tk {K : Fg} {H H' : Hp} (e : Tk H H') : ∀ {v : V} {d : PyData}, tupd d = true → Dp K H v d → Dp K H' v d
  | _, _, _, .non => .non
  | _, _, _, .bl b => .bl b
  | _, _, _, .int i => .int i
  | _, _, _, .str x => .str x
  | _, _, h, .lst s a => by unfold tupd at h; cases h
  | _, _, h, .tup s a => .tup (e.sqT s) (DpAll.tk e (by unfold tupd at h; exact h) a)
theorem DpAll.tk {K : Fg} {H H' : Hp} (e : Tk H H') : ∀ {v : List V} {d : List PyData}, tupds d = true → DpAll K H v d → DpAll K H' v d
  | _, _, _, .nil => .nil
  | _, _, h, .cons a b => by
    unfold tupds at h
    obtain ⟨h1, h2⟩ := Bool.and_eq_true_iff.mp h
    exact .cons (Dp.tk e h1 a) (DpAll.tk e h2 b)
end
theorem DpAll.len {K : Fg} {H : Hp} : ∀ {v : List V} {d : List PyData}, DpAll K H v d → v.length = d.length
  | _, _, .nil => rfl
  | _, _, .cons _ b => by rw [List.length_cons, List.length_cons, DpAll.len b]
theorem DpAll.get {K : Fg} {H : Hp} : ∀ {v : List V} {d : List PyData} {i : Nat} {x : PyData}, DpAll K H v d → d[i]? = some x → ∃ y, v[i]? = some y ∧ Dp K H y x
  | _, _, i, _, .nil, h => by simp at h
  | _, _, 0, _, .cons a _, h => by
    simp at h
    subst h
    exact ⟨_, rfl, a⟩
  | _, _, i + 1, _, .cons _ b, h => by
    obtain ⟨y, h1, h2⟩ := DpAll.get (i := i) b (by simpa using h)
    exact ⟨y, by simpa using h1, h2⟩
theorem DpAll.getv {K : Fg} {H : Hp} : ∀ {v : List V} {d : List PyData} {i : Nat} {y : V}, DpAll K H v d → v[i]? = some y → ∃ x, d[i]? = some x ∧ Dp K H y x
  | _, _, i, _, .nil, h => by simp at h
  | _, _, 0, _, .cons a _, h => by
    simp at h
    subst h
    exact ⟨_, rfl, a⟩
  | _, _, i + 1, _, .cons _ b, h => by
    obtain ⟨y, h1, h2⟩ := DpAll.getv (i := i) b (by simpa using h)
    exact ⟨y, by simpa using h1, h2⟩
theorem DpAll.app {K : Fg} {H : Hp} : ∀ {v u : List V} {d e : List PyData}, DpAll K H v d → DpAll K H u e → DpAll K H (v ++ u) (d ++ e)
  | _, _, _, _, .nil, s => s
  | _, _, _, _, .cons a b, s => .cons a (DpAll.app b s)
theorem DpAll.take {K : Fg} {H : Hp} : ∀ {v : List V} {d : List PyData} (n : Nat), DpAll K H v d → DpAll K H (v.take n) (d.take n)
  | _, _, 0, _ => .nil
  | _, _, _ + 1, .nil => .nil
  | _, _, n + 1, .cons a b => .cons a (DpAll.take n b)
theorem DpAll.drop {K : Fg} {H : Hp} : ∀ {v : List V} {d : List PyData} (n : Nat), DpAll K H v d → DpAll K H (v.drop n) (d.drop n)
  | _, _, 0, r => r
  | _, _, _ + 1, .nil => .nil
  | _, _, n + 1, .cons _ b => DpAll.drop n b
theorem Dp.tupI {K : Fg} {H : Hp} {v : V} {ds : List PyData} (h : Dp K H v (.tuple ds)) : ∃ a xs, v = .ref a ∧ SqT K H a xs ∧ DpAll K H xs ds := by
  cases h with
  | tup s a => exact ⟨_, _, rfl, s, a⟩
theorem Dp.lstI {K : Fg} {H : Hp} {v : V} {ds : List PyData} (h : Dp K H v (.list ds)) : ∃ a xs, v = .ref a ∧ SqL K H a xs ∧ DpAll K H xs ds := by
  cases h with
  | lst s a => exact ⟨_, _, rfl, s, a⟩
def tyD : PyData → String
  | .none => "NoneType"
  | .bool _ => "bool"
  | .int _ => "int"
  | .str _ => "str"
  | .list _ => "list"
  | .tuple _ => "tuple"
  | .dict _ => "dict"
theorem Dp.ty {K : Fg} {H : Hp} {v : V} {d : PyData} (h : Dp K H v d) : TyX K H v (.type (tyD d)) := by
  cases h with
  | non => exact .base .non
  | bl b => exact .base (.bl b)
  | int i => exact .base (.int i)
  | str x => exact .base (.str x)
  | lst s a =>
    rcases s with (s | ⟨o, s⟩) | ⟨o, its, n, e, c, _⟩
    · exact .base (.lst s)
    · exact .base (.frz s)
    · exact .kList e c
  | tup s a =>
    rcases s with (s | ⟨o, s⟩) | ⟨o, its, n, e, c, _⟩
    · exact .base (.tup s)
    · exact .fTuple s
    · exact .kTuple e c
def isiT (T t : String) : Bool := T == t || (T == "int" && t == "bool")
def isiB (T : String) (d : PyData) : Bool := isiT T (tyD d)
theorem isi_kit {K : Fg} {T : String} {d : PyData} (hT : T ∈ ["int", "bool", "str", "tuple", "list"]) : PySem.W.kitOne K (.type (tyD d)) (.type T) = some (isiB T d) := by
  have ht : tyD d ∈ ["NoneType", "bool", "int", "str", "list", "tuple", "dict"] := by cases d <;> simp [tyD]
  unfold isiB
  generalize tyD d = t at ht
  have all : ∀ T ∈ ["int", "bool", "str", "tuple", "list"], ∀ t ∈ ["NoneType", "bool", "int", "str", "list", "tuple", "dict"], kitB t T = some (isiT T t) := by decide +kernel
  exact kit_ty (all T hT t ht)
section
variable {X : Cx}
def rIsiD (K : Fg) : List V → Hp → VK → Prop := fun xs H Q => ∃ (x : V) (T : String) (d : PyData), xs = [x, .ty T] ∧ Dp K H x d ∧ T ∈ ["int", "bool", "str", "tuple", "list"] ∧ Q (.bl (isiB T d)) H
theorem call_isiD : CallR X (.builtin "isinstance") (rIsiD X.K) := by
  intro pins s σ H xs us Q I r h
  obtain ⟨x, T, d, e, hd, hT, q⟩ := h
  exact call_isi pins s σ H xs us Q I r ⟨x, .ty T, _, _, _, e, .ty T, hd.ty, isi_kit hT, q⟩
end
end L2
set_option maxHeartbeats 1000000
namespace Z
open PySem PySem.Spec PyProof.Rows L2
def pga (K : Fg) (C : Addr) (f : Str) : Addr := match PySem.W.recIn K (He.ma K C f) "property" with
  | some (.ref g :: _) => g
  | _ => 0
structure DefZ where
  at_ : Fg → Addr
  name : Str
  qual : Str
  st : Stmt
  dfl : List He.Dv := []
def DefZ.see (K : Fg) (a : Addr) : He.FnW := match K.lookup a with
  | some ⟨_, _, .func z, _⟩ => some (z.name, z.qualname, z.params, z.body, z.scope, z.globals, z.closure, z.builtins)
  | _ => none
def DefZ.due (d : DefZ) : He.FnW := some (d.name, d.qual, defArgs d.st, .stmts (defBody d.st), defScope d.st, mainGlobals, [], builtinsNs)
def DefZ.good (K : Fg) (d : DefZ) : Bool := PySem.W.keepIn K (.ref (d.at_ K)) && (match K.lookup (d.at_ K) with
  | some ⟨_, _, .func z, _⟩ => PySem.W.codeIn K z.code d.qual && He.dflB K z.defaults (d.dfl.map (He.Dv.v K))
  | _ => false)
abbrev FunZ (K : Fg) (d : DefZ) : Prop := FunD K d.name d.qual (defArgs d.st) (defBody d.st) (defScope d.st) (d.dfl.map (He.Dv.v K)) [] (d.at_ K) (fdOf K (d.at_ K))
theorem DefZ.fun {K : Fg} {d : DefZ} (e : DefZ.see K (d.at_ K) = d.due) (c : d.good K = true) : FunZ K d := by
  obtain ⟨kp, c2⟩ := He.ba c
  have go : ∃ fd, FunD K d.name d.qual (defArgs d.st) (defBody d.st) (defScope d.st) (d.dfl.map (He.Dv.v K)) [] (d.at_ K) fd := by
    unfold DefZ.see at e
    cases q : K.lookup (d.at_ K) with
    | none =>
      rw [q] at c2
      cases c2
    | some o =>
      obtain ⟨oc, od, dt, osl⟩ := o
      rw [q] at c2 e
      cases dt with
      | func fd =>
        obtain ⟨n1, n2, n3, n4, n5, n6, n7, n8, n9, n10, n11, n12, n13, n14, n15⟩ := fd
        have e2 : (some (n1, n2, n3, n4, n5, n6, n7, n15) : He.FnW) = some (d.name, d.qual, defArgs d.st, .stmts (defBody d.st), defScope d.st, mainGlobals, [], builtinsNs) := e
        simp only [Option.some.injEq, Prod.mk.injEq] at e2
        obtain ⟨h1, h2, h3, h4, h5, h6, h7, h8⟩ := e2
        subst h1 h2 h3 h4 h5 h6 h7 h8
        obtain ⟨k1, k3⟩ := He.ba (show (PySem.W.codeIn K n13 d.qual && He.dflB K n8 (d.dfl.map (He.Dv.v K))) = true from c2)
        exact ⟨_, ⟨oc, od, n8, n9, n10, n11, n12, n13, n14, osl, rfl, q, k1, He.dflB_ok k3, .inl rfl⟩, kp⟩
      | _ => cases c2
  obtain ⟨fd, F⟩ := go
  show FunD K d.name d.qual (defArgs d.st) (defBody d.st) (defScope d.st) (d.dfl.map (He.Dv.v K)) [] (d.at_ K) (fdOf K (d.at_ K))
  rw [fdOf_eq F]
  exact F
abbrev Seen : Type := Bool × List He.FnW
def lookZ (fa : List (Fg → Bool)) (fn : List DefZ) (K : Fg) : Seen := ((fa.all fun f => f K) && fn.all fun d => d.good K, fn.map fun d => DefZ.see K (d.at_ K))
def SaysZ (fa : List (Fg → Bool)) (fn : List DefZ) (K : Fg) : Prop := lookZ fa fn K = (true, fn.map DefZ.due)
theorem SaysZ.fact {fa : List (Fg → Bool)} {fn : List DefZ} {K : Fg} (c : SaysZ fa fn K) (i : Nat) {f : Fg → Bool} (h : fa[i]? = some f) : f K = true := by
  have c1 := (He.ba (show ((fa.all fun f => f K) && fn.all fun d => d.good K) = true from congrArg (fun z : Seen => z.1) c)).1
  exact List.all_eq_true.mp c1 f (List.mem_of_getElem? h)
theorem SaysZ.def_ {fa : List (Fg → Bool)} {fn : List DefZ} {K : Fg} (c : SaysZ fa fn K) (i : Nat) {d : DefZ} (h : fn[i]? = some d) : FunZ K d := by
  have c2 := (He.ba (show ((fa.all fun f => f K) && fn.all fun d => d.good K) = true from congrArg (fun z : Seen => z.1) c)).2
  have e : fn.map (fun d => DefZ.see K (d.at_ K)) = fn.map DefZ.due := congrArg (fun z : Seen => z.2) c
  have e2 : (fn.map fun d => DefZ.see K (d.at_ K))[i]? = (fn.map DefZ.due)[i]? := by rw [e]
  rw [List.getElem?_map, List.getElem?_map, h] at e2
  exact DefZ.fun (Option.some.inj e2) (List.all_eq_true.mp c2 d (List.mem_of_getElem? h))
open He (ga ma)
def fGlo (x : Str) (K : Fg) : Bool := He.Fa.ok K (.glo x)
def fFree (x : Str) (K : Fg) : Bool := He.Fa.ok K (.free x)
def fInt (x : Str) (i : Int) (K : Fg) : Bool := He.Fa.ok K (.int x i)
def fStr (x z : Str) (K : Fg) : Bool := He.Fa.ok K (.str x z)
def fCls (x : Str) (K : Fg) : Bool := He.Fa.ok K (.cls x)
def fNo (x f : Str) (K : Fg) : Bool := He.Fa.ok K (.noat x f)
def fMeth (x m : Str) (K : Fg) : Bool := He.Fa.ok K (.meth x m)
def fMk (x : Str) (K : Fg) : Bool := He.Fa.ok K (.mkr x)
def fTup (x : Str) (vs : List He.Dv) (K : Fg) : Bool := He.tupB K x vs
def fProp (x f : Str) (K : Fg) : Bool := decide (PySem.W.findIn K (.ref (ga K x)) f = some (some (.ref (ma K (ga K x) f)))) && decide (PySem.W.specialIn K (.ref (ma K (ga K x) f)) "__get__" = some (some (.builtin "property.__get__"))) &&
  decide (PySem.W.takesIn K (.ref (ma K (ga K x) f)) = some true) && (match PySem.W.recIn K (ma K (ga K x) f) "property" with
  | some (.ref _ :: _) => true
  | _ => false)
def fSub (x : Str) (K : Fg) : Bool := PySem.W.fnIn K (ma K (ga K x) "__getitem__")
theorem fProp_ok {K : Fg} {x f : Str} (h : fProp x f K = true) : PropOf K (ga K x) f (ma K (ga K x) f) (pga K (ga K x) f) := by
  unfold fProp at h
  simp only [Bool.and_eq_true, decide_eq_true_eq] at h
  obtain ⟨⟨⟨h1, h2⟩, h3⟩, h4⟩ := h
  refine ⟨h1, h2, h3, ?_⟩
  unfold pga
  split at h4
  · rename_i g r e
    rw [e]
    exact ⟨r, rfl⟩
  · cases h4
def dfA (f : Fg → Addr) (i : Nat) (K : Fg) : Addr := match K.lookup (f K) with
  | some ⟨_, _, .func z, _⟩ => (match z.defaults with
    | .ref T => (match K.lookup T with
      | some ⟨_, _, .seq its _, _⟩ => (match its.toList[i]? with
        | some (.ref a) => a
        | _ => 0)
      | _ => 0)
    | _ => 0)
  | _ => 0
theorem calD {K : Fg} {d : DefZ} {ps : List Str} (F : FunZ K d) (n : Nat) (hd : d.dfl.map (He.Dv.v K) ≠ []) (hn : n + 0 = ps.length)
    (h : ∀ (T : Addr) (kV doc pm : Value) (an : Option Addr) (cdv ct : Value) (us its : List Value), us.length = n → its.length = (d.dfl.map (He.Dv.v K)).length →
      ∃ k, bindArgs (PySem.W.fnOf d.name d.qual (defArgs d.st) (defBody d.st) (defScope d.st) (.ref T) kV doc pm an cdv ct) ⟨us, []⟩ = seqItems? (.ref T) >>= k ∧ k (some its.toArray) = pure (ps.zip us)) : Cal K (d.at_ K) ps [] := by
  obtain ⟨ds, hv, hb⟩ := FunD.binds1 (ps := ps) F n (d.dfl.map (He.Dv.v K)).length hd (by rw [Nat.sub_self]; exact hn) (fun T kV doc pm an cdv ct us its h1 h2 => by
    obtain ⟨k, e1, e2⟩ := h T kV doc pm an cdv ct us its h1 h2
    refine ⟨k, e1, ?_⟩
    rw [e2, List.drop_eq_nil_of_le (by omega), List.append_nil])
  rw [List.drop_eq_nil_of_le (Nat.le_refl _)] at hv
  exact ⟨F.kp, ds, hb, hv⟩
def ClsI (K : Fg) (C : Addr) (f : Str) (n : Int) : Prop := ∃ mc u, ClX.CRead K C mc ∧ ClX.CVal K C mc f (.int n) u
def fClsI (x f : Str) (n : Int) (K : Fg) : Bool := PySem.W.readsIn K (ga K x) (.type "type") && decide (PySem.W.specialIn K (.ref (ga K x)) "__getattribute__" = some (some (.builtin "type.__getattribute__"))) && (match PySem.W.findCls K (.ref (ga K x)) (.type "type") f with
  | some (.val (.int m _)) => decide (m = n)
  | _ => false)
theorem fClsI_ok {K : Fg} {x f : Str} {n : Int} (h : fClsI x f n K = true) : ClsI K (ga K x) f n := by
  unfold fClsI at h
  simp only [Bool.and_eq_true, decide_eq_true_eq] at h
  obtain ⟨⟨h1, h2⟩, h3⟩ := h
  split at h3
  · rename_i m t e
    have em : m = n := of_decide_eq_true h3
    subst em
    exact ⟨_, _, ⟨h1, h2⟩, ⟨e, t, rfl⟩⟩
  · cases h3
end Z
set_option maxHeartbeats 1000000
namespace Z
open PySem PySem.Spec PyProof.Rows L2
section
variable {X : Cx} {x : Str} {pos : Pos}
theorem z_int {n : Int} (h : ∃ t, X.mg x = some (.int n t)) (hg : Gl X x := by rfl) (hd : (x == ("__debug__" : Str)) = false := by decide) : PE X (.Name x pos) (tC (.int n)) := by
  obtain ⟨t, h⟩ := h
  exact pe_glob hg h ⟨t, rfl⟩ hd
theorem z_str {n : Str} (h : ∃ t, X.mg x = some (.str n t)) (hg : Gl X x := by rfl) (hd : (x == ("__debug__" : Str)) = false := by decide) : PE X (.Name x pos) (tC (.str n)) := by
  obtain ⟨t, h⟩ := h
  exact pe_glob hg h ⟨t, rfl⟩ hd
theorem z_ref {a : Addr} (h : X.mg x = some (.ref a)) (hg : Gl X x := by rfl) (hd : (x == ("__debug__" : Str)) = false := by decide) : PE X (.Name x pos) (tC (.ref a)) := pe_glob hg h rfl hd
theorem z_ty {n : String} (hm : X.mg x = none) (hv : bootBuiltins x = some (.type n) := by decide +kernel) (hg : Gl X x := by rfl) (hn : x ≠ "__name__" := by decide) (hd : (x == ("__debug__" : Str)) = false := by decide) : PE X (.Name x pos) (tC (.ty n)) := pe_bltn hg hm hv rfl hn hd
theorem zg (i : Nat) (hN : X.N.Nodup) (hi : X.N[i]? = some x := by rfl) (hx : Loc X.env.scope x := by first | exact Or.inl rfl | exact Or.inr rfl) (hf : X.fn x = true ∨ X.env.scope.names.lookup x = some .local := by first | exact Or.inl rfl | exact Or.inr rfl) : PG X (.Name x pos) (gName i) := pg_name hN hi hx hf
theorem zset (i : Nat) {e : Expr} {te : TE} {pos' : Pos} (hN : X.N.Nodup) (he : PE X e te) (hi : X.N[i]? = some x := by rfl) (hx : Loc X.env.scope x := by first | exact Or.inl rfl | exact Or.inr rfl) (hs : swapsWith e (some (.Name x pos')) pos.line X.env = pure false := by rfl)
    (hf : X.fn x = true ∨ X.env.scope.names.lookup x = some .local := by first | exact Or.inl rfl | exact Or.inr rfl) : PS X (.Assign [.Name x pos'] e pos) (tAsg te (gName i)) := ps_set hN hi hx he hs hf
end
section
variable {σ : L2.St} {H : Hp} {Q : VK} {i : Nat} {v x y : V} {ta tb tc : TE} {r r' : R2} {D : Ends}
theorem s_var (h : σ[i]? = some (some v)) (q : Q v H) : tVar i σ H Q := ⟨v, h, q⟩
theorem s_c (q : Q v H) : tC v σ H Q := q
theorem s_op (q : ta σ H fun x H1 => tb σ H1 fun y H2 => r x y H2 Q) : tOp r ta tb σ H Q := q
theorem s_un {r : V → Hp → VK → Prop} (q : ta σ H fun x H1 => r x H1 Q) : tUn r ta σ H Q := q
theorem s_cb {r : List V → Hp → VK → Prop} {t : TA} (q : t σ H fun vs H1 => r vs H1 Q) : tCB r t σ H Q := q
theorem s_nil {Q : List V → Hp → Prop} (q : Q [] H) : tNil σ H Q := q
theorem s_cons {Q : List V → Hp → Prop} {tr : TA} (q : ta σ H fun x H1 => tr σ H1 fun xs H2 => Q (x :: xs) H2) : tCons ta tr σ H Q := q
theorem s_star {K : Fg} {Q : List V → Hp → Prop} {tr : TA} (q : ta σ H fun x H1 => ∃ p xs, x = V.ref p ∧ (SqT K H1 p xs ∨ SqL K H1 p xs) ∧ tr σ H1 fun ys H2 => Q (xs ++ ys) H2) : StX.tStar K ta tr σ H Q := q
theorem s_test {Q : Bool → Hp → Prop} (q : ta σ H fun x H' => ∃ k, x = .bl k ∧ Q k H') : tTest ta σ H Q := q
theorem s_B {Q : Bool → Hp → Prop} (q : ta σ H fun x H' => ∃ k, x = .bl k ∧ Q k H') : tB ta σ H Q := q
theorem s_bl {b : Bool} {R : Bool → Prop} (q : R b) : ∃ k, V.bl b = .bl k ∧ R k := ⟨b, rfl, q⟩
theorem s_and {t u : TT} {Q : Bool → Hp → Prop} (q : t σ H fun c H1 => if c = true then u σ H1 Q else Q false H1) : tAnd t u σ H Q := q
theorem s_or {t u : TT} {Q : Bool → Hp → Prop} (q : t σ H fun c H1 => if c = true then Q true H1 else u σ H1 Q) : tOr t u σ H Q := q
theorem s_not {t : TT} {Q : Bool → Hp → Prop} (q : t σ H fun c H1 => Q (!c) H1) : tNot t σ H Q := q
theorem s_andV (q : ta σ H fun x H1 => ∃ c, x = .bl c ∧ if c = true then tb σ H1 Q else Q (.bl false) H1) : tAndV ta tb σ H Q := q
theorem s_orV (q : ta σ H fun x H1 => ∃ c, x = .bl c ∧ if c = true then Q (.bl true) H1 else tb σ H1 Q) : tOrV ta tb σ H Q := q
theorem s_notV (q : ta σ H fun x H1 => ∃ c, x = .bl c ∧ Q (.bl (!c)) H1) : tNotV ta σ H Q := q
theorem s_if {t : TT} (q : t σ H fun c H1 => if c = true then ta σ H1 Q else tb σ H1 Q) : tIf t ta tb σ H Q := q
theorem s_chain (q : ta σ H fun x H1 => tb σ H1 fun y H2 => r x y H2 fun z H3 => ∃ k, z = .bl k ∧ (if k = true then tc σ H3 fun w' H4 => r' y w' H4 Q else Q (.bl false) H3)) : tChain r r' ta tb tc σ H Q := q
theorem s_tup {t : TA} (q : t σ H fun xs H1 => xs.length ≤ sizeLine ∧ ∀ p, H1 p = none → Q (.ref p) (upd H1 p (.tup xs))) : tTup t σ H Q := q
theorem s_lst {t : TA} (q : t σ H fun xs H1 => xs.length ≤ sizeLine ∧ ∀ p, H1 p = none → Q (.ref p) (upd H1 p (.lst xs))) : tLst t σ H Q := q
theorem s_call {sp : Sp} {dvs : List V} {E : XK} {t : TA} (q : t σ H fun vs H1 => sp (vs ++ dvs) H1 Q E) : tCall sp dvs E t σ H Q := q
variable {ea ec ed : L2.St → Hp → Prop} {eb : VK}
theorem s_seq {t u : TS} (q : t (.mk (u (.mk ea eb ec ed)) eb ec ed) σ H) : tSeq t u (.mk ea eb ec ed) σ H := q
theorem s_asg {g : TG} (q : ta σ H fun x H1 => g x σ H1 ea) : tAsg ta g (.mk ea eb ec ed) σ H := q
theorem s_gname {P : L2.St → Hp → Prop} (q : P (σ.set i (some v)) H) : gName i v σ H P := q
theorem s_ret (q : ta σ H eb) : tRet ta (.mk ea eb ec ed) σ H := q
theorem s_retN (q : eb .non H) : tRetN (.mk ea eb ec ed) σ H := q
theorem s_ifS {t : TT} {u w : TS} (q : t σ H fun b H1 => if b = true then u D σ H1 else w D σ H1) : tIfS t u w D σ H := q
theorem s_drop (q : ta σ H fun _ H1 => ea σ H1) : tDrop ta (.mk ea eb ec ed) σ H := q
theorem s_next (q : ea σ H) : tNext (.mk ea eb ec ed) σ H := q
theorem s_cont (q : ed σ H) : tCont (.mk ea eb ec ed) σ H := q
theorem s_break (q : ec σ H) : tBreak (.mk ea eb ec ed) σ H := q
theorem s_par {j : Nat} {t : TA} (q : t σ H fun vs H1 => ∃ v w, vs = [v, w] ∧ ea ((σ.set i (some v)).set j (some w)) H1) : tPar i j t (.mk ea eb ec ed) σ H := q
theorem s_par2 {R : V → V → Prop} {a b : V} (q : R a b) : ∃ v w, ([a, b] : List V) = [v, w] ∧ R v w := ⟨a, b, rfl, q⟩
theorem s_I0 {g : Int → Int → V} {a b : Int} (q : Q (g a b) H) : rI0 g (.int a) (.int b) H Q := ⟨a, b, rfl, rfl, q⟩
theorem s_I {C : Int → Int → Prop} {g : Int → Int → V} {a b : Int} (c : C a b) (q : Q (g a b) H) : rI C g (.int a) (.int b) H Q := ⟨a, b, rfl, rfl, c, q⟩
theorem s_U {g : Int → V} {a : Int} (q : Q (g a) H) : rU g (.int a) H Q := ⟨a, rfl, q⟩
theorem s_eq (h : scal x y = true) (q : Q (.bl (decide (x = y))) H) : rEq x y H Q := ⟨h, q⟩
theorem s_ne (h : scal x y = true) (q : Q (.bl (!decide (x = y))) H) : rNe x y H Q := ⟨h, q⟩
theorem s_isi {K : Fg} {T : String} {d : PyData} (h : Dp K H x d) (hT : T ∈ ["int", "bool", "str", "tuple", "list"]) (q : Q (.bl (isiB T d)) H) : rIsiD K [x, .ty T] H Q := ⟨x, T, d, rfl, h, hT, q⟩
theorem s_ixT {K : Fg} {p : Addr} {xs : List V} {a : Int} (h : SqT K H p xs) (e : atI xs a = some v) (q : Q v H) : rIxT K (.ref p) (.int a) H Q := ⟨p, xs, a, v, rfl, rfl, h, e, q⟩
theorem s_ixL {K : Fg} {p : Addr} {xs : List V} {a : Int} (h : SqL K H p xs) (e : atI xs a = some v) (q : Q v H) : rIxL K (.ref p) (.int a) H Q := ⟨p, xs, a, v, rfl, rfl, h, e, q⟩
theorem s_in {K : Fg} {neg : Bool} {p : Addr} {xs : List V} (h : SqL K H p xs ∨ SqT K H p xs) (fx : flatV x = true) (fs : xs.all flatV = true) (q : Q (.bl (if neg then !inV x xs else inV x xs)) H) : rIn K neg x (.ref p) H Q := ⟨p, xs, rfl, h, fx, fs, q⟩
end
theorem ite_t {b : Bool} {A B : Prop} (h : b = true) (q : A) : if b = true then A else B := by
  rw [if_pos h]
  exact q
theorem ite_f {b : Bool} {A B : Prop} (h : b = false) (q : B) : if b = true then A else B := by
  subst h
  exact q
theorem ite_b {b : Bool} {A B : Prop} (h : b = true → A) (q : b = false → B) : if b = true then A else B := by
  cases b
  · exact q rfl
  · exact h rfl
theorem tk_upd {H : Hp} {D : Addr} {xs : List V} {o : HO} (h : H D = some (.lst xs)) : Tk H (upd H D o) := fun a ha => by
  rw [upd_ne]
  rintro rfl
  rcases ha with ⟨ys, ha⟩ | ⟨o', u, ha⟩ <;> rw [h] at ha <;> cases ha
def keptD (keep : Nat → Bool) (d : Nat → PyData) (n : Nat) : List PyData := ((List.range n).filter keep).map d
theorem keptD_yes {keep : Nat → Bool} {d : Nat → PyData} {n : Nat} (h : keep n = true) : keptD keep d (n + 1) = keptD keep d n ++ [d n] := by
  unfold keptD
  rw [List.range_succ, List.filter_append, List.map_append]
  simp [h]
theorem keptD_no {keep : Nat → Bool} {d : Nat → PyData} {n : Nat} (h : keep n = false) : keptD keep d (n + 1) = keptD keep d n := by
  unfold keptD
  rw [List.range_succ, List.filter_append, List.map_append]
  simp [h]
theorem keptD_len {keep : Nat → Bool} {d : Nat → PyData} {n : Nat} : (keptD keep d n).length ≤ n := by
  unfold keptD
  rw [List.length_map]
  exact Nat.le_trans (List.length_filter_le _ _) (by rw [List.length_range]; exact Nat.le_refl _)
theorem keptD_tupds {keep : Nat → Bool} {d : Nat → PyData} (h : ∀ i, tupd (d i) = true) : ∀ n, tupds (keptD keep d n) = true
  | 0 => rfl
  | n + 1 => by
    have ap : ∀ (l : List PyData) (x : PyData), tupds l = true → tupd x = true → tupds (l ++ [x]) = true := by
      intro l
      induction l with
      | nil =>
        intro x _ hx
        show (tupd x && true) = true
        rw [hx]
        rfl
      | cons y l ih =>
        intro x hl hx
        obtain ⟨h1, h2⟩ := Bool.and_eq_true_iff.mp (show (tupd y && tupds l) = true from hl)
        show (tupd y && tupds (l ++ [x])) = true
        rw [h1, ih x h2 hx]
        rfl
    cases e : keep n with
    | true =>
      rw [keptD_yes e]
      exact ap _ _ (keptD_tupds h n) (h n)
    | false =>
      rw [keptD_no e]
      exact keptD_tupds h n
theorem lc_dat {K : Fg} {J : It} {n : Nat} {G : Hp → Prop} {Y : Nat → Hp → V → Hp → Prop} {g : TG} {tt : TT} {te : TE} {vs : List Nat} {σ : L2.St} {H1 : Hp} {D : Addr} {Qd : Hp → Prop} (w : Walk J n G Y) (keep : Nat → Bool) (d : Nat → PyData) (hD : H1 D = none) (hn : n ≤ 40000)
    (hdt : ∀ i, tupd (d i) = true) (hG : ∀ H, Same H1 H → G H) (hY : ∀ i H x H', Y i H x H' → Same H H')
    (hs : ∀ (i : Nat) (x : V) (H H' : Hp) (Yes : VK) (No : Hp → Prop), i < n → Same H1 H → Y i H x H' → (keep i = true → ∀ y H4, Same H' H4 → Dp K H4 y (d i) → Yes y H4) → (keep i = false → ∀ H3, Same H' H3 → No H3) →
      g x (wipe σ vs) H' fun σ2 H2 => wipe σ2 vs = wipe σ vs ∧ tt σ2 H2 fun b H3 => if b = true then te σ2 H3 Yes else No H3)
    (hd : ∀ H' ys, Same H1 H' → H' D = some (.lst ys) → DpAll K H' ys (keptD keep d n) → Qd H') :
    ∃ W : Nat → Nat → Hp → Prop, (∃ m, W 0 m (upd H1 D (.lst []))) ∧ ∀ i m H, W i m H →
      (J.stop i H ∧ Qd H) ∨ (J.go i H ∧ ∃ Nx : Hp → Prop, (∀ H', Nx H' → ∃ m', m' < m ∧ W (i + 1) m' H') ∧ ∀ x H', J.yld i H x H' → g x (wipe σ vs) H' fun σ2 H2 => wipe σ2 vs = wipe σ vs ∧ tt σ2 H2 fun b H3 =>
        if b = true then te σ2 H3 fun y H4 => ∃ acc, H4 D = some (.lst acc) ∧ acc.length < sizeLine ∧ Nx (upd H4 D (.lst (acc ++ [y]))) else Nx H3) := by
  refine lc_it w (fun i H => Same H1 H ∧ ∃ ys, H D = some (.lst ys) ∧ DpAll K H ys (keptD keep d i)) ⟨Same.new hD, [], upd_same, .nil⟩ (fun i H _ p => hG H p.1) (fun i x H H' hi p y => ?_) (fun H p => ?_)
  · obtain ⟨s1, ys, e1, a1⟩ := p
    have s2 := hY i H x H' y
    refine hs i x H H' _ _ hi s1 y (fun hk y4 H4 s4 d4 => ⟨ys, s4 _ _ (s2 _ _ e1), ?_, ?_, ?_⟩) fun hk H3 s3 => ⟨(s1.trans s2).trans s3, ys, s3 _ _ (s2 _ _ e1), ?_⟩
    · rw [a1.len]
      exact Nat.lt_of_le_of_lt keptD_len (Nat.lt_of_lt_of_le (Nat.lt_of_lt_of_le hi hn) (by decide))
    · exact fun a o h => by
        rw [upd_ne (ne_of_none h hD)]
        exact s4 _ _ (s2 _ _ (s1 _ _ h))
    · refine ⟨_, upd_same, ?_⟩
      have t := tk_upd (o := .lst (ys ++ [y4])) (s4 _ _ (s2 _ _ e1))
      rw [keptD_yes hk]
      exact ((a1.same (s2.trans s4)).tk t (keptD_tupds hdt i)).app (.cons (d4.tk t (hdt i)) .nil)
    · rw [keptD_no hk]
      exact a1.same (s2.trans s3)
  · obtain ⟨s1, ys, e1, a1⟩ := p
    exact hd H ys s1 e1 a1
theorem dp_bools {K : Fg} {H : Hp} : ∀ {ys : List V} {bs : List Bool}, DpAll K H ys (bs.map PyData.bool) → ys = bs.map V.bl
  | _, [], .nil => rfl
  | _, b :: bs, .cons a r => by
    cases a
    rw [dp_bools r]
    rfl
theorem dp_ints {K : Fg} {H : Hp} : ∀ {ys : List V} {bs : List Int}, DpAll K H ys (bs.map PyData.int) → ys = bs.map V.int
  | _, [], .nil => rfl
  | _, b :: bs, .cons a r => by
    cases a
    rw [dp_ints r]
    rfl
theorem dp_strs {K : Fg} {H : Hp} : ∀ {ys : List V} {bs : List Str}, DpAll K H ys (bs.map PyData.str) → ys = bs.map V.str
  | _, [], .nil => rfl
  | _, b :: bs, .cons a r => by
    cases a
    rw [dp_strs r]
    rfl
def pAt {α : Type} (l : List α) (p : α → Bool) (i : Nat) : Bool := (l[i]?.map p).getD false
def dAt {α : Type} (l : List α) (f : α → PyData) (i : Nat) : PyData := (l[i]?.map f).getD .none
theorem pAt_eq {α : Type} {l : List α} {p : α → Bool} {i : Nat} {x : α} (h : l[i]? = some x) : pAt l p i = p x := by
  unfold pAt
  rw [h]
  rfl
theorem dAt_eq {α : Type} {l : List α} {f : α → PyData} {i : Nat} {x : α} (h : l[i]? = some x) : dAt l f i = f x := by
  unfold dAt
  rw [h]
  rfl
theorem dAt_tupd {α : Type} {l : List α} {f : α → PyData} (h : ∀ x ∈ l, tupd (f x) = true) (i : Nat) : tupd (dAt l f i) = true := by
  unfold dAt
  cases e : l[i]? with
  | none => rfl
  | some x => exact h x (List.mem_of_getElem? e)
theorem keptD_list {α : Type} (l : List α) (p : α → Bool) (f : α → PyData) : keptD (pAt l p) (dAt l f) l.length = (l.filter p).map f := by
  have go : ∀ n, n ≤ l.length → keptD (pAt l p) (dAt l f) n = ((l.take n).filter p).map f := by
    intro n
    induction n with
    | zero => intro _; simp [keptD]
    | succ n ih =>
      intro hn
      have hx : l[n]? = some l[n] := List.getElem?_eq_getElem (by omega)
      have et : l.take (n + 1) = l.take n ++ [l[n]] := by rw [List.take_add_one, hx]; rfl
      cases e : pAt l p n with
      | true =>
        rw [keptD_yes e, ih (by omega), dAt_eq hx, et, List.filter_append, List.map_append]
        rw [pAt_eq hx] at e
        simp [e]
      | false =>
        rw [keptD_no e, ih (by omega), et, List.filter_append, List.map_append]
        rw [pAt_eq hx] at e
        simp [e]
  rw [go l.length (Nat.le_refl _), List.take_length]
theorem keptD_map {α : Type} (l : List α) (f : α → PyData) : keptD (fun _ => true) (dAt l f) l.length = l.map f := by
  have e := keptD_list l (fun _ => true) f
  have e2 : keptD (pAt l fun _ => true) (dAt l f) l.length = keptD (fun _ => true) (dAt l f) l.length := by
    unfold keptD
    congr 1
    apply List.filter_congr
    intro i hi
    have hi' : i < l.length := List.mem_range.mp hi
    rw [pAt_eq (List.getElem?_eq_getElem hi')]
  rw [← e2, e, List.filter_eq_self.mpr (fun _ _ => rfl)]
theorem map_bool {α : Type} (l : List α) (f : α → Bool) : (l.map fun c => PyData.bool (f c)) = (l.map f).map PyData.bool := by rw [List.map_map]; rfl
theorem map_str {α : Type} (l : List α) (f : α → Str) : (l.map fun c => PyData.str (f c)) = (l.map f).map PyData.str := by rw [List.map_map]; rfl
theorem s_yes {σ : L2.St} {H : Hp} {Q : Bool → Hp → Prop} (q : Q true H) : tYes σ H Q := q
theorem s_all {K : Fg} {H : Hp} {Q : VK} {a : Addr} {bs : List Bool} (h : SqL K H a (bs.map V.bl)) (q : Q (.bl (bs.all id)) H) : rAll K [.ref a] H Q := ⟨a, bs, rfl, h, q⟩
theorem s_lenT {K : Fg} {H : Hp} {p : Addr} {xs : List V} {R : Nat → Prop} (h : SqT K H p xs) (q : R xs.length) : ∃ x n, ([V.ref p] : List V) = [x] ∧ LenV K x H n ∧ R n := ⟨_, _, rfl, .inr ⟨xs, h, rfl⟩, q⟩
theorem s_lenL {K : Fg} {H : Hp} {p : Addr} {xs : List V} {R : Nat → Prop} (h : SqL K H p xs) (q : R xs.length) : ∃ x n, ([V.ref p] : List V) = [x] ∧ LenV K x H n ∧ R n := ⟨_, _, rfl, .inl ⟨xs, h, rfl⟩, q⟩
theorem s_lenS {K : Fg} {H : Hp} {z : Str} {R : Nat → Prop} (h : z.length ≤ sizeLine) (q : R z.length) : ∃ x n, ([V.str z] : List V) = [x] ∧ LenV K x H n ∧ R n := ⟨_, _, rfl, ⟨h, rfl⟩, q⟩
mutual
def short : PyData → Bool
  | .none => true
  | .bool _ => true
  | .int _ => true
  | .str z => decide (z.cps.size ≤ 40000)
  | .list xs => shorts xs
  | .tuple xs => shorts xs
  | .dict _ => true
def shorts : List PyData → Bool
  | [] => true
  | d :: ds => short d && shorts ds
end
theorem shorts_at : ∀ {ds : List PyData} {d : PyData}, shorts ds = true → d ∈ ds → short d = true
  | [], _, _, h => by simp at h
  | x :: ds, d, h, hm => by
    obtain ⟨h1, h2⟩ := Bool.and_eq_true_iff.mp (show (short x && shorts ds) = true from h)
    rcases List.mem_cons.mp hm with rfl | hm
    · exact h1
    · exact shorts_at h2 hm
theorem short_str {z : Str} (h : short (.str z) = true) : z.cps.size ≤ 40000 := by
  unfold short at h
  exact of_decide_eq_true h
theorem short_tup {ds : List PyData} (h : short (.tuple ds) = true) : shorts ds = true := by
  unfold short at h
  exact h
theorem bnt {b : Bool} (h : (!b) = true) : b = false := by
  cases b
  · rfl
  · cases h
theorem bnf {b : Bool} (h : (!b) = false) : b = true := by
  cases b
  · cases h
  · rfl
theorem newS {H H2 : Hp} {p : Addr} {o : HO} (hp : H p = none) (e : upd H p o = H2) : Same H H2 := by
  subst e
  exact Same.new hp
theorem newE {H H2 : Hp} {p : Addr} {o : HO} (e : upd H p o = H2) : H2 p = some o := by
  subst e
  exact upd_same
section
variable {K : Fg} {σ : L2.St} {H : Hp} {P : L2.St → Hp → Prop} {a : Addr} {xs r : List V} {v y : V} {Q : VK} {kvs : List (Key × V)} {k : Key}
theorem s_gtup {n : Nat} {t : TGs} (h : SqT K H a xs) (hl : xs.length = n) (q : t xs σ H P) : gTup K n t (.ref a) σ H P := ⟨a, xs, rfl, h, hl, q⟩
theorem s_gcons {t : TG} {u : TGs} (q : t v σ H fun σ' H' => u r σ' H' P) : gCons t u (v :: r) σ H P := ⟨v, r, rfl, q⟩
theorem s_gnil (q : P σ H) : gNil [] σ H P := ⟨rfl, q⟩
theorem s_din {ty td : TE} (q : ty σ H fun y H1 => td σ H1 fun x H2 => ∃ a o, x = .ref a ∧ DGet H2 a y o ∧ Q (.bl o.isSome) H2) : tDIn ty td σ H Q := q
theorem s_dnin {ty td : TE} (q : ty σ H fun y H1 => td σ H1 fun x H2 => ∃ a o, x = .ref a ∧ DGet H2 a y o ∧ Q (.bl (!o.isSome)) H2) : tDNotIn ty td σ H Q := q
theorem s_dget {ty td : TE} (q : td σ H fun x H1 => ty σ H1 fun y H2 => ∃ a v, x = .ref a ∧ DGet H2 a y (some v) ∧ Q v H2) : tDGet td ty σ H Q := q
theorem s_dS {z : Str} {R : Option V → Prop} (h : H a = some (.dK kvs)) (q : R (valV kvs (.inr z))) : ∃ b o, V.ref a = .ref b ∧ DGet H b (.str z) o ∧ R o := ⟨a, _, rfl, DGet.k (k := Sum.inr z) h, q⟩
theorem s_dgS {z : Str} {R : V → Prop} (h : H a = some (.dK kvs)) (e : valV kvs (.inr z) = some v) (q : R v) : ∃ b u, V.ref a = .ref b ∧ DGet H b (.str z) (some u) ∧ R u := ⟨a, v, rfl, by rw [← e]; exact DGet.k (k := Sum.inr z) h, q⟩
end
section
variable {K : Fg} {σ : L2.St} {H : Hp} {Q : VK} {ta tv : TE} {t : TA} {r : V → List V → Hp → VK → Prop} {l : Addr} {xs : List V} {x y v : V} {f m : Str} {C dx : Addr} {fs : List (Str × V)} {ea ec ed : L2.St → Hp → Prop} {eb : VK}
theorem s_bm {T : String} (q : ta σ H fun x H1 => tyV K T x H1 ∧ t σ H1 fun xs H2 => r x xs H2 Q) : tBM K T r ta t σ H Q := q
theorem s_bm0 {T : String} (q : ta σ H fun x H1 => tyV K T x H1 ∧ r x [] H1 Q) : tBM0 K T r ta σ H Q := q
theorem s_tyL {R : Prop} (h : H l = some (.lst xs)) (q : R) : tyV K "list" (.ref l) H ∧ R := ⟨Or.inl ⟨rfl, xs, SqL.of h⟩, q⟩
theorem s_append (h : H l = some (.lst xs)) (hl : xs.length < sizeLine) (q : Q .non (upd H l (.lst (xs ++ [y])))) : rAppend (.ref l) [y] H Q := ⟨l, xs, y, rfl, rfl, h, hl, q⟩
theorem s_fldg (q : ta σ H fun x H1 => ∃ a C dx fs v, x = .ref a ∧ H1 a = some (.ins C dx fs) ∧ Cls K C ∧ NoAttr K C f ∧ fs.lookup f = some v ∧ Q v H1) : tFld K ta f σ H Q := q
theorem s_fldat {a : Addr} {R : V → Prop} (h : H a = some (.ins C dx fs)) (c : Cls K C) (n : NoAttr K C f) (e : fs.lookup f = some v) (q : R v) : ∃ b C dx fs v, V.ref a = .ref b ∧ H b = some (.ins C dx fs) ∧ Cls K C ∧ NoAttr K C f ∧ fs.lookup f = some v ∧ R v := ⟨a, C, dx, fs, v, rfl, h, c, n, e, q⟩
theorem s_meth {sp : Sp} {dvs : List V} {E : XK} (q : ta σ H fun x H1 => ∃ a dx fs, x = .ref a ∧ H1 a = some (.ins C dx fs) ∧ fs.lookup m = none ∧ t σ H1 fun vs H2 => sp (x :: (vs ++ dvs)) H2 Q E) : tMeth C m sp dvs E ta t σ H Q := q
theorem s_methat {a : Addr} {R : Prop} (h : H a = some (.ins C dx fs)) (e : fs.lookup m = none) (q : R) : ∃ b dx fs, V.ref a = .ref b ∧ H b = some (.ins C dx fs) ∧ fs.lookup m = none ∧ R := ⟨a, dx, fs, rfl, h, e, q⟩
theorem s_prop {sp : Sp} {E : XK} (q : ta σ H fun x H1 => ∃ a dx fs, x = .ref a ∧ H1 a = some (.ins C dx fs) ∧ sp [.ref a] H1 Q E) : tProp C sp [] E ta σ H Q := q
theorem s_propat {a : Addr} {R : Addr → Prop} (h : H a = some (.ins C dx fs)) (q : R a) : ∃ b dx fs, V.ref a = .ref b ∧ H b = some (.ins C dx fs) ∧ R b := ⟨a, dx, fs, rfl, h, q⟩
end
end Z
set_option maxHeartbeats 1000000
namespace Z
open PySem PySem.Spec PyProof.Rows L2
open AutoSeq1 (wpAny_loadPart')
theorem enum_new1 {v : Value} {o : Obj} {G : Heap → Prop} (B : Begins v o G) :
    Meets (Builtin.«enumerate.__new__» ⟨[.type "enumerate", v], []⟩) (fun _ R s => G s.heap ∧
      R (.ok (.ret (.ref (s.heap.push o).objs.size))) { s with heap := (s.heap.push o).push { cls := .type "enumerate", data := .fields #[.none, .bool false, .ref s.heap.objs.size, rawInt 0, .none, .none] } }) :=
  .of_wp fun prog w A R s h => by
    obtain ⟨hp, g, d, tk, os⟩ := s
    obtain ⟨h1, h⟩ := h
    have su := sub_enumerate
    have q1 : ∀ {A' : Around} {E : Value → Shared → Prop} {Q : Value → Shared → Prop}, Q (.ref hp.objs.size) ⟨hp.push o, g, d, tk, os⟩ → wpAny (model prog w) A' (pyIter v) Q E ⟨hp, g, d, tk, os⟩ :=
      fun q => B.iter prog w _ _ ⟨hp, g, d, tk, os⟩ _ h1 q
    wp_walk using q1
    refine wpAny_stack_any fun st => wpAny_pure ?_
    split
    · rename_i c _ _ _ _ _
      cases (c == Value.type "enumerate") <;> (wp_walk using q1; exact ⟨_, rfl, h⟩)
    · wp_walk using q1
      exact ⟨_, rfl, h⟩
theorem call_enumT {prog : Program} {w : World} {A : Around} {E : Value → Shared → Prop} {s : Shared} {v : Value} {o : Obj} {G : Heap → Prop} {Q : Value → Shared → Prop} (B : Begins v o G) (h1 : G s.heap)
    (h : ∀ h', IsEnum h' (s.heap.objs.size + 1) s.heap.objs.size 0 .none → h'.get? s.heap.objs.size = some o → (∀ b o, s.heap.get? b = some o → h'.get? b = some o) → Q (.ref (s.heap.objs.size + 1)) { s with heap := h' }) :
    wpAny (model prog w) A (call (.type "enumerate") [v]) Q E s := by
  refine callType_new F.called_enumerate (by decide) (F.typeCall_enumerate_1 _) (F.newCall_enumerate_1 _) (fun obj => F.args_object_init_2 obj _) F.entry_enumerate_new (enum_new1 B) ⟨h1, ?_⟩
  have hz : (s.heap.push o).objs.size = s.heap.objs.size + 1 := Heap.size_push ..
  show _ ∧ _
  rw [hz]
  have he : IsEnum ((s.heap.push o).push { cls := .type "enumerate", data := .fields #[.none, .bool false, .ref s.heap.objs.size, rawInt 0, .none, .none] }) (s.heap.objs.size + 1) s.heap.objs.size 0 .none := by
    have z := Heap.get?_push_size (s.heap.push o) (o := { cls := .type "enumerate", data := .fields #[.none, .bool false, .ref s.heap.objs.size, rawInt 0, .none, .none] }) rfl
    rw [hz] at z
    exact z
  exact ⟨⟨_, he, rfl⟩, h _ he (Heap.get?_push_of_some _ (Heap.get?_push_size _ B.free)) fun b o x => Heap.get?_push_of_some _ (Heap.get?_push_of_some _ x)⟩
def IteT (K : Fg) (a : Addr) : It :=
  ⟨fun i H => ∃ (xs : List V) (x : V), SqT K H a xs ∧ xs[i]? = some x, fun i H v H' => ∃ T x, v = .ref T ∧ H T = none ∧ H' = upd H T (.tup [.int (i : Nat), x]) ∧ ∀ xs, SqT K H a xs → xs[i]? = some x, fun i H => ∃ xs : List V, SqT K H a xs ∧ xs.length ≤ i⟩
theorem turn_enumT {P : Program} {w : World} {K : Fg} {elts : List Expr} {kk : Nat} {tpos : Pos} (a e it : Addr) (hai : a ≠ it) (hae : a ≠ e) :
    Turn P w K (.Tuple elts kk tpos) (IteT K a) [e, it] e (fun i h => (∃ old, IsEnum h e it ((i : Nat) : Int) old) ∧ h.IsTupleIter it a i ∧ e ≠ it) where
  mem := by simp
  obj := fun i h st b hb => by
    obtain ⟨⟨old, he⟩, ⟨o, ho, hc, hd⟩, _⟩ := st
    have e' : b = e ∨ b = it := by simpa using hb
    rcases e' with z | z
    · rw [z]
      exact ⟨_, he, fun v q => nomatch q⟩
    · rw [z]
      exact ⟨o, ho, fun v q => by rw [hd] at q; cases q⟩
  keep := fun i h h' st k => let ⟨⟨old, he⟩, hi, hne⟩ := st; ⟨⟨old, k e (by simp) _ he⟩, hi.at fun o q => k it (by simp) o q, hne⟩
  item := by
    intro X hP hw hK hc i pins s σ H E I hf st hg
    subst hP hw hK
    obtain ⟨⟨old, he⟩, hit, hne⟩ := st
    obtain ⟨xs, x, hq, hx⟩ := hg
    obtain ⟨its, rv, p, hz⟩ := I.tuple hq
    obtain ⟨u, hu, ru⟩ := rv.get hx
    have hel : e < s.heap.objs.size := Heap.lt_size he
    have hil : it < s.heap.objs.size := by
      obtain ⟨_, q, _⟩ := hit
      exact Heap.lt_size q
    have hlt : i < its.toArray.size := by
      have := (List.getElem?_eq_some_iff.mp hu).1
      simpa using this
    have Dr := Draws.tuple (prog := X.prog) (w := X.w) (A := X.A.in1) (I.ok.hd hc) it a hai its.toArray
    refine wpAny_pyNext_enum_itemD Dr he ⟨hit, p⟩ hlt hne (by simp [hne, Ne.symm hae]) fun x' h' tk hx' ho hst' hT hsz hk => ?_
    have ex : x' = u := by
      have hx2 : its[i]? = some x' := by simpa using hx'
      rw [hu] at hx2
      exact (Option.some.inj hx2).symm
    subst ex
    refine ⟨_, rfl, wpAny_letOwnedTupleGo_enum (s := { s with heap := h', toks := tk + 1 }) ho fun h'' he' sb => ?_⟩
    have hT2 : h''.get? s.heap.objs.size = some { cls := .type "tuple", data := .seq #[.int i tk, x'] } := (sb.2 _ (Nat.ne_of_gt hel)).trans hT
    have new : ObjOk X.prog X.w (upd H s.heap.objs.size (.tup [.int (i : Nat), x])) h'' s.heap.objs.size (.tup [.int (i : Nat), x]) :=
      ⟨by show 2 ≤ sizeLine; decide, [.int i tk, x'], .cons ⟨_, rfl⟩ (.cons ru .nil), ⟨_, hT2, rfl, _, rfl⟩⟩
    have I1 : Inv X pins σ (upd H s.heap.objs.size (.tup [.int (i : Nat), x])) { s with heap := h'', toks := tk + 1 } :=
      I.turnedNew (ch := [e, it]) (fun b ob hb q => (sb.2 b (fun z => hb (by simp [z]))).trans (hk b ob (fun z => hb (by simp [z])) (fun z => hb (by simp [z])) q)) hf (Nat.le_refl _) new
    refine ⟨.ref s.heap.objs.size, _, I1, rfl, ⟨_, x, rfl, I.hok.fresh (Nat.le_refl _), rfl, fun ys hy => by rw [I.tuple_inj hy hq]; exact hx⟩, ⟨⟨x', ?_⟩, hst'.1.at fun o q => (sb.2 it (Ne.symm hne)).trans q, hne⟩, fun b hb => ?_⟩
    · have e1 : ((i + 1 : Nat) : Int) = (i : Int) + 1 := by omega
      rw [e1]
      exact he'
    · have hb' : b < s.heap.objs.size := by
        have e' : b = e ∨ b = it := by simpa using hb
        rcases e' with z | z
        · rw [z]; exact hel
        · rw [z]; exact hil
      rw [upd_ne (Nat.ne_of_lt hb')]
      exact (hf b hb).1
  done := by
    intro X hP hw hK hc i pins s σ H E I hf st hg
    subst hP hw hK
    obtain ⟨⟨old, he⟩, hit, hne⟩ := st
    obtain ⟨xs, hq, hx⟩ := hg
    obtain ⟨its, rv, p, hz⟩ := I.tuple hq
    obtain ⟨f0, f1, f2, f3, f4, f5⟩ := hf it (by simp)
    have hl := rv.length
    have Dr := Draws.tuple (prog := X.prog) (w := X.w) (A := X.A.in1) (I.ok.hd hc) it a hai its.toArray
    have T : s.TypeIs (.ref e) "enumerate" := ⟨_, he, rfl⟩
    unfold pyNext
    refine wpAny_bind (wpAny_attempt (wpAny_callSpecial?_slot (name := Str.ofString "__next__") T F.slot_enumerate_next (wpAny_call_entry F.slot_enumerate_next T F.entry_enumerate_next ?_ (F.args_enumerate_next_1 _))))
    show wpAny _ _ (field (.ref e) 2 >>= _) _ _ _
    refine wpAny_bind (wpAny_field he rfl (x := .ref it) rfl ?_)
    refine wpAny_bind (wpAny_nextOf_tuple_end (I.ok.hd hc) hit p (by simp; omega) fun h' x he' hx' => ?_)
    obtain ⟨o, ho, hcc⟩ := hx'
    refine wpAny_bind (wpAny_isInstance (T := "StopIteration") (b := true) ⟨o, ho, hcc⟩ isSubtype_stop ?_)
    exact wpAny_pure ⟨rfl, I.turned (t' := s.toks) (fun b o hb q => he' b o hb q) f0 f1 f3 f4 f5⟩
  self := fun A i s Q E st h => let ⟨⟨_, he⟩, _⟩ := st; wpAny_pyIter_enum he h
def iEnumT (K : Fg) (ta : TA) : TI := fun σ H R => ta σ H fun vs H1 => ∃ a xs, vs = [.ref a] ∧ SqT K H1 a xs ∧ R (IteT K a) H1
theorem pi_enumT {X : Cx} {e : Expr} {ta : TA} {p pos tpos : Pos} {elts : List Expr} {kk : Nat} (hg : Gl X "enumerate") (hm : X.mg "enumerate" = none) (ha : PA X [e] ta) (hs : starEach [e] X.env = [(false, eval e X.env)] := by rfl) :
    PI X (.Tuple elts kk tpos) (.Call (.Name "enumerate" p) [e] [] pos) (iEnumT X.K ta) := by
  refine ⟨fun pins s σ H R I h => ?_⟩
  refine Call_ (ld_blt I hg hm boot_enumerate (PyProof.Rows.callWith_type1 (thn (ha.run pos pins s σ H _ I h) fun us s1 ⟨vs, H1, I1, r1, q1⟩ => ?_) hs rfl))
  obtain ⟨a, xs, ex, hq, q⟩ := q1
  subst ex
  cases r1 with
  | cons r rr =>
    cases rr
    cases r
    obtain ⟨its, rv, p', hz⟩ := I1.tuple hq
    have la : a < s1.heap.objs.size := p'.lt
    refine call_enumT (begins_tuple a its.toArray) p' fun h' he hit hk => wpAny_pyIter_enum he ?_
    have I2 : Inv X pins σ H1 { s1 with heap := h' } := I1.kept (t' := s1.toks) hk
    refine ⟨s1.heap.objs.size + 1, [s1.heap.objs.size + 1, s1.heap.objs.size], _, _, H1, rfl, I2, turn_enumT a (s1.heap.objs.size + 1) s1.heap.objs.size (Nat.ne_of_lt la) (Nat.ne_of_lt (Nat.lt_succ_of_lt la)), ⟨⟨.none, he⟩, ⟨_, hit, rfl, rfl⟩, Nat.succ_ne_self _⟩, fun b hb => ?_, q⟩
    have e' : b = s1.heap.objs.size + 1 ∨ b = s1.heap.objs.size := by simpa using hb
    have hle : s1.heap.objs.size ≤ b := by
      rcases e' with z | z
      · rw [z]; exact Nat.le_add_right _ _
      · rw [z]; exact Nat.le_refl _
    exact I1.fpOk hle (I1.hok.fresh hle)
theorem walk_enumT {K : Fg} {a : Addr} {xs : List V} : Walk (IteT K a) xs.length (fun H => SqT K H a xs) (YPair (fun i => some (.int (i : Nat))) (fun i => xs[i]?)) := by
  refine ⟨fun i _ hi q => ⟨xs, xs[i], q, by simp [hi]⟩, fun _ q => ⟨xs, q, Nat.le_refl _⟩, fun i H v H' _ q y => ?_⟩
  obtain ⟨T, x, h1, h2, h3, h4⟩ := y
  exact ⟨T, .int (i : Nat), x, h1, h2, h3, rfl, h4 xs q⟩
end Z
set_option maxHeartbeats 1000000
namespace Z
open PySem PySem.Spec PyProof.Rows L2
section
variable {X : Cx}
def rEq0 (K : Fg) (neg : Bool) : R2 := fun x y H Q => ∃ a b xs, x = .ref a ∧ y = .ref b ∧ ((SqL K H a xs ∧ SqL K H b []) ∨ (SqT K H a xs ∧ SqT K H b [])) ∧ Q (.bl (if neg then !xs.isEmpty else xs.isEmpty)) H
theorem vals_nil {us : List Value} (r : Vals [] us) : us = [] := by cases r; rfl
theorem op_eq0 (hu : X.A.units + 64 < cLine) : OpR X (compareOp .Eq) (rEq0 X.K false) := by
  intro pins s σ H x y v u Q I rx ry h
  obtain ⟨a, b, xs, rfl, rfl, hq, q⟩ := h
  obtain rfl : v = Value.ref a := rx
  obtain rfl : u = Value.ref b := ry
  rcases hq with ⟨ha, hb⟩ | ⟨ha, hb⟩
  · obtain ⟨its, r1, p1, _⟩ := I.list ha
    obtain ⟨its2, r2, p2, _⟩ := I.list hb
    cases vals_nil r2
    cases xs with
    | nil =>
      cases vals_nil r1
      exact SeqAt.eq_listAt (e := fun _ => true) p1.isList p2.isList rfl (by omega) (fun j h1 _ => absurd h1 (Nat.not_lt_zero _)) ⟨.bl true, H, I, rfl, q⟩
    | cons z zs =>
      cases r1
      exact SeqAt.eq_list_lengthsAt p1.isList p2.isList (by simp) (by omega) ⟨.bl false, H, I, rfl, q⟩
  · obtain ⟨its, r1, p1, _⟩ := I.tuple ha
    obtain ⟨its2, r2, p2, _⟩ := I.tuple hb
    cases vals_nil r2
    cases xs with
    | nil =>
      cases vals_nil r1
      exact SeqAt.eq_tupleAt (e := fun _ => true) p1 p2 (by omega) (fun j h1 _ => absurd h1 (Nat.not_lt_zero _)) ⟨.bl true, H, I, rfl, q⟩
    | cons z zs =>
      cases r1
      refine SeqAt.eq_tupleAt (e := fun _ => true) p1 p2 (by omega) (fun j _ h1 => absurd h1 (Nat.not_lt_zero _)) ⟨.bl false, H, I, ?_, q⟩
      show Value.bool _ = Value.bool false
      simp
theorem op_ne0 (hu : X.A.units + 64 < cLine) : OpR X (compareOp .NotEq) (rEq0 X.K true) := by
  intro pins s σ H x y v u Q I rx ry h
  obtain ⟨a, b, xs, rfl, rfl, hq, q⟩ := h
  obtain rfl : v = Value.ref a := rx
  obtain rfl : u = Value.ref b := ry
  rcases hq with ⟨ha, hb⟩ | ⟨ha, hb⟩
  · obtain ⟨its, r1, p1, _⟩ := I.list ha
    obtain ⟨its2, r2, p2, _⟩ := I.list hb
    cases vals_nil r2
    cases xs with
    | nil =>
      cases vals_nil r1
      exact SeqAt.RcNeAt.lists (e := fun _ => true) p1.isList p2.isList rfl (by omega) (fun j h1 _ => absurd h1 (Nat.not_lt_zero _)) _ _ _ _ ⟨.bl false, H, I, rfl, q⟩
    | cons z zs =>
      cases r1
      exact SeqAt.RcNeAt.lists_lengths p1.isList p2.isList (by simp) (by omega) _ _ _ _ ⟨.bl true, H, I, rfl, q⟩
  · obtain ⟨its, r1, p1, _⟩ := I.tuple ha
    obtain ⟨its2, r2, p2, _⟩ := I.tuple hb
    cases vals_nil r2
    cases xs with
    | nil =>
      cases vals_nil r1
      exact SeqAt.RcNeAt.tuples (e := fun _ => true) p1 p2 (by omega) (fun j h1 _ => absurd h1 (Nat.not_lt_zero _)) _ _ _ _ ⟨.bl false, H, I, rfl, q⟩
    | cons z zs =>
      cases r1
      refine SeqAt.RcNeAt.tuples (e := fun _ => true) p1 p2 (by omega) (fun j _ h1 => absurd h1 (Nat.not_lt_zero _)) _ _ _ _ ⟨.bl true, H, I, ?_, q⟩
      show Value.bool _ = Value.bool true
      simp
def rSortedDat (K : Fg) : List V → Hp → VK → Prop := fun vs H Q => ∃ (a : Addr) (xs : List V) (ds : List PyData), vs = [.ref a] ∧ SqL K H a xs ∧ DpAll K H xs ds ∧ PySem.W.AllAlike ds ∧ PySem.W.Sortable ds ∧ (∀ d ∈ ds, d.depth ≤ 60) ∧
  ∀ ys p, DpAll K H ys (ds.mergeSort (PySem.W.dataLe false id)) → H p = none → Q (.ref p) (upd H p (.lst ys))
theorem each_of {K : Fg} {H : Hp} : ∀ {xs : List V} {us : List Value} {ds : List PyData}, Vals xs us → DpAll K H xs ds → PySem.W.EachIs (fun v d => ∃ y, RelV y v ∧ Dp K H y d) us ds
  | _, _, _, .nil, .nil => .nil
  | _, _, _, .cons r t, .cons d e => .cons ⟨_, r, d⟩ (each_of t e)
theorem each_back {K : Fg} {H : Hp} : ∀ {us : List Value} {ds : List PyData}, PySem.W.EachIs (fun v d => ∃ y, RelV y v ∧ Dp K H y d) us ds → ∃ ys, Vals ys us ∧ DpAll K H ys ds
  | _, _, .nil => ⟨[], .nil, .nil⟩
  | _, _, .cons ⟨y, r, d⟩ e => by
    obtain ⟨ys, h1, h2⟩ := each_back e
    exact ⟨y :: ys, .cons r h1, .cons d h2⟩
theorem cr_sortedDat (hu : X.A.units + 64 < cLine) : CallR X (.builtin "sorted") (rSortedDat X.K) := by
  intro pins s σ H vs us Q I r h
  obtain ⟨a, xs, ds, rfl, hs, hd, hal, hk, hdp, q⟩ := h
  obtain ⟨its, rv, hl, hz⟩ := I.list hs
  rw [Vals.ref1 r]
  have e := each_of rv hd
  have er : PySem.W.EachIs (fun v b => ∃ as, Reads s.heap v (id b) as) its ds := e.mono fun v d ⟨y, r1, d1⟩ => Dp.reads I d y v d1 r1
  have hid : ds.map id = ds := List.map_id ds
  refine PySem.W.sorted_data (enc := id) (R := fun v d => ∃ y, RelV y v ∧ Dp X.K H y d) hl.isList e er (by rw [hid]; exact hal) (by rw [hid]; exact hk) (by rw [← hd.len]; exact hz) (fun b hb => ?_) fun out hlen he => ?_
  · have := hdp b hb
    show X.A.units + 2 + b.depth < cLine
    omega
  · obtain ⟨ys, r2, d2⟩ := each_back he
    obtain ⟨ep, he'⟩ := PyProof.Rows.sortedAll_at s.heap its out.toArray
    refine ⟨.ref _, upd H (s.heap.objs.size + 1) (.lst ys), I.laid (t' := s.toks) (fun _ _ => PyProof.Rows.sortedAll_old) (Nat.le_succ _) ⟨?_, out, ep, r2, he'⟩, rfl, q ys _ d2 (I.hok.fresh (Nat.le_succ _))⟩
    rw [d2.len, List.length_mergeSort, ← hd.len]
    exact hz
end
end Z
set_option maxHeartbeats 1000000
namespace Z
open PySem PySem.Spec PyProof.Rows L2
section
variable {X : Cx} (K : Fg) {e : Expr} {es : List Expr} {ta : TE} {t : TA} {tg : TGs} {f : Str} {T : String} {r : V → List V → Hp → VK → Prop} {n : Nat} {x y : Expr}
theorem ix_tupK (hK : X.K = K := by rfl) : IxR X (rIxT K) := by subst hK; exact ix_tup
theorem ix_listK (hK : X.K = K := by rfl) : IxR X (rIxL K) := by subst hK; exact ix_list
theorem op_in_seqK (hK : X.K = K := by rfl) : OpR X (compareOp .In) (rIn K false) := by subst hK; exact op_in_seq
theorem op_notIn_seqK (hK : X.K = K := by rfl) : OpR X (compareOp .NotIn) (rIn K true) := by subst hK; exact op_notIn_seq
theorem call_isiDK (hK : X.K = K := by rfl) : CallR X (.builtin "isinstance") (rIsiD K) := by subst hK; exact call_isiD
theorem call_lenK (hK : X.K = K := by rfl) : CallR X (.builtin "len") (fun xs H Q => ∃ x n, xs = [x] ∧ LenV K x H n ∧ Q (.int n) H) := by subst hK; exact call_len
theorem cr_allK (hc : X.calm = true) (hK : X.K = K := by rfl) : CallR X (.builtin "all") (rAll K) := by subst hK; exact cr_all hc
theorem call_tuple_ofK (hK : X.K = K := by rfl) : CallR X (.type "tuple") (fun xs H Q => ∃ p ys, xs = [.ref p] ∧ ((SqL K H p ys ∧ ∀ l, H l = none → Q (.ref l) (upd H l (.tup ys))) ∨ (SqT K H p ys ∧ Q (.ref p) H))) := by subst hK; exact call_tuple_of
theorem op_eq0K (hu : X.A.units + 64 < cLine) (hK : X.K = K := by rfl) : OpR X (compareOp .Eq) (rEq0 K false) := by subst hK; exact op_eq0 hu
theorem op_ne0K (hu : X.A.units + 64 < cLine) (hK : X.K = K := by rfl) : OpR X (compareOp .NotEq) (rEq0 K true) := by subst hK; exact op_ne0 hu
theorem op_eqDK (hu : X.A.units + 64 < cLine) (hK : X.K = K := by rfl) : OpR X (compareOp .Eq) (rEqD K) := by subst hK; exact op_eqD hu
theorem cr_sortedDatK (hu : X.A.units + 64 < cLine) (hK : X.K = K := by rfl) : CallR X (.builtin "sorted") (rSortedDat K) := by subst hK; exact cr_sortedDat hu
theorem sl_listK (hK : X.K = K := by rfl) : SlR X (rSlL K) := by subst hK; exact sl_list
theorem sl_tupAK (hK : X.K = K := by rfl) : SlR X (rSlA K) := by subst hK; exact sl_tupA
theorem op_catAK (hK : X.K = K := by rfl) : OpR X (binaryOp .Add) (rCatA K) := by subst hK; exact op_catA
theorem kFld (h : PE X e (tFld X.K ta f)) (hK : X.K = K := by rfl) : PE X e (tFld K ta f) := by subst hK; exact h
theorem kBM (h : PE X e (tBM X.K T r ta t)) (hK : X.K = K := by rfl) : PE X e (tBM K T r ta t) := by subst hK; exact h
theorem kGT (h : PG X e (gTup X.K n tg)) (hK : X.K = K := by rfl) : PG X e (gTup K n tg) := by subst hK; exact h
theorem kIT (h : PI X x y (iTup X.K ta)) (hK : X.K = K := by rfl) : PI X x y (iTup K ta) := by subst hK; exact h
theorem kIL (h : PI X x y (iList X.K ta)) (hK : X.K = K := by rfl) : PI X x y (iList K ta) := by subst hK; exact h
theorem kIET (h : PI X x y (iEnumT X.K t)) (hK : X.K = K := by rfl) : PI X x y (iEnumT K t) := by subst hK; exact h
end
theorem _root_.L2.Room.units5 {k : Nat} {A : Around} (r : Room k A) : A.units + 65 < cLine := by have := r.un; omega
end Z
set_option maxHeartbeats 1000000
namespace Z
open PySem PySem.Spec PyProof.Rows L2
end Z
set_option maxHeartbeats 1000000
namespace Z
open PySem PySem.Spec PyProof.Rows L2
def adR (n : Nat) : List Addr := cStatics :: mainGlobals :: List.range n
def seeR (n : Nat) (fa : List (Fg → Bool)) (fn : List DefZ) (g : Addr → Option Obj) : Seen := lookZ fa fn (He.frG g (adR n))
def hookR (n : Nat) (fa : List (Fg → Bool)) (fn : List DefZ) : PySem.W.Hook where
  α := Seen
  obs := fun s => seeR n fa fn s.heap.get?
  val := fun _ => (true, fn.map DefZ.due)
  says := fun _ h => ∃ K : Fg, K.In h ∧ SaysZ fa fn K
  of := fun _ _ e => ⟨_, He.frG_in, e⟩
  keeps := fun _ _ _ ⟨K, hK, c⟩ k => ⟨K, PySem.W.Frag.In.keeps hK k, c⟩
theorem seeR_eq {n : Nat} {fa : List (Fg → Bool)} {fn : List DefZ} {g : Addr → Option Obj} {s : Shared} (h : ∀ a, g a = s.heap.get? a) : seeR n fa fn g = (hookR n fa fn).obs s := by
  obtain rfl : g = s.heap.get? := funext h
  rfl
end Z
set_option maxHeartbeats 1000000
namespace Z
open PySem PySem.Spec PyProof.Rows L2
end Z
namespace Z
open PySem PySem.Spec PyProof.Rows L2
end Z
set_option maxHeartbeats 1000000
namespace Z
open PySem PySem.Spec PyProof.Rows L2
end Z
set_option maxHeartbeats 1000000
namespace Z
open PySem PySem.Spec PyProof.Rows L2
end Z
set_option maxHeartbeats 1000000
namespace Z
open PySem PySem.Spec PyProof.Rows L2
structure IsO (K : Fg) (C : Addr) : Prop where
  a : PySem.W.findIn K (.ref C) "__class__" = some (some (.builtin "object.__class__"))
  n : PySem.W.specialIn K (.builtin "object.__class__") "__get__" = some (some (.builtin "getset_descriptor.__get__"))
  t : PySem.W.takesIn K (.builtin "object.__class__") = some true
  m : PySem.W.mroIn K C (.type "object") = some true
  k : PySem.W.kitOne K (.ref C) (.ref C) = some true
def fIsO (x : Str) (K : Fg) : Bool := decide (PySem.W.findIn K (.ref (He.ga K x)) "__class__" = some (some (.builtin "object.__class__"))) && (decide (PySem.W.specialIn K (.builtin "object.__class__") "__get__" = some (some (.builtin "getset_descriptor.__get__"))) && (decide (PySem.W.takesIn K (.builtin "object.__class__") = some true) && (decide (PySem.W.mroIn K (He.ga K x) (.type "object") = some true) && decide (PySem.W.kitOne K (.ref (He.ga K x)) (.ref (He.ga K x)) = some true))))
theorem fIsO_ok {K : Fg} {x : Str} (h : fIsO x K = true) : IsO K (He.ga K x) := by
  unfold fIsO at h
  simp only [Bool.and_eq_true, decide_eq_true_eq] at h
  obtain ⟨h1, h2, h3, h4, h5⟩ := h
  exact ⟨h1, h2, h3, h4, h5⟩
end Z
set_option maxHeartbeats 1000000
namespace Z
open PySem PySem.Spec PyProof.Rows L2
end Z
set_option maxHeartbeats 3200000
namespace Z
open PySem PySem.Spec PyProof.Rows L2 PySem.Froz
structure TxR (P : Program) (w : World) (D : SD) (l : List Str) : Prop where
  ok : TxOk P w D l
  nd : l.Nodup
  ris : Ris D.2.2.place.toList
  led : w.params.followText "set-order" = true ∨ D.2.2.led = true
def setNew (w : World) : Obj := { cls := .type "set", dict := none, data := .set #[] 0 (.fresh 0 0 (!w.params.followText "set-order")) }
theorem TxR.zero {P : Program} {w : World} : TxR P w (#[], 0, .fresh 0 0 (!w.params.followText "set-order")) [] := by
  refine ⟨TxOk.nil rfl, List.nodup_nil, List.Pairwise.nil, ?_⟩
  show _ ∨ (!w.params.followText "set-order") = true
  cases w.params.followText "set-order"
  · exact .inr rfl
  · exact .inl rfl
theorem off_place (t : SetTable) : (if t.plain = true then { t with plain := false } else t).place = t.place ∧ (if t.plain = true then { t with plain := false } else t).led = t.led := by
  by_cases c : t.plain = true
  · rw [if_pos c]; exact ⟨rfl, rfl⟩
  · rw [if_neg c]; exact ⟨rfl, rfl⟩
theorem tail_place (ep : Nat) (es : Array (Int × Value)) (t : SetTable) (b : Bool) (r : Ris t.place.toList) : Ris (tailTx ep es t b).2.2.place.toList ∧ (tailTx ep es t b).2.2.led = t.led := by
  unfold tailTx
  split
  · exact ⟨relayAll_ris _ _ _, relayAll_led _ _ _⟩
  · exact ⟨r, rfl⟩
theorem TxR.add {P : Program} {w : World} {D : SD} {l : List Str} {k : Str} (F : TxR P w D l) (u : Tok) (hk : k ∉ l) : TxR P w (addTx (hashStr w k) (.str k u) D) (k :: l) := by
  have r1 := layNew_ris D.2.2 D.1 (hashStr w k) (.str k u) F.ris
  have l1 := layNew_led D.2.2 D.1 (hashStr w k) (.str k u)
  obtain ⟨p1, p2⟩ := off_place (layNew D.2.2 D.1 (hashStr w k) (.str k u)).2.1
  obtain ⟨q1, q2⟩ := tail_place D.2.1 (layNew D.2.2 D.1 (hashStr w k) (.str k u)).1 _ (layNew D.2.2 D.1 (hashStr w k) (.str k u)).2.2.1 (by rw [p1]; exact r1)
  exact ⟨add_ok u F.ok, List.nodup_cons.mpr ⟨hk, F.nd⟩, q1, F.led.imp id fun z => q2.trans (p2.trans (l1.trans z))⟩
section
variable {P : Program} {w : World} {A : Around} {E : Value → Shared → Prop} {s : Shared}
theorem old_x {a : Addr} {T : String} {D : SD} {l : List Str} {k : Str} {u : Tok} {Q : Bool → Shared → Prop} (ho : s.heap.get? a = some (sObj T D)) (F : TxOk P w D l) (hk : k ∈ l) (hb : l.length < scanBound) (h : Q false s) :
    wpAny (model P w) A (setAddHashed a (.str k u) (hashStr w k)) Q E s := by
  obtain ⟨e, he, hi⟩ := (F.mem k).mp hk
  have key : (strKind P w).is k (.str k u) = true := is_str k u
  have small : D.1.size < scanBound := by rw [F.sz]; exact hb
  unfold setAddHashed setAddHashedIn
  refine wpAny_holding (wpAny_bind (wpAny_setState_of (es := D.1) (t := D.2.2) ho rfl F.fit ?_))
  dsimp only
  rw [byScan_of rfl small F.el]
  simp only [↓reduceIte]
  unfold setAddByScan
  refine wpAny_bind (wpAny_bind (wpAny_rule (wpAny_bind (wpAny_setScan_of (knd := strKind P w) (k := k) key ho rfl F.fit F.el ?_))))
  cases hf : List.findIdx? (fun e => (strKind P w).is k e.2) D.1.toList with
  | none => exact absurd hi (by rw [List.findIdx?_eq_none_iff.mp hf e he]; exact Bool.false_ne_true)
  | some j =>
    dsimp only
    exact wpAny_pure (wpAny_pure h)
theorem add_any {a : Addr} {D : SD} {l : List Str} {k : Str} {u : Tok} {Q : Bool → Shared → Prop} (ho : s.heap.get? a = some (sObj "set" D)) (F : TxR P w D l) (hb : l.length + 1 < scanBound)
    (h : ∀ h' D' l' b, TxR P w D' l' → h'.get? a = some (sObj "set" D') → (∀ x o, x ≠ a → s.heap.get? x = some o → h'.get? x = some o) → l'.length ≤ l.length + 1 → (∀ z, z ∈ l' ↔ z ∈ l ∨ z = k) → Q b { s with heap := h' }) :
    wpAny (model P w) A (setAddHashed a (.str k u) (hashStr w k)) Q E s := by
  by_cases hk : k ∈ l
  · refine old_x ho F.ok hk (by omega) (h s.heap D l false F ho (fun _ _ _ e => e) (by omega) fun z => ⟨.inl, fun q => q.elim id fun e => by rw [e]; exact hk⟩)
  · refine add_x ho F.ok hk hb (h _ _ (k :: l) true (F.add u hk) (get_upd _ ho rfl) (fun x o hx e => ?_) (by simp) fun z => ?_)
    · rw [Heap.get?_update_ne _ _ _ _ hx]
      exact e
    · rw [List.mem_cons]
      exact Or.comm
def Upto (P : Program) (w : World) (h : Heap) (S : Addr) (xs : List Str) (i : Nat) : Prop := ∃ D l, h.get? S = some (sObj "set" D) ∧ TxR P w D l ∧ l.length ≤ i ∧ ∀ z, z ∈ l ↔ z ∈ xs.take i
theorem loop_x {I S : Addr} {fp wr : List Addr} {G : Array GenState → Array GenState → Prop} {n : Nat} {Pv : Nat → Value → Prop} {St : Nat → Shared → Prop} {R : Result → Shared → Prop} (W : WalksS P w A.in1 I fp wr G n Pv St) (out : S ∉ fp) {xs : List Str} (small : n + 1 < scanBound)
    (val : ∀ i v, Pv i v → ∃ z t, xs[i]? = some z ∧ v = .str z t) (todo : Nat) : ∀ (i : Nat) (s : Shared), i + todo = n → St i s → Upto P w s.heap S xs i → (∀ s', Moved (S :: wr) G s s' → Upto P w s'.heap S xs n → R (.ok (.ret .none)) s') →
      codeAny (model P w) A (.builtin "set.update.loop" ⟨[.ref S, .ref I], []⟩) R s := by
  have nw : S ∉ wr := fun q => out (W.sub _ q)
  induction todo with
  | zero =>
    rintro i s hi st ⟨D, l, hS, r⟩ fin
    have e : i = n := by omega
    subst e
    refine codeAny_builtin F.entry_set_update_loop (by rw [Around.under_plainId F.plain_set_update_loop _]; show wpAny _ A.in1 (pyNext (.ref I) >>= _) _ _ s; refine wpAny_bind (W.done s _ _ st fun s' mv => ?_); show wpAny _ A.in1 (ret Value.none) _ _ s'; exact wpAny_pure (fin s' (mv.mono fun b hb => List.mem_cons_of_mem _ hb) ⟨D, l, mv.heap S _ nw hS, r⟩))
  | succ todo ih =>
    rintro i s hi st ⟨D, l, hS, tx, hl, hm⟩ fin
    refine codeAny_builtin F.entry_set_update_loop ?go
    rw [Around.under_plainId F.plain_set_update_loop _, show Builtin.«set.update.loop» ⟨[.ref S, .ref I], []⟩ = (pyNext (.ref I) >>= _) from rfl]
    refine wpAny_bind (W.item i s _ _ (by omega) st fun v s' pv st' mv => ?_)
    obtain ⟨z, t, hz, rfl⟩ := val i v pv
    have hS' := mv.heap S _ nw hS
    show wpAny _ A.in1 (holding [Value.str z t] (setAdd S (.str z t)) >>= _) _ _ s'
    unfold setAdd
    refine wpAny_bind (wpAny_holding (wpAny_holding (wpAny_bind ((strKind P w).pyHash (k := z) (is_str z t) ?_))))
    refine add_any (s := { s' with toks := s'.toks + 1 }) hS' tx (by omega) fun h' D' l' b F' ho' kp hl' hm' => ?_
    refine wpAny_pure ⟨plainId_quiet F.plain_set_update_loop _, ih (i + 1) _ (by omega) (W.frame _ s' _ _ st' (Nat.le_succ _) fun b hb o e => kp b o (fun q => out (by rw [← q]; exact hb)) e) ⟨D', l', ho', F', by omega, fun y => ?_⟩ fun s'' mv2 up => fin s'' (Moved.trans W.gtrans ((mv.mono fun b hb => List.mem_cons_of_mem _ hb).then_heap (Nat.le_succ _) fun b o hb e => kp b o (fun q => hb (by rw [q]; exact List.mem_cons_self)) e) mv2) up⟩
    rw [hm' y, hm y, List.take_add_one, hz]
    simp [List.mem_append]
end
end Z
set_option maxHeartbeats 3200000
namespace Z
open PySem PySem.Spec PyProof.Rows L2 PySem.Froz
def SetX (P : Program) (w : World) (a : Addr) (l : List Str) : HO := .ext fun h => ∃ D, h.get? a = some (sObj "set" D) ∧ TxR P w D l
theorem setX_new {P : Program} {w : World} {H : Hp} {h : Heap} {a : Addr} {D : SD} {l : List Str} (h1 : h.get? a = some (sObj "set" D)) (h2 : TxR P w D l) : ObjOk P w H h a (SetX P w a l) :=
  ⟨⟨D, h1, h2⟩, ⟨_, h1⟩, fun _ _ ⟨D', p1, p2⟩ k => ⟨D', k _ p1, p2⟩⟩
section
variable {X : Cx}
theorem setX_get {pins : List (Addr × Obj)} {σ : L2.St} {H : Hp} {s : Shared} {a : Addr} {l : List Str} (I : Inv X pins σ H s) (ha : H a = some (SetX X.prog X.w a l)) : ∃ D, s.heap.get? a = some (sObj "set" D) ∧ TxR X.prog X.w D l := (I.hok a _ ha).1
theorem each_vals : ∀ {us : List Value} {zs : List Str}, PySem.W.EachIs (fun v z => ∃ u, v = Value.str z u) us zs → Vals (zs.map V.str) us
  | _, _, .nil => .nil
  | _, _, .cons ⟨u, e⟩ t => .cons ⟨u, e⟩ (each_vals t)
def strOf : Value → Str
  | .str z _ => z
  | _ => Str.empty
end
theorem perm_all : ∀ {l m : List Str}, l.Nodup → (∀ x ∈ l, x ∈ m) → m.length ≤ l.length → m.Perm l
  | [], m, _, _, h => by
    rw [List.eq_nil_of_length_eq_zero (Nat.le_zero.mp h)]
  | x :: l, m, hn, hs, h => by
    obtain ⟨h1, h2⟩ := List.nodup_cons.mp hn
    have hx := hs x (by simp)
    have hp := List.perm_cons_erase hx
    have hl := hp.length_eq
    rw [List.length_cons] at hl h
    refine hp.trans (List.Perm.cons x (perm_all h2 (fun y hy => ?_) (by omega)))
    have hyx : y ≠ x := fun e => h1 (e ▸ hy)
    rcases List.mem_cons.mp (hp.mem_iff.mp (hs y (by simp [hy]))) with q | q
    · exact absurd q hyx
    · exact q
theorem each_str0 {h : Heap} {b : Addr} : ∀ {vs : List Value}, (∀ v ∈ vs, ∃ z u, v = Value.str z u) → PySem.W.EachIs (fun v z => ∃ u, v = Value.str z u) vs (vs.map strOf) ∧ PySem.W.EachIs (fun v z => ∃ as, Reads h v (PyData.str z) as ∧ b ∉ as) vs (vs.map strOf)
  | [], _ => ⟨.nil, .nil⟩
  | v :: vs, hv => by
    obtain ⟨z, u, rfl⟩ := hv _ List.mem_cons_self
    obtain ⟨h1, h2⟩ := each_str0 (h := h) (b := b) (vs := vs) fun v q => hv v (List.mem_cons_of_mem _ q)
    exact ⟨.cons ⟨u, rfl⟩ h1, .cons ⟨_, .str z u, by simp⟩ h2⟩
end Z
set_option maxHeartbeats 1000000
namespace Z
open PySem PySem.Spec PyProof.Rows L2
end Z
set_option maxHeartbeats 1000000
namespace Z
open PySem PySem.Spec PyProof.Rows L2
end Z
set_option maxHeartbeats 1000000
namespace Z
open PySem PySem.Spec PyProof.Rows L2
end Z
set_option maxHeartbeats 1000000
namespace Z
open PySem PySem.Spec PyProof.Rows L2
open He (ga ma)
end Z
set_option maxHeartbeats 1000000
namespace Z
open PySem PySem.Spec PyProof.Rows L2
open He (ga ma)
end Z
set_option maxHeartbeats 1000000
namespace Z
open PySem PySem.Spec PyProof.Rows L2
open PySem.W (minD AlikeAll min_list_data)
open He (ga ma)
def dII (p : Int × Int) : PyData := .tuple [.int p.1, .int p.2]
def ltII (p q : Int × Int) : Bool := decide (p.1 < q.1 ∨ (p.1 = q.1 ∧ p.2 < q.2))
def minII (x : Int × Int) (r : List (Int × Int)) : Int × Int := r.foldl (fun b y => if ltII y b = true then y else b) x
theorem minD_ii (x : Int × Int) (r : List (Int × Int)) : minD (dII x) (r.map dII) = dII (minII x r) := by
  unfold minD minII
  induction r generalizing x with
  | nil => rfl
  | cons y r ih =>
    rw [List.map_cons, List.foldl_cons, List.foldl_cons, ← ih]
    have : PySem.W.dataLt (dII y) (dII x) = ltII y x := PySem.W.dataLt_ii _ _ _ _
    rw [this]
    cases ltII y x <;> rfl
theorem alike_ii (x y : Int × Int) : PySem.W.alike (dII x) (dII y) = true := by
  simp [dII, PySem.W.alike, PySem.W.alikeAll]
def rMinII (K : Fg) : List V → Hp → VK → Prop := fun vs H Q => ∃ (a : Addr) (xs : List V) (x : Int × Int) (r : List (Int × Int)), vs = [.ref a] ∧ SqL K H a xs ∧ DpAll K H xs ((x :: r).map dII) ∧ ∀ v, Dp K H v (dII (minII x r)) → Q v H
section
variable {X : Cx}
theorem reads_of {pins : List (Addr × Obj)} {σ : L2.St} {H : Hp} {s : Shared} (I : Inv X pins σ H s) : ∀ {xs : List V} {us : List Value} {ds : List PyData}, Vals xs us → DpAll X.K H xs ds → ∃ as, ReadsAll s.heap us ds as
  | _, _, _, .nil, .nil => ⟨[], .nil⟩
  | _, _, _, .cons r t, .cons d e => by
    obtain ⟨as, h1⟩ := Dp.reads I _ _ _ d r
    obtain ⟨bs, h2⟩ := reads_of I t e
    exact ⟨_, .cons h1 h2⟩
theorem cr_minII (hc : X.calm = true) (hu : X.A.units + 64 < cLine) : CallR X (.builtin "min") (rMinII X.K) := by
  intro pins s σ H vs us Q I r h
  obtain ⟨a, xs, x, l, rfl, hs, hd, q⟩ := h
  obtain ⟨its, rv, hl, hz⟩ := I.list hs
  rw [Vals.ref1 r]
  obtain ⟨as, hr⟩ := reads_of I rv hd
  rw [List.map_cons] at hr
  have al : AlikeAll (dII x :: l.map dII) := by
    rw [← List.map_cons]
    refine ⟨fun p hp y hy => ?_, fun p hp => ?_⟩
    · obtain ⟨p, _, rfl⟩ := List.mem_map.mp hp
      obtain ⟨y, _, rfl⟩ := List.mem_map.mp hy
      exact alike_ii p y
    · obtain ⟨p, _, rfl⟩ := List.mem_map.mp hp
      intro e
      cases e
  have dp : PyData.depthAll (dII x :: l.map dII) ≤ 60 := by
    rw [← List.map_cons]
    generalize x :: l = m
    induction m with
    | nil => exact Nat.zero_le _
    | cons y m ih =>
      show max (dII y).depth _ ≤ 60
      exact Nat.max_le.mpr ⟨of_decide_eq_true rfl, ih⟩
  refine min_list_data (I.ok.hd hc) hl.isList hr al (by omega) fun i v h' tk bs hi hr2 hk => ?_
  rw [minD_ii] at hr2
  have hi' : its[i]? = some v := by simpa using hi
  obtain ⟨y, hy, ry⟩ : ∃ y, xs[i]? = some y ∧ RelV y v := by
    have hlen := rv.length
    have hi1 := (List.getElem?_eq_some_iff.mp hi').1
    obtain ⟨u, h1, h2⟩ := rv.get (List.getElem?_eq_getElem (show i < xs.length by omega))
    rw [hi'] at h1
    cases h1
    exact ⟨_, List.getElem?_eq_getElem _, h2⟩
  obtain ⟨d, hd1, hd2⟩ := hd.getv hy
  rw [List.getElem?_map] at hd1
  obtain ⟨p, hp, rfl⟩ := Option.map_eq_some_iff.mp hd1
  have I2 : Inv X pins σ H { s with heap := h', toks := tk } := I.kept hk
  obtain ⟨cs, hr3⟩ := Dp.reads I2 _ _ _ hd2 ry
  have e := PySem.W.alike_unique _ _ _ _ _ (alike_ii p (minII x l)) hr3 hr2
  rw [e] at hd2
  exact ⟨y, H, I2, ry, q y hd2⟩
theorem cr_minIIK {K : Fg} (hc : X.calm = true) (hu : X.A.units + 64 < cLine) (hK : X.K = K := by rfl) : CallR X (.builtin "min") (rMinII K) := by
  subst hK
  exact cr_minII hc hu
def tCallI (C : Addr) (sp : Sp) (dvs : List V) (E : XK) (tf : TE) (t : TA) : TE := fun σ H Q => tf σ H fun y H1 => ∃ a, y = V.ref a ∧ t σ H1 fun vs H2 => (∃ dx fs, H2 a = some (.ins C dx fs)) ∧ sp ((V.ref a :: vs) ++ dvs) H2 Q E
variable {k : Nat} {f C : Addr} {ps : List Str} {sp : Sp} {dvs : List V} {pos : Pos} {e fe : Expr} {es : List Expr} {tf : TE} {t : TA} {E : XK}
end
theorem s_callI {σ : L2.St} {H : Hp} {Q : VK} {C : Addr} {sp : Sp} {dvs : List V} {E : XK} {tf : TE} {t : TA} (q : tf σ H fun y H1 => ∃ a, y = V.ref a ∧ t σ H1 fun vs H2 => (∃ dx fs, H2 a = some (.ins C dx fs)) ∧ sp ((V.ref a :: vs) ++ dvs) H2 Q E) : tCallI C sp dvs E tf t σ H Q := q
end Z
set_option maxHeartbeats 1000000
namespace Z
open PySem PySem.Spec PyProof.Rows L2
end Z
set_option maxHeartbeats 2000000
namespace Z
open PySem PySem.Spec PyProof.Rows L2
end Z
set_option maxHeartbeats 2000000
namespace Z
open PySem PySem.Spec PyProof.Rows L2
end Z
set_option maxHeartbeats 1000000
namespace Z
open PySem PySem.Spec PyProof.Rows L2
def isIntD (lo hi : Int) : PyData → Bool
  | .int i => decide (lo ≤ i ∧ i ≤ hi)
  | _ => false
def letters : List Nat := ("abcdefghijklmnopqrstuvwxyz" : Str).cps.toList
def isWord : PyData → Bool
  | .str z => !decide (V.str z = V.str "") && z.cps.toList.all fun c => decide (c ∈ letters)
  | _ => false
def isName (d : PyData) : Bool := isWord d && match d with
  | .str z => decide ((z.length : Int) ≤ 8)
  | _ => false
def isKind : PyData → Bool
  | .str z => inV (.str z) [.str "edge", .str "level"]
  | _ => false
def isSteps (n : Nat) : PyData → Bool
  | .tuple xs => decide ((1 : Int) ≤ xs.length) && decide ((xs.length : Int) ≤ n)
  | _ => false
def isLine : PyData → Bool
  | .tuple [a, b, c, e] => isName a && (isKind b && (isIntD 1 9 c && isSteps 8 e))
  | _ => false
theorem isLine_no {ds : List PyData} (h : ds.length ≠ 4) : isLine (.tuple ds) = false := by
  unfold isLine
  split
  · rename_i e
    cases e
    simp at h
  · rfl
def isWork : PyData → Bool
  | .tuple [a, b, c] => isName a && (isIntD 1 9 b && isIntD 1 99 c)
  | _ => false
theorem isWork_no {ds : List PyData} (h : ds.length ≠ 3) : isWork (.tuple ds) = false := by
  unfold isWork
  split
  · rename_i e
    cases e
    simp at h
  · rfl
abbrev lineWords : List V := [.str "ring", .str "quiet", .str "mask", .str "unmask"]
abbrev flagWords : List V := [.str "set", .str "clear", .str "await"]
def isStepX (kvs : List (Key × V)) (ws : List V) (w : Str) (x : PyData) : Bool :=
  if inV (.str w) lineWords = true then (match x with
    | .str y => (valV kvs (.inr y)).isSome && (!decide (V.str w = V.str "quiet") || decide (valV kvs (.inr y) = some (.str "level")))
    | _ => false)
  else if decide (V.str w = V.str "later") = true then (match x with
    | .str y => inV (.str y) ws
    | _ => false)
  else if inV (.str w) flagWords = true then isIntD 0 7 x
  else (decide (V.str w = V.str "run") && isIntD 1 99 x) || (decide (V.str w = V.str "bar") && isIntD 0 9 x)
def isStep (kvs : List (Key × V)) (ws : List V) : PyData → Bool
  | .tuple [.str w, x] => isStepX kvs ws w x
  | _ => false
def strVals (kvs : List (Key × V)) : Prop := ∀ k v, valV kvs k = some v → ∃ z, v = .str z
theorem isStep_no {kvs : List (Key × V)} {ws : List V} {ds : List PyData} (h : ds.length ≠ 2) : isStep kvs ws (.tuple ds) = false := by
  unfold isStep
  split
  · rename_i e
    cases e
    simp at h
  · rfl
def nameD : PyData → Str
  | .tuple (.str n :: _) => n
  | _ => ""
theorem isLine_name {d : PyData} (h : isLine d = true) : ∃ a b c e, d = .tuple [.str a, b, c, e] := by
  unfold isLine at h
  split at h
  · rename_i a b c e
    obtain ⟨h1, _⟩ := Bool.and_eq_true_iff.mp h
    obtain ⟨h2, _⟩ := Bool.and_eq_true_iff.mp (show (isWord a && _) = true from h1)
    cases a <;> try (cases h2; done)
    exact ⟨_, b, c, e, rfl⟩
  · cases h
theorem isWork_name {d : PyData} (h : isWork d = true) : ∃ a b c, d = .tuple [.str a, b, c] := by
  unfold isWork at h
  split at h
  · rename_i a b c
    obtain ⟨h1, _⟩ := Bool.and_eq_true_iff.mp h
    obtain ⟨h2, _⟩ := Bool.and_eq_true_iff.mp (show (isWord a && _) = true from h1)
    cases a <;> try (cases h2; done)
    exact ⟨_, b, c, rfl⟩
  · cases h
theorem isLine_name2 {d : PyData} (h : isLine d = true) : ∃ n r, d = .tuple (.str n :: r) := by
  obtain ⟨a, b, c, e, rfl⟩ := isLine_name h
  exact ⟨a, _, rfl⟩
theorem isWork_name2 {d : PyData} (h : isWork d = true) : ∃ n r, d = .tuple (.str n :: r) := by
  obtain ⟨a, b, c, rfl⟩ := isWork_name h
  exact ⟨a, _, rfl⟩
theorem inV_strs {x : Str} : ∀ {l : List Str}, inV (.str x) (l.map V.str) = decide (x ∈ l)
  | [] => rfl
  | y :: l => by
    show ((y == x) || inV (.str x) (l.map V.str)) = _
    rw [inV_strs (l := l)]
    by_cases h : x = y
    · subst h
      simp
    · have : (y == x) = false := beq_eq_false_iff_ne.mpr fun z => h z.symm
      simp [this, h]
theorem flat_strs : ∀ {l : List Str}, (l.map V.str).all flatV = true
  | [] => rfl
  | _ :: l => by
    show (true && (l.map V.str).all flatV) = true
    rw [flat_strs (l := l)]
    rfl
theorem nodup_take {α : Type} {l : List α} (h : l.Nodup) {i : Nat} {x : α} (e : l[i]? = some x) : ¬ x ∈ l.take i := fun hm => by
  obtain ⟨j, hj, ej⟩ := List.mem_iff_getElem.mp hm
  have hi : j < i := by rw [List.length_take] at hj; omega
  have e2 : l[j]? = some x := by
    rw [← ej, List.getElem_take]
    exact List.getElem?_eq_getElem _
  have := nd_ix h e2 e
  omega
end Z
set_option maxHeartbeats 1000000
namespace Z
open PySem PySem.Spec PyProof.Rows L2
open He (ga ma)
def tupO : HO → Bool
  | .tup _ => true
  | .frz _ _ => true
  | _ => false
def Fr (A : List Addr) (H H' : Hp) : Prop := (∀ a o, H a = some o → (a ∉ A ∨ tupO o = true) → H' a = some o) ∧ ∀ a, H' a = none → H a = none
section
variable {A B : List Addr} {H H1 H2 : Hp} {a : Addr} {o o' : HO}
theorem Fr.refl : Fr A H H := ⟨fun _ _ h _ => h, fun _ h => h⟩
theorem Fr.trans (x : Fr A H H1) (y : Fr A H1 H2) : Fr A H H2 := ⟨fun a o h n => y.1 a o (x.1 a o h n) n, fun a h => x.2 a (y.2 a h)⟩
theorem Fr.mono (x : Fr A H H1) (s : ∀ a ∈ A, a ∈ B) : Fr B H H1 := ⟨fun a o h n => x.1 a o h (n.imp (fun z z' => z (s a z')) id), x.2⟩
theorem Fr.same (x : Fr [] H H1) : Same H H1 := fun a o h => x.1 a o h (.inl (by simp))
theorem _root_.L2.Same.fr (s : Same H H1) : Fr A H H1 := ⟨fun a o h _ => s a o h, fun a h => by
  cases e : H a with
  | none => rfl
  | some o => rw [s a o e] at h; cases h⟩
theorem Fr.tk (x : Fr A H H1) : Tk H H1 := fun a h => by
  rcases h with ⟨xs, h⟩ | ⟨o, u, h⟩
  · rw [h, x.1 a _ h (.inr rfl)]
  · rw [h, x.1 a _ h (.inr rfl)]
theorem Fr.new (h : H a = none) : Fr A H (upd H a o) := (Same.new h).fr
theorem Fr.upd (hm : a ∈ A) (h : H a = some o) (ht : tupO o = false) : Fr A H (upd H a o') := by
  refine ⟨fun c u e n => ?_, fun c e => ?_⟩
  · by_cases z : c = a
    · subst z
      rw [h] at e
      cases e
      rcases n with n | n
      · exact absurd hm n
      · rw [ht] at n
        cases n
    · rw [upd_ne z]
      exact e
  · by_cases z : c = a
    · subst z
      rw [upd_same] at e
      cases e
    · rw [upd_ne z] at e
      exact e
theorem Fr.at (x : Fr A H H1) (h : H a = some o) (n : a ∉ A) : H1 a = some o := x.1 a o h (.inl n)
theorem Fr.back (x : Fr A H H1) (h : H1 a = none) : H a = none := x.2 a h
theorem Fr.cut {N : List Addr} (x : Fr N H H1) (hN : ∀ a ∈ N, a ∈ A ∨ H a = none) : Fr A H H1 := ⟨fun a o h n => by
  refine x.1 a o h ?_
  rcases n with n | n
  · refine .inl fun z => ?_
    rcases hN a z with z | z
    · exact n z
    · rw [h] at z
      cases z
  · exact .inr n, x.2⟩
end
def kD : Key → PyData
  | .inl i => .int i
  | .inr z => .str z
structure Ln where
  nm : Str
  kd : Str
  rk : Int
  st : List (Str × Key)
structure Wk where
  nm : Str
  rk : Int
  tk : Int
structure Pl where
  ls : List Ln
  ws : List Wk
def dSt (s : Str × Key) : PyData := .tuple [.str s.1, kD s.2]
def dLn (l : Ln) : PyData := .tuple [.str l.nm, .str l.kd, .int l.rk, .tuple (l.st.map dSt)]
def dWk (w : Wk) : PyData := .tuple [.str w.nm, .int w.rk, .int w.tk]
def Pl.kinds (P : Pl) : List (Key × V) := P.ls.map fun l => (.inr l.nm, .str l.kd)
def Pl.names (P : Pl) : List Str := P.ls.map (·.nm)
def Pl.wnames (P : Pl) : List Str := P.ws.map (·.nm)
structure Pl.Ok (P : Pl) : Prop where
  ne : P.ls ≠ []
  l12 : P.ls.length ≤ 12
  w8 : P.ws.length ≤ 8
  lok : ∀ l ∈ P.ls, isLine (dLn l) = true
  wok : ∀ w ∈ P.ws, isWork (dWk w) = true
  lnd : P.names.Nodup
  wnd : P.wnames.Nodup
  sok : ∀ l ∈ P.ls, ∀ s ∈ l.st, isStep P.kinds (P.wnames.map V.str) (dSt s) = true
  shl : ∀ l ∈ P.ls, short (dLn l) = true
  shw : ∀ w ∈ P.ws, short (dWk w) = true ∧ (PyData.str w.nm).canLay0 = true
theorem tupd_kD (k : Key) : tupd (kD k) = true := by cases k <;> rfl
theorem tupds_map {α : Type} {f : α → PyData} (h : ∀ x, tupd (f x) = true) : ∀ l : List α, tupds (l.map f) = true
  | [] => rfl
  | x :: l => by
    show (tupd (f x) && tupds (l.map f)) = true
    rw [h x, tupds_map h l]
    rfl
theorem tupd_dSt (s : Str × Key) : tupd (dSt s) = true := by
  show (true && (tupd (kD s.2) && true)) = true
  rw [tupd_kD]
  rfl
theorem tupd_dLn (l : Ln) : tupd (dLn l) = true := by
  show (true && (true && (true && (tupds (l.st.map dSt) && true)))) = true
  rw [tupds_map tupd_dSt]
  rfl
theorem tupd_dWk (w : Wk) : tupd (dWk w) = true := rfl
theorem shorts_map {α : Type} {f : α → PyData} : ∀ {l : List α}, (∀ x ∈ l, short (f x) = true) → shorts (l.map f) = true
  | [], _ => rfl
  | x :: l, h => by
    show (short (f x) && shorts (l.map f)) = true
    rw [h x (by simp), shorts_map fun y hy => h y (List.mem_cons_of_mem _ hy)]
    rfl
def Pl.ln (P : Pl) (z : Str) : Ln := (P.ls.find? fun l => l.nm == z).getD ⟨z, "", 0, []⟩
def Pl.wk (P : Pl) (z : Str) : Wk := (P.ws.find? fun w => w.nm == z).getD ⟨z, 0, 0⟩
theorem find_nd {α : Type} {f : α → Str} : ∀ {l : List α} {x : α}, (l.map f).Nodup → x ∈ l → (l.find? fun y => f y == f x) = some x
  | y :: l, x, hn, hm => by
    rw [List.map_cons, List.nodup_cons] at hn
    rcases List.mem_cons.mp hm with rfl | hm
    · simp
    · have : (f y == f x) = false := beq_eq_false_iff_ne.mpr fun e => hn.1 (by rw [e]; exact List.mem_map_of_mem hm)
      rw [List.find?_cons, this]
      exact find_nd hn.2 hm
theorem Pl.Ok.ln_eq {P : Pl} (h : P.Ok) {l : Ln} (hl : l ∈ P.ls) : P.ln l.nm = l := by
  unfold Pl.ln
  rw [find_nd (f := Ln.nm) h.lnd hl]
  rfl
theorem Pl.Ok.wk_eq {P : Pl} (h : P.Ok) {w : Wk} (hl : w ∈ P.ws) : P.wk w.nm = w := by
  unfold Pl.wk
  rw [find_nd (f := Wk.nm) h.wnd hl]
  rfl
theorem Pl.Ok.ln_mem {P : Pl} (h : P.Ok) {z : Str} (hz : z ∈ P.names) : P.ln z ∈ P.ls ∧ (P.ln z).nm = z := by
  obtain ⟨l, hl, rfl⟩ := List.mem_map.mp hz
  rw [h.ln_eq hl]
  exact ⟨hl, rfl⟩
theorem Pl.Ok.wk_mem {P : Pl} (h : P.Ok) {z : Str} (hz : z ∈ P.wnames) : P.wk z ∈ P.ws ∧ (P.wk z).nm = z := by
  obtain ⟨l, hl, rfl⟩ := List.mem_map.mp hz
  rw [h.wk_eq hl]
  exact ⟨hl, rfl⟩
structure DictOf {α : Type} (K : Fg) (H : Hp) (rd : Addr) (nm : α → Str) (d : α → PyData) (l : List α) : Prop where
  at_ : ∃ kvs, H rd = some (.dK kvs) ∧ (∀ z, (valV kvs (.inr z)).isSome = decide (z ∈ l.map nm)) ∧ ∀ x ∈ l, ∃ v, valV kvs (.inr (nm x)) = some v ∧ Dp K H v (d x)
theorem DictOf.keep {α : Type} {K : Fg} {H H' : Hp} {rd : Addr} {nm : α → Str} {d : α → PyData} {l : List α} (h : DictOf K H rd nm d l) (e : H' rd = H rd) (t : Tk H H') (hd : ∀ x, tupd (d x) = true) : DictOf K H' rd nm d l := by
  obtain ⟨kvs, h1, h2, h3⟩ := h.at_
  refine ⟨kvs, by rw [e]; exact h1, h2, fun x hx => ?_⟩
  obtain ⟨v, h4, h5⟩ := h3 x hx
  exact ⟨v, h4, h5.tk t (hd x)⟩
def planF (a b rd wd : Addr) : List (Str × V) := [("line_rows", .ref a), ("work_rows", .ref b), ("rows_by_name", .ref rd), ("works_by_name", .ref wd)]
structure PA where
  p : Addr
  rd : Addr
  wd : Addr
def PA.own (D : PA) : List Addr := [D.p, D.rd, D.wd]
structure PlanAt (K : Fg) (H : Hp) (D : PA) (P : Pl) : Prop where
  ok : P.Ok
  ins : ∃ dx a b, H D.p = some (.ins (ga K "Setup") dx (planF a b D.rd D.wd)) ∧ Dp K H (.ref a) (.tuple (P.ls.map dLn)) ∧ Dp K H (.ref b) (.tuple (P.ws.map dWk))
  rows : DictOf K H D.rd (·.nm) dLn P.ls
  works : DictOf K H D.wd (·.nm) dWk P.ws
theorem PlanAt.keep {K : Fg} {H H' : Hp} {D : PA} {P : Pl} (h : PlanAt K H D P) {A : List Addr} (f : Fr A H H') (n : ∀ a ∈ D.own, a ∉ A) : PlanAt K H' D P := by
  obtain ⟨dx, a, b, h1, h2, h3⟩ := h.ins
  have e1 := f.at h1 (n _ (by simp [PA.own]))
  have e2 : H' D.rd = H D.rd := by
    obtain ⟨kvs, h1, _⟩ := h.rows.at_
    rw [h1, f.at h1 (n _ (by simp [PA.own]))]
  have e3 : H' D.wd = H D.wd := by
    obtain ⟨kvs, h1, _⟩ := h.works.at_
    rw [h1, f.at h1 (n _ (by simp [PA.own]))]
  refine ⟨h.ok, ⟨dx, a, b, e1, h2.tk f.tk (tupds_map tupd_dLn _), h3.tk f.tk (tupds_map tupd_dWk _)⟩, h.rows.keep e2 f.tk tupd_dLn, h.works.keep e3 f.tk tupd_dWk⟩
theorem PlanAt.same {K : Fg} {H H' : Hp} {D : PA} {P : Pl} (h : PlanAt K H D P) (f : Same H H') : PlanAt K H' D P := h.keep (A := []) f.fr (by simp)
theorem valV_notin {kvs : List (Key × V)} {k : Key} (h : k ∉ kvs.map (·.1)) : valV kvs k = none := by
  unfold valV
  rw [List.find?_eq_none.mpr fun x hx => ?_]
  · rfl
  · simp only [decide_eq_true_eq]
    intro e
    exact h (by rw [← e]; exact List.mem_map_of_mem hx)
theorem zip_fst {α β : Type} : ∀ {l : List α} {m : List β}, l.length = m.length → (l.zip m).map (·.1) = l
  | [], [], _ => rfl
  | _ :: l, _ :: m, h => by
    simp only [List.zip_cons_cons, List.map_cons]
    rw [zip_fst (by simpa using h)]
theorem dc_dat {K : Fg} {a : Addr} {xs : List V} {g : TG} {tt : TT} {tk tv : TE} {vs : List Nat} {σ : L2.St} {H1 : Hp} {D : Addr} {Qd : Hp → Prop} (ks : List Key) (vv : List V) (h1 : ks.length = xs.length) (h2 : ks.length = vv.length) (hnd : ks.Nodup) (hD : H1 D = none) (hT : SqT K H1 a xs) (hn : xs.length ≤ 40000)
    (hs : ∀ (i : Nat) (x : V) (k : Key) (v : V) (H : Hp) (Z : V → V → Hp → Prop) (N : Hp → Prop), xs[i]? = some x → ks[i]? = some k → vv[i]? = some v → Same H1 H → (∀ H5, Same H H5 → Z (kV k) v H5) →
      g x (wipe σ vs) H fun σ2 H2 => wipe σ2 vs = wipe σ vs ∧ tt σ2 H2 fun b H3 => if b = true then tk σ2 H3 fun y H4 => tv σ2 H4 fun z H5 => Z y z H5 else N H3)
    (hd : ∀ H', Same H1 H' → H' D = some (.dK (ks.zip vv)) → Qd H') :
    ∃ W : Nat → Nat → Hp → Prop, (∃ m, W 0 m (upd H1 D (.dK []))) ∧ ∀ i m H, W i m H →
      ((Itt K a).stop i H ∧ Qd H) ∨ ((Itt K a).go i H ∧ ∃ Nx : Hp → Prop, (∀ H', Nx H' → ∃ m', m' < m ∧ W (i + 1) m' H') ∧ ∀ x H', (Itt K a).yld i H x H' → g x (wipe σ vs) H' fun σ2 H2 => wipe σ2 vs = wipe σ vs ∧ tt σ2 H2 fun b H3 =>
        if b = true then tk σ2 H3 fun y H4 => tv σ2 H4 fun z H5 => ∃ kvs k, y = kV k ∧ H5 D = some (.dK kvs) ∧ kvs.length < sizeLine ∧ Nx (upd H5 D (.dK (putK kvs k z))) else Nx H3) := by
  have hz : (ks.zip vv).length = xs.length := by rw [List.length_zip]; omega
  refine dc_tup (fun i H => Same H1 H ∧ H D = some (.dK ((ks.zip vv).take i))) ⟨Same.new hD, upd_same⟩ (fun i H _ p => p.1.sqT hT) (fun i x H hx p => ?_) (fun H p => ?_)
  · obtain ⟨s1, e1⟩ := p
    have hi : i < xs.length := (List.getElem?_eq_some_iff.mp hx).1
    have hk : ks[i]? = some ks[i] := List.getElem?_eq_getElem (by omega)
    have hv : vv[i]? = some vv[i] := List.getElem?_eq_getElem (by omega)
    refine hs i x _ _ H (fun y z H5 => ∃ kvs k, y = kV k ∧ H5 D = some (.dK kvs) ∧ kvs.length < sizeLine ∧ (Same H1 (upd H5 D (.dK (putK kvs k z))) ∧ upd H5 D (.dK (putK kvs k z)) D = some (.dK ((ks.zip vv).take (i + 1))))) _ hx hk hv s1 fun H5 s5 => ?_
    refine ⟨_, _, rfl, s5 _ _ e1, ?_, fun c o h => ?_, ?_⟩
    · rw [List.length_take, sizeLine_eq]
      omega
    · rw [upd_ne (ne_of_none h hD)]
      exact s5 _ _ (s1 _ _ h)
    · have hzi : (ks.zip vv)[i]? = some (ks[i], vv[i]) := by
        rw [List.getElem?_eq_getElem (by omega), List.getElem_zip]
      have hno : valV ((ks.zip vv).take i) ks[i] = none := by
        refine valV_notin ?_
        rw [List.map_take, zip_fst h2]
        exact fun hm => by
          obtain ⟨j, hj, ej⟩ := List.mem_iff_getElem.mp hm
          have hji : j < i := by rw [List.length_take] at hj; omega
          have e2 : ks[j]? = some ks[i] := by
            rw [← ej, List.getElem_take]
            exact List.getElem?_eq_getElem _
          have := nd_ix hnd e2 hk
          omega
      rw [upd_same, putK_new _ hno, List.take_add_one, hzi]
      rfl
  · obtain ⟨s1, e1⟩ := p
    rw [← hz, List.take_length] at e1
    exact hd H s1 e1
theorem valV_zip {ks : List Key} {vv : List V} (hnd : ks.Nodup) {i : Nat} {k : Key} {v : V} (hk : ks[i]? = some k) (hv : vv[i]? = some v) : valV (ks.zip vv) k = some v := by
  induction ks generalizing vv i with
  | nil => simp at hk
  | cons a l ih =>
    cases vv with
    | nil => simp at hv
    | cons b m =>
      rw [List.nodup_cons] at hnd
      cases i with
      | zero =>
        simp at hk hv
        subst hk hv
        exact valV_pos rfl
      | succ i =>
        have hk2 : l[i]? = some k := by simpa using hk
        have hne : ¬ a = k := fun e => hnd.1 (by rw [e]; exact List.mem_of_getElem? hk2)
        rw [List.zip_cons_cons, valV_neg hne]
        exact ih hnd.2 hk2 (by simpa using hv)
theorem dictOf_zip {α : Type} {K : Fg} {H : Hp} {rd : Addr} {nm : α → Str} {d : α → PyData} {l : List α} {vv : List V} (h : H rd = some (.dK ((l.map fun x => (Sum.inr (nm x) : Key)).zip vv))) (hnd : (l.map nm).Nodup) (ha : DpAll K H vv (l.map d)) : DictOf K H rd nm d l := by
  have hl : vv.length = l.length := by rw [ha.len, List.length_map]
  have hk : (l.map fun x => (Sum.inr (nm x) : Key)) = (l.map nm).map Sum.inr := by rw [List.map_map]; rfl
  have hn2 : (l.map fun x => (Sum.inr (nm x) : Key)).Nodup := by
    rw [hk]
    exact List.Pairwise.map Sum.inr (fun a b h e => h (Sum.inr.inj e)) hnd
  refine ⟨_, h, fun z => ?_, fun x hx => ?_⟩
  · by_cases hz : z ∈ l.map nm
    · obtain ⟨i, hi⟩ := List.mem_iff_getElem?.mp hz
      have hil : i < l.length := by have := (List.getElem?_eq_some_iff.mp hi).1; rwa [List.length_map] at this
      have h1 : (l.map fun x => (Sum.inr (nm x) : Key))[i]? = some (.inr z) := by rw [hk, List.getElem?_map, hi]; rfl
      have h2 : vv[i]? = some vv[i] := List.getElem?_eq_getElem (by omega)
      rw [valV_zip hn2 h1 h2, decide_eq_true hz]
      rfl
    · rw [valV_notin, decide_eq_false hz]
      · rfl
      · rw [zip_fst (by rw [List.length_map, hl]), hk]
        intro hm
        obtain ⟨y, hy, e⟩ := List.mem_map.mp hm
        cases e
        exact hz hy
  · obtain ⟨i, hi⟩ := List.mem_iff_getElem?.mp hx
    have h1 : (l.map fun x => (Sum.inr (nm x) : Key))[i]? = some (.inr (nm x)) := by rw [List.getElem?_map, hi]; rfl
    have h3 : (l.map d)[i]? = some (d x) := by rw [List.getElem?_map, hi]; rfl
    obtain ⟨v, hv, hd⟩ := ha.get h3
    exact ⟨v, valV_zip hn2 h1 hv, hd⟩
end Z
set_option maxHeartbeats 1000000
namespace Z
open PySem PySem.Spec PyProof.Rows L2
open LamX (lamCx lamEnv inv_table run_ofS CodeO codeO_ne TabB TabS among_app)
end Z
set_option maxHeartbeats 1000000
namespace Z
open PySem PySem.Spec PyProof.Rows L2
open He (ga ma)
section
variable {K : Fg} {σ : L2.St} {H H1 : Hp} {Q : VK} {g : TG} {tt : TT} {te tk tv tl : TE} {vs : List Nat} {x : V} {a : Addr} {xs : List V} {α : Type} {l : List α} {da : α → PyData}
def LcQ (J : It) (g : TG) (tt : TT) (te : TE) (vs : List Nat) (σ : L2.St) (Q : VK) (H1 : Hp) : Prop := ∀ D, H1 D = none → ∃ W : Nat → Nat → Hp → Prop, (∃ m, W 0 m (upd H1 D (.lst []))) ∧ ∀ i m H, W i m H →
  (J.stop i H ∧ Q (.ref D) H) ∨ (J.go i H ∧ ∃ Nx : Hp → Prop, (∀ H', Nx H' → ∃ m', m' < m ∧ W (i + 1) m' H') ∧ ∀ x H', J.yld i H x H' → g x (wipe σ vs) H' fun σ2 H2 => wipe σ2 vs = wipe σ vs ∧ tt σ2 H2 fun b H3 =>
    if b = true then te σ2 H3 fun y H4 => ∃ acc, H4 D = some (.lst acc) ∧ acc.length < sizeLine ∧ Nx (upd H4 D (.lst (acc ++ [y]))) else Nx H3)
def LcT (K : Fg) (g : TG) (tt : TT) (te : TE) (vs : List Nat) (σ : L2.St) (Q : VK) (x : V) (H1 : Hp) : Prop := ∃ a, x = .ref a ∧ (∃ xs, SqT K H1 a xs) ∧ LcQ (Itt K a) g tt te vs σ Q H1
def LcL (K : Fg) (g : TG) (tt : TT) (te : TE) (vs : List Nat) (σ : L2.St) (Q : VK) (x : V) (H1 : Hp) : Prop := ∃ a, x = .ref a ∧ (∃ xs, SqL K H1 a xs) ∧ LcQ (Itl K a) g tt te vs σ Q H1
theorem s_lcT (q : tl σ H fun x H1 => LcT K g tt te vs σ Q x H1) : tLc (iTup K tl) g tt te vs σ H Q := q
theorem s_lcL (q : tl σ H fun x H1 => LcL K g tt te vs σ Q x H1) : tLc (iList K tl) g tt te vs σ H Q := q
theorem lcT_d (hT : SqT K H1 a xs) (hA : DpAll K H1 xs (l.map da)) (p : α → Bool) (f : α → PyData) (hn : l.length ≤ 40000) (hf : ∀ x ∈ l, tupd (f x) = true)
    (hs : ∀ (x : α) (v : V) (H : Hp) (Yes : VK) (No : Hp → Prop), x ∈ l → Same H1 H → Dp K H v (da x) → (p x = true → ∀ y H4, Same H H4 → Dp K H4 y (f x) → Yes y H4) → (p x = false → ∀ H3, Same H H3 → No H3) →
      g v (wipe σ vs) H fun σ2 H2 => wipe σ2 vs = wipe σ vs ∧ tt σ2 H2 fun b H3 => if b = true then te σ2 H3 Yes else No H3)
    (hd : ∀ D H' ys, H1 D = none → Same H1 H' → H' D = some (.lst ys) → DpAll K H' ys ((l.filter p).map f) → Q (.ref D) H') : LcT K g tt te vs σ Q (.ref a) H1 := by
  have hlen : xs.length = l.length := by rw [hA.len, List.length_map]
  refine ⟨a, rfl, ⟨xs, hT⟩, fun D hD => ?_⟩
  refine lc_dat (K := K) walk_tup (pAt l p) (dAt l f) hD (by rw [hlen]; exact hn) (dAt_tupd hf) (fun H s => s.sqT hT) (fun i H x H' y => by rw [y.1]; exact Same.refl H) (fun i x H H' Yes No hi s1 y yes no => ?_) (fun H' ys s1 e1 a1 => ?_)
  · obtain ⟨rfl, hx⟩ := y
    obtain ⟨d, hd', dd⟩ := hA.getv hx
    rw [List.getElem?_map] at hd'
    obtain ⟨z, hz, rfl⟩ := Option.map_eq_some_iff.mp hd'
    rw [pAt_eq hz, dAt_eq hz] at yes
    rw [pAt_eq hz] at no
    exact hs z x H' Yes No (List.mem_of_getElem? hz) s1 (dd.same s1) yes no
  · rw [hlen, keptD_list] at a1
    exact hd D H' ys hD s1 e1 a1
def DcT (K : Fg) (g : TG) (tt : TT) (tk tv : TE) (vs : List Nat) (σ : L2.St) (Q : VK) (x : V) (H1 : Hp) : Prop := ∃ a, x = .ref a ∧ (∃ xs, SqT K H1 a xs) ∧ ∀ D, H1 D = none → ∃ W : Nat → Nat → Hp → Prop, (∃ m, W 0 m (upd H1 D (.dK []))) ∧ ∀ i m H, W i m H →
  ((Itt K a).stop i H ∧ Q (.ref D) H) ∨ ((Itt K a).go i H ∧ ∃ Nx : Hp → Prop, (∀ H', Nx H' → ∃ m', m' < m ∧ W (i + 1) m' H') ∧ ∀ x H', (Itt K a).yld i H x H' → g x (wipe σ vs) H' fun σ2 H2 => wipe σ2 vs = wipe σ vs ∧ tt σ2 H2 fun b H3 =>
    if b = true then tk σ2 H3 fun y H4 => tv σ2 H4 fun z H5 => ∃ kvs k, y = kV k ∧ H5 D = some (.dK kvs) ∧ kvs.length < sizeLine ∧ Nx (upd H5 D (.dK (putK kvs k z))) else Nx H3)
theorem s_dcT (q : tl σ H fun x H1 => DcT K g tt tk tv vs σ Q x H1) : tDc (iTup K tl) g tt tk tv vs σ H Q := q
theorem dcT_d (hT : SqT K H1 a xs) (hA : DpAll K H1 xs (l.map da)) (kf : α → Key) (vv : List V) (h2 : l.length = vv.length) (hnd : (l.map kf).Nodup) (hn : l.length ≤ 40000)
    (hs : ∀ (i : Nat) (x : α) (y v : V) (H : Hp) (Z : V → V → Hp → Prop) (N : Hp → Prop), x ∈ l → l[i]? = some x → xs[i]? = some y → vv[i]? = some v → Same H1 H → Dp K H y (da x) → (∀ H5, Same H H5 → Z (kV (kf x)) v H5) →
      g y (wipe σ vs) H fun σ2 H2 => wipe σ2 vs = wipe σ vs ∧ tt σ2 H2 fun b H3 => if b = true then tk σ2 H3 fun y H4 => tv σ2 H4 fun z H5 => Z y z H5 else N H3)
    (hd : ∀ D H', H1 D = none → Same H1 H' → H' D = some (.dK ((l.map kf).zip vv)) → Q (.ref D) H') : DcT K g tt tk tv vs σ Q (.ref a) H1 := by
  have hlen : xs.length = l.length := by rw [hA.len, List.length_map]
  refine ⟨a, rfl, ⟨xs, hT⟩, fun D hD => ?_⟩
  refine dc_dat (l.map kf) vv (by rw [List.length_map, hlen]) (by rw [List.length_map, h2]) hnd hD hT (by rw [hlen]; exact hn) (fun i x k v H Z N hx hk hv s1 z => ?_) (fun H' s1 e1 => hd D H' hD s1 e1)
  obtain ⟨d, hd', dd⟩ := hA.getv hx
  rw [List.getElem?_map] at hd' hk
  obtain ⟨w, hw, rfl⟩ := Option.map_eq_some_iff.mp hd'
  rw [hw] at hk
  cases hk
  exact hs i w x v H Z N (List.mem_of_getElem? hw) hw hx hv s1 (dd.same s1) z
theorem s_cval {C : Addr} {f : Str} {n : Int} {R : V → Prop} (h : ClsI K C f n) (q : R (.int n)) : ∃ C' mc v u, V.ref C = .ref C' ∧ ClX.CRead K C' mc ∧ ClX.CVal K C' mc f v u ∧ R v := by
  obtain ⟨mc, u, h1, h2⟩ := h
  exact ⟨C, mc, _, u, rfl, h1, h2, q⟩
theorem s_cvalg {ta : TE} {f : Str} (q : ta σ H fun x H1 => ∃ C mc v u, x = .ref C ∧ ClX.CRead K C mc ∧ ClX.CVal K C mc f v u ∧ Q v H1) : ClX.tCVal K ta f σ H Q := q
theorem s_eq0T {b : Addr} {neg : Bool} {xs : List V} (h1 : SqT K H a xs) (h2 : SqT K H b []) (q : Q (.bl (if neg then !xs.isEmpty else xs.isEmpty)) H) : rEq0 K neg (.ref a) (.ref b) H Q := ⟨a, b, xs, rfl, rfl, .inr ⟨h1, h2⟩, q⟩
theorem s_eq0L {b : Addr} {neg : Bool} {xs : List V} (h1 : SqL K H a xs) (h2 : SqL K H b []) (q : Q (.bl (if neg then !xs.isEmpty else xs.isEmpty)) H) : rEq0 K neg (.ref a) (.ref b) H Q := ⟨a, b, xs, rfl, rfl, .inl ⟨h1, h2⟩, q⟩
theorem s_ixO {C : Addr} {sp : Sp} {E : XK} {ta tb : TE} (q : ta σ H fun x H1 => tb σ H1 fun y H2 => ∃ a dx fs, x = .ref a ∧ H2 a = some (.ins C dx fs) ∧ sp [.ref a, y] H2 Q E) : tIxO C sp E ta tb σ H Q := q
variable {ea ec ed : L2.St → Hp → Prop} {eb : VK}
theorem s_fldS {ta tv : TE} {f : Str} (q : tv σ H fun y H1 => ta σ H1 fun x H2 => ∃ a C dx fs, x = .ref a ∧ H2 a = some (.ins C dx fs) ∧ Cls K C ∧ NoAttr K C f ∧ fs.length < 1000 ∧ ea σ (upd H2 a (.ins C dx (putF f y fs)))) : sFld K ta tv f (.mk ea eb ec ed) σ H := q
theorem s_fldput {C dx : Addr} {fs : List (Str × V)} {f : Str} {y : V} {R : Hp → Prop} (h : H a = some (.ins C dx fs)) (c : Cls K C) (n : NoAttr K C f) (hl : fs.length < 1000) (q : R (upd H a (.ins C dx (putF f y fs)))) :
    ∃ b C dx fs, V.ref a = .ref b ∧ H b = some (.ins C dx fs) ∧ Cls K C ∧ NoAttr K C f ∧ fs.length < 1000 ∧ R (upd H b (.ins C dx (putF f y fs))) := ⟨a, C, dx, fs, rfl, h, c, n, hl, q⟩
end
end Z
set_option maxHeartbeats 1000000
namespace Z
open PySem PySem.Spec PyProof.Rows L2
open He (ga ma)
def kI : Key → Int
  | .inl i => i
  | .inr _ => 0
def ordD (l : Ln) : PyData := .tuple [.int (0 - l.rk), .str l.nm]
def Pl.order (P : Pl) : List Str := (P.ls.mergeSort (PySem.W.dataLe false ordD)).map (·.nm)
theorem Pl.order_perm (P : Pl) : P.order.Perm P.names := (List.mergeSort_perm _ _).map _
def ticksOf (l : Ln) : Int := ((l.st.filter fun s => decide (s.1 = ("run" : Str))).map fun s => kI s.2).sum
theorem inV_str {w : Str} {l : List Str} (h : inV (.str w) (l.map V.str) = true) : w ∈ l := by
  rw [inV_strs] at h
  exact of_decide_eq_true h
theorem kinds_val {P : Pl} {z : Str} {v : V} (h : valV P.kinds (.inr z) = some v) : ∃ l ∈ P.ls, l.nm = z ∧ v = .str l.kd := by
  unfold valV at h
  obtain ⟨kv, h1, h2⟩ := Option.map_eq_some_iff.mp h
  obtain ⟨l, hl, rfl⟩ := List.mem_map.mp (List.mem_of_find?_eq_some h1)
  have h3 := List.find?_some h1
  exact ⟨l, hl, Sum.inr.inj (of_decide_eq_true h3), h2.symm⟩
theorem Pl.Ok.steps8 {P : Pl} (ok : P.Ok) {l : Ln} (hl : l ∈ P.ls) : l.st.length ≤ 8 := by
  have hk := ok.lok l hl
  simp only [isLine, dLn, isSteps, Bool.and_eq_true, decide_eq_true_eq, List.length_map] at hk
  omega
inductive StepIs (P : Pl) : Str × Key → Prop
  | run (i : Int) : 1 ≤ i → i ≤ 99 → StepIs P ("run", .inl i)
  | bar (i : Int) : 0 ≤ i → i ≤ 9 → StepIs P ("bar", .inl i)
  | later (z : Str) : z ∈ P.wnames → StepIs P ("later", .inr z)
  | flag (w : Str) (i : Int) : w ∈ (["set", "clear", "await"] : List Str) → 0 ≤ i → i ≤ 7 → StepIs P (w, .inl i)
  | line (w z : Str) : w ∈ (["ring", "quiet", "mask", "unmask"] : List Str) → z ∈ P.names → (w = "quiet" → (P.ln z).kd = "level") → StepIs P (w, .inr z)
theorem isInt_k {lo hi : Int} {k : Key} (h : isIntD lo hi (kD k) = true) : ∃ i, k = .inl i ∧ lo ≤ i ∧ i ≤ hi := by
  cases k with
  | inl i => exact ⟨i, rfl, of_decide_eq_true (show decide (lo ≤ i ∧ i ≤ hi) = true from h)⟩
  | inr z => cases h
theorem Pl.Ok.step {P : Pl} (ok : P.Ok) {l : Ln} (hl : l ∈ P.ls) {s : Str × Key} (hs : s ∈ l.st) : StepIs P s := by
  obtain ⟨w, k⟩ := s
  have h := ok.sok l hl _ hs
  have h' : isStepX P.kinds (P.wnames.map V.str) w (kD k) = true := h
  unfold isStepX at h'
  split at h'
  · rename_i hw
    have hw' : w ∈ (["ring", "quiet", "mask", "unmask"] : List Str) := inV_str (show inV (.str w) ((["ring", "quiet", "mask", "unmask"] : List Str).map V.str) = true from hw)
    cases k with
    | inl i => cases h'
    | inr z =>
      have h2 : ((valV P.kinds (.inr z)).isSome && (!decide (V.str w = V.str "quiet") || decide (valV P.kinds (.inr z) = some (.str "level")))) = true := h'
      obtain ⟨h3, h4⟩ := Bool.and_eq_true_iff.mp h2
      obtain ⟨v, hv⟩ := Option.isSome_iff_exists.mp h3
      obtain ⟨m, hm, rfl, rfl⟩ := kinds_val hv
      refine .line w _ hw' (List.mem_map_of_mem hm) fun e => ?_
      rw [ok.ln_eq hm]
      subst e
      rw [hv] at h4
      simpa using h4
  · split at h'
    · rename_i hw
      have hw' : w = "later" := by simpa using hw
      subst hw'
      cases k with
      | inl i => cases h'
      | inr z => exact .later z (inV_str h')
    · split at h'
      · rename_i hw
        have hw' : w ∈ (["set", "clear", "await"] : List Str) := inV_str (show inV (.str w) ((["set", "clear", "await"] : List Str).map V.str) = true from hw)
        obtain ⟨i, rfl, h1, h2⟩ := isInt_k h'
        exact .flag w i hw' h1 h2
      · rcases Bool.or_eq_true_iff.mp h' with h' | h'
        · obtain ⟨h1, h2⟩ := Bool.and_eq_true_iff.mp h'
          obtain ⟨i, rfl, h3, h4⟩ := isInt_k h2
          have hw' : w = "run" := by simpa using h1
          subst hw'
          exact .run i h3 h4
        · obtain ⟨h1, h2⟩ := Bool.and_eq_true_iff.mp h'
          obtain ⟨i, rfl, h3, h4⟩ := isInt_k h2
          have hw' : w = "bar" := by simpa using h1
          subst hw'
          exact .bar i h3 h4
theorem StepIs.run_int {P : Pl} {s : Str × Key} (h : StepIs P s) (e : s.1 = "run") : ∃ i, s.2 = .inl i ∧ 1 ≤ i ∧ i ≤ 99 := by
  cases h with
  | run i h1 h2 => exact ⟨i, rfl, h1, h2⟩
  | bar i _ _ => exact absurd (show ("bar" : Str) = "run" from e) (by decide)
  | later z _ => exact absurd (show ("later" : Str) = "run" from e) (by decide)
  | flag w i hw _ _ => simp only at e; subst e; exact absurd hw (by decide)
  | line w z hw _ _ => simp only at e; subst e; exact absurd hw (by decide)
theorem plF_lr {a b rd wd : Addr} : (planF a b rd wd).lookup ("line_rows" : Str) = some (.ref a) := by kernel_rfl
theorem plF_wr {a b rd wd : Addr} : (planF a b rd wd).lookup ("work_rows" : Str) = some (.ref b) := by kernel_rfl
theorem plF_rn {a b rd wd : Addr} : (planF a b rd wd).lookup ("rows_by_name" : Str) = some (.ref rd) := by kernel_rfl
theorem plF_wn {a b rd wd : Addr} : (planF a b rd wd).lookup ("works_by_name" : Str) = some (.ref wd) := by kernel_rfl
end Z
set_option maxHeartbeats 1000000
namespace Z
open PySem PySem.Spec PyProof.Rows L2
open He (ga ma)
inductive Ft where
  | op
  | me (n : Int)
  | se (t : Int) (p : Option Int)
structure Bd where
  shut : List Str
  wanted : List Str
  high : List Str
  taken : List Str
  raised : List Int
  joined : List (Str × Int)
  time : Int
  here : Option Int
  spots : List (Str × Int)
  rung : List (Int × Str)
  results : List Ft
  wanting : List (Str × Int)
def delK (l : List (Str × Int)) (z : Str) : List (Str × Int) := l.filter fun x => !decide (x.1 = z)
def getK (l : List (Str × Int)) (z : Str) : Option Int := (l.find? fun x => decide (x.1 = z)).map (·.2)
def putL {α : Type} [DecidableEq α] (l : List α) (x : α) (b : Bool) : List α × Bool := if decide (x ∈ l) = b then (l, false) else (if b = true then l ++ [x] else l.erase x, true)
def bump (l : List (Str × Int)) (z : Str) : List (Str × Int) := l.map fun x => if x.1 = z then (x.1, x.2 + 1) else x
def Bd.tell (B : Bd) (z : Str) (f : Ft) : Bd := { B with rung := B.rung ++ [(B.time, z)], results := B.results ++ [f] }
def Bd.ring (P : Pl) (B : Bd) (z : Str) : Bd × Bool :=
  if (P.ln z).kd = "edge" then (if z ∈ B.wanted then (Bd.tell { B with joined := bump B.joined z } z (.me ((getK B.wanting z).getD 0)), false) else (Bd.tell { B with wanted := B.wanted ++ [z], wanting := B.wanting ++ [(z, (B.rung.length : Int))] } z .op, true))
  else (if z ∈ B.high then ({ B with joined := bump B.joined z }, false) else ({ B with high := B.high ++ [z] }, true))
def Bd.waiting (B : Bd) (z : Str) : Bool := decide (z ∈ B.wanted) || (decide (z ∈ B.high) && !decide (z ∈ B.taken))
def Bd.can (B : Bd) (z : Str) : Bool := B.waiting z && (!decide (z ∈ B.shut) && !decide (z ∈ B.taken))
def Bd.begun (B : Bd) (z : Str) : Bd := { B with taken := B.taken ++ [z], wanted := (putL B.wanted z false).1, spots := delK B.spots z, wanting := delK B.wanting z, results := match getK B.wanting z with
  | none => B.results
  | some n => B.results.set n.toNat (.se B.time B.here) }
def Bd.ended (B : Bd) (z : Str) : Bd := { B with taken := B.taken.erase z }
def kS : Key → Str
  | .inl _ => ""
  | .inr z => z
def Bd.carry (P : Pl) (B : Bd) (s : Str × Key) : Bd × Bool :=
  if s.1 = "ring" then B.ring P (kS s.2)
  else if s.1 = "quiet" then ({ B with high := (putL B.high (kS s.2) false).1, spots := delK B.spots (kS s.2) }, (putL B.high (kS s.2) false).2)
  else if s.1 = "mask" then ({ B with shut := (putL B.shut (kS s.2) true).1 }, (putL B.shut (kS s.2) true).2)
  else if s.1 = "unmask" then ({ B with shut := (putL B.shut (kS s.2) false).1 }, (putL B.shut (kS s.2) false).2)
  else if s.1 = "set" then ({ B with raised := (putL B.raised (kI s.2) true).1 }, (putL B.raised (kI s.2) true).2)
  else ({ B with raised := (putL B.raised (kI s.2) false).1 }, (putL B.raised (kI s.2) false).2)
structure Sub {α : Type} (l m : List α) : Prop where
  nd : l.Nodup
  sub : ∀ x ∈ l, x ∈ m
theorem Sub.nil {α : Type} {m : List α} : Sub [] m := ⟨.nil, by simp⟩
theorem Sub.add {α : Type} {l m : List α} {x : α} (h : Sub l m) (hn : x ∉ l) (hx : x ∈ m) : Sub (l ++ [x]) m := by
  refine ⟨?_, fun y hy => ?_⟩
  · rw [List.nodup_append]
    exact ⟨h.nd, by simp, fun a ha b hb e => by simp at hb; subst hb; subst e; exact hn ha⟩
  · rcases List.mem_append.mp hy with hy | hy
    · exact h.sub y hy
    · simp at hy
      subst hy
      exact hx
theorem Sub.erase {α : Type} [BEq α] [LawfulBEq α] {l m : List α} (x : α) (h : Sub l m) : Sub (l.erase x) m := ⟨h.nd.erase x, fun y hy => h.sub y (List.mem_of_mem_erase hy)⟩
theorem Sub.len {α : Type} [BEq α] [LawfulBEq α] : ∀ {l m : List α}, Sub l m → l.length ≤ m.length
  | [], _, _ => Nat.zero_le _
  | x :: l, m, h => by
    have hx := h.sub x (by simp)
    have hn := List.nodup_cons.mp h.nd
    have : Sub l (m.erase x) := ⟨hn.2, fun y hy => (List.mem_erase_of_ne fun e => hn.1 (by rw [← e]; exact hy)).mpr (h.sub y (List.mem_cons_of_mem _ hy))⟩
    have := this.len
    rw [List.length_erase_of_mem hx] at this
    have : 0 < m.length := List.length_pos_of_mem hx
    rw [List.length_cons]
    omega
theorem Sub.put {α : Type} [DecidableEq α] {l m : List α} {x : α} {b : Bool} (h : Sub l m) (hx : x ∈ m) : Sub (putL l x b).1 m := by
  unfold putL
  split
  · exact h
  · rename_i hn
    split
    · rename_i hb
      subst hb
      exact h.add (by simpa using hn) hx
    · exact h.erase x
def flagL : List Int := [0, 1, 2, 3, 4, 5, 6, 7]
theorem flagL_mem {i : Int} (h0 : 0 ≤ i) (h7 : i ≤ 7) : i ∈ flagL := by
  have : i = 0 ∨ i = 1 ∨ i = 2 ∨ i = 3 ∨ i = 4 ∨ i = 5 ∨ i = 6 ∨ i = 7 := by omega
  simp [flagL, this]
structure Bd.Ok (P : Pl) (B : Bd) : Prop where
  sh : Sub B.shut P.names
  wa : Sub B.wanted P.names
  hi : Sub B.high P.names
  ta : Sub B.taken P.names
  ra : Sub B.raised flagL
  jk : B.joined.map (·.1) = P.order
  sn : (B.spots.map (·.1)).Nodup
  ss : ∀ x ∈ B.spots, x.1 ∈ P.names
  wn : (B.wanting.map (·.1)).Nodup
  wk : ∀ z, z ∈ B.wanting.map (·.1) ↔ z ∈ B.wanted
  wi : ∀ x ∈ B.wanting, 0 ≤ x.2 ∧ x.2 < B.rung.length
  rl : B.results.length = B.rung.length
theorem delK_map {l : List (Str × Int)} {z : Str} : (delK l z).map (·.1) = (l.map (·.1)).filter fun y => !decide (y = z) := by
  unfold delK
  rw [List.filter_map]
  rfl
theorem delK_nd {l : List (Str × Int)} {z : Str} (h : (l.map (·.1)).Nodup) : ((delK l z).map (·.1)).Nodup := by
  rw [delK_map]
  exact h.sublist List.filter_sublist
theorem delK_mem {l : List (Str × Int)} {z : Str} {x : Str × Int} : x ∈ delK l z ↔ x ∈ l ∧ x.1 ≠ z := by
  unfold delK
  rw [List.mem_filter]
  simp
theorem delK_key {l : List (Str × Int)} {z y : Str} : y ∈ (delK l z).map (·.1) ↔ y ∈ l.map (·.1) ∧ y ≠ z := by
  rw [delK_map, List.mem_filter]
  simp
theorem putL_off {l : List Str} {z y : Str} (h : l.Nodup) : y ∈ (putL l z false).1 ↔ y ∈ l ∧ y ≠ z := by
  unfold putL
  split
  · rename_i q
    have q : z ∉ l := by simpa using q
    exact ⟨fun k => ⟨k, fun e => q (e ▸ k)⟩, fun k => k.1⟩
  · rw [if_neg (by decide)]
    rw [h.mem_erase_iff]
    exact ⟨fun k => ⟨k.2, k.1⟩, fun k => ⟨k.2, k.1⟩⟩
theorem bump_fst (l : List (Str × Int)) (z : Str) : (bump l z).map (·.1) = l.map (·.1) := by
  unfold bump
  rw [List.map_map]
  apply List.map_congr_left
  intro x _
  show (if x.1 = z then (x.1, x.2 + 1) else x).1 = x.1
  split <;> rfl
theorem Bd.Ok.ring {P : Pl} {B : Bd} (h : B.Ok P) {z : Str} (hz : z ∈ P.names) : (B.ring P z).1.Ok P := by
  unfold Bd.ring
  split
  · split
    · refine ⟨h.sh, h.wa, h.hi, h.ta, h.ra, by show (bump B.joined z).map (·.1) = _; rw [bump_fst]; exact h.jk, h.sn, h.ss, h.wn, h.wk, fun x hx => ?_, ?_⟩
      · have := h.wi x hx
        show 0 ≤ x.2 ∧ x.2 < ((B.rung ++ [(B.time, z)]).length : Nat)
        rw [List.length_append, List.length_singleton]
        omega
      · show (B.results ++ [_]).length = (B.rung ++ [_]).length
        rw [List.length_append, List.length_append, List.length_singleton, List.length_singleton, h.rl]
    · rename_i hn
      have hk : z ∉ B.wanting.map (·.1) := fun k => hn ((h.wk z).mp k)
      refine ⟨h.sh, h.wa.add hn hz, h.hi, h.ta, h.ra, h.jk, h.sn, h.ss, ?_, fun y => ?_, fun x hx => ?_, ?_⟩
      · show (List.map (fun x : Str × Int => x.1) (B.wanting ++ [(z, _)])).Nodup
        rw [List.map_append, List.nodup_append]
        exact ⟨h.wn, by simp, fun a ha b hb e => by simp at hb; subst hb; subst e; exact hk ha⟩
      · show y ∈ List.map (fun x : Str × Int => x.1) (B.wanting ++ [(z, _)]) ↔ y ∈ B.wanted ++ [z]
        rw [List.map_append, List.mem_append, List.mem_append, h.wk y]
        simp
      · show 0 ≤ x.2 ∧ x.2 < ((B.rung ++ [(B.time, z)]).length : Nat)
        rw [List.length_append, List.length_singleton]
        rcases List.mem_append.mp hx with hx | hx
        · have := h.wi x hx
          omega
        · rw [List.mem_singleton.mp hx]
          dsimp only
          omega
      · show (B.results ++ [_]).length = (B.rung ++ [_]).length
        rw [List.length_append, List.length_append, List.length_singleton, List.length_singleton, h.rl]
  · split
    · exact ⟨h.sh, h.wa, h.hi, h.ta, h.ra, by show (bump B.joined z).map (·.1) = _; rw [bump_fst]; exact h.jk, h.sn, h.ss, h.wn, h.wk, h.wi, h.rl⟩
    · rename_i hn
      exact ⟨h.sh, h.wa, h.hi.add hn hz, h.ta, h.ra, h.jk, h.sn, h.ss, h.wn, h.wk, h.wi, h.rl⟩
theorem Bd.Ok.begun {P : Pl} {B : Bd} (h : B.Ok P) {z : Str} (hz : z ∈ P.names) (hn : z ∉ B.taken) : (B.begun z).Ok P := by
  refine ⟨h.sh, h.wa.put hz, h.hi, h.ta.add hn hz, h.ra, h.jk, delK_nd h.sn, fun x hx => h.ss x (delK_mem.mp hx).1, delK_nd h.wn, fun y => ?_, fun x hx => h.wi x (delK_mem.mp hx).1, ?_⟩
  · show y ∈ (delK B.wanting z).map (·.1) ↔ y ∈ (putL B.wanted z false).1
    rw [delK_key, putL_off h.wa.nd, h.wk y]
  · show (match getK B.wanting z with
      | none => B.results
      | some n => B.results.set n.toNat (.se B.time B.here) : List Ft).length = _
    split
    · exact h.rl
    · rw [List.length_set]
      exact h.rl
theorem Bd.Ok.ended {P : Pl} {B : Bd} (h : B.Ok P) (z : Str) : (B.ended z).Ok P := ⟨h.sh, h.wa, h.hi, h.ta.erase z, h.ra, h.jk, h.sn, h.ss, h.wn, h.wk, h.wi, h.rl⟩
def CarryIs (P : Pl) (s : Str × Key) : Prop := (s.1 ∈ (["ring", "quiet", "mask", "unmask"] : List Str) ∧ ∃ z, s.2 = .inr z ∧ z ∈ P.names) ∨ (s.1 ∈ (["set", "clear"] : List Str) ∧ ∃ i, s.2 = .inl i ∧ 0 ≤ i ∧ i ≤ 7)
theorem Bd.Ok.carry {P : Pl} {B : Bd} (h : B.Ok P) {s : Str × Key} (hs : CarryIs P s) : (B.carry P s).1.Ok P := by
  obtain ⟨w, k⟩ := s
  rcases hs with ⟨hw, z, e, hz⟩ | ⟨hw, i, e, h0, h7⟩
  · simp only at e hw
    subst e
    simp only [List.mem_cons, List.not_mem_nil, or_false] at hw
    rcases hw with rfl | rfl | rfl | rfl
    · exact h.ring hz
    · exact ⟨h.sh, h.wa, h.hi.put hz, h.ta, h.ra, h.jk, delK_nd h.sn, fun x hx => h.ss x (delK_mem.mp hx).1, h.wn, h.wk, h.wi, h.rl⟩
    · exact ⟨h.sh.put hz, h.wa, h.hi, h.ta, h.ra, h.jk, h.sn, h.ss, h.wn, h.wk, h.wi, h.rl⟩
    · exact ⟨h.sh.put hz, h.wa, h.hi, h.ta, h.ra, h.jk, h.sn, h.ss, h.wn, h.wk, h.wi, h.rl⟩
  · simp only at e hw
    subst e
    simp only [List.mem_cons, List.not_mem_nil, or_false] at hw
    rcases hw with rfl | rfl
    · exact ⟨h.sh, h.wa, h.hi, h.ta, h.ra.put (flagL_mem h0 h7), h.jk, h.sn, h.ss, h.wn, h.wk, h.wi, h.rl⟩
    · exact ⟨h.sh, h.wa, h.hi, h.ta, h.ra.put (flagL_mem h0 h7), h.jk, h.sn, h.ss, h.wn, h.wk, h.wi, h.rl⟩
theorem Pl.Ok.len {P : Pl} (ok : P.Ok) : P.names.length ≤ 12 := by
  unfold Pl.names
  rw [List.length_map]
  exact ok.l12
theorem Sub.len12 {P : Pl} (ok : P.Ok) {l : List Str} (h : Sub l P.names) : l.length ≤ 12 := Nat.le_trans h.len ok.len
structure BA where
  b : Addr
  sh : Addr
  wa : Addr
  hi : Addr
  ta : Addr
  ra : Addr
  jo : Addr
  sp : Addr
  ru : Addr
  re : Addr
  wt : Addr
def BA.own (D : BA) : List Addr := [D.b, D.sh, D.wa, D.hi, D.ta, D.ra, D.jo, D.sp, D.ru, D.re, D.wt]
def optV : Option Int → V
  | none => .non
  | some i => .int i
def optD : Option Int → PyData
  | none => .none
  | some i => .int i
def dFt : Ft → PyData
  | .op => .none
  | .me n => .tuple [.str "merged", .int n]
  | .se t p => .tuple [.str "served", .int t, optD p]
def dRg (x : Int × Str) : PyData := .tuple [.int x.1, .str x.2]
def boardF (p : Addr) (D : BA) (B : Bd) : List (Str × V) := [("plan", .ref p), ("shut", .ref D.sh), ("wanted", .ref D.wa), ("high", .ref D.hi), ("taken", .ref D.ta), ("raised", .ref D.ra), ("joined", .ref D.jo), ("time", .int B.time), ("here", optV B.here), ("spots", .ref D.sp), ("rung", .ref D.ru), ("results", .ref D.re), ("wanting", .ref D.wt)]
theorem bdF_plan {p : Addr} {D : BA} {B : Bd} : (boardF p D B).lookup ("plan" : Str) = some (.ref p) := by kernel_rfl
theorem bdF_sh {p : Addr} {D : BA} {B : Bd} : (boardF p D B).lookup ("shut" : Str) = some (.ref D.sh) := by kernel_rfl
theorem bdF_wa {p : Addr} {D : BA} {B : Bd} : (boardF p D B).lookup ("wanted" : Str) = some (.ref D.wa) := by kernel_rfl
theorem bdF_hi {p : Addr} {D : BA} {B : Bd} : (boardF p D B).lookup ("high" : Str) = some (.ref D.hi) := by kernel_rfl
theorem bdF_ta {p : Addr} {D : BA} {B : Bd} : (boardF p D B).lookup ("taken" : Str) = some (.ref D.ta) := by kernel_rfl
theorem bdF_ra {p : Addr} {D : BA} {B : Bd} : (boardF p D B).lookup ("raised" : Str) = some (.ref D.ra) := by kernel_rfl
theorem bdF_jo {p : Addr} {D : BA} {B : Bd} : (boardF p D B).lookup ("joined" : Str) = some (.ref D.jo) := by kernel_rfl
theorem bdF_tm {p : Addr} {D : BA} {B : Bd} : (boardF p D B).lookup ("time" : Str) = some (.int B.time) := by kernel_rfl
theorem bdF_hr {p : Addr} {D : BA} {B : Bd} : (boardF p D B).lookup ("here" : Str) = some (optV B.here) := by kernel_rfl
theorem bdF_sp {p : Addr} {D : BA} {B : Bd} : (boardF p D B).lookup ("spots" : Str) = some (.ref D.sp) := by kernel_rfl
theorem bdF_ru {p : Addr} {D : BA} {B : Bd} : (boardF p D B).lookup ("rung" : Str) = some (.ref D.ru) := by kernel_rfl
theorem bdF_re {p : Addr} {D : BA} {B : Bd} : (boardF p D B).lookup ("results" : Str) = some (.ref D.re) := by kernel_rfl
theorem bdF_wt {p : Addr} {D : BA} {B : Bd} : (boardF p D B).lookup ("wanting" : Str) = some (.ref D.wt) := by kernel_rfl
def joinK (l : List (Str × Int)) : List (Key × V) := l.map fun x => (.inr x.1, .int x.2)
structure BoardAt (K : Fg) (H : Hp) (p : Addr) (D : BA) (B : Bd) : Prop where
  nd : D.own.Nodup
  ins : ∃ dx, H D.b = some (.ins (ga K "HouseBoard") dx (boardF p D B))
  sh : H D.sh = some (.lst (B.shut.map V.str))
  wa : H D.wa = some (.lst (B.wanted.map V.str))
  hi : H D.hi = some (.lst (B.high.map V.str))
  ta : H D.ta = some (.lst (B.taken.map V.str))
  ra : H D.ra = some (.lst (B.raised.map V.int))
  jo : H D.jo = some (.dK (joinK B.joined))
  sp : H D.sp = some (.dK (joinK B.spots))
  wt : H D.wt = some (.dK (joinK B.wanting))
  ru : ∃ ys, H D.ru = some (.lst ys) ∧ DpAll K H ys (B.rung.map dRg)
  re : ∃ ys, H D.re = some (.lst ys) ∧ DpAll K H ys (B.results.map dFt)
theorem tupd_ft (f : Ft) : tupd (dFt f) = true := by
  cases f with
  | op => rfl
  | me n => rfl
  | se t p => cases p <;> rfl
theorem tupd_rg (x : Int × Str) : tupd (dRg x) = true := rfl
section
variable {K : Fg} {H H' : Hp} {p : Addr} {D : BA} {B : Bd}
theorem BoardAt.keep (h : BoardAt K H p D B) {A : List Addr} (f : Fr A H H') (n : ∀ a ∈ D.own, a ∉ A) : BoardAt K H' p D B := by
  have n' : D.b ∉ A ∧ D.sh ∉ A ∧ D.wa ∉ A ∧ D.hi ∉ A ∧ D.ta ∉ A ∧ D.ra ∉ A ∧ D.jo ∉ A ∧ D.sp ∉ A ∧ D.ru ∉ A ∧ D.re ∉ A ∧ D.wt ∉ A := by simpa [BA.own] using n
  obtain ⟨nb, nsh, nwa, nhi, nta, nra, njo, nsp, nru, nre, nwt⟩ := n'
  obtain ⟨dx, e⟩ := h.ins
  obtain ⟨ys, e1, a1⟩ := h.ru
  obtain ⟨zs, e2, a2⟩ := h.re
  exact ⟨h.nd, ⟨dx, f.at e nb⟩, f.at h.sh nsh, f.at h.wa nwa, f.at h.hi nhi, f.at h.ta nta, f.at h.ra nra, f.at h.jo njo, f.at h.sp nsp, f.at h.wt nwt, ⟨ys, f.at e1 nru, a1.tk f.tk (tupds_map tupd_rg _)⟩, ⟨zs, f.at e2 nre, a2.tk f.tk (tupds_map tupd_ft _)⟩⟩
theorem BoardAt.same (h : BoardAt K H p D B) (s : Same H H') : BoardAt K H' p D B := h.keep (A := []) s.fr (by simp)
local macro_rules | `(tactic| walk_at "bd") => `(tactic| (rw [upd_ne (by first | assumption | (apply Ne.symm; assumption))]; assumption))
local macro_rules | `(tactic| walk_at "bd") => `(tactic| exact upd_same)
end
end Z
set_option maxHeartbeats 2000000
namespace Z
open PySem PySem.Spec PyProof.Rows L2
end Z
set_option maxHeartbeats 2000000
namespace Z
open PySem PySem.Spec PyProof.Rows L2
end Z
set_option maxHeartbeats 1000000
namespace Z
open PySem PySem.Spec PyProof.Rows L2
open He (ga ma)
end Z
set_option maxHeartbeats 4000000
namespace Z
open PySem PySem.Spec PyProof.Rows L2
def ItzM (K : Fg) (a b : Addr) : It where
  go := fun i H => ∃ xs ys x y, SqL K H a xs ∧ SqT K H b ys ∧ xs[i]? = some x ∧ ys[i]? = some y
  yld := fun i H v H' => ∃ T x y, v = .ref T ∧ H T = none ∧ H' = upd H T (.tup [x, y]) ∧ (∀ xs, SqL K H a xs → xs[i]? = some x) ∧ ∀ ys, SqT K H b ys → ys[i]? = some y
  stop := fun i H => ∃ xs ys, SqL K H a xs ∧ SqT K H b ys ∧ i ≤ xs.length ∧ i ≤ ys.length ∧ (i = xs.length ∨ i = ys.length)
theorem zsep {n a b : Nat} (h1 : a < n) (h2 : b < n) : ZipSep2 (n + 4) (n + 2) (n + 3) n (n + 1) [n, a] [n + 1, b] := by
  have z : ∀ {x y : Nat}, x ≠ y → (show Addr from x) ≠ (show Addr from y) := fun h => h
  constructor
  all_goals first
    | exact z (by omega)
    | (simp only [List.mem_cons, List.not_mem_nil, or_false, not_or, true_or]; done)
    | (intro hm
       simp only [List.mem_cons, List.not_mem_nil, or_false] at hm
       rcases hm with e | e
       · exact absurd e (z (by omega))
       · exact absurd e (z (by omega)))
theorem turn_zipM {P : Program} {w : World} {K : Fg} {elts : List Expr} {kk : Nat} {tpos : Pos} {a b z TI TO i1 i2 : Addr} (S : ZipSep2 z TI TO i1 i2 [i1, a] [i2, b]) (n1 : a ≠ i1) (n2 : b ≠ i2) :
    Turn P w K (.Tuple elts kk tpos) (ItzM K a b) [z, TI, TO, i1, i2] z (fun i h => IsZip h z TI TO .none ∧ IsTupOf2 h TI (.ref i1) (.ref i2) ∧ (∃ x y, IsTupOf2 h TO x y) ∧ h.IsListIter i1 a i ∧ h.IsTupleIter i2 b i) where
  mem := List.mem_cons_self
  obj := by
    rintro i h ⟨hz, hTI, ⟨x, y, hTO⟩, ⟨o1, e1, _, d1⟩, o2, e2, _, d2⟩ c hc
    simp only [List.mem_cons, List.not_mem_nil, or_false] at hc
    rcases hc with rfl | rfl | rfl | rfl | rfl
    · exact ⟨_, hz, fun v q => nomatch q⟩
    · exact ⟨_, hTI, fun v q => nomatch q⟩
    · exact ⟨_, hTO, fun v q => nomatch q⟩
    · exact ⟨o1, e1, fun v q => by rw [d1] at q; cases q⟩
    · exact ⟨o2, e2, fun v q => by rw [d2] at q; cases q⟩
  keep := by
    rintro i h h' ⟨hz, hTI, ⟨x, y, hTO⟩, h1, h2⟩ k
    exact ⟨k z (by simp) _ hz, k TI (by simp) _ hTI, ⟨x, y, k TO (by simp) _ hTO⟩, h1.at (k i1 (by simp)), h2.at (k i2 (by simp))⟩
  item := by
    rintro X rfl rfl rfl hc i pins s σ H E I hf ⟨hz, hTI, ⟨x0, y0, hTO⟩, h1, h2⟩ ⟨xs, ys, x, y, hqx, hqy, hx, hy⟩
    obtain ⟨its, rv, p, _⟩ := I.list hqx
    obtain ⟨its2, rv2, p2, _⟩ := I.tuple hqy
    obtain ⟨u, hu, ru⟩ := rv.get hx
    obtain ⟨u2, hu2, ru2⟩ := rv2.get hy
    have hzl : z < s.heap.objs.size := Heap.lt_size hz
    have lt1 : i < its.toArray.size := by rw [List.size_toArray]; exact (List.getElem?_eq_some_iff.mp hu).1
    have lt2 : i < its2.toArray.size := by rw [List.size_toArray]; exact (List.getElem?_eq_some_iff.mp hu2).1
    refine wpAny_pyNext_zipD2_item S (Draws.list (prog := X.prog) (w := X.w) (A := X.A.in1) (I.ok.hd hc) i1 a n1 its.toArray) (Draws.tuple (prog := X.prog) (w := X.w) (A := X.A.in1) (I.ok.hd hc) i2 b n2 its2.toArray) hz hTI hTO ⟨h1, p.isList⟩ ⟨h2, p2⟩ lt1 lt2 ?_
    intro v1 v2 h' tk q1 q2 z' TO' t1 t2 hT hsz hk
    have e1 : v1 = u := by simpa [hu] using q1.symm
    have e2 : v2 = u2 := by simpa [hu2] using q2.symm
    subst e1 e2
    refine ⟨_, rfl, wpAny_letOwnedTupleGo_zip (s := { s with heap := h', toks := tk }) z' fun h'' z'' sb => ?_⟩
    have hT2 : h''.get? s.heap.objs.size = some { cls := .type "tuple", data := .seq #[v1, v2] } := (sb.2 _ (Nat.ne_of_gt hzl)).trans hT
    have new : ObjOk X.prog X.w (upd H s.heap.objs.size (.tup [x, y])) h'' s.heap.objs.size (.tup [x, y]) := ⟨by show 2 ≤ sizeLine; decide, [v1, v2], .cons ru (.cons ru2 .nil), _, hT2, rfl, _, rfl⟩
    have five : ∀ {c : Addr}, c ∉ [z, TI, TO, i1, i2] → c ≠ z ∧ c ≠ TO ∧ c ≠ i1 ∧ c ≠ i2 := fun hn => by
      simp only [List.mem_cons, List.not_mem_nil, or_false, not_or] at hn
      exact ⟨hn.1, hn.2.2.1, hn.2.2.2.1, hn.2.2.2.2⟩
    refine ⟨.ref s.heap.objs.size, _, I.turnedNew (t' := tk) (ch := [z, TI, TO, i1, i2]) (fun c o hb q => ?_) hf (Nat.le_refl _) new, rfl, ⟨_, x, y, rfl, I.hok.fresh (Nat.le_refl _), rfl, fun l hl => by rw [I.list_inj hl hqx]; exact hx, fun l hl => by rw [I.tuple_inj hl hqy]; exact hy⟩, ⟨z'', ?_, ⟨v1, v2, ?_⟩, ?_, ?_⟩, fun c hcm => ?_⟩
    · obtain ⟨c1, c2, c3, c4⟩ := five hb
      exact (sb.2 _ c1).trans (hk c o c1 c2 c3 c4 q)
    · exact (sb.2 _ S.TIz).trans (hk _ _ S.TIz S.TITO S.TIi1 S.TIi2 hTI)
    · exact (sb.2 _ S.TOz).trans TO'
    · exact t1.1.at fun o q => (sb.2 _ (Ne.symm S.zi1)).trans q
    · exact t2.1.at fun o q => (sb.2 _ (Ne.symm S.zi2)).trans q
    · have hlt : c < s.heap.objs.size := by
        simp only [List.mem_cons, List.not_mem_nil, or_false] at hcm
        rcases hcm with rfl | rfl | rfl | rfl | rfl
        · exact hzl
        · exact Heap.lt_size hTI
        · exact Heap.lt_size hTO
        · exact Heap.lt_size h1.choose_spec.1
        · exact Heap.lt_size h2.choose_spec.1
      rw [upd_ne (Nat.ne_of_lt hlt)]
      exact (hf c hcm).1
  done := by
    rintro X rfl rfl rfl hc i pins s σ H E I hf ⟨hz, hTI, ⟨x0, y0, hTO⟩, h1, h2⟩ ⟨xs, ys, hqx, hqy, le1, le2, hend⟩
    obtain ⟨its, rv, p, _⟩ := I.list hqx
    obtain ⟨its2, rv2, p2, _⟩ := I.tuple hqy
    have l1 := rv.length
    have l2 := rv2.length
    refine wpAny_pyNext_zipD2_end S (Draws.list (prog := X.prog) (w := X.w) (A := X.A.in1) (I.ok.hd hc) i1 a n1 its.toArray) (Draws.tuple (prog := X.prog) (w := X.w) (A := X.A.in1) (I.ok.hd hc) i2 b n2 its2.toArray) hz hTI hTO ⟨h1, p.isList⟩ ⟨h2, p2⟩ (by rw [List.size_toArray]; omega) (by rw [List.size_toArray]; omega) (by rw [List.size_toArray, List.size_toArray]; omega) fun h' tk hk => ?_
    refine ⟨rfl, I.turnedL (t' := tk) (ch := [z, TI, TO, i1, i2]) (fun c o hb q => ?_) hf⟩
    simp only [List.mem_cons, List.not_mem_nil, or_false, not_or] at hb
    exact hk c o hb.1 hb.2.2.1 hb.2.2.2.1 hb.2.2.2.2 q
  self := fun A i s Q E st h => wpAny_pyIter_zip st.1 h
def iZipM (K : Fg) (ta : TA) : TI := fun σ H R => ta σ H fun vs H1 => ∃ a b xs ys, vs = [.ref a, .ref b] ∧ SqL K H1 a xs ∧ SqT K H1 b ys ∧ R (ItzM K a b) H1
theorem pi_zipM {X : Cx} {e e2 : Expr} {ta : TA} {p pos tpos : Pos} {elts : List Expr} {kk : Nat} (hg : Gl X "zip") (hm : X.mg "zip" = none) (ha : L2.PA X [e, e2] ta)
    (hs : starEach [e, e2] X.env = (false, eval e X.env) :: starEach [e2] X.env := by rfl) (hpl : (backTo pos (starEach [e2] X.env)).any (·.1) = false := by rfl) :
    PI X (.Tuple elts kk tpos) (.Call (.Name "zip" p) [e, e2] [] pos) (iZipM X.K ta) := by
  refine ⟨fun pins s σ H R I h => Call_ (ld_blt I hg hm PyProof.Rows.boot_zip (PyProof.Rows.callWith_type1 (thn (ha.run pos pins s σ H _ I h) ?_) hs hpl))⟩
  rintro us s1 ⟨vs, H1, I1, r1, a, b, xs, ys, rfl, hqx, hqy, q⟩
  cases r1 with | cons r rr => ?_
  cases rr with | cons r' rr => ?_
  cases rr
  cases r
  cases r'
  obtain ⟨its, rv, p1, _⟩ := I1.list hqx
  obtain ⟨its2, rv2, p2, _⟩ := I1.tuple hqy
  have la : a < s1.heap.objs.size := p1.lt
  have lb : b < s1.heap.objs.size := Heap.lt_size p2.choose_spec.1
  refine zip_begins2 (begins_list a its.toArray) (begins_tuple b its2.toArray) p1.isList p2 fun h' hz hTI hTO g1 g2 hsz hk => wpAny_pyIter_zip hz ?_
  refine ⟨s1.heap.objs.size + 4, [s1.heap.objs.size + 4, s1.heap.objs.size + 2, s1.heap.objs.size + 3, s1.heap.objs.size, s1.heap.objs.size + 1], _, _, H1, rfl, I1.kept (t' := s1.toks) hk, turn_zipM (zsep la lb) (Nat.ne_of_lt la) (Nat.ne_of_lt (Nat.lt_succ_of_lt lb)), ⟨hz, hTI, ⟨_, _, hTO⟩, ⟨_, g1, rfl, rfl⟩, ⟨_, g2, rfl, rfl⟩⟩, fun c hcm => ?_, q⟩
  have hle : s1.heap.objs.size ≤ c := by
    simp only [List.mem_cons, List.not_mem_nil, or_false] at hcm
    rcases hcm with rfl | rfl | rfl | rfl | rfl
    · exact Nat.le_add_right _ _
    · exact Nat.le_add_right _ _
    · exact Nat.le_add_right _ _
    · exact Nat.le_refl _
    · exact Nat.le_add_right _ _
  exact I1.fpOk hle (I1.hok.fresh hle)
theorem kIZM {X : Cx} (K : Fg) {tg e : Expr} {ta : TA} (h : PI X tg e (iZipM X.K ta)) (hK : X.K = K := by rfl) : PI X tg e (iZipM K ta) := by subst hK; exact h
theorem s_zipM {K : Fg} {ta : TA} {σ : L2.St} {H : Hp} {R : It → Hp → Prop} (q : ta σ H fun vs H1 => ∃ a b xs ys, vs = [.ref a, .ref b] ∧ SqL K H1 a xs ∧ SqT K H1 b ys ∧ R (ItzM K a b) H1) : iZipM K ta σ H R := q
theorem walk_zipM {K : Fg} {a b : Addr} {xs ys : List V} (hn : xs.length = ys.length) : Walk (ItzM K a b) xs.length (fun H => SqL K H a xs ∧ SqT K H b ys) (YPair (fun i => xs[i]?) (fun i => ys[i]?)) := by
  refine ⟨fun i _ hi q => ?_, fun _ q => ⟨xs, ys, q.1, q.2, Nat.le_refl _, by omega, .inl rfl⟩, fun i H v H' _ q y => ?_⟩
  · have h2 : i < ys.length := by omega
    exact ⟨xs, ys, xs[i], ys[i], q.1, q.2, List.getElem?_eq_getElem hi, List.getElem?_eq_getElem h2⟩
  · obtain ⟨T, x, z, h1, h2, h3, h4, h5⟩ := y
    exact ⟨T, x, z, h1, h2, h3, h4 xs q.1, h5 ys q.2⟩
theorem tuple_mul1 (l : Addr) (items : Array Value) (n : Nat) (dd : Option Addr) (sl : Array (Option Value)) (u : Tok) :
    Meets (Builtin.«tuple.__mul__» ⟨[.ref l, .int 1 u], []⟩) (fun _ R s => s.heap.get? l = some { cls := .type "tuple", dict := dd, data := .seq items n, slots := sl } ∧ R (.ok (.ret (Value.ref l))) s) :=
  .of_wp fun prog w A R s h => by
    obtain ⟨hp, g, d, tk, os⟩ := s
    obtain ⟨hl, h⟩ := h
    have f1 := AutoSeq1.idx_int
    wp_walk using wpAny_loadPart' hl
    exact ⟨_, rfl, h⟩
def rRepU (K : Fg) : R2 := fun x y H Q => ∃ l k xs, x = .ref l ∧ y = .int k ∧ SqT K H l xs ∧ xs ≠ [] ∧ 1 ≤ k ∧ k ≤ 1000 ∧ xs.length ≤ 1000 ∧ ∀ p H', Same H H' → SqT K H' p (List.replicate k.toNat xs).flatten → Q (.ref p) H'
theorem op_repU (K : Fg) {X : Cx} (hK : X.K = K := by rfl) : OpR X (binaryOp .Mult) (rRepU K) := by
  subst hK
  intro pins s σ H x y v u Q I rx ry ⟨l, k, xs, ex, ey, hT, hne, h1, h2, hz, q⟩
  by_cases hk : k = 1
  · subst ex ey hk
    cases rx
    obtain ⟨t, rfl⟩ := ry
    obtain ⟨its, r, ⟨⟨cls, dd, data, sl⟩, ho, hc, n, hd⟩, hs⟩ := I.tuple hT
    simp only at hc hd
    subst hc hd
    have key : ∃ v' H', L2.Inv X pins σ H' s ∧ RelV v' (.ref l) ∧ Q v' H' := by
      refine ⟨.ref l, H, I, rfl, q l H (fun a o h => h) ?_⟩
      have e : (List.replicate (1 : Int).toNat xs).flatten = xs := by simp
      rw [e]
      exact hT
    exact wpAny_binaryOp_repeat_ref (T := "tuple") (U := "int") (by decide) ⟨_, ho, rfl⟩ (fun s' => typeIs_int s' 1 t) noFill_tuple_mul F.fills_int_mul F.slot_int_rmul repeat_tuple F.slot_int_index.lookup
      (call_meets F.slot_int_rmul (typeIs_int s 1 t) F.entry_int_rmul (F.args_int_rmul_2 _ _) (int_rmul_tuple 1 t l its.toArray n dd sl)
        ⟨ho, rfl, ⟨_, ho, rfl⟩, call_meets F.slot_tuple_mul ⟨_, ho, rfl⟩ F.entry_tuple_mul (F.args_tuple_mul_2 _ _) (tuple_mul1 l its.toArray n dd sl t) ⟨ho, key⟩⟩)
  · refine op_repT pins s σ H x y v u Q I rx ry ⟨l, k, xs, ex, ey, hT, hne, by omega, h2, hz, fun p hp => q p _ (Same.new hp) ?_⟩
    exact SqT.of upd_same
theorem s_repU {K : Fg} {H : Hp} {Q : VK} {l : Addr} {k : Int} {xs : List V} (hT : SqT K H l xs) (hne : xs ≠ []) (h1 : 1 ≤ k) (h2 : k ≤ 1000) (hz : xs.length ≤ 1000) (q : ∀ p H', Same H H' → SqT K H' p (List.replicate k.toNat xs).flatten → Q (.ref p) H') : rRepU K (.ref l) (.int k) H Q := ⟨l, k, xs, rfl, rfl, hT, hne, h1, h2, hz, q⟩
end Z
set_option maxHeartbeats 3200000
namespace Z
open PySem PySem.Spec PyProof.Rows L2 PySem.Froz
section
variable {P : Program} {w : World} {A : Around} {E : Value → Shared → Prop} {s : Shared}
theorem call_set_xT {a : Addr} {items : Array Value} {xs : List Str} {Q : Value → Shared → Prop} (hh : A.handled = none) (hl : s.heap.IsTuple a items) (hi : StrsAre items.toList xs) (small : items.size + 1 < scanBound)
    (h : ∀ (h' : Heap) (tk : Nat) D l, h'.get? s.heap.objs.size = some (sObj "set" D) → TxR P w D l → (∀ z, z ∈ l ↔ z ∈ xs) → l.length ≤ xs.length → (∀ b o, s.heap.get? b = some o → h'.get? b = some o) → Q (.ref s.heap.objs.size) { s with heap := h', toks := tk }) :
    wpAny (model P w) A (call (.type "set") [.ref a]) Q E s := by
  have sz : xs.length = items.size := by rw [← StrsAre.len_eq hi, Array.length_toList]
  obtain ⟨_, _, hmro⟩ := F.called_set.mro
  have hmade := F.called_set.made
  have hsub := F.called_set.sub
  refine wpAny_call (codeAny_of_tree ?_)
  show wpAny _ _ (callAny (.type "set") _) _ _ _
  refine wpAny_pure ⟨Code.quiet_builtin _ (by decide +kernel), codeAny_builtin F.entry_type_call ?_⟩
  rw [Around.under_plain (weight_type_call_type "set" [.ref a] []) rfl]
  have h1 := F.called_set.notType
  have h2 := F.called_set.canCreate
  have h3 := F.typeCall_set_1 (.ref a)
  repeat (any_goals (first | assumption | wp_step))
  refine codeAny_mono (code_set_led1 (.ref a) (E := E) (Q₁ := fun v s₁ => v = .ref s.heap.objs.size ∧ s₁ = { s with heap := s.heap.push (setNew w) }) ⟨rfl, rfl⟩) fun r s₁ hr => ?_
  cases r with
  | error e => exact hr
  | ok fl =>
    cases fl with
    | next => exact hr.elim
    | brk => exact hr.elim
    | cont => exact hr.elim
    | ret obj =>
      obtain ⟨rfl, rfl⟩ := hr
      have hS : (s.heap.push (setNew w)).get? s.heap.objs.size = some (setNew w) := Heap.get?_push_size _ rfl
      have hT : Shared.TypeIs { s with heap := s.heap.push (setNew w) } (.ref s.heap.objs.size) "set" := ⟨_, hS, rfl⟩
      have hli := F.called_set.init.lookup
      have hbi := F.called_set.init.bind (.ref s.heap.objs.size)
      repeat (any_goals (first | assumption | wp_step))
      refine codeAny_mono (codeAny_call_builtin (R := wants (fun r s₂ => r = .none ∧ ∃ h' tk, s₂ = { s with heap := h', toks := tk } ∧ Upto P w h' s.heap.objs.size xs items.size ∧ ∀ b o, s.heap.get? b = some o → h'.get? b = some o) E) F.called_set.init.plain F.entry_set_init (check_set_init_1 hT ?_)) fun r₂ s₂ hr₂ => ?_
      · obtain ⟨⟨_, od, _, os⟩, ha, rfl, ep, rfl⟩ := hl
        have less : a < s.heap.objs.size := Heap.lt_size ha
        have ha1 := Heap.get?_push_of_some (setNew w) ha
        have la : (s.heap.push (setNew w)).IsTuple a items := ⟨_, ha1, rfl, ep, rfl⟩
        have hx1 := F.sub_tuple_set
        have hx2 := F.sub_tuple_frozenset
        have hx3 : (Value.type "tuple" == Value.type "dict") = false := by decide
        have h8 : A.in1.in1.in1.handled = none := by simp [hh]
        have z1 : (s.heap.push (setNew w)).objs.size = s.heap.objs.size + 1 := Heap.size_push ..
        have hneI : a ≠ (s.heap.push (setNew w)).objs.size := by rw [z1]; exact Nat.ne_of_lt (Nat.lt_succ_of_lt less)
        have hSf : s.heap.objs.size ∉ [(s.heap.push (setNew w)).objs.size, a] := by
          rw [z1]
          simp only [List.mem_cons, List.mem_singleton, List.not_mem_nil, or_false, not_or]
          exact ⟨Nat.ne_of_lt (Nat.lt_succ_self _), Nat.ne_of_gt less⟩
        unfold Builtin.«set.__init__» noKeywords Builtin.Frozenset.updateFrom
        generalize ePI : pyIter = PI
        wp_walk
        subst ePI
        refine wpAny_pyIter_tuple la (wpAny_bind (wpAny_runValue ?_))
        refine loop_x (S := s.heap.objs.size) (xs := xs) ((Walks.tuple h8 _ a hneI items).toS) hSf small (fun i v hv => ?_) items.size 0 _ (Nat.zero_add _) ⟨⟨_, Heap.get?_push_size _ rfl, rfl, rfl⟩, la.push _⟩ ⟨(#[], 0, .fresh 0 0 (!w.params.followText "set-order")), [], Heap.get?_push_of_some _ hS, TxR.zero, Nat.le_refl _, fun z => by simp⟩ fun s' mv up => ?_
        · have lt : i < xs.length := by rw [sz]; exact (Array.getElem?_eq_some_iff.mp hv).1
          obtain ⟨t, e⟩ := SS.strs_at hi i v (by rw [Array.getElem?_toList]; exact hv)
          exact ⟨xs[i], t, List.getElem?_eq_getElem lt, by rw [e, List.getD_eq_getElem?_getD, List.getElem?_eq_getElem lt]; rfl⟩
        · obtain ⟨h', g2, d', tk', os'⟩ := s'
          obtain ⟨mh, rfl, rfl, rfl, _⟩ := mv
          show wpAny _ _ _ _ _ _
          refine wpAny_pure (show wpAny _ _ (ret Value.none) _ _ _ from wpAny_pure ⟨rfl, h', tk', rfl, up, fun b o e => ?_⟩)
          have lb : b < s.heap.objs.size := Heap.lt_size e
          exact mh b o (by rw [z1]; simp only [List.mem_cons, List.mem_singleton, List.not_mem_nil, or_false, not_or]; exact ⟨Nat.ne_of_lt lb, Nat.ne_of_lt (Nat.lt_succ_of_lt lb)⟩) (Heap.get?_push_of_some _ (Heap.get?_push_of_some _ e))
      · cases r₂ with
        | error e => exact hr₂
        | ok fl₂ =>
          cases fl₂ with
          | next => exact hr₂.elim
          | brk => exact hr₂.elim
          | cont => exact hr₂.elim
          | ret r =>
            obtain ⟨rfl, h', tk, rfl, ⟨D, l, q1, q2, q3, q4⟩, kp⟩ := hr₂
            repeat (any_goals (first | assumption | wp_step))
            rw [List.take_of_length_le (by omega)] at q4
            exact h _ _ D l q1 q2 q4 (by omega) kp
theorem sorted_set_y {a : Addr} {D : SD} {l : List Str} {Q : Value → Shared → Prop} (ho : s.heap.get? a = some (sObj "set" D)) (F : TxR P w D l) (hh : A.handled = none) (h64 : l.length < 64) (hu : A.units + 64 < cLine)
    (hQ : ∀ s' p (out : List Value) (c : Nat) (zs : List Str), (∀ b o, s.heap.get? b = some o → s'.heap.get? b = some o) → s'.gens = s.gens → s'.os = s.os → s.heap.objs.size ≤ p →
      s'.heap.get? p = some (seqObj "list" out.toArray c) → PySem.W.EachIs (fun v z => ∃ u, v = Value.str z u) out zs → (∃ m : List Str, m.Perm l ∧ zs = m.mergeSort (PySem.W.dataLe false PyData.str)) → Q (.ref p) s') :
    wpAny (model P w) A (call (.builtin "sorted") [.ref a]) Q E s := by
  obtain ⟨es, ep, t⟩ := D
  have hsz : es.size = l.length := F.ok.sz
  refine Calls.call_function_entry kind_sorted plain_sorted entry_sorted (args_sorted1 _) ?_
  unfold Builtin.«sorted»
  refine wpAny_bind (m := checkCount "sorted" 1 1 _) (wpAny_pure ?_)
  refine wpAny_bind (collect_set (A := A.in1) hh ⟨_, ho, rfl, rfl⟩ F.ok.fit (by show es.size < scanBound; unfold scanBound; omega) F.ris F.led fun s1 vs k1 hz g1 o1 pm => ?_)
  have pm : vs.Perm (es.toList.map (·.2)) := pm
  have hvl : vs.length = l.length := by rw [pm.length_eq, List.length_map, Array.length_toList]; exact hsz
  have hstr : ∀ v ∈ vs, ∃ z u, v = Value.str z u := fun v hv => by
    obtain ⟨e, he, q⟩ := List.mem_map.mp (pm.mem_iff.mp hv)
    obtain ⟨⟨z, h1, _⟩, _⟩ := F.ok.el e he
    obtain ⟨u, h2⟩ := Value.isStrOf_shape h1
    exact ⟨z, u, q.symm.trans h2⟩
  have pz : (vs.map strOf).Perm l := by
    refine perm_all F.nd (fun z hz => ?_) (by rw [List.length_map, hvl]; exact Nat.le_refl _)
    obtain ⟨e, he, h1⟩ := (F.ok.mem z).mp hz
    obtain ⟨u, h2⟩ := Value.isStrOf_shape h1
    exact List.mem_map.mpr ⟨e.2, pm.mem_iff.mpr (List.mem_map.mpr ⟨e, he, rfl⟩), by rw [h2]; rfl⟩
  refine wpAny_bind (wpAny_newList ?_ (by rw [hvl, sizeLine_eq]; omega))
  have hoL : (s1.heap.push (seqObj "list" vs.toArray 0)).get? s1.heap.objs.size = some (seqObj "list" vs.toArray 0) := Heap.get?_push_size _ rfl
  obtain ⟨e1, e2⟩ := each_str0 (h := s1.heap.push (seqObj "list" vs.toArray 0)) (b := s1.heap.objs.size) hstr
  refine wpAny_bind (wpAny_holding (PySem.W.list_sort_data (s := { s1 with heap := s1.heap.push (seqObj "list" vs.toArray 0) }) (enc := PyData.str) hoL e1 e2 (PySem.W.AllAlike.of (fun _ _ => rfl)) (PySem.W.Sortable.others (fun b => ⟨by simp, by simp⟩)) (by rw [List.length_map, hvl, sizeLine_eq]; omega) (fun b _ => ?_) fun out hl he => ?_))
  · show A.units + 1 + 1 + 0 < cLine
    omega
  · obtain ⟨c, hc⟩ := sortedHeap_at (vs := vs) (out := out.toArray) hoL
    refine wpAny_pure ⟨_, rfl, hQ { s1 with heap := sortedHeap (s1.heap.push (seqObj "list" vs.toArray 0)) s1.heap.objs.size vs out.toArray } s1.heap.objs.size out c _ (fun b u e => ?_) g1 o1 hz hc he ⟨_, pz, rfl⟩⟩
    have q := k1 b u e
    have hlt := Heap.lt_size q
    show (sortedHeap (s1.heap.push (seqObj "list" vs.toArray 0)) s1.heap.objs.size vs out.toArray).get? b = some u
    rw [sortedHeap_old (Nat.ne_of_lt hlt) (by rw [size_push']; exact Nat.lt_succ_of_lt hlt)]
    exact Heap.get?_push_of_some _ q
end
section
variable {X : Cx}
def rSetT (K : Fg) (P : Program) (w : World) : List V → Hp → VK → Prop := fun vs H Q => ∃ (a : Addr) (xs : List Str), vs = [V.ref a] ∧ SqT K H a (xs.map V.str) ∧ xs.length < 4000 ∧ ∀ p l, H p = none → l.Nodup → (∀ z, z ∈ l ↔ z ∈ xs) → l.length ≤ xs.length → Q (.ref p) (upd H p (SetX P w p l))
theorem cr_setT (hc : X.calm = true) : CallR X (.type "set") (rSetT X.K X.prog X.w) := by
  intro pins s σ H vs us Q I r ⟨a, xs, e, hq, hz, q⟩
  subst e
  rw [Vals.ref1 r]
  have hn : H s.heap.objs.size = none := I.hok.fresh (Nat.le_refl _)
  obtain ⟨its, rv, pl, _⟩ := I.tuple hq
  have hl : its.length = xs.length := by rw [← rv.length, List.length_map]
  refine call_set_xT (I.ok.hd hc) pl (by simpa using strsAre_of rv) (by rw [List.size_toArray, hl]; unfold scanBound; omega) fun h' tk D l q1 q2 q3 q4 k => ?_
  exact ⟨.ref _, upd H s.heap.objs.size (SetX X.prog X.w s.heap.objs.size l), I.laid (t' := tk) k (Nat.le_refl _) (setX_new q1 q2), rfl, q _ l hn q2.nd q3 q4⟩
def rSortedY (P : Program) (w : World) : List V → Hp → VK → Prop := fun vs H Q => ∃ (a : Addr) (l : List Str), vs = [V.ref a] ∧ H a = some (SetX P w a l) ∧ l.length < 64 ∧ ∀ (m : List Str) (p : Addr), m.Perm l → H p = none → Q (.ref p) (upd H p (.lst ((m.mergeSort (PySem.W.dataLe false PyData.str)).map V.str)))
theorem cr_sortedY (hc : X.calm = true) (hu : X.A.units + 64 < cLine) : CallR X (.builtin "sorted") (rSortedY X.prog X.w) := by
  intro pins s σ H vs us Q I r ⟨a, l, e, ha, h64, q⟩
  subst e
  obtain ⟨D, ho, F⟩ := setX_get I ha
  rw [Vals.ref1 r]
  refine sorted_set_y ho F (I.ok.hd hc) h64 hu fun s' p out c zs k g o hp hg hv ⟨m, pm, ez⟩ => ?_
  subst ez
  have hn : H p = none := I.hok.fresh hp
  have pm2 := (List.mergeSort_perm m (PySem.W.dataLe false PyData.str)).trans pm
  have hlen : ((m.mergeSort (PySem.W.dataLe false PyData.str)).map V.str).length ≤ sizeLine := by rw [List.length_map, pm2.length_eq, sizeLine_eq]; omega
  have J : L2.Inv X pins σ (upd H p (.lst ((m.mergeSort (PySem.W.dataLe false PyData.str)).map V.str))) { s with heap := s'.heap, gens := s'.gens, drawn := s'.drawn, toks := s'.toks } :=
    I.call (ch := []) (Un.laid k hp hn) (I.hok.laid k hp ⟨hlen, out, c, each_vals hv, hg⟩) (by rw [g]; exact I.bare) (fun _ z => nomatch z)
  have e : s' = { s with heap := s'.heap, gens := s'.gens, drawn := s'.drawn, toks := s'.toks } := by
    cases s'
    cases s
    cases o
    rfl
  rw [e]
  exact ⟨.ref p, _, J, rfl, q m p pm hn⟩
theorem cr_setTK (K : Fg) (hc : X.calm = true) (hK : X.K = K := by rfl) : CallR X (.type "set") (rSetT K X.prog X.w) := by subst hK; exact cr_setT hc
end
end Z
set_option maxHeartbeats 1000000
namespace Z
open PySem PySem.Spec PyProof.Rows L2
open LamX (lamCx lamEnv run_ofS CodeO TabB TabS LamS pe_act)
open He (ga ma)
def excCB (x : Str) (K : Fg) : Bool := decide (PySem.W.findIn K (.ref (ga K x)) "__getattribute__" = some (some (.builtin "BaseException.__getattribute__"))) && (decide (PySem.W.findIn K (.ref (ga K x)) "__getattr__" = some none) && (decide (PySem.W.subIn K (.ref (ga K x)) (.type "BaseException") = some true) &&
  (PySem.W.hasDictIn K (ga K x) && (decide (PySem.W.findIn K (.ref (ga K x)) "__class__" = some (some (.builtin "object.__class__"))) && (decide (PySem.W.specialIn K (.builtin "object.__class__") "__get__" = some (some (.builtin "getset_descriptor.__get__"))) &&
  (decide (PySem.W.takesIn K (.builtin "object.__class__") = some true) && decide (PySem.W.mroIn K (ga K x) (.type "object") = some true)))))))
theorem excCB_ok {x : Str} {K : Fg} (h : excCB x K = true) : ExcC K (ga K x) := by
  unfold excCB at h
  simp only [Bool.and_eq_true, decide_eq_true_eq] at h
  obtain ⟨h1, h2, h3, h4, h5, h6, h7, h8⟩ := h
  exact ⟨h1, h2, h3, h4, h5, h6, h7, h8⟩
structure VeIn (K : Fg) (B : Addr) : Prop where
  r : ClX.CRead K B (.type "type")
  v : PySem.W.findCls K (.ref B) (.type "type") "__init__" = some (.val (.builtin "ValueError.__init__"))
def fVeIn (x : Str) (K : Fg) : Bool := PySem.W.readsIn K (ga K x) (.type "type") && (decide (PySem.W.specialIn K (.ref (ga K x)) "__getattribute__" = some (some (.builtin "type.__getattribute__"))) && (match PySem.W.findCls K (.ref (ga K x)) (.type "type") "__init__" with
  | some (.val (.builtin n)) => decide (n = "ValueError.__init__")
  | _ => false))
theorem fVeIn_ok {x : Str} {K : Fg} (h : fVeIn x K = true) : VeIn K (ga K x) := by
  unfold fVeIn at h
  simp only [Bool.and_eq_true, decide_eq_true_eq] at h
  obtain ⟨h1, h2, h3⟩ := h
  refine ⟨⟨h1, h2⟩, ?_⟩
  split at h3
  · rename_i n e
    rw [e, of_decide_eq_true h3]
  · cases h3
end Z
set_option maxHeartbeats 1000000
namespace Z
open PySem PySem.Spec PyProof.Rows L2
open He (ga ma)
end Z
set_option maxHeartbeats 1000000
namespace Z
open PySem PySem.Spec PyProof.Rows L2
open He (ga ma)
end Z
set_option maxHeartbeats 2000000
namespace Z
open PySem PySem.Spec PyProof.Rows L2
abbrev EnU := List (NestedKey × Addr × V)
abbrev EvU := List (NestedKey × Addr × Value)
def RelU : EnU → EvU → Prop := Paired fun p q => p.1 = q.1 ∧ p.2.1 = q.2.1 ∧ RelV p.2.2 q.2.2
def PhiU (w : World) (a : Addr) (es : EnU) (h : Heap) : Prop := es.length ≤ sizeLine ∧ (a == sysModules) = false ∧ ∃ ys : EvU, RelU es ys ∧
  ∃ o ds ep, h.get? a = some o ∧ o.ExactDict ∧ o.data = .dict ds ep ∧ ds.toList = ys.map (fun x => (⟨NestedKey.hash w x.1, .ref x.2.1, x.2.2⟩ : DictEntry)) ∧ (ys.map (·.1)).Nodup
def dU (w : World) (a : Addr) (es : EnU) : HO := .ext (PhiU w a es)
def KeyU (K : PySem.W.Frag) (H : Hp) (k : NestedKey) (b : Addr) : Prop := Dp K H (.ref b) k.data ∧ k.depth ≤ 8
def KeysU (K : PySem.W.Frag) (H : Hp) (es : EnU) : Prop := ∀ x ∈ es, KeyU K H x.1 x.2.1
def getU (es : EnU) (k : NestedKey) : Option V := (es.find? fun x => decide (x.1 = k)).map (·.2.2)
section
variable {X : Cx} {pins : List (Addr × Obj)} {σ : L2.St} {H : Hp} {s : Shared}
mutual
theorem nested_of (I : Inv X pins σ H s) : ∀ (k : NestedKey) (v : V) (u : Value), Dp X.K H v k.data → RelV v u → NestedIs s.heap k u
  | .none, _, _, h, r => by
    cases h
    cases r
    exact .none
  | .num i, _, _, h, r => by
    cases h
    obtain ⟨t, rfl⟩ := r
    exact .int i t
  | .text x, _, _, h, r => by
    cases h
    obtain ⟨t, rfl⟩ := r
    exact .text x t
  | .tup ks, _, _, h, r => by
    cases h with
    | tup hs ha =>
      cases r
      obtain ⟨its, rv, ⟨o, ho, hc, n, hd⟩, _⟩ := I.tuple hs
      exact .tup ho hc hd (nestedAll_of I ks _ _ ha rv)
theorem nestedAll_of (I : Inv X pins σ H s) : ∀ (ks : List NestedKey) (vs : List V) (us : List Value), DpAll X.K H vs (NestedKey.datas ks) → Vals vs us → NestedAll s.heap ks us
  | [], _, _, h, r => by
    cases h
    cases r
    exact .nil
  | k :: ks, _, _, h, r => by
    cases h with
    | cons h1 h2 =>
      cases r with
      | cons r1 r2 => exact .cons (nested_of I k _ _ h1 r1) (nestedAll_of I ks _ _ h2 r2)
end
theorem key_is (I : Inv X pins σ H s) {k : NestedKey} {b : Addr} (h : KeyU X.K H k b) : (nestedKind X.prog X.w).is s.heap k b := ⟨nested_of I k _ _ h.1 rfl, h.2⟩
theorem RelU.mem : ∀ {es : EnU} {ys : EvU}, RelU es ys → ∀ y ∈ ys, ∃ x ∈ es, x.1 = y.1 ∧ x.2.1 = y.2.1 ∧ RelV x.2.2 y.2.2
  | _, _, .cons (a := a) r t, y, hy => by
    rcases List.mem_cons.mp hy with rfl | hy
    · exact ⟨a, List.mem_cons_self, r⟩
    · obtain ⟨x, hx, e⟩ := RelU.mem t y hy
      exact ⟨x, List.mem_cons_of_mem _ hx, e⟩
theorem RelU.val {es : EnU} {ys : EvU} (r : RelU es ys) (k : NestedKey) : RelO (getU es k) ((atKey ys k).map (·.2)) := by
  unfold RelU at r
  induction r with
  | nil => exact True.intro
  | @cons p q ps qs h t ih =>
    obtain ⟨h1, h2, h3⟩ := h
    unfold getU atKey
    by_cases e : p.1 = k
    · have e2 : q.1 = k := h1 ▸ e
      simp [List.find?_cons, e, e2]
      exact h3
    · have e2 : ¬ q.1 = k := h1 ▸ e
      simp only [List.find?_cons, e, e2, decide_false]
      exact ih
theorem RelU.map : ∀ {es : EnU} {ys : EvU}, RelU es ys → es.map (·.1) = ys.map (·.1)
  | _, _, .nil => rfl
  | _, _, .cons r t => by rw [List.map_cons, List.map_cons, RelU.map t, r.1]
theorem RelU.snoc : ∀ {es : EnU} {ys : EvU}, RelU es ys → ∀ {k : NestedKey} {b : Addr} {v : V} {u : Value}, RelV v u → RelU (es ++ [(k, b, v)]) (ys ++ [(k, b, u)])
  | _, _, .nil, _, _, _, _, r => .cons ⟨rfl, rfl, r⟩ .nil
  | _, _, .cons h t, _, _, _, _, r => .cons h (RelU.snoc t r)
theorem du_of (I : Inv X pins σ H s) {d : Addr} {es : EnU} (e : H d = some (dU X.w d es)) (hk : KeysU X.K H es) : es.length ≤ sizeLine ∧ (d == sysModules) = false ∧ ∃ ys, RelU es ys ∧ s.heap.DictOfH (nestedKind X.prog X.w) d ys := by
  obtain ⟨⟨h1, h2, ys, r, o, ds, ep, h3, h4, h5, h6, h7⟩, _, _⟩ := I.hok d _ e
  refine ⟨h1, h2, ys, r, o, ds, ep, h3, h4, h5, h6, fun y hy => ?_, h7⟩
  obtain ⟨x, hx, e1, e2, _⟩ := r.mem y hy
  rw [← e1, ← e2]
  exact key_is I (hk x hx)
theorem phi_st {w : World} {d : Addr} {es : EnU} : ∀ h1 h2 : Heap, PhiU w d es h1 → (∀ o, h1.get? d = some o → h2.get? d = some o) → PhiU w d es h2 := fun h1 h2 ⟨a, b, ys, r, o, ds, ep, e, c⟩ k => ⟨a, b, ys, r, o, ds, ep, k _ e, c⟩
theorem u_getItem {A : Around} {E : Value → Shared → Prop} {Q : Value → Shared → Prop} {d b : Addr} {es : EnU} {k : NestedKey} {v : V} (hu : A.units + 10 < cLine) (I : Inv X pins σ H s) (e : H d = some (dU X.w d es)) (hk : KeysU X.K H es) (kb : KeyU X.K H k b) (g : getU es k = some v) (h : ∀ w' s', Inv X pins σ H s' → RelV v w' → Q w' s') :
    wpAny (model X.prog X.w) A (getItem (.ref d) (.ref b)) Q E s := by
  obtain ⟨z, hd, ys, rel, dd⟩ := du_of I e hk
  obtain ⟨w', hw, rw'⟩ := RelO.some_of (v := v) (o := (atKey ys k).map (·.2)) (by rw [← g]; exact rel.val k)
  obtain ⟨p, hp, hp2⟩ := Option.map_eq_some_iff.mp hw
  refine wpAny_getItem_heap (show _ < _ by show A.units + 1 + 8 < cLine; omega) (key_is I kb) dd hp ?_
  rw [hp2]
  exact h w' _ (I.tok _) rw'
theorem u_notIn {A : Around} {E : Value → Shared → Prop} {Q : Value → Shared → Prop} {d b : Addr} {es : EnU} {k : NestedKey} (hu : A.units + 10 < cLine) (I : Inv X pins σ H s) (e : H d = some (dU X.w d es)) (hk : KeysU X.K H es) (kb : KeyU X.K H k b) (h : ∀ s', Inv X pins σ H s' → Q (.bool (!(getU es k).isSome)) s') :
    wpAny (model X.prog X.w) A (compareOp .NotIn (.ref b) (.ref d)) Q E s := by
  obtain ⟨z, hd, ys, rel, dd⟩ := du_of I e hk
  refine wpAny_notIn_heap (show _ < _ by show A.units + 1 + 8 < cLine; omega) (key_is I kb) hd dd ?_
  have q := (rel.val k).isSome_eq
  rw [Option.isSome_map] at q
  rw [← q]
  exact h _ (I.tok _)
theorem u_setItem {A : Around} {E : Value → Shared → Prop} {Q : Unit → Shared → Prop} {d b : Addr} {es : EnU} {k : NestedKey} {v : V} {r : Value} (hu : A.units + 10 < cLine) (I : Inv X pins σ H s) (e : H d = some (dU X.w d es)) (hk : KeysU X.K H es) (kb : KeyU X.K H k b) (g : getU es k = none) (hl : es.length < sizeLine) (rv : RelV v r) (h : ∀ s', Inv X pins σ (upd H d (dU X.w d (es ++ [(k, b, v)]))) s' → Q () s') :
    wpAny (model X.prog X.w) A (setItem (.ref d) (.ref b) r) Q E s := by
  obtain ⟨z, hd, ys, rel, dd⟩ := du_of I e hk
  have hz : ys.length ≤ sizeLine := by rw [← Paired.length rel]; exact z
  have ga : atKey ys k = none := by
    have q := (rel.val k).isSome_eq
    rw [Option.isSome_map, g] at q
    exact Option.isSome_eq_false_iff.mp q.symm |> fun h => by simpa using h
  refine wpAny_setItem_heap (hsz := hz) (show _ < _ by show A.units + 1 + 8 < cLine; omega) (key_is I kb) dd fun h' dd' hs => h _ ?_
  rw [storedH_new ga] at dd'
  obtain ⟨o, ds, ep, hq, h2, h3, h4, _, h5⟩ := dd'
  refine d_write I (by rw [e]; exact True.intro) hs ⟨o, hq⟩ ⟨⟨by rw [List.length_append]; exact hl, hd, _, rel.snoc rv, o, ds, ep, hq, h2, h3, h4, h5⟩, ⟨o, hq⟩, phi_st⟩
theorem du_dict (I : Inv X pins σ H s) {d : Addr} {es : EnU} (e : H d = some (dU X.w d es)) : s.TypeIs (.ref d) "dict" := by
  obtain ⟨⟨_, _, ys, _, o, ds, ep, h3, h4, _⟩, _, _⟩ := I.hok d _ e
  exact ⟨o, h3, h4.1⟩
theorem du_empty {P : Program} {w : World} {H : Hp} (h : Heap) (hb : sysModules < h.objs.size) : ObjOk P w H (h.push { cls := .type "dict", data := .dict #[] }) h.objs.size (dU w h.objs.size []) :=
  ⟨⟨Nat.zero_le _, beq_eq_false_iff_ne.mpr (Ne.symm (Nat.ne_of_lt hb)), [], .nil, _, #[], 0, Heap.get?_push_size _ rfl, ⟨rfl, rfl, rfl⟩, rfl, rfl, List.nodup_nil⟩, ⟨_, Heap.get?_push_size _ rfl⟩, phi_st⟩
end
def tUGet (w : World) (K : PySem.W.Frag) (td ty : TE) : TE := fun σ H Q => td σ H fun x H1 => ty σ H1 fun y H2 => ∃ a b es k v, x = .ref a ∧ y = .ref b ∧ H2 a = some (dU w a es) ∧ KeysU K H2 es ∧ KeyU K H2 k b ∧ getU es k = some v ∧ Q v H2
def tUNotIn (w : World) (K : PySem.W.Frag) (ty td : TE) : TE := fun σ H Q => ty σ H fun y H1 => td σ H1 fun x H2 => ∃ a b es k, x = .ref a ∧ y = .ref b ∧ H2 a = some (dU w a es) ∧ KeysU K H2 es ∧ KeyU K H2 k b ∧ Q (.bl (!(getU es k).isSome)) H2
def sUPut (w : World) (K : PySem.W.Frag) (td ty tv : TE) : TS := fun D σ H => tv σ H fun v H1 => td σ H1 fun x H2 => ty σ H2 fun y H3 => ∃ a b es k, x = .ref a ∧ y = .ref b ∧ H3 a = some (dU w a es) ∧ KeysU K H3 es ∧ KeyU K H3 k b ∧ getU es k = none ∧ es.length < sizeLine ∧ D.nx σ (upd H3 a (dU w a (es ++ [(k, b, v)])))
def tUNew (w : World) : TE := fun _ H Q => ∀ p, H p = none → Q (.ref p) (upd H p (dU w p []))
def tUOne (w : World) (K : PySem.W.Frag) (ty tv : TE) : TE := fun σ H Q => ∀ p, H p = none → ty σ (upd H p (dU w p [])) fun y H1 => tv σ H1 fun v H2 => ∃ b k, y = .ref b ∧ H2 p = some (dU w p []) ∧ KeyU K H2 k b ∧ Q (.ref p) (upd H2 p (dU w p [(k, b, v)]))
section
variable {X : Cx} {o i e value : Expr} {pos pos' tpos : Pos} {td ty tv : TE}
theorem pe_uget (hu : X.A.units + 10 < cLine) (ho : PE X o td) (hi : PE X i ty) (hs : NoSl i) : PE X (.Subscript o i pos) (tUGet X.w X.K td ty) := by
  refine ⟨fun pins s σ H Q I h => ?_⟩
  refine subD_of PySem.F.slot_dict_getitem.lookup hs (thn (ho.run pins s σ H _ I h) fun u s1 ⟨x, H1, I1, rx, q1⟩ => thn (hi.run pins s1 σ H1 _ I1 q1) fun iv s2 ⟨y, H2, I2, ry, a, b, es, k, v, ex, ey, ea, hk, kb, g, q2⟩ => ?_)
  subst ex
  subst ey
  obtain rfl : u = Value.ref a := rx
  obtain rfl : iv = Value.ref b := ry
  exact ⟨du_dict I2 ea, u_getItem hu I2 ea hk kb g fun w' s3 I3 rw' => ⟨v, H2, I3, rw', q2⟩⟩
theorem pc_unotin (hu : X.A.units + 10 < cLine) (hi : PE X i ty) (ho : PE X o td) : PC X .NotIn i o (tUNotIn X.w X.K ty td) := by
  refine ⟨fun pins s σ H Q I h => ?_⟩
  refine thn (hi.run pins s σ H _ I h) fun iv s1 ⟨y, H1, I1, ry, q1⟩ => thn (ho.run pins s1 σ H1 _ I1 q1) fun u s2 ⟨x, H2, I2, rx, a, b, es, k, ex, ey, ea, hk, kb, q2⟩ => ?_
  subst ex
  subst ey
  obtain rfl : u = Value.ref a := rx
  obtain rfl : iv = Value.ref b := ry
  exact u_notIn hu I2 ea hk kb fun s3 I3 => ⟨.bl (!(getU es k).isSome), H2, I3, rfl, q2⟩
theorem ps_uput (hu : X.A.units + 10 < cLine) (ho : PE X o td) (hi : PE X i ty) (hv : PE X value tv) (hs : swapsWith value (some (.Subscript o i pos')) pos.line X.env = pure false) :
    PS X (.Assign [.Subscript o i pos'] value pos) (sUPut X.w X.K td ty tv) := by
  refine ⟨fun pins s σ H D I h => ?_⟩
  refine wpAny_Assign_Subscript (thn (hv.run pins s σ H _ I h) fun r s1 ⟨v, H1, I1, rv, q1⟩ => thn (ho.run pins s1 σ H1 _ I1 q1) fun u s2 ⟨x, H2, I2, rx, q2⟩ => thn (hi.run pins s2 σ H2 _ I2 q2) fun iv s3 ⟨y, H3, I3, ry, a, b, es, k, ex, ey, ea, hk, kb, g, hl, q3⟩ => ?_) hs
  subst ex
  subst ey
  obtain rfl : u = Value.ref a := rx
  obtain rfl : iv = Value.ref b := ry
  exact u_setItem hu I3 ea hk kb g hl rv fun s4 I4 => ⟨σ, _, I4, q3⟩
theorem pe_unew : PE X (.Dict [] [] pos) (tUNew X.w) := ⟨fun pins s σ H Q I h =>
  wpAny_Dict_empty ⟨.ref s.heap.objs.size, _, I.laid (a := s.heap.objs.size) (o := dU X.w s.heap.objs.size []) (t' := s.toks) (fun _ _ q => Heap.get?_push_of_some _ q) (Nat.le_refl _) (du_empty s.heap I.big), rfl, h _ (I.hok.fresh (Nat.le_refl _))⟩⟩
theorem pe_uone (hu : X.A.units + 10 < cLine) (hk : PE X i ty) (hv : PE X value tv) : PE X (.Dict [some i] [value] pos) (tUOne X.w X.K ty tv) := by
  refine ⟨fun pins s σ H Q I q => ?_⟩
  have hn := I.hok.fresh (Nat.le_refl s.heap.objs.size)
  have I1 := I.laid (a := s.heap.objs.size) (o := dU X.w s.heap.objs.size []) (h' := s.heap.push { cls := .type "dict", data := .dict #[] }) (t' := s.toks) (fun _ _ q => Heap.get?_push_of_some _ q) (Nat.le_refl _) (du_empty s.heap I.big)
  rw [arm_eval_Dict, zip_pairTrees [some i] [value] X.env pos rfl rfl, dictDisplay_pairs _ (by simp [pairTrees]) (by simp [pairTrees])]
  refine wpAny_bind (wpAny_standAt (wpAny_bind (wpAny_subDictH (knd := nestedKind X.prog X.w) (show _ < _ by show X.A.units + 8 < cLine; omega) (by simp [pairTrees]) ?_)))
  refine pairTrees_cons_walk (thn (hk.run pins _ σ _ _ I1 (q _ hn)) fun u s1 ⟨y, H1, I2, ry, q1⟩ => thn (hv.run pins s1 σ H1 _ I2 q1) fun u2 s2 ⟨v, H2, I3, rv, b, k, ey, ea, kb, q2⟩ => ?_)
  subst ey
  obtain rfl : u = Value.ref b := ry
  refine pairTrees_nil_walk ?_
  obtain ⟨z, hd, ys, rel, dd⟩ := du_of I3 ea (fun x hx => nomatch hx)
  cases rel
  refine ⟨[(k, b, u2)], ⟨rfl, rfl, key_is I3 kb, trivial⟩, dd, fun h' tk dd' hs => wpAny_pure ⟨.ref s.heap.objs.size, _, ?_, rfl, q2⟩⟩
  rw [show storedAllH [] [(k, b, u2)] = [(k, b, u2)] from rfl] at dd'
  obtain ⟨o, ds, ep, hq, h2, h3, h4, _, h5⟩ := dd'
  exact d_write I3 (by rw [ea]; exact True.intro) hs ⟨o, hq⟩ ⟨⟨by rw [sizeLine_eq]; show 1 ≤ _; omega, hd, _, .cons ⟨rfl, rfl, rv⟩ .nil, o, ds, ep, hq, h2, h3, h4, h5⟩, ⟨o, hq⟩, phi_st⟩
theorem kUGet (w : World) (K : Fg) (hu : X.A.units + 65 < cLine) (ho : PE X o td) (hi : PE X i ty) (hs : NoSl i) (hK : X.K = K := by rfl) (hw : X.w = w := by rfl) : PE X (.Subscript o i pos) (tUGet w K td ty) := by
  subst hK hw
  exact pe_uget (by omega) ho hi hs
theorem kUNotIn (w : World) (K : Fg) (hu : X.A.units + 65 < cLine) (hi : PE X i ty) (ho : PE X o td) (hK : X.K = K := by rfl) (hw : X.w = w := by rfl) : PC X .NotIn i o (tUNotIn w K ty td) := by
  subst hK hw
  exact pc_unotin (by omega) hi ho
theorem kUPut (w : World) (K : Fg) (hu : X.A.units + 65 < cLine) (ho : PE X o td) (hi : PE X i ty) (hv : PE X value tv) (hs : swapsWith value (some (.Subscript o i pos')) pos.line X.env = pure false) (hK : X.K = K := by rfl) (hw : X.w = w := by rfl) :
    PS X (.Assign [.Subscript o i pos'] value pos) (sUPut w K td ty tv) := by
  subst hK hw
  exact ps_uput (by omega) ho hi hv hs
theorem kUNew (w : World) (hw : X.w = w := by rfl) : PE X (.Dict [] [] pos) (tUNew w) := by
  subst hw
  exact pe_unew
theorem kUOne (w : World) (K : Fg) (hu : X.A.units + 65 < cLine) (hk : PE X i ty) (hv : PE X value tv) (hK : X.K = K := by rfl) (hw : X.w = w := by rfl) : PE X (.Dict [some i] [value] pos) (tUOne w K ty tv) := by
  subst hK hw
  exact pe_uone (by omega) hk hv
end
end Z
set_option maxHeartbeats 2000000
namespace Z
open PySem PySem.Spec PyProof.Rows L2
mutual
theorem eqv_nk : ∀ a b : NestedKey, PyData.eqv a.data b.data = NestedKey.beq a b
  | .none, b => by cases b <;> simp [NestedKey.data, PyData.eqv, NestedKey.beq]
  | .num i, b => by cases b <;> simp [NestedKey.data, PyData.eqv, NestedKey.beq]; rfl
  | .text x, b => by cases b <;> simp [NestedKey.data, PyData.eqv, NestedKey.beq]; rfl
  | .tup ks, b => by
    cases b with
    | tup ls =>
      rw [NestedKey.beq, ← eqvs_nk ks ls]
      simp only [NestedKey.data, PyData.eqv]
    | _ => simp [NestedKey.data, PyData.eqv, NestedKey.beq]
theorem eqvs_nk : ∀ a b : List NestedKey, PyData.eqvAll (NestedKey.datas a) (NestedKey.datas b) = NestedKey.beqAll a b
  | [], [] => by simp [NestedKey.datas, PyData.eqvAll, NestedKey.beqAll]
  | [], y :: ys => by simp [NestedKey.datas, PyData.eqvAll, NestedKey.beqAll]
  | x :: xs, [] => by simp [NestedKey.datas, PyData.eqvAll, NestedKey.beqAll]
  | x :: xs, y :: ys => by
    rw [NestedKey.beqAll, ← eqv_nk x y, ← eqvs_nk xs ys]
    simp only [NestedKey.datas, PyData.eqvAll]
end
theorem eqv_nk_ne {a b : NestedKey} (h : a ≠ b) : PyData.eqv a.data b.data = false := by
  rw [eqv_nk, ← NestedKey.decide_eq]
  exact decide_eq_false h
mutual
theorem nk_cs {h : Heap} : ∀ (k : NestedKey) {v : Value} {cs : List Addr}, Reads h v k.data cs → cs = []
  | .none, _, _, r => by
    have r : Reads h _ .none _ := r
    cases r
    rfl
  | .num i, _, _, r => by
    have r : Reads h _ (.int i) _ := r
    cases r
    rfl
  | .text x, _, _, r => by
    have r : Reads h _ (.str x) _ := r
    cases r
    rfl
  | .tup ks, _, _, r => by
    have r : Reads h _ (.tuple (NestedKey.datas ks)) _ := r
    cases r with
    | tuple h1 h2 h3 h4 => exact nks_cs ks h4
theorem nks_cs {h : Heap} : ∀ (ks : List NestedKey) {vs : List Value} {cs : List Addr}, ReadsAll h vs (NestedKey.datas ks) cs → cs = []
  | [], _, _, r => by
    have r : ReadsAll h _ [] _ := r
    cases r
    rfl
  | k :: ks, _, _, r => by
    have r : ReadsAll h _ (k.data :: NestedKey.datas ks) _ := r
    cases r with
    | cons h1 h2 => rw [nk_cs k h1, nks_cs ks h2]; rfl
end
mutual
theorem nk_depth : ∀ k : NestedKey, k.data.depth = k.depth
  | .none => rfl
  | .num _ => rfl
  | .text _ => rfl
  | .tup ks => by
    show PyData.depthAll (NestedKey.datas ks) + 1 = NestedKey.depthAll ks + 1
    rw [nks_depth ks]
theorem nks_depth : ∀ ks : List NestedKey, PyData.depthAll (NestedKey.datas ks) = NestedKey.depthAll ks
  | [] => rfl
  | k :: ks => by
    show max k.data.depth (PyData.depthAll (NestedKey.datas ks)) = max k.depth (NestedKey.depthAll ks)
    rw [nk_depth k, nks_depth ks]
end
def itemKind (ps : List (Addr × PyData)) : PyProof.Rows.KeyKind where
  toKeyOrd := PyProof.Rows.listOrd PyProof.Rows.itemOrd
  keyOf v := match v with
    | .ref a => (ps.find? fun x => decide (x.1 = a)).map fun x => PySem.W.keyToks x.2
    | _ => none
  dflt := ([] : List (Int ⊕ List Nat))
theorem item_inv {ps : List (Addr × PyData)} {v : Value} {k : List (Int ⊕ List Nat)} (h : (itemKind ps).keyOf v = some k) : ∃ p ∈ ps, v = .ref p.1 ∧ k = PySem.W.keyToks p.2 := by
  cases v with
  | ref a =>
    obtain ⟨p, h1, h2⟩ := Option.map_eq_some_iff.mp (show (ps.find? fun x => decide (x.1 = a)).map (fun x => PySem.W.keyToks x.2) = some k from h)
    have h3 := List.find?_some h1
    exact ⟨p, List.mem_of_find?_eq_some h1, by rw [of_decide_eq_true h3], h2.symm⟩
  | _ => cases h
theorem find_nodup {β : Type} : ∀ {ps : List (Addr × β)}, (ps.map (·.1)).Nodup → ∀ p ∈ ps, (ps.find? fun x => decide (x.1 = p.1)) = some p
  | [], _, p, hp => nomatch hp
  | q :: ps, nd, p, hp => by
    rw [List.map_cons] at nd
    obtain ⟨n1, n2⟩ := List.nodup_cons.mp nd
    rcases List.mem_cons.mp hp with rfl | hp
    · rw [List.find?_cons_of_pos (by simp)]
    · rw [List.find?_cons_of_neg]
      · exact find_nodup n2 p hp
      · intro e
        exact n1 (by rw [of_decide_eq_true e]; exact List.mem_map_of_mem hp)
theorem item_key {ps : List (Addr × PyData)} (nd : (ps.map (·.1)).Nodup) {p : Addr × PyData} (hp : p ∈ ps) : (itemKind ps).keyOf (.ref p.1) = some (PySem.W.keyToks p.2) := by
  show (ps.find? fun x => decide (x.1 = p.1)).map (fun x => PySem.W.keyToks x.2) = _
  rw [find_nodup nd p hp]
  rfl
def ItemAt (h : Heap) (p : Addr × PyData) : Prop := ∃ o n u v, h.get? p.1 = some o ∧ o.cls = .type "tuple" ∧ o.data = .seq #[u, v] n ∧ ∃ cs, Reads h u p.2 cs
section
variable {prog : Program} {w : World} {A : Around} {s : Shared} {ps : List (Addr × PyData)}
theorem katTups_of {h : Heap} : ∀ {ps : List (Addr × PyData)}, (∀ p ∈ ps, ItemAt h p) → ∃ fs, PySem.W.KatTups h (ps.map fun p => Value.ref p.1) fs ∧ fs.length = ps.length ∧ ∀ f ∈ fs, ∃ p ∈ ps, ∃ cs, Reads h f p.2 cs
  | [], _ => ⟨[], PySem.W.KatTups.nil, rfl, fun f hf => nomatch hf⟩
  | p :: ps, hp => by
    obtain ⟨fs, h1, h2, h3⟩ := katTups_of (ps := ps) fun q hq => hp q (List.mem_cons_of_mem _ hq)
    obtain ⟨o, n, u, v, e1, e2, e3, cs, r⟩ := hp p List.mem_cons_self
    refine ⟨u :: fs, PySem.W.KatTups.cons e1 e2 e3 rfl h1, by rw [List.length_cons, List.length_cons, h2], fun f hf => ?_⟩
    rcases List.mem_cons.mp hf with rfl | hf
    · exact ⟨p, List.mem_cons_self, cs, r⟩
    · obtain ⟨q, hq, x⟩ := h3 f hf
      exact ⟨q, List.mem_cons_of_mem _ hq, x⟩
theorem item_lt (hp : ∀ p ∈ ps, ItemAt s.heap p) (nd : (ps.map (·.1)).Nodup) (hal : ∀ p ∈ ps, ∀ q ∈ ps, PySem.W.alike p.2 q.2 = true) (hne : ∀ p ∈ ps, ∀ q ∈ ps, p.1 ≠ q.1 → PyData.eqv p.2 q.2 = false) (hnn : ∀ p ∈ ps, p.2 ≠ .none) (hu : ∀ p ∈ ps, A.units + p.2.depth < cLine) :
    PyProof.Rows.H.LtAt prog w A s (itemKind ps) (tuples' false) := by
  intro E x y a b Q ha hb hq
  obtain ⟨p, hpm, rfl, rfl⟩ := item_inv ha
  obtain ⟨q, hqm, rfl, rfl⟩ := item_inv hb
  obtain ⟨o, n, u, v, e1, e2, e3, cs, r⟩ := hp p hpm
  by_cases hpq : p.1 = q.1
  · have : p = q := by
      have h1 := find_nodup nd p hpm
      have h2 := find_nodup nd q hqm
      rw [hpq, h2] at h1
      exact (Option.some.inj h1).symm
    subst this
    have hq' : Q false s := by
      have e := (itemKind ps).irrefl (PySem.W.keyToks p.2)
      rw [e] at hq
      exact hq
    refine PySem.W.kat_lt e1 e3 e1 e3 ?_
    show PySem.W.KatLex prog w A false (decide (2 < 2)) Q [(u, u), (v, v)] 0 s
    refine PySem.W.kat_cons (SeqAt.EqAt.same u prog w _ _ (PySem.W.kat_yes (PySem.W.kat_cons (SeqAt.EqAt.same v prog w _ _ (PySem.W.kat_yes (PySem.W.kat_nil ?_))))))
    exact hq'
  · obtain ⟨o', n', u', v', f1, f2, f3, cs', r'⟩ := hp q hqm
    have room : A.units + min p.2.depth q.2.depth < cLine := Nat.lt_of_le_of_lt (Nat.add_le_add_left (Nat.min_le_left _ _) _) (hu p hpm)
    have al := hal p hpm q hqm
    refine PySem.W.kat_lt e1 e3 f1 f3 ?_
    show PySem.W.KatLex prog w A false (decide (2 < 2)) Q [(u, u'), (v, v')] 0 s
    refine PySem.W.kat_cons (PySem.W.eqAt_alike p.2 q.2 A s u u' cs cs' r r' al room prog w _ _ ?_)
    rw [hne p hpm q hqm hpq]
    refine PySem.W.kat_no ?_
    show wpAny _ _ (oneLt' false u u') _ _ _
    exact PySem.W.oneLt_alike (fun e => absurd e Bool.false_ne_true) r r' al (hnn p hpm) room hq
theorem items_sortsAt (hp : ∀ p ∈ ps, ItemAt s.heap p) (nd : (ps.map (·.1)).Nodup) (hal : ∀ p ∈ ps, ∀ q ∈ ps, PySem.W.alike p.2 q.2 = true) (hne : ∀ p ∈ ps, ∀ q ∈ ps, p.1 ≠ q.1 → PyData.eqv p.2 q.2 = false) (htp : ∀ p ∈ ps, ∃ l, p.2 = .tuple l) (hu : ∀ p ∈ ps, A.units + p.2.depth < cLine) :
    PySem.W.SortsAt prog w A s (itemKind ps) (ps.map fun p => Value.ref p.1) := by
  refine ⟨fun v hv => ?_, tuples' false, item_lt hp nd hal hne (fun p h => by obtain ⟨l, e⟩ := htp p h; rw [e]; simp) hu, fun h2 E Q hq => ?_⟩
  · obtain ⟨p, hpm, rfl⟩ := List.mem_map.mp hv
    exact ⟨_, item_key nd hpm⟩
  · obtain ⟨fs, t1, t2, t3⟩ := katTups_of hp
    rw [List.length_map] at h2
    refine PySem.W.kat_kind (T := .type "tuple") t1 (by omega) (fun f hf => ?_) (by decide) ?_
    · obtain ⟨p, hpm, cs, r⟩ := t3 f hf
      obtain ⟨l, e⟩ := htp p hpm
      rw [e] at r
      exact PySem.W.looks_reads r
    · have e : (Value.type "tuple" != Value.type "tuple") = false := by first | decide +kernel | rfl | decide
      rw [e]
      exact hq
end
def srtU (es : EnU) : EnU := es.mergeSort (PySem.W.dataLe false fun x : NestedKey × Addr × V => x.1.data)
def ItemsU (K : Fg) (H : Hp) : List V → EnU → Prop := Paired fun (y : V) x => ∃ t, y = .ref t ∧ SqT K H t [.ref x.2.1, x.2.2]
theorem ItemsU.same {K : Fg} {H H' : Hp} (s : Same H H') : ∀ {ys : List V} {es : EnU}, ItemsU K H ys es → ItemsU K H' ys es
  | _, _, .nil => .nil
  | _, _, .cons ⟨t, e, h⟩ r => .cons ⟨t, e, s.sqT h⟩ (ItemsU.same s r)
def rSortU (w : World) (K : Fg) : V → Hp → VK → Prop := fun x H Q => ∃ d es, x = .ref d ∧ H d = some (dU w d es) ∧ KeysU K H es ∧ (∀ x ∈ es, ∃ l, x.1.data = .tuple l) ∧ PySem.W.AllAlike (es.map fun x => x.1.data) ∧ ∀ H' p ys, Same H H' → H p = none → H' p = some (.lst ys) → ItemsU K H' ys (srtU es) → Q (.ref p) H'
def tSortU (w : World) (K : Fg) (te : TE) : TE := fun σ H Q => te σ H fun x H1 => rSortU w K x H1 Q
theorem s_sortU {w : World} {K : Fg} {σ : L2.St} {H : Hp} {Q : VK} {te : TE} (q : te σ H fun x H1 => rSortU w K x H1 Q) : tSortU w K te σ H Q := q
def putU : Hp → List Addr → EnU → Hp
  | H, a :: as, x :: es => putU (upd H a (.tup [.ref x.2.1, x.2.2])) as es
  | H, _, _ => H
theorem putU_off {b : Addr} : ∀ (as : List Addr) (es : EnU) (H : Hp), b ∉ as → putU H as es b = H b
  | [], _, _, _ => rfl
  | _ :: _, [], _, _ => rfl
  | a :: as, x :: es, H, h => by
    show putU (upd H a (.tup [.ref x.2.1, x.2.2])) as es b = H b
    rw [putU_off as es _ (fun z => h (List.mem_cons_of_mem _ z)), upd_ne (fun z => h (by rw [z]; exact List.mem_cons_self))]
theorem putU_at : ∀ (as : List Addr) (es : EnU) (H : Hp), as.length = es.length → as.Nodup → Paired (fun (t : Addr) x => putU H as es t = some (.tup [.ref x.2.1, x.2.2])) as es
  | [], [], _, _, _ => .nil
  | [], _ :: _, _, h, _ => by cases h
  | _ :: _, [], _, h, _ => by cases h
  | a :: as, x :: es, H, h, hn => by
    have hn' := List.nodup_cons.mp hn
    refine .cons ?_ (putU_at as es _ (Nat.succ.inj h) hn'.2)
    show putU (upd H a (.tup [.ref x.2.1, x.2.2])) as es a = _
    rw [putU_off as es _ hn'.1, upd_same]
section
variable {X : Cx} {e : Expr} {te : TE} {p apos cpos pos : Pos}
theorem tups_laidU {pins : List (Addr × Obj)} {σ : L2.St} {H : Hp} {s : Shared} {h' : Heap} {tk : Nat} {es : EnU} {ys : EvU} {ds : Array DictEntry} {as : List Addr} (I : Inv X pins σ H s) (rel : RelU es ys) (hd : ds.toList = ys.map (fun x => (⟨NestedKey.hash X.w x.1, .ref x.2.1, x.2.2⟩ : DictEntry))) (hk : ∀ b o, s.heap.get? b = some o → h'.get? b = some o) (hl : as.length = ds.size)
    (hG : PySem.W.DilG ds s.heap.objs.size h' as) : ∃ H' : Hp, Same H H' ∧ Paired (fun (t : Addr) x => H' t = some (.tup [.ref x.2.1, x.2.2])) as es ∧ Inv X pins σ H' { s with heap := h', toks := tk } := by
  have lk : es.length = ys.length := Paired.length rel
  have ld : ds.size = ys.length := by rw [← Array.length_toList, hd, List.length_map]
  have nd : as.Nodup := hG.rise.imp fun h => Nat.ne_of_lt h
  have fresh : ∀ t ∈ as, H t = none := fun t ht => I.hok.fresh (Nat.le_of_lt (hG.above t ht))
  have atP := putU_at as es H (by omega) nd
  have kp : ∀ b u, H b = some u → (putU H as es) b = some u := fun b u e => by
    rw [putU_off as es _ fun z => by rw [fresh b z] at e; cases e]
    exact e
  refine ⟨putU H as es, kp, atP, ?_⟩
  refine I.call' (ch := []) rfl ⟨fun b o q _ _ _ => hk b o q, fun b o q _ _ _ => ⟨o.slots, hk b o q⟩, fun b o q n _ => ?_, fun b o q _ => ⟨o, hk b o q⟩, fun b xs q => kp b _ q, fun b o u q => kp b _ q, fun b ps q => ⟨#[], by rw [kp b _ q]; simp⟩⟩ (fun b u q => ?_) I.bare fun b z => by simp at z
  · rw [putU_off as es _ fun z => absurd (Heap.lt_size q) (Nat.not_lt.mpr (Nat.le_of_lt (hG.above b z)))]
    exact n
  · by_cases hb : b ∈ as
    · obtain ⟨j, pk, e1, e2, e3⟩ := LiI.paired_ix atP hb
      rw [e3] at q
      cases q
      obtain ⟨hj, f3⟩ := hG.pairs j b e1
      obtain ⟨yv, g1, g2, g3, g4⟩ := LiI.paired_get rel e2
      have ej : ds[j] = (⟨NestedKey.hash X.w yv.1, .ref yv.2.1, yv.2.2⟩ : DictEntry) := by
        have h1 : ds.toList[j]? = some ds[j] := by rw [Array.getElem?_toList]; exact Array.getElem?_eq_getElem hj
        rw [hd, List.getElem?_map, g1] at h1
        exact (Option.some.inj h1).symm
      rw [ej] at f3
      refine ⟨by show 2 ≤ sizeLine; decide, [.ref yv.2.1, yv.2.2], .cons (show RelV (.ref pk.2.1) (.ref yv.2.1) from by rw [g3]; rfl) (.cons g4 .nil), ⟨_, f3, rfl, _, rfl⟩⟩
    · rw [putU_off as es _ hb] at q
      exact (I.hok b u q).stay (fun d v _ y => hk d v y) (fun d y => kp d _ y) fun d xs y => kp d _ y
theorem each_of_ix {α β : Type} {R : α → β → Prop} : ∀ {as : List α} {bs : List β}, as.length = bs.length → (∀ (j : Nat) a b, as[j]? = some a → bs[j]? = some b → R a b) → PySem.W.EachIs R as bs
  | [], [], _, _ => .nil
  | [], _ :: _, h, _ => by cases h
  | _ :: _, [], h, _ => by cases h
  | a :: as, b :: bs, h, k => .cons (k 0 a b rfl rfl) (each_of_ix (Nat.succ.inj h) fun j x y hx hy => k (j + 1) x y hx hy)
theorem each_items {H' : Hp} : ∀ {ts : List Addr} {es : EnU}, Paired (fun (t : Addr) x => H' t = some (.tup [.ref x.2.1, x.2.2])) ts es → PySem.W.EachIs (fun (v : Value) (b : NestedKey × Addr × V) => ∃ t, v = .ref t ∧ H' t = some (.tup [.ref b.2.1, b.2.2])) (ts.map Value.ref) es
  | [], [], .nil => .nil
  | _ :: _, _ :: _, .cons h t => .cons ⟨_, rfl, h⟩ (each_items t)
theorem each_itemsU {H' : Hp} : ∀ {vs : List Value} {es : EnU}, PySem.W.EachIs (fun (v : Value) (b : NestedKey × Addr × V) => ∃ t, v = .ref t ∧ H' t = some (.tup [.ref b.2.1, b.2.2])) vs es → ∃ ts : List Addr, vs = ts.map Value.ref ∧ ∀ {H2 : Hp}, Same H' H2 → ItemsU X.K H2 (ts.map V.ref) es
  | _, _, .nil => ⟨[], rfl, fun _ => .nil⟩
  | _, _, .cons ⟨t, e1, e2⟩ r => by
    obtain ⟨ts, e3, d⟩ := each_itemsU r
    exact ⟨t :: ts, by rw [e1, e3]; rfl, fun s => .cons ⟨t, rfl, SqT.of (s _ _ e2)⟩ (d s)⟩
theorem zipU_fst {es : EnU} : ∀ {as : List Addr}, as.length = es.length → ((as.zip (es.map fun x => x.1.data)).map fun p => Value.ref p.1) = as.map Value.ref := fun {as} h => by
  rw [show (fun p : Addr × PyData => Value.ref p.1) = Value.ref ∘ Prod.fst from rfl, ← List.map_map, List.map_fst_zip (by rw [List.length_map]; omega)]
theorem z_sortedItemsU (hg : Gl X "sorted") (hm : X.mg "sorted" = none) (he : PE X e te) (hu : X.A.units + 64 < cLine) (hc : X.calm = true := by rfl) (hbase : attributeBase e "items" X.env (eval e X.env) = eval e X.env := by rfl) (hline : (apos.endLine == cpos.line) = true := by rfl)
    (hs : starEach [.Call (.Attribute e "items" apos) [] [] cpos] X.env = (false, eval (.Call (.Attribute e "items" apos) [] [] cpos) X.env) :: starEach [] X.env := by rfl) :
    PE X (.Call (.Name "sorted" p) [.Call (.Attribute e "items" apos) [] [] cpos] [] pos) (tSortU X.w X.K te) := by
  refine ⟨fun pins s σ H Q I hq => ?_⟩
  refine wpAny_Call_Name_kw (ld_blt I hg hm (u := .builtin "sorted") (by decide +kernel) ?_)
  refine PyProof.Rows.callWith_builtin1 ?_ hs rfl
  rw [hs]
  show wpAny _ _ (spliced ((false, eval (.Call (.Attribute e "items" apos) [] [] cpos) X.env) :: backTo pos (starEach [] X.env))) _ _ s
  refine Calls.spliced_cons ?_
  refine wpAny_Call_method (T := "dict") (id := "dict.items") hbase rfl hline F.plainAttrs_dict F.slot_dict_items F.type_dict_items (thn (he.run pins s σ H _ I hq) fun u s1 ⟨x, H1, I1, rx, d, es, ex, hd, hks, htp, hal, q⟩ => ?_)
  subst ex
  obtain rfl : u = Value.ref d := rx
  obtain ⟨⟨hz, hs0, ys, rel, od, ds, ep, h3, h4, h5, h6, hnd⟩, _, _⟩ := I1.hok d _ hd
  have lds : ds.size = es.length := by rw [← Array.length_toList, h6, List.length_map]; exact (Paired.length rel).symm
  have hraw : s1.heap.DictRaw d ds ep := ⟨od, h3, h4, h5⟩
  have I2 : Inv X pins σ H1 { s1 with heap := s1.heap.push { cls := .type "dict_items", data := .fields #[.ref d] } } := I1.kept (t' := s1.toks) fun b ob q => Heap.get?_push_of_some _ q
  refine ⟨hraw.typeIs, (fun a e => by cases e; exact ⟨od, h3, h4.2.1⟩), ?_⟩
  show wpAny _ _ (callWith cpos (.builtin "dict.items") [.ref d] [] []) _ X.xe s1
  refine method_meetsIn F.slot_dict_items F.entry_dict_items rfl (PySem.evalArgs_none ⟨rfl, hraw.typeIs, F.args_dict_items_1 _, _, PySem.meets_dict_items_raw d hs0, ⟨ds, ep, hraw⟩, ?_⟩)
  refine Calls.spliced_nil ?_
  have hzl : (as : List Addr) → as.length = ds.size → as.length ≤ sizeLine := fun as h => by rw [h, lds]; exact hz
  refine Calls.call_function_entry PyProof.Rows.kind_sorted PyProof.Rows.plain_sorted PyProof.Rows.entry_sorted (PyProof.Rows.args_sorted1 _) ?_
  unfold Builtin.«sorted»
  refine wpAny_bind (m := checkCount "sorted" 1 1 _) (wpAny_pure ?_)
  refine wpAny_bind (PySem.W.dil_collect (A := X.A.in1) (es := ds) (ep := ep) (I1.ok.hd hc) ⟨_, Heap.get?_push_size _ rfl, rfl, rfl⟩ (hraw.push _) (by rw [lds]; exact hz) fun h' tk as hk hl hG => ?_)
  obtain ⟨H2, s12, prd, I3⟩ := tups_laidU (tk := tk) I2 rel h6 hk hl hG
  refine wpAny_bind (wpAny_newList ?_ (by rw [List.length_map]; exact hzl as hl))
  have hoL : (h'.push (seqObj "list" (as.map Value.ref).toArray 0)).get? h'.objs.size = some (seqObj "list" (as.map Value.ref).toArray 0) := Heap.get?_push_size _ rfl
  have nB : H2 h'.objs.size = none := I3.hok.fresh (Nat.le_refl _)
  show wpAny _ _ _ _ _ { s1 with heap := h'.push (seqObj "list" (as.map Value.ref).toArray 0), toks := tk }
  have I4 : Inv X pins σ H2 { s1 with heap := h'.push (seqObj "list" (as.map Value.ref).toArray 0), toks := tk } := I3.kept fun b ob q => Heap.get?_push_of_some _ q
  have las : as.length = es.length := by omega
  have nda : as.Nodup := hG.rise.imp fun h => Nat.ne_of_lt h
  have hks2 : KeysU X.K H2 es := fun x hx => ⟨(hks x hx).1.same s12, (hks x hx).2⟩
  have nde : (es.map (·.1)).Nodup := by rw [RelU.map rel]; exact hnd
  have mem2 : ∀ z ∈ as.zip (es.map fun x => x.1.data), ∃ x ∈ es, z.2 = x.1.data ∧ H2 z.1 = some (.tup [.ref x.2.1, x.2.2]) ∧ ∃ j, as[j]? = some z.1 ∧ es[j]? = some x := fun z hz => by
    obtain ⟨j, hj⟩ := List.mem_iff_getElem?.mp hz
    obtain ⟨a1, a2⟩ := List.getElem?_zip_eq_some.mp hj
    rw [List.getElem?_map] at a2
    obtain ⟨x, hx, ex⟩ := Option.map_eq_some_iff.mp a2
    obtain ⟨x', hx', e3⟩ := LiI.paired_get prd a1
    rw [hx] at hx'
    cases hx'
    exact ⟨x, List.mem_of_getElem? hx, ex.symm, e3, j, a1, hx⟩
  have S0 : PySem.W.SortsAt X.prog X.w X.A.in1.in1 { s1 with heap := PySem.W.sortingHeap (h'.push (seqObj "list" (as.map Value.ref).toArray 0)) h'.objs.size (as.map Value.ref), toks := tk } (itemKind (as.zip (es.map fun x => x.1.data))) ((as.zip (es.map fun x => x.1.data)).map fun p => Value.ref p.1) := by
    refine items_sortsAt (fun z hz => ?_) (by rw [List.map_fst_zip (by rw [List.length_map]; omega)]; exact nda) (fun z hz z' hz' => ?_) (fun z hz z' hz' hne => ?_) (fun z hz => ?_) (fun z hz => ?_)
    · obtain ⟨x, hx, e1, e2, _⟩ := mem2 z hz
      obtain ⟨hl2, us, ru, ⟨o, ho, hoc, n, hod⟩⟩ := I4.hok _ _ e2
      have hk1 := hks2 x hx
      cases ru with | cons r1 ru => ?_
      cases ru with | cons r2 ru => ?_
      cases ru
      obtain ⟨cs, r⟩ := Dp.reads I4 _ _ _ hk1.1 r1
      have hcs := nk_cs x.1 r
      subst hcs
      have hza : z.1 ≠ h'.objs.size := fun e => by rw [e, nB] at e2; cases e2
      refine ⟨o, n, _, _, PySem.W.sortingHeap_old hza ho, hoc, hod, [], ?_⟩
      rw [e1]
      refine PySem.W.Reads.keepBut (fun b o' hb q => PySem.W.sortingHeap_old hb q) (fun o' q => by rw [hoL] at q; rw [← Option.some.inj q]) _ _ _ (hal _ (List.mem_map_of_mem hx) _ (List.mem_map_of_mem hx)) r (by simp)
    · obtain ⟨x, hx, e1, _⟩ := mem2 z hz
      obtain ⟨x', hx', e1', _⟩ := mem2 z' hz'
      rw [e1, e1']
      exact hal _ (List.mem_map_of_mem hx) _ (List.mem_map_of_mem hx')
    · obtain ⟨x, hx, e1, _, j, j1, j2⟩ := mem2 z hz
      obtain ⟨x', hx', e1', _, j', j1', j2'⟩ := mem2 z' hz'
      rw [e1, e1']
      refine eqv_nk_ne fun e => hne ?_
      have hj : j = j' := by
        have q1 : (es.map (·.1))[j]? = some x.1 := by rw [List.getElem?_map, j2]; rfl
        have q2 : (es.map (·.1))[j']? = some x.1 := by rw [List.getElem?_map, j2', e]; rfl
        obtain ⟨b1, c1⟩ := List.getElem?_eq_some_iff.mp q1
        obtain ⟨b2, c2⟩ := List.getElem?_eq_some_iff.mp q2
        exact (List.getElem_inj nde).mp (c1.trans c2.symm)
      rw [hj, j1'] at j1
      exact (Option.some.inj j1).symm
    · obtain ⟨x, hx, e1, _⟩ := mem2 z hz
      rw [e1]
      exact htp x hx
    · obtain ⟨x, hx, e1, _⟩ := mem2 z hz
      rw [e1]
      have : x.1.data.depth ≤ 8 := Nat.le_trans (Nat.le_of_eq (nk_depth x.1)) (hks x hx).2
      refine Nat.lt_of_le_of_lt (Nat.add_le_add_left this _) ?_
      show X.A.units + 1 + 1 + 8 < cLine
      omega
  rw [zipU_fst las] at S0
  have S := S0
  refine wpAny_bind (wpAny_holding (wpAny_call_entry slot_list_sort ⟨_, hoL, rfl⟩ entry_list_sort (PySem.W.list_sort_vals (κ := itemKind (as.zip (es.map fun x => x.1.data))) (s := { s1 with heap := h'.push (seqObj "list" (as.map Value.ref).toArray 0), toks := tk }) hoL S (by rw [List.length_map]; exact hzl as hl) ⟨.none, rfl, ?_⟩) (args_list_sort _)))
  have hkeys : PySem.W.EachIs (fun v (b : NestedKey × Addr × V) => (itemKind (as.zip (es.map fun x => x.1.data))).keyOf v = some (PySem.W.keyToks b.1.data)) (as.map Value.ref) es := each_of_ix (by rw [List.length_map]; exact las) fun j v b hv hb => by
    rw [List.getElem?_map] at hv
    obtain ⟨a, ha, rfl⟩ := Option.map_eq_some_iff.mp hv
    refine item_key (p := (a, b.1.data)) (by rw [List.map_fst_zip (by rw [List.length_map]; omega)]; exact nda) (List.mem_of_getElem? (i := j) (List.getElem?_zip_eq_some.mpr ⟨ha, ?_⟩))
    rw [List.getElem?_map, hb]
    rfl
  have he2 := PySem.W.sortVals_each (κ := itemKind (as.zip (es.map fun x => x.1.data))) (rev := false) (fun b : NestedKey × Addr × V => PySem.W.keyToks b.1.data) (each_items prd) hkeys
  have lo : (PySem.W.sortVals (itemKind (as.zip (es.map fun x => x.1.data))) false (as.map Value.ref) (as.map Value.ref)).length = as.length := by rw [PySem.W.sortVals_length false rfl, List.length_map]
  generalize hout : PySem.W.sortVals (itemKind (as.zip (es.map fun x => x.1.data))) false (as.map Value.ref) (as.map Value.ref) = out at he2 lo ⊢
  obtain ⟨ts, eo, dp⟩ := each_itemsU (X := X) he2
  obtain ⟨e', he'⟩ := PyProof.Rows.sortedHeap_at (vs := as.map Value.ref) (out := out.toArray) hoL
  have lts : ts.length ≤ sizeLine := by
    have h1 : ts.length = out.length := by rw [eo, List.length_map]
    rw [h1, lo]
    exact hzl as hl
  have sN : Same H2 (upd H2 h'.objs.size (.lst (ts.map V.ref))) := Same.new nB
  refine wpAny_pure ⟨_, rfl, .ref h'.objs.size, upd H2 h'.objs.size (.lst (ts.map V.ref)), I3.laid (t' := tk) (fun b u e => ?_) (Nat.le_refl _)
    (show ObjOk X.prog X.w _ _ _ (.lst (ts.map V.ref)) from ⟨by rw [List.length_map]; exact lts, out, e', by rw [eo]; exact LiI.vals_refs ts, he'⟩), rfl, q _ _ (ts.map V.ref) (s12.trans sN) (s12.fr.back (A := []) nB) upd_same (dp sN)⟩
  have hb : b < h'.objs.size := Heap.lt_size e
  rw [PyProof.Rows.sortedHeap_old (Nat.ne_of_lt hb) (by rw [size_push']; exact Nat.lt_succ_of_lt hb)]
  exact Heap.get?_push_of_some _ e
end
def rLenU (w : World) (K : Fg) : List V → Hp → VK → Prop := fun vs H Q => ∃ d es, vs = [.ref d] ∧ H d = some (dU w d es) ∧ KeysU K H es ∧ Q (.int (es.length : Nat)) H
theorem cr_lenU {X : Cx} : CallR X (.builtin "len") (rLenU X.w X.K) := by
  intro pins s σ H xs us Q I r h
  obtain ⟨d, es, rfl, hd, hks, q⟩ := h
  rw [Vals.ref1 r]
  obtain ⟨z, h0, ys, rel, dd⟩ := du_of I hd hks
  have hl : es.length = ys.length := Paired.length rel
  refine call_len_dictH h0 dd (by rw [← hl]; rw [sizeLine_eq] at z; omega) ?_
  rw [← hl]
  exact ⟨.int ((es.length : Nat) : Int), H, I.tok _, ⟨_, rfl⟩, q⟩
theorem kLenU {X : Cx} (w : World) (K : Fg) (hK : X.K = K := by rfl) (hw : X.w = w := by rfl) : CallR X (.builtin "len") (rLenU w K) := by subst hK hw; exact cr_lenU
theorem kSU {X : Cx} (w : World) (K : Fg) {e : Expr} {te : TE} (h : PE X e (tSortU X.w X.K te)) (hK : X.K = K := by rfl) (hw : X.w = w := by rfl) : PE X e (tSortU w K te) := by subst hK hw; exact h
end Z
set_option maxHeartbeats 2000000
namespace Z
open PySem PySem.Spec PyProof.Rows L2
def rDictU (w : World) (K : Fg) : List V → Hp → VK → Prop := fun vs H Q => ∃ a ys es, vs = [.ref a] ∧ SqL K H a ys ∧ ItemsU K H ys es ∧ KeysU K H es ∧ (es.map (·.1)).Nodup ∧ ∀ p, H p = none → Q (.ref p) (upd H p (dU w p es))
section
variable {X : Cx}
theorem items_of {pins : List (Addr × Obj)} {σ : L2.St} {H : Hp} {s : Shared} (I : Inv X pins σ H s) : ∀ {ys : List V} {es : EnU}, ItemsU X.K H ys es →
    ∃ (ts : List Addr) (vs : EvU), ys = ts.map V.ref ∧ ts.length = es.length ∧ RelU es vs ∧ ∀ (j : Nat) (y : NestedKey × Addr × Value), vs[j]? = some y → ∃ b, ts[j]? = some b ∧ IsTup s.heap b #[.ref y.2.1, y.2.2]
  | _, _, .nil => ⟨[], [], rfl, rfl, .nil, fun j q e => by simp at e⟩
  | _, _, .cons (b := x) ⟨t, e, h⟩ r => by
    subst e
    obtain ⟨ts, vs, e1, hl, rl, hp⟩ := items_of I r
    obtain ⟨its, rv, ht, _⟩ := I.tuple h
    obtain ⟨u, y, ei, ru, ry⟩ := vals2 rv
    subst ei
    obtain rfl : u = .ref x.2.1 := ru
    refine ⟨t :: ts, (x.1, x.2.1, y) :: vs, by rw [e1]; rfl, by rw [List.length_cons, List.length_cons, hl], .cons ⟨rfl, rfl, ry⟩ rl, fun j q e => ?_⟩
    cases j with
    | zero =>
      cases e
      exact ⟨t, rfl, ht⟩
    | succ j => exact hp j q e
theorem call_dictU (hcalm : X.calm = true) (hu : X.A.units + 64 < cLine) : CallR X (.type "dict") (rDictU X.w X.K) := by
  intro pins s σ H xs us Q I r q
  obtain ⟨a, ys, es, rfl, hq, hit, hks, nd, q⟩ := q
  rw [Vals.ref1 r]
  obtain ⟨its, rv, pl, hz⟩ := I.list hq
  obtain ⟨ts, vs, e1, hl, rel, hpr⟩ := items_of I hit
  subst e1
  have ei := refs_at rv
  subst ei
  rw [List.length_map] at hz
  obtain ⟨o, n, ho, hc, hd, hdat⟩ := pl
  have lv : es.length = vs.length := Paired.length rel
  have ndv : (vs.map (·.1)).Nodup := by rw [← RelU.map rel]; exact nd
  have key : ∀ h' : Heap, (∀ b o, b ≠ s.heap.objs.size → b ∉ ([] : List Addr) → s.heap.get? b = some o → h'.get? b = some o) → ∀ x ∈ vs, (nestedKind X.prog X.w).is h' x.1 x.2.1 := fun h' k x hx => by
    obtain ⟨y, hy, f1, f2, _⟩ := RelU.mem rel x hx
    have := key_is I (hks y hy)
    rw [f1, f2] at this
    exact ⟨NestedIs.at (fun b ob us m e _ => k b ob (Nat.ne_of_lt (Heap.lt_size e)) (by simp) e) _ _ this.1, this.2⟩
  refine call_dict_pairsH (knd := nestedKind X.prog X.w) (ps := vs) (PySem.PairArg.list a (ts.map Value.ref).toArray (fun j => ts.getD j 0) (vs.map fun y => (Value.ref y.2.1, y.2.2))) (I.ok.hd hcalm) (show _ < _ by show X.A.units + 1 + 1 + 8 < cLine; omega) ⟨⟨o, n, ho, hc, hd, hdat⟩, ?_, fun j k v hj => ?_⟩ ⟨by rw [List.length_map], fun j k v hj => ?_⟩ key (by rw [List.length_map]; omega) fun h' tk hd' k => ?_
  · rw [List.size_toArray, List.length_map, List.length_map]
    omega
  · rw [List.getElem?_map] at hj
    obtain ⟨y, hy, ey⟩ := Option.map_eq_some_iff.mp hj
    cases ey
    obtain ⟨b, hb, ⟨ob, hob, hoc, m, hod⟩⟩ := hpr j y hy
    have eg : ts.getD j 0 = b := by rw [List.getD_eq_getElem?_getD, hb]; rfl
    dsimp only
    rw [eg]
    refine ⟨by simp [hb], .inl ⟨ob, hob, hoc, m, hod⟩⟩
  · have hj : (vs.map fun y => (Value.ref y.2.1, y.2.2))[j]? = some (k, v) := hj
    rw [List.getElem?_map] at hj
    obtain ⟨y, hy, ey⟩ := Option.map_eq_some_iff.mp hj
    cases ey
    exact ⟨y.1, y.2.1, hy, rfl⟩
  · rw [PySem.storedAllH_nil_of_nodup vs ndv] at hd'
    obtain ⟨od, ds, ep, q1, q2, q3, q4, _, q5⟩ := hd'
    have hm : (s.heap.objs.size == sysModules) = false := beq_eq_false_iff_ne.mpr (Nat.ne_of_gt I.big)
    refine ⟨.ref s.heap.objs.size, upd H s.heap.objs.size (dU X.w s.heap.objs.size es), I.laid (t' := tk) (fun b o e => k b o (by simp) e) (Nat.le_refl _) (show ObjOk X.prog X.w _ _ _ (dU X.w s.heap.objs.size es) from ⟨⟨by omega, hm, vs, rel, od, ds, ep, q1, q2, q3, q4, q5⟩, ⟨od, q1⟩, phi_st⟩), rfl, q _ (I.hok.fresh (Nat.le_refl _))⟩
theorem kDictU (w : World) (K : Fg) (hcalm : X.calm = true) (hu : X.A.units + 64 < cLine) (hK : X.K = K := by rfl) (hw : X.w = w := by rfl) : CallR X (.type "dict") (rDictU w K) := by subst hK hw; exact call_dictU hcalm hu
end
end Z
set_option maxHeartbeats 2000000
namespace Z
open PySem PySem.Spec PyProof.Rows L2
section
variable {X : Cx}
theorem keys_dp {K : Fg} {H : Hp} : ∀ {es : EnU}, KeysU K H es → DpAll K H (es.map fun x => V.ref x.2.1) (es.map fun x => x.1.data)
  | [], _ => .nil
  | x :: es, h => .cons (h x List.mem_cons_self).1 (keys_dp fun y hy => h y (List.mem_cons_of_mem _ hy))
end
end Z
set_option maxHeartbeats 2000000
namespace Z
open PySem PySem.Spec PyProof.Rows L2
def rListU (w : World) (K : Fg) : List V → Hp → VK → Prop := fun vs H Q => ∃ d es, vs = [.ref d] ∧ H d = some (dU w d es) ∧ KeysU K H es ∧ ∀ p, H p = none → Q (.ref p) (upd H p (.lst (es.map fun x => .ref x.2.1)))
section
variable {X : Cx}
theorem vals_keys : ∀ {es : EnU} {ys : EvU}, RelU es ys → Vals (es.map fun x => V.ref x.2.1) (ys.map fun y => Value.ref y.2.1)
  | _, _, .nil => .nil
  | _, _, .cons (a := a) (b := b) h t => .cons (by dsimp only; rw [h.2.1]; exact (show L2.RelV (V.ref b.2.1) (Value.ref b.2.1) from rfl)) (vals_keys t)
theorem call_listU (hcalm : X.calm = true) : CallR X (.type "list") (rListU X.w X.K) := by
  intro pins s σ H xs us Q I r q
  obtain ⟨d, es, rfl, hd, hks, q⟩ := q
  rw [Vals.ref1 r]
  obtain ⟨⟨hz, hs0, ys, rel, od, ds, ep, h3, h4, h5, h6, hnd⟩, _, _⟩ := I.hok d _ hd
  have lds : ds.size = es.length := by rw [← Array.length_toList, h6, List.length_map]; exact (Paired.length rel).symm
  have hraw : s.heap.DictRaw d ds ep := ⟨od, h3, h4, h5⟩
  refine PySem.W.kdl_call (PySem.KdlSrc.rawDict (es := ds) (ep := ep) hs0) (I.ok.hd hcalm) hraw (by rw [lds]; exact hz) fun h' tk acc c hk hS hacc => ?_
  have hE : acc.toList = ys.map fun y => Value.ref y.2.1 := by
    refine List.ext_getElem? fun j => ?_
    rw [List.getElem?_map]
    cases hj : ys[j]? with
    | none =>
      have : ys.length ≤ j := List.getElem?_eq_none_iff.mp hj
      refine List.getElem?_eq_none ?_
      rw [Array.length_toList, hacc.1, lds, Paired.length rel]
      exact this
    | some y =>
      have hjl := (List.getElem?_eq_some_iff.mp hj).1
      have hl : j < acc.toList.length := by rw [Array.length_toList, hacc.1, lds, Paired.length rel]; exact hjl
      have e1 := List.getElem?_eq_getElem hl
      obtain ⟨hj2, e2⟩ := hacc.2 j _ (by rw [← Array.getElem?_toList]; exact e1)
      have h1 : ds.toList[j]? = some ds[j] := by rw [Array.getElem?_toList]; exact Array.getElem?_eq_getElem hj2
      rw [h6, List.getElem?_map, hj] at h1
      have e3 := Option.some.inj h1
      rw [e1, e2, ← e3]
      rfl
  have I1 : Inv X pins σ H { s with heap := h', toks := tk } := I.kept hk
  refine ⟨.ref s.heap.objs.size, upd H s.heap.objs.size (.lst (es.map fun x => .ref x.2.1)), I.laid (t' := tk) hk (Nat.le_refl _) (show ObjOk X.prog X.w _ _ _ (.lst (es.map fun x => V.ref x.2.1)) from ⟨by rw [List.length_map]; exact hz, ys.map (fun y => Value.ref y.2.1), c, vals_keys rel, by rw [hS, ← hE]⟩), rfl, q _ (I.hok.fresh (Nat.le_refl _))⟩
theorem kListU (w : World) (K : Fg) (hcalm : X.calm = true) (hK : X.K = K := by rfl) (hw : X.w = w := by rfl) : CallR X (.type "list") (rListU w K) := by subst hK hw; exact call_listU hcalm
end
def ItU (w : World) (d : Addr) (o : Obj) (es : EnU) : It :=
  ⟨fun i H => H d = some (.frz o (dU w d es)) ∧ i < es.length, fun i H v H' => ∃ T x, es[i]? = some x ∧ v = .ref T ∧ H T = none ∧ H' = upd H T (.tup [.ref x.2.1, x.2.2]), fun i H => H d = some (.frz o (dU w d es)) ∧ es.length ≤ i⟩
theorem phi_at {w : World} {d : Addr} {es : EnU} {h : Heap} {o : Obj} {ds : Array DictEntry} {ep : Nat} (p : PhiU w d es h) (ho : h.get? d = some o) (hod : o.data = .dict ds ep) : ∃ ys : EvU, RelU es ys ∧ o.ExactDict ∧ ds.toList = ys.map (fun x => (⟨NestedKey.hash w x.1, .ref x.2.1, x.2.2⟩ : DictEntry)) ∧ ds.size = es.length := by
  obtain ⟨_, _, ys, rel, o', ds', ep', e1, e2, e3, e4, _⟩ := p
  rw [ho] at e1
  cases e1
  rw [hod] at e3
  cases e3
  exact ⟨ys, rel, e2, e4, by rw [← Array.length_toList, e4, List.length_map]; exact (Paired.length rel).symm⟩
section
variable {P : Program} {w : World} {K : Fg} {d : Addr} {o : Obj} {ds : Array DictEntry} {ep : Nat}
theorem turn_itemsU {es : EnU} {elts : List Expr} {kk : Nat} {tpos : Pos} (it : Addr) (hod : o.data = .dict ds ep) :
    Turn P w K (.Tuple elts kk tpos) (ItU w d o es) [it] it (fun i h => ∃ ok ov, IsItemIter h it d i es.length ep ok ov) where
  mem := by simp
  obj := fun i h st b hb => by
    have e : b = it := by simpa using hb
    subst e
    obtain ⟨ok, ov, e⟩ := st
    exact ⟨_, e, fun v z => nomatch z⟩
  keep := fun i h h' st k => let ⟨ok, ov, e⟩ := st; ⟨ok, ov, k it (by simp) _ e⟩
  item := by
    intro X hP hw hK hc i pins s σ H E I hf st hg
    subst hP hw hK
    obtain ⟨hd, hi⟩ := hg
    obtain ⟨hgd, pu, _, _⟩ := I.hok d _ hd
    obtain ⟨ys, rel, hx, h6, hl⟩ := phi_at pu hgd hod
    have hraw : s.heap.DictRaw d ds ep := ⟨o, hgd, hx, hod⟩
    obtain ⟨ok, ov, he⟩ := st
    rw [← hl] at he
    have hlt : it < s.heap.objs.size := Heap.lt_size he
    have hid : i < ds.size := by rw [hl]; exact hi
    have ei : es[i]? = some es[i] := List.getElem?_eq_getElem hi
    obtain ⟨y, g1, g2, g3, g4⟩ := LiI.paired_get rel ei
    have ej : ds[i] = (⟨NestedKey.hash X.w y.1, .ref y.2.1, y.2.2⟩ : DictEntry) := by
      have h1 : ds.toList[i]? = some ds[i] := by rw [Array.getElem?_toList]; exact Array.getElem?_eq_getElem hid
      rw [h6, List.getElem?_map, g1] at h1
      exact (Option.some.inj h1).symm
    refine PySem.wpAny_pyNext_items_item_raw he hraw hid fun h' ho hT hz hk => ?_
    rw [ej] at ho hT
    refine ⟨_, rfl, wpAny_letOwnedTupleGo_items (s := { s with heap := h' }) ho fun h'' he' sb => ?_⟩
    have hT2 : h''.get? s.heap.objs.size = some { cls := .type "tuple", data := .seq #[.ref y.2.1, y.2.2] } := (sb.2 _ (Nat.ne_of_gt hlt)).trans hT
    have new : ObjOk X.prog X.w (upd H s.heap.objs.size (.tup [.ref es[i].2.1, es[i].2.2])) h'' s.heap.objs.size (.tup [.ref es[i].2.1, es[i].2.2]) :=
      ⟨by show 2 ≤ sizeLine; decide, [.ref y.2.1, y.2.2], .cons (by rw [g3]; exact (show L2.RelV (V.ref y.2.1) (Value.ref y.2.1) from rfl)) (.cons g4 .nil), ⟨_, hT2, rfl, _, rfl⟩⟩
    have I1 : Inv X pins σ (upd H s.heap.objs.size (.tup [.ref es[i].2.1, es[i].2.2])) { s with heap := h'' } :=
      I.turnedNew (t' := s.toks) (ch := [it]) (fun b ob hb e => (sb.2 b (by simpa using hb)).trans (hk b ob (by simpa using hb) e)) hf (Nat.le_refl _) new
    refine ⟨.ref s.heap.objs.size, _, I1, rfl, ⟨_, es[i], ei, rfl, I.hok.fresh (Nat.le_refl _), rfl⟩, ⟨.ref y.2.1, y.2.2, ?_⟩, fun b hb => ?_⟩
    · rw [← hl]; exact he'
    · have e : b = it := by simpa using hb
      rw [e, upd_ne (Nat.ne_of_lt hlt)]
      exact (hf it (by simp)).1
  done := by
    intro X hP hw hK hc i pins s σ H E I hf st hg
    subst hP hw hK
    obtain ⟨hd, hi⟩ := hg
    obtain ⟨f0, f1, f2, f3, f4, f5⟩ := hf it (by simp)
    obtain ⟨hgd, pu, _, _⟩ := I.hok d _ hd
    obtain ⟨ys, rel, hx, h6, hl⟩ := phi_at pu hgd hod
    obtain ⟨ok, ov, he⟩ := st
    rw [← hl] at he
    exact PySem.wpAny_pyNext_items_end_raw (I.ok.hd hc) he ⟨o, hgd, hx, hod⟩ (by rw [hl]; exact hi) fun h' eb => ⟨rfl, I.turned (t' := s.toks) (fun b ob hb e => eb b ob hb e) f0 f1 f3 f4 f5⟩
  self := fun A i s Q E st h => let ⟨_, _, e⟩ := st; PySem.W.kcp_self e h
end
def iItemsU (w : World) (td : TE) : TI := fun σ H R => td σ H fun x H1 => ∃ d o es, x = .ref d ∧ H1 d = some (.frz o (dU w d es)) ∧ R (ItU w d o es) H1
theorem s_itemsU {w : World} {td : TE} {σ : L2.St} {H : Hp} {R : It → Hp → Prop} (q : td σ H fun x H1 => ∃ d o es, x = .ref d ∧ H1 d = some (.frz o (dU w d es)) ∧ R (ItU w d o es) H1) : iItemsU w td σ H R := q
theorem s_lock {t : TS} {D : Ends} {σ : L2.St} {H : Hp} (q : ∃ d u, H d = some u ∧ Mut (some u) ∧ ∀ od, t ⟨fun σ' H' => H' d = some (.frz od u) ∧ D.nx σ' (upd H' d u), fun v H' => H' d = some (.frz od u) ∧ D.rt v (upd H' d u), fun σ' H' => H' d = some (.frz od u) ∧ D.bk σ' (upd H' d u), fun σ' H' => H' d = some (.frz od u) ∧ D.ct σ' (upd H' d u)⟩ σ (upd H d (.frz od u))) : tLock t D σ H := q
theorem mut_dU {w : World} {d : Addr} {es : EnU} : Mut (some (dU w d es)) := True.intro
theorem walk_itemsU {w : World} {d : Addr} {o : Obj} {es : EnU} : Walk (ItU w d o es) es.length (fun H => H d = some (.frz o (dU w d es))) (YPair (fun i => es[i]?.map fun x => V.ref x.2.1) (fun i => es[i]?.map fun x => x.2.2)) :=
  ⟨fun i H hi h => ⟨h, hi⟩, fun H h => ⟨h, Nat.le_refl _⟩, fun i H v H' hi h ⟨T, x, e1, e2, e3, e4⟩ => ⟨T, _, _, e2, e3, e4, by dsimp only; rw [e1]; rfl, by dsimp only; rw [e1]; rfl⟩⟩
section
variable {X : Cx} {e : Expr} {td : TE} {apos cpos : Pos}
theorem pi_itemsU {elts : List Expr} {kk : Nat} {tpos : Pos} (he : PE X e td) (hbase : attributeBase e "items" X.env (eval e X.env) = eval e X.env := by rfl) (hline : (apos.endLine == cpos.line) = true := by rfl) :
    PI X (.Tuple elts kk tpos) (.Call (.Attribute e "items" apos) [] [] cpos) (iItemsU X.w td) := by
  refine ⟨fun pins s σ H R I h => ?_⟩
  refine wpAny_Call_method (T := "dict") (id := "dict.items") hbase rfl hline F.plainAttrs_dict F.slot_dict_items F.type_dict_items (thn (he.run pins s σ H _ I h) fun u s1 ⟨x, H1, I1, rx, d, o, es, ex, hd, q⟩ => ?_)
  subst ex
  obtain rfl : u = Value.ref d := rx
  obtain ⟨hgd, pu, _, _⟩ := I1.hok d _ hd
  have hs0 := pu.2.1
  obtain ⟨ds, ep, hod⟩ : ∃ ds ep, o.data = .dict ds ep := by
    obtain ⟨_, _, _, _, o', ds, ep, e1, _, e3, _⟩ := pu
    rw [hgd] at e1
    cases e1
    exact ⟨ds, ep, e3⟩
  obtain ⟨ys, rel, hx, h6, hl⟩ := phi_at pu hgd hod
  have hraw : s1.heap.DictRaw d ds ep := ⟨o, hgd, hx, hod⟩
  refine ⟨hraw.typeIs, (fun a e => by cases e; exact ⟨o, hgd, hx.2.1⟩), ?_⟩
  have I2 : Inv X pins σ H1 { s1 with heap := s1.heap.push { cls := .type "dict_items", data := .fields #[.ref d] } } := I1.kept (t' := s1.toks) fun b ob q => Heap.get?_push_of_some _ q
  have fin : wpAny (model X.prog X.w) X.A (pyIter (.ref s1.heap.objs.size)) (PIE X pins σ (.Tuple elts kk tpos) R) X.xe { s1 with heap := s1.heap.push { cls := .type "dict_items", data := .fields #[.ref d] } } := by
    refine PySem.wpAny_pyIter_items_raw (d := d) ⟨_, Heap.get?_push_size _ rfl, rfl, rfl⟩ (hraw.push _) (pi_one (tk := s1.toks) I2 _ (turn_itemsU (es := es) _ hod) ⟨.none, .none, ?_⟩ q)
    rw [← hl]
    exact Heap.get?_push_size _ rfl
  show wpAny _ _ (callWith cpos (.builtin "dict.items") [.ref d] [] []) _ X.xe s1
  exact method_meetsIn F.slot_dict_items F.entry_dict_items rfl (PySem.evalArgs_none ⟨rfl, hraw.typeIs, F.args_dict_items_1 _, _, PySem.meets_dict_items_raw d hs0, ⟨ds, ep, hraw⟩, fin⟩)
theorem kIU (w : World) {x y : Expr} {ta : TE} (h : PI X x y (iItemsU X.w ta)) (hw : X.w = w := by rfl) : PI X x y (iItemsU w ta) := by subst hw; exact h
end
def rEqU (w : World) (K : Fg) : V → V → Hp → VK → Prop := fun x y H Q => ∃ a b es ls, x = .ref a ∧ y = .ref b ∧ H a = some (dU w a es) ∧ H b = some (dU w b ls) ∧ KeysU K H es ∧ KeysU K H ls ∧ es.length = ls.length ∧
  (∀ e ∈ es, ∃ l ∈ ls, e.1 = l.1 ∧ ∃ de dl, Dp K H e.2.2 de ∧ Dp K H l.2.2 dl ∧ SeqAt.shaped de = true ∧ SeqAt.shaped dl = true ∧ PyData.eqv de dl = true) ∧ Q (.bl true) H
section
variable {prog : Program} {w : World} {A : Around} {E : Value → Shared → Prop} {s : Shared}
theorem samePairsU {knd : HeapKind prog w NestedKey} {nm : String} {a b : Addr} {ka kb : List (NestedKey × Addr × Value)} {Q : Bool → Shared → Prop} (hu : knd.room A) (ha : (a == sysModules) = false) (hb : (b == sysModules) = false)
    (da : s.heap.DictOfH knd a ka) (db : s.heap.DictOfH knd b kb) (hl : ka.length = kb.length) (hits : ∀ x ∈ ka, ∃ y ∈ kb, x.1 = y.1 ∧ SeqAt.EqAt A s x.2.2 y.2.2 true) (h : Q true s) :
    wpAny (model prog w) A (Builtin.Dict.samePairs nm a b) Q E s := by
  obtain ⟨oa, es, ep, hoa, _, hda, hka, hpa, hna⟩ := da
  obtain ⟨ob, es', ep', hob, _, hdb, hkb, hpb, hnb⟩ := db
  have hla : ka.length = es.size := by rw [← Array.length_toList, hka, List.length_map]
  have hlb : kb.length = es'.size := by rw [← Array.length_toList, hkb, List.length_map]
  unfold Builtin.Dict.samePairs Builtin.Dict.showsAll
  rw [if_neg (show ¬ (a == sysModules) = true by rw [ha]; exact Bool.false_ne_true), if_neg (show ¬ (b == sysModules) = true by rw [hb]; exact Bool.false_ne_true)]
  refine wpAny_bind (wpAny_pure (wpAny_bind (wpAny_pure ?_)))
  refine wpAny_bind (wpAny_dictEntries hoa hda ?_)
  dsimp only
  refine wpAny_bind (wpAny_dictEntries hob hdb ?_)
  have hsz : es.size = es'.size := by omega
  rw [if_neg (by rw [hsz]; simp)]
  refine wpAny_bind (wpAny_dictEpoch hoa hda ?_)
  refine wpAny_bind ?_
  rw [Std.Legacy.Range.forIn_eq_forIn_range']
  simp only [Std.Legacy.Range.size, Nat.sub_zero, Nat.add_sub_cancel, Nat.div_one]
  refine wpAny_forIn_list _
    (fun rest q s' => s' = s ∧ q = (none, ()) ∧ ∃ i, rest = List.range' i (es.size - i) ∧ i ≤ es.size)
    _ ?_ ?_ _ _ ⟨rfl, rfl, 0, by simp, Nat.zero_le _⟩
  · rintro x rest q s' ⟨rfl, rfl, i, hr, hi⟩
    have hlt : i < es.size := by
      rcases Nat.lt_or_ge i es.size with h | h
      · exact h
      · rw [Nat.sub_eq_zero_of_le h] at hr; simp at hr
    obtain ⟨rfl, hrest⟩ : x = i ∧ rest = List.range' (i + 1) (es.size - (i + 1)) := by
      have e : es.size - i = (es.size - (i + 1)) + 1 := by omega
      rw [e, List.range'_succ] at hr
      injection hr with h1 h2
      exact ⟨h1, h2⟩
    refine wpAny_bind (wpAny_dictEntries hoa hda ?_)
    rw [Array.getElem?_eq_getElem hlt]
    have hlt' : x < ka.length := by rw [hla]; exact hlt
    have ekx : ka[x]? = some ka[x] := List.getElem?_eq_getElem hlt'
    have hex : es[x] = entryOfKey knd ka[x] := by
      have h1 : es.toList[x]? = some es[x] := by rw [Array.getElem?_toList]; exact Array.getElem?_eq_getElem hlt
      rw [hka, List.getElem?_map, ekx] at h1
      exact (Option.some.inj h1).symm
    obtain ⟨y, hy, eky, heq⟩ := hits ka[x] (List.getElem_mem hlt')
    have hkx := hpa ka[x] (List.getElem_mem hlt')
    rw [hex]
    show wpAny _ _ (holding [.ref ka[x].2.1, ka[x].2.2] _ >>= _) _ _ _
    show wpAny _ _ (holding _ (dictFind b (.ref ka[x].2.1) (knd.hash ka[x].1) >>= _) >>= _) _ _ _
    refine wpAny_bind (wpAny_holding (wpAny_bind (wpAny_dictFind_heap hu hkx hob hdb hkb hpb hnb (fun hn => ?_) (fun j p hj => ?_))))
    · obtain ⟨j, hj⟩ := List.mem_iff_getElem?.mp hy
      exact absurd (by rw [hj, eky]) (hn j y.2)
    · have hjl : j < es'.size := by rw [← hlb]; exact (List.getElem?_eq_some_iff.mp hj).1
      have ep2 : (ka[x].1, p) = y := by
        obtain ⟨j2, hj2⟩ := List.mem_iff_getElem?.mp hy
        have q1 : (kb.map (·.1))[j]? = some ka[x].1 := by rw [List.getElem?_map, hj]; rfl
        have q2 : (kb.map (·.1))[j2]? = some ka[x].1 := by rw [List.getElem?_map, hj2, eky]; rfl
        obtain ⟨b1, c1⟩ := List.getElem?_eq_some_iff.mp q1
        obtain ⟨b2, c2⟩ := List.getElem?_eq_some_iff.mp q2
        have : j = j2 := (List.getElem_inj hnb).mp (c1.trans c2.symm)
        rw [← this, hj] at hj2
        exact Option.some.inj hj2
      have hey : es'[j] = entryOfKey knd y := by
        have h1 : es'.toList[j]? = some es'[j] := by rw [Array.getElem?_toList]; exact Array.getElem?_eq_getElem hjl
        rw [hkb, List.getElem?_map, hj, ep2] at h1
        exact (Option.some.inj h1).symm
      refine wpAny_bind (wpAny_dictEntries hob hdb ?_)
      rw [Array.getElem?_eq_getElem hjl, hey]
      refine wpAny_holding (heq prog w _ _ ?_)
      show wpAny _ _ (if (!true) = true then _ else _) _ _ _
      rw [if_neg (by decide)]
      refine wpAny_bind (wpAny_dictEpoch hoa hda ?_)
      rw [if_neg (by simp)]
      exact wpAny_pure ⟨rfl, rfl, x + 1, hrest, hlt⟩
  · rintro q s' ⟨rfl, rfl, i, hr, hi⟩
    exact wpAny_pure h
end
section
variable {X : Cx}
theorem op_eqU (hu : X.A.units + 65 < cLine) : OpR X (compareOp .Eq) (rEqU X.w X.K) := by
  intro pins s σ H x y v u Q I rx ry h
  obtain ⟨a, b, es, ls, rfl, rfl, ha, hb, hks, hls, hlen, hits, q⟩ := h
  obtain rfl : v = Value.ref a := rx
  obtain rfl : u = Value.ref b := ry
  obtain ⟨_, a0, ys, rel, dda⟩ := du_of I ha hks
  obtain ⟨_, b0, zs, rel2, ddb⟩ := du_of I hb hls
  refine wpAny_richCompare_same_room (op := .Eq) dda.typeIs ddb.typeIs PySem.F.slot_dict_eq (wpAny_call_entry PySem.F.slot_dict_eq dda.typeIs PySem.F.entry_dict_eq ?_ (PySem.F.args_dict_eq_2 _ _)) (by omega)
  show wpAny _ _ (Builtin.Dict.dictSlotArgs "__eq__" ⟨[.ref a, .ref b], []⟩ >>= _) _ _ s
  refine wpAny_bind ?_
  unfold Builtin.Dict.dictSlotArgs
  refine wpAny_bind (wpAny_notOrdered_dict dda.typeIs ?_)
  show wpAny _ _ (pure (Value.ref a, Value.ref b)) _ _ s
  refine wpAny_pure ?_
  refine wpAny_bind (wpAny_isInstance (T := "dict") ddb.typeIs PySem.F.sub_dict_dict ?_)
  simp only [Bool.not_true, Bool.false_eq_true, if_false]
  refine wpAny_bind (wpAny_pure (wpAny_bind (wpAny_pure ?_)))
  refine wpAny_bind (samePairsU (show _ < _ by show X.A.units + 1 + 8 < cLine; omega) a0 b0 dda ddb (by rw [← Paired.length rel, ← Paired.length rel2]; exact hlen) (fun z hz => ?_) ?_)
  · obtain ⟨j, hj⟩ := List.mem_iff_getElem?.mp hz
    have hjl : j < es.length := by rw [Paired.length rel]; exact (List.getElem?_eq_some_iff.mp hj).1
    have ej : es[j]? = some es[j] := List.getElem?_eq_getElem hjl
    obtain ⟨z', g1, g2, g3, g4⟩ := LiI.paired_get rel ej
    rw [hj] at g1
    cases g1
    obtain ⟨l, hl, ekl, de, dl, d1, d2, s1, s2, ev⟩ := hits es[j] (List.getElem_mem hjl)
    obtain ⟨k, hk⟩ := List.mem_iff_getElem?.mp hl
    obtain ⟨t, t1, t2, t3, t4⟩ := LiI.paired_get rel2 hk
    refine ⟨t, List.mem_of_getElem? t1, by rw [← g2, ekl, t2], ?_⟩
    obtain ⟨as, ra⟩ := Dp.reads I _ _ _ d1 g4
    obtain ⟨bs, rb⟩ := Dp.reads I _ _ _ d2 t4
    have := PySem.W.keq_at (A := X.A) (s := s) ra rb s1 s2 (by show X.A.units + 1 + 64 < cLine; omega)
    rw [ev] at this
    exact this
  refine wpAny_pure ⟨_, rfl, ?_, ?_⟩
  · exact fun x => nomatch x
  · exact ⟨.bl true, H, I, rfl, q⟩
theorem op_eqUK (w : World) (K : Fg) (hu : X.A.units + 65 < cLine) (hK : X.K = K := by rfl) (hw : X.w = w := by rfl) : OpR X (compareOp .Eq) (rEqU w K) := by subst hK hw; exact op_eqU hu
end
end Z
set_option maxHeartbeats 1000000
namespace T
open PySem PySem.Spec PyProof.Rows L2 Z
open He (ga ma)
def top (i : Nat) : Stmt := PySem.Challenge.pw_callbells_k76_whole_more_processors.main.body.getD i (.Pass ⟨0, 0, 0, 0⟩)
abbrev s_is_integer : Stmt := top 25
def d_is_integer : DefZ := ⟨fun K => ga K "is_integer", "is_integer", "is_integer", s_is_integer, []⟩
abbrev n_is_integer : List Str := ["value", "low", "high"]
theorem sc_is_integer : FnScope n_is_integer ["value", "low", "high"] (defScope s_is_integer) := ⟨rfl, rfl, rfl, by decide +kernel, rfl, by decide +kernel, by decide +kernel⟩
abbrev s_check_number : Stmt := top 26
def d_check_number : DefZ := ⟨fun K => ga K "check_number", "check_number", "check_number", s_check_number, []⟩
abbrev n_check_number : List Str := ["number", "low", "high"]
theorem sc_check_number : FnScope n_check_number ["number", "low", "high"] (defScope s_check_number) := ⟨rfl, rfl, rfl, by decide +kernel, rfl, by decide +kernel, by decide +kernel⟩
abbrev s_is_word : Stmt := top 27
def d_is_word : DefZ := ⟨fun K => ga K "is_word", "is_word", "is_word", s_is_word, []⟩
abbrev n_is_word : List Str := ["value", "letter"]
theorem sc_is_word : FnScope n_is_word ["value"] (defScope s_is_word) := ⟨rfl, rfl, rfl, by decide +kernel, rfl, by decide +kernel, by decide +kernel⟩
abbrev s_is_name : Stmt := top 28
def d_is_name : DefZ := ⟨fun K => ga K "is_name", "is_name", "is_name", s_is_name, []⟩
abbrev n_is_name : List Str := ["value"]
theorem sc_is_name : FnScope n_is_name ["value"] (defScope s_is_name) := ⟨rfl, rfl, rfl, by decide +kernel, rfl, by decide +kernel, by decide +kernel⟩
abbrev s_is_line : Stmt := top 29
def d_is_line : DefZ := ⟨fun K => ga K "is_line", "is_line", "is_line", s_is_line, []⟩
abbrev n_is_line : List Str := ["line"]
theorem sc_is_line : FnScope n_is_line ["line"] (defScope s_is_line) := ⟨rfl, rfl, rfl, by decide +kernel, rfl, by decide +kernel, by decide +kernel⟩
abbrev s_is_work : Stmt := top 30
def d_is_work : DefZ := ⟨fun K => ga K "is_work", "is_work", "is_work", s_is_work, []⟩
abbrev n_is_work : List Str := ["work"]
theorem sc_is_work : FnScope n_is_work ["work"] (defScope s_is_work) := ⟨rfl, rfl, rfl, by decide +kernel, rfl, by decide +kernel, by decide +kernel⟩
abbrev s_is_step : Stmt := top 31
def d_is_step : DefZ := ⟨fun K => ga K "is_step", "is_step", "is_step", s_is_step, []⟩
abbrev n_is_step : List Str := ["step", "kinds", "works", "word", "value"]
theorem sc_is_step : FnScope n_is_step ["step", "kinds", "works"] (defScope s_is_step) := ⟨rfl, rfl, rfl, by decide +kernel, rfl, by decide +kernel, by decide +kernel⟩
abbrev s_check_lines : Stmt := top 32
def d_check_lines : DefZ := ⟨fun K => ga K "check_lines", "check_lines", "check_lines", s_check_lines, []⟩
abbrev n_check_lines : List Str := ["lines", "most", "names", "index", "line"]
theorem sc_check_lines : FnScope n_check_lines ["lines", "most"] (defScope s_check_lines) := ⟨rfl, rfl, rfl, by decide +kernel, rfl, by decide +kernel, by decide +kernel⟩
abbrev s_check_works : Stmt := top 33
def d_check_works : DefZ := ⟨fun K => ga K "check_works", "check_works", "check_works", s_check_works, []⟩
abbrev n_check_works : List Str := ["works", "most", "names", "index", "work"]
theorem sc_check_works : FnScope n_check_works ["works", "most"] (defScope s_check_works) := ⟨rfl, rfl, rfl, by decide +kernel, rfl, by decide +kernel, by decide +kernel⟩
abbrev s_Setup_init : Stmt := inClass (top 34) 3
def d_Setup_init : DefZ := ⟨fun K => ma K (ga K "Setup") "__init__", "__init__", "Setup.__init__", s_Setup_init, [.adr (dfA (fun K => ma K (ga K "Setup") "__init__") 0)]⟩
abbrev n_Setup_init : List Str := ["self", "lines", "works", "kinds", "names", "index", "line", "work", "step"]
theorem sc_Setup_init : FnScope n_Setup_init ["self", "lines", "works"] (defScope s_Setup_init) := ⟨rfl, rfl, rfl, by decide +kernel, rfl, by decide +kernel, by decide +kernel⟩
abbrev s_Setup_lines : Stmt := inClass (top 34) 5
def d_Setup_lines : DefZ := ⟨fun K => pga K (ga K "Setup") "lines", "lines", "Setup.lines", s_Setup_lines, []⟩
abbrev n_Setup_lines : List Str := ["self"]
theorem sc_Setup_lines : FnScope n_Setup_lines ["self"] (defScope s_Setup_lines) := ⟨rfl, rfl, rfl, by decide +kernel, rfl, by decide +kernel, by decide +kernel⟩
abbrev s_Setup_works : Stmt := inClass (top 34) 6
def d_Setup_works : DefZ := ⟨fun K => pga K (ga K "Setup") "works", "works", "Setup.works", s_Setup_works, []⟩
abbrev s_Setup_order : Stmt := inClass (top 34) 7
def d_Setup_order : DefZ := ⟨fun K => pga K (ga K "Setup") "order", "order", "Setup.order", s_Setup_order, []⟩
abbrev s_Setup_contains : Stmt := inClass (top 34) 12
def d_Setup_contains : DefZ := ⟨fun K => ma K (ga K "Setup") "__contains__", "__contains__", "Setup.__contains__", s_Setup_contains, []⟩
abbrev n_Setup_contains : List Str := ["self", "name"]
theorem sc_Setup_contains : FnScope n_Setup_contains ["self", "name"] (defScope s_Setup_contains) := ⟨rfl, rfl, rfl, by decide +kernel, rfl, by decide +kernel, by decide +kernel⟩
abbrev s_Setup_getitem : Stmt := inClass (top 34) 13
def d_Setup_getitem : DefZ := ⟨fun K => ma K (ga K "Setup") "__getitem__", "__getitem__", "Setup.__getitem__", s_Setup_getitem, []⟩
abbrev n_Setup_getitem : List Str := ["self", "name"]
theorem sc_Setup_getitem : FnScope n_Setup_getitem ["self", "name"] (defScope s_Setup_getitem) := ⟨rfl, rfl, rfl, by decide +kernel, rfl, by decide +kernel, by decide +kernel⟩
abbrev s_Setup_eq : Stmt := inClass (top 34) 14
def d_Setup_eq : DefZ := ⟨fun K => ma K (ga K "Setup") "__eq__", "__eq__", "Setup.__eq__", s_Setup_eq, []⟩
abbrev s_Setup_check_line : Stmt := inClass (top 34) 16
def d_Setup_check_line : DefZ := ⟨fun K => ma K (ga K "Setup") "check_line", "check_line", "Setup.check_line", s_Setup_check_line, []⟩
abbrev n_Setup_check_line : List Str := ["self", "name"]
theorem sc_Setup_check_line : FnScope n_Setup_check_line ["self", "name"] (defScope s_Setup_check_line) := ⟨rfl, rfl, rfl, by decide +kernel, rfl, by decide +kernel, by decide +kernel⟩
abbrev s_put_in : Stmt := top 41
def d_put_in : DefZ := ⟨fun K => ga K "put_in", "put_in", "put_in", s_put_in, []⟩
abbrev n_put_in : List Str := ["things", "thing", "is_in", "rest", "other"]
theorem sc_put_in : FnScope n_put_in ["things", "thing", "is_in"] (defScope s_put_in) := ⟨rfl, rfl, rfl, by decide +kernel, rfl, by decide +kernel, by decide +kernel⟩
abbrev s_Weaver_init : Stmt := inClass (top 42) 0
def d_Weaver_init : DefZ := ⟨fun K => ma K (ga K "Weaver") "__init__", "__init__", "Weaver.__init__", s_Weaver_init, []⟩
abbrev n_Weaver_init : List Str := ["self", "setup", "count"]
theorem sc_Weaver_init : FnScope n_Weaver_init ["self", "setup", "count"] (defScope s_Weaver_init) := ⟨rfl, rfl, rfl, by decide +kernel, rfl, by decide +kernel, by decide +kernel⟩
abbrev s_Weaver_first_state : Stmt := inClass (top 42) 1
def d_Weaver_first_state : DefZ := ⟨fun K => ma K (ga K "Weaver") "first_state", "first_state", "Weaver.first_state", s_Weaver_first_state, []⟩
abbrev n_Weaver_first_state : List Str := ["self", "rings", "waiting", "line"]
theorem sc_Weaver_first_state : FnScope n_Weaver_first_state ["self", "rings"] (defScope s_Weaver_first_state) := ⟨rfl, rfl, rfl, by decide +kernel, rfl, by decide +kernel, by decide +kernel⟩
abbrev s_Weaver_rank : Stmt := inClass (top 42) 2
def d_Weaver_rank : DefZ := ⟨fun K => ma K (ga K "Weaver") "rank", "rank", "Weaver.rank", s_Weaver_rank, []⟩
abbrev n_Weaver_rank : List Str := ["self", "line"]
theorem sc_Weaver_rank : FnScope n_Weaver_rank ["self", "line"] (defScope s_Weaver_rank) := ⟨rfl, rfl, rfl, by decide +kernel, rfl, by decide +kernel, by decide +kernel⟩
abbrev s_Weaver_moves : Stmt := inClass (top 42) 3
def d_Weaver_moves : DefZ := ⟨fun K => ma K (ga K "Weaver") "moves", "moves", "Weaver.moves", s_Weaver_moves, []⟩
abbrev n_Weaver_moves : List Str := ["self", "state", "waiting", "masked", "up", "begins", "processors", "under_way", "found", "line", "number", "processor", "calls", "bar", "works", "inner", "call"]
theorem sc_Weaver_moves : FnScope n_Weaver_moves ["self", "state"] (defScope s_Weaver_moves) := ⟨rfl, rfl, rfl, by decide +kernel, rfl, by decide +kernel, by decide +kernel⟩
abbrev s_Weaver_can_step : Stmt := inClass (top 42) 4
def d_Weaver_can_step : DefZ := ⟨fun K => ma K (ga K "Weaver") "can_step", "can_step", "Weaver.can_step", s_Weaver_can_step, []⟩
abbrev n_Weaver_can_step : List Str := ["self", "processor", "up", "calls", "bar", "works", "word", "value"]
theorem sc_Weaver_can_step : FnScope n_Weaver_can_step ["self", "processor", "up"] (defScope s_Weaver_can_step) := ⟨rfl, rfl, rfl, by decide +kernel, rfl, by decide +kernel, by decide +kernel⟩
abbrev s_Weaver_behind : Stmt := inClass (top 42) 5
def d_Weaver_behind : DefZ := ⟨fun K => ma K (ga K "Weaver") "behind", "behind", "Weaver.behind", s_Weaver_behind, []⟩
abbrev n_Weaver_behind : List Str := ["self", "state", "move", "waiting", "masked", "up", "begins", "processors", "calls", "bar", "works", "line", "step", "kept", "word", "value"]
theorem sc_Weaver_behind : FnScope n_Weaver_behind ["self", "state", "move"] (defScope s_Weaver_behind) := ⟨rfl, rfl, rfl, by decide +kernel, rfl, by decide +kernel, by decide +kernel⟩
abbrev s_Weaver_begun : Stmt := inClass (top 42) 6
def d_Weaver_begun : DefZ := ⟨fun K => ma K (ga K "Weaver") "begun", "begun", "Weaver.begun", s_Weaver_begun, []⟩
abbrev n_Weaver_begun : List Str := ["self", "state", "line", "number", "waiting", "masked", "up", "begins", "processors", "calls", "bar", "works", "order", "more", "goal", "row", "name", "many"]
theorem sc_Weaver_begun : FnScope n_Weaver_begun ["self", "state", "line", "number"] (defScope s_Weaver_begun) := ⟨rfl, rfl, rfl, by decide +kernel, rfl, by decide +kernel, by decide +kernel⟩
abbrev s_Weaver_less : Stmt := inClass (top 42) 7
def d_Weaver_less : DefZ := ⟨fun K => ma K (ga K "Weaver") "less", "less", "Weaver.less", s_Weaver_less, []⟩
abbrev n_Weaver_less : List Str := ["self", "works", "first", "place", "work"]
theorem sc_Weaver_less : FnScope n_Weaver_less ["self", "works"] (defScope s_Weaver_less) := ⟨rfl, rfl, rfl, by decide +kernel, rfl, by decide +kernel, by decide +kernel⟩
abbrev s_Weaver_changed : Stmt := inClass (top 42) 8
def d_Weaver_changed : DefZ := ⟨fun K => ma K (ga K "Weaver") "changed", "changed", "Weaver.changed", s_Weaver_changed, []⟩
abbrev n_Weaver_changed : List Str := ["self", "processors", "number", "processor"]
theorem sc_Weaver_changed : FnScope n_Weaver_changed ["self", "processors", "number", "processor"] (defScope s_Weaver_changed) := ⟨rfl, rfl, rfl, by decide +kernel, rfl, by decide +kernel, by decide +kernel⟩
abbrev s_Weaver_end : Stmt := inClass (top 42) 9
def d_Weaver_end : DefZ := ⟨fun K => ma K (ga K "Weaver") "end", "end", "Weaver.end", s_Weaver_end, []⟩
abbrev n_Weaver_end : List Str := ["self", "state", "stuck", "number", "processor"]
theorem sc_Weaver_end : FnScope n_Weaver_end ["self", "state"] (defScope s_Weaver_end) := ⟨rfl, rfl, rfl, by decide +kernel, rfl, by decide +kernel, by decide +kernel⟩
abbrev s_Weaver_ends : Stmt := inClass (top 42) 10
def d_Weaver_ends : DefZ := ⟨fun K => ma K (ga K "Weaver") "ends", "ends", "Weaver.ends", s_Weaver_ends, []⟩
abbrev n_Weaver_ends : List Str := ["self", "rings", "first", "ways", "queue", "found", "state", "end", "move", "goal"]
theorem sc_Weaver_ends : FnScope n_Weaver_ends ["self", "rings"] (defScope s_Weaver_ends) := ⟨rfl, rfl, rfl, by decide +kernel, rfl, by decide +kernel, by decide +kernel⟩
abbrev s_weaver_of : Stmt := top 43
def d_weaver_of : DefZ := ⟨fun K => ga K "weaver_of", "weaver_of", "weaver_of", s_weaver_of, []⟩
abbrev n_weaver_of : List Str := ["setup", "count", "rings", "index", "line"]
theorem sc_weaver_of : FnScope n_weaver_of ["setup", "count", "rings"] (defScope s_weaver_of) := ⟨rfl, rfl, rfl, by decide +kernel, rfl, by decide +kernel, by decide +kernel⟩
abbrev s_weaving_ends : Stmt := top 44
def d_weaving_ends : DefZ := ⟨fun K => ga K "weaving_ends", "weaving_ends", "weaving_ends", s_weaving_ends, []⟩
abbrev n_weaving_ends : List Str := ["setup", "count", "rings"]
theorem sc_weaving_ends : FnScope n_weaving_ends ["setup", "count", "rings"] (defScope s_weaving_ends) := ⟨rfl, rfl, rfl, by decide +kernel, rfl, by decide +kernel, by decide +kernel⟩
abbrev s_w_weave_moves : Stmt := top 46
def d_w_weave_moves : DefZ := ⟨fun K => ga K "_law_weave_moves", "_law_weave_moves", "_law_weave_moves", s_w_weave_moves, []⟩
abbrev n_w_weave_moves : List Str := ["_law_parts", "_law_state", "_law_busy", "_law_found", "_law_core", "_law_line", "_law_k", "_law_calls", "_law_bar", "_law_jobs", "_law_inner", "_law_word", "_law_value", "_law_call"]
theorem sc_w_weave_moves : FnScope n_w_weave_moves ["_law_parts", "_law_state"] (defScope s_w_weave_moves) := ⟨rfl, rfl, rfl, by decide +kernel, rfl, by decide +kernel, by decide +kernel⟩
abbrev s_w_weave_with : Stmt := top 47
def d_w_weave_with : DefZ := ⟨fun K => ga K "_law_weave_with", "_law_weave_with", "_law_weave_with", s_w_weave_with, []⟩
abbrev n_w_weave_with : List Str := ["_law_things", "_law_thing", "_law_is_in", "_law_rest", "_law_one"]
theorem sc_w_weave_with : FnScope n_w_weave_with ["_law_things", "_law_thing", "_law_is_in"] (defScope s_w_weave_with) := ⟨rfl, rfl, rfl, by decide +kernel, rfl, by decide +kernel, by decide +kernel⟩
abbrev s_w_weave_rank : Stmt := top 48
def d_w_weave_rank : DefZ := ⟨fun K => ga K "_law_weave_rank", "_law_weave_rank", "_law_weave_rank", s_w_weave_rank, []⟩
abbrev n_w_weave_rank : List Str := ["_law_parts", "_law_work", "_law_row"]
theorem sc_w_weave_rank : FnScope n_w_weave_rank ["_law_parts", "_law_work"] (defScope s_w_weave_rank) := ⟨rfl, rfl, rfl, by decide +kernel, rfl, by decide +kernel, by decide +kernel⟩
abbrev s_w_weave_done : Stmt := top 49
def d_w_weave_done : DefZ := ⟨fun K => ga K "_law_weave_done", "_law_weave_done", "_law_weave_done", s_w_weave_done, []⟩
abbrev n_w_weave_done : List Str := ["_law_parts", "_law_state", "_law_move", "_law_waiting", "_law_masked", "_law_flags", "_law_begins", "_law_cores", "_law_k", "_law_calls", "_law_bar", "_law_jobs", "_law_names", "_law_core", "_law_first", "_law_line", "_law_at", "_law_kept", "_law_steps_here", "_law_word", "_law_value", "_law_row", "_law_j"]
theorem sc_w_weave_done : FnScope n_w_weave_done ["_law_parts", "_law_state", "_law_move"] (defScope s_w_weave_done) := ⟨rfl, rfl, rfl, by decide +kernel, rfl, by decide +kernel, by decide +kernel⟩
abbrev s_w_taken : Stmt := top 50
def d_w_taken : DefZ := ⟨fun K => ga K "_law_taken", "_law_taken", "_law_taken", s_w_taken, []⟩
abbrev n_w_taken : List Str := ["_law_row", "_law_many", "_law_found", "_law_cell"]
theorem sc_w_taken : FnScope n_w_taken ["_law_row", "_law_many"] (defScope s_w_taken) := ⟨rfl, rfl, rfl, by decide +kernel, rfl, by decide +kernel, by decide +kernel⟩
abbrev s_w_steps : Stmt := top 51
def d_w_steps : DefZ := ⟨fun K => ga K "_law_steps", "_law_steps", "_law_steps", s_w_steps, []⟩
abbrev n_w_steps : List Str := ["_law_row", "_law_kinds", "_law_names", "_law_works", "_law_found", "_law_k", "_law_way", "_law_line", "_law_word"]
theorem sc_w_steps : FnScope n_w_steps ["_law_row", "_law_kinds", "_law_names", "_law_works"] (defScope s_w_steps) := ⟨rfl, rfl, rfl, by decide +kernel, rfl, by decide +kernel, by decide +kernel⟩
abbrev s_w_weaving_parts : Stmt := top 52
def d_w_weaving_parts : DefZ := ⟨fun K => ga K "_law_weaving_parts", "_law_weaving_parts", "_law_weaving_parts", s_w_weaving_parts, []⟩
abbrev n_w_weaving_parts : List Str := ["_law_row", "_law_names", "_law_works", "_law_lines", "_law_name", "_law_steps_here", "_law_rings", "_law_step", "_law_k"]
theorem sc_w_weaving_parts : FnScope n_w_weaving_parts ["_law_row"] (defScope s_w_weaving_parts) := ⟨rfl, rfl, rfl, by decide +kernel, rfl, by decide +kernel, by decide +kernel⟩
abbrev s_w_weave_first : Stmt := top 53
def d_w_weave_first : DefZ := ⟨fun K => ga K "_law_weave_first", "_law_weave_first", "_law_weave_first", s_w_weave_first, []⟩
abbrev n_w_weave_first : List Str := ["_law_parts", "_law_lines", "_law_works", "_law_count", "_law_rings"]
theorem sc_w_weave_first : FnScope n_w_weave_first ["_law_parts"] (defScope s_w_weave_first) := ⟨rfl, rfl, rfl, by decide +kernel, rfl, by decide +kernel, by decide +kernel⟩
abbrev s_w_weave_steps : Stmt := top 54
def d_w_weave_steps : DefZ := ⟨fun K => ga K "_law_weave_steps", "_law_weave_steps", "_law_weave_steps", s_w_weave_steps, []⟩
abbrev n_w_weave_steps : List Str := ["_law_parts", "_law_line", "_law_row"]
theorem sc_w_weave_steps : FnScope n_w_weave_steps ["_law_parts", "_law_line"] (defScope s_w_weave_steps) := ⟨rfl, rfl, rfl, by decide +kernel, rfl, by decide +kernel, by decide +kernel⟩
abbrev s_w_weave_end : Stmt := top 55
def d_w_weave_end : DefZ := ⟨fun K => ga K "_law_weave_end", "_law_weave_end", "_law_weave_end", s_w_weave_end, []⟩
abbrev n_w_weave_end : List Str := ["_law_state", "_law_stuck", "_law_k"]
theorem sc_w_weave_end : FnScope n_w_weave_end ["_law_state"] (defScope s_w_weave_end) := ⟨rfl, rfl, rfl, by decide +kernel, rfl, by decide +kernel, by decide +kernel⟩
abbrev s_w_weave_ends : Stmt := top 56
def d_w_weave_ends : DefZ := ⟨fun K => ga K "_law_weave_ends", "_law_weave_ends", "_law_weave_ends", s_w_weave_ends, []⟩
abbrev n_w_weave_ends : List Str := ["_law_parts", "_law_most", "_law_first", "_law_ways", "_law_line", "_law_found", "_law_at", "_law_state", "_law_moves", "_law_end", "_law_move", "_law_goal"]
theorem sc_w_weave_ends : FnScope n_w_weave_ends ["_law_parts", "_law_most"] (defScope s_w_weave_ends) := ⟨rfl, rfl, rfl, by decide +kernel, rfl, by decide +kernel, by decide +kernel⟩
abbrev s_law : Stmt := top 57
def d_law : DefZ := ⟨fun K => ga K "law", "law", "law", s_law, []⟩
abbrev n_law : List Str := ["_law_script", "_law_row", "_law_lines", "_law_works", "_law_count", "_law_rings", "_law_setup", "_law_one", "_law_two", "_law_end", "_law_moves"]
theorem sc_law : FnScope n_law ["_law_script"] (defScope s_law) := ⟨rfl, rfl, rfl, by decide +kernel, rfl, by decide +kernel, by decide +kernel⟩
structure Txt0 (K : Fg) (mg : Str → Option Value) : Prop where
  i_LETTERS : ∃ t, mg "LETTERS" = some (.str "abcdefghijklmnopqrstuvwxyz" t)
  i_MAX_NAME : ∃ t, mg "MAX_NAME" = some (.int 8 t)
  i_MAX_RANK : ∃ t, mg "MAX_RANK" = some (.int 9 t)
  i_MAX_STEPS : ∃ t, mg "MAX_STEPS" = some (.int 8 t)
  i_MAX_TICKS : ∃ t, mg "MAX_TICKS" = some (.int 99 t)
  i_MAX_FLAG : ∃ t, mg "MAX_FLAG" = some (.int 7 t)
  i_EDGE : ∃ t, mg "EDGE" = some (.str "edge" t)
  i_LEVEL : ∃ t, mg "LEVEL" = some (.str "level" t)
  i_RUN : ∃ t, mg "RUN" = some (.str "run" t)
  i_QUIET : ∃ t, mg "QUIET" = some (.str "quiet" t)
  i_AWAIT : ∃ t, mg "AWAIT" = some (.str "await" t)
  i_BAR : ∃ t, mg "BAR" = some (.str "bar" t)
  i_LATER : ∃ t, mg "LATER" = some (.str "later" t)
  g_LINE_WORDS : mg "LINE_WORDS" = some (.ref (ga K "LINE_WORDS"))
  t_LINE_WORDS : ∀ H, SqT K H (ga K "LINE_WORDS") ([.str "ring", .str "quiet", .str "mask", .str "unmask"] : List V)
  g_FLAG_WORDS : mg "FLAG_WORDS" = some (.ref (ga K "FLAG_WORDS"))
  t_FLAG_WORDS : ∀ H, SqT K H (ga K "FLAG_WORDS") ([.str "set", .str "clear", .str "await"] : List V)
  i_MAX_PROCESSORS : ∃ t, mg "MAX_PROCESSORS" = some (.int 6 t)
  i_MAX_RINGS : ∃ t, mg "MAX_RINGS" = some (.int 6 t)
  i_MAX_STATES : ∃ t, mg "MAX_STATES" = some (.int 3000 t)
  g_is_integer : mg "is_integer" = some (.ref (ga K "is_integer"))
  g_check_number : mg "check_number" = some (.ref (ga K "check_number"))
  g_is_word : mg "is_word" = some (.ref (ga K "is_word"))
  g_is_name : mg "is_name" = some (.ref (ga K "is_name"))
  g_is_line : mg "is_line" = some (.ref (ga K "is_line"))
  g_is_work : mg "is_work" = some (.ref (ga K "is_work"))
  g_is_step : mg "is_step" = some (.ref (ga K "is_step"))
  g_check_lines : mg "check_lines" = some (.ref (ga K "check_lines"))
  g_check_works : mg "check_works" = some (.ref (ga K "check_works"))
  g_put_in : mg "put_in" = some (.ref (ga K "put_in"))
structure Txt1 (K : Fg) (mg : Str → Option Value) : Prop where
  g_weaver_of : mg "weaver_of" = some (.ref (ga K "weaver_of"))
  g_weaving_ends : mg "weaving_ends" = some (.ref (ga K "weaving_ends"))
  g_w_weave_moves : mg "_law_weave_moves" = some (.ref (ga K "_law_weave_moves"))
  g_w_weave_with : mg "_law_weave_with" = some (.ref (ga K "_law_weave_with"))
  g_w_weave_rank : mg "_law_weave_rank" = some (.ref (ga K "_law_weave_rank"))
  g_w_weave_done : mg "_law_weave_done" = some (.ref (ga K "_law_weave_done"))
  g_w_taken : mg "_law_taken" = some (.ref (ga K "_law_taken"))
  g_w_steps : mg "_law_steps" = some (.ref (ga K "_law_steps"))
  g_w_weaving_parts : mg "_law_weaving_parts" = some (.ref (ga K "_law_weaving_parts"))
  g_w_weave_first : mg "_law_weave_first" = some (.ref (ga K "_law_weave_first"))
  g_w_weave_steps : mg "_law_weave_steps" = some (.ref (ga K "_law_weave_steps"))
  g_w_weave_end : mg "_law_weave_end" = some (.ref (ga K "_law_weave_end"))
  g_w_weave_ends : mg "_law_weave_ends" = some (.ref (ga K "_law_weave_ends"))
  g_law : mg "law" = some (.ref (ga K "law"))
  F_is_integer : FunZ K d_is_integer
  c_is_integer : Cal K (ga K "is_integer") ["value", "low", "high"] []
  F_check_number : FunZ K d_check_number
  c_check_number : Cal K (ga K "check_number") ["number", "low", "high"] []
  F_is_word : FunZ K d_is_word
  c_is_word : Cal K (ga K "is_word") ["value"] []
  F_is_name : FunZ K d_is_name
  c_is_name : Cal K (ga K "is_name") ["value"] []
  F_is_line : FunZ K d_is_line
  c_is_line : Cal K (ga K "is_line") ["line"] []
  F_is_work : FunZ K d_is_work
  c_is_work : Cal K (ga K "is_work") ["work"] []
  F_is_step : FunZ K d_is_step
  c_is_step : Cal K (ga K "is_step") ["step", "kinds", "works"] []
  F_check_lines : FunZ K d_check_lines
  c_check_lines : Cal K (ga K "check_lines") ["lines", "most"] []
structure Txt2 (K : Fg) (mg : Str → Option Value) : Prop where
  F_check_works : FunZ K d_check_works
  c_check_works : Cal K (ga K "check_works") ["works", "most"] []
  F_Setup_init : FunZ K d_Setup_init
  c_Setup_init : Cal K (ma K (ga K "Setup") "__init__") ["self", "lines", "works"] []
  F_Setup_lines : FunZ K d_Setup_lines
  c_Setup_lines : Cal K (pga K (ga K "Setup") "lines") ["self"] []
  F_Setup_works : FunZ K d_Setup_works
  c_Setup_works : Cal K (pga K (ga K "Setup") "works") ["self"] []
  F_Setup_order : FunZ K d_Setup_order
  c_Setup_order : Cal K (pga K (ga K "Setup") "order") ["self"] []
  F_Setup_contains : FunZ K d_Setup_contains
  c_Setup_contains : Cal K (ma K (ga K "Setup") "__contains__") ["self", "name"] []
  F_Setup_getitem : FunZ K d_Setup_getitem
  c_Setup_getitem : Cal K (ma K (ga K "Setup") "__getitem__") ["self", "name"] []
  F_Setup_eq : FunZ K d_Setup_eq
  c_Setup_eq : Cal K (ma K (ga K "Setup") "__eq__") ["self", "other"] []
  F_Setup_check_line : FunZ K d_Setup_check_line
  c_Setup_check_line : Cal K (ma K (ga K "Setup") "check_line") ["self", "name"] []
  F_put_in : FunZ K d_put_in
  c_put_in : Cal K (ga K "put_in") ["things", "thing", "is_in"] []
  F_Weaver_init : FunZ K d_Weaver_init
  c_Weaver_init : Cal K (ma K (ga K "Weaver") "__init__") ["self", "setup", "count"] []
  F_Weaver_first_state : FunZ K d_Weaver_first_state
  c_Weaver_first_state : Cal K (ma K (ga K "Weaver") "first_state") ["self", "rings"] []
  F_Weaver_rank : FunZ K d_Weaver_rank
  c_Weaver_rank : Cal K (ma K (ga K "Weaver") "rank") ["self", "line"] []
  F_Weaver_moves : FunZ K d_Weaver_moves
  c_Weaver_moves : Cal K (ma K (ga K "Weaver") "moves") ["self", "state"] []
  F_Weaver_can_step : FunZ K d_Weaver_can_step
  c_Weaver_can_step : Cal K (ma K (ga K "Weaver") "can_step") ["self", "processor", "up"] []
structure Txt3 (K : Fg) (mg : Str → Option Value) : Prop where
  F_Weaver_behind : FunZ K d_Weaver_behind
  c_Weaver_behind : Cal K (ma K (ga K "Weaver") "behind") ["self", "state", "move"] []
  F_Weaver_begun : FunZ K d_Weaver_begun
  c_Weaver_begun : Cal K (ma K (ga K "Weaver") "begun") ["self", "state", "line", "number"] []
  F_Weaver_less : FunZ K d_Weaver_less
  c_Weaver_less : Cal K (ma K (ga K "Weaver") "less") ["self", "works"] []
  F_Weaver_changed : FunZ K d_Weaver_changed
  c_Weaver_changed : Cal K (ma K (ga K "Weaver") "changed") ["self", "processors", "number", "processor"] []
  F_Weaver_end : FunZ K d_Weaver_end
  c_Weaver_end : Cal K (ma K (ga K "Weaver") "end") ["self", "state"] []
  F_Weaver_ends : FunZ K d_Weaver_ends
  c_Weaver_ends : Cal K (ma K (ga K "Weaver") "ends") ["self", "rings"] []
  F_weaver_of : FunZ K d_weaver_of
  c_weaver_of : Cal K (ga K "weaver_of") ["setup", "count", "rings"] []
  F_weaving_ends : FunZ K d_weaving_ends
  c_weaving_ends : Cal K (ga K "weaving_ends") ["setup", "count", "rings"] []
  F_w_weave_moves : FunZ K d_w_weave_moves
  c_w_weave_moves : Cal K (ga K "_law_weave_moves") ["_law_parts", "_law_state"] []
  F_w_weave_with : FunZ K d_w_weave_with
  c_w_weave_with : Cal K (ga K "_law_weave_with") ["_law_things", "_law_thing", "_law_is_in"] []
  F_w_weave_rank : FunZ K d_w_weave_rank
  c_w_weave_rank : Cal K (ga K "_law_weave_rank") ["_law_parts", "_law_work"] []
  F_w_weave_done : FunZ K d_w_weave_done
  c_w_weave_done : Cal K (ga K "_law_weave_done") ["_law_parts", "_law_state", "_law_move"] []
  F_w_taken : FunZ K d_w_taken
  c_w_taken : Cal K (ga K "_law_taken") ["_law_row", "_law_many"] []
  F_w_steps : FunZ K d_w_steps
  c_w_steps : Cal K (ga K "_law_steps") ["_law_row", "_law_kinds", "_law_names", "_law_works"] []
  F_w_weaving_parts : FunZ K d_w_weaving_parts
  c_w_weaving_parts : Cal K (ga K "_law_weaving_parts") ["_law_row"] []
structure Txt4 (K : Fg) (mg : Str → Option Value) : Prop where
  F_w_weave_first : FunZ K d_w_weave_first
  c_w_weave_first : Cal K (ga K "_law_weave_first") ["_law_parts"] []
  F_w_weave_steps : FunZ K d_w_weave_steps
  c_w_weave_steps : Cal K (ga K "_law_weave_steps") ["_law_parts", "_law_line"] []
  F_w_weave_end : FunZ K d_w_weave_end
  c_w_weave_end : Cal K (ga K "_law_weave_end") ["_law_state"] []
  F_w_weave_ends : FunZ K d_w_weave_ends
  c_w_weave_ends : Cal K (ga K "_law_weave_ends") ["_law_parts", "_law_most"] []
  F_law : FunZ K d_law
  c_law : Cal K (ga K "law") ["_law_script"] []
  g_Setup : mg "Setup" = some (.ref (ga K "Setup"))
  cl_Setup : Cls K (ga K "Setup")
  mk_Setup : Mk K (ga K "Setup") (ma K (ga K "Setup") "__init__")
  n_Setup_line_rows : NoAttr K (ga K "Setup") "line_rows"
  n_Setup_work_rows : NoAttr K (ga K "Setup") "work_rows"
  n_Setup_rows_by_name : NoAttr K (ga K "Setup") "rows_by_name"
  n_Setup_works_by_name : NoAttr K (ga K "Setup") "works_by_name"
  m_Setup_init : Meth K (ga K "Setup") "__init__" (ma K (ga K "Setup") "__init__")
  p_Setup_lines : PropOf K (ga K "Setup") "lines" (ma K (ga K "Setup") "lines") (pga K (ga K "Setup") "lines")
  p_Setup_works : PropOf K (ga K "Setup") "works" (ma K (ga K "Setup") "works") (pga K (ga K "Setup") "works")
  p_Setup_order : PropOf K (ga K "Setup") "order" (ma K (ga K "Setup") "order") (pga K (ga K "Setup") "order")
  m_Setup_contains : Meth K (ga K "Setup") "__contains__" (ma K (ga K "Setup") "__contains__")
  m_Setup_getitem : Meth K (ga K "Setup") "__getitem__" (ma K (ga K "Setup") "__getitem__")
  sub_Setup : PySem.W.fnIn K (ma K (ga K "Setup") "__getitem__") = true
  m_Setup_eq : Meth K (ga K "Setup") "__eq__" (ma K (ga K "Setup") "__eq__")
  is_Setup : IsO K (ga K "Setup")
  m_Setup_check_line : Meth K (ga K "Setup") "check_line" (ma K (ga K "Setup") "check_line")
  k_Setup_MAX_LINES : ClsI K (ga K "Setup") "MAX_LINES" 12
  k_Setup_MAX_WORKS : ClsI K (ga K "Setup") "MAX_WORKS" 8
  k_Setup_MAX_FLAG : ClsI K (ga K "Setup") "MAX_FLAG" 7
structure Txt5 (K : Fg) (mg : Str → Option Value) : Prop where
  g_Weaver : mg "Weaver" = some (.ref (ga K "Weaver"))
  cl_Weaver : Cls K (ga K "Weaver")
  mk_Weaver : Mk K (ga K "Weaver") (ma K (ga K "Weaver") "__init__")
  n_Weaver_plan : NoAttr K (ga K "Weaver") "plan"
  n_Weaver_size : NoAttr K (ga K "Weaver") "size"
  m_Weaver_init : Meth K (ga K "Weaver") "__init__" (ma K (ga K "Weaver") "__init__")
  m_Weaver_first_state : Meth K (ga K "Weaver") "first_state" (ma K (ga K "Weaver") "first_state")
  m_Weaver_rank : Meth K (ga K "Weaver") "rank" (ma K (ga K "Weaver") "rank")
  m_Weaver_moves : Meth K (ga K "Weaver") "moves" (ma K (ga K "Weaver") "moves")
  m_Weaver_can_step : Meth K (ga K "Weaver") "can_step" (ma K (ga K "Weaver") "can_step")
  m_Weaver_behind : Meth K (ga K "Weaver") "behind" (ma K (ga K "Weaver") "behind")
  m_Weaver_begun : Meth K (ga K "Weaver") "begun" (ma K (ga K "Weaver") "begun")
  m_Weaver_less : Meth K (ga K "Weaver") "less" (ma K (ga K "Weaver") "less")
  m_Weaver_changed : Meth K (ga K "Weaver") "changed" (ma K (ga K "Weaver") "changed")
  m_Weaver_end : Meth K (ga K "Weaver") "end" (ma K (ga K "Weaver") "end")
  m_Weaver_ends : Meth K (ga K "Weaver") "ends" (ma K (ga K "Weaver") "ends")
  g_BellError : mg "BellError" = some (.ref (ga K "BellError"))
  vi_BellError : VeIn K (ga K "BellError")
  g_TooMany : mg "TooMany" = some (.ref (ga K "TooMany"))
  xc_TooMany : ExcC K (ga K "TooMany")
  xr_TooMany : PySem.W.excIn K (ga K "TooMany") He.veBase "ValueError.__new__" = true ∧ PySem.W.keepIn K (.ref (ga K "TooMany")) = true ∧ PySem.W.subIn K (.ref (ga K "TooMany")) (.type "BaseException") = some true ∧ PySem.W.typeIn K (.ref (ga K "TooMany")) = some (.type "type")
  xm_TooMany : PySem.W.exmOne K (.ref (ga K "TooMany")) (.ref (ga K "BellError")) = some true
  xv_TooMany : PySem.W.kitOne K (.ref (ga K "TooMany")) (.type "ValueError") = some true
  xk_TooMany_TooMany : PySem.W.kitOne K (.ref (ga K "TooMany")) (.ref (ga K "TooMany")) = some true
  u_isinstance : mg "isinstance" = none
  u_bool : mg "bool" = none
  u_int : mg "int" = none
  u_all : mg "all" = none
  u_str : mg "str" = none
  u_len : mg "len" = none
structure Txt6 (K : Fg) (mg : Str → Option Value) : Prop where
  u_tuple : mg "tuple" = none
  u_enumerate : mg "enumerate" = none
  u_sorted : mg "sorted" = none
  u_max : mg "max" = none
  u_zip : mg "zip" = none
  u_min : mg "min" = none
  u_range : mg "range" = none
  u_set : mg "set" = none
  u_list : mg "list" = none
  u_dict : mg "dict" = none
structure Txt (K : Fg) (mg : Str → Option Value) : Prop where
  p0 : Txt0 K mg
  p1 : Txt1 K mg
  p2 : Txt2 K mg
  p3 : Txt3 K mg
  p4 : Txt4 K mg
  p5 : Txt5 K mg
  p6 : Txt6 K mg
section
variable {K : Fg} {mg : Str → Option Value} (T : Txt K mg) 
include T
theorem Txt.i_LETTERS : ∃ t, mg "LETTERS" = some (.str "abcdefghijklmnopqrstuvwxyz" t) := T.p0.i_LETTERS
theorem Txt.i_MAX_NAME : ∃ t, mg "MAX_NAME" = some (.int 8 t) := T.p0.i_MAX_NAME
theorem Txt.i_MAX_RANK : ∃ t, mg "MAX_RANK" = some (.int 9 t) := T.p0.i_MAX_RANK
theorem Txt.i_MAX_STEPS : ∃ t, mg "MAX_STEPS" = some (.int 8 t) := T.p0.i_MAX_STEPS
theorem Txt.i_MAX_TICKS : ∃ t, mg "MAX_TICKS" = some (.int 99 t) := T.p0.i_MAX_TICKS
theorem Txt.i_MAX_FLAG : ∃ t, mg "MAX_FLAG" = some (.int 7 t) := T.p0.i_MAX_FLAG
theorem Txt.i_EDGE : ∃ t, mg "EDGE" = some (.str "edge" t) := T.p0.i_EDGE
theorem Txt.i_LEVEL : ∃ t, mg "LEVEL" = some (.str "level" t) := T.p0.i_LEVEL
theorem Txt.i_RUN : ∃ t, mg "RUN" = some (.str "run" t) := T.p0.i_RUN
theorem Txt.i_QUIET : ∃ t, mg "QUIET" = some (.str "quiet" t) := T.p0.i_QUIET
theorem Txt.i_AWAIT : ∃ t, mg "AWAIT" = some (.str "await" t) := T.p0.i_AWAIT
theorem Txt.i_BAR : ∃ t, mg "BAR" = some (.str "bar" t) := T.p0.i_BAR
theorem Txt.i_LATER : ∃ t, mg "LATER" = some (.str "later" t) := T.p0.i_LATER
theorem Txt.g_LINE_WORDS : mg "LINE_WORDS" = some (.ref (ga K "LINE_WORDS")) := T.p0.g_LINE_WORDS
theorem Txt.t_LINE_WORDS : ∀ H, SqT K H (ga K "LINE_WORDS") ([.str "ring", .str "quiet", .str "mask", .str "unmask"] : List V) := T.p0.t_LINE_WORDS
theorem Txt.g_FLAG_WORDS : mg "FLAG_WORDS" = some (.ref (ga K "FLAG_WORDS")) := T.p0.g_FLAG_WORDS
theorem Txt.t_FLAG_WORDS : ∀ H, SqT K H (ga K "FLAG_WORDS") ([.str "set", .str "clear", .str "await"] : List V) := T.p0.t_FLAG_WORDS
theorem Txt.i_MAX_PROCESSORS : ∃ t, mg "MAX_PROCESSORS" = some (.int 6 t) := T.p0.i_MAX_PROCESSORS
theorem Txt.i_MAX_RINGS : ∃ t, mg "MAX_RINGS" = some (.int 6 t) := T.p0.i_MAX_RINGS
theorem Txt.i_MAX_STATES : ∃ t, mg "MAX_STATES" = some (.int 3000 t) := T.p0.i_MAX_STATES
theorem Txt.g_is_integer : mg "is_integer" = some (.ref (ga K "is_integer")) := T.p0.g_is_integer
theorem Txt.g_check_number : mg "check_number" = some (.ref (ga K "check_number")) := T.p0.g_check_number
theorem Txt.g_is_word : mg "is_word" = some (.ref (ga K "is_word")) := T.p0.g_is_word
theorem Txt.g_is_name : mg "is_name" = some (.ref (ga K "is_name")) := T.p0.g_is_name
theorem Txt.g_is_line : mg "is_line" = some (.ref (ga K "is_line")) := T.p0.g_is_line
theorem Txt.g_is_work : mg "is_work" = some (.ref (ga K "is_work")) := T.p0.g_is_work
theorem Txt.g_is_step : mg "is_step" = some (.ref (ga K "is_step")) := T.p0.g_is_step
theorem Txt.g_check_lines : mg "check_lines" = some (.ref (ga K "check_lines")) := T.p0.g_check_lines
theorem Txt.g_check_works : mg "check_works" = some (.ref (ga K "check_works")) := T.p0.g_check_works
theorem Txt.g_put_in : mg "put_in" = some (.ref (ga K "put_in")) := T.p0.g_put_in
theorem Txt.g_weaver_of : mg "weaver_of" = some (.ref (ga K "weaver_of")) := T.p1.g_weaver_of
theorem Txt.g_weaving_ends : mg "weaving_ends" = some (.ref (ga K "weaving_ends")) := T.p1.g_weaving_ends
theorem Txt.g_w_weave_moves : mg "_law_weave_moves" = some (.ref (ga K "_law_weave_moves")) := T.p1.g_w_weave_moves
theorem Txt.g_w_weave_with : mg "_law_weave_with" = some (.ref (ga K "_law_weave_with")) := T.p1.g_w_weave_with
theorem Txt.g_w_weave_rank : mg "_law_weave_rank" = some (.ref (ga K "_law_weave_rank")) := T.p1.g_w_weave_rank
theorem Txt.g_w_weave_done : mg "_law_weave_done" = some (.ref (ga K "_law_weave_done")) := T.p1.g_w_weave_done
theorem Txt.g_w_taken : mg "_law_taken" = some (.ref (ga K "_law_taken")) := T.p1.g_w_taken
theorem Txt.g_w_steps : mg "_law_steps" = some (.ref (ga K "_law_steps")) := T.p1.g_w_steps
theorem Txt.g_w_weaving_parts : mg "_law_weaving_parts" = some (.ref (ga K "_law_weaving_parts")) := T.p1.g_w_weaving_parts
theorem Txt.g_w_weave_first : mg "_law_weave_first" = some (.ref (ga K "_law_weave_first")) := T.p1.g_w_weave_first
theorem Txt.g_w_weave_steps : mg "_law_weave_steps" = some (.ref (ga K "_law_weave_steps")) := T.p1.g_w_weave_steps
theorem Txt.g_w_weave_end : mg "_law_weave_end" = some (.ref (ga K "_law_weave_end")) := T.p1.g_w_weave_end
theorem Txt.g_w_weave_ends : mg "_law_weave_ends" = some (.ref (ga K "_law_weave_ends")) := T.p1.g_w_weave_ends
theorem Txt.g_law : mg "law" = some (.ref (ga K "law")) := T.p1.g_law
theorem Txt.F_is_integer : FunZ K d_is_integer := T.p1.F_is_integer
theorem Txt.c_is_integer : Cal K (ga K "is_integer") ["value", "low", "high"] [] := T.p1.c_is_integer
theorem Txt.F_check_number : FunZ K d_check_number := T.p1.F_check_number
theorem Txt.c_check_number : Cal K (ga K "check_number") ["number", "low", "high"] [] := T.p1.c_check_number
theorem Txt.F_is_word : FunZ K d_is_word := T.p1.F_is_word
theorem Txt.c_is_word : Cal K (ga K "is_word") ["value"] [] := T.p1.c_is_word
theorem Txt.F_is_name : FunZ K d_is_name := T.p1.F_is_name
theorem Txt.c_is_name : Cal K (ga K "is_name") ["value"] [] := T.p1.c_is_name
theorem Txt.F_is_line : FunZ K d_is_line := T.p1.F_is_line
theorem Txt.c_is_line : Cal K (ga K "is_line") ["line"] [] := T.p1.c_is_line
theorem Txt.F_is_work : FunZ K d_is_work := T.p1.F_is_work
theorem Txt.c_is_work : Cal K (ga K "is_work") ["work"] [] := T.p1.c_is_work
theorem Txt.F_is_step : FunZ K d_is_step := T.p1.F_is_step
theorem Txt.c_is_step : Cal K (ga K "is_step") ["step", "kinds", "works"] [] := T.p1.c_is_step
theorem Txt.F_check_lines : FunZ K d_check_lines := T.p1.F_check_lines
theorem Txt.c_check_lines : Cal K (ga K "check_lines") ["lines", "most"] [] := T.p1.c_check_lines
theorem Txt.F_check_works : FunZ K d_check_works := T.p2.F_check_works
theorem Txt.c_check_works : Cal K (ga K "check_works") ["works", "most"] [] := T.p2.c_check_works
theorem Txt.F_Setup_init : FunZ K d_Setup_init := T.p2.F_Setup_init
theorem Txt.c_Setup_init : Cal K (ma K (ga K "Setup") "__init__") ["self", "lines", "works"] [] := T.p2.c_Setup_init
theorem Txt.F_Setup_lines : FunZ K d_Setup_lines := T.p2.F_Setup_lines
theorem Txt.c_Setup_lines : Cal K (pga K (ga K "Setup") "lines") ["self"] [] := T.p2.c_Setup_lines
theorem Txt.F_Setup_contains : FunZ K d_Setup_contains := T.p2.F_Setup_contains
theorem Txt.c_Setup_contains : Cal K (ma K (ga K "Setup") "__contains__") ["self", "name"] [] := T.p2.c_Setup_contains
theorem Txt.F_Setup_getitem : FunZ K d_Setup_getitem := T.p2.F_Setup_getitem
theorem Txt.c_Setup_getitem : Cal K (ma K (ga K "Setup") "__getitem__") ["self", "name"] [] := T.p2.c_Setup_getitem
theorem Txt.F_Setup_check_line : FunZ K d_Setup_check_line := T.p2.F_Setup_check_line
theorem Txt.c_Setup_check_line : Cal K (ma K (ga K "Setup") "check_line") ["self", "name"] [] := T.p2.c_Setup_check_line
theorem Txt.F_put_in : FunZ K d_put_in := T.p2.F_put_in
theorem Txt.c_put_in : Cal K (ga K "put_in") ["things", "thing", "is_in"] [] := T.p2.c_put_in
theorem Txt.F_Weaver_init : FunZ K d_Weaver_init := T.p2.F_Weaver_init
theorem Txt.c_Weaver_init : Cal K (ma K (ga K "Weaver") "__init__") ["self", "setup", "count"] [] := T.p2.c_Weaver_init
theorem Txt.F_Weaver_first_state : FunZ K d_Weaver_first_state := T.p2.F_Weaver_first_state
theorem Txt.c_Weaver_first_state : Cal K (ma K (ga K "Weaver") "first_state") ["self", "rings"] [] := T.p2.c_Weaver_first_state
theorem Txt.F_Weaver_rank : FunZ K d_Weaver_rank := T.p2.F_Weaver_rank
theorem Txt.c_Weaver_rank : Cal K (ma K (ga K "Weaver") "rank") ["self", "line"] [] := T.p2.c_Weaver_rank
theorem Txt.F_Weaver_moves : FunZ K d_Weaver_moves := T.p2.F_Weaver_moves
theorem Txt.c_Weaver_moves : Cal K (ma K (ga K "Weaver") "moves") ["self", "state"] [] := T.p2.c_Weaver_moves
theorem Txt.F_Weaver_can_step : FunZ K d_Weaver_can_step := T.p2.F_Weaver_can_step
theorem Txt.c_Weaver_can_step : Cal K (ma K (ga K "Weaver") "can_step") ["self", "processor", "up"] [] := T.p2.c_Weaver_can_step
theorem Txt.F_Weaver_behind : FunZ K d_Weaver_behind := T.p3.F_Weaver_behind
theorem Txt.c_Weaver_behind : Cal K (ma K (ga K "Weaver") "behind") ["self", "state", "move"] [] := T.p3.c_Weaver_behind
theorem Txt.F_Weaver_begun : FunZ K d_Weaver_begun := T.p3.F_Weaver_begun
theorem Txt.c_Weaver_begun : Cal K (ma K (ga K "Weaver") "begun") ["self", "state", "line", "number"] [] := T.p3.c_Weaver_begun
theorem Txt.F_Weaver_less : FunZ K d_Weaver_less := T.p3.F_Weaver_less
theorem Txt.c_Weaver_less : Cal K (ma K (ga K "Weaver") "less") ["self", "works"] [] := T.p3.c_Weaver_less
theorem Txt.F_Weaver_changed : FunZ K d_Weaver_changed := T.p3.F_Weaver_changed
theorem Txt.c_Weaver_changed : Cal K (ma K (ga K "Weaver") "changed") ["self", "processors", "number", "processor"] [] := T.p3.c_Weaver_changed
theorem Txt.F_Weaver_end : FunZ K d_Weaver_end := T.p3.F_Weaver_end
theorem Txt.c_Weaver_end : Cal K (ma K (ga K "Weaver") "end") ["self", "state"] [] := T.p3.c_Weaver_end
theorem Txt.F_Weaver_ends : FunZ K d_Weaver_ends := T.p3.F_Weaver_ends
theorem Txt.c_Weaver_ends : Cal K (ma K (ga K "Weaver") "ends") ["self", "rings"] [] := T.p3.c_Weaver_ends
theorem Txt.F_weaver_of : FunZ K d_weaver_of := T.p3.F_weaver_of
theorem Txt.c_weaver_of : Cal K (ga K "weaver_of") ["setup", "count", "rings"] [] := T.p3.c_weaver_of
theorem Txt.F_weaving_ends : FunZ K d_weaving_ends := T.p3.F_weaving_ends
theorem Txt.c_weaving_ends : Cal K (ga K "weaving_ends") ["setup", "count", "rings"] [] := T.p3.c_weaving_ends
theorem Txt.F_w_weave_moves : FunZ K d_w_weave_moves := T.p3.F_w_weave_moves
theorem Txt.c_w_weave_moves : Cal K (ga K "_law_weave_moves") ["_law_parts", "_law_state"] [] := T.p3.c_w_weave_moves
theorem Txt.F_w_weave_with : FunZ K d_w_weave_with := T.p3.F_w_weave_with
theorem Txt.c_w_weave_with : Cal K (ga K "_law_weave_with") ["_law_things", "_law_thing", "_law_is_in"] [] := T.p3.c_w_weave_with
theorem Txt.F_w_weave_rank : FunZ K d_w_weave_rank := T.p3.F_w_weave_rank
theorem Txt.c_w_weave_rank : Cal K (ga K "_law_weave_rank") ["_law_parts", "_law_work"] [] := T.p3.c_w_weave_rank
theorem Txt.F_w_weave_done : FunZ K d_w_weave_done := T.p3.F_w_weave_done
theorem Txt.c_w_weave_done : Cal K (ga K "_law_weave_done") ["_law_parts", "_law_state", "_law_move"] [] := T.p3.c_w_weave_done
theorem Txt.F_w_taken : FunZ K d_w_taken := T.p3.F_w_taken
theorem Txt.c_w_taken : Cal K (ga K "_law_taken") ["_law_row", "_law_many"] [] := T.p3.c_w_taken
theorem Txt.F_w_steps : FunZ K d_w_steps := T.p3.F_w_steps
theorem Txt.c_w_steps : Cal K (ga K "_law_steps") ["_law_row", "_law_kinds", "_law_names", "_law_works"] [] := T.p3.c_w_steps
theorem Txt.F_w_weaving_parts : FunZ K d_w_weaving_parts := T.p3.F_w_weaving_parts
theorem Txt.c_w_weaving_parts : Cal K (ga K "_law_weaving_parts") ["_law_row"] [] := T.p3.c_w_weaving_parts
theorem Txt.F_w_weave_first : FunZ K d_w_weave_first := T.p4.F_w_weave_first
theorem Txt.c_w_weave_first : Cal K (ga K "_law_weave_first") ["_law_parts"] [] := T.p4.c_w_weave_first
theorem Txt.F_w_weave_steps : FunZ K d_w_weave_steps := T.p4.F_w_weave_steps
theorem Txt.c_w_weave_steps : Cal K (ga K "_law_weave_steps") ["_law_parts", "_law_line"] [] := T.p4.c_w_weave_steps
theorem Txt.F_w_weave_end : FunZ K d_w_weave_end := T.p4.F_w_weave_end
theorem Txt.c_w_weave_end : Cal K (ga K "_law_weave_end") ["_law_state"] [] := T.p4.c_w_weave_end
theorem Txt.F_w_weave_ends : FunZ K d_w_weave_ends := T.p4.F_w_weave_ends
theorem Txt.c_w_weave_ends : Cal K (ga K "_law_weave_ends") ["_law_parts", "_law_most"] [] := T.p4.c_w_weave_ends
theorem Txt.F_law : FunZ K d_law := T.p4.F_law
theorem Txt.g_Setup : mg "Setup" = some (.ref (ga K "Setup")) := T.p4.g_Setup
theorem Txt.cl_Setup : Cls K (ga K "Setup") := T.p4.cl_Setup
theorem Txt.mk_Setup : Mk K (ga K "Setup") (ma K (ga K "Setup") "__init__") := T.p4.mk_Setup
theorem Txt.n_Setup_line_rows : NoAttr K (ga K "Setup") "line_rows" := T.p4.n_Setup_line_rows
theorem Txt.n_Setup_work_rows : NoAttr K (ga K "Setup") "work_rows" := T.p4.n_Setup_work_rows
theorem Txt.n_Setup_rows_by_name : NoAttr K (ga K "Setup") "rows_by_name" := T.p4.n_Setup_rows_by_name
theorem Txt.n_Setup_works_by_name : NoAttr K (ga K "Setup") "works_by_name" := T.p4.n_Setup_works_by_name
theorem Txt.p_Setup_lines : PropOf K (ga K "Setup") "lines" (ma K (ga K "Setup") "lines") (pga K (ga K "Setup") "lines") := T.p4.p_Setup_lines
theorem Txt.m_Setup_contains : Meth K (ga K "Setup") "__contains__" (ma K (ga K "Setup") "__contains__") := T.p4.m_Setup_contains
theorem Txt.m_Setup_getitem : Meth K (ga K "Setup") "__getitem__" (ma K (ga K "Setup") "__getitem__") := T.p4.m_Setup_getitem
theorem Txt.sub_Setup : PySem.W.fnIn K (ma K (ga K "Setup") "__getitem__") = true := T.p4.sub_Setup
theorem Txt.m_Setup_check_line : Meth K (ga K "Setup") "check_line" (ma K (ga K "Setup") "check_line") := T.p4.m_Setup_check_line
theorem Txt.k_Setup_MAX_LINES : ClsI K (ga K "Setup") "MAX_LINES" 12 := T.p4.k_Setup_MAX_LINES
theorem Txt.k_Setup_MAX_WORKS : ClsI K (ga K "Setup") "MAX_WORKS" 8 := T.p4.k_Setup_MAX_WORKS
theorem Txt.g_Weaver : mg "Weaver" = some (.ref (ga K "Weaver")) := T.p5.g_Weaver
theorem Txt.cl_Weaver : Cls K (ga K "Weaver") := T.p5.cl_Weaver
theorem Txt.mk_Weaver : Mk K (ga K "Weaver") (ma K (ga K "Weaver") "__init__") := T.p5.mk_Weaver
theorem Txt.n_Weaver_plan : NoAttr K (ga K "Weaver") "plan" := T.p5.n_Weaver_plan
theorem Txt.n_Weaver_size : NoAttr K (ga K "Weaver") "size" := T.p5.n_Weaver_size
theorem Txt.m_Weaver_first_state : Meth K (ga K "Weaver") "first_state" (ma K (ga K "Weaver") "first_state") := T.p5.m_Weaver_first_state
theorem Txt.m_Weaver_rank : Meth K (ga K "Weaver") "rank" (ma K (ga K "Weaver") "rank") := T.p5.m_Weaver_rank
theorem Txt.m_Weaver_moves : Meth K (ga K "Weaver") "moves" (ma K (ga K "Weaver") "moves") := T.p5.m_Weaver_moves
theorem Txt.m_Weaver_can_step : Meth K (ga K "Weaver") "can_step" (ma K (ga K "Weaver") "can_step") := T.p5.m_Weaver_can_step
theorem Txt.m_Weaver_behind : Meth K (ga K "Weaver") "behind" (ma K (ga K "Weaver") "behind") := T.p5.m_Weaver_behind
theorem Txt.m_Weaver_begun : Meth K (ga K "Weaver") "begun" (ma K (ga K "Weaver") "begun") := T.p5.m_Weaver_begun
theorem Txt.m_Weaver_less : Meth K (ga K "Weaver") "less" (ma K (ga K "Weaver") "less") := T.p5.m_Weaver_less
theorem Txt.m_Weaver_changed : Meth K (ga K "Weaver") "changed" (ma K (ga K "Weaver") "changed") := T.p5.m_Weaver_changed
theorem Txt.m_Weaver_end : Meth K (ga K "Weaver") "end" (ma K (ga K "Weaver") "end") := T.p5.m_Weaver_end
theorem Txt.m_Weaver_ends : Meth K (ga K "Weaver") "ends" (ma K (ga K "Weaver") "ends") := T.p5.m_Weaver_ends
theorem Txt.g_TooMany : mg "TooMany" = some (.ref (ga K "TooMany")) := T.p5.g_TooMany
theorem Txt.xr_TooMany : PySem.W.excIn K (ga K "TooMany") He.veBase "ValueError.__new__" = true ∧ PySem.W.keepIn K (.ref (ga K "TooMany")) = true ∧ PySem.W.subIn K (.ref (ga K "TooMany")) (.type "BaseException") = some true ∧ PySem.W.typeIn K (.ref (ga K "TooMany")) = some (.type "type") := T.p5.xr_TooMany
theorem Txt.u_isinstance : mg "isinstance" = none := T.p5.u_isinstance
theorem Txt.u_bool : mg "bool" = none := T.p5.u_bool
theorem Txt.u_int : mg "int" = none := T.p5.u_int
theorem Txt.u_all : mg "all" = none := T.p5.u_all
theorem Txt.u_str : mg "str" = none := T.p5.u_str
theorem Txt.u_len : mg "len" = none := T.p5.u_len
theorem Txt.u_tuple : mg "tuple" = none := T.p6.u_tuple
theorem Txt.u_enumerate : mg "enumerate" = none := T.p6.u_enumerate
theorem Txt.u_sorted : mg "sorted" = none := T.p6.u_sorted
theorem Txt.u_max : mg "max" = none := T.p6.u_max
theorem Txt.u_zip : mg "zip" = none := T.p6.u_zip
theorem Txt.u_min : mg "min" = none := T.p6.u_min
theorem Txt.u_range : mg "range" = none := T.p6.u_range
theorem Txt.u_set : mg "set" = none := T.p6.u_set
theorem Txt.u_list : mg "list" = none := T.p6.u_list
theorem Txt.u_dict : mg "dict" = none := T.p6.u_dict
end
theorem _root_.Z.SaysZ.factC {fa : List (Fg → Bool)} {fn : List DefZ} {K : Fg} (c : SaysZ fa fn K) (l : List (Fg → Bool)) (i : Nat) (s : ∀ f, f ∈ l → f ∈ fa) {f : Fg → Bool} (h : l[i]? = some f) : f K = true := by
  obtain ⟨j, hj, e⟩ := List.mem_iff_getElem.mp (s f (List.mem_of_getElem? h))
  exact c.fact j (by rw [List.getElem?_eq_getElem hj, e])
theorem _root_.Z.SaysZ.defC {fa : List (Fg → Bool)} {fn : List DefZ} {K : Fg} (c : SaysZ fa fn K) (l : List DefZ) (i : Nat) (s : ∀ f, f ∈ l → f ∈ fn) {d : DefZ} (h : l[i]? = some d) : FunZ K d := by
  obtain ⟨j, hj, e⟩ := List.mem_iff_getElem.mp (s d (List.mem_of_getElem? h))
  exact c.def_ j (by rw [List.getElem?_eq_getElem hj, e])
def fa_0 : List (Fg → Bool) := [fStr "LETTERS" "abcdefghijklmnopqrstuvwxyz", fInt "MAX_NAME" 8, fInt "MAX_RANK" 9, fInt "MAX_STEPS" 8, fInt "MAX_TICKS" 99, fInt "MAX_FLAG" 7, fStr "EDGE" "edge", fStr "LEVEL" "level", fStr "RUN" "run", fStr "QUIET" "quiet", fStr "AWAIT" "await", fStr "BAR" "bar", fStr "LATER" "later", fGlo "LINE_WORDS", fTup "LINE_WORDS" [.str "ring", .str "quiet", .str "mask", .str "unmask"], fGlo "FLAG_WORDS", fTup "FLAG_WORDS" [.str "set", .str "clear", .str "await"], fInt "MAX_PROCESSORS" 6, fInt "MAX_RINGS" 6, fInt "MAX_STATES" 3000, fGlo "is_integer", fGlo "check_number", fGlo "is_word", fGlo "is_name", fGlo "is_line", fGlo "is_work", fGlo "is_step", fGlo "check_lines", fGlo "check_works", fGlo "put_in"]
def fa_1 : List (Fg → Bool) := [fGlo "weaver_of", fGlo "weaving_ends", fGlo "_law_weave_moves", fGlo "_law_weave_with", fGlo "_law_weave_rank", fGlo "_law_weave_done", fGlo "_law_taken", fGlo "_law_steps", fGlo "_law_weaving_parts", fGlo "_law_weave_first", fGlo "_law_weave_steps", fGlo "_law_weave_end", fGlo "_law_weave_ends", fGlo "law", fGlo "Setup", fCls "Setup", fMk "Setup", fNo "Setup" "line_rows", fNo "Setup" "work_rows", fNo "Setup" "rows_by_name", fNo "Setup" "works_by_name", fMeth "Setup" "__init__", fProp "Setup" "lines", fProp "Setup" "works", fProp "Setup" "order", fMeth "Setup" "__contains__", fMeth "Setup" "__getitem__", fSub "Setup", fMeth "Setup" "__eq__", fIsO "Setup"]
def fa_2 : List (Fg → Bool) := [fMeth "Setup" "check_line", fClsI "Setup" "MAX_LINES" 12, fClsI "Setup" "MAX_WORKS" 8, fClsI "Setup" "MAX_FLAG" 7, fGlo "Weaver", fCls "Weaver", fMk "Weaver", fNo "Weaver" "plan", fNo "Weaver" "size", fMeth "Weaver" "__init__", fMeth "Weaver" "first_state", fMeth "Weaver" "rank", fMeth "Weaver" "moves", fMeth "Weaver" "can_step", fMeth "Weaver" "behind", fMeth "Weaver" "begun", fMeth "Weaver" "less", fMeth "Weaver" "changed", fMeth "Weaver" "end", fMeth "Weaver" "ends", fGlo "BellError", fVeIn "BellError", fGlo "TooMany", excCB "TooMany", (fun K => (He.Fa.exc "TooMany").ok K), (fun K => (He.Fa.exm "TooMany" "BellError" true).ok K), (fun K => PySem.W.kitOne K (.ref (ga K "TooMany")) (.type "ValueError") == some true), (fun K => PySem.W.kitOne K (.ref (ga K "TooMany")) (.ref (ga K "TooMany")) == some true), fFree "isinstance", fFree "bool"]
def fa_3 : List (Fg → Bool) := [fFree "int", fFree "all", fFree "str", fFree "len", fFree "tuple", fFree "enumerate", fFree "sorted", fFree "max", fFree "zip", fFree "min", fFree "range", fFree "set", fFree "list", fFree "dict"]
def fa : List (Fg → Bool) := fa_0 ++ (fa_1 ++ (fa_2 ++ (fa_3)))
def fn_0 : List DefZ := [d_is_integer, d_check_number, d_is_word, d_is_name, d_is_line, d_is_work, d_is_step, d_check_lines, d_check_works, d_Setup_init, d_Setup_lines, d_Setup_works, d_Setup_order, d_Setup_contains, d_Setup_getitem, d_Setup_eq, d_Setup_check_line, d_put_in, d_Weaver_init, d_Weaver_first_state, d_Weaver_rank, d_Weaver_moves, d_Weaver_can_step, d_Weaver_behind, d_Weaver_begun, d_Weaver_less, d_Weaver_changed, d_Weaver_end, d_Weaver_ends, d_weaver_of]
def fn_1 : List DefZ := [d_weaving_ends, d_w_weave_moves, d_w_weave_with, d_w_weave_rank, d_w_weave_done, d_w_taken, d_w_steps, d_w_weaving_parts, d_w_weave_first, d_w_weave_steps, d_w_weave_end, d_w_weave_ends, d_law]
def fn : List DefZ := fn_0 ++ (fn_1)
theorem ia_0 : ∀ f, f ∈ fa_0 → f ∈ fa := fun f h => List.mem_append_left _ h
theorem ia_1 : ∀ f, f ∈ fa_1 → f ∈ fa := fun f h => List.mem_append_right _ (List.mem_append_left _ h)
theorem ia_2 : ∀ f, f ∈ fa_2 → f ∈ fa := fun f h => List.mem_append_right _ (List.mem_append_right _ (List.mem_append_left _ h))
theorem ia_3 : ∀ f, f ∈ fa_3 → f ∈ fa := fun f h => List.mem_append_right _ (List.mem_append_right _ (List.mem_append_right _ (h)))
theorem in_0 : ∀ f, f ∈ fn_0 → f ∈ fn := fun f h => List.mem_append_left _ h
theorem in_1 : ∀ f, f ∈ fn_1 → f ∈ fn := fun f h => List.mem_append_right _ (h)
theorem txt_of {K : Fg} {h : Heap} {mg : Str → Option Value} (X : K.In h) (G : h.Ns mainGlobals mg) (c : SaysZ fa fn K) : Txt K mg where
  p0 := ⟨He.str_ok X G (c.factC fa_0 0 ia_0 rfl), He.int_ok X G (c.factC fa_0 1 ia_0 rfl), He.int_ok X G (c.factC fa_0 2 ia_0 rfl), He.int_ok X G (c.factC fa_0 3 ia_0 rfl), He.int_ok X G (c.factC fa_0 4 ia_0 rfl), He.int_ok X G (c.factC fa_0 5 ia_0 rfl), He.str_ok X G (c.factC fa_0 6 ia_0 rfl), He.str_ok X G (c.factC fa_0 7 ia_0 rfl), He.str_ok X G (c.factC fa_0 8 ia_0 rfl), He.str_ok X G (c.factC fa_0 9 ia_0 rfl), He.str_ok X G (c.factC fa_0 10 ia_0 rfl), He.str_ok X G (c.factC fa_0 11 ia_0 rfl), He.str_ok X G (c.factC fa_0 12 ia_0 rfl), He.glo_ok X G (c.factC fa_0 13 ia_0 rfl), (fun H => He.tupB_ok (c.factC fa_0 14 ia_0 rfl) H), He.glo_ok X G (c.factC fa_0 15 ia_0 rfl), (fun H => He.tupB_ok (c.factC fa_0 16 ia_0 rfl) H), He.int_ok X G (c.factC fa_0 17 ia_0 rfl), He.int_ok X G (c.factC fa_0 18 ia_0 rfl), He.int_ok X G (c.factC fa_0 19 ia_0 rfl), He.glo_ok X G (c.factC fa_0 20 ia_0 rfl), He.glo_ok X G (c.factC fa_0 21 ia_0 rfl), He.glo_ok X G (c.factC fa_0 22 ia_0 rfl), He.glo_ok X G (c.factC fa_0 23 ia_0 rfl), He.glo_ok X G (c.factC fa_0 24 ia_0 rfl), He.glo_ok X G (c.factC fa_0 25 ia_0 rfl), He.glo_ok X G (c.factC fa_0 26 ia_0 rfl), He.glo_ok X G (c.factC fa_0 27 ia_0 rfl), He.glo_ok X G (c.factC fa_0 28 ia_0 rfl), He.glo_ok X G (c.factC fa_0 29 ia_0 rfl)⟩
  p1 := ⟨He.glo_ok X G (c.factC fa_1 0 ia_1 rfl), He.glo_ok X G (c.factC fa_1 1 ia_1 rfl), He.glo_ok X G (c.factC fa_1 2 ia_1 rfl), He.glo_ok X G (c.factC fa_1 3 ia_1 rfl), He.glo_ok X G (c.factC fa_1 4 ia_1 rfl), He.glo_ok X G (c.factC fa_1 5 ia_1 rfl), He.glo_ok X G (c.factC fa_1 6 ia_1 rfl), He.glo_ok X G (c.factC fa_1 7 ia_1 rfl), He.glo_ok X G (c.factC fa_1 8 ia_1 rfl), He.glo_ok X G (c.factC fa_1 9 ia_1 rfl), He.glo_ok X G (c.factC fa_1 10 ia_1 rfl), He.glo_ok X G (c.factC fa_1 11 ia_1 rfl), He.glo_ok X G (c.factC fa_1 12 ia_1 rfl), He.glo_ok X G (c.factC fa_1 13 ia_1 rfl), (c.defC fn_0 0 in_0 rfl), ⟨(c.defC fn_0 0 in_0 (d := d_is_integer) rfl).kp, [], FunD.bindsN (c.defC fn_0 0 in_0 (d := d_is_integer) rfl) (fun _ _ _ _ _ _ us hl => match us, hl with | [_, _, _], _ => rfl), .nil⟩, (c.defC fn_0 1 in_0 rfl), ⟨(c.defC fn_0 1 in_0 (d := d_check_number) rfl).kp, [], FunD.bindsN (c.defC fn_0 1 in_0 (d := d_check_number) rfl) (fun _ _ _ _ _ _ us hl => match us, hl with | [_, _, _], _ => rfl), .nil⟩, (c.defC fn_0 2 in_0 rfl), ⟨(c.defC fn_0 2 in_0 (d := d_is_word) rfl).kp, [], FunD.bindsN (c.defC fn_0 2 in_0 (d := d_is_word) rfl) (fun _ _ _ _ _ _ us hl => match us, hl with | [_], _ => rfl), .nil⟩, (c.defC fn_0 3 in_0 rfl), ⟨(c.defC fn_0 3 in_0 (d := d_is_name) rfl).kp, [], FunD.bindsN (c.defC fn_0 3 in_0 (d := d_is_name) rfl) (fun _ _ _ _ _ _ us hl => match us, hl with | [_], _ => rfl), .nil⟩, (c.defC fn_0 4 in_0 rfl), ⟨(c.defC fn_0 4 in_0 (d := d_is_line) rfl).kp, [], FunD.bindsN (c.defC fn_0 4 in_0 (d := d_is_line) rfl) (fun _ _ _ _ _ _ us hl => match us, hl with | [_], _ => rfl), .nil⟩, (c.defC fn_0 5 in_0 rfl), ⟨(c.defC fn_0 5 in_0 (d := d_is_work) rfl).kp, [], FunD.bindsN (c.defC fn_0 5 in_0 (d := d_is_work) rfl) (fun _ _ _ _ _ _ us hl => match us, hl with | [_], _ => rfl), .nil⟩, (c.defC fn_0 6 in_0 rfl), ⟨(c.defC fn_0 6 in_0 (d := d_is_step) rfl).kp, [], FunD.bindsN (c.defC fn_0 6 in_0 (d := d_is_step) rfl) (fun _ _ _ _ _ _ us hl => match us, hl with | [_, _, _], _ => rfl), .nil⟩, (c.defC fn_0 7 in_0 rfl), ⟨(c.defC fn_0 7 in_0 (d := d_check_lines) rfl).kp, [], FunD.bindsN (c.defC fn_0 7 in_0 (d := d_check_lines) rfl) (fun _ _ _ _ _ _ us hl => match us, hl with | [_, _], _ => rfl), .nil⟩⟩
  p2 := ⟨(c.defC fn_0 8 in_0 rfl), ⟨(c.defC fn_0 8 in_0 (d := d_check_works) rfl).kp, [], FunD.bindsN (c.defC fn_0 8 in_0 (d := d_check_works) rfl) (fun _ _ _ _ _ _ us hl => match us, hl with | [_, _], _ => rfl), .nil⟩, (c.defC fn_0 9 in_0 rfl), calD (c.defC fn_0 9 in_0 (d := d_Setup_init) rfl) 3 (by simp [d_Setup_init]) rfl (fun _ _ _ _ _ _ _ us its hl hi => match us, its, hl, hi with | [_, _, _], [_], _, _ => ⟨_, rfl, rfl⟩), (c.defC fn_0 10 in_0 rfl), ⟨(c.defC fn_0 10 in_0 (d := d_Setup_lines) rfl).kp, [], FunD.bindsN (c.defC fn_0 10 in_0 (d := d_Setup_lines) rfl) (fun _ _ _ _ _ _ us hl => match us, hl with | [_], _ => rfl), .nil⟩, (c.defC fn_0 11 in_0 rfl), ⟨(c.defC fn_0 11 in_0 (d := d_Setup_works) rfl).kp, [], FunD.bindsN (c.defC fn_0 11 in_0 (d := d_Setup_works) rfl) (fun _ _ _ _ _ _ us hl => match us, hl with | [_], _ => rfl), .nil⟩, (c.defC fn_0 12 in_0 rfl), ⟨(c.defC fn_0 12 in_0 (d := d_Setup_order) rfl).kp, [], FunD.bindsN (c.defC fn_0 12 in_0 (d := d_Setup_order) rfl) (fun _ _ _ _ _ _ us hl => match us, hl with | [_], _ => rfl), .nil⟩, (c.defC fn_0 13 in_0 rfl), ⟨(c.defC fn_0 13 in_0 (d := d_Setup_contains) rfl).kp, [], FunD.bindsN (c.defC fn_0 13 in_0 (d := d_Setup_contains) rfl) (fun _ _ _ _ _ _ us hl => match us, hl with | [_, _], _ => rfl), .nil⟩, (c.defC fn_0 14 in_0 rfl), ⟨(c.defC fn_0 14 in_0 (d := d_Setup_getitem) rfl).kp, [], FunD.bindsN (c.defC fn_0 14 in_0 (d := d_Setup_getitem) rfl) (fun _ _ _ _ _ _ us hl => match us, hl with | [_, _], _ => rfl), .nil⟩, (c.defC fn_0 15 in_0 rfl), ⟨(c.defC fn_0 15 in_0 (d := d_Setup_eq) rfl).kp, [], FunD.bindsN (c.defC fn_0 15 in_0 (d := d_Setup_eq) rfl) (fun _ _ _ _ _ _ us hl => match us, hl with | [_, _], _ => rfl), .nil⟩, (c.defC fn_0 16 in_0 rfl), ⟨(c.defC fn_0 16 in_0 (d := d_Setup_check_line) rfl).kp, [], FunD.bindsN (c.defC fn_0 16 in_0 (d := d_Setup_check_line) rfl) (fun _ _ _ _ _ _ us hl => match us, hl with | [_, _], _ => rfl), .nil⟩, (c.defC fn_0 17 in_0 rfl), ⟨(c.defC fn_0 17 in_0 (d := d_put_in) rfl).kp, [], FunD.bindsN (c.defC fn_0 17 in_0 (d := d_put_in) rfl) (fun _ _ _ _ _ _ us hl => match us, hl with | [_, _, _], _ => rfl), .nil⟩, (c.defC fn_0 18 in_0 rfl), ⟨(c.defC fn_0 18 in_0 (d := d_Weaver_init) rfl).kp, [], FunD.bindsN (c.defC fn_0 18 in_0 (d := d_Weaver_init) rfl) (fun _ _ _ _ _ _ us hl => match us, hl with | [_, _, _], _ => rfl), .nil⟩, (c.defC fn_0 19 in_0 rfl), ⟨(c.defC fn_0 19 in_0 (d := d_Weaver_first_state) rfl).kp, [], FunD.bindsN (c.defC fn_0 19 in_0 (d := d_Weaver_first_state) rfl) (fun _ _ _ _ _ _ us hl => match us, hl with | [_, _], _ => rfl), .nil⟩, (c.defC fn_0 20 in_0 rfl), ⟨(c.defC fn_0 20 in_0 (d := d_Weaver_rank) rfl).kp, [], FunD.bindsN (c.defC fn_0 20 in_0 (d := d_Weaver_rank) rfl) (fun _ _ _ _ _ _ us hl => match us, hl with | [_, _], _ => rfl), .nil⟩, (c.defC fn_0 21 in_0 rfl), ⟨(c.defC fn_0 21 in_0 (d := d_Weaver_moves) rfl).kp, [], FunD.bindsN (c.defC fn_0 21 in_0 (d := d_Weaver_moves) rfl) (fun _ _ _ _ _ _ us hl => match us, hl with | [_, _], _ => rfl), .nil⟩, (c.defC fn_0 22 in_0 rfl), ⟨(c.defC fn_0 22 in_0 (d := d_Weaver_can_step) rfl).kp, [], FunD.bindsN (c.defC fn_0 22 in_0 (d := d_Weaver_can_step) rfl) (fun _ _ _ _ _ _ us hl => match us, hl with | [_, _, _], _ => rfl), .nil⟩⟩
  p3 := ⟨(c.defC fn_0 23 in_0 rfl), ⟨(c.defC fn_0 23 in_0 (d := d_Weaver_behind) rfl).kp, [], FunD.bindsN (c.defC fn_0 23 in_0 (d := d_Weaver_behind) rfl) (fun _ _ _ _ _ _ us hl => match us, hl with | [_, _, _], _ => rfl), .nil⟩, (c.defC fn_0 24 in_0 rfl), ⟨(c.defC fn_0 24 in_0 (d := d_Weaver_begun) rfl).kp, [], FunD.bindsN (c.defC fn_0 24 in_0 (d := d_Weaver_begun) rfl) (fun _ _ _ _ _ _ us hl => match us, hl with | [_, _, _, _], _ => rfl), .nil⟩, (c.defC fn_0 25 in_0 rfl), ⟨(c.defC fn_0 25 in_0 (d := d_Weaver_less) rfl).kp, [], FunD.bindsN (c.defC fn_0 25 in_0 (d := d_Weaver_less) rfl) (fun _ _ _ _ _ _ us hl => match us, hl with | [_, _], _ => rfl), .nil⟩, (c.defC fn_0 26 in_0 rfl), ⟨(c.defC fn_0 26 in_0 (d := d_Weaver_changed) rfl).kp, [], FunD.bindsN (c.defC fn_0 26 in_0 (d := d_Weaver_changed) rfl) (fun _ _ _ _ _ _ us hl => match us, hl with | [_, _, _, _], _ => rfl), .nil⟩, (c.defC fn_0 27 in_0 rfl), ⟨(c.defC fn_0 27 in_0 (d := d_Weaver_end) rfl).kp, [], FunD.bindsN (c.defC fn_0 27 in_0 (d := d_Weaver_end) rfl) (fun _ _ _ _ _ _ us hl => match us, hl with | [_, _], _ => rfl), .nil⟩, (c.defC fn_0 28 in_0 rfl), ⟨(c.defC fn_0 28 in_0 (d := d_Weaver_ends) rfl).kp, [], FunD.bindsN (c.defC fn_0 28 in_0 (d := d_Weaver_ends) rfl) (fun _ _ _ _ _ _ us hl => match us, hl with | [_, _], _ => rfl), .nil⟩, (c.defC fn_0 29 in_0 rfl), ⟨(c.defC fn_0 29 in_0 (d := d_weaver_of) rfl).kp, [], FunD.bindsN (c.defC fn_0 29 in_0 (d := d_weaver_of) rfl) (fun _ _ _ _ _ _ us hl => match us, hl with | [_, _, _], _ => rfl), .nil⟩, (c.defC fn_1 0 in_1 rfl), ⟨(c.defC fn_1 0 in_1 (d := d_weaving_ends) rfl).kp, [], FunD.bindsN (c.defC fn_1 0 in_1 (d := d_weaving_ends) rfl) (fun _ _ _ _ _ _ us hl => match us, hl with | [_, _, _], _ => rfl), .nil⟩, (c.defC fn_1 1 in_1 rfl), ⟨(c.defC fn_1 1 in_1 (d := d_w_weave_moves) rfl).kp, [], FunD.bindsN (c.defC fn_1 1 in_1 (d := d_w_weave_moves) rfl) (fun _ _ _ _ _ _ us hl => match us, hl with | [_, _], _ => rfl), .nil⟩, (c.defC fn_1 2 in_1 rfl), ⟨(c.defC fn_1 2 in_1 (d := d_w_weave_with) rfl).kp, [], FunD.bindsN (c.defC fn_1 2 in_1 (d := d_w_weave_with) rfl) (fun _ _ _ _ _ _ us hl => match us, hl with | [_, _, _], _ => rfl), .nil⟩, (c.defC fn_1 3 in_1 rfl), ⟨(c.defC fn_1 3 in_1 (d := d_w_weave_rank) rfl).kp, [], FunD.bindsN (c.defC fn_1 3 in_1 (d := d_w_weave_rank) rfl) (fun _ _ _ _ _ _ us hl => match us, hl with | [_, _], _ => rfl), .nil⟩, (c.defC fn_1 4 in_1 rfl), ⟨(c.defC fn_1 4 in_1 (d := d_w_weave_done) rfl).kp, [], FunD.bindsN (c.defC fn_1 4 in_1 (d := d_w_weave_done) rfl) (fun _ _ _ _ _ _ us hl => match us, hl with | [_, _, _], _ => rfl), .nil⟩, (c.defC fn_1 5 in_1 rfl), ⟨(c.defC fn_1 5 in_1 (d := d_w_taken) rfl).kp, [], FunD.bindsN (c.defC fn_1 5 in_1 (d := d_w_taken) rfl) (fun _ _ _ _ _ _ us hl => match us, hl with | [_, _], _ => rfl), .nil⟩, (c.defC fn_1 6 in_1 rfl), ⟨(c.defC fn_1 6 in_1 (d := d_w_steps) rfl).kp, [], FunD.bindsN (c.defC fn_1 6 in_1 (d := d_w_steps) rfl) (fun _ _ _ _ _ _ us hl => match us, hl with | [_, _, _, _], _ => rfl), .nil⟩, (c.defC fn_1 7 in_1 rfl), ⟨(c.defC fn_1 7 in_1 (d := d_w_weaving_parts) rfl).kp, [], FunD.bindsN (c.defC fn_1 7 in_1 (d := d_w_weaving_parts) rfl) (fun _ _ _ _ _ _ us hl => match us, hl with | [_], _ => rfl), .nil⟩⟩
  p4 := ⟨(c.defC fn_1 8 in_1 rfl), ⟨(c.defC fn_1 8 in_1 (d := d_w_weave_first) rfl).kp, [], FunD.bindsN (c.defC fn_1 8 in_1 (d := d_w_weave_first) rfl) (fun _ _ _ _ _ _ us hl => match us, hl with | [_], _ => rfl), .nil⟩, (c.defC fn_1 9 in_1 rfl), ⟨(c.defC fn_1 9 in_1 (d := d_w_weave_steps) rfl).kp, [], FunD.bindsN (c.defC fn_1 9 in_1 (d := d_w_weave_steps) rfl) (fun _ _ _ _ _ _ us hl => match us, hl with | [_, _], _ => rfl), .nil⟩, (c.defC fn_1 10 in_1 rfl), ⟨(c.defC fn_1 10 in_1 (d := d_w_weave_end) rfl).kp, [], FunD.bindsN (c.defC fn_1 10 in_1 (d := d_w_weave_end) rfl) (fun _ _ _ _ _ _ us hl => match us, hl with | [_], _ => rfl), .nil⟩, (c.defC fn_1 11 in_1 rfl), ⟨(c.defC fn_1 11 in_1 (d := d_w_weave_ends) rfl).kp, [], FunD.bindsN (c.defC fn_1 11 in_1 (d := d_w_weave_ends) rfl) (fun _ _ _ _ _ _ us hl => match us, hl with | [_, _], _ => rfl), .nil⟩, (c.defC fn_1 12 in_1 rfl), ⟨(c.defC fn_1 12 in_1 (d := d_law) rfl).kp, [], FunD.bindsN (c.defC fn_1 12 in_1 (d := d_law) rfl) (fun _ _ _ _ _ _ us hl => match us, hl with | [_], _ => rfl), .nil⟩, He.glo_ok X G (c.factC fa_1 14 ia_1 rfl), He.cls_ok (c.factC fa_1 15 ia_1 rfl), He.mkr_ok (c.factC fa_1 16 ia_1 rfl), He.noat_ok (c.factC fa_1 17 ia_1 rfl), He.noat_ok (c.factC fa_1 18 ia_1 rfl), He.noat_ok (c.factC fa_1 19 ia_1 rfl), He.noat_ok (c.factC fa_1 20 ia_1 rfl), He.meth_ok (c.factC fa_1 21 ia_1 rfl), fProp_ok (c.factC fa_1 22 ia_1 rfl), fProp_ok (c.factC fa_1 23 ia_1 rfl), fProp_ok (c.factC fa_1 24 ia_1 rfl), He.meth_ok (c.factC fa_1 25 ia_1 rfl), He.meth_ok (c.factC fa_1 26 ia_1 rfl), (c.factC fa_1 27 ia_1 rfl), He.meth_ok (c.factC fa_1 28 ia_1 rfl), fIsO_ok (c.factC fa_1 29 ia_1 rfl), He.meth_ok (c.factC fa_2 0 ia_2 rfl), fClsI_ok (c.factC fa_2 1 ia_2 rfl), fClsI_ok (c.factC fa_2 2 ia_2 rfl), fClsI_ok (c.factC fa_2 3 ia_2 rfl)⟩
  p5 := ⟨He.glo_ok X G (c.factC fa_2 4 ia_2 rfl), He.cls_ok (c.factC fa_2 5 ia_2 rfl), He.mkr_ok (c.factC fa_2 6 ia_2 rfl), He.noat_ok (c.factC fa_2 7 ia_2 rfl), He.noat_ok (c.factC fa_2 8 ia_2 rfl), He.meth_ok (c.factC fa_2 9 ia_2 rfl), He.meth_ok (c.factC fa_2 10 ia_2 rfl), He.meth_ok (c.factC fa_2 11 ia_2 rfl), He.meth_ok (c.factC fa_2 12 ia_2 rfl), He.meth_ok (c.factC fa_2 13 ia_2 rfl), He.meth_ok (c.factC fa_2 14 ia_2 rfl), He.meth_ok (c.factC fa_2 15 ia_2 rfl), He.meth_ok (c.factC fa_2 16 ia_2 rfl), He.meth_ok (c.factC fa_2 17 ia_2 rfl), He.meth_ok (c.factC fa_2 18 ia_2 rfl), He.meth_ok (c.factC fa_2 19 ia_2 rfl), He.glo_ok X G (c.factC fa_2 20 ia_2 rfl), fVeIn_ok (c.factC fa_2 21 ia_2 rfl), He.glo_ok X G (c.factC fa_2 22 ia_2 rfl), excCB_ok (c.factC fa_2 23 ia_2 rfl), (He.exc_ok (c.factC fa_2 24 ia_2 rfl)), (He.exm_ok (c.factC fa_2 25 ia_2 rfl)), (eq_of_beq (c.factC fa_2 26 ia_2 rfl)), (eq_of_beq (c.factC fa_2 27 ia_2 rfl)), He.free_ok X G (c.factC fa_2 28 ia_2 rfl), He.free_ok X G (c.factC fa_2 29 ia_2 rfl), He.free_ok X G (c.factC fa_3 0 ia_3 rfl), He.free_ok X G (c.factC fa_3 1 ia_3 rfl), He.free_ok X G (c.factC fa_3 2 ia_3 rfl), He.free_ok X G (c.factC fa_3 3 ia_3 rfl)⟩
  p6 := ⟨He.free_ok X G (c.factC fa_3 4 ia_3 rfl), He.free_ok X G (c.factC fa_3 5 ia_3 rfl), He.free_ok X G (c.factC fa_3 6 ia_3 rfl), He.free_ok X G (c.factC fa_3 7 ia_3 rfl), He.free_ok X G (c.factC fa_3 8 ia_3 rfl), He.free_ok X G (c.factC fa_3 9 ia_3 rfl), He.free_ok X G (c.factC fa_3 10 ia_3 rfl), He.free_ok X G (c.factC fa_3 11 ia_3 rfl), He.free_ok X G (c.factC fa_3 12 ia_3 rfl), He.free_ok X G (c.factC fa_3 13 ia_3 rfl)⟩
def names : List PySem.Str := (["_wall", "BellError", "InvalidSetup", "UnknownLine", "InvalidNumber", "TooMany", "InvalidRings", "NotEdges", "LETTERS", "MAX_NAME", "MAX_RANK", "MAX_STEPS", "MAX_TICKS", "MAX_FLAG", "EDGE", "LEVEL", "RUN", "QUIET", "AWAIT", "BAR", "LATER", "LINE_WORDS", "FLAG_WORDS", "is_integer", "check_number", "is_word", "is_name", "is_line", "is_work", "is_step"] : List PySem.Str) ++ (["check_lines", "check_works", "Setup", "lines_without", "setup_of", "MAX_PROCESSORS", "MAX_RINGS", "MAX_STATES", "put_in", "Weaver", "weaver_of", "weaving_ends", "_law_weave_moves", "_law_weave_with", "_law_weave_rank", "_law_weave_done", "_law_taken", "_law_steps", "_law_weaving_parts", "_law_weave_first", "_law_weave_steps", "_law_weave_end", "_law_weave_ends"] : List PySem.Str)
end T
set_option maxHeartbeats 0
namespace T
open PySem PySem.Spec PyProof.Rows L2 Z
open He (ga ma)
abbrev R : PySem.W.OpenRow := PySem.W.OpenLaw.row PySem.Challenge.rw_callbells_k76_whole_more_processors
abbrev hk : PySem.W.Hook := hookR 1400 fa fn
def ob (s : PySem.W.SharedT) : Z.Seen := seeR 1400 fa fn (HandSHeadRun.getT s)
theorem ob_eq (s : PySem.W.SharedT) : ob s = hk.obs s.abs := seeR_eq (HandSHeadRun.getT_eq s)
theorem run (w : World) : HandSHeadRun.RunEq R (PySem.W.view R.prog [57]) hk ob 9000 names w := by
  intro os
  kernel_rfl
end T
set_option maxHeartbeats 1000000
namespace Z
open PySem PySem.Spec PyProof.Rows L2
open He (ga ma)
section
variable {K : Fg} {σ : L2.St} {H H1 : Hp} {Q : VK} {te tk tv tl td ty : TE} {a : Addr} {xs : List V} {kvs : List (Key × V)} {ea ec ed : L2.St → Hp → Prop} {eb : VK}
theorem s_daugg {rd : V → V → Hp → VK → Prop} (q : td σ H fun x H1 => ty σ H1 fun y H2 => ∃ a v, x = .ref a ∧ DGet H2 a y (some v) ∧ tv σ H2 fun y2 H3 => rd v y2 H3 fun z H4 => ∃ H5, DPut H4 a y z H5 ∧ ea σ H5) : sDAug td ty tv rd (.mk ea eb ec ed) σ H := q
theorem s_add {i j : Int} (q : Q (.int (i + j)) H) : rAdd (.int i) (.int j) H Q := ⟨i, j, rfl, rfl, q⟩
theorem s_disp {trs : List (TE × TE)} (q : ∀ p, H p = none → tPairs trs σ (upd H p (.dK [])) fun ps H2 => H2 p = some (.dK []) ∧ ∃ kvs : List (Key × V), ps = kvs.map (fun kv => (kV kv.1, kv.2)) ∧ kvs.length ≤ 15 ∧ Q (.ref p) (upd H2 p (.dK (mergeK [] kvs)))) : tDisp trs σ H Q := q
theorem s_pnil {R : List (V × V) → Hp → Prop} (q : R [] H) : tPairs [] σ H R := q
theorem s_pcons {R : List (V × V) → Hp → Prop} {trs : List (TE × TE)} (q : tk σ H fun x H1 => tv σ H1 fun y H2 => tPairs trs σ H2 fun ps H3 => R ((x, y) :: ps) H3) : tPairs ((tk, tv) :: trs) σ H R := q
theorem upd_upd {o o' : HO} : upd (upd H a o) a o' = upd H a o' := by
  funext c
  by_cases e : c = a
  · subst e
    rw [upd_same, upd_same]
  · rw [upd_ne e, upd_ne e, upd_ne e]
theorem s_setL {p : Addr} {k : Int} {v : V} {j : Nat} {R : Hp → Prop} (h : H p = some (.lst xs)) (e : ixN xs.length k = some j) (q : R (upd H p (.lst (xs.set j v)))) : rSetL (.ref p) (.int k) v H R := ⟨p, xs, k, j, rfl, rfl, h, e, q⟩
theorem s_gsub {to ti : TE} {t : TSet} {v : V} {R : L2.St → Hp → Prop} (q : to σ H fun o H1 => ti σ H1 fun i H2 => t o i v H2 fun H3 => R σ H3) : gSub to ti t v σ H R := q
theorem s_augS {to ti : TE} {tget : V → V → Hp → VK → Prop} {tip : TIp} {tset : TSet} (q : to σ H fun o H1 => ti σ H1 fun i H2 => tget o i H2 fun x H3 => te σ H3 fun y H4 => tip x y H4 fun z H5 => tset o i z H5 fun H6 => ea σ H6) : tAugS to ti te tget tip tset (.mk ea eb ec ed) σ H := q
theorem s_ipI {f : Int → Int → Int} {i j : Int} (q : Q (.int (f i j)) H) : ipI f (.int i) (.int j) H Q := ⟨i, j, rfl, rfl, q⟩
theorem s_cat {b : Addr} {zs : List V} (h : H a = some (.lst xs)) (h2 : H b = some (.lst zs)) (hl : xs.length + zs.length ≤ sizeLine) (q : ∀ p, H p = none → Q (.ref p) (upd H p (.lst (xs ++ zs)))) : rCat (.ref a) (.ref b) H Q := ⟨a, b, xs, zs, rfl, rfl, h, h2, hl, q⟩
theorem s_fldaug {ta : TE} {rd : V → V → Hp → VK → Prop} {f : Str} (q : ta σ H fun x H1 => ∃ a C dx fs v, x = .ref a ∧ H1 a = some (.ins C dx fs) ∧ Cls K C ∧ NoAttr K C f ∧ fs.lookup f = some v ∧
  tv σ H1 fun y H2 => rd v y H2 fun z H3 => ∃ dx' fs', H3 a = some (.ins C dx' fs') ∧ fs'.length < 1000 ∧ ea σ (upd H3 a (.ins C dx' (putF f z fs')))) : sFldAug K ta tv rd f (.mk ea eb ec ed) σ H := q
end
theorem Fr.fresh {A : List Addr} {H H' : Hp} {a : Addr} (f : Fr A H H') (hn : a ∉ A) (h : H' a = none) : H a = none := f.back h
end Z
set_option maxHeartbeats 1000000
namespace Z
open PySem PySem.Spec PyProof.Rows L2
open He (ga ma)
structure Frm where
  ln : Str
  st : Nat
  tk : Nat
  kp : Int
structure Cr where
  frames : List Frm
  limit : Int
  jobs : List (Str × Nat)
abbrev Ev := Str × Str
def dEv (e : Ev) : PyData := .tuple [.str e.1, .str e.2]
def frV (f : Frm) : List V := [.str f.ln, .int f.st, .int f.tk, .int f.kp]
def jbV (j : Str × Nat) : List V := [.str j.1, .int j.2]
def Cr.inner (P : Pl) (C : Cr) : Int := match C.frames.getLast? with
  | none => 0
  | some f => (P.ln f.ln).rk
def Cr.may (P : Pl) (C : Cr) (z : Str) : Bool := decide ((P.ln z).rk > (if C.inner P > C.limit then C.inner P else C.limit))
def leave (jobs : List (Str × Nat)) (z : Str) : List (Str × Nat) := if (z, 0) ∈ jobs then jobs else jobs ++ [(z, 0)]
def stepFx (P : Pl) (lim : Int) (jobs : List (Str × Nat)) (B : Bd) (s : Str × Key) : Int × List (Str × Nat) × Bd :=
  if s.1 = "bar" then (kI s.2, jobs, B) else if s.1 = "later" then (lim, leave jobs (kS s.2), B) else if s.1 ≠ "await" then (lim, jobs, (B.carry P s).1) else (lim, jobs, B)
def stops (B : Bd) (s : Str × Key) : Bool := decide (s.1 = ("run" : Str)) || (decide (s.1 = ("await" : Str)) && !decide (kI s.2 ∈ B.raised))
def passL (P : Pl) (fs : List Frm) (f : Frm) (lim : Int) (jobs : List (Str × Nat)) (B : Bd) : List (Str × Key) → Cr × Bd × List Ev
  | [] => (⟨fs, f.kp, jobs⟩, B.ended f.ln, [("end", f.ln)])
  | s :: r => if stops B s = true then (⟨fs ++ [f], lim, jobs⟩, B, []) else
    passL P fs { f with st := f.st + 1 } (stepFx P lim jobs B s).1 (stepFx P lim jobs B s).2.1 (stepFx P lim jobs B s).2.2 r
def pass (P : Pl) (fs : List Frm) (f : Frm) (lim : Int) (jobs : List (Str × Nat)) (B : Bd) : Cr × Bd × List Ev := passL P fs f lim jobs B ((P.ln f.ln).st.drop f.st)
inductive Lsts (H : Hp) : List Addr → List (List V) → Prop
  | nil : Lsts H [] []
  | cons {a : Addr} {xs : List V} {as : List Addr} {xss : List (List V)} : H a = some (.lst xs) → Lsts H as xss → Lsts H (a :: as) (xs :: xss)
section
variable {H H' : Hp}
theorem Lsts.len : ∀ {as : List Addr} {xss : List (List V)}, Lsts H as xss → as.length = xss.length
  | _, _, .nil => rfl
  | _, _, .cons _ t => by rw [List.length_cons, List.length_cons, t.len]
theorem Lsts.keep {A : List Addr} (f : Fr A H H') : ∀ {as : List Addr} {xss : List (List V)}, Lsts H as xss → (∀ a ∈ as, a ∉ A) → Lsts H' as xss
  | _, _, .nil, _ => .nil
  | _, _, .cons h t, n => .cons (f.at h (n _ (by simp))) (t.keep f fun a ha => n a (List.mem_cons_of_mem _ ha))
theorem Lsts.get : ∀ {as : List Addr} {xss : List (List V)} {i : Nat} {a : Addr}, Lsts H as xss → as[i]? = some a → ∃ xs, xss[i]? = some xs ∧ H a = some (.lst xs)
  | _, _, _, _, .nil, h => by simp at h
  | _, _, 0, _, .cons h _, e => by
    simp at e
    subst e
    exact ⟨_, rfl, h⟩
  | _, _, i + 1, _, .cons _ t, e => by
    obtain ⟨xs, h1, h2⟩ := t.get (i := i) (by simpa using e)
    exact ⟨xs, by simpa using h1, h2⟩
theorem Lsts.app : ∀ {as bs : List Addr} {xss yss : List (List V)}, Lsts H as xss → Lsts H bs yss → Lsts H (as ++ bs) (xss ++ yss)
  | _, _, _, _, .nil, s => s
  | _, _, _, _, .cons h t, s => .cons h (t.app s)
theorem Lsts.snoc {as : List Addr} {xss : List (List V)} {x : List V} (h : Lsts H as (xss ++ [x])) : ∃ bs a, as = bs ++ [a] ∧ Lsts H bs xss ∧ H a = some (.lst x) := by
  induction xss generalizing as with
  | nil =>
    cases h with
    | cons h t =>
      cases t
      exact ⟨[], _, rfl, .nil, h⟩
  | cons y yss ih =>
    cases h with
    | cons h t =>
      obtain ⟨bs, a, rfl, h1, h2⟩ := ih t
      exact ⟨_ :: bs, a, rfl, .cons h h1, h2⟩
theorem Lsts.set : ∀ {as : List Addr} {xss : List (List V)} {a : Addr} {xs : List V} (i : Nat), Lsts H as xss → H a = some (.lst xs) → Lsts H (as.set i a) (xss.set i xs)
  | _, _, _, _, _, .nil, _ => .nil
  | _, _, _, _, 0, .cons h t, e => .cons e t
  | _, _, _, _, i + 1, .cons h t, e => .cons h (t.set i e)
theorem Lsts.take : ∀ {as : List Addr} {xss : List (List V)} (n : Nat), Lsts H as xss → Lsts H (as.take n) (xss.take n)
  | _, _, 0, _ => .nil
  | _, _, _ + 1, .nil => .nil
  | _, _, n + 1, .cons h t => .cons h (t.take n)
theorem Lsts.drop : ∀ {as : List Addr} {xss : List (List V)} (n : Nat), Lsts H as xss → Lsts H (as.drop n) (xss.drop n)
  | _, _, 0, h => h
  | _, _, _ + 1, .nil => .nil
  | _, _, n + 1, .cons _ t => t.drop n
theorem Lsts.dp {K : Fg} {α : Type} {f : α → List V} {d : α → List PyData} (hd : ∀ x, DpAll K H (f x) (d x)) : ∀ {as : List Addr} {l : List α}, Lsts H as (l.map f) → DpAll K H (as.map V.ref) (l.map fun x => .list (d x))
  | _, [], .nil => .nil
  | _, _ :: _, .cons h t => .cons (.lst (SqL.of h) (hd _)) (Lsts.dp hd t)
end
structure CA where
  c : Addr
  fr : Addr
  jo : Addr
  fs : List Addr
  js : List Addr
def CA.own (D : CA) : List Addr := D.c :: D.fr :: D.jo :: (D.fs ++ D.js)
def coreF (p fr jo : Addr) (lim : Int) : List (Str × V) := [("plan", .ref p), ("frames", .ref fr), ("limit", .int lim), ("jobs", .ref jo)]
theorem coF_plan {p fr jo : Addr} {lim : Int} : (coreF p fr jo lim).lookup ("plan" : Str) = some (.ref p) := by kernel_rfl
theorem coF_fr {p fr jo : Addr} {lim : Int} : (coreF p fr jo lim).lookup ("frames" : Str) = some (.ref fr) := by kernel_rfl
theorem coF_lim {p fr jo : Addr} {lim : Int} : (coreF p fr jo lim).lookup ("limit" : Str) = some (.int lim) := by kernel_rfl
theorem coF_jo {p fr jo : Addr} {lim : Int} : (coreF p fr jo lim).lookup ("jobs" : Str) = some (.ref jo) := by kernel_rfl
structure CoreAt (K : Fg) (H : Hp) (p : Addr) (D : CA) (C : Cr) : Prop where
  nd : D.own.Nodup
  ins : ∃ dx, H D.c = some (.ins (ga K "Core") dx (coreF p D.fr D.jo C.limit))
  fr : H D.fr = some (.lst (D.fs.map V.ref))
  jo : H D.jo = some (.lst (D.js.map V.ref))
  fs : Lsts H D.fs (C.frames.map frV)
  js : Lsts H D.js (C.jobs.map jbV)
section
variable {K : Fg} {H H' : Hp} {p : Addr} {D : CA} {C : Cr}
theorem CoreAt.keep (h : CoreAt K H p D C) {A : List Addr} (f : Fr A H H') (n : ∀ a ∈ D.own, a ∉ A) : CoreAt K H' p D C := by
  obtain ⟨dx, e⟩ := h.ins
  refine ⟨h.nd, ⟨dx, f.at e (n _ (by simp [CA.own]))⟩, f.at h.fr (n _ (by simp [CA.own])), f.at h.jo (n _ (by simp [CA.own])), h.fs.keep f fun a ha => n a (by simp [CA.own, ha]), h.js.keep f fun a ha => n a (by simp [CA.own, ha])⟩
theorem CoreAt.same (h : CoreAt K H p D C) (s : Same H H') : CoreAt K H' p D C := h.keep (A := []) s.fr (by simp)
structure CA.Sep (D : CA) : Prop where
  cfr : D.c ≠ D.fr
  cjo : D.c ≠ D.jo
  frjo : D.fr ≠ D.jo
  cfs : D.c ∉ D.fs
  cjs : D.c ∉ D.js
  frfs : D.fr ∉ D.fs
  frjs : D.fr ∉ D.js
  jofs : D.jo ∉ D.fs
  jojs : D.jo ∉ D.js
  fsn : D.fs.Nodup
  jsn : D.js.Nodup
  fj : ∀ a ∈ D.fs, a ∉ D.js
theorem CA.Sep.own {D : CA} (h : D.Sep) : D.own.Nodup := by
  simp only [CA.own, List.nodup_cons, List.mem_cons, List.mem_append, not_or]
  exact ⟨⟨h.cfr, h.cjo, h.cfs, h.cjs⟩, ⟨h.frjo, h.frfs, h.frjs⟩, ⟨h.jofs, h.jojs⟩, List.nodup_append.mpr ⟨h.fsn, h.jsn, fun a ha b hb e => h.fj a ha (by rw [e]; exact hb)⟩⟩
end
def EvAt (K : Fg) (H : Hp) (l : Addr) (es : List Ev) : Prop := ∃ xs, H l = some (.lst xs) ∧ DpAll K H xs (es.map dEv)
theorem tupd_dEv (e : Ev) : tupd (dEv e) = true := rfl
theorem EvAt.keep {K : Fg} {H H' : Hp} {l : Addr} {es : List Ev} {A : List Addr} (h : EvAt K H l es) (f : Fr A H H') (n : l ∉ A) : EvAt K H' l es := by
  obtain ⟨xs, h1, h2⟩ := h
  exact ⟨xs, f.at h1 n, h2.tk f.tk (tupds_map tupd_dEv _)⟩
end Z
set_option maxHeartbeats 1000000
namespace Z
open PySem PySem.Spec PyProof.Rows L2
open He (ga ma)
theorem atI_last {α : Type} {xs : List α} {v : α} : atI (xs ++ [v]) (-1) = some v := by
  have e : ixN (xs ++ [v]).length (-1) = some xs.length := by
    unfold ixN
    rw [if_neg (by decide), List.length_append, List.length_singleton]
    rw [if_pos (by omega)]
    congr 1
    omega
  unfold atI
  rw [e]
  show (xs ++ [v])[xs.length]? = some v
  rw [List.getElem?_append_right (Nat.le_refl _), Nat.sub_self]
  rfl
structure JOk (P : Pl) (jobs : List (Str × Nat)) : Prop where
  sub : ∀ j ∈ jobs, j.1 ∈ P.wnames
  fr : ((jobs.filter fun a => decide (a.2 = 0)).map (·.1)).Nodup
theorem JOk.nil {P : Pl} : JOk P [] := ⟨by simp, .nil⟩
theorem JOk.leave {P : Pl} {jobs : List (Str × Nat)} (h : JOk P jobs) {z : Str} (hz : z ∈ P.wnames) : JOk P (leave jobs z) := by
  unfold Z.leave
  split
  · exact h
  · rename_i hn
    refine ⟨fun j hj => ?_, ?_⟩
    · rcases List.mem_append.mp hj with hj | hj
      · exact h.sub j hj
      · rw [List.mem_singleton.mp hj]
        exact hz
    · rw [List.filter_append, List.map_append, List.nodup_append]
      refine ⟨h.fr, by simp, fun a ha b hb e => hn ?_⟩
      have hb : b = z := by simpa using hb
      obtain ⟨x, hx, rfl⟩ := List.mem_map.mp ha
      obtain ⟨hx1, hx2⟩ := List.mem_filter.mp hx
      have : x = (z, 0) := Prod.ext (e.trans hb) (by simpa using hx2)
      rw [← this]
      exact hx1
theorem JOk.app {P : Pl} {jobs : List (Str × Nat)} (h : JOk P jobs) {z : Str} {n : Nat} (hz : z ∈ P.wnames) (hn : n ≠ 0) : JOk P (jobs ++ [(z, n)]) := by
  refine ⟨fun j hj => ?_, ?_⟩
  · rcases List.mem_append.mp hj with hj | hj
    · exact h.sub j hj
    · rw [List.mem_singleton.mp hj]
      exact hz
  · rw [List.filter_append, List.map_append]
    simpa [hn] using h.fr
def Stands (P : Pl) (f : Frm) : Prop := ∃ s, (P.ln f.ln).st[f.st]? = some s ∧ (s.1 = "run" ∨ s.1 = "await")
structure FOk (P : Pl) (fs : List Frm) (B : Bd) : Prop where
  nm : ∀ f ∈ fs, f.ln ∈ P.names
  tk : ∀ f ∈ fs, f.ln ∈ B.taken
  nd : (fs.map (·.ln)).Nodup
  st : ∀ f ∈ fs, Stands P f
theorem FOk.len {P : Pl} (ok : P.Ok) {fs : List Frm} {B : Bd} (h : FOk P fs B) : fs.length ≤ 12 := by
  have : Sub (fs.map (·.ln)) P.names := ⟨h.nd, fun x hx => by
    obtain ⟨f, hf, rfl⟩ := List.mem_map.mp hx
    exact h.nm f hf⟩
  have := this.len12 ok
  rwa [List.length_map] at this
structure CSt (K : Fg) (H : Hp) (PD : PA) (P : Pl) (D : CA) (C : Cr) (E : BA) (B : Bd) : Prop where
  pl : PlanAt K H PD P
  co : CoreAt K H PD.p D C
  bd : BoardAt K H PD.p E B
  pd : ∀ a ∈ PD.own, a ∉ D.own ∧ a ∉ E.own
  de : ∀ a ∈ D.own, a ∉ E.own
  bok : B.Ok P
  jok : JOk P C.jobs
structure Chg (H : Hp) (D : CA) (E : BA) (H' : Hp) (D' : CA) : Prop where
  fr : Fr (D.own ++ E.own) H H'
  c : D'.c = D.c
  own : ∀ a ∈ D'.own, a ∈ D.own ∨ H a = none
theorem Chg.refl {H : Hp} {D : CA} {E : BA} : Chg H D E H D := ⟨Fr.refl, rfl, fun _ h => .inl h⟩
theorem Chg.trans {H H1 H2 : Hp} {D D1 D2 : CA} {E : BA} (x : Chg H D E H1 D1) (y : Chg H1 D1 E H2 D2) : Chg H D E H2 D2 := by
  refine ⟨⟨fun a o h n => ?_, fun a h => x.fr.back (y.fr.back h)⟩, y.c.trans x.c, fun a ha => ?_⟩
  · refine y.fr.1 a o (x.fr.1 a o h n) ?_
    rcases n with n | n
    · refine .inl fun z => n ?_
      rcases List.mem_append.mp z with z | z
      · rcases x.own a z with z | z
        · exact List.mem_append_left _ z
        · rw [h] at z
          cases z
      · exact List.mem_append_right _ z
    · exact .inr n
  · rcases y.own a ha with h | h
    · exact x.own a h
    · exact .inr (x.fr.back h)
theorem PlanAt.ex {K : Fg} {H : Hp} {D : PA} {P : Pl} (h : PlanAt K H D P) : ∀ a ∈ D.own, H a ≠ none := by
  obtain ⟨_, _, _, h1, _⟩ := h.ins
  obtain ⟨_, h2, _⟩ := h.rows.at_
  obtain ⟨_, h3, _⟩ := h.works.at_
  simp [PA.own, h1, h2, h3]
theorem BoardAt.ex {K : Fg} {H : Hp} {p : Addr} {D : BA} {B : Bd} (h : BoardAt K H p D B) : ∀ a ∈ D.own, H a ≠ none := by
  obtain ⟨_, h1⟩ := h.ins
  obtain ⟨_, h2, _⟩ := h.ru
  obtain ⟨_, h3, _⟩ := h.re
  simp [BA.own, h1, h2, h3, h.sh, h.wa, h.hi, h.ta, h.ra, h.jo, h.sp, h.wt]
theorem Lsts.ex {H : Hp} : ∀ {as : List Addr} {xss : List (List V)}, Lsts H as xss → ∀ a ∈ as, H a ≠ none
  | _, _, .nil, _, h => by simp at h
  | _, _, .cons e t, a, h => by
    rcases List.mem_cons.mp h with rfl | h
    · simp [e]
    · exact t.ex a h
theorem CoreAt.ex {K : Fg} {H : Hp} {p : Addr} {D : CA} {C : Cr} (h : CoreAt K H p D C) : ∀ a ∈ D.own, H a ≠ none := by
  obtain ⟨_, h1⟩ := h.ins
  intro a ha
  simp only [CA.own, List.mem_cons, List.mem_append] at ha
  rcases ha with rfl | rfl | rfl | ha | ha
  · simp [h1]
  · simp [h.fr]
  · simp [h.jo]
  · exact h.fs.ex a ha
  · exact h.js.ex a ha
section
variable {K : Fg} {H H' : Hp} {PD : PA} {P : Pl} {D D' : CA} {C C' : Cr} {E : BA} {B B' : Bd}
theorem CSt.same (h : CSt K H PD P D C E B) (s : Same H H') : CSt K H' PD P D C E B := ⟨h.pl.same s, h.co.same s, h.bd.same s, h.pd, h.de, h.bok, h.jok⟩
theorem CSt.board (h : CSt K H PD P D C E B) (f : Fr E.own H H') (b : BoardAt K H' PD.p E B') (ok : B'.Ok P) : CSt K H' PD P D C E B' :=
  ⟨h.pl.keep f fun a ha => (h.pd a ha).2, h.co.keep f fun a ha => h.de a ha, b, h.pd, h.de, ok, h.jok⟩
theorem Chg.board (f : Fr E.own H H') : Chg H D E H' D := ⟨f.mono fun a ha => List.mem_append_right _ ha, rfl, fun _ h => .inl h⟩
theorem CSt.core (h : CSt K H PD P D C E B) (f : Fr D.own H H') (c : CoreAt K H' PD.p D' C') (o : ∀ a ∈ D'.own, a ∈ D.own ∨ H a = none) (j : JOk P C'.jobs) : CSt K H' PD P D' C' E B := by
  refine ⟨h.pl.keep f fun a ha => (h.pd a ha).1, c, h.bd.keep f fun a ha z => h.de a z ha, fun a ha => ⟨fun z => ?_, (h.pd a ha).2⟩, fun a ha => ?_, h.bok, j⟩
  · rcases o a z with z | z
    · exact (h.pd a ha).1 z
    · exact h.pl.ex a ha z
  · rcases o a ha with z | z
    · exact h.de a z
    · exact fun w => h.bd.ex a w z
theorem Chg.core (f : Fr D.own H H') (c : D'.c = D.c) (o : ∀ a ∈ D'.own, a ∈ D.own ∨ H a = none) : Chg H D E H' D' := ⟨f.mono fun a ha => List.mem_append_left _ ha, c, o⟩
theorem Chg.same (s : Same H H') : Chg H D E H' D := ⟨s.fr, rfl, fun _ h => .inl h⟩
end
end Z
set_option maxHeartbeats 1000000
namespace Z
open PySem PySem.Spec PyProof.Rows L2
open He (ga ma)
theorem Bd.carry_taken {P : Pl} {B : Bd} {s : Str × Key} : (B.carry P s).1.taken = B.taken := by
  unfold Bd.carry Bd.ring
  repeat (first | rfl | split)
theorem stepFx_taken {P : Pl} {lim : Int} {jobs : List (Str × Nat)} {B : Bd} {s : Str × Key} : (stepFx P lim jobs B s).2.2.taken = B.taken := by
  unfold stepFx
  split
  · rfl
  · split
    · rfl
    · split
      · exact Bd.carry_taken
      · rfl
theorem StepIs.carry {P : Pl} {s : Str × Key} (h : StepIs P s) (h1 : s.1 ≠ "run") (h2 : s.1 ≠ "bar") (h3 : s.1 ≠ "later") (h4 : s.1 ≠ "await") : CarryIs P s := by
  cases h with
  | run i _ _ => exact absurd rfl h1
  | bar i _ _ => exact absurd rfl h2
  | later z _ => exact absurd rfl h3
  | flag w i hm h0 h7 =>
    refine .inr ⟨?_, i, rfl, h0, h7⟩
    simp only [List.mem_cons, List.not_mem_nil, or_false] at hm ⊢
    rcases hm with rfl | rfl | rfl
    · exact .inl rfl
    · exact .inr rfl
    · exact absurd rfl h4
  | line w z hm hz _ => exact .inl ⟨hm, z, rfl, hz⟩
theorem StepIs.later_in {P : Pl} {s : Str × Key} (h : StepIs P s) (e : s.1 = "later") : ∃ z, s.2 = .inr z ∧ z ∈ P.wnames := by
  cases h with
  | later z hz => exact ⟨z, rfl, hz⟩
  | run i _ _ => exact absurd (show ("run" : Str) = "later" from e) (by decide)
  | bar i _ _ => exact absurd (show ("bar" : Str) = "later" from e) (by decide)
  | flag w i hw _ _ => simp only at e; subst e; exact absurd hw (by decide)
  | line w z hw _ _ => simp only at e; subst e; exact absurd hw (by decide)
theorem stepFx_ok {P : Pl} {lim : Int} {jobs : List (Str × Nat)} {B : Bd} {s : Str × Key} (hs : StepIs P s) (hr : s.1 ≠ "run") (bok : B.Ok P) (jok : JOk P jobs) : (stepFx P lim jobs B s).2.2.Ok P ∧ JOk P (stepFx P lim jobs B s).2.1 := by
  unfold stepFx
  split
  · exact ⟨bok, jok⟩
  · rename_i h2
    split
    · rename_i h3
      obtain ⟨z, e, hz⟩ := hs.later_in h3
      rw [e]
      exact ⟨bok, jok.leave hz⟩
    · rename_i h3
      split
      · rename_i h4
        exact ⟨bok.carry (hs.carry hr h2 h3 h4), jok⟩
      · exact ⟨bok, jok⟩
theorem stops_no {B : Bd} {s : Str × Key} (h : stops B s = false) : s.1 ≠ "run" := by
  unfold stops at h
  simp only [Bool.or_eq_false_iff, decide_eq_false_iff_not] at h
  exact h.1
theorem stops_yes {B : Bd} {s : Str × Key} (h : stops B s = true) : s.1 = "run" ∨ s.1 = "await" := by
  unfold stops at h
  simp only [Bool.or_eq_true, Bool.and_eq_true, decide_eq_true_eq] at h
  exact h.imp id (·.1)
structure PassOk (P : Pl) (r : Cr × Bd × List Ev) : Prop where
  bok : r.2.1.Ok P
  jok : JOk P r.1.jobs
  fok : FOk P r.1.frames r.2.1
theorem FOk.taken {P : Pl} {fs : List Frm} {B B' : Bd} (h : FOk P fs B) (e : B'.taken = B.taken) : FOk P fs B' := ⟨h.nm, fun f hf => by rw [e]; exact h.tk f hf, h.nd, h.st⟩
theorem FOk.snoc {P : Pl} {fs : List Frm} {f : Frm} {B : Bd} (h : FOk P fs B) (h1 : f.ln ∈ P.names) (h2 : f.ln ∈ B.taken) (h3 : f.ln ∉ fs.map (·.ln)) (h4 : Stands P f) : FOk P (fs ++ [f]) B := by
  refine ⟨fun g hg => ?_, fun g hg => ?_, ?_, fun g hg => ?_⟩
  · rcases List.mem_append.mp hg with hg | hg
    · exact h.nm g hg
    · rw [List.mem_singleton.mp hg]; exact h1
  · rcases List.mem_append.mp hg with hg | hg
    · exact h.tk g hg
    · rw [List.mem_singleton.mp hg]; exact h2
  · rw [List.map_append, List.nodup_append]
    refine ⟨h.nd, by simp, fun a ha b hb e => ?_⟩
    rw [List.map_singleton, List.mem_singleton] at hb
    subst hb
    subst e
    exact h3 ha
  · rcases List.mem_append.mp hg with hg | hg
    · exact h.st g hg
    · rw [List.mem_singleton.mp hg]; exact h4
theorem FOk.init {P : Pl} {fs : List Frm} {f : Frm} {B : Bd} (h : FOk P (fs ++ [f]) B) : FOk P fs B ∧ f.ln ∈ P.names ∧ f.ln ∈ B.taken ∧ f.ln ∉ fs.map (·.ln) ∧ Stands P f := by
  have hn := h.nd
  rw [List.map_append, List.nodup_append] at hn
  refine ⟨⟨fun g hg => h.nm g (List.mem_append_left _ hg), fun g hg => h.tk g (List.mem_append_left _ hg), hn.1, fun g hg => h.st g (List.mem_append_left _ hg)⟩, h.nm f (by simp), h.tk f (by simp), fun hm => ?_, h.st f (by simp)⟩
  exact hn.2.2 _ hm f.ln (by simp) rfl
theorem passL_ok {P : Pl} (ok : P.Ok) {fs : List Frm} {rest : List (Str × Key)} : ∀ {f : Frm} {lim : Int} {jobs : List (Str × Nat)} {B : Bd}, B.Ok P → JOk P jobs → FOk P fs B → f.ln ∈ P.names → f.ln ∈ B.taken → f.ln ∉ fs.map (·.ln) →
    rest = (P.ln f.ln).st.drop f.st → PassOk P (passL P fs f lim jobs B rest) := by
  induction rest with
  | nil =>
    intro f lim jobs B bok jok fok h1 h2 h3 _
    refine ⟨bok.ended _, jok, fok.nm, fun g hg => ?_, fok.nd, fok.st⟩
    show g.ln ∈ B.taken.erase f.ln
    refine (List.mem_erase_of_ne fun e => h3 ?_).mpr (fok.tk g hg)
    rw [← e]
    exact List.mem_map_of_mem hg
  | cons s r ih =>
    intro f lim jobs B bok jok fok h1 h2 h3 hr
    have hg : (P.ln f.ln).st[f.st]? = some s := by
      rw [← List.head?_drop, ← hr]
      rfl
    unfold passL
    cases e : stops B s with
    | true =>
      rw [if_pos rfl]
      exact ⟨bok, jok, fok.snoc h1 h2 h3 ⟨s, hg, stops_yes e⟩⟩
    | false =>
      rw [if_neg (by simp)]
      obtain ⟨b2, j2⟩ := stepFx_ok (lim := lim) (ok.step (ok.ln_mem h1).1 (List.mem_of_getElem? hg)) (stops_no e) bok jok
      refine ih b2 j2 (fok.taken stepFx_taken) h1 (by rw [stepFx_taken]; exact h2) h3 ?_
      show r = (P.ln f.ln).st.drop (f.st + 1)
      rw [← List.tail_drop, ← hr]
      rfl
theorem pass_ok {P : Pl} (ok : P.Ok) {fs : List Frm} {f : Frm} {lim : Int} {jobs : List (Str × Nat)} {B : Bd} (h : B.Ok P) (j : JOk P jobs) (k : FOk P fs B) (h1 : f.ln ∈ P.names) (h2 : f.ln ∈ B.taken) (h3 : f.ln ∉ fs.map (·.ln)) : PassOk P (pass P fs f lim jobs B) := passL_ok ok h j k h1 h2 h3 rfl
def left1 (P : Pl) (f : Frm) : Nat := (P.ln f.ln).st.length - f.st + 1
def left (P : Pl) (fs : List Frm) : Nat := (fs.map (left1 P)).sum
def passing (P : Pl) (B : Bd) (f : Frm) : Bool := match (P.ln f.ln).st[f.st]? with
  | some s => decide (s.1 = ("await" : Str)) && decide (kI s.2 ∈ B.raised)
  | none => false
theorem left_snoc {P : Pl} {fs : List Frm} {f : Frm} : left P (fs ++ [f]) = left P fs + left1 P f := by
  unfold left
  rw [List.map_append, List.sum_append]
  simp
structure Rm (P : Pl) (C : Cr) (B : Bd) : Prop where
  r : B.rung.length + left P C.frames ≤ 4000000
  j : C.jobs.length + left P C.frames ≤ 30000
theorem Bd.ring_rung {P : Pl} {B : Bd} {z : Str} : (B.ring P z).1.rung.length ≤ B.rung.length + 1 := by
  unfold Bd.ring Bd.tell
  split
  · split
    · show (B.rung ++ [_]).length ≤ _
      rw [List.length_append, List.length_singleton]
      exact Nat.le_refl _
    · show (B.rung ++ [_]).length ≤ _
      rw [List.length_append, List.length_singleton]
      exact Nat.le_refl _
  · split
    · exact Nat.le_succ _
    · exact Nat.le_succ _
theorem Bd.carry_rung {P : Pl} {B : Bd} {s : Str × Key} : (B.carry P s).1.rung.length ≤ B.rung.length + 1 := by
  unfold Bd.carry
  repeat (first | exact Bd.ring_rung | exact Nat.le_succ _ | split)
theorem leave_len {jobs : List (Str × Nat)} {z : Str} : (leave jobs z).length ≤ jobs.length + 1 := by
  unfold leave
  split
  · exact Nat.le_succ _
  · rw [List.length_append, List.length_singleton]
    exact Nat.le_refl _
theorem Rm.next {P : Pl} {C : Cr} {B : Bd} {fs : List Frm} {f : Frm} (h : Rm P C B) (e : C.frames = fs ++ [f]) : Rm P { C with frames := fs ++ [{ f with tk := 0, st := f.st + 1 }] } B := by
  obtain ⟨h1, h2⟩ := h
  rw [e, left_snoc] at h1 h2
  have k : left1 P { f with tk := 0, st := f.st + 1 } ≤ left1 P f := by
    show (P.ln f.ln).st.length - (f.st + 1) + 1 ≤ (P.ln f.ln).st.length - f.st + 1
    omega
  refine ⟨?_, ?_⟩
  · show B.rung.length + left P (fs ++ [_]) ≤ _
    rw [left_snoc]
    omega
  · show C.jobs.length + left P (fs ++ [_]) ≤ _
    rw [left_snoc]
    omega
end Z
set_option maxHeartbeats 1000000
namespace Z
open PySem PySem.Spec PyProof.Rows L2
open He (ga ma)
section
variable {K : Fg} {H H' : Hp} {a p : Addr} {o : HO} {xs : List V} {v : V} {d : PyData} {ds : List PyData}
theorem at_same (s : Same H H') (h : H a = some o) : H' a = some o := s a o h
theorem sqT_same (s : Same H H') (h : SqT K H a xs) : SqT K H' a xs := s.sqT h
theorem sqL_same (s : Same H H') (h : SqL K H a xs) : SqL K H' a xs := s.seq h
theorem dp_same (s : Same H H') (h : Dp K H v d) : Dp K H' v d := h.same s
theorem dpA_same (s : Same H H') (h : DpAll K H xs ds) : DpAll K H' xs ds := h.same s
theorem pl_same {D : PA} {P : Pl} (s : Same H H') (h : PlanAt K H D P) : PlanAt K H' D P := h.same s
theorem bd_same {D : BA} {B : Bd} (s : Same H H') (h : BoardAt K H p D B) : BoardAt K H' p D B := h.same s
theorem co_same {D : CA} {C : Cr} (s : Same H H') (h : CoreAt K H p D C) : CoreAt K H' p D C := h.same s
theorem cst_same {PD : PA} {P : Pl} {D : CA} {C : Cr} {E : BA} {B : Bd} (s : Same H H') (h : CSt K H PD P D C E B) : CSt K H' PD P D C E B := h.same s
theorem ev_same {l : Addr} {es : List Ev} (s : Same H H') (h : EvAt K H l es) : EvAt K H' l es := h.keep (A := []) s.fr (by simp)
end
theorem at0 {a : V} {r : List V} : atI (a :: r) 0 = some a := at_of (j := 0) rfl rfl
theorem at1 {a b : V} {r : List V} : atI (a :: b :: r) 1 = some b := at_of (j := 1) rfl rfl
theorem at2 {a b c : V} {r : List V} : atI (a :: b :: c :: r) 2 = some c := at_of (j := 2) rfl rfl
theorem at3 {a b c d : V} {r : List V} : atI (a :: b :: c :: d :: r) 3 = some d := at_of (j := 3) rfl rfl
theorem at4 {a b c d e : V} {r : List V} : atI (a :: b :: c :: d :: e :: r) 4 = some e := at_of (j := 4) rfl rfl
end Z
set_option maxHeartbeats 1000000
namespace Z
open PySem PySem.Spec PyProof.Rows L2
open He (ga ma)
def jobD (P : Pl) (x : (Str × Nat) × Nat) : PyData := .tuple [.int (0 - (P.wk x.1.1).rk), .int (x.2 : Int)]
def places (P : Pl) (jobs : List (Str × Nat)) : List Nat := (jobs.zipIdx.mergeSort (PySem.W.dataLe false (jobD P))).map (·.2)
theorem places_perm (P : Pl) (jobs : List (Str × Nat)) : (places P jobs).Perm (List.range jobs.length) := by
  unfold places
  refine ((List.mergeSort_perm _ _).map _).trans ?_
  rw [List.zipIdx_map_snd, List.range_eq_range']
theorem places_lt {P : Pl} {jobs : List (Str × Nat)} {k : Nat} (h : k ∈ places P jobs) : k < jobs.length := List.mem_range.mp ((places_perm P jobs).mem_iff.mp h)
structure COk (P : Pl) (C : Cr) (B : Bd) : Prop where
  bok : B.Ok P
  jok : JOk P C.jobs
  fok : FOk P C.frames B
theorem PassOk.cok {P : Pl} {r : Cr × Bd × List Ev} (h : PassOk P r) : COk P r.1 r.2.1 := ⟨h.bok, h.jok, h.fok⟩
theorem FOk.inj {P : Pl} {fs : List Frm} {f g : Frm} {B : Bd} (h : FOk P (fs ++ [f]) B) (e : g.ln = f.ln) (hs : Stands P g) : FOk P (fs ++ [g]) B := by
  obtain ⟨h1, h2, h3, h4, h5⟩ := h.init
  exact h1.snoc (by rw [e]; exact h2) (by rw [e]; exact h3) (by rw [e]; exact h4) hs
theorem left_le {P : Pl} (ok : P.Ok) {fs : List Frm} (h : ∀ f ∈ fs, f.ln ∈ P.names) : left P fs ≤ 9 * fs.length := by
  unfold left
  induction fs with
  | nil => exact Nat.le_refl _
  | cons f fs ih =>
    have h1 := ok.steps8 (ok.ln_mem (h f (by simp))).1
    have h2 := ih fun g hg => h g (List.mem_cons_of_mem _ hg)
    rw [List.map_cons, List.sum_cons, List.length_cons]
    have : left1 P f ≤ 9 := by unfold left1; omega
    omega
section
variable {K : Fg} {σ : L2.St} {H H1 : Hp} {Q : VK} {g : TG} {tt : TT} {te : TE} {vs : List Nat} {a : Addr} {xs : List V} {α : Type} {l : List α} {da : α → PyData}
def LcE (K : Fg) (g : TG) (tt : TT) (te : TE) (vs : List Nat) (σ : L2.St) (Q : VK) (us : List V) (H1 : Hp) : Prop := ∃ a xs, us = [.ref a] ∧ SqL K H1 a xs ∧ LcQ (Ite K a) g tt te vs σ Q H1
theorem s_lcE {ta : TA} (q : ta σ H fun us H1 => LcE K g tt te vs σ Q us H1) : tLc (iEnum K ta) g tt te vs σ H Q := q
end
section
variable {K : Fg} {σ : L2.St} {H : Hp} {Q : VK} {a : Addr} {xs : List V}
theorem s_sl {r : V → Option Int → Option Int → Hp → VK → Prop} {te : TE} {tl th : TO} (q : te σ H fun x H1 => tl σ H1 fun l H2 => th σ H2 fun u H3 => r x l u H3 Q) : L2.tSl r te tl th σ H Q := q
theorem s_nop {R : Option Int → Hp → Prop} (q : R none H) : tNoPart σ H R := q
theorem s_part {R : Option Int → Hp → Prop} {t : TE} (q : t σ H fun x H1 => ∃ i, x = .int i ∧ R (some i) H1) : tPart t σ H R := q
theorem s_slL {lo hi : Option Int} (h : SqL K H a xs) (q : ∀ p, H p = none → Q (.ref p) (upd H p (.lst (cutV xs lo hi)))) : rSlL K (.ref a) lo hi H Q := ⟨a, xs, rfl, h, q⟩
theorem cut_take (xs : List V) (k : Nat) : cutV xs none (some (k : Int)) = xs.take k := by
  unfold cutV
  rw [HT.sIx_none, HT.sIx_nat, List.drop_zero, Nat.sub_zero]
  by_cases h : k ≤ xs.length
  · rw [Nat.min_eq_left h]
  · rw [Nat.min_eq_right (by omega), List.take_of_length_le (by omega), List.take_of_length_le (by omega)]
theorem cut_drop (xs : List V) (k : Nat) : cutV xs (some (k : Int)) none = xs.drop k := by
  unfold cutV
  rw [HT.sIx_none, HT.sIx_nat]
  by_cases h : k ≤ xs.length
  · rw [Nat.min_eq_left h, List.take_of_length_le (by rw [List.length_drop]; omega)]
  · rw [Nat.min_eq_right (by omega), List.drop_of_length_le (by omega), List.drop_of_length_le (by omega), List.take_nil]
end
end Z
set_option maxHeartbeats 1000000
namespace Z
open PySem PySem.Spec PyProof.Rows L2
open He (ga ma)
theorem EvAt.ne {K : Fg} {H : Hp} {l : Addr} {es : List Ev} (h : EvAt K H l es) : H l ≠ none := by
  obtain ⟨xs, e, _⟩ := h
  rw [e]
  simp
theorem EvAt.len {K : Fg} {H : Hp} {l : Addr} {es : List Ev} (h : EvAt K H l es) : ∃ xs, H l = some (.lst xs) ∧ xs.length = es.length ∧ DpAll K H xs (es.map dEv) := by
  obtain ⟨xs, e, d⟩ := h
  exact ⟨xs, e, by rw [d.len, List.length_map], d⟩
theorem COk.len {P : Pl} (ok : P.Ok) {C : Cr} {B : Bd} (h : COk P C B) : left P C.frames ≤ 108 := by
  have h1 := left_le ok h.fok.nm
  have h2 := h.fok.len ok
  omega
end Z
set_option maxHeartbeats 1000000
namespace Z
open PySem PySem.Spec PyProof.Rows L2
open He (ga ma)
structure Sg where
  B : Bd
  C : Cr
  time : Int
  sums : List (Str × Int)
def sumKeys : List Str := ["call", "spun", "work", "idle"]
def Sg.ring (P : Pl) (G : Sg) (z : Str) : Sg := { G with B := (G.B.ring P z).1 }
structure SA where
  s : Addr
  su : Addr
  PD : PA
  D : CA
  E : BA
def SA.own (A : SA) : List Addr := A.s :: A.su :: (A.D.own ++ A.E.own)
def singF (A : SA) (time : Int) : List (Str × V) := [("plan", .ref A.PD.p), ("board", .ref A.E.b), ("core", .ref A.D.c), ("time", .int time), ("sums", .ref A.su)]
theorem sgF_plan {A : SA} {t : Int} : (singF A t).lookup ("plan" : Str) = some (.ref A.PD.p) := by kernel_rfl
theorem sgF_board {A : SA} {t : Int} : (singF A t).lookup ("board" : Str) = some (.ref A.E.b) := by kernel_rfl
theorem sgF_core {A : SA} {t : Int} : (singF A t).lookup ("core" : Str) = some (.ref A.D.c) := by kernel_rfl
theorem sgF_time {A : SA} {t : Int} : (singF A t).lookup ("time" : Str) = some (.int t) := by kernel_rfl
theorem sgF_sums {A : SA} {t : Int} : (singF A t).lookup ("sums" : Str) = some (.ref A.su) := by kernel_rfl
structure SgAt (K : Fg) (H : Hp) (A : SA) (P : Pl) (G : Sg) : Prop where
  cst : CSt K H A.PD P A.D G.C A.E G.B
  fok : FOk P G.C.frames G.B
  ins : ∃ dx, H A.s = some (.ins (ga K "Single") dx (singF A G.time))
  su : H A.su = some (.dK (joinK G.sums))
  sk : G.sums.map (·.1) = sumKeys
  ssu : A.s ≠ A.su
  sn : A.s ∉ A.PD.own ∧ A.s ∉ A.D.own ∧ A.s ∉ A.E.own
  sun : A.su ∉ A.PD.own ∧ A.su ∉ A.D.own ∧ A.su ∉ A.E.own
structure ChS (H : Hp) (A : SA) (H' : Hp) (A' : SA) : Prop where
  fr : Fr A.own H H'
  s : A'.s = A.s
  su : A'.su = A.su
  PD : A'.PD = A.PD
  E : A'.E = A.E
  c : A'.D.c = A.D.c
  own : ∀ a ∈ A'.own, a ∈ A.own ∨ H a = none
theorem ChS.refl {H : Hp} {A : SA} : ChS H A H A := ⟨Fr.refl, rfl, rfl, rfl, rfl, rfl, fun _ h => .inl h⟩
theorem ChS.same {H H' : Hp} {A : SA} (s : Same H H') : ChS H A H' A := ⟨s.fr, rfl, rfl, rfl, rfl, rfl, fun _ h => .inl h⟩
theorem Fr.seq {M N : List Addr} {H H1 H2 : Hp} (x : Fr M H H1) (y : Fr N H1 H2) (h : ∀ a ∈ N, a ∈ M ∨ H a = none) : Fr M H H2 := by
  refine ⟨fun a o e n => y.1 a o (x.1 a o e n) ?_, fun a e => x.back (y.back e)⟩
  rcases n with n | n
  · refine .inl fun z => ?_
    rcases h a z with z | z
    · exact n z
    · rw [e] at z
      cases z
  · exact .inr n
theorem ChS.trans {H H1 H2 : Hp} {A A1 A2 : SA} (x : ChS H A H1 A1) (y : ChS H1 A1 H2 A2) : ChS H A H2 A2 := by
  refine ⟨x.fr.seq y.fr x.own, y.s.trans x.s, y.su.trans x.su, y.PD.trans x.PD, y.E.trans x.E, y.c.trans x.c, fun a ha => ?_⟩
  rcases y.own a ha with h | h
  · exact x.own a h
  · exact .inr (x.fr.back h)
section
variable {K : Fg} {H H' : Hp} {A : SA} {P : Pl} {G : Sg}
theorem SgAt.keep (h : SgAt K H A P G) {N : List Addr} (f : Fr N H H') (n : ∀ a ∈ A.own, a ∉ N) (n2 : ∀ a ∈ A.PD.own, a ∉ N) : SgAt K H' A P G := by
  obtain ⟨dx, e⟩ := h.ins
  have hD : ∀ a ∈ A.D.own, a ∉ N := fun a ha => n a (by simp [SA.own, ha])
  have hE : ∀ a ∈ A.E.own, a ∉ N := fun a ha => n a (by simp [SA.own, ha])
  exact ⟨⟨h.cst.pl.keep f n2, h.cst.co.keep f hD, h.cst.bd.keep f hE, h.cst.pd, h.cst.de, h.cst.bok, h.cst.jok⟩, h.fok, ⟨dx, f.at e (n _ (by simp [SA.own]))⟩, f.at h.su (n _ (by simp [SA.own])), h.sk, h.ssu, h.sn, h.sun⟩
theorem SgAt.same (h : SgAt K H A P G) (s : Same H H') : SgAt K H' A P G := h.keep (N := []) s.fr (by simp) (by simp)
theorem SgAt.ex (h : SgAt K H A P G) : ∀ a ∈ A.own, H a ≠ none := by
  obtain ⟨dx, e⟩ := h.ins
  intro a ha
  simp only [SA.own, List.mem_cons, List.mem_append] at ha
  rcases ha with rfl | rfl | ha | ha
  · simp [e]
  · simp [h.su]
  · exact h.cst.co.ex a ha
  · exact h.cst.bd.ex a ha
theorem sg_same (s : Same H H') (h : SgAt K H A P G) : SgAt K H' A P G := h.same s
end
theorem s_make {C : Addr} {sp : Sp} {dvs : List V} {E : XK} {t : TA} {σ : L2.St} {H : Hp} {Q : VK} (q : t σ H fun vs H1 => ∀ x dx, H1 x = none → H1 dx = none → dx ≠ x →
  sp (.ref x :: (vs ++ dvs)) (upd (upd H1 dx (.own x)) x (.ins C dx [])) (fun v H2 => v = .non ∧ Q (.ref x) H2) E) : tMake C sp dvs E t σ H Q := q
theorem mkS {H H2 : Hp} {x dx : Addr} {o u : HO} (hx : H x = none) (hd : H dx = none) (e : upd (upd H dx o) x u = H2) : Same H H2 := by
  subst e
  intro a v h
  rw [upd_ne (ne_of_none h hx), upd_ne (ne_of_none h hd)]
  exact h
theorem mkE {H H2 : Hp} {x dx : Addr} {o u : HO} (e : upd (upd H dx o) x u = H2) : H2 x = some u := by
  subst e
  exact upd_same
end Z
set_option maxHeartbeats 1000000
namespace Z
open PySem PySem.Spec PyProof.Rows L2
theorem dpall_set {K : Fg} {H : Hp} {v : V} {d : PyData} (hv : Dp K H v d) : ∀ {vs : List V} {ds : List PyData} {j : Nat}, DpAll K H vs ds → DpAll K H (vs.set j v) (ds.set j d)
  | _, _, _, .nil => .nil
  | _, _, 0, .cons _ t => .cons hv t
  | _, _, _ + 1, .cons h t => .cons h (dpall_set hv t)
end Z
set_option maxHeartbeats 1000000
namespace Z
open PySem PySem.Spec PyProof.Rows L2
def setK (l : List (Str × Int)) (z : Str) (n : Int) : List (Str × Int) := if z ∈ l.map (·.1) then l.map (fun x => if x.1 = z then (z, n) else x) else l ++ [(z, n)]
theorem setK_new {l : List (Str × Int)} {z : Str} {n : Int} (h : z ∉ l.map (·.1)) : setK l z n = l ++ [(z, n)] := if_neg h
theorem getK_none {l : List (Str × Int)} {z : Str} : getK l z = none ↔ z ∉ l.map (·.1) := by
  unfold getK
  rw [Option.map_eq_none_iff, List.find?_eq_none]
  constructor
  · intro h hm
    obtain ⟨x, hx, rfl⟩ := List.mem_map.mp hm
    exact h x hx (by simp)
  · intro h x hx e
    have e : x.1 = z := by simpa using e
    exact h (by rw [← e]; exact List.mem_map_of_mem hx)
theorem getK_app_new {l : List (Str × Int)} {z : Str} {n : Int} (h : z ∉ l.map (·.1)) : getK (l ++ [(z, n)]) z = some n := by
  have h1 := getK_none.mpr h
  unfold getK at h1 ⊢
  have h1 := Option.map_eq_none_iff.mp h1
  rw [List.find?_append, h1]
  simp
theorem setK_keys {l : List (Str × Int)} {z : Str} {n : Int} : (setK l z n).map (·.1) = if z ∈ l.map (·.1) then l.map (·.1) else l.map (·.1) ++ [z] := by
  unfold setK
  split
  · rw [List.map_map]
    apply List.map_congr_left
    intro x _
    show (if x.1 = z then (z, n) else x).1 = x.1
    split
    · rename_i e
      exact e.symm
    · rfl
  · rw [List.map_append]
    rfl
theorem getK_set {l : List (Str × Int)} {z y : Str} {n : Int} : getK (setK l z n) y = if y = z then some n else getK l y := by
  by_cases h : z ∈ l.map (·.1)
  · unfold setK
    rw [if_pos h]
    induction l with
    | nil => simp at h
    | cons x l ih =>
      rw [List.map_cons]
      by_cases e : x.1 = z
      · rw [if_pos e]
        by_cases e2 : y = z
        · rw [if_pos e2]
          unfold getK
          rw [List.find?_cons_of_pos (by simp [e2])]
          rfl
        · rw [if_neg e2]
          unfold getK
          have e3 : ¬ z = y := fun q => e2 q.symm
          have e4 : ¬ x.1 = y := fun q => e2 (q.symm.trans e)
          rw [List.find?_cons_of_neg (by simpa using e3), List.find?_cons_of_neg (by simpa using e4)]
          by_cases h2 : z ∈ l.map (·.1)
          · have := ih h2
            rw [if_neg e2] at this
            exact this
          · have : l.map (fun x => if x.1 = z then (z, n) else x) = l := by
              rw [List.map_congr_left (g := id), List.map_id]
              intro a ha
              rw [if_neg]
              · rfl
              · rintro rfl
                exact h2 (List.mem_map_of_mem ha)
            rw [this]
      · rw [if_neg e]
        rw [List.map_cons, List.mem_cons] at h
        have ih := ih (h.resolve_left fun q => e q.symm)
        unfold getK at ih ⊢
        by_cases e2 : x.1 = y
        · rw [List.find?_cons_of_pos (by simpa using e2), List.find?_cons_of_pos (by simpa using e2), if_neg (fun q => e (e2.trans q))]
        · rw [List.find?_cons_of_neg (by simpa using e2), List.find?_cons_of_neg (by simpa using e2)]
          exact ih
  · rw [setK_new h]
    by_cases e : y = z
    · rw [if_pos e, e, getK_app_new h]
    · rw [if_neg e]
      unfold getK
      rw [List.find?_append]
      have e2 : ¬ z = y := fun q => e q.symm
      simp [e2]
theorem s_dputg {td ty tv : TE} {σ : L2.St} {H : Hp} {ea ec ed : L2.St → Hp → Prop} {eb : VK} (q : tv σ H fun v H1 => td σ H1 fun x H2 => ty σ H2 fun y H3 => ∃ a H4, x = .ref a ∧ DPut H3 a y v H4 ∧ ea σ H4) : sDPut td ty tv (.mk ea eb ec ed) σ H := q
end Z
set_option maxHeartbeats 1000000
namespace Z
open PySem PySem.Spec PyProof.Rows L2
open He (ga ma)
inductive HEv where
  | four (w : Str) (t : Int) (z : Str) (p : Int)
  | held (t : Int) (z : Str)
  | off (t : Int) (p : Int)
def dHe : HEv → PyData
  | .four w t z p => .tuple [.str w, .int t, .str z, .int p]
  | .held t z => .tuple [.str "held", .int t, .str z]
  | .off t p => .tuple [.str "off", .int t, .int p]
theorem tupd_he (e : HEv) : tupd (dHe e) = true := by cases e <;> rfl
structure Rt where
  ln : Str
  rule : Str
  ps : List Nat
structure Sm where
  ln : Str
  most : Int
  win : Int
  hold : Int
structure HPl where
  n : Nat
  rts : List Rt
  sms : List Sm
def dPs (ps : List Nat) : PyData := .tuple (ps.map fun p => .int (p : Nat))
def dRt (r : Rt) : PyData := .tuple [.str r.ln, .str r.rule, dPs r.ps]
def dRw (r : Rt) : PyData := .tuple [.str r.rule, dPs r.ps]
def dSm (s : Sm) : PyData := .tuple [.str s.ln, .int s.most, .int s.win, .int s.hold]
def dSw (s : Sm) : PyData := .tuple [.int s.most, .int s.win, .int s.hold]
theorem tupds_ints {α : Type} (f : α → Int) : ∀ l : List α, tupds (l.map fun p => PyData.int (f p)) = true
  | [] => rfl
  | x :: l => by
    show (true && tupds (l.map fun p => PyData.int (f p))) = true
    rw [tupds_ints f l]
    rfl
theorem tupd_rw (r : Rt) : tupd (dRw r) = true := by
  show (true && (tupds (r.ps.map fun p => PyData.int ((p : Nat) : Int)) && true)) = true
  rw [tupds_ints]
  rfl
theorem tupd_rt (r : Rt) : tupd (dRt r) = true := by
  show (true && (true && (tupds (r.ps.map fun p => PyData.int ((p : Nat) : Int)) && true))) = true
  rw [tupds_ints]
  rfl
theorem tupd_sm (s : Sm) : tupd (dSm s) = true := rfl
theorem tupd_sw (s : Sm) : tupd (dSw s) = true := rfl
def ruleL : List Str := ["first", "least", "turn"]
structure HPl.Ok (P : Pl) (T : HPl) : Prop where
  n1 : 1 ≤ T.n
  n6 : T.n ≤ 6
  rn : (T.rts.map (·.ln)).Nodup
  rl : ∀ r ∈ T.rts, r.ln ∈ P.names
  rr : ∀ r ∈ T.rts, r.rule ∈ ruleL
  r0 : ∀ r ∈ T.rts, r.ps ≠ []
  rd : ∀ r ∈ T.rts, r.ps.Nodup
  rp : ∀ r ∈ T.rts, ∀ p ∈ r.ps, p < T.n
  sn : (T.sms.map (·.ln)).Nodup
  sl : ∀ s ∈ T.sms, s.ln ∈ P.names
  sb : ∀ s ∈ T.sms, 1 ≤ s.most ∧ s.most ≤ 99 ∧ 1 ≤ s.win ∧ s.win ≤ 99 ∧ 1 ≤ s.hold ∧ s.hold ≤ 99
def HPl.way (T : HPl) (z : Str) : Str × List Nat := match T.rts.find? fun r => r.ln == z with
  | some r => (r.rule, r.ps)
  | none => ("first", List.range T.n)
structure Hs where
  B : Bd
  cs : List Cr
  md : List Str
  turns : List (Str × Int)
  rcs : List (Str × List Int)
  holds : List (Str × Int)
  bs : List (Str × Int)
  ds : List (Str × Int)
  ev : List HEv
def Hs.note (X : Hs) (w z : Str) (p : Nat) : Hs := { X with ev := X.ev ++ [.four w X.B.time z p] }
def Hs.noteE (X : Hs) (p : Nat) (e : Ev) : Hs := if e.1 = "done" then { X.note e.1 e.2 p with ds := bump X.ds e.2 } else X.note e.1 e.2 p
def Hs.noteAll (X : Hs) (p : Nat) (es : List Ev) : Hs := es.foldl (fun X e => X.noteE p e) X
def Hs.on (X : Hs) (p : Nat) : Bool := decide (X.md[p]? = some ("on" : Str))
def Hs.core (X : Hs) (p : Nat) : Cr := (X.cs[p]?).getD ⟨[], 0, []⟩
def Hs.load (X : Hs) (p : Nat) : Nat := (X.core p).frames.length + (X.B.spots.filter fun x => decide (x.2 = (p : Int))).length
def Hs.readyK (X : Hs) (ps : List Nat) : List Nat := (ps.zipIdx.filter fun x => X.on x.1).map (·.2)
def minK (f : Nat → Int) (k : Nat) (r : List Nat) : Nat := r.foldl (fun b x => if f x < f b then x else b) k
def Hs.pick (T : HPl) (X : Hs) (z : Str) : Option Nat := match X.readyK (T.way z).2 with
  | [] => none
  | k :: r => some (if (T.way z).1 = "least" then minK (fun j => (X.load ((T.way z).2.getD j 0) : Nat)) k r
    else if (T.way z).1 = "first" then k
    else minK (fun j => ((j : Int) - (getK X.turns z).getD 0) % ((T.way z).2.length : Nat)) k r)
def Hs.turned (T : HPl) (X : Hs) (z : Str) (k : Nat) : Hs := if (T.way z).1 = "least" then X else if (T.way z).1 = "first" then X else { X with turns := setK X.turns z (((k : Int) + 1) % ((T.way z).2.length : Nat)) }
def Hs.putLine (X : Hs) (z : Str) (p : Nat) : Hs := { X with B := { X.B with spots := setK X.B.spots z p } }.note "place" z p
def Hs.free (X : Hs) (z : Str) : Bool := !decide (z ∈ X.B.spots.map (·.1)) && decide ((getK X.holds z).getD (-1) < X.B.time)
def Hs.place1 (T : HPl) (X : Hs) (z : Str) : Hs := if (X.free z && X.B.can z) = true then (match X.pick T z with
  | none => X
  | some k => (X.turned T z k).putLine z ((T.way z).2.getD k 0)) else X
def Hs.place (P : Pl) (T : HPl) (X : Hs) : Hs := P.order.foldl (fun X z => X.place1 T z) X
def getR (l : List (Str × List Int)) (z : Str) : Option (List Int) := (l.find? fun x => decide (x.1 = z)).map (·.2)
def setR (l : List (Str × List Int)) (z : Str) (n : List Int) : List (Str × List Int) := if z ∈ l.map (·.1) then l.map (fun x => if x.1 = z then (z, n) else x) else l ++ [(z, n)]
def Sm.ticks (s : Sm) (X : Hs) : List Int := ((getR X.rcs s.ln).getD []).filter (fun t => decide (t > X.B.time - s.win)) ++ [X.B.time]
def Hs.count (T : HPl) (X : Hs) (z : Str) : Hs := match T.sms.find? fun s => s.ln == z with
  | none => X
  | some s => if ((s.ticks X).length : Int) > s.most then { X with rcs := setR X.rcs z (s.ticks X), holds := setK X.holds z (X.B.time + s.hold), ev := X.ev ++ [.held X.B.time z] } else { X with rcs := setR X.rcs z (s.ticks X) }
def Hs.readyL (P : Pl) (X : Hs) (p : Nat) : List Str := P.order.filter fun z => decide (getK X.B.spots z = some (p : Int)) && X.B.can z
def Hs.begin (P : Pl) (T : HPl) (X : Hs) (p : Nat) (z : Str) : Hs := { (({ X.note "begin" z p with bs := bump X.bs z }).count T z) with B := { X.B with here := some (p : Int) } }
def Hs.beginR (P : Pl) (X : Hs) (p : Nat) (z : Str) : Cr × Bd × List Ev := pass P (X.core p).frames ⟨z, 0, 0, (X.core p).limit⟩ (X.core p).limit (X.core p).jobs (X.B.begun z)
def Hs.goes (X : Hs) (p : Nat) (r : Cr × Bd × List Ev) : Hs := { X with cs := X.cs.set p r.1, B := r.2.1 }.noteAll p r.2.2
def Hs.take (P : Pl) (T : HPl) (X : Hs) (p : Nat) : Hs := match X.readyL P p with
  | [] => X
  | z :: _ => if (X.core p).may P z = true then (X.begin P T p z).goes p ((X.begin P T p z).beginR P p z) else X
def Hs.goal (X : Hs) (p : Nat) : Nat := match (List.range X.md.length).filter X.on with
  | [] => 0
  | k :: r => minK (fun j => ((X.core j).jobs.length : Nat)) k r
def Hs.move1 (X : Hs) (g : Nat) (j : Str × Nat) : Hs := { X with cs := X.cs.set g { X.core g with jobs := if j.2 > 0 then (X.core g).jobs ++ [j] else leave (X.core g).jobs j.1 } }.note "moved" j.1 g
def Hs.leaves (X : Hs) (p : Nat) : Hs := { X with md := X.md.set p "off", ev := X.ev ++ [.off X.B.time p] }
def Hs.off (P : Pl) (X : Hs) (p : Nat) : Hs := { ((places P (X.core p).jobs).foldl (fun Y k => match (X.core p).jobs[k]? with
  | some j => Y.move1 ((X.leaves p).goal p) j
  | none => Y) (X.leaves p)) with cs := (((places P (X.core p).jobs).foldl (fun Y k => match (X.core p).jobs[k]? with
  | some j => Y.move1 ((X.leaves p).goal p) j
  | none => Y) (X.leaves p)).cs.set p { X.core p with jobs := [] }) }
def Hs.next (X : Hs) : Hs := { X with B := { X.B with time := X.B.time + 1 } }
structure HA where
  h : Addr
  wy : Addr
  li : Addr
  co : Addr
  mo : Addr
  tu : Addr
  rc : Addr
  ho : Addr
  bs : Addr
  ds : Addr
  ev : Addr
  rr : Addr
  sr : Addr
  E : BA
  Ds : List CA
  rl : List Addr
def HA.cells (A : HA) : List Addr := [A.h, A.wy, A.li, A.co, A.mo, A.tu, A.rc, A.ho, A.bs, A.ds, A.ev]
def HA.own (A : HA) : List Addr := A.cells ++ (A.rl ++ (A.E.own ++ A.Ds.flatMap CA.own))
def houseF (p : Addr) (A : HA) (n : Nat) : List (Str × V) := [("plan", .ref p), ("size", .int (n : Nat)), ("route_rows", .ref A.rr), ("storm_rows", .ref A.sr), ("ways", .ref A.wy), ("limits", .ref A.li), ("board", .ref A.E.b), ("cores", .ref A.co), ("modes", .ref A.mo),
  ("turns", .ref A.tu), ("recents", .ref A.rc), ("holds", .ref A.ho), ("begun_sums", .ref A.bs), ("done_sums", .ref A.ds), ("events", .ref A.ev)]
theorem hsF_plan {p : Addr} {A : HA} {n : Nat} : (houseF p A n).lookup ("plan" : Str) = some (.ref p) := by kernel_rfl
theorem hsF_size {p : Addr} {A : HA} {n : Nat} : (houseF p A n).lookup ("size" : Str) = some (.int (n : Nat)) := by kernel_rfl
theorem hsF_rr {p : Addr} {A : HA} {n : Nat} : (houseF p A n).lookup ("route_rows" : Str) = some (.ref A.rr) := by kernel_rfl
theorem hsF_sr {p : Addr} {A : HA} {n : Nat} : (houseF p A n).lookup ("storm_rows" : Str) = some (.ref A.sr) := by kernel_rfl
theorem hsF_wy {p : Addr} {A : HA} {n : Nat} : (houseF p A n).lookup ("ways" : Str) = some (.ref A.wy) := by kernel_rfl
theorem hsF_li {p : Addr} {A : HA} {n : Nat} : (houseF p A n).lookup ("limits" : Str) = some (.ref A.li) := by kernel_rfl
theorem hsF_bd {p : Addr} {A : HA} {n : Nat} : (houseF p A n).lookup ("board" : Str) = some (.ref A.E.b) := by kernel_rfl
theorem hsF_co {p : Addr} {A : HA} {n : Nat} : (houseF p A n).lookup ("cores" : Str) = some (.ref A.co) := by kernel_rfl
theorem hsF_mo {p : Addr} {A : HA} {n : Nat} : (houseF p A n).lookup ("modes" : Str) = some (.ref A.mo) := by kernel_rfl
theorem hsF_tu {p : Addr} {A : HA} {n : Nat} : (houseF p A n).lookup ("turns" : Str) = some (.ref A.tu) := by kernel_rfl
theorem hsF_rc {p : Addr} {A : HA} {n : Nat} : (houseF p A n).lookup ("recents" : Str) = some (.ref A.rc) := by kernel_rfl
theorem hsF_ho {p : Addr} {A : HA} {n : Nat} : (houseF p A n).lookup ("holds" : Str) = some (.ref A.ho) := by kernel_rfl
theorem hsF_bs {p : Addr} {A : HA} {n : Nat} : (houseF p A n).lookup ("begun_sums" : Str) = some (.ref A.bs) := by kernel_rfl
theorem hsF_ds {p : Addr} {A : HA} {n : Nat} : (houseF p A n).lookup ("done_sums" : Str) = some (.ref A.ds) := by kernel_rfl
theorem hsF_ev {p : Addr} {A : HA} {n : Nat} : (houseF p A n).lookup ("events" : Str) = some (.ref A.ev) := by kernel_rfl
inductive CoresAt (K : Fg) (H : Hp) (p : Addr) : List CA → List Cr → Prop
  | nil : CoresAt K H p [] []
  | cons {D : CA} {C : Cr} {Ds : List CA} {Cs : List Cr} : CoreAt K H p D C → CoresAt K H p Ds Cs → CoresAt K H p (D :: Ds) (C :: Cs)
section
variable {K : Fg} {H H' : Hp} {p : Addr}
theorem CoresAt.len : ∀ {Ds : List CA} {Cs : List Cr}, CoresAt K H p Ds Cs → Ds.length = Cs.length
  | _, _, .nil => rfl
  | _, _, .cons _ t => by rw [List.length_cons, List.length_cons, t.len]
theorem CoresAt.get : ∀ {Ds : List CA} {Cs : List Cr} {i : Nat} {C : Cr}, CoresAt K H p Ds Cs → Cs[i]? = some C → ∃ D, Ds[i]? = some D ∧ CoreAt K H p D C
  | _, _, _, _, .nil, h => by simp at h
  | _, _, 0, _, .cons h _, e => by
    simp at e
    subst e
    exact ⟨_, rfl, h⟩
  | _, _, i + 1, _, .cons _ t, e => by
    obtain ⟨D, h1, h2⟩ := t.get (i := i) (by simpa using e)
    exact ⟨D, by simpa using h1, h2⟩
theorem CoresAt.getD : ∀ {Ds : List CA} {Cs : List Cr} {i : Nat} {D : CA}, CoresAt K H p Ds Cs → Ds[i]? = some D → ∃ C, Cs[i]? = some C ∧ CoreAt K H p D C
  | _, _, _, _, .nil, h => by simp at h
  | _, _, 0, _, .cons h _, e => by
    simp at e
    subst e
    exact ⟨_, rfl, h⟩
  | _, _, i + 1, _, .cons _ t, e => by
    obtain ⟨C, h1, h2⟩ := t.getD (i := i) (by simpa using e)
    exact ⟨C, by simpa using h1, h2⟩
theorem CoresAt.keep {N : List Addr} (f : Fr N H H') : ∀ {Ds : List CA} {Cs : List Cr}, CoresAt K H p Ds Cs → (∀ a ∈ Ds.flatMap CA.own, a ∉ N) → CoresAt K H' p Ds Cs
  | _, _, .nil, _ => .nil
  | _, _, .cons h t, n => .cons (h.keep f fun a ha => n a (by simp [ha])) (t.keep f fun a ha => n a (by rw [List.flatMap_cons]; exact List.mem_append_right _ ha))
theorem CoresAt.ex : ∀ {Ds : List CA} {Cs : List Cr}, CoresAt K H p Ds Cs → ∀ a ∈ Ds.flatMap CA.own, H a ≠ none
  | _, _, .nil, a, ha => by simp at ha
  | _, _, .cons h t, a, ha => by
    rw [List.flatMap_cons] at ha
    rcases List.mem_append.mp ha with ha | ha
    · exact h.ex a ha
    · exact t.ex a ha
theorem CoresAt.set {N : List Addr} (f : Fr N H H') : ∀ {Ds : List CA} {Cs : List Cr} {i : Nat} {D' : CA} {C' : Cr}, CoresAt K H p Ds Cs → CoreAt K H' p D' C' → (∀ j D, Ds[j]? = some D → j ≠ i → ∀ a ∈ D.own, a ∉ N) → CoresAt K H' p (Ds.set i D') (Cs.set i C')
  | _, _, _, _, _, .nil, _, _ => .nil
  | _, _, 0, _, _, .cons h t, c, n => by
    refine .cons c (t.keep f fun a ha => ?_)
    obtain ⟨D, hD, haD⟩ := List.mem_flatMap.mp ha
    obtain ⟨j, hj, ej⟩ := List.mem_iff_getElem.mp hD
    exact n (j + 1) D (by rw [List.getElem?_cons_succ, List.getElem?_eq_getElem hj, ej]) (Nat.succ_ne_zero _) a haD
  | _, _, i + 1, _, _, .cons h t, c, n => .cons (h.keep f (n 0 _ rfl (Nat.succ_ne_zero _).symm)) (t.set f c fun j D hj hne => n (j + 1) D (by simpa using hj) (by omega))
end
def recK (l : List (Str × List Int)) (as : List Addr) : List (Key × V) := (l.zip as).map fun x => ((.inr x.1.1 : Key), V.ref x.2)
structure HsAt (K : Fg) (H : Hp) (A : HA) (PD : PA) (P : Pl) (T : HPl) (X : Hs) : Prop where
  nd : A.own.Nodup
  pd : ∀ a ∈ PD.own, a ∉ A.own
  pl : PlanAt K H PD P
  bd : BoardAt K H PD.p A.E X.B
  cs : CoresAt K H PD.p A.Ds X.cs
  rr : Dp K H (.ref A.rr) (.tuple (T.rts.map dRt))
  sr : Dp K H (.ref A.sr) (.tuple (T.sms.map dSm))
  rle : A.rl.length = X.rcs.length
  rls : Lsts H A.rl (X.rcs.map fun x => x.2.map V.int)
  ins : ∃ dx, H A.h = some (.ins (ga K "House") dx (houseF PD.p A T.n))
  wy : DictOf K H A.wy (·.ln) dRw T.rts
  li : DictOf K H A.li (·.ln) dSw T.sms
  co : H A.co = some (.lst (A.Ds.map fun D => .ref D.c))
  mo : H A.mo = some (.lst (X.md.map V.str))
  tu : H A.tu = some (.dK (joinK X.turns))
  rc : H A.rc = some (.dK (recK X.rcs A.rl))
  ho : H A.ho = some (.dK (joinK X.holds))
  bs : H A.bs = some (.dK (joinK X.bs))
  ds : H A.ds = some (.dK (joinK X.ds))
  ev : ∃ ys, H A.ev = some (.lst ys) ∧ DpAll K H ys (X.ev.map dHe)
structure ChH (H : Hp) (A : HA) (H' : Hp) (A' : HA) : Prop where
  fr : Fr A.own H H'
  h : A'.h = A.h
  own : ∀ a ∈ A'.own, a ∈ A.own ∨ H a = none
theorem ChH.refl {H : Hp} {A : HA} : ChH H A H A := ⟨Fr.refl, rfl, fun _ h => .inl h⟩
theorem ChH.same {H H' : Hp} {A : HA} (s : Same H H') : ChH H A H' A := ⟨s.fr, rfl, fun _ h => .inl h⟩
theorem ChH.trans {H H1 H2 : Hp} {A A1 A2 : HA} (x : ChH H A H1 A1) (y : ChH H1 A1 H2 A2) : ChH H A H2 A2 := by
  refine ⟨x.fr.seq y.fr x.own, y.h.trans x.h, fun a ha => ?_⟩
  rcases y.own a ha with h | h
  · exact x.own a h
  · exact .inr (x.fr.back h)
theorem dictOf_fr {α : Type} {K : Fg} {H H' : Hp} {rd : Addr} {nm : α → Str} {d : α → PyData} {l : List α} {N : List Addr} (h : DictOf K H rd nm d l) (f : Fr N H H') (n : rd ∉ N) (hd : ∀ x, tupd (d x) = true) : DictOf K H' rd nm d l := by
  obtain ⟨kvs, h1, h2, h3⟩ := h.at_
  exact h.keep (by rw [h1]; exact f.at h1 n) f.tk hd
section
variable {K : Fg} {H H' : Hp} {A : HA} {PD : PA} {P : Pl} {T : HPl} {X : Hs}
theorem HsAt.keep (h : HsAt K H A PD P T X) {N : List Addr} (f : Fr N H H') (n : ∀ a ∈ A.own, a ∉ N) (n2 : ∀ a ∈ PD.own, a ∉ N) : HsAt K H' A PD P T X := by
  obtain ⟨dx, e⟩ := h.ins
  obtain ⟨ys, ey, ay⟩ := h.ev
  have c : ∀ a ∈ A.cells, a ∉ N := fun a ha => n a (List.mem_append_left _ ha)
  have r : ∀ a ∈ A.rl ++ (A.E.own ++ A.Ds.flatMap CA.own), a ∉ N := fun a ha => n a (List.mem_append_right _ ha)
  exact ⟨h.nd, h.pd, h.pl.keep f n2, h.bd.keep f fun a ha => r a (by simp [ha]), h.cs.keep f fun a ha => r a (List.mem_append_right _ (List.mem_append_right _ ha)), h.rr.tk f.tk (tupds_map tupd_rt _), h.sr.tk f.tk (tupds_map tupd_sm _), h.rle, h.rls.keep f fun a ha => r a (by simp [ha]),
    ⟨dx, f.at e (c _ (by simp [HA.cells]))⟩, dictOf_fr h.wy f (c _ (by simp [HA.cells])) tupd_rw, dictOf_fr h.li f (c _ (by simp [HA.cells])) tupd_sw, f.at h.co (c _ (by simp [HA.cells])), f.at h.mo (c _ (by simp [HA.cells])), f.at h.tu (c _ (by simp [HA.cells])), f.at h.rc (c _ (by simp [HA.cells])),
    f.at h.ho (c _ (by simp [HA.cells])), f.at h.bs (c _ (by simp [HA.cells])), f.at h.ds (c _ (by simp [HA.cells])), ⟨ys, f.at ey (c _ (by simp [HA.cells])), ay.tk f.tk (tupds_map tupd_he _)⟩⟩
theorem HsAt.same (h : HsAt K H A PD P T X) (s : Same H H') : HsAt K H' A PD P T X := h.keep (N := []) s.fr (by simp) (by simp)
theorem hs_same (s : Same H H') (h : HsAt K H A PD P T X) : HsAt K H' A PD P T X := h.same s
theorem HsAt.ex (h : HsAt K H A PD P T X) : ∀ a ∈ A.own, H a ≠ none := by
  obtain ⟨dx, e⟩ := h.ins
  obtain ⟨ys, ey, ay⟩ := h.ev
  obtain ⟨_, e1, _⟩ := h.wy.at_
  obtain ⟨_, e2, _⟩ := h.li.at_
  intro a ha
  simp only [HA.own, HA.cells, List.mem_append, List.mem_cons, List.not_mem_nil, or_false] at ha
  rcases ha with (rfl | rfl | rfl | rfl | rfl | rfl | rfl | rfl | rfl | rfl | rfl) | ha | ha | ha
  · simp [e]
  · simp [e1]
  · simp [e2]
  · simp [h.co]
  · simp [h.mo]
  · simp [h.tu]
  · simp [h.rc]
  · simp [h.ho]
  · simp [h.bs]
  · simp [h.ds]
  · simp [ey]
  · exact h.rls.ex a ha
  · exact h.bd.ex a ha
  · exact h.cs.ex a ha
theorem HsAt.board (h : HsAt K H A PD P T X) {B' : Bd} (f : Fr A.E.own H H') (b : BoardAt K H' PD.p A.E B') : HsAt K H' A PD P T { X with B := B' } ∧ ChH H A H' A := by
  obtain ⟨dx, e⟩ := h.ins
  obtain ⟨ys, ey, ay⟩ := h.ev
  obtain ⟨n1, n2, n3⟩ := List.nodup_append.mp h.nd
  obtain ⟨m1, m2, m3⟩ := List.nodup_append.mp n2
  obtain ⟨q1, q2, q3⟩ := List.nodup_append.mp m2
  have c : ∀ a ∈ A.cells, a ∉ A.E.own := fun a ha z => n3 a ha a (by simp [z]) rfl
  exact ⟨⟨h.nd, h.pd, h.pl.keep f fun a ha z => h.pd a ha (by simp [HA.own, z]), b, h.cs.keep f fun a ha z => q3 a z a ha rfl, h.rr.tk f.tk (tupds_map tupd_rt _), h.sr.tk f.tk (tupds_map tupd_sm _), h.rle, h.rls.keep f fun a ha z => m3 a ha a (List.mem_append_left _ z) rfl,
    ⟨dx, f.at e (c _ (by simp [HA.cells]))⟩, dictOf_fr h.wy f (c _ (by simp [HA.cells])) tupd_rw, dictOf_fr h.li f (c _ (by simp [HA.cells])) tupd_sw, f.at h.co (c _ (by simp [HA.cells])), f.at h.mo (c _ (by simp [HA.cells])), f.at h.tu (c _ (by simp [HA.cells])), f.at h.rc (c _ (by simp [HA.cells])),
    f.at h.ho (c _ (by simp [HA.cells])), f.at h.bs (c _ (by simp [HA.cells])), f.at h.ds (c _ (by simp [HA.cells])), ⟨ys, f.at ey (c _ (by simp [HA.cells])), ay.tk f.tk (tupds_map tupd_he _)⟩⟩, ⟨f.mono fun a ha => by simp [HA.own, ha], rfl, fun _ h => .inl h⟩⟩
theorem HsAt.cst (h : HsAt K H A PD P T X) {i : Nat} {C : Cr} (hC : X.cs[i]? = some C) (bok : X.B.Ok P) (jok : JOk P C.jobs) : ∃ D, A.Ds[i]? = some D ∧ CSt K H PD P D C A.E X.B := by
  obtain ⟨D, hD, co⟩ := h.cs.get hC
  obtain ⟨n1, n2, n3⟩ := List.nodup_append.mp h.nd
  obtain ⟨m1, m2, m3⟩ := List.nodup_append.mp n2
  obtain ⟨q1, q2, q3⟩ := List.nodup_append.mp m2
  have hm : ∀ a ∈ D.own, a ∈ A.Ds.flatMap CA.own := fun a ha => List.mem_flatMap.mpr ⟨D, List.mem_of_getElem? hD, ha⟩
  exact ⟨D, hD, h.pl, co, h.bd, fun a ha => ⟨fun z => h.pd a ha (List.mem_append_right _ (List.mem_append_right _ (List.mem_append_right _ (hm a z)))), fun z => h.pd a ha (List.mem_append_right _ (List.mem_append_right _ (List.mem_append_left _ z)))⟩, fun a ha z => q3 a z a (hm a ha) rfl, bok, jok⟩
end
end Z
set_option maxHeartbeats 1000000
namespace Z
open PySem PySem.Spec PyProof.Rows L2
open He (ga ma)
theorem Fr.sqL {K : Fg} {N : List Addr} {H H' : Hp} {a : Addr} {xs : List V} (f : Fr N H H') (h : SqL K H a xs) (n : a ∉ N) : SqL K H' a xs := by
  rcases h with (h | ⟨o, h⟩) | h
  · exact .inl (.inl (f.at h n))
  · exact .inl (.inr ⟨o, f.at h n⟩)
  · exact .inr h
theorem Fr.scr {K : Fg} {H H' : Hp} {r a : Addr} {xs : List V} (f : Fr [r] H H') (h : SqL K H a xs) (n : a ≠ r ∨ ∀ H, SqL K H a xs) : SqL K H' a xs := n.elim (fun n => f.sqL h (by simp [n])) fun z => z H'
structure RowAt (K : Fg) (H : Hp) (r sc : Addr) (ns : List Int) : Prop where
  row : ∃ i seed rest : Int, H r = some (.lst [.ref sc, .int i, .int seed, .int rest]) ∧ 0 ≤ i ∧ 0 ≤ seed ∧ seed < 2147483647
  scr : SqL K H sc (ns.map V.int)
  ne : sc ≠ r ∨ ∀ H, SqL K H sc (ns.map V.int)
theorem RowAt.keep {K : Fg} {H H' : Hp} {r sc : Addr} {ns : List Int} {N : List Addr} (h : RowAt K H r sc ns) (f : Fr N H H') (n1 : r ∉ N) (n2 : sc ∉ N ∨ ∀ H, SqL K H sc (ns.map V.int)) : RowAt K H' r sc ns := by
  obtain ⟨i, seed, rest, e, h1⟩ := h.row
  exact ⟨⟨i, seed, rest, f.at e n1, h1⟩, n2.elim (f.sqL h.scr) fun z => z H', h.ne⟩
theorem RowAt.same {K : Fg} {H H' : Hp} {r sc : Addr} {ns : List Int} (h : RowAt K H r sc ns) (s : Same H H') : RowAt K H' r sc ns := h.keep (N := []) s.fr (by simp) (.inl (by simp))
theorem RowAt.ex {K : Fg} {H : Hp} {r sc : Addr} {ns : List Int} (h : RowAt K H r sc ns) : H r ≠ none := by
  obtain ⟨i, seed, rest, e, _⟩ := h.row
  rw [e]
  simp
theorem row_same {K : Fg} {H H' : Hp} {r sc : Addr} {ns : List Int} (s : Same H H') (h : RowAt K H r sc ns) : RowAt K H' r sc ns := h.same s
end Z
set_option maxHeartbeats 1000000
namespace Z
open PySem PySem.Spec PyProof.Rows L2
def runs (l : List (Str × Key)) : Int := ((l.filter fun s => decide (s.1 = ("run" : Str))).map fun s => kI s.2).sum
def prog (P : Pl) (f : Frm) : Int := f.tk + runs ((P.ln f.ln).st.take f.st)
def progs (P : Pl) (fs : List Frm) : Int := (fs.map (prog P)).sum
def jobsum (js : List (Str × Nat)) : Int := (js.map fun j => (j.2 : Int)).sum
def evEnd (P : Pl) (es : List Ev) : Int := ((es.filter fun e => decide (e.1 = ("end" : Str))).map fun e => ticksOf (P.ln e.2)).sum
def evDone (P : Pl) (es : List Ev) : Int := ((es.filter fun e => decide (e.1 = ("done" : Str))).map fun e => (P.wk e.2).tk).sum
def RL (P : Pl) : Prop := ∀ l ∈ P.ls, ∀ s ∈ l.st, s.1 = ("run" : Str) ∨ s.1 = ("later" : Str)
structure Acc (P : Pl) (C : Cr) : Prop where
  fr : ∀ f ∈ C.frames, ∃ n : Int, (P.ln f.ln).st[f.st]? = some (("run" : Str), (Sum.inl n : Key)) ∧ (f.tk : Int) < n
  jb : ∀ j ∈ C.jobs, (j.2 : Int) < (P.wk j.1).tk
theorem Pl.Ok.wk_pos {P : Pl} (ok : P.Ok) {z : Str} (hz : z ∈ P.wnames) : 0 < (P.wk z).tk := by
  have h := ok.wok _ (ok.wk_mem hz).1
  simp only [isWork, dWk, isIntD, Bool.and_eq_true, decide_eq_true_eq] at h
  omega
theorem RL.no {P : Pl} (ok : P.Ok) (rl : RL P) {B : Bd} {f : Frm} (hn : f.ln ∈ P.names) : passing P B f = false := by
  unfold passing
  cases e : (P.ln f.ln).st[f.st]? with
  | none => rfl
  | some s =>
    have := rl _ (ok.ln_mem hn).1 s (List.mem_of_getElem? e)
    have hne : s.1 ≠ "await" := by
      rcases this with h | h <;> rw [h] <;> decide
    simp [hne]
structure Acct (P : Pl) (G : Sg) (es : List Ev) : Prop where
  cok : COk P G.C G.B
  ac : Acc P G.C
  su : ∃ c k d : Int, G.sums = ([("call", c), ("spun", 0), ("work", k), ("idle", d)] : List (Str × Int)) ∧ c = evEnd P es + progs P G.C.frames ∧ k = evDone P es + jobsum G.C.jobs ∧ c + k + d = G.time
theorem ring_taken {P : Pl} {B : Bd} {z : Str} : (B.ring P z).1.taken = B.taken := by
  unfold Bd.ring
  repeat (first | rfl | split)
theorem Acct.ring {P : Pl} {G : Sg} {es : List Ev} (h : Acct P G es) {z : Str} (hz : z ∈ P.names) : Acct P (G.ring P z) es := ⟨⟨h.cok.bok.ring hz, h.cok.jok, h.cok.fok.taken ring_taken⟩, h.ac, h.su⟩
end Z
set_option maxHeartbeats 1000000
namespace Z
open PySem PySem.Spec PyProof.Rows L2
theorem lc_rel {K : Fg} {J : It} {n : Nat} {G : Hp → Prop} {Y : Nat → Hp → V → Hp → Prop} {g : TG} {tt : TT} {te : TE} {vs : List Nat} {σ : L2.St} {H1 : Hp} {D : Addr} {Qd : Hp → Prop} {α : Type} (w : Walk J n G Y) (R : Nat → α → Prop) (f : α → PyData) (A : List Addr) (I : Hp → Prop)
    (hD : H1 D = none) (hn : n ≤ 40000) (hf : ∀ x, tupd (f x) = true) (hA : ∀ a ∈ A, H1 a ≠ none) (hI1 : I H1) (hI : ∀ H H', Fr [D] H H' → I H → I H') (hIs : ∀ H H', Same H H' → I H → I H')
    (hG : ∀ H, Fr A H1 H → I H → G H) (hY : ∀ i H x H', Y i H x H' → Same H H')
    (hs : ∀ (i : Nat) (x : V) (H H' : Hp) (Yes : VK) (No : Hp → Prop), i < n → Fr A H1 H → I H → Y i H x H' → (∀ y H4 a, Fr A H' H4 → I H4 → R i a → Dp K H4 y (f a) → Yes y H4) →
      g x (wipe σ vs) H' fun σ2 H2 => wipe σ2 vs = wipe σ vs ∧ tt σ2 H2 fun b H3 => if b = true then te σ2 H3 Yes else No H3)
    (hd : ∀ H' ys (l : List α), Fr A H1 H' → I H' → H' D = some (.lst ys) → l.length = n → (∀ k x, l[k]? = some x → R k x) → DpAll K H' ys (l.map f) → Qd H') :
    ∃ W : Nat → Nat → Hp → Prop, (∃ m, W 0 m (upd H1 D (.lst []))) ∧ ∀ i m H, W i m H →
      (J.stop i H ∧ Qd H) ∨ (J.go i H ∧ ∃ Nx : Hp → Prop, (∀ H', Nx H' → ∃ m', m' < m ∧ W (i + 1) m' H') ∧ ∀ x H', J.yld i H x H' → g x (wipe σ vs) H' fun σ2 H2 => wipe σ2 vs = wipe σ vs ∧ tt σ2 H2 fun b H3 =>
        if b = true then te σ2 H3 fun y H4 => ∃ acc, H4 D = some (.lst acc) ∧ acc.length < sizeLine ∧ Nx (upd H4 D (.lst (acc ++ [y]))) else Nx H3) := by
  have hDA : D ∉ A := fun z => hA D z hD
  refine lc_it w (fun i H => Fr A H1 H ∧ I H ∧ ∃ (l : List α) (ys : List V), l.length = i ∧ (∀ k x, l[k]? = some x → R k x) ∧ H D = some (.lst ys) ∧ DpAll K H ys (l.map f)) ⟨Fr.new hD, hI _ _ (Fr.new hD) hI1, [], [], rfl, by simp, upd_same, .nil⟩ (fun i H _ p => hG H p.1 p.2.1) (fun i x H H' hi p y => ?_) (fun H p => ?_)
  · obtain ⟨f1, i1, l, ys, hl, hr, e1, a1⟩ := p
    have s2 := hY i H x H' y
    refine hs i x H H' _ _ hi f1 i1 y fun y4 H4 a f4 i4 r4 d4 => ⟨ys, f4.at (s2 _ _ e1) hDA, ?_, ?_, ?_, l ++ [a], ys ++ [y4], ?_, fun k x hk => ?_, upd_same, ?_⟩
    · rw [a1.len, List.length_map, hl, sizeLine_eq]
      omega
    · have f5 : Fr [D] H4 (upd H4 D (.lst (ys ++ [y4]))) := Fr.upd (by simp) (f4.at (s2 _ _ e1) hDA) rfl
      exact (f1.trans (s2.fr.trans f4)).seq f5 (by simp [hD])
    · exact hI _ _ (Fr.upd (by simp) (f4.at (s2 _ _ e1) hDA) rfl) i4
    · rw [List.length_append, hl]
      rfl
    · rcases Nat.lt_or_ge k l.length with h | h
      · rw [List.getElem?_append_left h] at hk
        exact hr k x hk
      · rw [List.getElem?_append_right h] at hk
        have : k - l.length = 0 := by
          cases e : k - l.length with
          | zero => rfl
          | succ m => rw [e] at hk; simp at hk
        rw [this] at hk
        simp at hk
        subst hk
        have : k = i := by omega
        rw [this]
        exact r4
    · have t5 := tk_upd (o := .lst (ys ++ [y4])) (f4.at (s2 _ _ e1) hDA)
      rw [List.map_append]
      exact (((a1.same s2).tk f4.tk (tupds_map hf _)).tk t5 (tupds_map hf _)).app (.cons (d4.tk t5 (hf a)) .nil)
  · obtain ⟨f1, i1, l, ys, hl, hr, e1, a1⟩ := p
    exact hd H ys l f1 i1 e1 hl hr a1
theorem s_for {wi : TI} {g : TG} {tb : TS} {D : Ends} {σ : L2.St} {H : Hp} (q : wi σ H fun J H1 => ∃ W : Nat → Nat → L2.St → Hp → Prop, (∃ m, W 0 m σ H1) ∧ ∀ i m σ H, W i m σ H →
  (J.stop i H ∧ D.nx σ H) ∨ (J.go i H ∧ ∃ N : L2.St → Hp → Prop, (∀ σ' H', N σ' H' → ∃ m', m' < m ∧ W (i + 1) m' σ' H') ∧ ∀ x H', J.yld i H x H' → g x σ H' fun σ2 H2 => tb { D with nx := N, ct := N, bk := D.nx } σ2 H2)) : tFor wi g tb D σ H := q
theorem s_rng1 {ta : TA} {σ : L2.St} {H : Hp} {R : It → Hp → Prop} (q : ta σ H fun vs H1 => ∃ j : Int, vs = [.int j] ∧ -(2 ^ 62) ≤ j ∧ j < 2 ^ 62 ∧ R (Itr 0 j.toNat) H1) : iRng1 ta σ H R := q
theorem s_iT {K : Fg} {tl : TE} {σ : L2.St} {H : Hp} {R : It → Hp → Prop} (q : tl σ H fun x H1 => ∃ a, x = .ref a ∧ (∃ xs, SqT K H1 a xs) ∧ R (Itt K a) H1) : iTup K tl σ H R := q
theorem s_iL {K : Fg} {tl : TE} {σ : L2.St} {H : Hp} {R : It → Hp → Prop} (q : tl σ H fun x H1 => ∃ a, x = .ref a ∧ (∃ xs, SqL K H1 a xs) ∧ R (Itl K a) H1) : iList K tl σ H R := q
theorem s_lc {wi : TI} {g : TG} {tt : TT} {te : TE} {vs : List Nat} {σ : L2.St} {H : Hp} {Q : VK} (q : wi σ H fun J H1 => LcQ J g tt te vs σ Q H1) : tLc wi g tt te vs σ H Q := q
theorem s_slA {K : Fg} {H : Hp} {Q : VK} {a : Addr} {xs : List V} {lo hi : Option Int} (h : SqT K H a xs) (q : ∀ p H', Same H H' → SqT K H' p (cutV xs lo hi) → Q (.ref p) H') : rSlA K (.ref a) lo hi H Q := by
  refine ⟨a, xs, rfl, h, fun ⟨h1, h2⟩ => q a H (Same.refl H) ?_, fun _ p hp => q p _ (Same.new hp) (SqT.of upd_same)⟩
  have e : cutV xs lo hi = xs := by
    unfold cutV
    rw [h1, h2, List.drop_zero, Nat.sub_zero, List.take_length]
  rw [e]
  exact h
def nmW : List Str := ["flush", "sweep"]
theorem stepX_run {kvs : List (Key × V)} {ws : List V} {n : Int} (h1 : 1 ≤ n) (h2 : n ≤ 99) : isStepX kvs ws "run" (.int n) = true := by
  unfold isStepX
  rw [if_neg (by decide), if_neg (by decide), if_neg (by decide)]
  have : isIntD 1 99 (.int n) = true := decide_eq_true ⟨h1, h2⟩
  rw [this]
  rfl
theorem stepX_later {kvs : List (Key × V)} {ws : List V} {z : Str} (h : inV (.str z) ws = true) : isStepX kvs ws "later" (.str z) = true := by
  unfold isStepX
  rw [if_neg (by decide), if_pos (by decide)]
  exact h
end Z
set_option maxHeartbeats 1000000
namespace Z
open PySem PySem.Spec PyProof.Rows L2
def EvOk (P : Pl) (es : List Ev) : Prop := ∀ e ∈ es, (e.1 = ("end" : Str) → e.2 ∈ P.names) ∧ (e.1 = ("done" : Str) → e.2 ∈ P.wnames)
theorem EvOk.nil {P : Pl} : EvOk P [] := by intro e h; simp at h
theorem EvOk.app {P : Pl} {a b : List Ev} (h : EvOk P a) (k : EvOk P b) : EvOk P (a ++ b) := fun e he => by
  rcases List.mem_append.mp he with he | he
  · exact h e he
  · exact k e he
end Z
set_option maxHeartbeats 1000000
namespace Z
open PySem PySem.Spec PyProof.Rows L2
section
variable {K : Fg} {σ : L2.St} {H H1 H' : Hp} {Q : VK} {g : TG} {tt : TT} {te tk tv tl td ty tx : TE} {vs : List Nat} {x : V} {a d : Addr} {xs : List V} {α : Type} {l : List α} {o : Obj} {u : HO} {od : Obj}
theorem lcRg_d {n : Nat} (p : Nat → Bool) (f : Nat → PyData) (hn : n ≤ 40000) (hf : ∀ i, i < n → tupd (f i) = true)
    (hs : ∀ (i : Nat) (H : Hp) (Yes : VK) (No : Hp → Prop), i < n → Same H1 H → (p i = true → ∀ y H4, Same H H4 → Dp K H4 y (f i) → Yes y H4) → (p i = false → ∀ H3, Same H H3 → No H3) →
      g (.int i) (wipe σ vs) H fun σ2 H2 => wipe σ2 vs = wipe σ vs ∧ tt σ2 H2 fun b H3 => if b = true then te σ2 H3 Yes else No H3)
    (hd : ∀ D H' ys, H1 D = none → Same H1 H' → H' D = some (.lst ys) → DpAll K H' ys (((List.range n).filter p).map f) → Q (.ref D) H') : LcQ (Itr 0 n) g tt te vs σ Q H1 := by
  have hz : (List.range n).length = n := List.length_range
  refine fun D hD => ?_
  refine lc_dat (K := K) (walk_range (lo := 0) (n := n)) (pAt (List.range n) p) (dAt (List.range n) f) hD hn (dAt_tupd (fun x hx => hf x (List.mem_range.mp hx))) (fun H s => trivial) (fun i H x H' y => by rw [y.1]; exact Same.refl H) (fun i x H H' Yes No hi s1 y yes no => ?_) (fun H' ys s1 e1 a1 => ?_)
  · obtain ⟨rfl, rfl⟩ := y
    have hz : (List.range n)[i]? = some i := List.getElem?_range hi
    rw [pAt_eq hz, dAt_eq hz] at yes
    rw [pAt_eq hz] at no
    have := hs i H' Yes No hi s1 yes no
    dsimp only
    rw [Int.zero_add]
    exact this
  · have k := keptD_list (l := List.range n) (p := p) (f := f)
    rw [hz] at k
    rw [k] at a1
    exact hd D H' ys hD s1 e1 a1
theorem s_tupRg {t : L2.St → Hp → (Int → Int → Hp → Prop) → Prop} (q : t σ H fun a b H1 => RgOk a b ∧ ∀ q, H1 q = none → Q (.ref q) (upd H1 q (.tup (rgV a b)))) : tTupRg t σ H Q := q
theorem s_lstRg {t : L2.St → Hp → (Int → Int → Hp → Prop) → Prop} (q : t σ H fun a b H1 => RgOk a b ∧ ∀ q, H1 q = none → Q (.ref q) (upd H1 q (.lst (rgV a b)))) : tLstRg t σ H Q := q
theorem s_rg1 {R : Int → Int → Hp → Prop} (q : te σ H fun x H1 => ∃ n, x = .int n ∧ R 0 n H1) : tRg1 te σ H R := q
theorem s_enT {ta : TA} {R : It → Hp → Prop} (q : ta σ H fun us H1 => ∃ a xs, us = [.ref a] ∧ SqT K H1 a xs ∧ R (IteT K a) H1) : iEnumT K ta σ H R := q
theorem s_items {R : It → Hp → Prop} (q : td σ H fun x H1 => ∃ d o kvs, x = .ref d ∧ H1 d = some (.frz o (.dK kvs)) ∧ R (Iti d o kvs) H1) : iItems td σ H R := q
theorem s_get2 (q : td σ H fun x H1 => ∃ a, x = .ref a ∧ IsD H1 a ∧ ty σ H1 fun y H2 => tx σ H2 fun z H3 => ∃ o, DGet H3 a y o ∧ Q (o.getD z) H3) : tDGet2 td ty tx σ H Q := q
end
theorem lcET_d {K : Fg} {σ : L2.St} {H1 : Hp} {Q : VK} {g : TG} {tt : TT} {te : TE} {vs : List Nat} {a : Addr} {xs : List V} {α : Type} {l : List α} {da : α → PyData} (hT : SqT K H1 a xs) (hA : DpAll K H1 xs (l.map da)) (p : Nat → α → Bool) (f : Nat → α → PyData) (hn : l.length ≤ 40000) (hf : ∀ i x, tupd (f i x) = true)
    (hs : ∀ (i : Nat) (x : α) (v : V) (t : Addr) (H : Hp) (Yes : VK) (No : Hp → Prop), l[i]? = some x → Same H1 H → Dp K H v (da x) → SqT K H t [.int (i : Nat), v] → (p i x = true → ∀ y H4, Same H H4 → Dp K H4 y (f i x) → Yes y H4) → (p i x = false → ∀ H3, Same H H3 → No H3) →
      g (.ref t) (wipe σ vs) H fun σ2 H2 => wipe σ2 vs = wipe σ vs ∧ tt σ2 H2 fun b H3 => if b = true then te σ2 H3 Yes else No H3)
    (hd : ∀ D H' ys, H1 D = none → Same H1 H' → H' D = some (.lst ys) → DpAll K H' ys ((l.zipIdx.filter fun x => p x.2 x.1).map fun x => f x.2 x.1) → Q (.ref D) H') : LcQ (IteT K a) g tt te vs σ Q H1 := by
  have hlen : xs.length = l.length := by rw [hA.len, List.length_map]
  have hzl : (l.zipIdx).length = l.length := List.length_zipIdx
  have hz : ∀ {i : Nat} {x : α}, l[i]? = some x → l.zipIdx[i]? = some (x, i) := fun {i x} h => by
    rw [List.getElem?_zipIdx, h]
    simp
  refine fun D hD => ?_
  refine lc_dat (K := K) (walk_enumT (K := K) (a := a) (xs := xs)) (pAt l.zipIdx fun x => p x.2 x.1) (dAt l.zipIdx fun x => f x.2 x.1) hD (by rw [hlen]; exact hn) (dAt_tupd fun x _ => hf _ _) (fun H s => s.sqT hT) (fun i H x H' y => ?_) (fun i x H H' Yes No hi s1 y yes no => ?_) (fun H' ys s1 e1 a1 => ?_)
  · obtain ⟨T, _, _, _, h2, h3, _⟩ := y
    rw [h3]
    exact Same.new h2
  · obtain ⟨T, x1, y1, rfl, h2, h3, h4, h5⟩ := y
    cases h4
    have s2 : Same H H' := by rw [h3]; exact Same.new h2
    obtain ⟨d, hd', dd⟩ := hA.getv h5
    rw [List.getElem?_map] at hd'
    obtain ⟨z, hz', rfl⟩ := Option.map_eq_some_iff.mp hd'
    rw [pAt_eq (hz hz'), dAt_eq (hz hz')] at yes
    rw [pAt_eq (hz hz')] at no
    exact hs i z y1 T H' Yes No hz' (s1.trans s2) (dd.same (s1.trans s2)) (SqT.of (by rw [h3, upd_same])) yes no
  · rw [hlen, ← hzl, keptD_list] at a1
    exact hd D H' ys hD s1 e1 a1
theorem find_some {α : Type} {l : List α} {f : α → Str} {z : Str} {r : α} (h : l.find? (fun r => f r == z) = some r) : r ∈ l ∧ f r = z := ⟨List.mem_of_find?_eq_some h, by simpa using List.find?_some h⟩
theorem core_get {X : Hs} {p : Nat} (h : p < X.cs.length) : X.cs[p]? = some (X.core p) := by
  unfold Hs.core
  rw [List.getElem?_eq_getElem h]
  rfl
end Z
set_option maxHeartbeats 1000000
namespace Z
open PySem PySem.Spec PyProof.Rows L2
def modeL : List Str := ["on", "leaving", "off"]
def lnsOf (cs : List Cr) : List Str := cs.flatMap fun C => C.frames.map (·.ln)
structure Hs.Ok (P : Pl) (T : HPl) (X : Hs) : Prop where
  bok : X.B.Ok P
  cn : X.cs.length = T.n
  mn : X.md.length = T.n
  mw : ∀ m ∈ X.md, m ∈ modeL
  jok : ∀ C ∈ X.cs, JOk P C.jobs
  nm : ∀ C ∈ X.cs, ∀ f ∈ C.frames, f.ln ∈ P.names
  st : ∀ C ∈ X.cs, ∀ f ∈ C.frames, Stands P f
  tk : X.B.taken.Perm (lnsOf X.cs)
  sp : ∀ x ∈ X.B.spots, ∃ p : Nat, x.2 = (p : Int) ∧ p < T.n
  bk : X.bs.map (·.1) = P.ls.map (·.nm)
  dk : X.ds.map (·.1) = P.ws.map (·.nm)
  tn : (X.turns.map (·.1)).Nodup
  ts : ∀ x ∈ X.turns, x.1 ∈ P.names
  tv : ∀ x ∈ X.turns, 0 ≤ x.2 ∧ x.2 < ((T.way x.1).2.length : Nat)
  hn : (X.holds.map (·.1)).Nodup
  hs : ∀ x ∈ X.holds, x.1 ∈ P.names
  rn : (X.rcs.map (·.1)).Nodup
  rs : ∀ x ∈ X.rcs, x.1 ∈ P.names
  rl : ∀ x ∈ X.rcs, x.2.length ≤ X.ev.length
section
variable {P : Pl} {T : HPl} {X : Hs}
theorem Hs.Ok.fok (h : X.Ok P T) {i : Nat} {C : Cr} (hC : X.cs[i]? = some C) : FOk P C.frames X.B := by
  have hm := List.mem_of_getElem? hC
  have hn : (lnsOf X.cs).Nodup := h.tk.nodup_iff.mp h.bok.ta.nd
  refine ⟨h.nm C hm, fun f hf => h.tk.mem_iff.mpr (List.mem_flatMap.mpr ⟨C, hm, List.mem_map_of_mem hf⟩), ?_, h.st C hm⟩
  unfold lnsOf at hn
  rw [List.nodup_iff_pairwise_ne, List.pairwise_flatMap] at hn
  exact hn.1 C hm
theorem Hs.Ok.frl (h : X.Ok P T) (ok : P.Ok) {p : Nat} (hp : p < X.cs.length) : (X.core p).frames.length ≤ 12 := (h.fok (core_get hp)).len ok
theorem HPl.Ok.way (t : T.Ok P) (z : Str) : (T.way z).1 ∈ ruleL ∧ (T.way z).2 ≠ [] ∧ (T.way z).2.Nodup ∧ (∀ p ∈ (T.way z).2, p < T.n) ∧ (T.way z).2.length ≤ 6 := by
  have len6 : ∀ {l : List Nat}, l.Nodup → (∀ p ∈ l, p < T.n) → l.length ≤ 6 := fun {l} h1 h2 => by
    have : Sub l (List.range T.n) := ⟨h1, fun x hx => List.mem_range.mpr (h2 x hx)⟩
    have := this.len
    rw [List.length_range] at this
    exact Nat.le_trans this t.n6
  unfold HPl.way
  cases e : T.rts.find? fun r => r.ln == z with
  | none =>
    dsimp only
    have h1 : ∀ p ∈ List.range T.n, p < T.n := fun p hp => List.mem_range.mp hp
    refine ⟨by decide, fun e => ?_, List.nodup_range, h1, len6 List.nodup_range h1⟩
    have h := congrArg List.length e
    rw [List.length_range, List.length_nil] at h
    have := t.n1
    omega
  | some r =>
    obtain ⟨m, _⟩ := find_some e
    exact ⟨t.rr r m, t.r0 r m, t.rd r m, t.rp r m, len6 (t.rd r m) (t.rp r m)⟩
theorem minK_mem (f : Nat → Int) : ∀ (r : List Nat) (k : Nat), minK f k r ∈ k :: r
  | [], k => by simp [minK]
  | y :: r, k => by
    unfold minK
    rw [List.foldl_cons]
    have := minK_mem f r (if f y < f k then y else k)
    unfold minK at this
    rcases List.mem_cons.mp this with h | h
    · rw [h]
      split <;> simp
    · exact List.mem_cons_of_mem _ (List.mem_cons_of_mem _ h)
theorem readyK_mem {ps : List Nat} {k : Nat} (h : k ∈ X.readyK ps) : ∃ p, ps[k]? = some p ∧ X.on p = true := by
  unfold Hs.readyK at h
  obtain ⟨y, hy, rfl⟩ := List.mem_map.mp h
  obtain ⟨h1, h2⟩ := List.mem_filter.mp hy
  obtain ⟨a, i⟩ := y
  have := List.mem_zipIdx_iff_getElem?.mp h1
  exact ⟨a, this, h2⟩
theorem pick_mem {z : Str} {k : Nat} (h : X.pick T z = some k) : k ∈ X.readyK (T.way z).2 := by
  unfold Hs.pick at h
  split at h
  · cases h
  · rename_i j r e
    rw [e]
    have h := Option.some.inj h
    subst h
    split
    · exact minK_mem _ _ _
    · split
      · simp
      · exact minK_mem _ _ _
theorem noteE_ev {p : Nat} {e : Ev} : (X.noteE p e).ev.length = X.ev.length + 1 ∧ (X.noteE p e).ds.map (·.1) = X.ds.map (·.1) := by
  unfold Hs.noteE
  split
  · refine ⟨?_, ?_⟩
    · show (X.ev ++ [_]).length = _
      rw [List.length_append, List.length_singleton]
    · show (bump X.ds e.2).map (·.1) = _
      exact bump_fst _ _
  · refine ⟨?_, rfl⟩
    show (X.ev ++ [_]).length = _
    rw [List.length_append, List.length_singleton]
theorem noteAll_cons {p : Nat} {e : Ev} {es : List Ev} : X.noteAll p (e :: es) = (X.noteE p e).noteAll p es := rfl
theorem noteAll_ev {p : Nat} {es : List Ev} : (X.noteAll p es).ev.length = X.ev.length + es.length := by
  induction es generalizing X with
  | nil => rfl
  | cons e es ih =>
    rw [noteAll_cons, ih, noteE_ev.1, List.length_cons]
    omega
theorem noteAll_dk {p : Nat} {es : List Ev} : (X.noteAll p es).ds.map (·.1) = X.ds.map (·.1) := by
  induction es generalizing X with
  | nil => rfl
  | cons e es ih => rw [noteAll_cons, ih, noteE_ev.2]
structure SameH (X Y : Hs) : Prop where
  B : Y.B = X.B
  cs : Y.cs = X.cs
  md : Y.md = X.md
  turns : Y.turns = X.turns
  rcs : Y.rcs = X.rcs
  holds : Y.holds = X.holds
  bs : Y.bs = X.bs
theorem noteE_same {p : Nat} {e : Ev} : SameH X (X.noteE p e) := by
  unfold Hs.noteE
  split <;> exact ⟨rfl, rfl, rfl, rfl, rfl, rfl, rfl⟩
theorem SameH.trans {X Y W : Hs} (a : SameH X Y) (b : SameH Y W) : SameH X W := ⟨b.B.trans a.B, b.cs.trans a.cs, b.md.trans a.md, b.turns.trans a.turns, b.rcs.trans a.rcs, b.holds.trans a.holds, b.bs.trans a.bs⟩
theorem noteAll_same {p : Nat} {es : List Ev} : SameH X (X.noteAll p es) := by
  induction es generalizing X with
  | nil => exact ⟨rfl, rfl, rfl, rfl, rfl, rfl, rfl⟩
  | cons e es ih => exact noteE_same.trans ih
theorem turned_ev {z : Str} {k : Nat} : (X.turned T z k).ev = X.ev ∧ (X.turned T z k).B = X.B := by
  unfold Hs.turned
  split
  · exact ⟨rfl, rfl⟩
  · split <;> exact ⟨rfl, rfl⟩
theorem place1_ev {z : Str} : (X.place1 T z).ev.length ≤ X.ev.length + 1 := by
  unfold Hs.place1
  split
  · split
    · exact Nat.le_succ _
    · rename_i k _
      show ((X.turned T z k).ev ++ [_]).length ≤ _
      rw [turned_ev.1, List.length_append, List.length_singleton]
      exact Nat.le_refl _
  · exact Nat.le_succ _
theorem Hs.Ok.log (h : X.Ok P T) {e : List HEv} (hl : X.ev.length ≤ e.length) : ({ X with ev := e } : Hs).Ok P T := ⟨h.bok, h.cn, h.mn, h.mw, h.jok, h.nm, h.st, h.tk, h.sp, h.bk, h.dk, h.tn, h.ts, h.tv, h.hn, h.hs, h.rn, h.rs, fun x hx => Nat.le_trans (h.rl x hx) hl⟩
theorem Bd.Ok.spots (h : X.B.Ok P) {l : List (Str × Int)} (h1 : (l.map (·.1)).Nodup) (h2 : ∀ x ∈ l, x.1 ∈ P.names) : ({ X.B with spots := l } : Bd).Ok P := ⟨h.sh, h.wa, h.hi, h.ta, h.ra, h.jk, h1, h2, h.wn, h.wk, h.wi, h.rl⟩
theorem setK_nd {l : List (Str × Int)} {z : Str} {n : Int} (h : (l.map (·.1)).Nodup) : ((setK l z n).map (·.1)).Nodup := by
  rw [setK_keys]
  split
  · exact h
  · rename_i hz
    rw [List.nodup_append]
    exact ⟨h, by simp, fun a ha b hb e => hz (by rw [← List.mem_singleton.mp hb, ← e]; exact ha)⟩
theorem setK_mem {l : List (Str × Int)} {z : Str} {n : Int} {x : Str × Int} (h : x ∈ setK l z n) : x ∈ l ∨ x = (z, n) := by
  unfold setK at h
  split at h
  · obtain ⟨y, hy, rfl⟩ := List.mem_map.mp h
    split
    · exact .inr rfl
    · exact .inl hy
  · rcases List.mem_append.mp h with h | h
    · exact .inl h
    · exact .inr (List.mem_singleton.mp h)
theorem Hs.Ok.turned (h : X.Ok P T) (t : T.Ok P) {z : Str} (hz : z ∈ P.names) {k : Nat} : (X.turned T z k).Ok P T := by
  unfold Hs.turned
  split
  · exact h
  · split
    · exact h
    · have w := List.length_pos_iff.mpr (t.way z).2.1
      refine ⟨h.bok, h.cn, h.mn, h.mw, h.jok, h.nm, h.st, h.tk, h.sp, h.bk, h.dk, setK_nd h.tn, fun x hx => ?_, fun x hx => ?_, h.hn, h.hs, h.rn, h.rs, h.rl⟩
      · rcases setK_mem hx with hx | rfl
        · exact h.ts x hx
        · exact hz
      · rcases setK_mem hx with hx | rfl
        · exact h.tv x hx
        · exact ⟨Int.emod_nonneg _ (by omega), Int.emod_lt_of_pos _ (by omega)⟩
theorem Hs.Ok.putLine (h : X.Ok P T) {z : Str} (hz : z ∈ P.names) {p : Nat} (hp : p < T.n) : (X.putLine z p).Ok P T := by
  refine ⟨Bd.Ok.spots h.bok (setK_nd h.bok.sn) (fun x hx => ?_), h.cn, h.mn, h.mw, h.jok, h.nm, h.st, h.tk, fun x hx => ?_, h.bk, h.dk, h.tn, h.ts, h.tv, h.hn, h.hs, h.rn, h.rs, fun x hx => ?_⟩
  · rcases setK_mem hx with hx | rfl
    · exact h.bok.ss x hx
    · exact hz
  · rcases setK_mem hx with hx | rfl
    · exact h.sp x hx
    · exact ⟨p, rfl, hp⟩
  · refine Nat.le_trans (h.rl x hx) ?_
    show _ ≤ (X.ev ++ [_]).length
    rw [List.length_append]
    exact Nat.le_add_right _ _
theorem pick_lt (t : T.Ok P) {z : Str} {k : Nat} (h : X.pick T z = some k) : (T.way z).2.getD k 0 < T.n := by
  obtain ⟨p, h1, _⟩ := readyK_mem (pick_mem h)
  rw [List.getD_eq_getElem?_getD, h1]
  exact (t.way z).2.2.2.1 p (List.mem_of_getElem? h1)
theorem Hs.Ok.place1 (h : X.Ok P T) (t : T.Ok P) {z : Str} (hz : z ∈ P.names) : (X.place1 T z).Ok P T := by
  unfold Hs.place1
  split
  · split
    · exact h
    · rename_i k e
      exact (h.turned t hz).putLine hz (pick_lt t e)
  · exact h
theorem Hs.Ok.place (h : X.Ok P T) (t : T.Ok P) : (X.place P T).Ok P T := by
  unfold Hs.place
  have : ∀ z ∈ P.order, z ∈ P.names := fun z hz => P.order_perm.mem_iff.mp hz
  generalize P.order = l at this
  induction l generalizing X with
  | nil => exact h
  | cons z l ih => exact ih (h.place1 t (this z (by simp))) fun y hy => this y (by simp [hy])
end
end Z
set_option maxHeartbeats 1000000
namespace Z
open PySem PySem.Spec PyProof.Rows L2
open He (ga ma)
end Z
set_option maxHeartbeats 1000000
namespace Z
open PySem PySem.Spec PyProof.Rows L2
open He (ga ma)
structure Go (P : Pl) (C : Cr) (B : Bd) (r : Cr × Bd × List Ev) (k : Nat) : Prop where
  tk : ∀ rest, B.taken.Perm (C.frames.map (·.ln) ++ rest) → r.2.1.taken.Perm (r.1.frames.map (·.ln) ++ rest)
  sp : ∀ x ∈ r.2.1.spots, x ∈ B.spots
  tm : r.2.1.time = B.time
  hr : r.2.1.here = B.here
  ms : r.2.1.rung.length + r.1.jobs.length + left P r.1.frames ≤ B.rung.length + C.jobs.length + left P C.frames
  ev : r.2.2.length + left P r.1.frames ≤ left P C.frames + k
  wd : ∀ e ∈ r.2.2, e.1 = "end" ∨ (e.1 = "done" ∧ e.2 ∈ P.wnames)
section
variable {P : Pl}
theorem Go.refl {C : Cr} {B : Bd} : Go P C B (C, B, []) 0 := ⟨fun _ h => h, fun _ h => h, rfl, rfl, Nat.le_refl _, by simp, by simp⟩
theorem Go.trans {C C1 : Cr} {B B1 : Bd} {es : List Ev} {r : Cr × Bd × List Ev} {j k : Nat} (a : Go P C B (C1, B1, es) j) (b : Go P C1 B1 r k) : Go P C B (r.1, r.2.1, es ++ r.2.2) (j + k) := by
  refine ⟨fun rest h => b.tk rest (a.tk rest h), fun x h => a.sp x (b.sp x h), b.tm.trans a.tm, b.hr.trans a.hr, Nat.le_trans b.ms a.ms, ?_, fun e he => ?_⟩
  · have h1 := a.ev
    have h2 := b.ev
    dsimp only at h1 h2 ⊢
    rw [List.length_append]
    omega
  · rcases List.mem_append.mp he with he | he
    · exact a.wd e he
    · exact b.wd e he
theorem Go.mono {C : Cr} {B : Bd} {r : Cr × Bd × List Ev} {j k : Nat} (a : Go P C B r j) (h : j ≤ k) : Go P C B r k := ⟨a.tk, a.sp, a.tm, a.hr, a.ms, Nat.le_trans a.ev (by omega), a.wd⟩
theorem stepFx_spots {lim : Int} {jobs : List (Str × Nat)} {B : Bd} {s : Str × Key} : (∀ x ∈ (stepFx P lim jobs B s).2.2.spots, x ∈ B.spots) ∧ (stepFx P lim jobs B s).2.2.time = B.time ∧ (stepFx P lim jobs B s).2.2.here = B.here := by
  have hc : (∀ x ∈ (B.carry P s).1.spots, x ∈ B.spots) ∧ (B.carry P s).1.time = B.time ∧ (B.carry P s).1.here = B.here := by
    unfold Bd.carry
    split
    · unfold Bd.ring Bd.tell
      repeat (first | exact ⟨fun _ h => h, rfl, rfl⟩ | split)
    · split
      · exact ⟨fun x h => (delK_mem.mp h).1, rfl, rfl⟩
      · repeat (first | exact ⟨fun _ h => h, rfl, rfl⟩ | split)
  unfold stepFx
  split
  · exact ⟨fun _ h => h, rfl, rfl⟩
  · split
    · exact ⟨fun _ h => h, rfl, rfl⟩
    · split
      · exact hc
      · exact ⟨fun _ h => h, rfl, rfl⟩
theorem stepFx_rj {lim : Int} {jobs : List (Str × Nat)} {B : Bd} {s : Str × Key} : (stepFx P lim jobs B s).2.2.rung.length + (stepFx P lim jobs B s).2.1.length ≤ B.rung.length + jobs.length + 1 := by
  unfold stepFx
  split
  · exact Nat.le_succ _
  · split
    · have := leave_len (jobs := jobs) (z := kS s.2)
      dsimp only
      omega
    · split
      · have := Bd.carry_rung (P := P) (B := B) (s := s)
        dsimp only
        omega
      · exact Nat.le_succ _
theorem goL {fs : List Frm} {rest : List (Str × Key)} : ∀ {f : Frm} {lim : Int} {jobs : List (Str × Nat)} {B : Bd}, rest = (P.ln f.ln).st.drop f.st → Go P ⟨fs ++ [f], lim, jobs⟩ B (passL P fs f lim jobs B rest) 0 := by
  induction rest with
  | nil =>
    intro f lim jobs B _
    refine ⟨fun rest h => ?_, fun _ h => h, rfl, rfl, ?_, ?_, fun e he => ?_⟩
    · show (B.taken.erase f.ln).Perm (fs.map (·.ln) ++ rest)
      have h1 := h.erase f.ln
      refine h1.trans ?_
      have h2 : ((fs ++ [f]).map (·.ln) ++ rest).Perm (f.ln :: (fs.map (·.ln) ++ rest)) := by
        rw [List.map_append, List.append_assoc]
        exact List.perm_middle
      refine (h2.erase f.ln).trans ?_
      rw [List.erase_cons_head]
    · show B.rung.length + jobs.length + left P fs ≤ B.rung.length + jobs.length + left P (fs ++ [f])
      rw [left_snoc]
      omega
    · show 1 + left P fs ≤ left P (fs ++ [f]) + 0
      rw [left_snoc]
      unfold left1
      omega
    · rw [List.mem_singleton.mp he]
      exact .inl rfl
  | cons s r ih =>
    intro f lim jobs B hr
    have hl : f.st < (P.ln f.ln).st.length := by
      by_cases h : f.st < (P.ln f.ln).st.length
      · exact h
      · rw [List.drop_of_length_le (by omega)] at hr
        cases hr
    unfold passL
    split
    · exact Go.refl
    · have h2 : r = (P.ln f.ln).st.drop (f.st + 1) := by
        rw [← List.tail_drop, ← hr]
        rfl
      have i := ih (f := { f with st := f.st + 1 }) (lim := (stepFx P lim jobs B s).1) (jobs := (stepFx P lim jobs B s).2.1) (B := (stepFx P lim jobs B s).2.2) h2
      have k1 := stepFx_rj (P := P) (lim := lim) (jobs := jobs) (B := B) (s := s)
      obtain ⟨k2, k4, k5⟩ := stepFx_spots (P := P) (lim := lim) (jobs := jobs) (B := B) (s := s)
      have k3 : left1 P { f with st := f.st + 1 } + 1 = left1 P f := by
        show (P.ln f.ln).st.length - (f.st + 1) + 1 + 1 = (P.ln f.ln).st.length - f.st + 1
        omega
      refine ⟨fun rest h => i.tk rest ?_, fun x h => k2 x (i.sp x h), i.tm.trans k4, i.hr.trans k5, Nat.le_trans i.ms ?_, Nat.le_trans i.ev ?_, i.wd⟩
      · rw [stepFx_taken]
        rw [List.map_append] at h ⊢
        exact h
      · show (stepFx P lim jobs B s).2.2.rung.length + (stepFx P lim jobs B s).2.1.length + left P (fs ++ [_]) ≤ B.rung.length + jobs.length + left P (fs ++ [f])
        rw [left_snoc, left_snoc]
        omega
      · show left P (fs ++ [_]) + 0 ≤ left P (fs ++ [f]) + 0
        rw [left_snoc, left_snoc]
        omega
theorem goP {fs : List Frm} {f : Frm} {lim : Int} {jobs : List (Str × Nat)} {B : Bd} : Go P ⟨fs ++ [f], lim, jobs⟩ B (pass P fs f lim jobs B) 0 := goL rfl
end
def potC (P : Pl) (C : Cr) : Nat := C.jobs.length + left P C.frames
def pot (P : Pl) (X : Hs) : Nat := X.B.rung.length + (X.cs.map (potC P)).sum
theorem sumN_set {α : Type} (f : α → Nat) : ∀ {l : List α} {i : Nat} {x y : α}, l[i]? = some x → ((l.set i y).map f).sum + f x = (l.map f).sum + f y
  | [], _, _, _, h => by simp at h
  | a :: l, 0, x, y, h => by
    simp at h
    subst h
    rw [List.set_cons_zero, List.map_cons, List.map_cons, List.sum_cons, List.sum_cons]
    omega
  | a :: l, i + 1, x, y, h => by
    have ih := sumN_set f (l := l) (i := i) (x := x) (y := y) (by simpa using h)
    rw [List.set_cons_succ, List.map_cons, List.map_cons, List.sum_cons, List.sum_cons]
    omega
theorem sumN_get {α : Type} (f : α → Nat) : ∀ {l : List α} {i : Nat} {x : α}, l[i]? = some x → f x ≤ (l.map f).sum
  | [], _, _, h => by simp at h
  | a :: l, 0, x, h => by
    simp at h
    subst h
    rw [List.map_cons, List.sum_cons]
    exact Nat.le_add_right _ _
  | a :: l, i + 1, x, h => by
    have ih := sumN_get f (l := l) (i := i) (x := x) (by simpa using h)
    rw [List.map_cons, List.sum_cons]
    omega
end Z
set_option maxHeartbeats 1000000
namespace Z
open PySem PySem.Spec PyProof.Rows L2
open He (ga ma)
theorem lnsOf_set {cs : List Cr} {i : Nat} {C : Cr} (h : i < cs.length) : (lnsOf (cs.set i C)).Perm (C.frames.map (·.ln) ++ lnsOf (cs.eraseIdx i)) := by
  induction cs generalizing i with
  | nil => simp at h
  | cons a l ih =>
    cases i with
    | zero => exact List.Perm.refl _
    | succ i =>
      have ih := ih (i := i) (by simpa using h)
      rw [List.set_cons_succ, List.eraseIdx_cons_succ]
      show (a.frames.map (·.ln) ++ lnsOf (l.set i C)).Perm (C.frames.map (·.ln) ++ (a.frames.map (·.ln) ++ lnsOf (l.eraseIdx i)))
      refine (ih.append_left _).trans ?_
      rw [← List.append_assoc, ← List.append_assoc]
      exact (List.perm_append_comm).append_right _
theorem lnsOf_get {cs : List Cr} {i : Nat} {C : Cr} (h : cs[i]? = some C) : (lnsOf cs).Perm (C.frames.map (·.ln) ++ lnsOf (cs.eraseIdx i)) := by
  have hl := (List.getElem?_eq_some_iff.mp h)
  obtain ⟨h1, h2⟩ := hl
  have := lnsOf_set (cs := cs) (C := C) h1
  rw [← h2, List.set_getElem_self] at this
  rw [← h2]
  exact this
section
variable {P : Pl} {T : HPl} {X : Hs}
theorem Hs.Ok.note (h : X.Ok P T) {w z : Str} {p : Nat} : (X.note w z p).Ok P T := h.log (by
  show X.ev.length ≤ (X.ev ++ [_]).length
  rw [List.length_append]
  exact Nat.le_add_right _ _)
theorem Hs.Ok.sameH {Y : Hs} (h : X.Ok P T) (s : SameH X Y) (h1 : Y.ds.map (·.1) = X.ds.map (·.1)) (h2 : X.ev.length ≤ Y.ev.length) : Y.Ok P T :=
  ⟨by rw [s.B]; exact h.bok, by rw [s.cs]; exact h.cn, by rw [s.md]; exact h.mn, by rw [s.md]; exact h.mw, by rw [s.cs]; exact h.jok, by rw [s.cs]; exact h.nm, by rw [s.cs]; exact h.st, by rw [s.cs, s.B]; exact h.tk, by rw [s.B]; exact h.sp, by rw [s.bs]; exact h.bk, by rw [h1]; exact h.dk,
    by rw [s.turns]; exact h.tn, by rw [s.turns]; exact h.ts, by rw [s.turns]; exact h.tv, by rw [s.holds]; exact h.hn, by rw [s.holds]; exact h.hs, by rw [s.rcs]; exact h.rn, by rw [s.rcs]; exact h.rs, by rw [s.rcs]; exact fun x hx => Nat.le_trans (h.rl x hx) h2⟩
theorem Hs.Ok.noteAll (h : X.Ok P T) {p : Nat} {es : List Ev} : (X.noteAll p es).Ok P T := h.sameH noteAll_same noteAll_dk (by rw [noteAll_ev]; exact Nat.le_add_right _ _)
theorem Hs.Ok.step (h : X.Ok P T) {p : Nat} {C' : Cr} {B' : Bd} (hp : p < X.cs.length) (ck : COk P C' B') (tk : ∀ rest, X.B.taken.Perm ((X.core p).frames.map (·.ln) ++ rest) → B'.taken.Perm (C'.frames.map (·.ln) ++ rest)) (sp : ∀ x ∈ B'.spots, x ∈ X.B.spots) : ({ X with cs := X.cs.set p C', B := B' } : Hs).Ok P T := by
  have hm : ∀ C ∈ X.cs.set p C', C ∈ X.cs ∨ C = C' := fun C hC => List.mem_or_eq_of_mem_set hC
  refine ⟨ck.bok, by show (X.cs.set p C').length = _; rw [List.length_set]; exact h.cn, h.mn, h.mw, fun C hC => ?_, fun C hC => ?_, fun C hC => ?_, ?_, fun x hx => h.sp x (sp x hx), h.bk, h.dk, h.tn, h.ts, h.tv, h.hn, h.hs, h.rn, h.rs, h.rl⟩
  · rcases hm C hC with k | rfl
    · exact h.jok C k
    · exact ck.jok
  · rcases hm C hC with k | rfl
    · exact h.nm C k
    · exact ck.fok.nm
  · rcases hm C hC with k | rfl
    · exact h.st C k
    · exact ck.fok.st
  · have h1 := tk (lnsOf (X.cs.eraseIdx p)) (h.tk.trans (lnsOf_get (core_get hp)))
    exact h1.trans (lnsOf_set hp).symm
theorem Hs.Ok.cok (h : X.Ok P T) {p : Nat} (hp : p < X.cs.length) : COk P (X.core p) X.B := ⟨h.bok, h.jok _ (List.mem_of_getElem? (core_get hp)), h.fok (core_get hp)⟩
theorem pot_step {p : Nat} {C' : Cr} {B' : Bd} {k : Nat} (hp : p < X.cs.length) (h : B'.rung.length + C'.jobs.length + left P C'.frames ≤ X.B.rung.length + (X.core p).jobs.length + left P (X.core p).frames + k) : pot P { X with cs := X.cs.set p C', B := B' } ≤ pot P X + k := by
  have h1 := sumN_set (potC P) (y := C') (core_get hp)
  have h2 := sumN_get (potC P) (core_get hp)
  have e1 : potC P (X.core p) = (X.core p).jobs.length + left P (X.core p).frames := rfl
  have e2 : potC P C' = C'.jobs.length + left P C'.frames := rfl
  show B'.rung.length + ((X.cs.set p C').map (potC P)).sum ≤ X.B.rung.length + (X.cs.map (potC P)).sum + k
  omega
theorem count_B {z : Str} : (X.count T z).B = X.B ∧ (X.count T z).cs = X.cs ∧ (X.count T z).md = X.md ∧ (X.count T z).bs = X.bs ∧ (X.count T z).ds = X.ds ∧ (X.count T z).turns = X.turns := by
  unfold Hs.count
  split
  · exact ⟨rfl, rfl, rfl, rfl, rfl, rfl⟩
  · split <;> exact ⟨rfl, rfl, rfl, rfl, rfl, rfl⟩
theorem setR_mem {l : List (Str × List Int)} {z : Str} {n : List Int} {x : Str × List Int} (h : x ∈ setR l z n) : x ∈ l ∨ x = (z, n) := by
  unfold setR at h
  split at h
  · obtain ⟨y, hy, rfl⟩ := List.mem_map.mp h
    split
    · exact .inr rfl
    · exact .inl hy
  · rcases List.mem_append.mp h with h | h
    · exact .inl h
    · exact .inr (List.mem_singleton.mp h)
theorem setR_nd {l : List (Str × List Int)} {z : Str} {n : List Int} (h : (l.map (·.1)).Nodup) : ((setR l z n).map (·.1)).Nodup := by
  unfold setR
  split
  · have : (l.map (fun x => if x.1 = z then (z, n) else x)).map (·.1) = l.map (·.1) := by
      rw [List.map_map]
      apply List.map_congr_left
      intro x _
      show (if x.1 = z then (z, n) else x).1 = x.1
      split
      · rename_i e
        exact e.symm
      · rfl
    rw [this]
    exact h
  · rename_i hz
    rw [List.map_append, List.nodup_append]
    exact ⟨h, by simp, fun a ha b hb e => hz (by
      have hb : b = z := by simpa using hb
      rw [← hb, ← e]
      exact ha)⟩
theorem getR_mem {l : List (Str × List Int)} {z : Str} {ns : List Int} (h : getR l z = some ns) : (z, ns) ∈ l := by
  unfold getR at h
  obtain ⟨x, h1, rfl⟩ := Option.map_eq_some_iff.mp h
  have h2 := List.find?_some h1
  have h3 : x.1 = z := of_decide_eq_true h2
  rw [← h3]
  exact List.mem_of_find?_eq_some h1
theorem Hs.Ok.count (h : X.Ok P T) {z : Str} (hz : z ∈ P.names) (he : ∀ x ∈ X.rcs, x.2.length < X.ev.length) (he0 : 1 ≤ X.ev.length) : (X.count T z).Ok P T := by
  have hl : ∀ s : Sm, (s.ticks X).length ≤ X.ev.length := fun s => by
    unfold Sm.ticks
    rw [List.length_append, List.length_singleton]
    cases e : getR X.rcs s.ln with
    | none =>
      show ([].filter _).length + 1 ≤ _
      exact he0
    | some ns =>
      have := he _ (getR_mem e)
      have h2 := List.length_filter_le (fun t => decide (t > X.B.time - s.win)) ns
      show (ns.filter _).length + 1 ≤ _
      dsimp only at this
      omega
  unfold Hs.count
  split
  · exact h
  · rename_i s _
    split
    · refine ⟨h.bok, h.cn, h.mn, h.mw, h.jok, h.nm, h.st, h.tk, h.sp, h.bk, h.dk, h.tn, h.ts, h.tv, setK_nd h.hn, fun x hx => ?_, setR_nd h.rn, fun x hx => ?_, fun x hx => ?_⟩
      · rcases setK_mem hx with hx | rfl
        · exact h.hs x hx
        · exact hz
      · rcases setR_mem hx with hx | rfl
        · exact h.rs x hx
        · exact hz
      · show _ ≤ (X.ev ++ [_]).length
        rw [List.length_append]
        rcases setR_mem hx with hx | rfl
        · have := h.rl x hx
          omega
        · have := hl s
          dsimp only
          omega
    · refine ⟨h.bok, h.cn, h.mn, h.mw, h.jok, h.nm, h.st, h.tk, h.sp, h.bk, h.dk, h.tn, h.ts, h.tv, h.hn, h.hs, setR_nd h.rn, fun x hx => ?_, fun x hx => ?_⟩
      · rcases setR_mem hx with hx | rfl
        · exact h.rs x hx
        · exact hz
      · rcases setR_mem hx with hx | rfl
        · exact h.rl x hx
        · exact hl s
theorem Bd.Ok.here {B : Bd} (h : B.Ok P) (o : Option Int) : ({ B with here := o } : Bd).Ok P := ⟨h.sh, h.wa, h.hi, h.ta, h.ra, h.jk, h.sn, h.ss, h.wn, h.wk, h.wi, h.rl⟩
theorem Hs.Ok.board {B' : Bd} (h : X.Ok P T) (b : B'.Ok P) (e1 : B'.taken = X.B.taken) (e2 : ∀ x ∈ B'.spots, x ∈ X.B.spots) : ({ X with B := B' } : Hs).Ok P T := ⟨b, h.cn, h.mn, h.mw, h.jok, h.nm, h.st, by show B'.taken.Perm _; rw [e1]; exact h.tk, fun x hx => h.sp x (e2 x hx), h.bk, h.dk, h.tn, h.ts, h.tv, h.hn, h.hs, h.rn, h.rs, h.rl⟩
theorem Hs.Ok.begin (h : X.Ok P T) {p : Nat} {z : Str} (hz : z ∈ P.names) : (X.begin P T p z).Ok P T := by
  have h1 : ({ X.note "begin" z p with bs := bump X.bs z } : Hs).Ok P T := by
    have k := h.note (w := "begin") (z := z) (p := p)
    exact ⟨k.bok, k.cn, k.mn, k.mw, k.jok, k.nm, k.st, k.tk, k.sp, by show (bump X.bs z).map (·.1) = _; rw [bump_fst]; exact h.bk, k.dk, k.tn, k.ts, k.tv, k.hn, k.hs, k.rn, k.rs, k.rl⟩
  have el : ({ X.note "begin" z p with bs := bump X.bs z } : Hs).ev.length = X.ev.length + 1 := by
    show (X.ev ++ [_]).length = _
    rw [List.length_append, List.length_singleton]
  have h2 := h1.count hz (fun x hx => by rw [el]; have := h.rl x hx; omega) (by rw [el]; omega)
  have h3 := h2.board (B' := { X.B with here := some (p : Int) }) (h.bok.here _) (by rw [count_B.1]; rfl) (by rw [count_B.1]; exact fun _ h => h)
  exact h3
theorem begin_parts {p : Nat} {z : Str} : (X.begin P T p z).B = { X.B with here := some (p : Int) } ∧ (X.begin P T p z).cs = X.cs ∧ (X.begin P T p z).md = X.md := ⟨rfl, count_B.2.1, count_B.2.2.1⟩
theorem goBegin (ok : P.Ok) {C : Cr} {B : Bd} {z : Str} (hz : z ∈ P.names) : ∀ {r : Cr × Bd × List Ev}, r = pass P C.frames ⟨z, 0, 0, C.limit⟩ C.limit C.jobs (B.begun z) →
    (∀ rest, B.taken.Perm (C.frames.map (·.ln) ++ rest) → r.2.1.taken.Perm (r.1.frames.map (·.ln) ++ rest)) ∧ (∀ x ∈ r.2.1.spots, x ∈ B.spots) ∧ r.2.1.time = B.time ∧ r.2.1.rung.length + r.1.jobs.length + left P r.1.frames ≤ B.rung.length + C.jobs.length + left P C.frames + 9 ∧ r.2.2.length + left P r.1.frames ≤ left P C.frames + 9 ∧ ∀ e ∈ r.2.2, e.1 = "end" ∨ (e.1 = "done" ∧ e.2 ∈ P.wnames) := by
  rintro r rfl
  have g := goP (P := P) (fs := C.frames) (f := ⟨z, 0, 0, C.limit⟩) (lim := C.limit) (jobs := C.jobs) (B := B.begun z)
  have h8 := ok.steps8 (ok.ln_mem hz).1
  have hl : left1 P ⟨z, 0, 0, C.limit⟩ = (P.ln z).st.length - 0 + 1 := rfl
  have hs : left P (C.frames ++ [⟨z, 0, 0, C.limit⟩]) ≤ left P C.frames + 9 := by
    rw [left_snoc]
    omega
  refine ⟨fun rest h => g.tk rest ?_, fun x hx => (delK_mem.mp (g.sp x hx)).1, g.tm, ?_, ?_, g.wd⟩
  · show (B.taken ++ [z]).Perm ((C.frames ++ [(⟨z, 0, 0, C.limit⟩ : Frm)]).map (fun f : Frm => f.ln) ++ rest)
    rw [List.map_append, List.append_assoc]
    refine (h.append_right [z]).trans ?_
    rw [List.append_assoc]
    exact (List.perm_append_comm).append_left _
  · have := g.ms
    have e1 : (B.begun z).rung = B.rung := rfl
    rw [e1] at this
    dsimp only at this
    omega
  · have := g.ev
    dsimp only at this
    omega
theorem readyL_mem {p : Nat} {z : Str} (h : z ∈ X.readyL P p) : z ∈ P.names ∧ getK X.B.spots z = some (p : Int) ∧ X.B.can z = true := by
  unfold Hs.readyL at h
  obtain ⟨h1, h2⟩ := List.mem_filter.mp h
  simp only [Bool.and_eq_true, decide_eq_true_eq] at h2
  exact ⟨P.order_perm.mem_iff.mp h1, h2.1, h2.2⟩
theorem can_notaken {B : Bd} {z : Str} (h : B.can z = true) : z ∉ B.taken := by
  unfold Bd.can at h
  simp only [Bool.and_eq_true, Bool.not_eq_true', decide_eq_false_iff_not] at h
  exact h.2.2
theorem begin_core {p q : Nat} {z : Str} : (X.begin P T p z).core q = X.core q := by
  unfold Hs.core
  rw [begin_parts.2.1]
theorem Hs.Ok.take (ok : P.Ok) (h : X.Ok P T) {p : Nat} (hp : p < X.cs.length) : (X.take P T p).Ok P T := by
  unfold Hs.take
  split
  · exact h
  · rename_i z r e
    split
    · obtain ⟨hz, _, hc⟩ := readyL_mem (P := P) (X := X) (p := p) (z := z) (by rw [e]; simp)
      have hb := h.begin (p := p) hz
      have hp2 : p < (X.begin P T p z).cs.length := by rw [begin_parts.2.1]; exact hp
      have hnt : z ∉ (X.begin P T p z).B.taken := can_notaken hc
      have hfk := hb.cok hp2
      have hnf : z ∉ ((X.begin P T p z).core p).frames.map (·.ln) := fun q => hnt (by
        obtain ⟨f, hf, rfl⟩ := List.mem_map.mp q
        exact hfk.fok.tk f hf)
      obtain ⟨g1, g2, _⟩ := goBegin ok (C := (X.begin P T p z).core p) (B := (X.begin P T p z).B) hz rfl
      have fk : FOk P ((X.begin P T p z).core p).frames ((X.begin P T p z).B.begun z) := ⟨hfk.fok.nm, fun f hf => List.mem_append_left _ (hfk.fok.tk f hf), hfk.fok.nd, hfk.fok.st⟩
      exact (hb.step hp2 (pass_ok ok (hfk.bok.begun hz hnt) hfk.jok fk hz (by show z ∈ _ ++ [z]; simp) hnf).cok g1 g2).noteAll
    · exact h
theorem HsAt.fresh {K : Fg} {H : Hp} {A : HA} {PD : PA} {P : Pl} {T : HPl} {X : Hs} (h : HsAt K H A PD P T X) {i : Nat} {D' : CA} {l : Addr} (hl : H l = none) (nl : l ∉ D'.own) : l ∉ HA.own { A with Ds := A.Ds.set i D' } := fun z => by
  have ex : ∀ a ∈ A.own, a ≠ l := fun a ha e => h.ex a ha (by rw [e]; exact hl)
  rcases List.mem_append.mp z with z | z
  · exact ex l (List.mem_append_left _ z) rfl
  rcases List.mem_append.mp z with z | z
  · exact ex l (List.mem_append_right _ (List.mem_append_left _ z)) rfl
  rcases List.mem_append.mp z with z | z
  · exact ex l (List.mem_append_right _ (List.mem_append_right _ (List.mem_append_left _ z))) rfl
  obtain ⟨D2, h2, ha⟩ := List.mem_flatMap.mp z
  rcases List.mem_or_eq_of_mem_set h2 with h2 | h2
  · exact ex l (List.mem_append_right _ (List.mem_append_right _ (List.mem_append_right _ (List.mem_flatMap.mpr ⟨D2, h2, ha⟩)))) rfl
  · rw [h2] at ha
    exact nl ha
end
end Z
set_option maxHeartbeats 1000000
namespace Z
open PySem PySem.Spec PyProof.Rows L2
open He (ga ma)
section
variable {P : Pl} {T : HPl} {X : Hs}
theorem core_set {X : Hs} {p q : Nat} {C : Cr} (hp : p < X.cs.length) : ({ X with cs := X.cs.set p C } : Hs).core q = if q = p then C else X.core q := by
  unfold Hs.core
  show ((X.cs.set p C)[q]?).getD _ = _
  rw [List.getElem?_set]
  by_cases e : q = p
  · subst e
    rw [if_pos rfl, if_pos hp, if_pos rfl]
    rfl
  · rw [if_neg (fun h => e h.symm), if_neg e]
theorem Hs.Ok.jobs (h : X.Ok P T) {g : Nat} {js : List (Str × Nat)} (hg : g < X.cs.length) (hj : JOk P js) : ({ X with cs := X.cs.set g { X.core g with jobs := js } } : Hs).Ok P T := by
  have hm : ∀ C ∈ X.cs.set g { X.core g with jobs := js }, C ∈ X.cs ∨ C = { X.core g with jobs := js } := fun C hC => List.mem_or_eq_of_mem_set hC
  have hc := List.mem_of_getElem? (core_get hg)
  refine ⟨h.bok, by show (X.cs.set g _).length = _; rw [List.length_set]; exact h.cn, h.mn, h.mw, fun C hC => ?_, fun C hC => ?_, fun C hC => ?_, ?_, h.sp, h.bk, h.dk, h.tn, h.ts, h.tv, h.hn, h.hs, h.rn, h.rs, h.rl⟩
  · rcases hm C hC with k | rfl
    · exact h.jok C k
    · exact hj
  · rcases hm C hC with k | rfl
    · exact h.nm C k
    · exact h.nm (X.core g) hc
  · rcases hm C hC with k | rfl
    · exact h.st C k
    · exact h.st (X.core g) hc
  · have h1 := h.tk.trans (lnsOf_get (core_get hg))
    exact h1.trans (lnsOf_set (C := { X.core g with jobs := js }) hg).symm
def moveJ (js : List (Str × Nat)) (j : Str × Nat) : List (Str × Nat) := if j.2 > 0 then js ++ [j] else leave js j.1
theorem move1_eq {g : Nat} {j : Str × Nat} : X.move1 g j = ({ X with cs := X.cs.set g { X.core g with jobs := moveJ (X.core g).jobs j } } : Hs).note "moved" j.1 g := rfl
theorem core_move1 {g q : Nat} {j : Str × Nat} (hg : g < X.cs.length) : (X.move1 g j).core q = if q = g then { X.core g with jobs := moveJ (X.core g).jobs j } else X.core q := core_set hg
theorem moveJ_ok {js : List (Str × Nat)} {j : Str × Nat} (h : JOk P js) (hj : j.1 ∈ P.wnames) : JOk P (moveJ js j) := by
  unfold moveJ
  split
  · rename_i q
    exact h.app hj (by omega)
  · exact h.leave hj
theorem moveJ_len {js : List (Str × Nat)} {j : Str × Nat} : (moveJ js j).length ≤ js.length + 1 := by
  unfold moveJ
  split
  · rw [List.length_append, List.length_singleton]
    exact Nat.le_refl _
  · exact leave_len
theorem Hs.Ok.move1 (h : X.Ok P T) {g : Nat} {j : Str × Nat} (hg : g < X.cs.length) (hj : j.1 ∈ P.wnames) : (X.move1 g j).Ok P T := by
  rw [move1_eq]
  exact (h.jobs hg (moveJ_ok (h.jok _ (List.mem_of_getElem? (core_get hg))) hj)).note
theorem Hs.Ok.leaves (h : X.Ok P T) {p : Nat} : (X.leaves p).Ok P T := by
  have h1 : ({ X with md := X.md.set p "off" } : Hs).Ok P T := ⟨h.bok, h.cn, by show (X.md.set p _).length = _; rw [List.length_set]; exact h.mn, fun m hm => by
    rcases List.mem_or_eq_of_mem_set hm with k | rfl
    · exact h.mw m k
    · decide, h.jok, h.nm, h.st, h.tk, h.sp, h.bk, h.dk, h.tn, h.ts, h.tv, h.hn, h.hs, h.rn, h.rs, h.rl⟩
  exact h1.log (by
    show X.ev.length ≤ (X.ev ++ [_]).length
    rw [List.length_append]
    exact Nat.le_add_right _ _)
def Hs.moved (P : Pl) (X : Hs) (p : Nat) (ks : List Nat) : Hs := ks.foldl (fun Y k => match (X.core p).jobs[k]? with
  | some j => Y.move1 ((X.leaves p).goal p) j
  | none => Y) (X.leaves p)
theorem off_eq {p : Nat} : X.off P p = { X.moved P p (places P (X.core p).jobs) with cs := (X.moved P p (places P (X.core p).jobs)).cs.set p { X.core p with jobs := [] } } := rfl
theorem moved_snoc {p k : Nat} {ks : List Nat} {j : Str × Nat} (h : (X.core p).jobs[k]? = some j) : X.moved P p (ks ++ [k]) = (X.moved P p ks).move1 ((X.leaves p).goal p) j := by
  unfold Hs.moved
  rw [List.foldl_append]
  show (match (X.core p).jobs[k]? with
    | some j => _
    | none => _) = _
  rw [h]
structure MvOk (P : Pl) (T : HPl) (X : Hs) (p : Nat) (Y : Hs) (i : Nat) : Prop where
  ok : Y.Ok P T
  cp : Y.core p = X.core p
  gl : (Y.core ((X.leaves p).goal p)).jobs.length ≤ (X.core ((X.leaves p).goal p)).jobs.length + i
  ev : Y.ev.length ≤ X.ev.length + 1 + i
  pt : pot P Y ≤ pot P X + i
  oth : Y.md = (X.leaves p).md ∧ Y.B = X.B
theorem MvOk.start (h : X.Ok P T) {p : Nat} : MvOk P T X p (X.leaves p) 0 := ⟨h.leaves, rfl, Nat.le_refl _, by show (X.ev ++ [_]).length ≤ _; rw [List.length_append, List.length_singleton]; exact Nat.le_refl _, Nat.le_refl _, rfl, rfl⟩
theorem MvOk.next {p i : Nat} {Y : Hs} (h : MvOk P T X p Y i) (hg : (X.leaves p).goal p < T.n) (hne : (X.leaves p).goal p ≠ p) {j : Str × Nat} (hj : j.1 ∈ P.wnames) : MvOk P T X p (Y.move1 ((X.leaves p).goal p) j) (i + 1) := by
  have hgc : (X.leaves p).goal p < Y.cs.length := by rw [h.ok.cn]; exact hg
  refine ⟨h.ok.move1 hgc hj, ?_, ?_, ?_, ?_, h.oth⟩
  · rw [core_move1 hgc, if_neg (fun e => hne e.symm)]
    exact h.cp
  · rw [core_move1 hgc, if_pos rfl]
    have := moveJ_len (js := (Y.core ((X.leaves p).goal p)).jobs) (j := j)
    have := h.gl
    dsimp only
    omega
  · show (Y.ev ++ [_]).length ≤ _
    rw [List.length_append, List.length_singleton]
    have := h.ev
    omega
  · have e : pot P (Y.move1 ((X.leaves p).goal p) j) = pot P { Y with cs := Y.cs.set ((X.leaves p).goal p) { Y.core ((X.leaves p).goal p) with jobs := moveJ (Y.core ((X.leaves p).goal p)).jobs j }, B := Y.B } := rfl
    rw [e]
    have h1 := pot_step (P := P) (X := Y) (C' := { Y.core ((X.leaves p).goal p) with jobs := moveJ (Y.core ((X.leaves p).goal p)).jobs j }) (B' := Y.B) (k := 1) hgc (by
      have := moveJ_len (js := (Y.core ((X.leaves p).goal p)).jobs) (j := j)
      dsimp only
      omega)
    have := h.pt
    omega
theorem moved_ok (h : X.Ok P T) {p : Nat} (hp : p < X.cs.length) (hg : (X.leaves p).goal p < T.n) (hne : (X.leaves p).goal p ≠ p) : ∀ (n : Nat), n ≤ (places P (X.core p).jobs).length → MvOk P T X p (X.moved P p ((places P (X.core p).jobs).take n)) n
  | 0, _ => by
    rw [List.take_zero]
    exact MvOk.start h
  | n + 1, hn => by
    have hx : (places P (X.core p).jobs)[n]? = some (places P (X.core p).jobs)[n] := List.getElem?_eq_getElem (by omega)
    have hk := places_lt (List.getElem_mem (show n < (places P (X.core p).jobs).length by omega))
    have hj : (X.core p).jobs[(places P (X.core p).jobs)[n]]? = some (X.core p).jobs[(places P (X.core p).jobs)[n]] := List.getElem?_eq_getElem hk
    have ht : (places P (X.core p).jobs).take (n + 1) = (places P (X.core p).jobs).take n ++ [(places P (X.core p).jobs)[n]] := by
      rw [List.take_add_one, hx]
      rfl
    rw [ht, moved_snoc hj]
    exact (moved_ok h hp hg hne n (by omega)).next hg hne ((h.jok _ (List.mem_of_getElem? (core_get hp))).sub _ (List.mem_of_getElem? hj))
theorem Hs.Ok.off (h : X.Ok P T) {p : Nat} (hp : p < X.cs.length) (hg : (X.leaves p).goal p < T.n) (hne : (X.leaves p).goal p ≠ p) : (X.off P p).Ok P T := by
  have m := moved_ok h hp hg hne _ (Nat.le_refl _)
  rw [List.take_length] at m
  have k := m.ok.jobs (g := p) (by rw [m.ok.cn, ← h.cn]; exact hp) JOk.nil
  rw [m.cp] at k
  rw [off_eq]
  exact k
end
end Z
set_option maxHeartbeats 1000000
namespace Z
open PySem PySem.Spec PyProof.Rows L2
open He (ga ma)
section
variable {P : Pl} {T : HPl} {X : Hs}
theorem place1_md {z : Str} : (X.place1 T z).md = X.md ∧ (X.place1 T z).cs = X.cs ∧ (X.place1 T z).B.rung = X.B.rung ∧ (X.place1 T z).B.time = X.B.time := by
  unfold Hs.place1 Hs.turned
  split
  · split
    · exact ⟨rfl, rfl, rfl, rfl⟩
    · split
      · exact ⟨rfl, rfl, rfl, rfl⟩
      · split <;> exact ⟨rfl, rfl, rfl, rfl⟩
  · exact ⟨rfl, rfl, rfl, rfl⟩
theorem place_parts : (X.place P T).md = X.md ∧ (X.place P T).cs = X.cs ∧ (X.place P T).B.rung = X.B.rung ∧ (X.place P T).B.time = X.B.time ∧ (X.place P T).ev.length ≤ X.ev.length + P.order.length := by
  unfold Hs.place
  generalize P.order = l
  induction l generalizing X with
  | nil => exact ⟨rfl, rfl, rfl, rfl, Nat.le_refl _⟩
  | cons z l ih =>
    obtain ⟨h1, h2, h3, h4, h5⟩ := ih (X := X.place1 T z)
    obtain ⟨k1, k2, k3, k4⟩ := place1_md (X := X) (T := T) (z := z)
    have k5 := place1_ev (X := X) (T := T) (z := z)
    refine ⟨h1.trans k1, h2.trans k2, h3.trans k3, h4.trans k4, ?_⟩
    rw [List.foldl_cons, List.length_cons]
    omega
end
end Z
set_option maxHeartbeats 1000000
namespace Z
open PySem PySem.Spec PyProof.Rows L2
open He (ga ma)
def mcK (fr jo : Addr) (lim : Int) : List (Key × V) := [((.inr "calls" : Key), .ref fr), (.inr "bar", .int lim), (.inr "jobs", .ref jo)]
theorem mc_ca {fr jo : Addr} {lim : Int} : valV (mcK fr jo lim) (.inr "calls") = some (.ref fr) := by kernel_rfl
theorem mc_bar {fr jo : Addr} {lim : Int} : valV (mcK fr jo lim) (.inr "bar") = some (.int lim) := by kernel_rfl
theorem mc_jo {fr jo : Addr} {lim : Int} : valV (mcK fr jo lim) (.inr "jobs") = some (.ref jo) := by kernel_rfl
structure MCoreAt (K : Fg) (H : Hp) (D : CA) (C : Cr) : Prop where
  nd : D.own.Nodup
  dk : H D.c = some (.dK (mcK D.fr D.jo C.limit))
  fr : H D.fr = some (.lst (D.fs.map V.ref))
  jo : H D.jo = some (.lst (D.js.map V.ref))
  fs : Lsts H D.fs (C.frames.map frV)
  js : Lsts H D.js (C.jobs.map jbV)
section
variable {K : Fg} {H H' : Hp} {D : CA} {C : Cr}
theorem MCoreAt.keep (h : MCoreAt K H D C) {A : List Addr} (f : Fr A H H') (n : ∀ a ∈ D.own, a ∉ A) : MCoreAt K H' D C := by
  have e := h.dk
  refine ⟨h.nd, f.at e (n _ (by simp [CA.own])), f.at h.fr (n _ (by simp [CA.own])), f.at h.jo (n _ (by simp [CA.own])), h.fs.keep f fun a ha => n a (by simp [CA.own, ha]), h.js.keep f fun a ha => n a (by simp [CA.own, ha])⟩
theorem MCoreAt.same (h : MCoreAt K H D C) (s : Same H H') : MCoreAt K H' D C := h.keep (A := []) s.fr (by simp)
end
theorem MCoreAt.ex {K : Fg} {H : Hp} {D : CA} {C : Cr} (h : MCoreAt K H D C) : ∀ a ∈ D.own, H a ≠ none := by
  have h1 := h.dk
  intro a ha
  simp only [CA.own, List.mem_cons, List.mem_append] at ha
  rcases ha with rfl | rfl | rfl | ha | ha
  · simp [h1]
  · simp [h.fr]
  · simp [h.jo]
  · exact h.fs.ex a ha
  · exact h.js.ex a ha
end Z
set_option maxHeartbeats 1000000
namespace Z
open PySem PySem.Spec PyProof.Rows L2
open He (ga ma)
structure MD where
  m : Addr
  mo : Addr
  co : Addr
  od : Addr
  sh : Addr
  wa : Addr
  hi : Addr
  fl : Addr
  lg : Addr
  rg : Addr
  ft : Addr
  ln : Addr
  wk : Addr
  rt : Addr
  st : Addr
  sp : Addr
  tu : Addr
  ho : Addr
  la : Addr
  bg : Addr
  tm : Addr
  dn : Addr
  bl : List Addr
  Ds : List CA
def MD.cells (A : MD) : List Addr := [A.m, A.mo, A.co, A.od, A.sh, A.wa, A.hi, A.fl, A.lg, A.rg, A.ft, A.ln, A.wk, A.rt, A.st, A.sp, A.tu, A.ho, A.la, A.bg, A.tm, A.dn]
def MD.own (A : MD) : List Addr := A.cells ++ (A.bl ++ A.Ds.flatMap CA.own)
def mhK (A : MD) (now : Int) : List (Key × V) := [((.inr "modes" : Key), .ref A.mo), ((.inr "cores" : Key), .ref A.co), ((.inr "now" : Key), .int now), ((.inr "order" : Key), .ref A.od), ((.inr "shut" : Key), .ref A.sh), ((.inr "wanted" : Key), .ref A.wa), ((.inr "high" : Key), .ref A.hi), ((.inr "flags" : Key), .ref A.fl), ((.inr "log" : Key), .ref A.lg), ((.inr "rings" : Key), .ref A.rg), ((.inr "fates" : Key), .ref A.ft), ((.inr "lines" : Key), .ref A.ln), ((.inr "works" : Key), .ref A.wk), ((.inr "routes" : Key), .ref A.rt), ((.inr "storms" : Key), .ref A.st), ((.inr "spots" : Key), .ref A.sp), ((.inr "turns" : Key), .ref A.tu), ((.inr "holds" : Key), .ref A.ho), ((.inr "last" : Key), .ref A.la), ((.inr "begun" : Key), .ref A.bg), ((.inr "times" : Key), .ref A.tm), ((.inr "done" : Key), .ref A.dn)]
theorem mh_modes {A : MD} {n : Int} : valV (mhK A n) (.inr "modes") = some (.ref A.mo) := by kernel_rfl
theorem mh_cores {A : MD} {n : Int} : valV (mhK A n) (.inr "cores") = some (.ref A.co) := by kernel_rfl
theorem mh_now {A : MD} {n : Int} : valV (mhK A n) (.inr "now") = some (.int n) := by kernel_rfl
theorem mh_order {A : MD} {n : Int} : valV (mhK A n) (.inr "order") = some (.ref A.od) := by kernel_rfl
theorem mh_shut {A : MD} {n : Int} : valV (mhK A n) (.inr "shut") = some (.ref A.sh) := by kernel_rfl
theorem mh_wanted {A : MD} {n : Int} : valV (mhK A n) (.inr "wanted") = some (.ref A.wa) := by kernel_rfl
theorem mh_high {A : MD} {n : Int} : valV (mhK A n) (.inr "high") = some (.ref A.hi) := by kernel_rfl
theorem mh_flags {A : MD} {n : Int} : valV (mhK A n) (.inr "flags") = some (.ref A.fl) := by kernel_rfl
theorem mh_log {A : MD} {n : Int} : valV (mhK A n) (.inr "log") = some (.ref A.lg) := by kernel_rfl
theorem mh_rings {A : MD} {n : Int} : valV (mhK A n) (.inr "rings") = some (.ref A.rg) := by kernel_rfl
theorem mh_fates {A : MD} {n : Int} : valV (mhK A n) (.inr "fates") = some (.ref A.ft) := by kernel_rfl
theorem mh_lines {A : MD} {n : Int} : valV (mhK A n) (.inr "lines") = some (.ref A.ln) := by kernel_rfl
theorem mh_works {A : MD} {n : Int} : valV (mhK A n) (.inr "works") = some (.ref A.wk) := by kernel_rfl
theorem mh_routes {A : MD} {n : Int} : valV (mhK A n) (.inr "routes") = some (.ref A.rt) := by kernel_rfl
theorem mh_storms {A : MD} {n : Int} : valV (mhK A n) (.inr "storms") = some (.ref A.st) := by kernel_rfl
theorem mh_spots {A : MD} {n : Int} : valV (mhK A n) (.inr "spots") = some (.ref A.sp) := by kernel_rfl
theorem mh_turns {A : MD} {n : Int} : valV (mhK A n) (.inr "turns") = some (.ref A.tu) := by kernel_rfl
theorem mh_holds {A : MD} {n : Int} : valV (mhK A n) (.inr "holds") = some (.ref A.ho) := by kernel_rfl
theorem mh_last {A : MD} {n : Int} : valV (mhK A n) (.inr "last") = some (.ref A.la) := by kernel_rfl
theorem mh_begun {A : MD} {n : Int} : valV (mhK A n) (.inr "begun") = some (.ref A.bg) := by kernel_rfl
theorem mh_times {A : MD} {n : Int} : valV (mhK A n) (.inr "times") = some (.ref A.tm) := by kernel_rfl
theorem mh_done {A : MD} {n : Int} : valV (mhK A n) (.inr "done") = some (.ref A.dn) := by kernel_rfl
def dLn3 (l : Ln) : PyData := .tuple [.str l.kd, .int l.rk, .tuple (l.st.map dSt)]
def dWk2 (v : Wk) : PyData := .tuple [.int v.rk, .int v.tk]
theorem tupd_ln3 (l : Ln) : tupd (dLn3 l) = true := by
  show (true && (true && (tupds (l.st.map dSt) && true))) = true
  rw [tupds_map tupd_dSt]
  rfl
theorem tupd_wk2 (v : Wk) : tupd (dWk2 v) = true := rfl
def dRoute (T : HPl) (l : Ln) : PyData := .tuple [.str (T.way l.nm).1, dPs (T.way l.nm).2]
theorem tupd_route (T : HPl) (l : Ln) : tupd (dRoute T l) = true := tupd_rw ⟨l.nm, (T.way l.nm).1, (T.way l.nm).2⟩
structure LOk (P : Pl) (B : Bd) (L : List (Str × Int)) : Prop where
  nd : (L.map (·.1)).Nodup
  nm : ∀ x ∈ L, x.1 ∈ P.names
  eq : ∀ z n, getK B.wanting z = some n → getK L z = some n
structure GOk (P : Pl) (T : HPl) (X : Hs) (G : List (Str × List Int)) : Prop where
  nd : (G.map (·.1)).Nodup
  nm : ∀ x ∈ G, x.1 ∈ P.names
  ln : ∀ x ∈ G, x.2.length ≤ X.ev.length
  eq : ∀ s ∈ T.sms, ∀ t, X.B.time ≤ t → ((getR X.rcs s.ln).getD []).filter (fun k => decide (k > t - s.win)) = ((getR G s.ln).getD []).filter (fun k => decide (k > t - s.win))
inductive MCores (K : Fg) (H : Hp) : List CA → List Cr → Prop
  | nil : MCores K H [] []
  | cons {D : CA} {C : Cr} {Ds : List CA} {Cs : List Cr} : MCoreAt K H D C → MCores K H Ds Cs → MCores K H (D :: Ds) (C :: Cs)
structure MHAt (K : Fg) (H : Hp) (A : MD) (P : Pl) (T : HPl) (X : Hs) : Prop where
  nd : A.own.Nodup
  cs : MCores K H A.Ds X.cs
  m : H A.m = some (.dK (mhK A X.B.time))
  mo : H A.mo = some (.lst (X.md.map V.str))
  co : H A.co = some (.lst (A.Ds.map fun D => .ref D.c))
  od : H A.od = some (.lst (P.order.map V.str))
  sh : H A.sh = some (.lst (X.B.shut.map V.str))
  wa : H A.wa = some (.lst (X.B.wanted.map V.str))
  hi : H A.hi = some (.lst (X.B.high.map V.str))
  fl : H A.fl = some (.lst (X.B.raised.map V.int))
  lg : ∃ ys, H A.lg = some (.lst ys) ∧ DpAll K H ys (X.ev.map dHe)
  rg : ∃ ys, H A.rg = some (.lst ys) ∧ DpAll K H ys (X.B.rung.map dRg)
  ft : ∃ ys, H A.ft = some (.lst ys) ∧ DpAll K H ys (X.B.results.map dFt)
  ln : DictOf K H A.ln (·.nm) dLn3 P.ls
  wk : DictOf K H A.wk (·.nm) dWk2 P.ws
  rt : DictOf K H A.rt (·.nm) (dRoute T) P.ls
  st : DictOf K H A.st (·.ln) dSw T.sms
  sp : H A.sp = some (.dK (joinK X.B.spots))
  tu : H A.tu = some (.dK (joinK X.turns))
  ho : H A.ho = some (.dK (joinK X.holds))
  la : ∃ L, H A.la = some (.dK (joinK L)) ∧ LOk P X.B L
  bg : ∃ G, H A.bg = some (.dK (recK G A.bl)) ∧ A.bl.length = G.length ∧ Lsts H A.bl (G.map fun x => x.2.map V.int) ∧ GOk P T X G
  tm : H A.tm = some (.dK (joinK X.bs))
  dn : H A.dn = some (.dK (joinK X.ds))
structure ChM (H : Hp) (A : MD) (H' : Hp) (A' : MD) : Prop where
  fr : Fr A.own H H'
  m : A'.m = A.m
  own : ∀ a ∈ A'.own, a ∈ A.own ∨ H a = none
theorem ChM.refl {H : Hp} {A : MD} : ChM H A H A := ⟨Fr.refl, rfl, fun _ h => .inl h⟩
theorem ChM.same {H H' : Hp} {A : MD} (s : Same H H') : ChM H A H' A := ⟨s.fr, rfl, fun _ h => .inl h⟩
theorem ChM.trans {H H1 H2 : Hp} {A A1 A2 : MD} (x : ChM H A H1 A1) (y : ChM H1 A1 H2 A2) : ChM H A H2 A2 := by
  refine ⟨x.fr.seq y.fr x.own, y.m.trans x.m, fun a ha => ?_⟩
  rcases y.own a ha with h | h
  · exact x.own a h
  · exact .inr (x.fr.back h)
section
variable {K : Fg} {H H' : Hp}
theorem MCores.len : ∀ {Ds : List CA} {Cs : List Cr}, MCores K H Ds Cs → Ds.length = Cs.length
  | _, _, .nil => rfl
  | _, _, .cons _ t => by rw [List.length_cons, List.length_cons, t.len]
theorem MCores.get : ∀ {Ds : List CA} {Cs : List Cr} {i : Nat} {C : Cr}, MCores K H Ds Cs → Cs[i]? = some C → ∃ D, Ds[i]? = some D ∧ MCoreAt K H D C
  | _, _, _, _, .nil, h => by simp at h
  | _, _, 0, _, .cons h _, e => by
    simp at e
    subst e
    exact ⟨_, rfl, h⟩
  | _, _, i + 1, _, .cons _ t, e => by
    obtain ⟨D, h1, h2⟩ := t.get (i := i) (by simpa using e)
    exact ⟨D, by simpa using h1, h2⟩
theorem MCores.keep {N : List Addr} (f : Fr N H H') : ∀ {Ds : List CA} {Cs : List Cr}, MCores K H Ds Cs → (∀ a ∈ Ds.flatMap CA.own, a ∉ N) → MCores K H' Ds Cs
  | _, _, .nil, _ => .nil
  | _, _, .cons h t, n => .cons (h.keep f fun a ha => n a (by simp [ha])) (t.keep f fun a ha => n a (by rw [List.flatMap_cons]; exact List.mem_append_right _ ha))
theorem MCores.ex : ∀ {Ds : List CA} {Cs : List Cr}, MCores K H Ds Cs → ∀ a ∈ Ds.flatMap CA.own, H a ≠ none
  | _, _, .nil, a, ha => by simp at ha
  | _, _, .cons h t, a, ha => by
    rw [List.flatMap_cons] at ha
    rcases List.mem_append.mp ha with ha | ha
    · exact h.ex a ha
    · exact t.ex a ha
theorem MCores.set {N : List Addr} (f : Fr N H H') : ∀ {Ds : List CA} {Cs : List Cr} {i : Nat} {D' : CA} {C' : Cr}, MCores K H Ds Cs → MCoreAt K H' D' C' → (∀ j D, Ds[j]? = some D → j ≠ i → ∀ a ∈ D.own, a ∉ N) → MCores K H' (Ds.set i D') (Cs.set i C')
  | _, _, _, _, _, .nil, _, _ => .nil
  | _, _, 0, _, _, .cons h t, c, n => by
    refine .cons c (t.keep f fun a ha => ?_)
    obtain ⟨D, hD, haD⟩ := List.mem_flatMap.mp ha
    obtain ⟨j, hj, ej⟩ := List.mem_iff_getElem.mp hD
    exact n (j + 1) D (by rw [List.getElem?_cons_succ, List.getElem?_eq_getElem hj, ej]) (Nat.succ_ne_zero _) a haD
  | _, _, i + 1, _, _, .cons h t, c, n => .cons (h.keep f (n 0 _ rfl (Nat.succ_ne_zero _).symm)) (t.set f c fun j D hj hne => n (j + 1) D (by simpa using hj) (by omega))
end
section
variable {K : Fg} {H H' : Hp} {A : MD} {P : Pl} {T : HPl} {X : Hs}
theorem MHAt.to (h : MHAt K H A P T X) {Y : Hs} (e1 : Y.md = X.md) (e2 : Y.cs = X.cs) (e3 : Y.turns = X.turns) (e4 : Y.holds = X.holds) (e5 : Y.bs = X.bs) (e6 : Y.ds = X.ds) (e7 : Y.ev = X.ev) (e8 : Y.rcs = X.rcs) (b1 : Y.B.shut = X.B.shut) (b2 : Y.B.wanted = X.B.wanted) (b3 : Y.B.high = X.B.high) (b4 : Y.B.raised = X.B.raised) (b5 : Y.B.time = X.B.time) (b6 : Y.B.spots = X.B.spots) (b7 : Y.B.rung = X.B.rung) (b8 : Y.B.results = X.B.results)
    (b9 : ∀ z n, getK Y.B.wanting z = some n → getK X.B.wanting z = some n) : MHAt K H A P T Y := by
  obtain ⟨L, l1, l2⟩ := h.la
  obtain ⟨G, g1, g2, g3, g4⟩ := h.bg
  exact ⟨h.nd, by rw [e2]; exact h.cs, by rw [b5]; exact h.m, by rw [e1]; exact h.mo, h.co, h.od, by rw [b1]; exact h.sh, by rw [b2]; exact h.wa, by rw [b3]; exact h.hi, by rw [b4]; exact h.fl, by rw [e7]; exact h.lg, by rw [b7]; exact h.rg, by rw [b8]; exact h.ft, h.ln, h.wk, h.rt, h.st, by rw [b6]; exact h.sp, by rw [e3]; exact h.tu, by rw [e4]; exact h.ho,
    ⟨L, l1, l2.nd, l2.nm, fun z n hz => l2.eq z n (b9 z n hz)⟩, ⟨G, g1, g2, g3, g4.nd, g4.nm, by rw [e7]; exact g4.ln, by rw [e8, b5]; exact g4.eq⟩, by rw [e5]; exact h.tm, by rw [e6]; exact h.dn⟩
theorem MHAt.keep (h : MHAt K H A P T X) {N : List Addr} (f : Fr N H H') (n : ∀ a ∈ A.own, a ∉ N) : MHAt K H' A P T X := by
  obtain ⟨ylg, elg, alg⟩ := h.lg
  obtain ⟨yrg, erg, arg⟩ := h.rg
  obtain ⟨yft, eft, aft⟩ := h.ft
  obtain ⟨L, l1, l2⟩ := h.la
  obtain ⟨G, g1, g2, g3, g4⟩ := h.bg
  have c : ∀ a ∈ A.cells, a ∉ N := fun a ha => n a (List.mem_append_left _ ha)
  have r : ∀ a ∈ A.bl ++ A.Ds.flatMap CA.own, a ∉ N := fun a ha => n a (List.mem_append_right _ ha)
  have k1 : ∀ a ∈ A.bl, a ∉ N := fun a ha => r a (List.mem_append_left _ ha)
  exact ⟨h.nd, h.cs.keep f fun a ha => r a (List.mem_append_right _ ha), f.at h.m (c _ (by simp [MD.cells])), f.at h.mo (c _ (by simp [MD.cells])), f.at h.co (c _ (by simp [MD.cells])), f.at h.od (c _ (by simp [MD.cells])), f.at h.sh (c _ (by simp [MD.cells])), f.at h.wa (c _ (by simp [MD.cells])), f.at h.hi (c _ (by simp [MD.cells])), f.at h.fl (c _ (by simp [MD.cells])), ⟨ylg, f.at elg (c _ (by simp [MD.cells])), alg.tk f.tk (tupds_map tupd_he _)⟩, ⟨yrg, f.at erg (c _ (by simp [MD.cells])), arg.tk f.tk (tupds_map tupd_rg _)⟩, ⟨yft, f.at eft (c _ (by simp [MD.cells])), aft.tk f.tk (tupds_map tupd_ft _)⟩, dictOf_fr h.ln f (c _ (by simp [MD.cells])) tupd_ln3, dictOf_fr h.wk f (c _ (by simp [MD.cells])) tupd_wk2, dictOf_fr h.rt f (c _ (by simp [MD.cells])) (tupd_route T), dictOf_fr h.st f (c _ (by simp [MD.cells])) tupd_sw, f.at h.sp (c _ (by simp [MD.cells])), f.at h.tu (c _ (by simp [MD.cells])), f.at h.ho (c _ (by simp [MD.cells])), ⟨L, f.at l1 (c _ (by simp [MD.cells])), l2.nd, l2.nm, l2.eq⟩, ⟨G, f.at g1 (c _ (by simp [MD.cells])), g2, g3.keep f k1, g4.nd, g4.nm, g4.ln, g4.eq⟩, f.at h.tm (c _ (by simp [MD.cells])), f.at h.dn (c _ (by simp [MD.cells]))⟩
theorem MHAt.same (h : MHAt K H A P T X) (s : Same H H') : MHAt K H' A P T X := h.keep (N := []) s.fr (by simp)
theorem mh_same (s : Same H H') (h : MHAt K H A P T X) : MHAt K H' A P T X := h.same s
theorem MHAt.ex (h : MHAt K H A P T X) : ∀ a ∈ A.own, H a ≠ none := by
  obtain ⟨ylg, elg, alg⟩ := h.lg
  obtain ⟨yrg, erg, arg⟩ := h.rg
  obtain ⟨yft, eft, aft⟩ := h.ft
  obtain ⟨L, l1, l2⟩ := h.la
  obtain ⟨G, g1, g2, g3, g4⟩ := h.bg
  obtain ⟨_, e1, _⟩ := h.ln.at_
  obtain ⟨_, e2, _⟩ := h.wk.at_
  obtain ⟨_, e3, _⟩ := h.rt.at_
  obtain ⟨_, e4, _⟩ := h.st.at_
  intro a ha
  rcases List.mem_append.mp ha with ha | ha
  · simp only [MD.cells, List.mem_cons, List.not_mem_nil, or_false] at ha
    rcases ha with rfl | rfl | rfl | rfl | rfl | rfl | rfl | rfl | rfl | rfl | rfl | rfl | rfl | rfl | rfl | rfl | rfl | rfl | rfl | rfl | rfl | rfl
    · simp [h.m]
    · simp [h.mo]
    · simp [h.co]
    · simp [h.od]
    · simp [h.sh]
    · simp [h.wa]
    · simp [h.hi]
    · simp [h.fl]
    · simp [elg]
    · simp [erg]
    · simp [eft]
    · simp [e1]
    · simp [e2]
    · simp [e3]
    · simp [e4]
    · simp [h.sp]
    · simp [h.tu]
    · simp [h.ho]
    · simp [l1]
    · simp [g1]
    · simp [h.tm]
    · simp [h.dn]
  · rcases List.mem_append.mp ha with ha | ha
    · exact g3.ex a ha
    · exact h.cs.ex a ha
end
end Z
set_option maxHeartbeats 1000000
namespace Z
open PySem PySem.Spec PyProof.Rows L2
open He (ga ma)
end Z
set_option maxHeartbeats 1000000
namespace Z
open PySem PySem.Spec PyProof.Rows L2
open He (ga ma)
end Z
set_option maxHeartbeats 1000000
namespace Z
open PySem PySem.Spec PyProof.Rows L2
open He (ga ma)
structure NewG (H H' : Hp) (G : List Addr) : Prop where
  nd : G.Nodup
  no : ∀ a ∈ G, H a = none
  ex : ∀ a ∈ G, H' a ≠ none
theorem Fr.ex {A : List Addr} {H H' : Hp} {a : Addr} (f : Fr A H H') (h : H a ≠ none) : H' a ≠ none := fun e => h (f.back e)
theorem NewG.app {A B : List Addr} {H H1 H2 : Hp} {G1 G2 : List Addr} (x : NewG H H1 G1) (y : NewG H1 H2 G2) (f : Fr A H H1) (g : Fr B H1 H2) : NewG H H2 (G1 ++ G2) := by
  refine ⟨List.nodup_append.mpr ⟨x.nd, y.nd, fun a ha b hb e => x.ex a ha (by rw [e]; exact y.no b hb)⟩, fun a ha => ?_, fun a ha => ?_⟩
  · rcases List.mem_append.mp ha with h | h
    · exact x.no a h
    · exact f.back (y.no a h)
  · rcases List.mem_append.mp ha with h | h
    · exact g.ex (x.ex a h)
    · exact y.ex a h
theorem NewG.nil {H H' : Hp} : NewG H H' [] := ⟨.nil, by simp, by simp⟩
theorem NewG.on {A : List Addr} {H H1 H2 : Hp} {G : List Addr} (x : NewG H H1 G) (f : Fr A H1 H2) : NewG H H2 G := ⟨x.nd, x.no, fun a ha => f.ex (x.ex a ha)⟩
theorem s_repT {H : Hp} {a : Addr} {Q : VK} {xs : List V} {k : Int} (h : H a = some (.lst xs)) (h0 : 0 ≤ k) (h1 : k ≤ 1000) (hl : xs.length ≤ 1000) (q : ∀ p, H p = none → Q (.ref p) (upd H p (.lst (List.replicate k.toNat xs).flatten))) : rRep (.ref a) (.int k) H Q := by
  have h2 : xs.length * k.toNat ≤ 1000 * 1000 := Nat.mul_le_mul hl (by omega)
  exact ⟨a, k, xs, rfl, rfl, h, by omega, by omega, by rw [sizeLine_eq]; omega, q⟩
theorem CoresAt.snoc {K : Fg} {H : Hp} {p : Addr} {D : CA} {C : Cr} (c : CoreAt K H p D C) : ∀ {Ds : List CA} {Cs : List Cr}, CoresAt K H p Ds Cs → CoresAt K H p (Ds ++ [D]) (Cs ++ [C])
  | _, _, .nil => .cons c .nil
  | _, _, .cons h t => .cons h (t.snoc c)
end Z
set_option maxHeartbeats 1000000
namespace Z
open PySem PySem.Spec PyProof.Rows L2
open He (ga ma)
end Z
namespace Z
open PySem PySem.Spec PyProof.Rows L2
open He (ga ma)
end Z
set_option maxHeartbeats 1000000
namespace Z
open PySem PySem.Spec PyProof.Rows L2
end Z
set_option maxHeartbeats 1000000
namespace Z
open PySem PySem.Spec PyProof.Rows L2
open He (ga ma)
theorem LOk.set {P : Pl} {B : Bd} {L : List (Str × Int)} (h : LOk P B L) {z : Str} {n : Int} (hz : z ∈ P.names) {B' : Bd} (e : ∀ y k, getK B'.wanting y = some k → if y = z then k = n else getK B.wanting y = some k) : LOk P B' (setK L z n) := by
  refine ⟨?_, fun x hx => ?_, fun y k hy => ?_⟩
  · rw [setK_keys]
    split
    · exact h.nd
    · rename_i hn
      rw [List.nodup_append]
      exact ⟨h.nd, by simp, fun a ha b hb e2 => by rw [List.mem_singleton.mp hb] at e2; rw [e2] at ha; exact hn ha⟩
  · have : x.1 ∈ (setK L z n).map (·.1) := List.mem_map_of_mem hx
    rw [setK_keys] at this
    split at this
    · obtain ⟨y, hy, e⟩ := List.mem_map.mp this
      rw [← e]
      exact h.nm y hy
    · rcases List.mem_append.mp this with k | k
      · obtain ⟨y, hy, e⟩ := List.mem_map.mp k
        rw [← e]
        exact h.nm y hy
      · rw [List.mem_singleton.mp k]
        exact hz
  · rw [getK_set]
    have := e y k hy
    split at this
    · rename_i e1
      rw [if_pos e1, this]
    · rename_i e1
      rw [if_neg e1]
      exact h.eq y k this
end Z
set_option maxHeartbeats 1000000
namespace Z
open PySem PySem.Spec PyProof.Rows L2
open He (ga ma)
def SameD (D' D : CA) : Prop := D'.c = D.c ∧ D'.fr = D.fr ∧ D'.jo = D.jo
theorem SameD.trans {A B C : CA} (h : SameD A B) (k : SameD B C) : SameD A C := ⟨h.1.trans k.1, h.2.1.trans k.2.1, h.2.2.trans k.2.2⟩
end Z
set_option maxHeartbeats 1000000
namespace Z
open PySem PySem.Spec PyProof.Rows L2
open He (ga ma)
end Z
set_option maxHeartbeats 1000000
namespace Z
open PySem PySem.Spec PyProof.Rows L2
open He (ga ma)
theorem getR_set {l : List (Str × List Int)} {z y : Str} {n : List Int} : getR (setR l z n) y = if y = z then some n else getR l y := by
  unfold setR
  split
  · rename_i hz
    induction l with
    | nil => simp at hz
    | cons x l ih =>
      unfold getR at ih ⊢
      rw [List.map_cons]
      by_cases e : x.1 = z
      · rw [if_pos e]
        by_cases k : y = z
        · rw [List.find?_cons_of_pos (by simpa using k.symm), if_pos k]
          rfl
        · rw [List.find?_cons_of_neg (by simpa using fun q : z = y => k q.symm), if_neg k, List.find?_cons_of_neg (by rw [e]; simpa using fun q : z = y => k q.symm)]
          by_cases hz2 : z ∈ l.map (·.1)
          · have := ih hz2
            rw [if_neg k] at this
            exact this
          · have hm : (l.map fun x => if x.1 = z then (z, n) else x) = l := by
              conv => rhs; rw [← List.map_id l]
              apply List.map_congr_left
              intro a ha
              rw [if_neg fun q => hz2 (by rw [← q]; exact List.mem_map_of_mem ha)]
              rfl
            rw [hm]
      · rw [if_neg e]
        by_cases k : x.1 = y
        · have hyz : ¬ y = z := fun q => e (k.trans q)
          rw [List.find?_cons_of_pos (by simpa using k), if_neg hyz, List.find?_cons_of_pos (by simpa using k)]
        · rw [List.find?_cons_of_neg (by simpa using k), List.find?_cons_of_neg (by simpa using k)]
          refine ih ?_
          rw [List.map_cons] at hz
          exact (List.mem_cons.mp hz).resolve_left fun q => e q.symm
  · rename_i hz
    unfold getR
    rw [List.find?_append]
    by_cases k : y = z
    · have : l.find? (fun x => decide (x.1 = y)) = none := List.find?_eq_none.mpr fun x hx => by
        have : ¬ x.1 = y := fun q => hz (by rw [← k, ← q]; exact List.mem_map_of_mem hx)
        simpa using this
      rw [this, if_pos k]
      simp [k]
    · rw [if_neg k]
      have : ¬ z = y := fun q => k q.symm
      simp [this]
theorem filter_later {l : List Int} {a b : Int} (h : a ≤ b) : (l.filter fun k => decide (k > a)).filter (fun k => decide (k > b)) = l.filter fun k => decide (k > b) := by
  rw [List.filter_filter]
  refine List.filter_congr fun x _ => ?_
  by_cases q : x > b
  · have : x > a := by omega
    simp [q, this]
  · simp [q]
theorem GOk.add {P : Pl} {T : HPl} {X : Hs} {G : List (Str × List Int)} (g : GOk P T X G) (tok : T.Ok P) {z : Str} (hz : z ∈ P.names) (hl : ∀ x ∈ G, x.2.length + 1 ≤ X.ev.length) (h1 : 1 ≤ X.ev.length) {R : List (Str × List Int)} (hR : R = match T.sms.find? fun s => s.ln == z with
  | none => X.rcs
  | some s => setR X.rcs z (s.ticks X)) : GOk P T { X with rcs := R } (setR G z ((getR G z).getD [] ++ [X.B.time])) := by
  refine ⟨setR_nd g.nd, fun x hx => ?_, fun x hx => ?_, fun s hs t ht => ?_⟩
  · rcases setR_mem hx with h | h
    · exact g.nm x h
    · rw [h]
      exact hz
  · rcases setR_mem hx with h | h
    · exact g.ln x h
    · rw [h]
      show ((getR G z).getD [] ++ [X.B.time]).length ≤ _
      rw [List.length_append, List.length_singleton]
      cases e : getR G z with
      | none => exact h1
      | some ns => exact hl _ (getR_mem e)
  · have ht : X.B.time ≤ t := ht
    have gq := g.eq s hs t ht
    show ((getR R s.ln).getD []).filter _ = _
    rw [getR_set]
    by_cases e : s.ln = z
    · have hf : T.sms.find? (fun s => s.ln == z) = some s := by
        have := find_nd (f := fun s : Sm => s.ln) tok.sn hs
        rw [e] at this
        exact this
      rw [hf] at hR
      dsimp only at hR
      rw [hR, getR_set, if_pos e, if_pos e]
      show ((s.ticks X).filter _) = (_ ++ [X.B.time]).filter _
      unfold Sm.ticks
      rw [List.filter_append, List.filter_append, filter_later (by omega), gq, e]
    · rw [if_neg e, ← gq, hR]
      cases T.sms.find? (fun s => s.ln == z) with
      | none => rfl
      | some s' =>
        dsimp only
        rw [getR_set, if_neg e]
theorem GOk.ticks {P : Pl} {T : HPl} {X : Hs} {G : List (Str × List Int)} (g : GOk P T X G) (tok : T.Ok P) {z : Str} {s : Sm} (hf : T.sms.find? (fun s => s.ln == z) = some s) : ((getR G z).getD [] ++ [X.B.time]).filter (fun k => decide (k > X.B.time - s.win)) = s.ticks X := by
  obtain ⟨hm, e⟩ := find_some hf
  have := g.eq s hm X.B.time (Int.le_refl _)
  rw [e] at this
  unfold Sm.ticks
  rw [List.filter_append, ← this, e]
  have := (tok.sb s hm).2.2.1
  have : X.B.time > X.B.time - s.win := by omega
  simp [this]
end Z
set_option maxHeartbeats 1000000
namespace Z
open PySem PySem.Spec PyProof.Rows L2
open He (ga ma)
def AtOk (P : Pl) (f : Frm) : Prop := ∃ s, (P.ln f.ln).st[f.st]? = some s ∧ ((s.1 = "run" ∧ ∃ n : Int, s.2 = .inl n ∧ (f.tk : Int) < n) ∨ (s.1 = "await" ∧ f.tk = 0))
structure TkC (P : Pl) (C : Cr) : Prop where
  rt : ∀ f ∈ C.frames, AtOk P f
  jb : ∀ j ∈ C.jobs, (j.2 : Int) < (P.wk j.1).tk
theorem passL_tk {P : Pl} (ok : P.Ok) {fs : List Frm} (hfs : ∀ f ∈ fs, AtOk P f) {rest : List (Str × Key)} : ∀ {f : Frm} {lim : Int} {jobs : List (Str × Nat)} {B : Bd}, f.ln ∈ P.names → f.tk = 0 → (∀ j ∈ jobs, (j.2 : Int) < (P.wk j.1).tk) →
    rest = (P.ln f.ln).st.drop f.st → TkC P (passL P fs f lim jobs B rest).1 := by
  induction rest with
  | nil =>
    intro f lim jobs B hn ht hj hr
    exact ⟨hfs, hj⟩
  | cons s r ih =>
    intro f lim jobs B hn ht hj hr
    have hg : (P.ln f.ln).st[f.st]? = some s := by
      rw [← List.head?_drop, ← hr]
      rfl
    have hdr : r = (P.ln f.ln).st.drop (f.st + 1) := by
      rw [← List.tail_drop, ← hr]
      rfl
    have sis := ok.step (ok.ln_mem hn).1 (List.mem_of_getElem? hg)
    unfold passL
    cases e : stops B s with
    | true =>
      rw [if_pos rfl]
      refine ⟨fun g hgm => ?_, hj⟩
      rcases List.mem_append.mp hgm with hgm | hgm
      · exact hfs g hgm
      · rw [List.mem_singleton.mp hgm]
        rcases stops_yes e with h | h
        · obtain ⟨n, h1, h2, _⟩ := sis.run_int h
          exact ⟨s, hg, .inl ⟨h, n, h1, by rw [ht]; omega⟩⟩
        · exact ⟨s, hg, .inr ⟨h, ht⟩⟩
    | false =>
      rw [if_neg (by simp)]
      refine ih (f := { f with st := f.st + 1 }) hn ht (fun j hj' => ?_) hdr
      unfold stepFx at hj'
      by_cases h1 : s.1 = "bar"
      · rw [if_pos h1] at hj'; exact hj j hj'
      · rw [if_neg h1] at hj'
        by_cases h2 : s.1 = "later"
        · rw [if_pos h2] at hj'
          obtain ⟨z, hz, hzw⟩ := sis.later_in h2
          unfold leave at hj'
          split at hj'
          · exact hj j hj'
          · rcases List.mem_append.mp hj' with hj' | hj'
            · exact hj j hj'
            · rw [List.mem_singleton.mp hj', hz]
              exact ok.wk_pos hzw
        · rw [if_neg h2] at hj'
          split at hj' <;> exact hj j hj'
theorem pass_tk {P : Pl} (ok : P.Ok) {fs : List Frm} {f : Frm} {lim : Int} {jobs : List (Str × Nat)} {B : Bd} (hfs : ∀ f ∈ fs, AtOk P f) (hn : f.ln ∈ P.names) (ht : f.tk = 0) (hj : ∀ j ∈ jobs, (j.2 : Int) < (P.wk j.1).tk) : TkC P (pass P fs f lim jobs B).1 := passL_tk ok hfs hn ht hj rfl
end Z
set_option maxHeartbeats 1000000
namespace Z
open PySem PySem.Spec PyProof.Rows L2
open He (ga ma)
end Z
set_option maxHeartbeats 1000000
namespace Z
open PySem PySem.Spec PyProof.Rows L2
open He (ga ma)
end Z
set_option maxHeartbeats 1000000
namespace Z
open PySem PySem.Spec PyProof.Rows L2
open He (ga ma)
def Hs.Tk (P : Pl) (X : Hs) : Prop := ∀ C ∈ X.cs, TkC P C
section
variable {P : Pl} {T : HPl} {X : Hs}
theorem Hs.Tk.core (h : X.Tk P) {p : Nat} (hp : p < X.cs.length) : TkC P (X.core p) := h _ (List.mem_of_getElem? (core_get hp))
theorem Hs.Tk.cs (h : X.Tk P) {Y : Hs} (e : Y.cs = X.cs) : Y.Tk P := fun C hC => h C (by rw [← e]; exact hC)
theorem Hs.Tk.set (h : X.Tk P) {Y : Hs} {p : Nat} {C : Cr} (hC : TkC P C) (e : Y.cs = X.cs.set p C) : Y.Tk P := fun D hD => by
  rw [e] at hD
  rcases List.mem_or_eq_of_mem_set hD with k | k
  · exact h D k
  · rw [k]
    exact hC
theorem Hs.Tk.goes (h : X.Tk P) {p : Nat} {r : Cr × Bd × List Ev} (hr : TkC P r.1) : (X.goes p r).Tk P := h.set (p := p) hr (by
  unfold Hs.goes
  rw [noteAll_same.cs])
theorem Hs.Tk.place (h : X.Tk P) : (X.place P T).Tk P := h.cs place_parts.2.1
theorem Hs.Tk.take (ok : P.Ok) (o : X.Ok P T) (h : X.Tk P) {p : Nat} (hp : p < X.cs.length) : (X.take P T p).Tk P := by
  unfold Hs.take
  split
  · exact h
  · rename_i z l e
    split
    · obtain ⟨hz, _⟩ := readyL_mem (P := P) (X := X) (p := p) (z := z) (by rw [e]; simp)
      have hb : (X.begin P T p z).Tk P := h.cs begin_parts.2.1
      refine hb.goes ?_
      unfold Hs.beginR
      rw [begin_core]
      exact pass_tk ok (h.core hp).rt hz rfl (h.core hp).jb
    · exact h
theorem TkC.move {C : Cr} (h : TkC P C) {j : Str × Nat} (hj : (j.2 : Int) < (P.wk j.1).tk) : TkC P { C with jobs := moveJ C.jobs j } := by
  refine ⟨h.rt, fun x hx => ?_⟩
  have hx : x ∈ moveJ C.jobs j := hx
  unfold moveJ leave at hx
  split at hx
  · rcases List.mem_append.mp hx with hx | hx
    · exact h.jb x hx
    · rw [List.mem_singleton.mp hx]
      exact hj
  · split at hx
    · exact h.jb x hx
    · rcases List.mem_append.mp hx with hx | hx
      · exact h.jb x hx
      · rw [List.mem_singleton.mp hx]
        show ((0 : Nat) : Int) < _
        dsimp only
        omega
theorem tkc_empty : TkC P ⟨[], 0, []⟩ := ⟨by simp, by simp⟩
theorem Hs.Tk.coreA (h : X.Tk P) (p : Nat) : TkC P (X.core p) := by
  by_cases hp : p < X.cs.length
  · exact h.core hp
  · unfold Hs.core
    rw [List.getElem?_eq_none (by omega)]
    exact tkc_empty
theorem Hs.Tk.move1 (h : X.Tk P) {g : Nat} {j : Str × Nat} (hj : (j.2 : Int) < (P.wk j.1).tk) : (X.move1 g j).Tk P := h.set (p := g) (C := { X.core g with jobs := moveJ (X.core g).jobs j }) ((h.coreA g).move hj) (by
  rw [move1_eq]
  rfl)
theorem Hs.Tk.moved (h : X.Tk P) {p : Nat} (ks : List Nat) : (X.moved P p ks).Tk P := by
  have hl : (X.leaves p).Tk P := h.cs rfl
  unfold Hs.moved
  generalize X.leaves p = Y at *
  have : ∀ (Z : Hs) (g : Nat), Z.Tk P → (ks.foldl (fun Y k => match (X.core p).jobs[k]? with
      | some j => Y.move1 g j
      | none => Y) Z).Tk P := by
    intro Z g
    induction ks generalizing Z with
    | nil => exact fun z => z
    | cons k ks ih =>
      intro z
      rw [List.foldl_cons]
      refine ih _ ?_
      split
      · rename_i j e
        exact z.move1 ((h.coreA p).jb j (List.mem_of_getElem? e))
      · exact z
  exact this _ _ hl
theorem Hs.Tk.off (h : X.Tk P) {p : Nat} : (X.off P p).Tk P := by
  rw [off_eq]
  exact (h.moved (p := p) (places P (X.core p).jobs)).set (p := p) (C := { X.core p with jobs := [] }) ⟨(h.coreA p).rt, by simp⟩ rfl
end
end Z
set_option maxHeartbeats 1000000
namespace Z
open PySem PySem.Spec PyProof.Rows L2
open He (ga ma)
end Z
set_option maxHeartbeats 1000000
namespace Z
open PySem PySem.Spec PyProof.Rows L2
open He (ga ma)
end Z
set_option maxHeartbeats 1000000
namespace Z
open PySem PySem.Spec PyProof.Rows L2
open He (ga ma)
end Z
set_option maxHeartbeats 1000000
namespace Z
open PySem PySem.Spec PyProof.Rows L2
open He (ga ma)
structure Hs.Tell (P : Pl) (T : HPl) (X : Hs) : Prop where
  pok : P.Ok
  tok : T.Ok P
  ok : X.Ok P T
  pt : pot P X ≤ 14000
  ev : X.ev.length < 15990000
section
variable {P : Pl} {T : HPl} {X : Hs}
theorem Hs.Tell.n6 (h : X.Tell P T) : X.cs.length ≤ 6 := by rw [h.ok.cn]; exact h.tok.n6
theorem Hs.Tell.fr (h : X.Tell P T) : ∀ C ∈ X.cs, C.frames.length ≤ 1000 := fun C hC => by
  obtain ⟨i, hi, e⟩ := List.mem_iff_getElem.mp hC
  have := h.ok.frl h.pok hi
  have e2 : X.core i = C := by
    have := core_get hi
    rw [List.getElem?_eq_getElem hi, e] at this
    exact (Option.some.inj this).symm
  rw [e2] at this
  omega
theorem Hs.Tell.jn (h : X.Tell P T) {p : Nat} (hp : p < X.cs.length) : ∀ j ∈ (X.core p).jobs, j.1 ∈ P.wnames := (h.ok.jok _ (List.mem_of_getElem? (core_get hp))).sub
theorem Hs.Tell.rl (h : X.Tell P T) : X.B.rung.length ≤ 14000 := by
  have := h.pt
  unfold pot at this
  omega
end
end Z
set_option maxHeartbeats 1000000
namespace Z
open PySem PySem.Spec PyProof.Rows L2
open He (ga ma)
def NmOk (P : Pl) (z : Str) : Prop := z ∈ P.names ∨ z ∈ P.wnames
def hvW : List Str := ["place", "begin", "end", "done", "moved"]
def HevOk (P : Pl) : HEv → Prop
  | .four w _ z _ => w ∈ hvW ∧ NmOk P z
  | .held _ z => z ∈ P.names
  | .off _ _ => True
def EwOk (P : Pl) (es : List Ev) : Prop := ∀ e ∈ es, e.1 ∈ hvW ∧ NmOk P e.2
def RgOkN (P : Pl) (B : Bd) : Prop := ∀ x ∈ B.rung, x.2 ∈ P.names
structure Hs.Laid (P : Pl) (X : Hs) : Prop where
  ev : ∀ e ∈ X.ev, HevOk P e
  rg : RgOkN P X.B
section
variable {P : Pl} {T : HPl} {X : Hs}
theorem EwOk.nil : EwOk P [] := by intro e h; simp at h
theorem EwOk.app {a b : List Ev} (h : EwOk P a) (k : EwOk P b) : EwOk P (a ++ b) := fun e he => (List.mem_append.mp he).elim (h e) (k e)
theorem EwOk.one {w z : Str} (h : w ∈ hvW) (k : NmOk P z) : EwOk P [(w, z)] := fun e he => by
  rw [List.mem_singleton.mp he]
  exact ⟨h, k⟩
theorem RgOkN.ring {B : Bd} (h : RgOkN P B) {z : Str} (hz : z ∈ P.names) : RgOkN P (B.ring P z).1 := by
  have ad : ∀ f : Ft, ∀ x ∈ B.rung ++ [(B.time, z)], x.2 ∈ P.names := fun _ x hx => by
    rcases List.mem_append.mp hx with hx | hx
    · exact h x hx
    · rw [List.mem_singleton.mp hx]
      exact hz
  unfold Bd.ring
  split
  · split
    · exact ad .op
    · exact ad .op
  · split
    · exact h
    · exact h
theorem RgOkN.carry {B : Bd} (h : RgOkN P B) {s : Str × Key} (hs : CarryIs P s) : RgOkN P (B.carry P s).1 := by
  unfold Bd.carry
  split
  · rename_i e
    rcases hs with ⟨_, z, hz, hn⟩ | ⟨hw, _⟩
    · rw [hz]
      exact h.ring hn
    · rw [e] at hw
      exact absurd hw (by decide)
  · repeat (first | exact h | split)
theorem passL_laid (ok : P.Ok) {fs : List Frm} {rest : List (Str × Key)} : ∀ {f : Frm} {lim : Int} {jobs : List (Str × Nat)} {B : Bd}, f.ln ∈ P.names → (∀ s ∈ rest, StepIs P s) → RgOkN P B → EwOk P (passL P fs f lim jobs B rest).2.2 ∧ RgOkN P (passL P fs f lim jobs B rest).2.1 := by
  induction rest with
  | nil =>
    intro f lim jobs B hn _ hB
    exact ⟨EwOk.one (by decide) (.inl hn), hB⟩
  | cons s r ih =>
    intro f lim jobs B hn hs hB
    unfold passL
    cases e : stops B s with
    | true =>
      rw [if_pos rfl]
      exact ⟨EwOk.nil, hB⟩
    | false =>
      rw [if_neg (by simp)]
      refine ih (f := { f with st := f.st + 1 }) hn (fun x hx => hs x (List.mem_cons_of_mem _ hx)) ?_
      unfold stepFx
      have hr : s.1 ≠ "run" := fun k => by
        unfold stops at e
        rw [decide_eq_true k] at e
        cases e
      by_cases h1 : s.1 = "bar"
      · rw [if_pos h1]; exact hB
      · rw [if_neg h1]
        by_cases h2 : s.1 = "later"
        · rw [if_pos h2]; exact hB
        · rw [if_neg h2]
          by_cases h3 : s.1 = "await"
          · rw [if_neg (by simp [h3])]; exact hB
          · rw [if_pos h3]
            exact hB.carry ((hs s (by simp)).carry hr h1 h2 h3)
theorem pass_laid (ok : P.Ok) {fs : List Frm} {f : Frm} {lim : Int} {jobs : List (Str × Nat)} {B : Bd} (hn : f.ln ∈ P.names) (hB : RgOkN P B) : EwOk P (pass P fs f lim jobs B).2.2 ∧ RgOkN P (pass P fs f lim jobs B).2.1 :=
  passL_laid ok hn (fun s hs => ok.step (ok.ln_mem hn).1 (List.mem_of_mem_drop hs)) hB
theorem Hs.Laid.add (h : X.Laid P) {Y : Hs} {e : HEv} (he : HevOk P e) (e1 : Y.ev = X.ev ++ [e]) (e2 : Y.B.rung = X.B.rung) : Y.Laid P := by
  refine ⟨fun x hx => ?_, fun x hx => h.rg x (by rw [← e2]; exact hx)⟩
  rw [e1] at hx
  rcases List.mem_append.mp hx with hx | hx
  · exact h.ev x hx
  · rw [List.mem_singleton.mp hx]
    exact he
theorem Hs.Laid.to (h : X.Laid P) {Y : Hs} (e1 : Y.ev = X.ev) (e2 : Y.B.rung = X.B.rung) : Y.Laid P := ⟨by rw [e1]; exact h.ev, fun x hx => h.rg x (by rw [← e2]; exact hx)⟩
theorem Hs.Laid.noteAll {p : Nat} {es : List Ev} (he : EwOk P es) : ∀ {X : Hs}, X.Laid P → (X.noteAll p es).Laid P := by
  induction es with
  | nil => exact fun h => h
  | cons e es ih =>
    intro X h
    rw [noteAll_cons]
    refine ih (fun x hx => he x (List.mem_cons_of_mem _ hx)) ?_
    have hk := he e (by simp)
    unfold Hs.noteE
    split
    · exact h.add (e := .four e.1 X.B.time e.2 p) hk rfl rfl
    · exact h.add (e := .four e.1 X.B.time e.2 p) hk rfl rfl
theorem Hs.Laid.place1 (h : X.Laid P) {z : Str} (hz : z ∈ P.names) : (X.place1 T z).Laid P := by
  unfold Hs.place1
  split
  · split
    · exact h
    · rename_i k _
      exact (h.to turned_ev.1 (by rw [turned_ev.2])).add (X := X.turned T z k) (Y := (X.turned T z k).putLine z ((T.way z).2.getD k 0)) (e := .four "place" (X.turned T z k).B.time z ((T.way z).2.getD k 0 : Nat)) ⟨by decide, .inl hz⟩ rfl rfl
  · exact h
theorem Hs.Laid.place (h : X.Laid P) : (X.place P T).Laid P := by
  unfold Hs.place
  have : ∀ z ∈ P.order, z ∈ P.names := fun z hz => P.order_perm.mem_iff.mp hz
  generalize P.order = l at this
  induction l generalizing X with
  | nil => exact h
  | cons z l ih =>
    rw [List.foldl_cons]
    exact ih (h.place1 (this z (by simp))) fun x hx => this x (List.mem_cons_of_mem _ hx)
theorem Hs.Laid.goes (h : X.Laid P) {p : Nat} {r : Cr × Bd × List Ev} (h1 : EwOk P r.2.2) (h2 : RgOkN P r.2.1) : (X.goes p r).Laid P := by
  unfold Hs.goes
  exact Hs.Laid.noteAll h1 (X := { X with cs := X.cs.set p r.1, B := r.2.1 }) ⟨h.ev, h2⟩
theorem Hs.Laid.count (h : X.Laid P) {z : Str} (hz : z ∈ P.names) : (X.count T z).Laid P := by
  unfold Hs.count
  split
  · exact h
  · split
    · exact h.add (e := .held X.B.time z) hz rfl rfl
    · exact h.to rfl rfl
theorem Hs.Laid.begin (h : X.Laid P) {p : Nat} {z : Str} (hz : z ∈ P.names) : (X.begin P T p z).Laid P := by
  have h1 : ({ X.note "begin" z p with bs := bump X.bs z } : Hs).Laid P := h.add (e := .four "begin" X.B.time z (p : Nat)) ⟨by decide, .inl hz⟩ rfl rfl
  have h2 := h1.count (T := T) hz
  exact ⟨h2.ev, h.rg⟩
theorem Hs.Laid.take (ok : P.Ok) (h : X.Laid P) {p : Nat} : (X.take P T p).Laid P := by
  unfold Hs.take
  split
  · exact h
  · rename_i z l e
    split
    · obtain ⟨hz, _⟩ := readyL_mem (P := P) (X := X) (p := p) (z := z) (by rw [e]; simp)
      have hb := h.begin (T := T) (p := p) hz
      have hB : RgOkN P ((X.begin P T p z).B.begun z) := hb.rg
      obtain ⟨k1, k2⟩ := pass_laid ok (fs := ((X.begin P T p z).core p).frames) (f := ⟨z, 0, 0, ((X.begin P T p z).core p).limit⟩) (lim := ((X.begin P T p z).core p).limit) (jobs := ((X.begin P T p z).core p).jobs) hz hB
      exact hb.goes k1 k2
    · exact h
theorem Hs.Laid.off (h : X.Laid P) {p : Nat} (hj : ∀ j ∈ (X.core p).jobs, j.1 ∈ P.wnames) : (X.off P p).Laid P := by
  rw [off_eq]
  have hl : (X.leaves p).Laid P := h.add (e := .off X.B.time p) trivial rfl rfl
  have : ∀ (ks : List Nat) (g : Nat) (Z : Hs), Z.Laid P → (ks.foldl (fun Y k => match (X.core p).jobs[k]? with
      | some j => Y.move1 g j
      | none => Y) Z).Laid P := by
    intro ks g
    induction ks with
    | nil => exact fun Z z => z
    | cons k ks ih =>
      intro Z z
      rw [List.foldl_cons]
      refine ih _ ?_
      split
      · rename_i j e
        rw [move1_eq]
        exact z.add (e := .four "moved" Z.B.time j.1 (g : Nat)) ⟨by decide, .inr (hj j (List.mem_of_getElem? e))⟩ rfl rfl
      · exact z
  exact (this (places P (X.core p).jobs) ((X.leaves p).goal p) _ hl).to rfl rfl
theorem Hs.Laid.ring (h : X.Laid P) {z : Str} (hz : z ∈ P.names) : ({ X with B := (X.B.ring P z).1 } : Hs).Laid P := ⟨h.ev, h.rg.ring hz⟩
end
end Z
set_option maxHeartbeats 1000000
namespace Z
open PySem PySem.Spec PyProof.Rows L2
open He (ga ma)
def nmA : List Str := ["net", "disk", "a", "fan", "zz", "key", "b", "pen", "c", "flush", "heat", "ab", "d", "sweep", "x", "idle"]
theorem nmA_name : ∀ z ∈ nmA, isName (.str z) = true ∧ short (.str z) = true ∧ (PyData.str z).canLay0 = true := by decide +kernel
abbrev NK := List (Str × Str)
inductive FitSt (nk : NK) (ws : List Str) : Str × Key → Prop where
  | run {n : Int} (h1 : 1 ≤ n) (h2 : n ≤ 99) : FitSt nk ws ("run", .inl n)
  | bar {n : Int} (h1 : 0 ≤ n) (h2 : n ≤ 9) : FitSt nk ws ("bar", .inl n)
  | flag {w : Str} {n : Int} (hw : w ∈ (["set", "clear", "await"] : List Str)) (h1 : 0 ≤ n) (h2 : n ≤ 7) : FitSt nk ws (w, .inl n)
  | line {w : Str} {z : Str} (hw : w ∈ (["ring", "mask", "unmask"] : List Str)) (hz : z ∈ nk.map (·.1)) : FitSt nk ws (w, .inr z)
  | quiet {z : Str} (hz : (z, ("level" : Str)) ∈ nk) : FitSt nk ws ("quiet", .inr z)
  | later {z : Str} (hz : z ∈ ws) : FitSt nk ws ("later", .inr z)
structure FitLn (nk : NK) (ws : List Str) (l : Ln) : Prop where
  nm : l.nm ∈ nmA
  kd : l.kd = "edge" ∨ l.kd = "level"
  r1 : 1 ≤ l.rk
  r9 : l.rk ≤ 9
  ne : l.st ≠ []
  s8 : l.st.length ≤ 8
  st : ∀ s ∈ l.st, FitSt nk ws s
structure FitWk (w : Wk) : Prop where
  nm : w.nm ∈ nmA
  r1 : 1 ≤ w.rk
  r9 : w.rk ≤ 9
  t1 : 1 ≤ w.tk
  t9 : w.tk ≤ 99
def nkOf (ls : List Ln) : NK := ls.map fun l => (l.nm, l.kd)
theorem nk_names (ls : List Ln) : (nkOf ls).map (·.1) = ls.map (·.nm) := by
  unfold nkOf
  rw [List.map_map]
  rfl
theorem kinds_mem : ∀ {ls : List Ln}, (ls.map (·.nm)).Nodup → ∀ {z k : Str}, (z, k) ∈ nkOf ls → valV (ls.map fun l => ((.inr l.nm : Key), V.str l.kd)) (.inr z) = some (.str k)
  | [], _, _, _, h => by cases h
  | l :: ls, hn, z, k, h => by
    rw [List.map_cons, List.nodup_cons] at hn
    rcases List.mem_cons.mp h with e | h
    · cases e
      exact valV_pos rfl
    · have hne : ¬ l.nm = z := fun e => hn.1 (by
        rw [e]
        obtain ⟨y, hy, e2⟩ := List.mem_map.mp h
        cases e2
        exact List.mem_map_of_mem hy)
      rw [List.map_cons, valV_neg (fun q => hne (Sum.inr.inj q))]
      exact kinds_mem hn.2 h
theorem flatw {l : List Str} {z : Str} (h : z ∈ l) : inV (.str z) (l.map V.str) = true := by
  rw [inV_strs]
  exact decide_eq_true h
theorem stepX_fit {ls : List Ln} (hn : (ls.map (·.nm)).Nodup) {ws : List Str} {s : Str × Key} (h : FitSt (nkOf ls) ws s) : isStepX (ls.map fun l => ((.inr l.nm : Key), V.str l.kd)) (ws.map V.str) s.1 (kD s.2) = true := by
  have hmem : ∀ {z : Str}, z ∈ (nkOf ls).map (·.1) → (valV (ls.map fun l => ((.inr l.nm : Key), V.str l.kd)) (.inr z)).isSome = true := fun {z} hz => by
    obtain ⟨y, hy, rfl⟩ := List.mem_map.mp hz
    rw [kinds_mem hn (z := y.1) (k := y.2) hy]
    rfl
  cases h with
  | run h1 h2 => exact stepX_run h1 h2
  | bar h1 h2 =>
    rename_i n
    show isStepX _ _ "bar" (.int n) = true
    unfold isStepX
    rw [if_neg (by decide), if_neg (by decide), if_neg (by decide)]
    have : isIntD 0 9 (.int n) = true := decide_eq_true ⟨h1, h2⟩
    rw [this, decide_eq_true (show V.str "bar" = V.str "bar" from rfl), Bool.true_and, Bool.or_true]
  | flag hw h1 h2 =>
    rename_i w n
    have : isIntD 0 7 (.int n) = true := decide_eq_true ⟨h1, h2⟩
    simp only [List.mem_cons, List.not_mem_nil, or_false] at hw
    show isStepX _ _ w (.int n) = true
    rcases hw with rfl | rfl | rfl
    all_goals
      unfold isStepX
      rw [if_neg (by decide), if_neg (by decide), if_pos (by decide)]
      exact this
  | line hw hz =>
    rename_i w z
    have hz := hmem hz
    simp only [List.mem_cons, List.not_mem_nil, or_false] at hw
    show isStepX _ _ w (.str z) = true
    rcases hw with rfl | rfl | rfl
    all_goals
      unfold isStepX
      rw [if_pos (by decide)]
      dsimp only
      rw [hz, decide_eq_false (show ¬ V.str _ = V.str "quiet" by decide)]
      rfl
  | quiet hz =>
    rename_i z
    have e := kinds_mem hn hz
    show isStepX _ _ "quiet" (.str z) = true
    unfold isStepX
    rw [if_pos (by decide)]
    dsimp only
    rw [e]
    simp
  | later hz => exact stepX_later (flatw hz)
theorem short_key {nk : NK} {ws : List Str} {s : Str × Key} (h : FitSt nk ws s) (hk : ∀ z ∈ nk.map (·.1), z ∈ nmA) (hw : ∀ z ∈ ws, z ∈ nmA) : short (dSt s) = true := by
  have st : ∀ {w : Str} {z : Str}, short (.str w) = true → z ∈ nmA → short (dSt (w, (.inr z : Key))) = true := fun {w z} h1 hz => by
    show (short (.str w) && (short (.str z) && true)) = true
    rw [h1, (nmA_name z hz).2.1]
    rfl
  cases h with
  | run _ _ => exact (show (short (.str "run") && (true && true)) = true by decide +kernel)
  | bar _ _ => exact (show (short (.str "bar") && (true && true)) = true by decide +kernel)
  | flag hw _ _ =>
    simp only [List.mem_cons, List.not_mem_nil, or_false] at hw
    rcases hw with rfl | rfl | rfl
    · exact (show (short (.str "set") && (true && true)) = true by decide +kernel)
    · exact (show (short (.str "clear") && (true && true)) = true by decide +kernel)
    · exact (show (short (.str "await") && (true && true)) = true by decide +kernel)
  | line hw hz =>
    have hz := hk _ hz
    simp only [List.mem_cons, List.not_mem_nil, or_false] at hw
    rcases hw with rfl | rfl | rfl
    · exact st (by decide +kernel) hz
    · exact st (by decide +kernel) hz
    · exact st (by decide +kernel) hz
  | quiet hz => exact st (by decide +kernel) (hk _ (List.mem_map.mpr ⟨_, hz, rfl⟩))
  | later hz => exact st (by decide +kernel) (hw _ hz)
theorem plan_fit {ls : List Ln} {ws : List Wk} (hl : ∀ l ∈ ls, FitLn (nkOf ls) (ws.map (·.nm)) l) (hn : (ls.map (·.nm)).Nodup) (hne : ls ≠ []) (h12 : ls.length ≤ 12) (hwn : (ws.map (·.nm)).Nodup) (hw8 : ws.length ≤ 8) (hwk : ∀ w ∈ ws, FitWk w) : Pl.Ok ⟨ls, ws⟩ := by
  have hk : ∀ z ∈ (nkOf ls).map (·.1), z ∈ nmA := fun z hz => by
    rw [nk_names] at hz
    obtain ⟨l, h, rfl⟩ := List.mem_map.mp hz
    exact (hl l h).nm
  have hw : ∀ z ∈ ws.map (·.nm), z ∈ nmA := fun z hz => by
    obtain ⟨l, h, rfl⟩ := List.mem_map.mp hz
    exact (hwk l h).nm
  refine ⟨hne, h12, hw8, fun l h => ?_, fun w h => ?_, hn, hwn, fun l h s hs => ?_, fun l h => ?_, fun w h => ?_⟩
  · have g := hl l h
    have h1 := (nmA_name _ g.nm).1
    show (isName (.str l.nm) && (isKind (.str l.kd) && (isIntD 1 9 (.int l.rk) && isSteps 8 (.tuple (l.st.map dSt))))) = true
    have h2 : isKind (.str l.kd) = true := by rcases g.kd with e | e <;> (rw [e]; decide)
    have h3 : isIntD 1 9 (.int l.rk) = true := decide_eq_true ⟨g.r1, g.r9⟩
    have h4 : isSteps 8 (.tuple (l.st.map dSt)) = true := by
      have p1 : 0 < l.st.length := List.length_pos_iff.mpr g.ne
      have p2 := g.s8
      simp only [isSteps, List.length_map, Bool.and_eq_true, decide_eq_true_eq]
      omega
    rw [h1, h2, h3, h4]
    rfl
  · have g := hwk w h
    have h1 := (nmA_name _ g.nm).1
    show (isName (.str w.nm) && (isIntD 1 9 (.int w.rk) && isIntD 1 99 (.int w.tk))) = true
    have h2 : isIntD 1 9 (.int w.rk) = true := decide_eq_true ⟨g.r1, g.r9⟩
    have h3 : isIntD 1 99 (.int w.tk) = true := decide_eq_true ⟨g.t1, g.t9⟩
    rw [h1, h2, h3]
    rfl
  · exact stepX_fit hn ((hl l h).st s hs)
  · have g := hl l h
    show (short (.str l.nm) && (short (.str l.kd) && (true && (shorts (l.st.map dSt) && true)))) = true
    have h1 := (nmA_name _ g.nm).2.1
    have h2 : short (.str l.kd) = true := by rcases g.kd with e | e <;> (rw [e]; decide +kernel)
    have h3 : shorts (l.st.map dSt) = true := shorts_map fun s hs => short_key (g.st s hs) hk hw
    rw [h1, h2, h3]
    rfl
  · have g := hwk w h
    obtain ⟨_, h1, h2⟩ := nmA_name _ g.nm
    refine ⟨?_, h2⟩
    show (short (.str w.nm) && (true && (true && true))) = true
    rw [h1]
    rfl
theorem RowAt.kept {K : Fg} {H H1 H2 : Hp} {r sc : Addr} {ns : List Int} {N : List Addr} (h0 : RowAt K H r sc ns) (h : RowAt K H1 r sc ns) (f : Fr N H1 H2) (hN : ∀ a ∈ N, H a = none) : RowAt K H2 r sc ns := by
  refine h.keep f (fun z => h0.ex (hN _ z)) ?_
  rcases h0.scr with (k | ⟨o, k⟩) | k
  · exact .inl fun z => by rw [hN _ z] at k; cases k
  · exact .inl fun z => by rw [hN _ z] at k; cases k
  · exact .inr fun _ => .inr k
section
variable {K : Fg} {σ : L2.St} {H1 : Hp} {Q : VK} {g : TG} {tt : TT} {te : TE} {vs : List Nat} {a r sc : Addr} {ns : List Int} {zs : List V} {α : Type}
theorem lcR_row {n : Nat} (row1 : RowAt K H1 r sc ns) (hl : n ≤ 40000) (R : Nat → α → Prop) (f : α → PyData) (hf : ∀ x, tupd (f x) = true)
    (hs : ∀ (i : Nat) (Ha : Hp) (Yes : VK) (No : Hp → Prop), i < n → Fr [r] H1 Ha → RowAt K Ha r sc ns → (∀ y H4 b, Fr [r] Ha H4 → RowAt K H4 r sc ns → R i b → Dp K H4 y (f b) → Yes y H4) →
      g (.int i) (wipe σ vs) Ha fun σ2 H2 => wipe σ2 vs = wipe σ vs ∧ tt σ2 H2 fun b H3 => if b = true then te σ2 H3 Yes else No H3)
    (hd : ∀ D H' ys (l : List α), H1 D = none → Fr [r] H1 H' → RowAt K H' r sc ns → H' D = some (.lst ys) → l.length = n → (∀ k x, l[k]? = some x → R k x) → DpAll K H' ys (l.map f) → Q (.ref D) H') : LcQ (Itr 0 n) g tt te vs σ Q H1 := by
  refine fun D hD => lc_rel (K := K) (walk_range (lo := 0) (n := n)) R f [r] (fun Ha => RowAt K Ha r sc ns) hD hl hf (fun b hb => by rw [List.mem_singleton.mp hb]; exact row1.ex) row1 (fun Ha Hb fr h => row1.kept h fr (by simpa using hD)) (fun Ha Hb s h => h.same s) (fun _ _ _ => True.intro) (fun i Ha x Hb y => by rw [y.1]; exact Same.refl _) (fun i x Ha Hb Yes No hi fa rowa y yes => ?_) (fun H4 ys l f4 row4 e4 hl4 hr4 a4 => hd D H4 ys l hD f4 row4 e4 hl4 hr4 a4)
  obtain ⟨rfl, rfl⟩ := y
  have := hs i Hb Yes No hi fa rowa yes
  dsimp only
  rw [Int.zero_add]
  exact this
end
def gS (l : List Str) (k : Nat) : Str := (l[k]?).getD ""
theorem gS_eq {l : List Str} {k : Nat} (h : k < l.length) : l[k]? = some (gS l k) := by
  unfold gS
  rw [List.getElem?_eq_getElem h]
  rfl
theorem gS_map {l : List Str} {k : Nat} (h : k < l.length) : (l.map V.str)[k]? = some (V.str (gS l k)) := by
  rw [List.getElem?_map, gS_eq h]
  rfl
theorem rel_all {α : Type} {R : Nat → α → Prop} {l : List α} (h : ∀ k x, l[k]? = some x → R k x) : ∀ x ∈ l, ∃ k, R k x := fun x hx => by
  obtain ⟨i, hi⟩ := List.mem_iff_getElem?.mp hx
  exact ⟨i, h i x hi⟩
theorem plan_names {ls : List Ln} {ws : List Wk} {N : List Str} (hN : N.Nodup) (hNe : N ≠ []) (h12 : N.length ≤ 12) (hnm : ls.map (·.nm) = N) (hl : ∀ l ∈ ls, FitLn (nkOf ls) (ws.map (·.nm)) l) (hwn : (ws.map (·.nm)).Nodup) (hw8 : ws.length ≤ 8) (hwk : ∀ w ∈ ws, FitWk w) : Pl.Ok ⟨ls, ws⟩ := by
  have hll : ls.length = N.length := by rw [← hnm, List.length_map]
  refine plan_fit hl (by rw [hnm]; exact hN) (fun e => ?_) (by omega) hwn hw8 hwk
  rw [e] at hnm
  exact hNe hnm.symm
theorem row_new {K : Fg} {H H1 : Hp} {r sc : Addr} {ns : List Int} (hsc : SqL K H sc (ns.map V.int)) (hr : H r = none) (s1 : Same H H1) (e1 : H1 r = some (.lst [.ref sc, .int 0, .int 0, .int 0])) : RowAt K H1 r sc ns := by
  have hS0 : H sc ≠ none ∨ ∀ H, SqL K H sc (ns.map V.int) := by
    rcases hsc with (h | ⟨o, h⟩) | h
    · exact .inl (by rw [h]; simp)
    · exact .inl (by rw [h]; simp)
    · exact .inr fun H => .inr h
  exact ⟨⟨0, 0, 0, e1, by omega, by omega, by omega⟩, s1.seq hsc, hS0.imp (fun h e => h (by rw [e]; exact hr)) id⟩
theorem tds_st (l : List (Str × Key)) : tupds (l.map dSt) = true := tupds_map tupd_dSt l
theorem dp_step {K : Fg} {H : Hp} {t : Addr} {w : Str} {k : Key} (h : SqT K H t [.str w, kV k]) : Dp K H (.ref t) (dSt (w, k)) := by
  refine .tup h (.cons (.str _) (.cons ?_ .nil))
  cases k with
  | inl i => exact .int i
  | inr z => exact .str z
structure StAt (K : Fg) (H1 H : Hp) (r l sc : Addr) (ns : List Int) (nk : NK) (ws : List Str) (i : Nat) : Prop where
  fr : Fr [r, l] H1 H
  row : RowAt K H r sc ns
  at_ : ∃ (st : List (Str × Key)) (xs : List V), H l = some (.lst xs) ∧ DpAll K H xs (st.map dSt) ∧ st.length = i ∧ ∀ s ∈ st, FitSt nk ws s
theorem StAt.push {K : Fg} {H0 H1 H H2 : Hp} {r l sc : Addr} {ns : List Int} {nk : NK} {ws : List Str} {i : Nat} {v : V} {s : Str × Key} (h : StAt K H1 H r l sc ns nk ws i) (h0 : RowAt K H0 r sc ns) (l0 : H0 l = none) (lr : l ≠ r) (f : Fr [r] H H2) (row : RowAt K H2 r sc ns) (dv : Dp K H2 v (dSt s)) (fit : FitSt nk ws s) :
    ∃ xs, H2 l = some (.lst xs) ∧ xs.length = i ∧ StAt K H1 (upd H2 l (.lst (xs ++ [v]))) r l sc ns nk ws (i + 1) := by
  obtain ⟨st, xs, e, d, hl, hf⟩ := h.at_
  have e2 := f.at e (by simp [lr])
  have fD : Fr [l] H2 (upd H2 l (.lst (xs ++ [v]))) := Fr.upd (by simp) e2 rfl
  refine ⟨xs, e2, by rw [d.len, List.length_map, hl], (h.fr.trans (f.mono (by simp))).trans (fD.mono (by simp)), h0.kept row fD (by simp [l0]), st ++ [s], _, upd_same, ?_, by rw [List.length_append, hl]; rfl, fun x hx => ?_⟩
  · rw [List.map_append]
    exact ((d.tk f.tk (tds_st st)).tk fD.tk (tds_st st)).app (.cons (dv.tk fD.tk (tupd_dSt s)) .nil)
  · rcases List.mem_append.mp hx with hx | hx
    · exact hf x hx
    · rw [List.mem_singleton.mp hx]
      exact fit
end Z
set_option maxHeartbeats 1000000
namespace Z
open PySem PySem.Spec PyProof.Rows L2
open He (ga ma)
structure Wc where
  ca : List (Str × Nat × Int)
  ba : Int
  jo : List Str
structure Ws where
  wa : List Key
  ma : List Key
  up : List Key
  be : List Int
  cs : List Wc
inductive Mv where
  | beg (z : Str) (n : Nat)
  | stp (n : Nat)
def inY (k : Key) (l : List Key) : Bool := l.any fun y => decide (y = k)
def srtY (l : List Key) : List Key := l.mergeSort (PySem.W.dataLe false kD)
def cutY (l : List Key) (x : Key) : List Key := l.filter fun y => !decide (y = x)
def wPut (l : List Key) (x : Key) (b : Bool) : List Key := if b = true then srtY (cutY l x ++ [x]) else cutY l x
theorem srtY_map (l : List Key) : (l.map kD).mergeSort (PySem.W.dataLe false id) = (srtY l).map kD := (List.map_mergeSort (f := kD) (r := PySem.W.dataLe false kD) (s := PySem.W.dataLe false id) (fun a _ b _ => rfl)).symm
theorem srtY_perm (l : List Key) : (srtY l).Perm l := List.mergeSort_perm _ _
def dKs (l : List Key) : PyData := .tuple (l.map kD)
def dCl (c : Str × Nat × Int) : PyData := .tuple [.str c.1, .int (c.2.1 : Nat), .int c.2.2]
def dWc (c : Wc) : PyData := .tuple [.tuple (c.ca.map dCl), .int c.ba, .tuple (c.jo.map PyData.str)]
def dWs (s : Ws) : PyData := .tuple [dKs s.wa, dKs s.ma, dKs s.up, .tuple (s.be.map PyData.int), .tuple (s.cs.map dWc)]
def dMv : Mv → PyData
  | .beg z n => .tuple [.str "begin", .str z, .int (n : Nat)]
  | .stp n => .tuple [.str "step", .int (n : Nat)]
theorem tupd_cl (c : Str × Nat × Int) : tupd (dCl c) = true := rfl
theorem tupd_ks (l : List Key) : tupd (dKs l) = true := tupds_map tupd_kD l
theorem tupd_wc (c : Wc) : tupd (dWc c) = true := by
  show tupds [_, _, _] = true
  have h1 : tupd (.tuple (c.ca.map dCl)) = true := tupds_map tupd_cl _
  have h2 : tupd (.tuple (c.jo.map PyData.str)) = true := tupds_map (f := PyData.str) (fun _ => rfl) _
  simp [tupds, h1, h2]
  rfl
theorem tupd_ws (s : Ws) : tupd (dWs s) = true := by
  show tupds [_, _, _, _, _] = true
  have h1 : tupd (.tuple (s.be.map PyData.int)) = true := tupds_map (f := PyData.int) (fun _ => rfl) _
  have h2 : tupd (.tuple (s.cs.map dWc)) = true := tupds_map tupd_wc _
  simp [tupds, tupd_ks, h1, h2]
theorem tupd_mv (m : Mv) : tupd (dMv m) = true := by cases m <;> rfl
def stp (P : Pl) (x : Str × Nat × Int) : Str × Key := ((P.ln x.1).st[x.2.1]?).getD ("", .inl 0)
def Wc.inner (P : Pl) (c : Wc) : Int := match c.ca.getLast? with
  | none => 0
  | some x => (P.ln x.1).rk
def Ws.busy (s : Ws) : List Str := s.cs.flatMap fun c => c.ca.map (·.1)
def Ws.free (s : Ws) (k : Key) : Bool := !inY k s.ma && !decide (kS k ∈ s.busy)
def Wc.lets (P : Pl) (z : Str) (c : Wc) : Bool := decide ((P.ln z).rk > max c.ba (c.inner P))
def Ws.begs (P : Pl) (s : Ws) (k : Key) : List Mv := if s.free k = true then (s.cs.zipIdx.filter fun x => x.1.lets P (kS k)).map fun x => .beg (kS k) x.2 else []
def Wc.can (P : Pl) (up : List Key) (c : Wc) : Bool := match c.ca.getLast? with
  | none => !c.jo.isEmpty
  | some x => !decide ((stp P x).1 = "await") || inY (stp P x).2 up
def Ws.moves (P : Pl) (s : Ws) : List Mv := s.wa.flatMap (s.begs P) ++ (s.cs.zipIdx.filter fun x => x.1.can P s.up).map fun x => .stp x.2
def jobI (P : Pl) (x : Str × Nat) : Int × Int := (0 - (P.wk x.1).rk, (x.2 : Nat))
def firstW (P : Pl) (l : List Str) : Nat := (match l.zipIdx.map (jobI P) with
  | [] => (0, 0)
  | y :: r => minII y r).2.toNat
def lessW (P : Pl) (l : List Str) : List Str := l.take (firstW P l) ++ l.drop (firstW P l + 1)
def bumpB (P : Pl) (be : List Int) (z : Str) : List Int := (P.names.zip be).map fun x => x.2 + if x.1 = z then 1 else 0
def Wc.gone (P : Pl) (c : Wc) (z : Str) (i : Nat) (k : Int) : Wc :=
  let w := stp P (z, i, k)
  let ba := if w.1 = "bar" then kI w.2 else c.ba
  let jo := if w.1 = "later" ∧ kS w.2 ∉ c.jo then c.jo ++ [kS w.2] else c.jo
  if i + 1 < (P.ln z).st.length then ⟨c.ca.dropLast ++ [(z, i + 1, k)], ba, jo⟩ else ⟨c.ca.dropLast, k, jo⟩
def Ws.did (s : Ws) (w : Str × Key) : Ws :=
  { s with wa := if w.1 = "ring" then wPut s.wa w.2 true else s.wa
           ma := if w.1 = "mask" ∨ w.1 = "unmask" then wPut s.ma w.2 (decide (w.1 = "mask")) else s.ma
           up := if w.1 = "set" ∨ w.1 = "clear" then wPut s.up w.2 (decide (w.1 = "set")) else s.up }
def wc0 : Wc := ⟨[], 0, []⟩
def Ws.after (P : Pl) (s : Ws) : Mv → Ws
  | .beg z n => { s with wa := wPut s.wa (.inr z) false, be := bumpB P s.be z, cs := s.cs.set n { (s.cs[n]?).getD wc0 with ca := ((s.cs[n]?).getD wc0).ca ++ [(z, 0, ((s.cs[n]?).getD wc0).ba)] } }
  | .stp n => match ((s.cs[n]?).getD wc0).ca.getLast? with
    | none => { s with cs := s.cs.set n { (s.cs[n]?).getD wc0 with jo := lessW P ((s.cs[n]?).getD wc0).jo } }
    | some x => { s.did (stp P x) with cs := s.cs.set n (((s.cs[n]?).getD wc0).gone P x.1 x.2.1 x.2.2) }
def Ws.stuck (s : Ws) : List Nat := (s.cs.zipIdx.filter fun x => !x.1.ca.isEmpty).map (·.2)
def Ws.endD (s : Ws) : PyData := if s.stuck.isEmpty = true then .tuple [.str "rest", dKs s.up, .tuple (s.be.map PyData.int)] else .tuple [.str "stuck", .tuple (s.stuck.map fun n => .int (n : Nat))]
def ringsK (l : List Str) : List Key := l.foldl (fun a z => wPut a (.inr z) true) []
def Ws.first (P : Pl) (n : Nat) (rg : List Str) : Ws := ⟨ringsK rg, [], [], List.replicate P.ls.length 0, List.replicate n wc0⟩
structure KSub (N : List Key) (l : List Key) : Prop where
  nd : l.Nodup
  sub : ∀ k ∈ l, k ∈ N
theorem KSub.len {N l : List Key} (h : KSub N l) : l.length ≤ N.length := h.nd.length_le_of_subset h.sub
theorem KSub.put {N l : List Key} (h : KSub N l) {x : Key} (hx : x ∈ N) (b : Bool) : KSub N (wPut l x b) := by
  have c : KSub N (cutY l x) := ⟨h.nd.sublist List.filter_sublist, fun k hk => h.sub k (List.mem_filter.mp hk).1⟩
  unfold wPut
  cases b with
  | false => exact c
  | true =>
    rw [if_pos rfl]
    have nx : x ∉ cutY l x := fun hm => by
      have := (List.mem_filter.mp hm).2
      simp at this
    refine ⟨(srtY_perm _).nodup_iff.mpr (List.nodup_append.mpr ⟨c.nd, by simp, fun a ha b hb e => ?_⟩), fun k hk => ?_⟩
    · rw [List.mem_singleton.mp hb] at e
      exact nx (e ▸ ha)
    · rcases List.mem_append.mp ((srtY_perm _).mem_iff.mp hk) with hk | hk
      · exact c.sub k hk
      · rw [List.mem_singleton.mp hk]; exact hx
def flagK : List Key := [0, 1, 2, 3, 4, 5, 6, 7].map Sum.inl
theorem flagK_mem {i : Int} (h0 : 0 ≤ i) (h7 : i ≤ 7) : (.inl i : Key) ∈ flagK := by
  have : i = 0 ∨ i = 1 ∨ i = 2 ∨ i = 3 ∨ i = 4 ∨ i = 5 ∨ i = 6 ∨ i = 7 := by omega
  rcases this with rfl | rfl | rfl | rfl | rfl | rfl | rfl | rfl <;> simp [flagK]
structure Wc.Ok (P : Pl) (c : Wc) : Prop where
  cz : ∀ x ∈ c.ca, x.1 ∈ P.names ∧ x.2.1 < (P.ln x.1).st.length
  cr : c.ca.Pairwise fun x y => (P.ln x.1).rk < (P.ln y.1).rk
  jn : c.jo.Nodup
  jw : ∀ z ∈ c.jo, z ∈ P.wnames
structure Ws.Ok (P : Pl) (n : Nat) (s : Ws) : Prop where
  wa : KSub (P.names.map Sum.inr) s.wa
  ma : KSub (P.names.map Sum.inr) s.ma
  up : KSub flagK s.up
  be : s.be.length = P.names.length
  cs : s.cs.length = n
  co : ∀ c ∈ s.cs, c.Ok P
theorem Pl.Ok.rk19 {P : Pl} (ok : P.Ok) {z : Str} (hz : z ∈ P.names) : 1 ≤ (P.ln z).rk ∧ (P.ln z).rk ≤ 9 := by
  have h := ok.lok _ (ok.ln_mem hz).1
  simp only [isLine, dLn, Bool.and_eq_true] at h
  obtain ⟨i, hi, h1, h2⟩ := isInt_k (k := .inl (P.ln z).rk) (by first | exact h.2.1 | exact h.1.2 | exact h.2.2.1 | exact h.1.2.1 | exact h.2.1.2)
  cases hi
  exact ⟨h1, h2⟩
theorem Pl.Ok.stne {P : Pl} (ok : P.Ok) {z : Str} (hz : z ∈ P.names) : 0 < (P.ln z).st.length := by
  have h := ok.lok _ (ok.ln_mem hz).1
  simp only [isLine, dLn, isSteps, Bool.and_eq_true, decide_eq_true_eq, List.length_map] at h
  omega
theorem Pl.Ok.stp {P : Pl} (ok : P.Ok) {x : Str × Nat × Int} (hz : x.1 ∈ P.names) (hi : x.2.1 < (P.ln x.1).st.length) : (P.ln x.1).st[x.2.1]? = some (Z.stp P x) ∧ StepIs P (Z.stp P x) := by
  have e : (P.ln x.1).st[x.2.1]? = some (P.ln x.1).st[x.2.1] := List.getElem?_eq_getElem hi
  have e2 : Z.stp P x = (P.ln x.1).st[x.2.1] := by unfold Z.stp; rw [e]; rfl
  rw [e2]
  exact ⟨e, ok.step (ok.ln_mem hz).1 (List.getElem_mem hi)⟩
theorem asc_len {α : Type} (f : α → Int) (hi : Int) : ∀ (l : List α) (lo : Int), l.Pairwise (fun x y => f x < f y) → (∀ x ∈ l, lo ≤ f x ∧ f x ≤ hi) → (l.length : Int) ≤ max 0 (hi - lo + 1)
  | [], lo, _, _ => by simp only [List.length_nil]; omega
  | x :: r, lo, hp, hb => by
    obtain ⟨h1, h2⟩ := List.pairwise_cons.mp hp
    have ih := asc_len f hi r (f x + 1) h2 fun y hy => ⟨by have := h1 y hy; omega, (hb y (List.mem_cons_of_mem _ hy)).2⟩
    have := hb x List.mem_cons_self
    rw [List.length_cons]
    omega
theorem Wc.Ok.calen {P : Pl} {c : Wc} (h : c.Ok P) (ok : P.Ok) : c.ca.length ≤ 9 := by
  have := asc_len (fun x : Str × Nat × Int => (P.ln x.1).rk) 9 c.ca 1 h.cr fun x hx => ok.rk19 (h.cz x hx).1
  omega
theorem Wc.Ok.jolen {P : Pl} {c : Wc} (h : c.Ok P) (ok : P.Ok) : c.jo.length ≤ 8 := by
  have h1 : c.jo.length ≤ P.wnames.length := h.jn.length_le_of_subset h.jw
  have : P.wnames.length ≤ 8 := by show (P.ws.map _).length ≤ 8; rw [List.length_map]; exact ok.w8
  omega
theorem Ws.Ok.walen {P : Pl} {n : Nat} {s : Ws} (h : s.Ok P n) (ok : P.Ok) : s.wa.length ≤ 12 ∧ s.ma.length ≤ 12 ∧ s.up.length ≤ 8 ∧ s.be.length ≤ 12 := by
  have l12 := ok.len
  have a := h.wa.len
  have b := h.ma.len
  have c := h.up.len
  rw [List.length_map] at a b
  have : flagK.length = 8 := rfl
  have := h.be
  omega
theorem minII_mem : ∀ (r : List (Int × Int)) (y : Int × Int), minII y r ∈ y :: r
  | [], y => List.mem_cons_self
  | x :: r, y => by
    show minII (if ltII x y = true then x else y) r ∈ _
    rcases List.mem_cons.mp (minII_mem r (if ltII x y = true then x else y)) with e | e
    · rw [e]; split <;> simp
    · exact List.mem_cons_of_mem _ (List.mem_cons_of_mem _ e)
theorem jobI_mem {P : Pl} {l : List Str} {p : Int × Int} (hp : p ∈ l.zipIdx.map (jobI P)) : ∃ n : Nat, p.2 = (n : Int) ∧ n < l.length := by
  obtain ⟨x, hx, rfl⟩ := List.mem_map.mp hp
  exact ⟨x.2, rfl, List.snd_lt_of_mem_zipIdx hx⟩
theorem firstW_is {P : Pl} {l : List Str} {y : Int × Int} {r : List (Int × Int)} (e : l.zipIdx.map (jobI P) = y :: r) : (minII y r).2 = ((firstW P l : Nat) : Int) ∧ firstW P l < l.length := by
  obtain ⟨n, h1, h2⟩ := jobI_mem (P := P) (l := l) (p := minII y r) (by rw [e]; exact minII_mem r y)
  have e2 : firstW P l = (minII y r).2.toNat := by unfold firstW; rw [e]
  rw [e2, h1]
  exact ⟨by omega, by omega⟩
theorem zipIdx_jobs {P : Pl} {l : List Str} (h : l ≠ []) : ∃ y r, l.zipIdx.map (jobI P) = y :: r := by
  cases e : l.zipIdx.map (jobI P) with
  | nil =>
    have := congrArg List.length e
    rw [List.length_map, List.length_zipIdx] at this
    exact absurd (List.length_eq_zero_iff.mp this) h
  | cons y r => exact ⟨y, r, rfl⟩
theorem firstW_lt (P : Pl) {l : List Str} (h : l ≠ []) : firstW P l < l.length := by
  obtain ⟨y, r, e⟩ := zipIdx_jobs (P := P) h
  exact (firstW_is e).2
theorem lessW_sub (P : Pl) (l : List Str) : (lessW P l).Sublist l := by
  unfold lessW
  conv => rhs; rw [← List.take_append_drop (firstW P l) l]
  refine List.Sublist.append (List.Sublist.refl _) ?_
  rw [← List.drop_drop]
  exact List.drop_sublist _ _
theorem getLast_mem {α : Type} {l : List α} {x : α} (h : l.getLast? = some x) : x ∈ l := List.mem_of_getLast? h
theorem dropLast_app {α : Type} {l : List α} {x : α} (h : l.getLast? = some x) : l.dropLast ++ [x] = l := by
  obtain ⟨hne, e⟩ := List.getLast?_eq_some_iff.mp h |> fun ⟨ys, e⟩ => (⟨by rw [e]; simp, by rw [e]; simp⟩ : l ≠ [] ∧ l.dropLast ++ [x] = l)
  exact e
theorem mem_setC {l : List Wc} {n : Nat} {c x : Wc} (h : x ∈ l.set n c) : x ∈ l ∨ x = c := List.mem_or_eq_of_mem_set h
theorem moves_mem {P : Pl} {s : Ws} {m : Mv} (h : m ∈ s.moves P) : (∃ z n c, m = .beg z n ∧ (∃ k ∈ s.wa, kS k = z ∧ s.free k = true) ∧ s.cs[n]? = some c ∧ c.lets P z = true) ∨ ∃ n c, m = .stp n ∧ s.cs[n]? = some c ∧ c.can P s.up = true := by
  rcases List.mem_append.mp h with h | h
  · obtain ⟨k, hk, hm⟩ := List.mem_flatMap.mp h
    unfold Ws.begs at hm
    split at hm
    · rename_i hf
      obtain ⟨x, hx, rfl⟩ := List.mem_map.mp hm
      obtain ⟨h1, h2⟩ := List.mem_filter.mp hx
      exact .inl ⟨_, _, x.1, rfl, ⟨k, hk, rfl, hf⟩, List.mem_zipIdx_iff_getElem?.mp h1, h2⟩
    · cases hm
  · obtain ⟨x, hx, rfl⟩ := List.mem_map.mp h
    obtain ⟨h1, h2⟩ := List.mem_filter.mp hx
    exact .inr ⟨_, x.1, rfl, List.mem_zipIdx_iff_getElem?.mp h1, h2⟩
theorem StepIs.lineK {P : Pl} {w : Str × Key} (si : StepIs P w) {q : Str} (e : w.1 = q) (hq : q ∈ (["ring", "mask", "unmask"] : List Str)) : w.2 ∈ P.names.map Sum.inr := by
  rw [← e] at hq
  cases si with
  | run i _ _ => exact absurd (show ("run" : Str) ∈ (["ring", "mask", "unmask"] : List Str) from hq) (by decide)
  | bar i _ _ => exact absurd (show ("bar" : Str) ∈ (["ring", "mask", "unmask"] : List Str) from hq) (by decide)
  | later z _ => exact absurd (show ("later" : Str) ∈ (["ring", "mask", "unmask"] : List Str) from hq) (by decide)
  | flag w i hw _ _ =>
    have hq' : w ∈ (["ring", "mask", "unmask"] : List Str) := hq
    simp only [List.mem_cons, List.not_mem_nil, or_false] at hw
    rcases hw with rfl | rfl | rfl <;> exact absurd hq' (by decide)
  | line w z hw hz _ => exact List.mem_map_of_mem hz
theorem StepIs.flagK {P : Pl} {w : Str × Key} (si : StepIs P w) {q : Str} (e : w.1 = q) (hq : q ∈ (["set", "clear"] : List Str)) : w.2 ∈ Z.flagK := by
  rw [← e] at hq
  cases si with
  | run i _ _ => exact absurd (show ("run" : Str) ∈ (["set", "clear"] : List Str) from hq) (by decide)
  | bar i _ _ => exact absurd (show ("bar" : Str) ∈ (["set", "clear"] : List Str) from hq) (by decide)
  | later z _ => exact absurd (show ("later" : Str) ∈ (["set", "clear"] : List Str) from hq) (by decide)
  | flag w i hw h0 h7 => exact flagK_mem h0 h7
  | line w z hw hz _ =>
    have hq' : w ∈ (["set", "clear"] : List Str) := hq
    simp only [List.mem_cons, List.not_mem_nil, or_false] at hw
    rcases hw with rfl | rfl | rfl | rfl <;> exact absurd hq' (by decide)
theorem StepIs.laterK {P : Pl} {w : Str × Key} (si : StepIs P w) (e : w.1 = "later") : kS w.2 ∈ P.wnames := by
  cases si with
  | run i _ _ => exact absurd (show ("run" : Str) = "later" from e) (by decide)
  | bar i _ _ => exact absurd (show ("bar" : Str) = "later" from e) (by decide)
  | later z hz => exact hz
  | flag w i hw _ _ =>
    have e' : w = "later" := e
    rw [e'] at hw
    exact absurd hw (by decide)
  | line w z hw hz _ =>
    have e' : w = "later" := e
    rw [e'] at hw
    exact absurd hw (by decide)
theorem Ws.Ok.after {P : Pl} {n : Nat} {s : Ws} (h : s.Ok P n) (ok : P.Ok) {m : Mv} (hm : m ∈ s.moves P) : (s.after P m).Ok P n := by
  rcases moves_mem hm with ⟨z, j, c, rfl, ⟨k, hk, rfl, hf⟩, hj, hl⟩ | ⟨j, c, rfl, hj, hc⟩
  · obtain ⟨z, hz, rfl⟩ := List.mem_map.mp (h.wa.sub k hk)
    have hz' : z ∈ P.names := hz
    have cok := h.co c (List.mem_of_getElem? hj)
    unfold Ws.after
    simp only [hj, Option.getD_some]
    refine ⟨h.wa.put (List.mem_map_of_mem hz') false, h.ma, h.up, ?_, ?_, fun x hx => ?_⟩
    · show (bumpB P s.be z).length = _
      unfold bumpB
      rw [List.length_map, List.length_zip, h.be, Nat.min_self]
    · show (List.set _ _ _).length = n
      rw [List.length_set, h.cs]
    · rcases mem_setC hx with hx | rfl
      · exact h.co x hx
      refine ⟨fun y hy => ?_, ?_, cok.jn, cok.jw⟩
      · rcases List.mem_append.mp hy with hy | hy
        · exact cok.cz y hy
        · rw [List.mem_singleton.mp hy]
          exact ⟨hz', ok.stne hz'⟩
      · refine List.pairwise_append.mpr ⟨cok.cr, List.pairwise_singleton _ _, fun y hy x hx => ?_⟩
        rw [List.mem_singleton.mp hx]
        have hl' : (P.ln z).rk > max c.ba (c.inner P) := of_decide_eq_true hl
        unfold Wc.inner at hl'
        cases hg : c.ca.getLast? with
        | none =>
          rw [List.getLast?_eq_none_iff.mp hg] at hy
          cases hy
        | some x =>
          rw [hg] at hl'
          have e := dropLast_app hg
          have hle : (P.ln y.1).rk ≤ (P.ln x.1).rk := by
            rw [← e] at hy
            rcases List.mem_append.mp hy with hy | hy
            · have := (List.pairwise_append.mp (by rw [e]; exact cok.cr : (c.ca.dropLast ++ [x]).Pairwise fun x y => (P.ln x.1).rk < (P.ln y.1).rk)).2.2 y hy x (List.mem_singleton.mpr rfl)
              omega
            · rw [List.mem_singleton.mp hy]; exact Int.le_refl _
          show (P.ln y.1).rk < (P.ln z).rk
          have h2 : (P.ln z).rk > max c.ba (P.ln x.1).rk := hl'
          omega
  · have cok := h.co c (List.mem_of_getElem? hj)
    unfold Ws.after
    simp only [hj, Option.getD_some]
    cases hg : c.ca.getLast? with
    | none =>
      refine ⟨h.wa, h.ma, h.up, h.be, ?_, fun x hx => ?_⟩
      · show (List.set _ _ _).length = n
        rw [List.length_set, h.cs]
      · rcases mem_setC hx with hx | rfl
        · exact h.co x hx
        exact ⟨cok.cz, cok.cr, cok.jn.sublist (lessW_sub P _), fun z hz => cok.jw z ((lessW_sub P _).subset hz)⟩
    | some x =>
      obtain ⟨hz, hi⟩ := cok.cz x (getLast_mem hg)
      obtain ⟨e1, si⟩ := ok.stp hz hi
      have e := dropLast_app hg
      have dl : (c.ca.dropLast).Sublist c.ca := List.dropLast_sublist _
      generalize hw : Z.stp P x = w at si e1
      have lk := fun {q : Str} => si.lineK (q := q)
      have fk := fun {q : Str} => si.flagK (q := q)
      dsimp only
      refine ⟨?_, ?_, ?_, h.be, ?_, fun y hy => ?_⟩
      · show KSub _ (s.did (Z.stp P x)).wa
        rw [hw]
        show KSub _ (if w.1 = "ring" then _ else _)
        split
        · exact h.wa.put (lk ‹_› (by simp)) _
        · exact h.wa
      · show KSub _ (s.did (Z.stp P x)).ma
        rw [hw]
        show KSub _ (if w.1 = "mask" ∨ w.1 = "unmask" then _ else _)
        split
        · rename_i hq
          rcases hq with hq | hq
          · exact h.ma.put (lk hq (by simp)) _
          · exact h.ma.put (lk hq (by simp)) _
        · exact h.ma
      · show KSub _ (s.did (Z.stp P x)).up
        rw [hw]
        show KSub _ (if w.1 = "set" ∨ w.1 = "clear" then _ else _)
        split
        · rename_i hq
          rcases hq with hq | hq
          · exact h.up.put (fk hq (by simp)) _
          · exact h.up.put (fk hq (by simp)) _
        · exact h.up
      · show (List.set _ _ _).length = n
        rw [List.length_set, h.cs]
      · rcases mem_setC hy with hy | rfl
        · exact h.co y hy
        have jok : (if w.1 = "later" ∧ kS w.2 ∉ c.jo then c.jo ++ [kS w.2] else c.jo).Nodup ∧ ∀ z ∈ (if w.1 = "later" ∧ kS w.2 ∉ c.jo then c.jo ++ [kS w.2] else c.jo), z ∈ P.wnames := by
          split
          · rename_i hq
            refine ⟨List.nodup_append.mpr ⟨cok.jn, by simp, fun a ha b hb e => ?_⟩, fun z hz => ?_⟩
            · rw [List.mem_singleton.mp hb] at e
              exact hq.2 (e ▸ ha)
            · rcases List.mem_append.mp hz with hz | hz
              · exact cok.jw z hz
              · rw [List.mem_singleton.mp hz]
                exact si.laterK hq.1
          · exact ⟨cok.jn, cok.jw⟩
        have xe : (x.1, x.2.1, x.2.2) = x := rfl
        unfold Wc.gone
        simp only [xe, hw]
        split
        · refine ⟨fun y hy => ?_, ?_, jok.1, jok.2⟩
          · rcases List.mem_append.mp hy with hy | hy
            · exact cok.cz y (dl.subset hy)
            · rw [List.mem_singleton.mp hy]
              exact ⟨hz, ‹_›⟩
          · have pw := cok.cr
            rw [← e] at pw
            obtain ⟨p1, _, p3⟩ := List.pairwise_append.mp pw
            refine List.pairwise_append.mpr ⟨p1, List.pairwise_singleton _ _, fun a ha b hb => ?_⟩
            rw [List.mem_singleton.mp hb]
            exact p3 a ha x (List.mem_singleton.mpr rfl)
        · exact ⟨fun y hy => cok.cz y (dl.subset hy), cok.cr.sublist dl, jok.1, jok.2⟩
theorem ringsK_sub {N : List Str} : ∀ (l : List Str) (a : List Key), (∀ z ∈ l, z ∈ N) → KSub (N.map Sum.inr) a → KSub (N.map Sum.inr) (l.foldl (fun a z => wPut a (.inr z) true) a)
  | [], a, _, h => h
  | z :: r, a, hl, h => ringsK_sub r _ (fun y hy => hl y (List.mem_cons_of_mem _ hy)) (h.put (List.mem_map_of_mem (hl z List.mem_cons_self)) true)
theorem Ws.Ok.first {P : Pl} (n : Nat) {rg : List Str} (hr : ∀ z ∈ rg, z ∈ P.names) : (Ws.first P n rg).Ok P n := by
  refine ⟨ringsK_sub rg [] hr ⟨List.nodup_nil, by simp⟩, ⟨List.nodup_nil, fun k hk => absurd hk (by simp [Ws.first])⟩, ⟨List.nodup_nil, fun k hk => absurd hk (by simp [Ws.first])⟩, ?_, ?_, fun c hc => ?_⟩
  · show (List.replicate P.ls.length (0 : Int)).length = (P.ls.map _).length
    rw [List.length_replicate, List.length_map]
  · show (List.replicate n wc0).length = n
    rw [List.length_replicate]
  · rw [(List.mem_replicate.mp hc).2]
    exact ⟨by simp [wc0], .nil, List.nodup_nil, by simp [wc0]⟩
end Z
set_option maxHeartbeats 1000000
namespace Z
open PySem PySem.Spec PyProof.Rows L2
open He (ga ma)
def wvF (p : Addr) (n : Nat) : List (Str × V) := [("plan", .ref p), ("size", .int (n : Nat))]
theorem wvF_plan {p : Addr} {n : Nat} : (wvF p n).lookup ("plan" : Str) = some (.ref p) := by kernel_rfl
theorem wvF_size {p : Addr} {n : Nat} : (wvF p n).lookup ("size" : Str) = some (.int (n : Nat)) := by kernel_rfl
structure WvAt (K : Fg) (H : Hp) (x : Addr) (D : PA) (P : Pl) (n : Nat) : Prop where
  ins : ∃ dx, H x = some (.ins (ga K "Weaver") dx (wvF D.p n))
  pl : PlanAt K H D P
  n6 : n ≤ 6
theorem WvAt.same {K : Fg} {H H' : Hp} {x : Addr} {D : PA} {P : Pl} {n : Nat} (h : WvAt K H x D P n) (s : Same H H') : WvAt K H' x D P n := by
  obtain ⟨dx, e⟩ := h.ins
  exact ⟨⟨dx, s _ _ e⟩, h.pl.same s, h.n6⟩
section
variable {K : Fg} {H H' H1 : Hp}
theorem same_put {H0 H : Hp} {l : Addr} {o : HO} (s : Same H0 H) (h0 : H0 l = none) : Same H0 (upd H l o) := fun b u q => by
  rw [upd_ne (ne_of_none q h0)]
  exact s b u q
theorem same_none {H0 H : Hp} {l : Addr} (s : Same H0 H) (h : H l = none) : H0 l = none := (s.fr : Fr [] H0 H).back h
theorem max_dec {i j r : Int} : decide ((if j > i then j else i) < r) = decide (r > max i j) := by
  rw [Bool.eq_iff_iff, decide_eq_true_iff, decide_eq_true_iff]
  split <;> omega
theorem dp_keys : ∀ {l : List Key} {xs : List V}, DpAll K H xs (l.map kD) → xs = l.map kV
  | [], _, h => by cases h; rfl
  | k :: l, _, h => by
    cases h with | cons h1 h2 => ?_
    rw [dp_keys h2]
    cases k with
    | inl i => cases h1; rfl
    | inr z => cases h1; rfl
theorem dp_key (k : Key) : Dp K H (kV k) (kD k) := by cases k with
  | inl i => exact .int i
  | inr z => exact .str z
theorem dp_keyI {k : Key} {v : V} (h : Dp K H v (kD k)) : v = kV k := by cases k with
  | inl i => cases h; rfl
  | inr z => cases h; rfl
theorem dp_keysR : ∀ l : List Key, DpAll K H (l.map kV) (l.map kD)
  | [] => .nil
  | k :: l => .cons (dp_key k) (dp_keysR l)
theorem dp_strsW : ∀ l : List Str, DpAll K H (l.map V.str) (l.map PyData.str)
  | [] => .nil
  | z :: l => .cons (.str z) (dp_strsW l)
theorem dp_intsW : ∀ l : List Int, DpAll K H (l.map V.int) (l.map PyData.int)
  | [] => .nil
  | z :: l => .cons (.int z) (dp_intsW l)
theorem dp_ksI {v : V} {l : List Key} (h : Dp K H v (dKs l)) : ∃ a, v = .ref a ∧ SqT K H a (l.map kV) := by
  obtain ⟨a, xs, rfl, hT, hA⟩ := h.tupI
  rw [dp_keys hA] at hT
  exact ⟨a, rfl, hT⟩
theorem dp_ks {a : Addr} {l : List Key} (h : SqT K H a (l.map kV)) : Dp K H (.ref a) (dKs l) := .tup h (dp_keysR l)
theorem flat_keys : ∀ {l : List Key}, (l.map kV).all flatV = true
  | [] => rfl
  | .inl _ :: l => flat_keys (l := l)
  | .inr _ :: l => flat_keys (l := l)
theorem flat_key (k : Key) : flatV (kV k) = true := by cases k <;> rfl
theorem kV_eq {a b : Key} : eqV (kV a) (kV b) = decide (a = b) := by
  cases a with
  | inl i => cases b with
    | inl j => show (i == j) = _; rw [Bool.eq_iff_iff]; simp
    | inr z => show false = _; rw [decide_eq_false (fun e => nomatch e)]
  | inr y => cases b with
    | inl j => show false = _; rw [decide_eq_false (fun e => nomatch e)]
    | inr z => show (y == z) = _; rw [Bool.eq_iff_iff]; simp
theorem kV_dec {a b : Key} : decide (kV a = kV b) = decide (a = b) := by
  cases a with
  | inl i => cases b with
    | inl j => rw [Bool.eq_iff_iff]; simp [kV]
    | inr z => rw [Bool.eq_iff_iff]; simp [kV]
  | inr y => cases b with
    | inl j => rw [Bool.eq_iff_iff]; simp [kV]
    | inr z => rw [Bool.eq_iff_iff]; simp [kV]
theorem vstr_dec {a b : Str} : decide (V.str a = V.str b) = decide (a = b) := by rw [Bool.eq_iff_iff]; simp
theorem scal_keys {a b : Key} : scal (kV a) (kV b) = true := by cases a <;> cases b <;> rfl
theorem inV_keys {k : Key} : ∀ {l : List Key}, inV (kV k) (l.map kV) = inY k l
  | [] => rfl
  | y :: l => by
    show (eqV (kV y) (kV k) || inV (kV k) (l.map kV)) = (decide (y = k) || inY k l)
    rw [kV_eq, inV_keys]
theorem cut_initW (as : List V) (x : V) : cutV (as ++ [x]) none (some (-1)) = as := by
  unfold cutV
  have e : HT.sIx (as ++ [x]).length (as ++ [x]).length (some (-1)) = as.length := by
    show (if (-1 : Int) < 0 then ((-1 : Int) + ((as ++ [x]).length : Int)).toNat else min (-1 : Int).toNat (as ++ [x]).length) = _
    rw [if_pos (by omega), List.length_append, List.length_singleton]
    omega
  rw [e, HT.sIx_none, List.drop_zero, Nat.sub_zero, List.take_left]
theorem s_catW {Q : VK} {a b : Addr} {xs ys : List V} (ha : SqT K H a xs) (hb : SqT K H b ys) (hz : xs.length + ys.length ≤ sizeLine) (q : ∀ c H', Same H H' → SqT K H' c (xs ++ ys) → Q (.ref c) H') : rCatA K (.ref a) (.ref b) H Q := by
  refine ⟨a, b, xs, ys, rfl, rfl, ha, hb, hz, fun e => ?_, fun _ e => ?_, fun _ _ p hp => q p _ (Same.new hp) (SqT.of upd_same)⟩
  · subst e
    exact q b H (Same.refl H) hb
  · subst e
    exact q a H (Same.refl H) (by rw [List.append_nil]; exact ha)
theorem set_cut {α : Type} {l : List α} {n : Nat} (h : n < l.length) (x : α) : l.take n ++ [x] ++ l.drop (n + 1) = l.set n x := by
  rw [List.set_eq_take_append_cons_drop, if_pos h, List.append_assoc]
  rfl
theorem _root_.L2.Dp.wsI {v : V} {s : Ws} (h : Dp K H v (dWs s)) : ∃ t a b c d e ce, v = .ref t ∧ SqT K H t [.ref a, .ref b, .ref c, .ref d, .ref e] ∧ SqT K H a (s.wa.map kV) ∧ SqT K H b (s.ma.map kV) ∧ SqT K H c (s.up.map kV) ∧ SqT K H d (s.be.map V.int) ∧ SqT K H e ce ∧ DpAll K H ce (s.cs.map dWc) := by
  obtain ⟨t, xs, rfl, hT, hA⟩ := h.tupI
  cases hA with | cons h1 hA => ?_
  cases hA with | cons h2 hA => ?_
  cases hA with | cons h3 hA => ?_
  cases hA with | cons h4 hA => ?_
  cases hA with | cons h5 hA => ?_
  cases hA
  obtain ⟨a, rfl, ha⟩ := dp_ksI h1
  obtain ⟨b, rfl, hb⟩ := dp_ksI h2
  obtain ⟨c, rfl, hc⟩ := dp_ksI h3
  obtain ⟨d, ds, rfl, hd, hd2⟩ := h4.tupI
  obtain ⟨e, ce, rfl, he, he2⟩ := h5.tupI
  rw [dp_ints hd2] at hd
  exact ⟨t, a, b, c, d, e, ce, rfl, hT, ha, hb, hc, hd, he, he2⟩
theorem _root_.L2.Dp.wsR {t : Addr} {s : Ws} {a b c d e : Addr} {ce : List V} (hT : SqT K H t [.ref a, .ref b, .ref c, .ref d, .ref e]) (ha : SqT K H a (s.wa.map kV)) (hb : SqT K H b (s.ma.map kV)) (hc : SqT K H c (s.up.map kV)) (hd : SqT K H d (s.be.map V.int)) (he : SqT K H e ce) (hA : DpAll K H ce (s.cs.map dWc)) : Dp K H (.ref t) (dWs s) :=
  .tup hT (.cons (dp_ks ha) (.cons (dp_ks hb) (.cons (dp_ks hc) (.cons (.tup hd (dp_intsW _)) (.cons (.tup he hA) .nil)))))
theorem _root_.L2.Dp.wcI {v : V} {s : Wc} (h : Dp K H v (dWc s)) : ∃ t a j ca, v = .ref t ∧ SqT K H t [.ref a, .int s.ba, .ref j] ∧ SqT K H a ca ∧ DpAll K H ca (s.ca.map dCl) ∧ SqT K H j (s.jo.map V.str) := by
  obtain ⟨t, xs, rfl, hT, hA⟩ := h.tupI
  cases hA with | cons h1 hA => ?_
  cases hA with | cons h2 hA => ?_
  cases hA with | cons h3 hA => ?_
  cases hA
  obtain ⟨a, ca, rfl, ha, ha2⟩ := h1.tupI
  cases h2
  obtain ⟨j, js, rfl, hj, hj2⟩ := h3.tupI
  rw [dp_strs hj2] at hj
  exact ⟨t, a, j, ca, rfl, hT, ha, ha2, hj⟩
theorem _root_.L2.Dp.wcR {t : Addr} {s : Wc} {a j : Addr} {ca : List V} (hT : SqT K H t [.ref a, .int s.ba, .ref j]) (ha : SqT K H a ca) (hA : DpAll K H ca (s.ca.map dCl)) (hj : SqT K H j (s.jo.map V.str)) : Dp K H (.ref t) (dWc s) :=
  .tup hT (.cons (.tup ha hA) (.cons (.int _) (.cons (.tup hj (dp_strsW _)) .nil)))
theorem _root_.L2.Dp.clI {v : V} {x : Str × Nat × Int} (h : Dp K H v (dCl x)) : ∃ t, v = .ref t ∧ SqT K H t [.str x.1, .int (x.2.1 : Nat), .int x.2.2] := by
  obtain ⟨t, xs, rfl, hT, hA⟩ := h.tupI
  cases hA with | cons h1 hA => ?_
  cases hA with | cons h2 hA => ?_
  cases hA with | cons h3 hA => ?_
  cases hA
  cases h1
  cases h2
  cases h3
  exact ⟨t, rfl, hT⟩
theorem _root_.L2.Dp.stI {v : V} {x : Str × Key} (h : Dp K H v (dSt x)) : ∃ t, v = .ref t ∧ SqT K H t [.str x.1, kV x.2] := by
  obtain ⟨t, xs, rfl, hT, hA⟩ := h.tupI
  cases hA with | cons h1 hA => ?_
  cases hA with | cons h2 hA => ?_
  cases hA
  cases h1
  rw [dp_keyI h2] at hT
  exact ⟨t, rfl, hT⟩
theorem _root_.L2.Dp.lnI {v : V} {l : Ln} (h : Dp K H v (dLn l)) : ∃ t s sv, v = .ref t ∧ SqT K H t [.str l.nm, .str l.kd, .int l.rk, .ref s] ∧ SqT K H s sv ∧ DpAll K H sv (l.st.map dSt) := by
  obtain ⟨t, xs, rfl, hT, hA⟩ := h.tupI
  cases hA with | cons h1 hA => ?_
  cases hA with | cons h2 hA => ?_
  cases hA with | cons h3 hA => ?_
  cases hA with | cons h4 hA => ?_
  cases hA
  cases h1
  cases h2
  cases h3
  obtain ⟨s, sv, rfl, hs, hs2⟩ := h4.tupI
  exact ⟨t, s, sv, rfl, hT, hs, hs2⟩
theorem _root_.L2.Dp.wkI {v : V} {w : Wk} (h : Dp K H v (dWk w)) : ∃ t, v = .ref t ∧ SqT K H t [.str w.nm, .int w.rk, .int w.tk] := by
  obtain ⟨t, xs, rfl, hT, hA⟩ := h.tupI
  cases hA with | cons h1 hA => ?_
  cases hA with | cons h2 hA => ?_
  cases hA with | cons h3 hA => ?_
  cases hA
  cases h1
  cases h2
  cases h3
  exact ⟨t, rfl, hT⟩
theorem _root_.L2.Dp.stpI {P : Pl} {x : Str × Nat × Int} (ok : P.Ok) (hz : x.1 ∈ P.names) (hi : x.2.1 < (P.ln x.1).st.length) {sv : List V} (hA : DpAll K H sv ((P.ln x.1).st.map dSt)) : ∃ y, sv[x.2.1]? = some (.ref y) ∧ SqT K H y [.str (stp P x).1, kV (stp P x).2] := by
  obtain ⟨e, _⟩ := ok.stp hz hi
  obtain ⟨y, hy, dy⟩ := hA.get (i := x.2.1) (x := dSt (stp P x)) (by rw [List.getElem?_map, e]; rfl)
  obtain ⟨t, rfl, ht⟩ := dy.stI
  exact ⟨t, hy, ht⟩
theorem dpall_snocI : ∀ {ds : List PyData} {d : PyData} {ys : List V}, DpAll K H ys (ds ++ [d]) → ∃ zs y, ys = zs ++ [y] ∧ DpAll K H zs ds ∧ Dp K H y d
  | [], d, _, h => by
    cases h with | cons h1 h2 => ?_
    cases h2
    exact ⟨[], _, rfl, .nil, h1⟩
  | e :: ds, d, _, h => by
    cases h with | cons h1 h2 => ?_
    obtain ⟨zs, y, rfl, a, b⟩ := dpall_snocI h2
    exact ⟨_ :: zs, y, rfl, .cons h1 a, b⟩
theorem ca_last {l : List (Str × Nat × Int)} {y : Str × Nat × Int} {ca : List V} (h : DpAll K H ca (l.map dCl)) (e : l.getLast? = some y) : ∃ zs t, ca = zs ++ [.ref t] ∧ DpAll K H zs (l.dropLast.map dCl) ∧ SqT K H t [.str y.1, .int (y.2.1 : Nat), .int y.2.2] := by
  rw [← dropLast_app e, List.map_append] at h
  obtain ⟨zs, v, rfl, a, b⟩ := dpall_snocI h
  obtain ⟨t, rfl, ht⟩ := b.clI
  exact ⟨zs, t, rfl, a, ht⟩
theorem ca_none {l : List (Str × Nat × Int)} {ca : List V} (h : DpAll K H ca (l.map dCl)) (e : l.getLast? = none) : ca = [] := by
  rw [List.getLast?_eq_none_iff.mp e] at h
  cases h
  rfl
end
theorem begs_len {P : Pl} {s : Ws} (h6 : s.cs.length ≤ 6) : ∀ m : List Key, (m.flatMap (s.begs P)).length ≤ m.length * 6
  | [] => by simp
  | k :: m => by
    have ih := begs_len (P := P) h6 m
    have h1 : (s.begs P k).length ≤ 6 := by
      unfold Ws.begs
      split
      · rw [List.length_map]
        have := List.length_filter_le (fun x : Wc × Nat => x.1.lets P (kS k)) s.cs.zipIdx
        rw [List.length_zipIdx] at this
        omega
      · exact Nat.zero_le _
    rw [List.flatMap_cons, List.length_append, List.length_cons]
    omega
theorem filt_len {α : Type} (p : α × Nat → Bool) (l : List α) (j : Nat) : ((l.zipIdx.take j).filter p).length ≤ l.length := by
  have h1 := List.length_filter_le p (l.zipIdx.take j)
  rw [List.length_take, List.length_zipIdx] at h1
  omega
theorem filt_next {α : Type} (p : α × Nat → Bool) {l : List α} {j : Nat} {x : α} (h : l[j]? = some x) : (l.zipIdx.take (j + 1)).filter p = (l.zipIdx.take j).filter p ++ if p (x, j) = true then [(x, j)] else [] := by
  have e : l.zipIdx[j]? = some (x, j) := by
    rw [List.getElem?_zipIdx, h]
    simp
  rw [List.take_add_one, e, List.filter_append]
  congr 1
  show List.filter p [(x, j)] = _
  by_cases hp : p (x, j) = true
  · rw [if_pos hp, List.filter_cons_of_pos hp]
    rfl
  · rw [if_neg hp, List.filter_cons_of_neg hp]
    rfl
theorem tds_mv (l : List Mv) : tupds (l.map dMv) = true := tupds_map tupd_mv l
def KindOk (l : List Key) : Prop := (∀ k ∈ l, ∃ z, k = .inr z) ∨ ∀ k ∈ l, ∃ i, k = .inl i
theorem KindOk.sortable {l : List Key} (h : KindOk l) : PySem.W.AllAlike (l.map kD) ∧ PySem.W.Sortable (l.map kD) ∧ ∀ d ∈ l.map kD, d.depth ≤ 60 := by
  refine ⟨fun d hd e he => ?_, PySem.W.Sortable.others fun b => ⟨by cases b <;> simp [kD], by cases b <;> simp [kD]⟩, fun d hd => ?_⟩
  · obtain ⟨a, ha, rfl⟩ := List.mem_map.mp hd
    obtain ⟨b, hb, rfl⟩ := List.mem_map.mp he
    rcases h with h | h
    · obtain ⟨y, rfl⟩ := h a ha
      obtain ⟨z, rfl⟩ := h b hb
      rfl
    · obtain ⟨y, rfl⟩ := h a ha
      obtain ⟨z, rfl⟩ := h b hb
      rfl
  · obtain ⟨a, ha, rfl⟩ := List.mem_map.mp hd
    cases a <;> exact of_decide_eq_true rfl
theorem KindOk.names {N : List Str} {l : List Key} (h : ∀ k ∈ l, k ∈ (N.map Sum.inr : List Key)) : KindOk l := .inl fun k hk => by
  obtain ⟨z, _, e⟩ := List.mem_map.mp (h k hk)
  exact ⟨z, e.symm⟩
theorem KindOk.flags {l : List Key} (h : ∀ k ∈ l, k ∈ flagK) : KindOk l := .inr fun k hk => by
  obtain ⟨z, _, e⟩ := List.mem_map.mp (h k hk)
  exact ⟨z, e.symm⟩
theorem KSub.kind {N : List Str} {l : List Key} {k : Key} (h : KSub (N.map Sum.inr) l) (hk : k ∈ (N.map Sum.inr : List Key)) : KindOk (l ++ [k]) := KindOk.names fun y hy => by
  rcases List.mem_append.mp hy with hy | hy
  · exact h.sub y hy
  · rw [List.mem_singleton.mp hy]; exact hk
theorem KSub.kindF {l : List Key} {k : Key} (h : KSub flagK l) (hk : k ∈ flagK) : KindOk (l ++ [k]) := KindOk.flags fun y hy => by
  rcases List.mem_append.mp hy with hy | hy
  · exact h.sub y hy
  · rw [List.mem_singleton.mp hy]; exact hk
end Z
set_option maxHeartbeats 1000000
namespace Z
open PySem PySem.Spec PyProof.Rows L2
open He (ga ma)
theorem flat_pre {α β : Type} {l : List α} {k : α → List β} {i : Nat} {x : α} (h : l[i]? = some x) : l.flatMap k = (l.take i).flatMap k ++ (k x ++ (l.drop (i + 1)).flatMap k) := by
  obtain ⟨hi, e⟩ := List.getElem?_eq_some_iff.mp h
  conv => lhs; rw [← List.take_append_drop i l, List.drop_eq_getElem_cons hi, e]
  rw [List.flatMap_append, List.flatMap_cons]
theorem s_lc2V {K : Fg} {α β : Type} {l : List α} {da : α → PyData} {a : Addr} {xs : List V} {i0 j0 : Nat} {g g1 : TG} {te : TE} {vs vs1 : List Nat} {σ : L2.St} {H1 : Hp} {Q : VK} (h0 : σ[i0]? = some (some (.ref a))) (hT : SqT K H1 a xs) (hA : DpAll K H1 xs (l.map da))
    (k : α → List β) (db f : β → PyData) (tb : ∀ y, tupd (db y) = true) (tf : ∀ y, tupd (f y) = true) (hn : (l.flatMap k).length ≤ 40000)
    (hs : ∀ x v H (R : L2.St → Hp → Prop), x ∈ l → Same H1 H → Dp K H v (da x) → (∀ σ2 b zs, wipe σ2 vs = wipe σ vs → σ2[j0]? = some (some (.ref b)) → SqT K H b zs → DpAll K H zs ((k x).map db) →
      (∀ y w H3 (Yes : VK) (No : Hp → Prop), y ∈ k x → Same H1 H3 → Dp K H3 w (db y) → (∀ u H4, Same H3 H4 → Dp K H4 u (f y) → Yes u H4) → g1 w (wipe σ2 vs1) H3 fun σ3 H5 => wipe σ3 vs1 = wipe σ2 vs1 ∧ tYes σ3 H5 fun c H6 => if c = true then te σ3 H6 Yes else No H6) → R σ2 H) → g v (wipe σ vs) H R)
    (hd : ∀ D H' ys, H1 D = none → Same H1 H' → H' D = some (.lst ys) → DpAll K H' ys ((l.flatMap k).map f) → Q (.ref D) H') :
    tLc2 (iTup K (tVar i0)) g tYes (iTup K (tVar j0)) g1 tYes te vs vs1 σ H1 Q := by
  have hlen : xs.length = l.length := by rw [hA.len, List.length_map]
  have tfs : ∀ m : List β, tupds (m.map f) = true := fun m => tupds_map tf m
  have tbs : ∀ m : List β, tupds (m.map db) = true := fun m => tupds_map tb m
  refine ⟨.ref a, h0, a, rfl, ⟨xs, hT⟩, fun D hD => ?_⟩
  have put : ∀ {H ys y}, Same H1 H → H D = some (.lst ys) → Same H1 (upd H D (.lst (ys ++ [y]))) := fun {H ys y} s e b o q => by
    rw [upd_ne (ne_of_none q hD)]
    exact s b o q
  refine ⟨fun i m H => m = l.length - i ∧ i ≤ l.length ∧ Same H1 H ∧ ∃ ys, H D = some (.lst ys) ∧ DpAll K H ys (((l.take i).flatMap k).map f), ⟨l.length, rfl, Nat.zero_le _, Same.new hD, [], upd_same, .nil⟩, ?_⟩
  rintro i m H ⟨rfl, hi, s1, ys, e1, a1⟩
  have hTH := s1.sqT hT
  by_cases hlt : i < l.length
  · refine .inr ⟨⟨xs, xs[i]'(by omega), hTH, by simp [show i < xs.length by omega]⟩, fun H' => i + 1 ≤ l.length ∧ Same H1 H' ∧ ∃ ys, H' D = some (.lst ys) ∧ DpAll K H' ys (((l.take (i + 1)).flatMap k).map f), fun H' ⟨q1, q2⟩ => ⟨l.length - (i + 1), by omega, rfl, q1, q2⟩, fun v H' y => ?_⟩
    obtain ⟨rfl, hv⟩ := y
    have hv' := hv xs hTH
    have hx : l[i]? = some l[i] := List.getElem?_eq_getElem hlt
    obtain ⟨d, hd', dd⟩ := (hA.same s1).getv hv'
    rw [List.getElem?_map, hx] at hd'
    cases hd'
    have fl := flat_pre (k := k) hx
    have tk1 : (l.take (i + 1)).flatMap k = (l.take i).flatMap k ++ k l[i] := by
      rw [List.take_add_one, hx, List.flatMap_append]
      show _ ++ List.flatMap k [l[i]] = _
      rw [List.flatMap_singleton]
    refine hs l[i] v H' _ (List.getElem_mem hlt) s1 dd fun σ2 b zs w2 hb hz hzA inn => ⟨w2, ?_⟩
    have lz : zs.length = (k l[i]).length := by rw [hzA.len, List.length_map]
    refine s_yes (ite_t rfl ?_)
    refine ⟨.ref b, hb, b, rfl, ⟨zs, hz⟩, ?_⟩
    refine ⟨fun j m H => m = zs.length - j ∧ j ≤ zs.length ∧ Same H1 H ∧ SqT K H b zs ∧ DpAll K H zs ((k l[i]).map db) ∧ ∃ ys, H D = some (.lst ys) ∧ DpAll K H ys (((l.take i).flatMap k ++ (k l[i]).take j).map f), ⟨zs.length, rfl, Nat.zero_le _, s1, hz, hzA, ys, e1, by rw [List.take_zero, List.append_nil]; exact a1⟩, ?_⟩
    rintro j m2 H2 ⟨rfl, hj, s2, hz2, hzA2, ys2, e2, a2⟩
    by_cases hjl : j < zs.length
    · refine .inr ⟨⟨zs, zs[j], hz2, by simp [hjl]⟩, fun H3 => j + 1 ≤ zs.length ∧ Same H1 H3 ∧ SqT K H3 b zs ∧ DpAll K H3 zs ((k l[i]).map db) ∧ ∃ ys, H3 D = some (.lst ys) ∧ DpAll K H3 ys (((l.take i).flatMap k ++ (k l[i]).take (j + 1)).map f), fun H3 ⟨q1, q2⟩ => ⟨zs.length - (j + 1), by omega, rfl, q1, q2⟩, fun w H3 y => ?_⟩
      obtain ⟨rfl, hw⟩ := y
      have hw' := hw zs hz2
      have hjk : j < (k l[i]).length := by omega
      have hy : (k l[i])[j]? = some (k l[i])[j] := List.getElem?_eq_getElem hjk
      obtain ⟨d, hd', dw⟩ := hzA2.getv hw'
      rw [List.getElem?_map, hy] at hd'
      cases hd'
      refine inn (k l[i])[j] w H3 _ _ (List.getElem_mem hjk) s2 dw fun u H4 s4 du => by
        have e4 := s4 _ _ e2
        have t := tk_upd (o := .lst (ys2 ++ [u])) e4
        have la : ys2.length = ((l.take i).flatMap k ++ (k l[i]).take j).length := by rw [a2.len, List.length_map]
        refine ⟨ys2, e4, ?_, ?_, put (s2.trans s4) e4, t.sqT (s4.sqT hz2), (hzA2.same s4).tk t (tbs _), _, upd_same, ?_⟩
        · rw [la, sizeLine_eq]
          have := congrArg List.length fl
          rw [List.length_append, List.length_append] at this
          rw [List.length_append, List.length_take]
          omega
        · omega
        · rw [List.take_add_one, hy]
          show DpAll K _ _ (((l.take i).flatMap k ++ ((k l[i]).take j ++ [(k l[i])[j]])).map f)
          rw [← List.append_assoc, List.map_append]
          exact ((a2.same s4).tk t (tfs _)).app (.cons (du.tk t (tf _)) .nil)
    · have ej : j = zs.length := by omega
      refine .inl ⟨⟨zs, hz2, by omega⟩, by omega, s2, ys2, e2, ?_⟩
      rw [tk1]
      rw [ej, lz, List.take_length] at a2
      exact a2
  · have ei : i = l.length := by omega
    refine .inl ⟨⟨xs, hTH, by omega⟩, ?_⟩
    rw [ei, List.take_length] at a1
    exact hd D H ys hD s1 e1 a1
theorem lcZM_d {K : Fg} {σ : L2.St} {H1 : Hp} {Q : VK} {g : TG} {tt : TT} {te : TE} {vs : List Nat} {a b : Addr} {xs ys : List V} {α β : Type} {l : List α} {m : List β} {da : α → PyData} {db : β → PyData} (hT : SqL K H1 a xs) (hA : DpAll K H1 xs (l.map da)) (hT2 : SqT K H1 b ys) (hB : DpAll K H1 ys (m.map db)) (hl : l.length = m.length) (f : α × β → PyData) (hn : l.length ≤ 40000) (hf : ∀ x, tupd (f x) = true)
    (hs : ∀ (i : Nat) (x : α) (y : β) (v u : V) (t : Addr) (H : Hp) (Yes : VK) (No : Hp → Prop), l[i]? = some x → m[i]? = some y → Same H1 H → Dp K H v (da x) → Dp K H u (db y) → SqT K H t [v, u] → (∀ z H4, Same H H4 → Dp K H4 z (f (x, y)) → Yes z H4) →
      g (.ref t) (wipe σ vs) H fun σ2 H2 => wipe σ2 vs = wipe σ vs ∧ tt σ2 H2 fun b H3 => if b = true then te σ2 H3 Yes else No H3)
    (hd : ∀ D H' zs, H1 D = none → Same H1 H' → H' D = some (.lst zs) → DpAll K H' zs ((l.zip m).map f) → Q (.ref D) H') : LcQ (ItzM K a b) g tt te vs σ Q H1 := by
  have hx : xs.length = l.length := by rw [hA.len, List.length_map]
  have hy : ys.length = m.length := by rw [hB.len, List.length_map]
  have hz : (l.zip m).length = l.length := by rw [List.length_zip]; omega
  refine fun D hD => ?_
  refine lc_dat (K := K) (walk_zipM (K := K) (a := a) (b := b) (xs := xs) (ys := ys) (by omega)) (fun _ => true) (dAt (l.zip m) f) hD (by omega) (dAt_tupd fun x _ => hf _) (fun H s => ⟨s.seq hT, s.sqT hT2⟩) (fun i H x H' y => ?_) (fun i x H H' Yes No hi s1 y yes no => ?_) (fun H' zs s1 e1 a1 => ?_)
  · obtain ⟨T, _, _, _, h2, h3, _⟩ := y
    rw [h3]
    exact Same.new h2
  · obtain ⟨T, x1, y1, rfl, h2, h3, h4, h5⟩ := y
    have s2 : Same H H' := by rw [h3]; exact Same.new h2
    obtain ⟨d, hd', dd⟩ := hA.getv h4
    rw [List.getElem?_map] at hd'
    obtain ⟨z, hz1, rfl⟩ := Option.map_eq_some_iff.mp hd'
    obtain ⟨d2, hd2, dd2⟩ := hB.getv h5
    rw [List.getElem?_map] at hd2
    obtain ⟨z2, hz2, rfl⟩ := Option.map_eq_some_iff.mp hd2
    have hzz : (l.zip m)[i]? = some (z, z2) := List.getElem?_zip_eq_some.mpr ⟨hz1, hz2⟩
    rw [dAt_eq hzz] at yes
    exact hs i z z2 x1 y1 T H' Yes No hz1 hz2 (s1.trans s2) (dd.same (s1.trans s2)) (dd2.same (s1.trans s2)) (SqT.of (by rw [h3, upd_same])) (yes rfl)
  · rw [hx, ← hz, keptD_map] at a1
    exact hd D H' zs hD s1 e1 a1
end Z
set_option maxHeartbeats 1000000
namespace Z
open PySem PySem.Spec PyProof.Rows L2
open He (ga ma)
def flatW (n : Nat) (d : PyData) : Prop := d.canLay0 = true ∧ d.depth ≤ n
theorem flatW.mono {n m : Nat} {d : PyData} (h : flatW n d) (hm : n ≤ m) : flatW m d := ⟨h.1, Nat.le_trans h.2 hm⟩
theorem flatWs {n : Nat} : ∀ {l : List PyData}, (∀ d ∈ l, flatW n d) → PyData.canLayAll0 l = true ∧ PyData.depthAll l ≤ n
  | [], _ => ⟨rfl, Nat.zero_le _⟩
  | x :: l, h => by
    obtain ⟨h1, h2⟩ := h x List.mem_cons_self
    obtain ⟨h3, h4⟩ := flatWs (l := l) fun d hd => h d (List.mem_cons_of_mem _ hd)
    exact ⟨by show (x.canLay0 && PyData.canLayAll0 l) = true; rw [h1, h3]; rfl, by show max x.depth (PyData.depthAll l) ≤ n; omega⟩
theorem flatW_tup {n : Nat} {l : List PyData} (h : ∀ d ∈ l, flatW n d) : flatW (n + 1) (.tuple l) := by
  obtain ⟨h1, h2⟩ := flatWs h
  exact ⟨h1, show PyData.depthAll l + 1 ≤ n + 1 by omega⟩
theorem flatW_lst {n : Nat} {l : List PyData} (h : ∀ d ∈ l, flatW n d) : flatW (n + 1) (.list l) := by
  obtain ⟨h1, h2⟩ := flatWs h
  exact ⟨h1, show PyData.depthAll l + 1 ≤ n + 1 by omega⟩
theorem flatW.shaped {n : Nat} {d : PyData} (h : flatW n d) (hn : n ≤ 64) : SeqAt.shaped d = true := by
  show (d.canLay0 && decide (d.depth ≤ 64)) = true
  rw [h.1, decide_eq_true (Nat.le_trans h.2 hn)]
  rfl
theorem shaped_eqvW {d : PyData} (h : SeqAt.shaped d = true) : PyData.eqv d d = true := SeqAt.eqv_refl _ (SeqAt.canLay_of_shaped h)
theorem flatW_int (i : Int) : flatW 0 (.int i) := ⟨rfl, Nat.le_refl _⟩
theorem flatW_str {z : Str} (h : (PyData.str z).canLay0 = true) : flatW 0 (.str z) := ⟨h, Nat.le_refl _⟩
def Ws.go (P : Pl) (s : Ws) (ms : List Mv) : Ws := ms.foldl (fun t m => t.after P m) s
def Ws.Can (P : Pl) (s : Ws) (ms : List Mv) : Prop := ∀ i m, ms[i]? = some m → m ∈ (s.go P (ms.take i)).moves P
theorem Ws.go_snoc {P : Pl} {s : Ws} (ms : List Mv) (m : Mv) : s.go P (ms ++ [m]) = (s.go P ms).after P m := by
  unfold Ws.go
  rw [List.foldl_append]
  rfl
theorem Ws.Can.snoc {P : Pl} {s : Ws} {ms : List Mv} {m : Mv} (h : s.Can P ms) (hm : m ∈ (s.go P ms).moves P) : s.Can P (ms ++ [m]) := fun i x hi => by
  by_cases hlt : i < ms.length
  · rw [List.getElem?_append_left hlt] at hi
    rw [List.take_append_of_le_length (by omega)]
    exact h i x hi
  · have e : i = ms.length := by
      have := (List.getElem?_eq_some_iff.mp hi).1
      rw [List.length_append, List.length_singleton] at this
      omega
    subst e
    rw [List.getElem?_append_right (Nat.le_refl _), Nat.sub_self] at hi
    cases hi
    rw [List.take_left]
    exact hm
theorem Ws.Can.ok {P : Pl} {n : Nat} {s : Ws} (ok : P.Ok) (h0 : s.Ok P n) {ms : List Mv} (h : s.Can P ms) : ∀ i, i ≤ ms.length → (s.go P (ms.take i)).Ok P n
  | 0, _ => h0
  | i + 1, hi => by
    have ih := Ws.Can.ok ok h0 h i (by omega)
    have e : ms[i]? = some ms[i] := List.getElem?_eq_getElem (by omega)
    rw [List.take_add_one, e]
    show (s.go P (ms.take i ++ [ms[i]])).Ok P n
    rw [Ws.go_snoc]
    exact ih.after ok (h i _ e)
theorem Ws.Can.okAll {P : Pl} {n : Nat} {s : Ws} (ok : P.Ok) (h0 : s.Ok P n) {ms : List Mv} (h : s.Can P ms) : (s.go P ms).Ok P n := by
  have := h.ok ok h0 ms.length (Nat.le_refl _)
  rw [List.take_length] at this
  exact this
def Ws.endN (P : Pl) (s : Ws) : PyData := if (s.moves P).isEmpty = true then s.endD else .none
end Z
set_option maxHeartbeats 1000000
namespace Z
open PySem PySem.Spec PySem.Calls PyProof.Rows L2 PySem.W
theorem leS (a b : Str) : dataLe false PyData.str a b = decide (¬ b.cps.toList < a.cps.toList) := by
  show (!dataLt (.str b) (.str a)) = _
  rw [dataLt_str, ← decide_not]
theorem leS_iff (a b : Str) : dataLe false PyData.str a b = true ↔ ¬ b.cps.toList < a.cps.toList := by rw [leS, decide_eq_true_eq]
theorem leS_trans (a b c : Str) (h : dataLe false PyData.str a b = true) (k : dataLe false PyData.str b c = true) : dataLe false PyData.str a c = true := by
  rw [leS_iff] at *
  exact fun q => by
    have h1 := List.not_lt.mp h
    have h2 := List.not_lt.mp k
    exact List.not_lt.mpr (List.le_trans h1 h2) q
theorem leS_total (a b : Str) : (dataLe false PyData.str a b || dataLe false PyData.str b a) = true := by
  rw [Bool.or_eq_true, leS_iff, leS_iff]
  by_cases h : b.cps.toList < a.cps.toList
  · exact .inr fun k => List.lt_irrefl _ (List.lt_trans h k)
  · exact .inl h
theorem leS_anti (a b : Str) (h : dataLe false PyData.str a b = true) (k : dataLe false PyData.str b a = true) : a = b := by
  rw [leS_iff] at *
  exact str_of_cps (List.le_antisymm (List.not_lt.mp h) (List.not_lt.mp k))
def ordS (l : List Str) : List Str := l.mergeSort (dataLe false PyData.str)
theorem ordS_perm {l m : List Str} (h : l.Perm m) : ordS l = ordS m :=
  List.Perm.eq_of_pairwise (fun a b _ _ => leS_anti a b) (List.pairwise_mergeSort leS_trans leS_total l) (List.pairwise_mergeSort leS_trans leS_total m) (((List.mergeSort_perm l _).trans h).trans (List.mergeSort_perm m _).symm)
theorem ordS_idem (l : List Str) : ordS (ordS l) = ordS l := ordS_perm (List.mergeSort_perm _ _)
def putS (l : List Str) (z : Str) : List Str := ordS (l.filter (fun y => !decide (y = z)) ++ [z])
theorem wPut_str (l : List Str) (z : Str) : wPut (l.map Sum.inr) (.inr z) true = (putS l z).map Sum.inr := by
  unfold wPut putS srtY ordS cutY
  rw [if_pos rfl]
  have e : (l.map Sum.inr).filter (fun y : Key => !decide (y = .inr z)) ++ [(.inr z : Key)] = (l.filter (fun y => !decide (y = z)) ++ [z]).map Sum.inr := by
    rw [List.map_append, List.filter_map]
    congr 2
    refine List.filter_congr fun x _ => ?_
    show (!decide ((.inr x : Key) = .inr z)) = _
    congr 1
    rw [Bool.eq_iff_iff, decide_eq_true_iff, decide_eq_true_iff]
    exact ⟨fun h => Sum.inr.inj h, fun h => by rw [h]⟩
  rw [e]
  exact (List.map_mergeSort (f := (Sum.inr : Str → Key)) (r := dataLe false PyData.str) (s := dataLe false kD) (fun a _ b _ => rfl)).symm
def ringsS (l : List Str) : List Str := l.foldl putS []
theorem ringsK_str (rg : List Str) : ringsK rg = (ringsS rg).map Sum.inr := by
  have key : ∀ (l : List Str) (a : List Str), l.foldl (fun a z => wPut a (.inr z) true) (a.map Sum.inr) = (l.foldl putS a).map Sum.inr := fun l => by
    induction l with
    | nil => intro a; rfl
    | cons z l ih =>
      intro a
      show l.foldl _ (wPut (a.map Sum.inr) (.inr z) true) = _
      rw [wPut_str]
      exact ih _
  exact key rg []
theorem ringsS_is (rg : List Str) : ordS (ringsS rg) = ringsS rg ∧ (ringsS rg).Nodup ∧ ∀ z, z ∈ ringsS rg ↔ z ∈ rg := by
  have key : ∀ (l a : List Str), ordS a = a → a.Nodup → ordS (l.foldl putS a) = l.foldl putS a ∧ (l.foldl putS a).Nodup ∧ ∀ z, z ∈ l.foldl putS a ↔ z ∈ a ∨ z ∈ l := fun l => by
    induction l with
    | nil => intro a h1 h2; exact ⟨h1, h2, fun z => by simp⟩
    | cons y l ih =>
      intro a h1 h2
      have hp : (putS a y).Perm (a.filter (fun x => !decide (x = y)) ++ [y]) := List.mergeSort_perm _ _
      have nd : (a.filter (fun x => !decide (x = y)) ++ [y]).Nodup := List.nodup_append.mpr ⟨h2.sublist List.filter_sublist, by simp, fun u hu v hv e => by
        rw [List.mem_singleton.mp hv] at e
        have := (List.mem_filter.mp hu).2
        rw [e] at this
        simp at this⟩
      obtain ⟨k1, k2, k3⟩ := ih (putS a y) (ordS_idem _) (hp.nodup_iff.mpr nd)
      refine ⟨k1, k2, fun z => ?_⟩
      rw [show (y :: l).foldl putS a = l.foldl putS (putS a y) from rfl, k3 z, hp.mem_iff, List.mem_append, List.mem_filter, List.mem_singleton, List.mem_cons]
      constructor
      · rintro ((⟨h, _⟩ | h) | h)
        · exact .inl h
        · exact .inr (.inl h)
        · exact .inr (.inr h)
      · rintro (h | h | h)
        · by_cases e : z = y
          · exact .inl (.inr e)
          · exact .inl (.inl ⟨h, by simpa using e⟩)
        · exact .inl (.inr h)
        · exact .inr h
  obtain ⟨k1, k2, k3⟩ := key rg [] (by unfold ordS; exact List.mergeSort_nil) List.nodup_nil
  exact ⟨k1, k2, fun z => by rw [show ringsS rg = rg.foldl putS [] from rfl, k3 z]; simp⟩
theorem nd_perm : ∀ {l m : List Str}, l.Nodup → m.Nodup → (∀ z, z ∈ l ↔ z ∈ m) → l.Perm m := fun {l m} h1 h2 h3 => by
  refine perm_all h1 (fun x hx => (h3 x).mp hx) (h2.length_le_of_subset fun x hx => (h3 x).mpr hx) |>.symm
theorem rings_sorted {rg l m : List Str} (hl : l.Nodup) (hm : ∀ z, z ∈ l ↔ z ∈ rg) (hp : m.Perm l) : m.mergeSort (dataLe false PyData.str) = ringsS rg := by
  obtain ⟨k1, k2, k3⟩ := ringsS_is rg
  rw [← k1]
  exact ordS_perm (hp.trans (nd_perm hl k2 fun z => (hm z).trans (k3 z).symm))
def dPt (P : Pl) (n : Nat) (rg : List Str) : PyData := .tuple [.tuple (P.ls.map dLn), .tuple (P.ws.map dWk), .int (n : Nat), .tuple (rg.map PyData.str)]
theorem tupd_pt (P : Pl) (n : Nat) (rg : List Str) : tupd (dPt P n rg) = true := by
  show tupds [_, _, _, _] = true
  have h1 : tupd (.tuple (P.ls.map dLn)) = true := tupds_map tupd_dLn _
  have h2 : tupd (.tuple (P.ws.map dWk)) = true := tupds_map tupd_dWk _
  have h3 : tupd (.tuple (rg.map PyData.str)) = true := tupds_map (f := PyData.str) (fun _ => rfl) _
  simp [tupds, h1, h2, h3]
  rfl
theorem ln_filter {P : Pl} (ok : P.Ok) {z : Str} (hz : z ∈ P.names) : (P.ls.filter fun l => decide (l.nm = z)) = [P.ln z] := by
  have key : ∀ (l : List Ln), (l.map (·.nm)).Nodup → ∀ x ∈ l, (l.filter fun l => decide (l.nm = x.nm)) = [x] := fun l => by
    induction l with
    | nil => intro _ x hx; cases hx
    | cons y l ih =>
      intro hn x hx
      obtain ⟨n1, n2⟩ := List.nodup_cons.mp hn
      rcases List.mem_cons.mp hx with rfl | hx
      · rw [List.filter_cons_of_pos (by simp)]
        congr 1
        refine List.filter_eq_nil_iff.mpr fun w hw => ?_
        simp only [decide_eq_true_eq]
        exact fun e => n1 (List.mem_map.mpr ⟨w, hw, e⟩)
      · rw [List.filter_cons_of_neg (by simp only [decide_eq_true_eq]; exact fun e => n1 (List.mem_map.mpr ⟨x, hx, e.symm⟩))]
        exact ih n2 x hx
  obtain ⟨h1, h2⟩ := ok.ln_mem hz
  have := key P.ls ok.lnd _ h1
  rw [h2] at this
  exact this
theorem wk_filter {P : Pl} (ok : P.Ok) {z : Str} (hz : z ∈ P.wnames) : (P.ws.filter fun l => decide (l.nm = z)) = [P.wk z] := by
  have key : ∀ (l : List Wk), (l.map (·.nm)).Nodup → ∀ x ∈ l, (l.filter fun l => decide (l.nm = x.nm)) = [x] := fun l => by
    induction l with
    | nil => intro _ x hx; cases hx
    | cons y l ih =>
      intro hn x hx
      obtain ⟨n1, n2⟩ := List.nodup_cons.mp hn
      rcases List.mem_cons.mp hx with rfl | hx
      · rw [List.filter_cons_of_pos (by simp)]
        congr 1
        refine List.filter_eq_nil_iff.mpr fun w hw => ?_
        simp only [decide_eq_true_eq]
        exact fun e => n1 (List.mem_map.mpr ⟨w, hw, e⟩)
      · rw [List.filter_cons_of_neg (by simp only [decide_eq_true_eq]; exact fun e => n1 (List.mem_map.mpr ⟨x, hx, e.symm⟩))]
        exact ih n2 x hx
  obtain ⟨h1, h2⟩ := ok.wk_mem hz
  have := key P.ws ok.wnd _ h1
  rw [h2] at this
  exact this
end Z
set_option maxHeartbeats 1000000
namespace Z
open PySem PySem.Spec PyProof.Rows L2
theorem zipIdx_rg {α : Type} (d : α) (l : List α) : l.zipIdx = (List.range l.length).map fun i => ((l[i]?).getD d, i) := by
  refine List.ext_getElem? fun i => ?_
  rw [List.getElem?_zipIdx, List.getElem?_map]
  by_cases h : i < l.length
  · rw [List.getElem?_range h]
    have e : l[i]? = some l[i] := List.getElem?_eq_getElem h
    rw [e]
    show some (l[i], 0 + i) = some ((l[i]?).getD d, i)
    rw [e, Nat.zero_add]
    rfl
  · rw [List.getElem?_eq_none_iff.mpr (by omega), List.getElem?_eq_none_iff.mpr (by rw [List.length_range]; omega)]
    rfl
theorem zipIdx_fil {α β : Type} (d : α) (l : List α) (p : α → Bool) (f : α × Nat → β) : (l.zipIdx.filter fun x => p x.1).map f = ((List.range l.length).filter fun i => p ((l[i]?).getD d)).map fun i => f ((l[i]?).getD d, i) := by
  rw [zipIdx_rg d l, List.filter_map, List.map_map]
  rfl
theorem stuck_range (s : Ws) : s.stuck = (List.range s.cs.length).filter fun i => !((s.cs[i]?).getD wc0).ca.isEmpty := by
  unfold Ws.stuck
  rw [zipIdx_fil wc0 s.cs (fun c => !c.ca.isEmpty)]
  exact List.map_id' _
theorem begs_and (P : Pl) (s : Ws) (k : Key) : s.begs P k = (s.cs.zipIdx.filter fun x => s.free k && x.1.lets P (kS k)).map fun x => .beg (kS k) x.2 := by
  unfold Ws.begs
  cases h : s.free k with
  | true => rw [if_pos rfl]; rfl
  | false =>
    rw [if_neg Bool.false_ne_true]
    rw [List.filter_eq_nil_iff.mpr (fun x _ => by simp)]
    rfl
theorem bump_range (P : Pl) (be : List Int) (z : Str) (h : be.length = P.names.length) : bumpB P be z = (List.range P.names.length).map fun j : Nat => (be[j]?).getD 0 + if (P.names[j]?).getD ("" : Str) = z then 1 else 0 := by
  unfold bumpB
  refine List.ext_getElem? fun i => ?_
  rw [List.getElem?_map, List.getElem?_map]
  by_cases hi : i < P.names.length
  · rw [List.getElem?_range hi, (List.getElem?_zip_eq_some (z := (P.names[i], be[i]'(by omega)))).mpr ⟨List.getElem?_eq_getElem hi, List.getElem?_eq_getElem (by omega)⟩]
    show some (be[i] + if P.names[i] = z then 1 else 0) = some ((be[i]?).getD 0 + if (P.names[i]?).getD ("" : Str) = z then 1 else 0)
    rw [List.getElem?_eq_getElem hi, List.getElem?_eq_getElem (l := be) (by omega)]
    rfl
  · rw [List.getElem?_eq_none_iff.mpr (by rw [List.length_zip]; omega), List.getElem?_eq_none_iff.mpr (by rw [List.length_range]; omega)]
    rfl
theorem jobs_range (P : Pl) (l : List Str) : l.zipIdx.map (jobI P) = (List.range l.length).map fun j : Nat => (0 - (P.wk ((l[j]?).getD ("" : Str))).rk, ((j : Nat) : Int)) := by
  rw [zipIdx_rg ("" : Str) l, List.map_map]
  rfl
end Z
set_option maxHeartbeats 1000000
namespace Z
open PySem PySem.Spec PyProof.Rows L2
open He (ga ma)
def plainW : HO → Bool
  | .tbl _ => false
  | .ext _ => false
  | _ => true
def NoW (H : Hp) (a : Addr) : Prop := ∀ o, H a = some o → plainW o = true
theorem NoW.of {H : Hp} {a : Addr} {o : HO} (h : H a = some o) (k : plainW o = true) : NoW H a := fun o2 h2 => by
  rw [h] at h2
  cases h2
  exact k
theorem NoW.none {H : Hp} {a : Addr} (h : H a = none) : NoW H a := fun o2 h2 => by
  rw [h] at h2
  cases h2
def WrD (d : PyData) : Prop := d = .none ∨ (∃ (a : Str) (i : Int), d = .tuple [.str a, .int i]) ∨ ∃ (a b : Str) (i : Int), d = .tuple [.str a, .str b, .int i]
theorem WrD.eqv {d : PyData} (h : WrD d) {m : Mv} (e : PyData.eqv (dMv m) d = true) : d = dMv m := by
  rcases h with rfl | ⟨a, i, rfl⟩ | ⟨a, b, i, rfl⟩
  · cases m <;> simp [dMv, PyData.eqv] at e
  · cases m with
    | beg z n => simp [dMv, PyData.eqv, PyData.eqvAll] at e
    | stp n =>
      simp [dMv, PyData.eqv, PyData.eqvAll] at e
      obtain ⟨e1, e2⟩ := e
      rw [dMv, ← e1, ← e2]
  · cases m with
    | stp n => simp [dMv, PyData.eqv, PyData.eqvAll] at e
    | beg z n =>
      simp [dMv, PyData.eqv, PyData.eqvAll] at e
      obtain ⟨e1, e2, e3⟩ := e
      rw [dMv, ← e1, ← e2, ← e3]
end Z
set_option maxHeartbeats 1000000
namespace Z
open PySem PySem.Spec PyProof.Rows L2
open He (ga ma)
def kN : Key → NestedKey
  | .inl i => .num i
  | .inr z => .text z
def ksN (l : List Key) : NestedKey := .tup (l.map kN)
def clN (c : Str × Nat × Int) : NestedKey := .tup [.text c.1, .num (c.2.1 : Nat), .num c.2.2]
def wcN (c : Wc) : NestedKey := .tup [.tup (c.ca.map clN), .num c.ba, .tup (c.jo.map NestedKey.text)]
def wsN (s : Ws) : NestedKey := .tup [ksN s.wa, ksN s.ma, ksN s.up, .tup (s.be.map NestedKey.num), .tup (s.cs.map wcN)]
def enN (s : Ws) : NestedKey := if s.stuck.isEmpty = true then .tup [.text "rest", ksN s.up, .tup (s.be.map NestedKey.num)] else .tup [.text "stuck", .tup (s.stuck.map fun n => NestedKey.num (n : Nat))]
theorem datas_map {α : Type} (f : α → NestedKey) : ∀ l : List α, NestedKey.datas (l.map f) = l.map fun x => (f x).data
  | [] => rfl
  | x :: l => by
    show (f x).data :: NestedKey.datas (l.map f) = _
    rw [datas_map f l]
    rfl
theorem tup_data (l : List NestedKey) : (NestedKey.tup l).data = .tuple (NestedKey.datas l) := rfl
theorem kN_data (k : Key) : (kN k).data = kD k := by cases k <;> rfl
theorem ksN_data (l : List Key) : (ksN l).data = dKs l := by
  unfold ksN dKs
  rw [tup_data, datas_map]
  congr 1
  exact List.map_congr_left fun k _ => kN_data k
theorem wcN_data (c : Wc) : (wcN c).data = dWc c := by
  show PyData.tuple [.tuple (NestedKey.datas (c.ca.map clN)), .int c.ba, .tuple (NestedKey.datas (c.jo.map NestedKey.text))] = _
  rw [datas_map, datas_map]
  rfl
theorem wsN_data (s : Ws) : (wsN s).data = dWs s := by
  show PyData.tuple [(ksN s.wa).data, (ksN s.ma).data, (ksN s.up).data, .tuple (NestedKey.datas (s.be.map NestedKey.num)), .tuple (NestedKey.datas (s.cs.map wcN))] = _
  rw [ksN_data, ksN_data, ksN_data, datas_map, datas_map, List.map_congr_left fun c (_ : c ∈ s.cs) => wcN_data c]
  rfl
theorem enN_data (s : Ws) : (enN s).data = s.endD := by
  unfold enN Ws.endD
  split
  · show PyData.tuple [.str "rest", (ksN s.up).data, .tuple (NestedKey.datas (s.be.map NestedKey.num))] = _
    rw [ksN_data, datas_map]
    rfl
  · show PyData.tuple [.str "stuck", .tuple (NestedKey.datas (s.stuck.map fun n => NestedKey.num (n : Nat)))] = _
    rw [datas_map]
    rfl
theorem depths_le {n : Nat} : ∀ {l : List NestedKey}, (∀ k ∈ l, k.depth ≤ n) → NestedKey.depthAll l ≤ n
  | [], _ => Nat.zero_le _
  | k :: l, h => by
    show max k.depth (NestedKey.depthAll l) ≤ n
    have h1 := h k List.mem_cons_self
    have h2 := depths_le (l := l) fun y hy => h y (List.mem_cons_of_mem _ hy)
    omega
theorem depth_tup {n : Nat} {l : List NestedKey} (h : ∀ k ∈ l, k.depth ≤ n) : (NestedKey.tup l).depth ≤ n + 1 := by
  show NestedKey.depthAll l + 1 ≤ n + 1
  have := depths_le h
  omega
theorem depth_map {α : Type} {n : Nat} {l : List α} {f : α → NestedKey} (h : ∀ x, (f x).depth ≤ n) : (NestedKey.tup (l.map f)).depth ≤ n + 1 := depth_tup fun k hk => by
  obtain ⟨x, _, rfl⟩ := List.mem_map.mp hk
  exact h x
theorem kN_depth (k : Key) : (kN k).depth ≤ 0 := by cases k <;> exact Nat.le_refl _
theorem ksN_depth (l : List Key) : (ksN l).depth ≤ 1 := depth_map kN_depth
theorem clN_depth (c : Str × Nat × Int) : (clN c).depth ≤ 1 := depth_tup fun k hk => by
  simp only [List.mem_cons, List.not_mem_nil, or_false] at hk
  rcases hk with rfl | rfl | rfl <;> exact Nat.le_refl _
theorem wcN_depth (c : Wc) : (wcN c).depth ≤ 3 := depth_tup fun k hk => by
  simp only [List.mem_cons, List.not_mem_nil, or_false] at hk
  rcases hk with rfl | rfl | rfl
  · exact depth_map clN_depth
  · exact Nat.zero_le _
  · exact Nat.le_trans (depth_map (n := 0) fun _ => Nat.le_refl _) (by omega)
theorem wsN_depth (s : Ws) : (wsN s).depth ≤ 8 := by
  refine Nat.le_trans (depth_tup (n := 4) fun k hk => ?_) (by omega)
  simp only [List.mem_cons, List.not_mem_nil, or_false] at hk
  rcases hk with rfl | rfl | rfl | rfl | rfl
  · exact Nat.le_trans (ksN_depth _) (by omega)
  · exact Nat.le_trans (ksN_depth _) (by omega)
  · exact Nat.le_trans (ksN_depth _) (by omega)
  · exact Nat.le_trans (depth_map (n := 0) fun _ => Nat.le_refl _) (by omega)
  · exact depth_map wcN_depth
theorem enN_depth (s : Ws) : (enN s).depth ≤ 8 := by
  unfold enN
  split
  · refine Nat.le_trans (depth_tup (n := 1) fun k hk => ?_) (by omega)
    simp only [List.mem_cons, List.not_mem_nil, or_false] at hk
    rcases hk with rfl | rfl | rfl
    · exact Nat.zero_le _
    · exact ksN_depth _
    · exact depth_map (n := 0) fun _ => Nat.le_refl _
  · refine Nat.le_trans (depth_tup (n := 1) fun k hk => ?_) (by omega)
    simp only [List.mem_cons, List.not_mem_nil, or_false] at hk
    rcases hk with rfl | rfl
    · exact Nat.zero_le _
    · exact depth_map (n := 0) fun _ => Nat.le_refl _
theorem map_inj' {α β : Type} {f : α → β} (hf : ∀ a b, f a = f b → a = b) : ∀ {l m : List α}, l.map f = m.map f → l = m
  | [], [], _ => rfl
  | [], _ :: _, h => by simp at h
  | _ :: _, [], h => by simp at h
  | a :: l, b :: m, h => by
    simp only [List.map_cons, List.cons.injEq] at h
    rw [hf a b h.1, map_inj' hf h.2]
theorem kN_inj : ∀ a b : Key, kN a = kN b → a = b
  | .inl i, .inl j, h => by injection h with h; rw [h]
  | .inr i, .inr j, h => by injection h with h; rw [h]
  | .inl i, .inr j, h => by cases h
  | .inr i, .inl j, h => by cases h
theorem ksN_inj {a b : List Key} (h : ksN a = ksN b) : a = b := by
  injection h with h
  exact map_inj' kN_inj h
theorem clN_inj (a b : Str × Nat × Int) (h : clN a = clN b) : a = b := by
  obtain ⟨x, y, z⟩ := a
  obtain ⟨x', y', z'⟩ := b
  simp only [clN, NestedKey.tup.injEq, List.cons.injEq, NestedKey.text.injEq, NestedKey.num.injEq, and_true] at h
  obtain ⟨h1, h2, h3⟩ := h
  rw [h1, h3, Int.ofNat.inj h2]
theorem text_inj (a b : Str) (h : NestedKey.text a = NestedKey.text b) : a = b := by injection h
theorem num_inj (a b : Int) (h : NestedKey.num a = NestedKey.num b) : a = b := by injection h
theorem wcN_inj (a b : Wc) (h : wcN a = wcN b) : a = b := by
  obtain ⟨x, y, z⟩ := a
  obtain ⟨x', y', z'⟩ := b
  simp only [wcN, NestedKey.tup.injEq, List.cons.injEq, NestedKey.num.injEq, and_true] at h
  obtain ⟨h1, h2, h3⟩ := h
  rw [map_inj' clN_inj h1, h2, map_inj' text_inj h3]
theorem wsN_inj {a b : Ws} (h : wsN a = wsN b) : a = b := by
  obtain ⟨x1, x2, x3, x4, x5⟩ := a
  obtain ⟨y1, y2, y3, y4, y5⟩ := b
  simp only [wsN, NestedKey.tup.injEq, List.cons.injEq, and_true] at h
  obtain ⟨h1, h2, h3, h4, h5⟩ := h
  rw [ksN_inj h1, ksN_inj h2, ksN_inj h3, map_inj' num_inj h4, map_inj' wcN_inj h5]
abbrev Wy := List (Ws × List Mv)
abbrev Fd := List (NestedKey × List Mv)
def hasW (l : Wy) (k : NestedKey) : Bool := l.any fun x => decide (wsN x.1 = k)
def hasF (l : Fd) (k : NestedKey) : Bool := l.any fun x => decide (x.1 = k)
def addW (P : Pl) (s : Ws) (ms : List Mv) (l : Wy) (m : Mv) : Wy := if hasW l (wsN (s.after P m)) = true then l else l ++ [(s.after P m, ms ++ [m])]
def addF (P : Pl) (l : Fd) (s : Ws) (ms : List Mv) : Fd := if (s.moves P).isEmpty = true then (if hasF l (enN s) = true then l else l ++ [(enN s, ms)]) else l
structure Bf where
  wy : Wy
  fd : Fd
def Bf.turn (P : Pl) (b : Bf) (i : Nat) : Bf := match b.wy[i]? with
  | none => b
  | some x => ⟨(x.1.moves P).foldl (addW P x.1 x.2) b.wy, addF P b.fd x.1 x.2⟩
def bf (P : Pl) (s : Ws) : Nat → Bf
  | 0 => ⟨[(s, [])], []⟩
  | i + 1 => (bf P s i).turn P i
def FinAt (P : Pl) (s : Ws) (i : Nat) : Prop := (bf P s i).wy.length = i
def Big (P : Pl) (s : Ws) (m : Nat) : Prop := ∃ i, m < (bf P s i).wy.length
theorem addW_pre (P : Pl) (s : Ws) (ms : List Mv) (l : Wy) (m : Mv) : l <+: addW P s ms l m := by
  unfold addW
  split
  · exact List.prefix_refl _
  · exact List.prefix_append _ _
theorem foldW_pre (P : Pl) (s : Ws) (ms : List Mv) : ∀ (l : List Mv) (a : Wy), a <+: l.foldl (addW P s ms) a
  | [], a => List.prefix_refl _
  | m :: l, a => (addW_pre P s ms a m).trans (foldW_pre P s ms l _)
theorem turn_pre (P : Pl) (b : Bf) (i : Nat) : b.wy <+: (b.turn P i).wy := by
  unfold Bf.turn
  split
  · exact List.prefix_refl _
  · exact foldW_pre P _ _ _ _
theorem bf_pre {P : Pl} {s : Ws} {i : Nat} : ∀ {j : Nat}, i ≤ j → (bf P s i).wy <+: (bf P s j).wy
  | 0, h => by
    have : i = 0 := by omega
    rw [this]
    exact List.prefix_refl _
  | j + 1, h => by
    by_cases e : i = j + 1
    · rw [e]; exact List.prefix_refl _
    · exact (bf_pre (j := j) (by omega)).trans (turn_pre P _ _)
theorem bf_mono {P : Pl} {s : Ws} {i j : Nat} (h : i ≤ j) : (bf P s i).wy.length ≤ (bf P s j).wy.length := (bf_pre h).length_le
theorem bf_get {P : Pl} {s : Ws} {i j k : Nat} {x : Ws × List Mv} (h : i ≤ j) (e : (bf P s i).wy[k]? = some x) : (bf P s j).wy[k]? = some x := by
  obtain ⟨t, ht⟩ := bf_pre (P := P) (s := s) h
  rw [← ht, List.getElem?_append_left (List.getElem?_eq_some_iff.mp e).1]
  exact e
theorem FinAt.stop {P : Pl} {s : Ws} {i : Nat} (h : FinAt P s i) : ∀ {j : Nat}, i ≤ j → bf P s j = bf P s i
  | 0, hj => by
    have : i = 0 := by omega
    rw [this]
  | j + 1, hj => by
    by_cases e : i = j + 1
    · rw [e]
    · have ih := FinAt.stop h (j := j) (by omega)
      show (bf P s j).turn P j = _
      rw [ih]
      unfold Bf.turn
      rw [List.getElem?_eq_none (by rw [h]; omega)]
theorem FinAt.big {P : Pl} {s : Ws} {i m : Nat} (h : FinAt P s i) (hm : i ≤ m) : ¬ Big P s m := fun ⟨j, hj⟩ => by
  rcases Nat.le_total i j with c | c
  · rw [h.stop c, h] at hj
    omega
  · have := bf_mono (P := P) (s := s) c
    rw [h] at this
    omega
structure BfOk (P : Pl) (s : Ws) (b : Bf) : Prop where
  go : ∀ (j : Nat) x, b.wy[j]? = some x → x.1 = s.go P x.2 ∧ s.Can P x.2 ∧ x.2.length ≤ j
  nd : (b.wy.map fun x => wsN x.1).Nodup
  fgo : ∀ x ∈ b.fd, x.1 = enN (s.go P x.2) ∧ s.Can P x.2 ∧ ((s.go P x.2).moves P).isEmpty = true ∧ x.2.length ≤ b.wy.length
  fnd : (b.fd.map (·.1)).Nodup
theorem hasW_iff {l : Wy} {k : NestedKey} : hasW l k = true ↔ k ∈ l.map fun x => wsN x.1 := by
  unfold hasW
  rw [List.any_eq_true, List.mem_map]
  exact ⟨fun ⟨x, h1, h2⟩ => ⟨x, h1, of_decide_eq_true h2⟩, fun ⟨x, h1, h2⟩ => ⟨x, h1, decide_eq_true h2⟩⟩
theorem hasF_iff {l : Fd} {k : NestedKey} : hasF l k = true ↔ k ∈ l.map (·.1) := by
  unfold hasF
  rw [List.any_eq_true, List.mem_map]
  exact ⟨fun ⟨x, h1, h2⟩ => ⟨x, h1, of_decide_eq_true h2⟩, fun ⟨x, h1, h2⟩ => ⟨x, h1, decide_eq_true h2⟩⟩
theorem addW_ok {P : Pl} {s0 : Ws} {s : Ws} {ms : List Mv} {l : Wy} {m : Mv} {i : Nat} (hl : i < l.length) (go : ∀ (j : Nat) x, l[j]? = some x → x.1 = s0.go P x.2 ∧ s0.Can P x.2 ∧ x.2.length ≤ j) (nd : (l.map fun x => wsN x.1).Nodup) (e : s = s0.go P ms) (can : s0.Can P ms) (hi : ms.length ≤ i) (hm : m ∈ s.moves P) :
    (∀ (j : Nat) x, (addW P s ms l m)[j]? = some x → x.1 = s0.go P x.2 ∧ s0.Can P x.2 ∧ x.2.length ≤ j) ∧ ((addW P s ms l m).map fun x => wsN x.1).Nodup := by
  unfold addW
  by_cases h : hasW l (wsN (s.after P m)) = true
  · rw [if_pos h]
    exact ⟨go, nd⟩
  · rw [if_neg h]
    refine ⟨fun j x hj => ?_, ?_⟩
    · rcases Nat.lt_or_ge j l.length with c | c
      · rw [List.getElem?_append_left c] at hj
        exact go j x hj
      · rw [List.getElem?_append_right c] at hj
        obtain ⟨c2, rfl⟩ : j - l.length = 0 ∧ (s.after P m, ms ++ [m]) = x := by
          cases hjj : j - l.length with
          | zero => rw [hjj] at hj; cases hj; exact ⟨rfl, rfl⟩
          | succ _ => rw [hjj] at hj; cases hj
        subst e
        exact ⟨(Ws.go_snoc ms m).symm, can.snoc hm, by rw [List.length_append]; show ms.length + 1 ≤ j; omega⟩
    · rw [List.map_append]
      refine List.nodup_append.mpr ⟨nd, by simp, fun a ha b hb e2 => ?_⟩
      rw [List.map_singleton, List.mem_singleton] at hb
      rw [e2, hb] at ha
      exact h (hasW_iff.mpr ha)
theorem foldW_ok {P : Pl} {s0 : Ws} {s : Ws} {ms : List Mv} {i : Nat} (e : s = s0.go P ms) (can : s0.Can P ms) (hi : ms.length ≤ i) : ∀ (l : List Mv) (a : Wy), (∀ m ∈ l, m ∈ s.moves P) → i < a.length → (∀ (j : Nat) x, a[j]? = some x → x.1 = s0.go P x.2 ∧ s0.Can P x.2 ∧ x.2.length ≤ j) → (a.map fun x => wsN x.1).Nodup →
    (∀ (j : Nat) x, (l.foldl (addW P s ms) a)[j]? = some x → x.1 = s0.go P x.2 ∧ s0.Can P x.2 ∧ x.2.length ≤ j) ∧ ((l.foldl (addW P s ms) a).map fun x => wsN x.1).Nodup
  | [], a, _, _, h1, h2 => ⟨h1, h2⟩
  | m :: l, a, hm, hl, h1, h2 => by
    obtain ⟨k1, k2⟩ := addW_ok hl h1 h2 e can hi (hm m List.mem_cons_self)
    exact foldW_ok e can hi l _ (fun y hy => hm y (List.mem_cons_of_mem _ hy)) (Nat.lt_of_lt_of_le hl (addW_pre P s ms a m).length_le) k1 k2
theorem bf_ok (P : Pl) (s : Ws) : ∀ i : Nat, BfOk P s (bf P s i)
  | 0 => by
    refine ⟨fun j x hj => ?_, by simp [bf], (fun x hx => nomatch hx), List.nodup_nil⟩
    cases j with
    | zero =>
      cases hj
      exact ⟨rfl, fun i m h => by simp at h, Nat.le_refl _⟩
    | succ j => cases hj
  | i + 1 => by
    have ih := bf_ok P s i
    show BfOk P s ((bf P s i).turn P i)
    unfold Bf.turn
    cases e : (bf P s i).wy[i]? with
    | none => exact ih
    | some x =>
      obtain ⟨g1, g2, g3⟩ := ih.go i x e
      have hl : i < (bf P s i).wy.length := (List.getElem?_eq_some_iff.mp e).1
      obtain ⟨k1, k2⟩ := foldW_ok g1 g2 g3 (x.1.moves P) _ (fun m hm => hm) hl ih.go ih.nd
      have pl := (foldW_pre P x.1 x.2 (x.1.moves P) (bf P s i).wy).length_le
      refine ⟨k1, k2, fun y hy => ?_, ?_⟩
      · have hy : y ∈ addF P (bf P s i).fd x.1 x.2 := hy
        unfold addF at hy
        have old : y ∈ (bf P s i).fd → y.1 = enN (s.go P y.2) ∧ s.Can P y.2 ∧ ((s.go P y.2).moves P).isEmpty = true ∧ y.2.length ≤ ((x.1.moves P).foldl (addW P x.1 x.2) (bf P s i).wy).length := fun h => by
          obtain ⟨a, b, c, d⟩ := ih.fgo y h
          exact ⟨a, b, c, Nat.le_trans d pl⟩
        split at hy
        · rename_i hm
          split at hy
          · exact old hy
          · rcases List.mem_append.mp hy with hy | hy
            · exact old hy
            · rw [List.mem_singleton.mp hy]
              refine ⟨by rw [← g1], g2, by rw [← g1]; exact hm, Nat.le_trans g3 (Nat.le_of_lt (Nat.lt_of_lt_of_le hl pl))⟩
        · exact old hy
      · show ((addF P (bf P s i).fd x.1 x.2).map (·.1)).Nodup
        unfold addF
        split
        · split
          · exact ih.fnd
          · rename_i hn
            rw [List.map_append]
            refine List.nodup_append.mpr ⟨ih.fnd, by simp, fun a ha b hb e2 => ?_⟩
            rw [List.map_singleton, List.mem_singleton] at hb
            rw [e2, hb] at ha
            exact hn (hasF_iff.mpr ha)
        · exact ih.fnd
theorem bf_fd_len (P : Pl) (s : Ws) : ∀ i : Nat, (bf P s i).fd.length ≤ i
  | 0 => Nat.le_refl _
  | i + 1 => by
    have ih := bf_fd_len P s i
    show ((bf P s i).turn P i).fd.length ≤ _
    unfold Bf.turn
    split
    · omega
    · show (addF P _ _ _).length ≤ _
      unfold addF
      split
      · split
        · omega
        · rw [List.length_append]
          show _ + 1 ≤ _
          omega
      · omega
def dFd (x : NestedKey × List Mv) : PyData := .tuple [x.1.data, .list (x.2.map dMv)]
def srtF (l : Fd) : Fd := l.mergeSort (PySem.W.dataLe false fun x : NestedKey × List Mv => x.1.data)
end Z
set_option maxHeartbeats 1000000
namespace Z
open PySem PySem.Spec PyProof.Rows L2
open He (ga ma)
mutual
theorem nk_tupd : ∀ k : NestedKey, tupd k.data = true
  | .none => rfl
  | .num _ => rfl
  | .text _ => rfl
  | .tup ks => nks_tupd ks
theorem nks_tupd : ∀ ks : List NestedKey, tupds (NestedKey.datas ks) = true
  | [] => rfl
  | k :: ks => by
    show (tupd k.data && tupds (NestedKey.datas ks)) = true
    rw [nk_tupd k, nks_tupd ks]
    rfl
end
theorem KeyU.tk {K : Fg} {H H' : Hp} {k : NestedKey} {b : Addr} (h : KeyU K H k b) (t : Tk H H') : KeyU K H' k b := ⟨h.1.tk t (nk_tupd k), h.2⟩
theorem KeysU.tk {K : Fg} {H H' : Hp} {es : EnU} (h : KeysU K H es) (t : Tk H H') : KeysU K H' es := fun x hx => (h x hx).tk t
theorem paired_imp {α β : Type} {F G : α → β → Prop} : ∀ {xs : List α} {ys : List β}, Paired F xs ys → (∀ x y, y ∈ ys → F x y → G x y) → Paired G xs ys
  | _, _, .nil, _ => .nil
  | _, _, .cons h t, k => .cons (k _ _ List.mem_cons_self h) (paired_imp t fun x y hy => k x y (List.mem_cons_of_mem _ hy))
theorem paired_snoc {α β : Type} {F : α → β → Prop} {x : α} {y : β} : ∀ {xs : List α} {ys : List β}, Paired F xs ys → F x y → Paired F (xs ++ [x]) (ys ++ [y])
  | _, _, .nil, h => .cons h .nil
  | _, _, .cons a t, h => .cons a (paired_snoc t h)
def UAt {α : Type} (w : World) (K : Fg) (H : Hp) (d : Addr) (l : List α) (key : α → NestedKey) (R : Hp → V → α → Prop) : Prop :=
  ∃ es : EnU, H d = some (dU w d es) ∧ KeysU K H es ∧ Paired (fun (e : NestedKey × Addr × V) x => e.1 = key x ∧ R H e.2.2 x) es l
def UGetP (w : World) (K : Fg) (x y : V) (H : Hp) (Q : VK) : Prop := ∃ a b es k v, x = .ref a ∧ y = .ref b ∧ H a = some (dU w a es) ∧ KeysU K H es ∧ KeyU K H k b ∧ getU es k = some v ∧ Q v H
def UInP (w : World) (K : Fg) (neg : Bool) (x y : V) (H : Hp) (Q : VK) : Prop := ∃ a b es k, x = .ref a ∧ y = .ref b ∧ H a = some (dU w a es) ∧ KeysU K H es ∧ KeyU K H k b ∧ Q (.bl (if neg = true then !(getU es k).isSome else (getU es k).isSome)) H
def UPutP (w : World) (K : Fg) (x y v : V) (H : Hp) (N : Hp → Prop) : Prop := ∃ a b es k, x = .ref a ∧ y = .ref b ∧ H a = some (dU w a es) ∧ KeysU K H es ∧ KeyU K H k b ∧ getU es k = none ∧ es.length < sizeLine ∧ N (upd H a (dU w a (es ++ [(k, b, v)])))
def UOneP (w : World) (K : Fg) (p : Addr) (y v : V) (H : Hp) (N : Hp → Prop) : Prop := ∃ b k, y = .ref b ∧ H p = some (dU w p []) ∧ KeyU K H k b ∧ N (upd H p (dU w p [(k, b, v)]))
theorem tupO_dU {w : World} {d : Addr} {es : EnU} : tupO (dU w d es) = false := rfl
section
variable {w : World} {K : Fg} {H H' : Hp} {d : Addr} {α : Type} {l : List α} {key : α → NestedKey} {R R' : Hp → V → α → Prop}
theorem UAt.keep {A : List Addr} (h : UAt w K H d l key R) (f : Fr A H H') (hd : d ∉ A) (hR : ∀ v x, x ∈ l → R H v x → R' H' v x) : UAt w K H' d l key R' := by
  obtain ⟨es, e1, e2, e3⟩ := h
  exact ⟨es, f.at e1 hd, e2.tk f.tk, paired_imp e3 fun x y hy ⟨a, b⟩ => ⟨a, hR _ _ hy b⟩⟩
theorem UAt.nolst (h : UAt w K H d l key R) : ∀ xs, H d ≠ some (.lst xs) := fun xs e => by
  obtain ⟨es, e1, _⟩ := h
  rw [e1] at e
  cases e
theorem UAt.ex (h : UAt w K H d l key R) : H d ≠ none := fun e => by
  obtain ⟨es, e1, _⟩ := h
  rw [e1] at e
  cases e
theorem getU_has : ∀ {es : EnU} {l : List α}, Paired (fun (e : NestedKey × Addr × V) x => e.1 = key x ∧ R H e.2.2 x) es l → ∀ k : NestedKey, (getU es k).isSome = l.any fun x => decide (key x = k)
  | _, _, .nil, k => rfl
  | _, _, .cons (a := e) (b := x) ⟨h1, h2⟩ t, k => by
    have ih := getU_has t k
    unfold getU at ih ⊢
    rw [List.any_cons, List.find?_cons, h1]
    by_cases c : key x = k
    · simp [c]
    · simp only [c, decide_false, Bool.false_or]
      exact ih
theorem getU_at : ∀ {es : EnU} {l : List α}, Paired (fun (e : NestedKey × Addr × V) x => e.1 = key x ∧ R H e.2.2 x) es l → (l.map key).Nodup → ∀ {x : α}, x ∈ l → ∃ v, getU es (key x) = some v ∧ R H v x
  | _, _, .nil, _, x, hx => nomatch hx
  | _, _, .cons (a := e) (b := y) ⟨h1, h2⟩ t, nd, x, hx => by
    rw [List.map_cons] at nd
    obtain ⟨n1, n2⟩ := List.nodup_cons.mp nd
    unfold getU
    rw [List.find?_cons, h1]
    rcases List.mem_cons.mp hx with rfl | hx
    · simp only [decide_true]
      exact ⟨_, rfl, h2⟩
    · have c : ¬ key y = key x := fun c => n1 (by rw [c]; exact List.mem_map_of_mem hx)
      simp only [c, decide_false]
      exact getU_at t n2 hx
theorem UAt.len (h : UAt w K H d l key R) {Q : VK} (q : Q (.int (l.length : Nat)) H) : rLenU w K [.ref d] H Q := by
  obtain ⟨es, e1, e2, e3⟩ := h
  exact ⟨d, es, rfl, e1, e2, by rw [Paired.length e3]; exact q⟩
theorem UAt.nin (h : UAt w K H d l key R) {Q : VK} {b : Addr} {k : NestedKey} (kb : KeyU K H k b) (q : Q (.bl (!(l.any fun x => decide (key x = k)))) H) : UInP w K true (.ref d) (.ref b) H Q := by
  obtain ⟨es, e1, e2, e3⟩ := h
  exact ⟨d, b, es, k, rfl, rfl, e1, e2, kb, by rw [getU_has e3]; exact q⟩
theorem UAt.got (h : UAt w K H d l key R) {Q : VK} {b : Addr} {x : α} (nd : (l.map key).Nodup) (hx : x ∈ l) (kb : KeyU K H (key x) b) (q : ∀ v, R H v x → Q v H) : UGetP w K (.ref d) (.ref b) H Q := by
  obtain ⟨es, e1, e2, e3⟩ := h
  obtain ⟨v, g, r⟩ := getU_at e3 nd hx
  exact ⟨d, b, es, key x, v, rfl, rfl, e1, e2, kb, g, q v r⟩
theorem UAt.put (h : UAt w K H d l key R) {N : Hp → Prop} {b : Addr} {x : α} {v : V} (kb : KeyU K H (key x) b) (hn : (l.any fun y => decide (key y = key x)) = false) (hl : l.length < sizeLine)
    (hR : ∀ H', Fr [d] H H' → ∀ v y, y ∈ l → R H v y → R' H' v y) (hx : ∀ H', Fr [d] H H' → R' H' v x) (q : ∀ H', Fr [d] H H' → UAt w K H' d (l ++ [x]) key R' → N H') :
    UPutP w K (.ref d) (.ref b) v H N := by
  obtain ⟨es, e1, e2, e3⟩ := h
  have f : Fr [d] H (upd H d (dU w d (es ++ [(key x, b, v)]))) := Fr.upd (by simp) e1 tupO_dU
  refine ⟨d, b, es, key x, rfl, rfl, e1, e2, kb, ?_, by rw [Paired.length e3]; exact hl, q _ f ⟨_, upd_same, fun y hy => ?_, ?_⟩⟩
  · have := getU_has e3 (key x)
    rw [hn] at this
    exact Option.isNone_iff_eq_none.mp (by rw [Option.isNone_iff_eq_none]; exact Option.not_isSome_iff_eq_none.mp (by rw [this]; exact Bool.false_ne_true))
  · rcases List.mem_append.mp hy with hy | hy
    · exact (e2 y hy).tk f.tk
    · rw [List.mem_singleton.mp hy]
      exact kb.tk f.tk
  · exact paired_snoc (paired_imp e3 fun a y hy ⟨c1, c2⟩ => ⟨c1, hR _ f _ _ hy c2⟩) ⟨rfl, hx _ f⟩
end
section
variable {w : World} {K : Fg} {H : Hp} {d : Addr} {α : Type} {key : α → NestedKey} {R : Hp → V → α → Prop}
theorem UAt.nil (e : H d = some (dU w d [])) : UAt w K H d [] key R := ⟨[], e, (fun x hx => nomatch hx), .nil⟩
theorem UAt.one {N : Hp → Prop} {b : Addr} {x : α} {v : V} (e : H d = some (dU w d [])) (kb : KeyU K H (key x) b) (hx : ∀ H', Fr [d] H H' → R H' v x) (q : ∀ H', Fr [d] H H' → UAt w K H' d [x] key R → N H') :
    UOneP w K d (.ref b) v H N := by
  have f : Fr [d] H (upd H d (dU w d [(key x, b, v)])) := Fr.upd (by simp) e tupO_dU
  refine ⟨b, key x, rfl, e, kb, q _ f ⟨_, upd_same, fun y hy => ?_, .cons ⟨rfl, hx _ f⟩ .nil⟩⟩
  rw [List.mem_singleton.mp hy]
  exact kb.tk f.tk
end
section
variable {w : World} {K : Fg} {σ : L2.St} {H : Hp} {Q : VK} {td ty tv : TE} {D : Ends}
theorem s_uget (q : td σ H fun x H1 => ty σ H1 fun y H2 => UGetP w K x y H2 Q) : tUGet w K td ty σ H Q := q
theorem s_unotin (q : ty σ H fun y H1 => td σ H1 fun x H2 => UInP w K true x y H2 Q) : tUNotIn w K ty td σ H Q := q
theorem s_uput (q : tv σ H fun v H1 => td σ H1 fun x H2 => ty σ H2 fun y H3 => UPutP w K x y v H3 fun H4 => D.nx σ H4) : sUPut w K td ty tv D σ H := q
theorem s_unew (q : ∀ p, H p = none → Q (.ref p) (upd H p (dU w p []))) : tUNew w σ H Q := q
theorem s_uone (q : ∀ p, H p = none → ty σ (upd H p (dU w p [])) fun y H1 => tv σ H1 fun v H2 => UOneP w K p y v H2 fun H3 => Q (.ref p) H3) : tUOne w K ty tv σ H Q := q
end
def LvQ (K : Fg) (q : Addr) (H : Hp) (v : V) (ms : List Mv) : Prop := ∃ l ys, v = .ref l ∧ l ≠ q ∧ H l = some (.lst ys) ∧ DpAll K H ys (ms.map dMv)
theorem LvQ.keep {K : Fg} {q : Addr} {H H' : Hp} {v : V} {ms : List Mv} {A : List Addr} (h : LvQ K q H v ms) (f : Fr A H H') (hA : ∀ a ∈ A, a = q ∨ ∀ xs, H a ≠ some (.lst xs)) : LvQ K q H' v ms := by
  obtain ⟨l, ys, rfl, n, e, a⟩ := h
  refine ⟨l, ys, rfl, n, f.at e fun z => ?_, a.tk f.tk (tds_mv _)⟩
  rcases hA l z with c | c
  · exact n c
  · exact c _ e
theorem LvQ.dp {K : Fg} {q : Addr} {H : Hp} {v : V} {ms : List Mv} (h : LvQ K q H v ms) : Dp K H v (.list (ms.map dMv)) := by
  obtain ⟨l, ys, rfl, n, e, a⟩ := h
  exact .lst (SqL.of e) a
theorem key_ws {K : Fg} {H : Hp} {t : Addr} {s : Ws} (h : Dp K H (.ref t) (dWs s)) : KeyU K H (wsN s) t := ⟨by rw [wsN_data]; exact h, wsN_depth s⟩
theorem key_en {K : Fg} {H : Hp} {t : Addr} {s : Ws} (h : Dp K H (.ref t) s.endD) : KeyU K H (enN s) t := ⟨by rw [enN_data]; exact h, enN_depth s⟩
theorem endD_ref {K : Fg} {H : Hp} {v : V} {s : Ws} (h : Dp K H v s.endD) : ∃ t, v = .ref t := by
  unfold Ws.endD at h
  split at h
  · obtain ⟨t, _, e, _⟩ := h.tupI
    exact ⟨t, e⟩
  · obtain ⟨t, _, e, _⟩ := h.tupI
    exact ⟨t, e⟩
theorem moves_len {P : Pl} {n : Nat} {s : Ws} (so : s.Ok P n) (ok : P.Ok) (n6 : n ≤ 6) : (s.moves P).length ≤ 78 := by
  have h1 := begs_len (P := P) (s := s) (by have := so.cs; omega) s.wa
  obtain ⟨h2, _⟩ := so.walen ok
  unfold Ws.moves
  rw [List.length_append, List.length_map]
  have h3 := List.length_filter_le (fun x : Wc × Nat => x.1.can P s.up) s.cs.zipIdx
  rw [List.length_zipIdx] at h3
  have := so.cs
  have h4 : s.wa.length * 6 ≤ 12 * 6 := Nat.mul_le_mul_right _ h2
  omega
theorem addW_len (P : Pl) (s : Ws) (ms : List Mv) (l : Wy) (m : Mv) : (addW P s ms l m).length ≤ l.length + 1 := by
  unfold addW
  split
  · omega
  · rw [List.length_append]
    exact Nat.le_refl _
theorem foldW_len (P : Pl) (s : Ws) (ms : List Mv) : ∀ (l : List Mv) (a : Wy), (l.foldl (addW P s ms) a).length ≤ a.length + l.length
  | [], a => Nat.le_refl _
  | m :: l, a => by
    have h1 := foldW_len P s ms l (addW P s ms a m)
    have h2 := addW_len P s ms a m
    rw [List.foldl_cons, List.length_cons]
    omega
def midW (P : Pl) (b : Bf) (x : Ws × List Mv) (j : Nat) : Wy := ((x.1.moves P).take j).foldl (addW P x.1 x.2) b.wy
theorem midW_next {P : Pl} {b : Bf} {x : Ws × List Mv} {j : Nat} {m : Mv} (h : (x.1.moves P)[j]? = some m) : midW P b x (j + 1) = addW P x.1 x.2 (midW P b x j) m := by
  unfold midW
  rw [List.take_add_one, h, List.foldl_append]
  rfl
theorem midW_all (P : Pl) (b : Bf) (x : Ws × List Mv) : midW P b x (x.1.moves P).length = (x.1.moves P).foldl (addW P x.1 x.2) b.wy := by
  unfold midW
  rw [List.take_length]
theorem midW_pre (P : Pl) (b : Bf) (x : Ws × List Mv) (j : Nat) : b.wy <+: midW P b x j := foldW_pre _ _ _ _ _
theorem midW_le (P : Pl) (b : Bf) (x : Ws × List Mv) (j : Nat) : (midW P b x j).length ≤ ((x.1.moves P).foldl (addW P x.1 x.2) b.wy).length := by
  unfold midW
  conv => rhs; rw [← List.take_append_drop j (x.1.moves P), List.foldl_append]
  exact (foldW_pre P x.1 x.2 _ _).length_le
theorem bf_next {P : Pl} {s : Ws} {i : Nat} {x : Ws × List Mv} (h : (bf P s i).wy[i]? = some x) : bf P s (i + 1) = ⟨(x.1.moves P).foldl (addW P x.1 x.2) (bf P s i).wy, addF P (bf P s i).fd x.1 x.2⟩ := by
  show (bf P s i).turn P i = _
  unfold Bf.turn
  rw [h]
theorem hasW_any (l : Wy) (k : NestedKey) : (l.any fun x => decide (wsN x.1 = k)) = hasW l k := rfl
theorem hasF_any (l : Fd) (k : NestedKey) : (l.any fun x => decide (x.1 = k)) = hasF l k := rfl
end Z
set_option maxHeartbeats 1000000
namespace Z
open PySem PySem.Spec PyProof.Rows L2
open He (ga ma)
theorem up_ints {P : Pl} {n : Nat} {s : Ws} (so : s.Ok P n) : ∃ is : List Int, s.up.map kD = is.map PyData.int := by
  have key : ∀ l : List Key, (∀ k ∈ l, k ∈ flagK) → ∃ is : List Int, l.map kD = is.map PyData.int := fun l => by
    induction l with
    | nil => exact fun _ => ⟨[], rfl⟩
    | cons k l ih =>
      intro h
      obtain ⟨is, e⟩ := ih fun y hy => h y (List.mem_cons_of_mem _ hy)
      obtain ⟨i, _, rfl⟩ := List.mem_map.mp (h k List.mem_cons_self)
      exact ⟨i :: is, by rw [List.map_cons, e]; rfl⟩
  exact key s.up so.up.sub
theorem end_shape {P : Pl} {n : Nat} {s : Ws} (so : s.Ok P n) : ∃ (a : Str) (is : List Int) (r : List PyData), s.endD = .tuple (.str a :: .tuple (is.map .int) :: r) ∧ (r = [] ∨ ∃ js : List Int, r = [.tuple (js.map .int)]) := by
  unfold Ws.endD
  split
  · obtain ⟨is, e⟩ := up_ints so
    exact ⟨"rest", is, [.tuple (s.be.map .int)], by unfold dKs; rw [e], .inr ⟨s.be, rfl⟩⟩
  · exact ⟨"stuck", s.stuck.map fun n => ((n : Nat) : Int), [], by rw [List.map_map]; rfl, .inl rfl⟩
theorem end_alike {P : Pl} {n : Nat} {s t : Ws} (so : s.Ok P n) (to : t.Ok P n) : PySem.W.alike s.endD t.endD = true := by
  obtain ⟨a, is, r, e1, h1⟩ := end_shape so
  obtain ⟨b, js, q, e2, h2⟩ := end_shape to
  rw [e1, e2]
  have hh := PySem.W.alike_ints is js
  rcases h1 with rfl | ⟨ks, rfl⟩ <;> rcases h2 with rfl | ⟨ls, rfl⟩
  · simp [PySem.W.alike, PySem.W.alikeAll, hh]
  · simp [PySem.W.alike, PySem.W.alikeAll, hh]
  · simp [PySem.W.alike, PySem.W.alikeAll, hh]
  · simp [PySem.W.alike, PySem.W.alikeAll, hh, PySem.W.alike_ints ks ls]
theorem end_tup (s : Ws) : ∃ l, (enN s).data = .tuple l := by
  rw [enN_data]
  unfold Ws.endD
  split
  · exact ⟨_, rfl⟩
  · exact ⟨_, rfl⟩
theorem paired_zip {α β : Type} {F : α → β → Prop} : ∀ {xs : List α} {ys : List β}, Paired F xs ys → ∃ zs : List (α × β), xs = zs.map (·.1) ∧ ys = zs.map (·.2) ∧ ∀ z ∈ zs, F z.1 z.2
  | _, _, .nil => ⟨[], rfl, rfl, fun z hz => nomatch hz⟩
  | _, _, .cons (a := a) (b := b) h t => by
    obtain ⟨zs, e1, e2, k⟩ := paired_zip t
    refine ⟨(a, b) :: zs, by rw [e1]; rfl, by rw [e2]; rfl, fun z hz => ?_⟩
    rcases List.mem_cons.mp hz with rfl | hz
    · exact h
    · exact k z hz
theorem paired_maps {α β γ : Type} {F : α → β → Prop} {f : γ → α} {g : γ → β} : ∀ {zs : List γ}, (∀ z ∈ zs, F (f z) (g z)) → Paired F (zs.map f) (zs.map g)
  | [], _ => .nil
  | z :: zs, h => .cons (h z List.mem_cons_self) (paired_maps fun y hy => h y (List.mem_cons_of_mem _ hy))
theorem srt_paired {K : Fg} {H : Hp} {es : EnU} {fd : Fd} {R : V → NestedKey × List Mv → Prop} (h : Paired (fun (e : NestedKey × Addr × V) x => e.1 = x.1 ∧ R e.2.2 x) es fd) : Paired (fun (e : NestedKey × Addr × V) x => e.1 = x.1 ∧ R e.2.2 x) (srtU es) (srtF fd) := by
  obtain ⟨zs, rfl, rfl, k⟩ := paired_zip h
  have e1 : srtU (zs.map (·.1)) = (zs.mergeSort (PySem.W.dataLe false fun z : (NestedKey × Addr × V) × NestedKey × List Mv => z.1.1.data)).map (·.1) := (List.map_mergeSort (f := Prod.fst) (r := PySem.W.dataLe false fun z : (NestedKey × Addr × V) × NestedKey × List Mv => z.1.1.data) (s := PySem.W.dataLe false fun x : NestedKey × Addr × V => x.1.data) (fun a _ b _ => rfl)).symm
  have e2 : srtF (zs.map (·.2)) = (zs.mergeSort (PySem.W.dataLe false fun z : (NestedKey × Addr × V) × NestedKey × List Mv => z.1.1.data)).map (·.2) := (List.map_mergeSort (f := Prod.snd) (r := PySem.W.dataLe false fun z : (NestedKey × Addr × V) × NestedKey × List Mv => z.1.1.data) (s := PySem.W.dataLe false fun x : NestedKey × List Mv => x.1.data) (fun a ha b hb => by
    have h1 := (k a ha).1
    have h2 := (k b hb).1
    unfold PySem.W.dataLe
    show PySem.W.sortLe (PyProof.Rows.listOrd PyProof.Rows.itemOrd) false (fun z : (NestedKey × Addr × V) × NestedKey × List Mv => PySem.W.keyToks z.1.1.data) a b = PySem.W.sortLe (PyProof.Rows.listOrd PyProof.Rows.itemOrd) false (fun x : NestedKey × List Mv => PySem.W.keyToks x.1.data) a.2 b.2
    simp only [PySem.W.sortLe, h1, h2])).symm
  rw [e1, e2]
  exact paired_maps fun z hz => k z ((List.mergeSort_perm _ _).mem_iff.mp hz)
theorem items_dp {K : Fg} {H : Hp} : ∀ {ys : List V} {es : EnU} {fd : Fd}, ItemsU K H ys es → KeysU K H es → Paired (fun (e : NestedKey × Addr × V) x => e.1 = x.1 ∧ Dp K H e.2.2 (.list (x.2.map dMv))) es fd → DpAll K H ys (fd.map dFd)
  | _, _, _, .nil, _, .nil => .nil
  | _, _, _, .cons ⟨t, e, hT⟩ r, hk, .cons ⟨h1, h2⟩ q => by
    subst e
    refine .cons (.tup hT (.cons ?_ (.cons h2 .nil))) (items_dp r (fun x hx => hk x (List.mem_cons_of_mem _ hx)) q)
    have := (hk _ List.mem_cons_self).1
    rw [h1] at this
    exact this
theorem fd_alike {P : Pl} {n : Nat} {s : Ws} (ok : P.Ok) (so : s.Ok P n) (i : Nat) : (∀ x ∈ (bf P s i).fd, ∃ l, x.1.data = .tuple l) ∧ PySem.W.AllAlike ((bf P s i).fd.map fun x => x.1.data) := by
  have b := bf_ok P s i
  refine ⟨fun x hx => ?_, fun d hd d' hd' => ?_⟩
  · rw [(b.fgo x hx).1]
    exact end_tup _
  · obtain ⟨x, hx, rfl⟩ := List.mem_map.mp hd
    obtain ⟨y, hy, rfl⟩ := List.mem_map.mp hd'
    obtain ⟨x1, x2, _⟩ := b.fgo x hx
    obtain ⟨y1, y2, _⟩ := b.fgo y hy
    rw [x1, y1, enN_data, enN_data]
    exact end_alike (x2.okAll ok so) (y2.okAll ok so)
theorem paired_keys {es : EnU} {fd : Fd} {R : V → NestedKey × List Mv → Prop} : Paired (fun (e : NestedKey × Addr × V) x => e.1 = x.1 ∧ R e.2.2 x) es fd → es.map (fun x => x.1) = fd.map (fun x => x.1)
  | .nil => rfl
  | .cons ⟨h, _⟩ t => by rw [List.map_cons, List.map_cons, h, paired_keys t]
theorem UAt.sorted {P : Pl} {n : Nat} {s : Ws} {w : World} {K : Fg} {H : Hp} {d : Addr} {i : Nat} {Q : VK} (ok : P.Ok) (so : s.Ok P n) (h : UAt w K H d (bf P s i).fd (fun x => x.1) (fun H v x => Dp K H v (.list (x.2.map dMv)))) (hl : ∀ H' l ys, Same H H' → H l = none → H' l = some (.lst ys) → DpAll K H' ys ((srtF (bf P s i).fd).map dFd) → Q (.ref l) H') : rSortU w K (.ref d) H Q := by
  obtain ⟨es, e1, e2, e3⟩ := h
  have ek := paired_keys (R := fun v (x : NestedKey × List Mv) => Dp K H v (.list (x.2.map dMv))) e3
  obtain ⟨t1, t2⟩ := fd_alike ok so i
  refine ⟨d, es, rfl, e1, e2, fun x hx => ?_, ?_, fun H' p ys s1 hp ep it => ?_⟩
  · have : x.1 ∈ (bf P s i).fd.map (fun x => x.1) := by rw [← ek]; exact List.mem_map_of_mem hx
    obtain ⟨y, hy, e⟩ := List.mem_map.mp this
    rw [← e]
    exact t1 y hy
  · have : es.map (fun x => x.1.data) = (bf P s i).fd.map fun x => x.1.data := by
      have := congrArg (List.map NestedKey.data) ek
      rw [List.map_map, List.map_map] at this
      exact this
    rw [this]
    exact t2
  · refine hl H' p ys s1 hp ep (items_dp it (fun x hx => ?_) (srt_paired (K := K) (H := H') (R := fun v (x : NestedKey × List Mv) => Dp K H' v (.list (x.2.map dMv))) (paired_imp e3 fun a y hy ⟨c1, c2⟩ => ⟨c1, c2.same s1⟩)))
    have hx' := (List.mergeSort_perm _ _).mem_iff.mp hx
    exact ⟨(e2 x hx').1.same s1, (e2 x hx').2⟩
end Z
set_option maxHeartbeats 1000000
namespace Z
open PySem PySem.Spec PyProof.Rows L2
open He (ga ma)
theorem hasW_pre {l m : Wy} {k : NestedKey} (h : l <+: m) (x : hasW l k = true) : hasW m k = true := by
  rw [hasW_iff] at x ⊢
  exact (h.map _).subset x
theorem hasW_ex {l : Wy} {s : Ws} (h : hasW l (wsN s) = true) : ∃ x ∈ l, x.1 = s := by
  rw [hasW_iff] at h
  obtain ⟨x, hx, e⟩ := List.mem_map.mp h
  exact ⟨x, hx, wsN_inj e⟩
theorem addW_has (P : Pl) (s : Ws) (ms : List Mv) (l : Wy) (m : Mv) : hasW (addW P s ms l m) (wsN (s.after P m)) = true := by
  unfold addW
  split
  · assumption
  · rw [hasW_iff]
    simp
theorem foldW_has (P : Pl) (s : Ws) (ms : List Mv) : ∀ (l : List Mv) (a : Wy), ∀ m ∈ l, hasW (l.foldl (addW P s ms) a) (wsN (s.after P m)) = true
  | [], _, m, hm => nomatch hm
  | y :: l, a, m, hm => by
    rw [List.foldl_cons]
    rcases List.mem_cons.mp hm with rfl | hm
    · exact hasW_pre (foldW_pre P s ms l _) (addW_has P s ms a _)
    · exact foldW_has P s ms l _ m hm
theorem bf_closed (P : Pl) (s : Ws) : ∀ (i j : Nat) (x : Ws × List Mv), j < i → (bf P s i).wy[j]? = some x → ∀ m ∈ x.1.moves P, hasW (bf P s i).wy (wsN (x.1.after P m)) = true
  | 0, j, _, h, _, _, _ => absurd h (Nat.not_lt_zero _)
  | i + 1, j, x, h, e, m, hm => by
    by_cases c : j < i
    · have hj : (bf P s i).wy[j]? = some x := by
        have e2 : j < (bf P s i).wy.length ∨ (bf P s i).wy.length ≤ j := Nat.lt_or_ge _ _
        rcases e2 with e2 | e2
        · have := bf_get (P := P) (s := s) (Nat.le_succ i) (List.getElem?_eq_getElem e2)
          rw [this] at e
          rw [← e]
          exact List.getElem?_eq_getElem e2
        · have fin : (bf P s i).wy[i]? = none := List.getElem?_eq_none (by omega)
          have same : bf P s (i + 1) = bf P s i := by
            show (bf P s i).turn P i = _
            unfold Bf.turn
            rw [fin]
          rw [same] at e
          exact e
      exact hasW_pre (bf_pre (Nat.le_succ i)) (bf_closed P s i j x c hj m hm)
    · have hji : j = i := by omega
      subst hji
      cases e2 : (bf P s j).wy[j]? with
      | none =>
        have same : bf P s (j + 1) = bf P s j := by
          show (bf P s j).turn P j = _
          unfold Bf.turn
          rw [e2]
        rw [same, e2] at e
        cases e
      | some y =>
        have := bf_get (P := P) (s := s) (Nat.le_succ j) e2
        rw [this] at e
        cases e
        rw [bf_next e2]
        exact foldW_has P _ _ _ _ m hm
theorem addF_old {P : Pl} {l : Fd} {s : Ws} {ms : List Mv} {k : NestedKey} (h : hasF l k = true) : hasF (addF P l s ms) k = true := by
  unfold addF
  split
  · split
    · exact h
    · rw [hasF_iff] at h ⊢
      rw [List.map_append]
      exact List.mem_append_left _ h
  · exact h
theorem addF_has {P : Pl} {l : Fd} {s : Ws} {ms : List Mv} (h : (s.moves P).isEmpty = true) : hasF (addF P l s ms) (enN s) = true := by
  unfold addF
  rw [if_pos h]
  split
  · assumption
  · rw [hasF_iff]
    simp
theorem bf_ends (P : Pl) (s : Ws) : ∀ (i j : Nat) (x : Ws × List Mv), j < i → (bf P s i).wy[j]? = some x → (x.1.moves P).isEmpty = true → hasF (bf P s i).fd (enN x.1) = true
  | 0, j, _, h, _, _ => absurd h (Nat.not_lt_zero _)
  | i + 1, j, x, h, e, hm => by
    have turnF : ∀ k, hasF (bf P s i).fd k = true → hasF (bf P s (i + 1)).fd k = true := fun k hk => by
      show hasF ((bf P s i).turn P i).fd k = true
      unfold Bf.turn
      split
      · exact hk
      · exact addF_old hk
    by_cases c : j < i
    · have hj : (bf P s i).wy[j]? = some x := by
        rcases Nat.lt_or_ge j (bf P s i).wy.length with e2 | e2
        · have := bf_get (P := P) (s := s) (Nat.le_succ i) (List.getElem?_eq_getElem e2)
          rw [this] at e
          rw [← e]
          exact List.getElem?_eq_getElem e2
        · have fin : (bf P s i).wy[i]? = none := List.getElem?_eq_none (by omega)
          have same : bf P s (i + 1) = bf P s i := by
            show (bf P s i).turn P i = _
            unfold Bf.turn
            rw [fin]
          rw [same] at e
          exact e
      exact turnF _ (bf_ends P s i j x c hj hm)
    · have hji : j = i := by omega
      subst hji
      cases e2 : (bf P s j).wy[j]? with
      | none =>
        have same : bf P s (j + 1) = bf P s j := by
          show (bf P s j).turn P j = _
          unfold Bf.turn
          rw [e2]
        rw [same, e2] at e
        cases e
      | some y =>
        have := bf_get (P := P) (s := s) (Nat.le_succ j) e2
        rw [this] at e
        cases e
        rw [bf_next e2]
        exact addF_has hm
theorem FinAt.uniq {P : Pl} {s : Ws} {i j : Nat} (hi : FinAt P s i) (hj : FinAt P s j) : i = j := by
  rcases Nat.le_total i j with c | c
  · have := hi.stop c
    unfold FinAt at hi hj
    rw [this, hi] at hj
    exact hj
  · have := hj.stop c
    unfold FinAt at hi hj
    rw [this, hj] at hi
    exact hi.symm
theorem FinAt.all {P : Pl} {s : Ws} {i : Nat} (h : FinAt P s i) {x : Ws × List Mv} (hx : x ∈ (bf P s i).wy) {m : Mv} (hm : m ∈ x.1.moves P) : ∃ y ∈ (bf P s i).wy, y.1 = x.1.after P m := by
  obtain ⟨j, hj⟩ := List.mem_iff_getElem?.mp hx
  have hl : j < i := by have := (List.getElem?_eq_some_iff.mp hj).1; unfold FinAt at h; omega
  exact hasW_ex (bf_closed P s i j x hl hj m hm)
theorem FinAt.end {P : Pl} {s : Ws} {i : Nat} (h : FinAt P s i) {x : Ws × List Mv} (hx : x ∈ (bf P s i).wy) (hm : (x.1.moves P).isEmpty = true) : hasF (bf P s i).fd (enN x.1) = true := by
  obtain ⟨j, hj⟩ := List.mem_iff_getElem?.mp hx
  have hl : j < i := by have := (List.getElem?_eq_some_iff.mp hj).1; unfold FinAt at h; omega
  exact bf_ends P s i j x hl hj hm
theorem bf_first (P : Pl) (s : Ws) (i : Nat) : (s, ([] : List Mv)) ∈ (bf P s i).wy := (bf_pre (P := P) (s := s) (Nat.zero_le i)).subset (by show _ ∈ [(s, [])]; simp)
theorem FinAt.reach {P : Pl} {s : Ws} {i : Nat} (h : FinAt P s i) {ms : List Mv} (c : s.Can P ms) : ∃ y ∈ (bf P s i).wy, y.1 = s.go P ms := by
  have key : ∀ k, k ≤ ms.length → ∃ y ∈ (bf P s i).wy, y.1 = s.go P (ms.take k) := fun k => by
    induction k with
    | zero => exact fun _ => ⟨_, bf_first P s i, rfl⟩
    | succ k ih =>
      intro hk
      obtain ⟨y, hy, e⟩ := ih (by omega)
      have em : ms[k]? = some ms[k] := List.getElem?_eq_getElem (by omega)
      obtain ⟨z, hz, e2⟩ := h.all hy (m := ms[k]) (by rw [e]; exact c k _ em)
      refine ⟨z, hz, ?_⟩
      rw [e2, e, List.take_add_one, em]
      exact (Ws.go_snoc _ _).symm
  have := key ms.length (Nat.le_refl _)
  rw [List.take_length] at this
  exact this
def callW (P : Pl) (x : Str × Nat × Int) : Nat := 2 * ((P.ln x.1).st.length - x.2.1)
def Wc.wt (P : Pl) (c : Wc) : Nat := (c.ca.map (callW P)).sum + c.jo.length
def Ws.wt (P : Pl) (s : Ws) : Nat := (s.cs.map (Wc.wt P)).sum
theorem sum_set_lt {α : Type} {f : α → Nat} {c c' : α} : ∀ {l : List α} {n : Nat}, l[n]? = some c → f c' < f c → ((l.set n c').map f).sum < (l.map f).sum
  | [], _, h, _ => by cases h
  | x :: l, 0, h, hf => by
    cases h
    simp only [List.set_cons_zero, List.map_cons, List.sum_cons]
    omega
  | x :: l, n + 1, h, hf => by
    have ih := sum_set_lt (l := l) (n := n) h hf
    simp only [List.set_cons_succ, List.map_cons, List.sum_cons]
    omega
theorem lessW_len (P : Pl) {l : List Str} (h : l ≠ []) : (lessW P l).length + 1 = l.length := by
  have := firstW_lt P h
  unfold lessW
  rw [List.length_append, List.length_take, List.length_drop]
  omega
theorem gone_wt {P : Pl} {c : Wc} (co : c.Ok P) {x : Str × Nat × Int} (hx : c.ca.getLast? = some x) : (c.gone P x.1 x.2.1 x.2.2).wt P < c.wt P := by
  obtain ⟨z, i, k⟩ := x
  have hi := (co.cz _ (getLast_mem hx)).2
  have e := dropLast_app hx
  have hs : (c.ca.map (callW P)).sum = (c.ca.dropLast.map (callW P)).sum + 2 * ((P.ln z).st.length - i) := by
    conv => lhs; rw [← e, List.map_append, List.sum_append]
    simp [callW]
  have hjo : (if (stp P (z, i, k)).1 = "later" ∧ kS (stp P (z, i, k)).2 ∉ c.jo then c.jo ++ [kS (stp P (z, i, k)).2] else c.jo).length ≤ c.jo.length + 1 := by
    split
    · simp
    · omega
  unfold Wc.gone
  dsimp only at hi ⊢
  by_cases h : i + 1 < (P.ln z).st.length
  · rw [if_pos h]
    unfold Wc.wt
    dsimp only
    rw [hs, List.map_append, List.sum_append]
    have : ((([(z, i + 1, k)] : List (Str × Nat × Int))).map (callW P)).sum = 2 * ((P.ln z).st.length - (i + 1)) := by simp [callW]
    rw [this]
    omega
  · rw [if_neg h]
    unfold Wc.wt
    dsimp only
    rw [hs]
    omega
theorem step_wt {P : Pl} {n : Nat} {s : Ws} (so : s.Ok P n) {j : Nat} {c : Wc} (hj : s.cs[j]? = some c) (hc : c.can P s.up = true) : (s.after P (.stp j)).wt P < s.wt P ∧ (s.after P (.stp j)).be = s.be := by
  have eg : (s.cs[j]?).getD wc0 = c := by rw [hj]; rfl
  have co := so.co _ (List.mem_of_getElem? hj)
  unfold Ws.after
  simp only [eg]
  cases hg : c.ca.getLast? with
  | none =>
    refine ⟨?_, rfl⟩
    refine sum_set_lt (f := Wc.wt P) hj ?_
    unfold Wc.can at hc
    rw [hg] at hc
    have hne : c.jo ≠ [] := by
      intro e
      rw [e] at hc
      cases hc
    have := lessW_len P hne
    unfold Wc.wt
    dsimp only
    omega
  | some x =>
    refine ⟨?_, rfl⟩
    exact sum_set_lt (f := Wc.wt P) hj (gone_wt co hg)
theorem bump_sum {P : Pl} {z : Str} : ∀ {l : List Str} {be : List Int}, be.length = l.length → z ∈ l → be.sum + 1 ≤ ((l.zip be).map fun x => x.2 + if x.1 = z then 1 else 0).sum
  | [], _, _, h => nomatch h
  | y :: l, [], h, _ => by cases h
  | y :: l, b :: be, h, hz => by
    have hl : be.length = l.length := Nat.succ.inj h
    have base : ∀ {l : List Str} {be : List Int}, be.length = l.length → be.sum ≤ ((l.zip be).map fun x => x.2 + if x.1 = z then 1 else 0).sum := fun {l be} => by
      induction l generalizing be with
      | nil => intro h; cases be with
        | nil => simp
        | cons _ _ => cases h
      | cons y l ih => intro h; cases be with
        | nil => cases h
        | cons b be =>
          have := ih (be := be) (Nat.succ.inj h)
          simp only [List.zip_cons_cons, List.map_cons, List.sum_cons]
          split <;> omega
    simp only [List.zip_cons_cons, List.map_cons, List.sum_cons]
    rcases List.mem_cons.mp hz with rfl | hz
    · have := base hl
      rw [if_pos rfl]
      omega
    · have := bump_sum (P := P) hl hz
      split <;> omega
theorem beg_sum {P : Pl} {n : Nat} {s : Ws} (so : s.Ok P n) {z : Str} (hz : z ∈ P.names) (j : Nat) : s.be.sum + 1 ≤ (s.after P (.beg z j)).be.sum := bump_sum (P := P) so.be hz
theorem sums_bound : ∀ l : Wy, ∃ N : Int, ∀ x ∈ l, x.1.be.sum ≤ N
  | [] => ⟨0, fun x hx => nomatch hx⟩
  | y :: l => by
    obtain ⟨N, h⟩ := sums_bound l
    refine ⟨max N y.1.be.sum, fun x hx => ?_⟩
    rcases List.mem_cons.mp hx with rfl | hx
    · omega
    · have := h x hx
      omega
theorem FinAt.stops {P : Pl} {n : Nat} {s : Ws} {i : Nat} (ok : P.Ok) (so : s.Ok P n) (h : FinAt P s i) : ∃ x ∈ (bf P s i).wy, (x.1.moves P).isEmpty = true := by
  obtain ⟨N, hN⟩ := sums_bound (bf P s i).wy
  have okx : ∀ x ∈ (bf P s i).wy, x.1.Ok P n := fun x hx => by
    obtain ⟨j, hj⟩ := List.mem_iff_getElem?.mp hx
    obtain ⟨g1, g2, _⟩ := (bf_ok P s i).go j x hj
    rw [g1]
    exact g2.okAll ok so
  have key : ∀ (a b : Nat) (x : Ws × List Mv), x ∈ (bf P s i).wy → (N - x.1.be.sum).toNat ≤ a → x.1.wt P ≤ b → ∃ y ∈ (bf P s i).wy, (y.1.moves P).isEmpty = true := fun a => by
    induction a with
    | zero =>
      intro b
      induction b with
      | zero =>
        intro x hx ha hb
        cases hm : x.1.moves P with
        | nil => exact ⟨x, hx, by rw [hm]; rfl⟩
        | cons m r =>
          have mem : m ∈ x.1.moves P := by rw [hm]; exact List.mem_cons_self
          obtain ⟨y, hy, e⟩ := h.all hx mem
          rcases moves_mem mem with ⟨z, j, c, rfl, ⟨k, hk, rfl, _⟩, _⟩ | ⟨j, c, rfl, hj, hc⟩
          · obtain ⟨z, hz, rfl⟩ := List.mem_map.mp ((okx x hx).wa.sub k hk)
            have := beg_sum (okx x hx) hz j
            have h1 := hN y hy
            rw [e] at h1
            have h1 : (x.1.after P (.beg z j)).be.sum ≤ N := h1
            have := hN x hx
            omega
          · have := (step_wt (okx x hx) hj hc).1
            omega
      | succ b ih =>
        intro x hx ha hb
        cases hm : x.1.moves P with
        | nil => exact ⟨x, hx, by rw [hm]; rfl⟩
        | cons m r =>
          have mem : m ∈ x.1.moves P := by rw [hm]; exact List.mem_cons_self
          obtain ⟨y, hy, e⟩ := h.all hx mem
          rcases moves_mem mem with ⟨z, j, c, rfl, ⟨k, hk, rfl, _⟩, _⟩ | ⟨j, c, rfl, hj, hc⟩
          · obtain ⟨z, hz, rfl⟩ := List.mem_map.mp ((okx x hx).wa.sub k hk)
            have := beg_sum (okx x hx) hz j
            have h1 := hN y hy
            rw [e] at h1
            have h1 : (x.1.after P (.beg z j)).be.sum ≤ N := h1
            have := hN x hx
            omega
          · have hw := step_wt (okx x hx) hj hc
            refine ih y hy ?_ ?_
            · rw [e, hw.2]
              exact ha
            · rw [e]
              omega
    | succ a iha =>
      intro b
      induction b with
      | zero =>
        intro x hx ha hb
        cases hm : x.1.moves P with
        | nil => exact ⟨x, hx, by rw [hm]; rfl⟩
        | cons m r =>
          have mem : m ∈ x.1.moves P := by rw [hm]; exact List.mem_cons_self
          obtain ⟨y, hy, e⟩ := h.all hx mem
          rcases moves_mem mem with ⟨z, j, c, rfl, ⟨k, hk, rfl, _⟩, _⟩ | ⟨j, c, rfl, hj, hc⟩
          · obtain ⟨z, hz, rfl⟩ := List.mem_map.mp ((okx x hx).wa.sub k hk)
            have := beg_sum (okx x hx) hz j
            have h1 := hN y hy
            refine iha (y.1.wt P) y hy ?_ (Nat.le_refl _)
            rw [e] at h1 ⊢
            show (N - (x.1.after P (.beg z j)).be.sum).toNat ≤ a
            have h1 : (x.1.after P (.beg z j)).be.sum ≤ N := h1
            omega
          · have := (step_wt (okx x hx) hj hc).1
            omega
      | succ b ih =>
        intro x hx ha hb
        cases hm : x.1.moves P with
        | nil => exact ⟨x, hx, by rw [hm]; rfl⟩
        | cons m r =>
          have mem : m ∈ x.1.moves P := by rw [hm]; exact List.mem_cons_self
          obtain ⟨y, hy, e⟩ := h.all hx mem
          rcases moves_mem mem with ⟨z, j, c, rfl, ⟨k, hk, rfl, _⟩, _⟩ | ⟨j, c, rfl, hj, hc⟩
          · obtain ⟨z, hz, rfl⟩ := List.mem_map.mp ((okx x hx).wa.sub k hk)
            have := beg_sum (okx x hx) hz j
            have h1 := hN y hy
            refine iha (y.1.wt P) y hy ?_ (Nat.le_refl _)
            rw [e] at h1 ⊢
            show (N - (x.1.after P (.beg z j)).be.sum).toNat ≤ a
            have h1 : (x.1.after P (.beg z j)).be.sum ≤ N := h1
            omega
          · have hw := step_wt (okx x hx) hj hc
            refine ih y hy ?_ ?_
            · rw [e, hw.2]
              exact ha
            · rw [e]
              omega
  exact key _ _ _ (bf_first P s i) (Nat.le_refl _) (Nat.le_refl _)
theorem FinAt.pos {P : Pl} {n : Nat} {s : Ws} {i : Nat} (ok : P.Ok) (so : s.Ok P n) (h : FinAt P s i) : 0 < (bf P s i).fd.length := by
  obtain ⟨x, hx, hm⟩ := h.stops ok so
  have := hasF_iff.mp (h.end hx hm)
  obtain ⟨y, hy, _⟩ := List.mem_map.mp this
  exact List.length_pos_of_mem hy
end Z
set_option maxHeartbeats 1000000
namespace Z
open PySem PySem.Spec PyProof.Rows L2
open He (ga ma)
def lensW (l : Wy) : List Nat := l.map fun x => x.2.length
theorem addW_lens {P : Pl} {s : Ws} {ms : List Mv} {l : Wy} {m : Mv} (h1 : (lensW l).Pairwise (· ≤ ·)) (h2 : ∀ x ∈ l, x.2.length ≤ ms.length + 1) : (lensW (addW P s ms l m)).Pairwise (· ≤ ·) ∧ ∀ x ∈ addW P s ms l m, x.2.length ≤ ms.length + 1 := by
  unfold addW
  split
  · exact ⟨h1, h2⟩
  · refine ⟨?_, fun x hx => ?_⟩
    · unfold lensW
      rw [List.map_append]
      refine List.pairwise_append.mpr ⟨h1, List.pairwise_singleton _ _, fun a ha b hb => ?_⟩
      obtain ⟨x, hx, rfl⟩ := List.mem_map.mp ha
      rw [List.map_singleton, List.mem_singleton] at hb
      rw [hb, List.length_append]
      exact h2 x hx
    · rcases List.mem_append.mp hx with hx | hx
      · exact h2 x hx
      · rw [List.mem_singleton.mp hx, List.length_append]
        exact Nat.le_refl _
theorem foldW_lens {P : Pl} {s : Ws} {ms : List Mv} : ∀ (l : List Mv) {a : Wy}, (lensW a).Pairwise (· ≤ ·) → (∀ x ∈ a, x.2.length ≤ ms.length + 1) → (lensW (l.foldl (addW P s ms) a)).Pairwise (· ≤ ·) ∧ ∀ x ∈ l.foldl (addW P s ms) a, x.2.length ≤ ms.length + 1
  | [], _, h1, h2 => ⟨h1, h2⟩
  | m :: l, a, h1, h2 => by
    rw [List.foldl_cons]
    obtain ⟨k1, k2⟩ := addW_lens (P := P) (s := s) (m := m) h1 h2
    exact foldW_lens l k1 k2
theorem lens_at {l : Wy} (h : (lensW l).Pairwise (· ≤ ·)) {j k : Nat} {x y : Ws × List Mv} (hjk : j ≤ k) (hx : l[j]? = some x) (hy : l[k]? = some y) : x.2.length ≤ y.2.length := by
  rcases Nat.lt_or_ge j k with c | c
  · obtain ⟨a1, b1⟩ := List.getElem?_eq_some_iff.mp hx
    obtain ⟨a2, b2⟩ := List.getElem?_eq_some_iff.mp hy
    have := (List.pairwise_iff_getElem.mp h) j k (by unfold lensW; rw [List.length_map]; exact a1) (by unfold lensW; rw [List.length_map]; exact a2) c
    unfold lensW at this
    rw [List.getElem_map, List.getElem_map, b1, b2] at this
    exact this
  · have : j = k := by omega
    subst this
    rw [hx] at hy
    cases hy
    exact Nat.le_refl _
theorem bf_lens (P : Pl) (s : Ws) : ∀ i : Nat, (lensW (bf P s i).wy).Pairwise (· ≤ ·) ∧ (∀ x, (bf P s i).wy[i]? = some x → ∀ y ∈ (bf P s i).wy, y.2.length ≤ x.2.length + 1)
  | 0 => by
    refine ⟨List.pairwise_singleton _ _, fun x hx y hy => ?_⟩
    have : y = (s, []) := List.mem_singleton.mp hy
    rw [this]
    exact Nat.zero_le _
  | i + 1 => by
    obtain ⟨h1, h2⟩ := bf_lens P s i
    cases e : (bf P s i).wy[i]? with
    | none =>
      have same : bf P s (i + 1) = bf P s i := by
        show (bf P s i).turn P i = _
        unfold Bf.turn
        rw [e]
      rw [same]
      refine ⟨h1, fun x hx => ?_⟩
      have := List.getElem?_eq_none_iff.mp e
      rw [List.getElem?_eq_none (by omega)] at hx
      cases hx
    | some x =>
      obtain ⟨k1, k2⟩ := foldW_lens (P := P) (s := x.1) (x.1.moves P) h1 (h2 x e)
      rw [bf_next e]
      refine ⟨k1, fun x' hx' y hy => ?_⟩
      have hx1 : ((x.1.moves P).foldl (addW P x.1 x.2) (bf P s i).wy)[i]? = some x := by
        obtain ⟨t, ht⟩ := foldW_pre P x.1 x.2 (x.1.moves P) (bf P s i).wy
        rw [← ht, List.getElem?_append_left (List.getElem?_eq_some_iff.mp e).1]
        exact e
      have := lens_at k1 (Nat.le_succ i) hx1 hx'
      have := k2 y hy
      omega
theorem bf_turn_lens {P : Pl} {s : Ws} {j : Nat} {x : Ws × List Mv} (e : (bf P s j).wy[j]? = some x) : ∀ z ∈ (bf P s (j + 1)).wy, z.2.length ≤ x.2.length + 1 := by
  obtain ⟨h1, h2⟩ := bf_lens P s j
  rw [bf_next e]
  exact (foldW_lens (P := P) (s := x.1) (x.1.moves P) h1 (h2 x e)).2
theorem bf_back {P : Pl} {s : Ws} {i j : Nat} {x : Ws × List Mv} (h : j ≤ i) (e : (bf P s i).wy[j]? = some x) : (bf P s j).wy[j]? = some x := by
  rcases Nat.lt_or_ge j (bf P s j).wy.length with c | c
  · have e1 := List.getElem?_eq_getElem c
    have := bf_get h e1
    rw [e] at this
    rw [e1, this]
  · exfalso
    have fin : ∀ k, j ≤ k → bf P s k = bf P s j := fun k => by
      induction k with
      | zero => intro hk; rw [show j = 0 by omega]
      | succ k ih =>
        intro hk
        by_cases ej : j = k + 1
        · rw [ej]
        · have ihk := ih (by omega)
          show (bf P s k).turn P k = _
          rw [ihk]
          unfold Bf.turn
          rw [List.getElem?_eq_none (by omega)]
    rw [fin i h, List.getElem?_eq_none c] at e
    cases e
theorem FinAt.short {P : Pl} {s : Ws} {i : Nat} (h : FinAt P s i) {ms : List Mv} (c : s.Can P ms) : ∃ y ∈ (bf P s i).wy, y.1 = s.go P ms ∧ y.2.length ≤ ms.length := by
  have key : ∀ k, k ≤ ms.length → ∃ y ∈ (bf P s i).wy, y.1 = s.go P (ms.take k) ∧ y.2.length ≤ k := fun k => by
    induction k with
    | zero => exact fun _ => ⟨_, bf_first P s i, rfl, Nat.le_refl _⟩
    | succ k ih =>
      intro hk
      obtain ⟨y, hy, e, hl⟩ := ih (by omega)
      have em : ms[k]? = some ms[k] := List.getElem?_eq_getElem (by omega)
      have mem : ms[k] ∈ y.1.moves P := by rw [e]; exact c k _ em
      obtain ⟨j, hj⟩ := List.mem_iff_getElem?.mp hy
      have hji : j < i := by have := (List.getElem?_eq_some_iff.mp hj).1; unfold FinAt at h; omega
      have hj2 := bf_back (Nat.le_of_lt hji) hj
      obtain ⟨z, hz, ez⟩ := hasW_ex (bf_closed P s (j + 1) j y (Nat.lt_succ_self j) (bf_get (Nat.le_succ j) hj2) _ mem)
      refine ⟨z, (bf_pre (P := P) (s := s) (i := j + 1) (j := i) hji).subset hz, ?_, ?_⟩
      · rw [ez, e, List.take_add_one, em]
        exact (Ws.go_snoc _ _).symm
      · have := bf_turn_lens hj2 z hz
        omega
  have := key ms.length (Nat.le_refl _)
  rw [List.take_length] at this
  exact this
theorem bf_fd_from (P : Pl) (s : Ws) : ∀ (i : Nat) f, f ∈ (bf P s i).fd → ∃ j x, j < i ∧ (bf P s i).wy[j]? = some x ∧ f.2 = x.2 ∧ f.1 = enN x.1
  | 0, f, h => nomatch h
  | i + 1, f, h => by
    cases e : (bf P s i).wy[i]? with
    | none =>
      have same : bf P s (i + 1) = bf P s i := by
        show (bf P s i).turn P i = _
        unfold Bf.turn
        rw [e]
      rw [same] at h ⊢
      obtain ⟨j, x, h1, h2, h3⟩ := bf_fd_from P s i f h
      exact ⟨j, x, by omega, h2, h3⟩
    | some x =>
      have old : f ∈ (bf P s i).fd → ∃ j x, j < i + 1 ∧ (bf P s (i + 1)).wy[j]? = some x ∧ f.2 = x.2 ∧ f.1 = enN x.1 := fun h => by
        obtain ⟨j, x, h1, h2, h3⟩ := bf_fd_from P s i f h
        exact ⟨j, x, by omega, bf_get (Nat.le_succ i) h2, h3⟩
      have h : f ∈ addF P (bf P s i).fd x.1 x.2 := by rw [bf_next e] at h; exact h
      unfold addF at h
      split at h
      · split at h
        · exact old h
        · rcases List.mem_append.mp h with h | h
          · exact old h
          · rw [List.mem_singleton.mp h]
            exact ⟨i, x, Nat.lt_succ_self i, bf_get (Nat.le_succ i) e, rfl, rfl⟩
      · exact old h
theorem bf_fd_min (P : Pl) (s : Ws) : ∀ (i j : Nat) (x : Ws × List Mv), j < i → (bf P s i).wy[j]? = some x → (x.1.moves P).isEmpty = true → ∃ f ∈ (bf P s i).fd, f.1 = enN x.1 ∧ f.2.length ≤ x.2.length
  | 0, j, _, h, _, _ => absurd h (Nat.not_lt_zero _)
  | i + 1, j, x, h, e, hm => by
    cases e2 : (bf P s i).wy[i]? with
    | none =>
      have same : bf P s (i + 1) = bf P s i := by
        show (bf P s i).turn P i = _
        unfold Bf.turn
        rw [e2]
      rw [same] at e ⊢
      by_cases c : j < i
      · exact bf_fd_min P s i j x c e hm
      · rw [show j = i by omega, e2] at e
        cases e
    | some y =>
      have keep : ∀ f ∈ (bf P s i).fd, f ∈ (bf P s (i + 1)).fd := fun f hf => by
        rw [bf_next e2]
        show f ∈ addF P _ _ _
        unfold addF
        split
        · split
          · exact hf
          · exact List.mem_append_left _ hf
        · exact hf
      by_cases c : j < i
      · have hl : j < (bf P s i).wy.length := by have := (List.getElem?_eq_some_iff.mp e2).1; omega
        have e3 := List.getElem?_eq_getElem hl
        have := bf_get (Nat.le_succ i) e3
        rw [e] at this
        rw [← this] at e3
        obtain ⟨f, h1, h2, h3⟩ := bf_fd_min P s i j x c e3 hm
        exact ⟨f, keep f h1, h2, h3⟩
      · have hji : j = i := by omega
        subst hji
        have := bf_get (Nat.le_succ j) e2
        rw [e] at this
        cases this
        cases hf : hasF (bf P s j).fd (enN x.1) with
        | true =>
          obtain ⟨f, f1, f2⟩ := List.mem_map.mp (hasF_iff.mp hf)
          obtain ⟨k, z, k1, k2, k3, _⟩ := bf_fd_from P s j f f1
          have := lens_at (bf_lens P s j).1 (Nat.le_of_lt k1) k2 e2
          exact ⟨f, keep f f1, f2, by rw [k3]; exact this⟩
        | false =>
          refine ⟨(enN x.1, x.2), ?_, rfl, Nat.le_refl _⟩
          rw [bf_next e2]
          show _ ∈ addF P _ _ _
          unfold addF
          rw [if_pos hm, if_neg (by rw [hf]; exact Bool.false_ne_true)]
          exact List.mem_append_right _ (List.mem_singleton.mpr rfl)
theorem FinAt.told {P : Pl} {s : Ws} {i : Nat} (h : FinAt P s i) {ms : List Mv} (c : s.Can P ms) (hm : ((s.go P ms).moves P).isEmpty = true) : ∃ f ∈ (bf P s i).fd, f.1 = enN (s.go P ms) ∧ f.2.length ≤ ms.length := by
  obtain ⟨y, hy, e, hl⟩ := h.short c
  obtain ⟨j, hj⟩ := List.mem_iff_getElem?.mp hy
  have hji : j < i := by have := (List.getElem?_eq_some_iff.mp hj).1; unfold FinAt at h; omega
  obtain ⟨f, f1, f2, f3⟩ := bf_fd_min P s i j y hji hj (by rw [e]; exact hm)
  exact ⟨f, f1, by rw [f2, e], by omega⟩
end Z
set_option maxHeartbeats 1000000
namespace Z
open PySem PySem.Spec PyProof.Rows L2
open He (ga ma)
section
variable {K : Fg} {H H' : Hp} {r sc : Addr} {ns : List Int}
theorem items_ex : ∀ {fd : Fd} {ys : List V}, DpAll K H ys (fd.map dFd) → (∀ x ∈ fd, (∃ l, x.1.data = .tuple l) ∧ x.1.depth ≤ 8) → ∃ es : EnU, ItemsU K H ys es ∧ KeysU K H es ∧ Paired (fun (e : NestedKey × Addr × V) x => e.1 = x.1 ∧ Dp K H e.2.2 (.list (x.2.map dMv))) es fd
  | [], _, h, _ => by cases h; exact ⟨[], .nil, (fun x hx => nomatch hx), .nil⟩
  | x :: fd, _, h, k => by
    rw [List.map_cons] at h
    cases h with | cons h1 h2 => ?_
    obtain ⟨es, e1, e2, e3⟩ := items_ex h2 fun y hy => k y (List.mem_cons_of_mem _ hy)
    obtain ⟨t, xs, rfl, hT, hA⟩ := L2.Dp.tupI h1
    cases hA with | cons c1 hA => ?_
    cases hA with | cons c2 hA => ?_
    cases hA
    obtain ⟨⟨l, hl⟩, hd⟩ := k x List.mem_cons_self
    have c3 := c1
    rw [hl] at c3
    obtain ⟨b, _, rfl, _⟩ := c3.tupI
    refine ⟨(x.1, b, _) :: es, .cons ⟨t, rfl, hT⟩ e1, fun z hz => ?_, .cons ⟨rfl, c2⟩ e3⟩
    rcases List.mem_cons.mp hz with rfl | hz
    · exact ⟨c1, hd⟩
    · exact e2 z hz
theorem ends_dict {w : World} {a : Addr} {fd : Fd} {ys : List V} {Q : VK} (hq : SqL K H a ys) (h : DpAll K H ys (fd.map dFd)) (hk : ∀ x ∈ fd, (∃ l, x.1.data = .tuple l) ∧ x.1.depth ≤ 8) (nd : (fd.map fun x => x.1).Nodup)
    (q : ∀ p H', Same H H' → H p = none → UAt w K H' p fd (fun x => x.1) (fun H v x => Dp K H v (.list (x.2.map dMv))) → Q (.ref p) H') : rDictU w K [.ref a] H Q := by
  obtain ⟨es, e1, e2, e3⟩ := items_ex h hk
  have ek := paired_keys (R := fun v (x : NestedKey × List Mv) => Dp K H v (.list (x.2.map dMv))) e3
  refine ⟨a, ys, es, rfl, hq, e1, e2, by rw [ek]; exact nd, fun p hp => ?_⟩
  have s : Same H (upd H p (dU w p es)) := Same.new hp
  exact q p _ s hp ⟨es, upd_same, fun x hx => ⟨(e2 x hx).1.same s, (e2 x hx).2⟩, paired_imp e3 fun x y _ ⟨c1, c2⟩ => ⟨c1, c2.same s⟩⟩
end
theorem srtF_mem {l : Fd} {x : NestedKey × List Mv} : x ∈ srtF l ↔ x ∈ l := (List.mergeSort_perm _ _).mem_iff
theorem srtF_keys {P : Pl} {n : Nat} {s : Ws} (ok : P.Ok) (so : s.Ok P n) (i : Nat) : (∀ x ∈ srtF (bf P s i).fd, (∃ l, x.1.data = .tuple l) ∧ x.1.depth ≤ 8) ∧ ((srtF (bf P s i).fd).map fun x => x.1).Nodup := by
  have b := bf_ok P s i
  refine ⟨fun x hx => ?_, ?_⟩
  · obtain ⟨h1, _⟩ := b.fgo x (srtF_mem.mp hx)
    rw [h1]
    exact ⟨end_tup _, enN_depth _⟩
  · exact ((List.mergeSort_perm _ _).map _).nodup_iff.mpr b.fnd
end Z
set_option maxHeartbeats 1000000
namespace Z
open PySem PySem.Spec PyProof.Rows L2
open He (ga ma)
def Ln.less (l : Ln) (z : Str) (i : Nat) : Ln := if l.nm = z then { l with st := l.st.take i ++ l.st.drop (i + 1) } else l
def Pl.less (P : Pl) (z : Str) (i : Nat) : Pl := ⟨P.ls.map fun l => l.less z i, P.ws⟩
theorem less_nm (l : Ln) (z : Str) (i : Nat) : (l.less z i).nm = l.nm ∧ (l.less z i).kd = l.kd ∧ (l.less z i).rk = l.rk := by
  unfold Ln.less
  split <;> exact ⟨rfl, rfl, rfl⟩
theorem less_st (l : Ln) (z : Str) (i : Nat) : ∀ x ∈ (l.less z i).st, x ∈ l.st := by
  unfold Ln.less
  split
  · intro x hx
    rcases List.mem_append.mp hx with hx | hx
    · exact List.mem_of_mem_take hx
    · exact List.mem_of_mem_drop hx
  · exact fun x hx => hx
theorem less_names (P : Pl) (z : Str) (i : Nat) : (P.less z i).names = P.names := by
  show (P.ls.map _).map _ = P.ls.map _
  rw [List.map_map]
  exact List.map_congr_left fun l _ => (less_nm l z i).1
theorem less_kinds (P : Pl) (z : Str) (i : Nat) : (P.less z i).kinds = P.kinds := by
  show (P.ls.map _).map _ = P.ls.map _
  rw [List.map_map]
  refine List.map_congr_left fun l _ => ?_
  obtain ⟨h1, h2, _⟩ := less_nm l z i
  show ((.inr (l.less z i).nm, .str (l.less z i).kd) : Key × V) = _
  rw [h1, h2]
theorem less_len {l : Ln} {i : Nat} (hi : i < l.st.length) : (l.less l.nm i).st.length + 1 = l.st.length := by
  unfold Ln.less
  rw [if_pos rfl]
  show (l.st.take i ++ l.st.drop (i + 1)).length + 1 = _
  rw [List.length_append, List.length_take, List.length_drop]
  omega
theorem short_line {l : Ln} (h : short (dLn l) = true) {m : Ln} (hm : m.nm = l.nm ∧ m.kd = l.kd ∧ m.rk = l.rk) (hs : ∀ x ∈ m.st, x ∈ l.st) (hl : m.st.length ≤ 8) : short (dLn m) = true := by
  obtain ⟨h1, h2, h3⟩ := hm
  simp only [dLn, h1, h2, h3] at h ⊢
  have hst : shorts (l.st.map dSt) = true := by
    simp only [short, shorts, Bool.and_eq_true] at h
    exact h.2.2.2.1
  have key : ∀ k : List (Str × Key), (∀ x ∈ k, x ∈ l.st) → shorts (k.map dSt) = true := fun k hk => shorts_map fun x hx => by
    have all : ∀ (q : List (Str × Key)), shorts (q.map dSt) = true → ∀ y ∈ q, short (dSt y) = true := fun q => by
      induction q with
      | nil => exact fun _ y hy => nomatch hy
      | cons a q ih =>
        intro hq y hy
        have hq : (short (dSt a) && shorts (q.map dSt)) = true := hq
        rw [Bool.and_eq_true] at hq
        rcases List.mem_cons.mp hy with rfl | hy
        · exact hq.1
        · exact ih hq.2 y hy
    exact all _ hst x (hk x hx)
  have := key m.st hs
  simp only [short, shorts, Bool.and_eq_true] at h ⊢
  exact ⟨h.1, h.2.1, h.2.2.1, this, h.2.2.2.2⟩
theorem Pl.Ok.less {P : Pl} (ok : P.Ok) {z : Str} {i : Nat} (hz : z ∈ P.names) (hi : i < (P.ln z).st.length) (h2 : 1 < (P.ln z).st.length) : (P.less z i).Ok := by
  obtain ⟨zm, zn⟩ := ok.ln_mem hz
  have one : ∀ l ∈ P.ls, 1 ≤ (l.less z i).st.length ∧ (l.less z i).st.length ≤ 8 := fun l hl => by
    have l8 := ok.steps8 hl
    by_cases c : l.nm = z
    · have e := ok.ln_eq hl
      rw [c] at e
      rw [e] at hi h2
      have := less_len hi
      rw [c] at this
      omega
    · have e : l.less z i = l := by unfold Ln.less; rw [if_neg c]
      rw [e]
      have := ok.stne (z := l.nm) (List.mem_map_of_mem hl)
      rw [ok.ln_eq hl] at this
      omega
  refine ⟨fun e => ok.ne (List.map_eq_nil_iff.mp e), by show (P.ls.map _).length ≤ 12; rw [List.length_map]; exact ok.l12, ok.w8, fun l hl => ?_, ok.wok, by rw [less_names]; exact ok.lnd, ok.wnd, fun l hl s hs => ?_, fun l hl => ?_, ok.shw⟩
  · obtain ⟨l0, h0, rfl⟩ := List.mem_map.mp hl
    have k := ok.lok l0 h0
    obtain ⟨e1, e2, e3⟩ := less_nm l0 z i
    obtain ⟨o1, o2⟩ := one l0 h0
    simp only [isLine, dLn, isSteps, Bool.and_eq_true, decide_eq_true_eq, List.length_map, e1, e2, e3] at k ⊢
    refine ⟨k.1, k.2.1, k.2.2.1, ?_, ?_⟩ <;> omega
  · obtain ⟨l0, h0, rfl⟩ := List.mem_map.mp hl
    rw [less_kinds]
    exact ok.sok l0 h0 s (less_st l0 z i s hs)
  · obtain ⟨l0, h0, rfl⟩ := List.mem_map.mp hl
    exact short_line (ok.shl l0 h0) (less_nm l0 z i) (less_st l0 z i) (one l0 h0).2
def freeW (l : Ln) (x : (Str × Key) × Nat) : Bool := inV (.str x.1.1) ([.str "mask", .str "unmask", .str "bar"] : List V) && decide (1 < l.st.length)
end Z
set_option maxHeartbeats 1000000
namespace Z
open PySem PySem.Spec PyProof.Rows L2
open He (ga ma)
def AllFin (P : Pl) (n : Nat) (rg : List Str) : Prop := ∀ l ∈ P.ls, ∀ (j : Nat) (s : Str × Key), l.st[j]? = some s → freeW l (s, j) = true → ∃ i, FinAt (P.less l.nm j) (Ws.first (P.less l.nm j) n rg) i ∧ i ≤ 3000
def FinJ (P : Pl) (n : Nat) (rg : List Str) (l : Ln) (k : Nat) : Prop := ∀ (j : Nat) (s : Str × Key), j < k → l.st[j]? = some s → freeW l (s, j) = true → ∃ i, FinAt (P.less l.nm j) (Ws.first (P.less l.nm j) n rg) i ∧ i ≤ 3000
def FinK (P : Pl) (n : Nat) (rg : List Str) (k : Nat) : Prop := ∀ (a : Nat) (l : Ln), a < k → P.ls[a]? = some l → FinJ P n rg l l.st.length
theorem FinK.all {P : Pl} {n : Nat} {rg : List Str} (h : FinK P n rg P.ls.length) : AllFin P n rg := fun l hl j s hj hf => by
  obtain ⟨a, ha⟩ := List.mem_iff_getElem?.mp hl
  exact h a l (List.getElem?_eq_some_iff.mp ha).1 ha j s (List.getElem?_eq_some_iff.mp hj).1 hj hf
theorem FinK.succ {P : Pl} {n : Nat} {rg : List Str} {k : Nat} {l : Ln} (h : FinK P n rg k) (hl : P.ls[k]? = some l) (hj : FinJ P n rg l l.st.length) : FinK P n rg (k + 1) := fun a m ha hm => by
  by_cases c : a < k
  · exact h a m c hm
  · have : a = k := by omega
    subst this
    rw [hl] at hm
    cases hm
    exact hj
theorem FinJ.succ {P : Pl} {n : Nat} {rg : List Str} {l : Ln} {k : Nat} {s : Str × Key} (h : FinJ P n rg l k) (hs : l.st[k]? = some s) (hf : freeW l (s, k) = true → ∃ i, FinAt (P.less l.nm k) (Ws.first (P.less l.nm k) n rg) i ∧ i ≤ 3000) : FinJ P n rg l (k + 1) := fun j t hj ht hq => by
  by_cases c : j < k
  · exact h j t c ht hq
  · have : j = k := by omega
    subst this
    rw [hs] at ht
    cases ht
    exact hf hq
end Z
set_option maxHeartbeats 1000000
namespace Z
open PySem PySem.Spec PyProof.Rows L2
open He (ga ma)
def Ws.ext (s : Ws) : Ws := { s with cs := s.cs ++ [wc0] }
theorem ext_busy (s : Ws) : s.ext.busy = s.busy := by
  show (s.cs ++ [wc0]).flatMap _ = _
  rw [List.flatMap_append]
  show s.busy ++ _ = _
  simp [wc0]
theorem ext_free (s : Ws) (k : Key) : s.ext.free k = s.free k := by
  unfold Ws.free
  rw [ext_busy]
  rfl
theorem ext_zip (s : Ws) : s.ext.cs.zipIdx = s.cs.zipIdx ++ [(wc0, s.cs.length)] := by
  show (s.cs ++ [wc0]).zipIdx = _
  rw [List.zipIdx_append]
  simp
theorem ext_begs (P : Pl) (s : Ws) (k : Key) : ∀ m ∈ s.begs P k, m ∈ s.ext.begs P k := fun m hm => by
  unfold Ws.begs at hm ⊢
  rw [ext_free]
  split at hm
  · rename_i h
    rw [if_pos h, ext_zip, List.filter_append, List.map_append]
    exact List.mem_append_left _ hm
  · cases hm
theorem ext_moves {P : Pl} {s : Ws} {m : Mv} (h : m ∈ s.moves P) : m ∈ s.ext.moves P := by
  unfold Ws.moves at h ⊢
  rcases List.mem_append.mp h with h | h
  · obtain ⟨k, hk, hm⟩ := List.mem_flatMap.mp h
    exact List.mem_append_left _ (List.mem_flatMap.mpr ⟨k, hk, ext_begs P s k m hm⟩)
  · refine List.mem_append_right _ ?_
    rw [ext_zip, List.filter_append, List.map_append]
    exact List.mem_append_left _ h
theorem ext_get {s : Ws} {j : Nat} {c : Wc} (h : s.cs[j]? = some c) : s.ext.cs[j]? = some c := by
  show (s.cs ++ [wc0])[j]? = _
  rw [List.getElem?_append_left (List.getElem?_eq_some_iff.mp h).1]
  exact h
theorem ext_set {s : Ws} {j : Nat} (h : j < s.cs.length) (c : Wc) : s.ext.cs.set j c = s.cs.set j c ++ [wc0] := by
  show (s.cs ++ [wc0]).set j c = _
  rw [List.set_append_left _ _ h]
theorem ext_after {P : Pl} {s : Ws} {m : Mv} (h : m ∈ s.moves P) : s.ext.after P m = (s.after P m).ext := by
  rcases moves_mem h with ⟨z, j, c, rfl, _, hj, _⟩ | ⟨j, c, rfl, hj, _⟩
  · have hl := (List.getElem?_eq_some_iff.mp hj).1
    have e1 : (s.cs[j]?).getD wc0 = c := by rw [hj]; rfl
    have e2 : (s.ext.cs[j]?).getD wc0 = c := by rw [ext_get hj]; rfl
    unfold Ws.after
    simp only [e1, e2, ext_set hl]
    rfl
  · have hl := (List.getElem?_eq_some_iff.mp hj).1
    have e1 : (s.cs[j]?).getD wc0 = c := by rw [hj]; rfl
    have e2 : (s.ext.cs[j]?).getD wc0 = c := by rw [ext_get hj]; rfl
    unfold Ws.after
    simp only [e1, e2]
    cases c.ca.getLast? with
    | none => simp only [ext_set hl]; rfl
    | some x => simp only [ext_set hl]; rfl
theorem ext_first (P : Pl) (rg : List Str) : (Ws.first P 1 rg).ext = Ws.first P 2 rg := rfl
theorem ext_go {P : Pl} {s : Ws} {ms : List Mv} (c : s.Can P ms) : s.ext.Can P ms ∧ s.ext.go P ms = (s.go P ms).ext := by
  have key : ∀ k, k ≤ ms.length → s.ext.go P (ms.take k) = (s.go P (ms.take k)).ext := fun k => by
    induction k with
    | zero => exact fun _ => rfl
    | succ k ih =>
      intro hk
      have em : ms[k]? = some ms[k] := List.getElem?_eq_getElem (by omega)
      rw [List.take_add_one, em]
      show s.ext.go P (ms.take k ++ [ms[k]]) = (s.go P (ms.take k ++ [ms[k]])).ext
      rw [Ws.go_snoc, Ws.go_snoc, ih (by omega)]
      exact ext_after (c k _ em)
  refine ⟨fun i m hm => ?_, ?_⟩
  · have hi := (List.getElem?_eq_some_iff.mp hm).1
    rw [key i (by omega)]
    exact ext_moves (c i m hm)
  · have := key ms.length (Nat.le_refl _)
    rw [List.take_length] at this
    exact this
def Wc.bar0 (c : Wc) : Prop := (c.ca = [] → c.ba = 0) ∧ ∀ x r, c.ca = x :: r → x.2.2 = 0
theorem bar0_beg {c : Wc} (h : c.bar0) (z : Str) : ({ c with ca := c.ca ++ [(z, 0, c.ba)] } : Wc).bar0 := by
  refine ⟨fun e => by simp at e, fun x r e => ?_⟩
  dsimp only at e
  cases hc : c.ca with
  | nil =>
    rw [hc] at e
    injection e with e _
    rw [← e]
    exact h.1 hc
  | cons y q =>
    rw [hc] at e
    injection e with e _
    rw [← e]
    exact h.2 y q hc
theorem bar0_gone {P : Pl} {c : Wc} (h : c.bar0) {x : Str × Nat × Int} (hx : c.ca.getLast? = some x) : (c.gone P x.1 x.2.1 x.2.2).bar0 := by
  have e := dropLast_app hx
  have k0 : c.ca.dropLast = [] → x.2.2 = 0 := fun hd => by
    rw [hd] at e
    exact h.2 x [] e.symm
  have kh : ∀ y q, c.ca.dropLast = y :: q → y.2.2 = 0 := fun y q hd => by
    rw [hd] at e
    exact h.2 y (q ++ [x]) e.symm
  unfold Wc.gone
  dsimp only
  split
  · refine ⟨fun e2 => by simp at e2, fun y r e2 => ?_⟩
    dsimp only at e2
    cases hd : c.ca.dropLast with
    | nil =>
      rw [hd] at e2
      injection e2 with e2 _
      rw [← e2]
      exact k0 hd
    | cons a q =>
      rw [hd] at e2
      injection e2 with e2 _
      rw [← e2]
      exact kh a q hd
  · exact ⟨fun e2 => k0 e2, fun y r e2 => kh y r e2⟩
def Ws.bar0 (s : Ws) : Prop := ∀ c ∈ s.cs, c.bar0
theorem bar0_after {P : Pl} {s : Ws} (h : s.bar0) {m : Mv} (hm : m ∈ s.moves P) : (s.after P m).bar0 := by
  rcases moves_mem hm with ⟨z, j, c, rfl, _, hj, _⟩ | ⟨j, c, rfl, hj, _⟩
  · have e1 : (s.cs[j]?).getD wc0 = c := by rw [hj]; rfl
    intro d hd
    unfold Ws.after at hd
    simp only [e1] at hd
    rcases mem_setC hd with hd | rfl
    · exact h d hd
    · exact bar0_beg (h c (List.mem_of_getElem? hj)) z
  · have e1 : (s.cs[j]?).getD wc0 = c := by rw [hj]; rfl
    intro d hd
    unfold Ws.after at hd
    simp only [e1] at hd
    cases hg : c.ca.getLast? with
    | none =>
      rw [hg] at hd
      rcases mem_setC hd with hd | rfl
      · exact h d hd
      · exact h c (List.mem_of_getElem? hj)
    | some x =>
      rw [hg] at hd
      rcases mem_setC hd with hd | rfl
      · exact h d hd
      · exact bar0_gone (h c (List.mem_of_getElem? hj)) hg
theorem bar0_go {P : Pl} {s : Ws} (h : s.bar0) {ms : List Mv} (c : s.Can P ms) : (s.go P ms).bar0 := by
  have key : ∀ k, k ≤ ms.length → (s.go P (ms.take k)).bar0 := fun k => by
    induction k with
    | zero => exact fun _ => h
    | succ k ih =>
      intro hk
      have em : ms[k]? = some ms[k] := List.getElem?_eq_getElem (by omega)
      rw [List.take_add_one, em]
      show (s.go P (ms.take k ++ [ms[k]])).bar0
      rw [Ws.go_snoc]
      exact bar0_after (ih (by omega)) (c k _ em)
  have := key ms.length (Nat.le_refl _)
  rw [List.take_length] at this
  exact this
theorem bar0_first (P : Pl) (n : Nat) (rg : List Str) : (Ws.first P n rg).bar0 := fun c hc => by
  rw [(List.mem_replicate.mp hc).2]
  exact ⟨fun _ => rfl, fun x r e => nomatch e⟩
theorem stuck_none {s : Ws} (h : s.stuck.isEmpty = true) : ∀ c ∈ s.cs, c.ca = [] := fun c hc => by
  obtain ⟨j, hj⟩ := List.mem_iff_getElem?.mp hc
  cases e : c.ca with
  | nil => rfl
  | cons a r =>
    have hm : (c, j) ∈ s.cs.zipIdx.filter fun x => !x.1.ca.isEmpty := List.mem_filter.mpr ⟨List.mem_zipIdx_iff_getElem?.mpr hj, by rw [e]; rfl⟩
    have hm2 : j ∈ s.stuck := List.mem_map_of_mem (f := Prod.snd) hm
    rw [List.isEmpty_iff.mp h] at hm2
    cases hm2
theorem ext_stuck (s : Ws) : s.ext.stuck = s.stuck := by
  unfold Ws.stuck
  rw [ext_zip, List.filter_append, List.map_append]
  show _ ++ [] = _
  rw [List.append_nil]
theorem ext_enN (s : Ws) : enN s.ext = enN s := by
  unfold enN
  rw [ext_stuck]
  rfl
theorem begs_none {P : Pl} {s : Ws} {k : Key} (h : s.begs P k = []) (hl : ∀ c ∈ s.cs, c.lets P (kS k) = true) (hne : s.cs ≠ []) : s.free k = false := by
  cases hf : s.free k with
  | false => rfl
  | true =>
    unfold Ws.begs at h
    rw [if_pos hf] at h
    have h2 := List.map_eq_nil_iff.mp h
    cases e : s.cs with
    | nil => exact absurd e hne
    | cons c r =>
      have hm : (c, 0) ∈ s.cs.zipIdx := List.mem_zipIdx_iff_getElem?.mpr (by rw [e]; rfl)
      have := List.filter_eq_nil_iff.mp h2 (c, 0) hm
      exact absurd (hl c (by rw [e]; exact List.mem_cons_self)) this
theorem ext_rest {P : Pl} {n : Nat} {s : Ws} (ok : P.Ok) (so : s.Ok P n) (hn : 1 ≤ n) (hb : s.bar0) (hm : (s.moves P).isEmpty = true) (hs : s.stuck.isEmpty = true) : (s.ext.moves P).isEmpty = true := by
  have hc0 := stuck_none hs
  have hm := List.isEmpty_iff.mp hm
  unfold Ws.moves at hm
  obtain ⟨h1, h2⟩ := List.append_eq_nil_iff.mp hm
  have hne : s.cs ≠ [] := fun e => by have := so.cs; rw [e] at this; simp at this; omega
  rw [List.isEmpty_iff]
  unfold Ws.moves
  refine List.append_eq_nil_iff.mpr ⟨?_, ?_⟩
  · refine List.flatMap_eq_nil_iff.mpr fun k hk => ?_
    have hbk := List.flatMap_eq_nil_iff.mp h1 k hk
    obtain ⟨z, hz, rfl⟩ := List.mem_map.mp (so.wa.sub k hk)
    have hlet : ∀ c ∈ s.cs, c.lets P (kS (.inr z)) = true := fun c hc => by
      have e0 := hc0 c hc
      have hba := (hb c hc).1 e0
      have hin : c.inner P = 0 := by unfold Wc.inner; rw [e0]; rfl
      have hr := (ok.rk19 hz).1
      unfold Wc.lets
      rw [hba, hin]
      exact decide_eq_true (by show max (0 : Int) 0 < (P.ln z).rk; omega)
    have hf := begs_none hbk hlet hne
    unfold Ws.begs
    rw [ext_free, hf]
    rfl
  · have h3 := List.map_eq_nil_iff.mp h2
    rw [ext_zip, List.filter_append]
    show List.map _ (List.filter (fun x : Wc × Nat => x.1.can P s.up) s.cs.zipIdx ++ _) = []
    rw [h3]
    rfl
theorem fin_of {P : Pl} {s : Ws} {N : Nat} (h : ∀ i, (bf P s i).wy.length ≤ N) : ∃ i, FinAt P s i ∧ i ≤ N := by
  have key : ∀ k, (∃ i, FinAt P s i ∧ i ≤ k) ∨ k < (bf P s k).wy.length := fun k => by
    induction k with
    | zero => exact .inr (by show 0 < 1; omega)
    | succ k ih =>
      rcases ih with ⟨i, h1, h2⟩ | h1
      · exact .inl ⟨i, h1, by omega⟩
      · have : (bf P s k).wy.length ≤ (bf P s (k + 1)).wy.length := bf_mono (Nat.le_succ k)
        by_cases e : (bf P s (k + 1)).wy.length = k + 1
        · exact .inl ⟨k + 1, e, Nat.le_refl _⟩
        · exact .inr (by omega)
  rcases key N with h1 | h1
  · exact h1
  · have := h N
    omega
theorem fin_one {P : Pl} {rg : List Str} {j : Nat} (h : FinAt P (Ws.first P 2 rg) j) : ∃ i, FinAt P (Ws.first P 1 rg) i ∧ i ≤ j := by
  refine fin_of fun i => ?_
  have b := bf_ok P (Ws.first P 1 rg) i
  have nd : (((bf P (Ws.first P 1 rg) i).wy.map fun x => x.1.ext)).Nodup := by
    refine List.pairwise_iff_getElem.mpr fun a c ha hc hac e => ?_
    rw [List.length_map] at ha hc
    simp only [List.getElem_map] at e
    have hnd := List.pairwise_iff_getElem.mp b.nd a c (by rw [List.length_map]; exact ha) (by rw [List.length_map]; exact hc) hac
    simp only [List.getElem_map] at hnd
    have inj : ∀ s t : Ws, s.ext = t.ext → s = t := fun s t e => by
      obtain ⟨a1, a2, a3, a4, a5⟩ := s
      obtain ⟨b1, b2, b3, b4, b5⟩ := t
      simp only [Ws.ext, Ws.mk.injEq] at e
      obtain ⟨e1, e2, e3, e4, e5⟩ := e
      rw [e1, e2, e3, e4, List.append_cancel_right e5]
    exact hnd (by rw [inj _ _ e])
  have sub : ∀ t ∈ (bf P (Ws.first P 1 rg) i).wy.map fun x => x.1.ext, t ∈ (bf P (Ws.first P 2 rg) j).wy.map (·.1) := fun t ht => by
    obtain ⟨x, hx, rfl⟩ := List.mem_map.mp ht
    obtain ⟨k, hk⟩ := List.mem_iff_getElem?.mp hx
    obtain ⟨g1, g2, _⟩ := b.go k x hk
    obtain ⟨c2, e2⟩ := ext_go g2
    rw [ext_first] at c2 e2
    obtain ⟨y, hy, ey⟩ := h.reach c2
    rw [g1, ← e2, ← ey]
    exact List.mem_map_of_mem hy
  have := nd.length_le_of_subset sub
  rw [List.length_map, List.length_map] at this
  unfold FinAt at h
  omega
theorem rest_two {P : Pl} {rg : List Str} {i j : Nat} (ok : P.Ok) (hz : ∀ z ∈ rg, z ∈ P.names) (h2 : FinAt P (Ws.first P 2 rg) j) {f : NestedKey × List Mv} (hf : f ∈ (bf P (Ws.first P 1 rg) i).fd) (hr : ((Ws.first P 1 rg).go P f.2).stuck.isEmpty = true) : ∃ g ∈ (bf P (Ws.first P 2 rg) j).fd, g.1 = f.1 ∧ g.2.length ≤ f.2.length := by
  obtain ⟨f1, f2, f3, _⟩ := (bf_ok P (Ws.first P 1 rg) i).fgo f hf
  have so : (Ws.first P 1 rg).Ok P 1 := Ws.Ok.first 1 hz
  obtain ⟨c2, e2⟩ := ext_go f2
  rw [ext_first] at c2 e2
  have hm : (((Ws.first P 2 rg).go P f.2).moves P).isEmpty = true := by
    rw [e2]
    exact ext_rest ok (f2.okAll ok so) (Nat.le_refl _) (bar0_go (bar0_first P 1 rg) f2) f3 hr
  obtain ⟨g, g1, g2, g3⟩ := h2.told c2 hm
  exact ⟨g, g1, by rw [g2, e2, ext_enN, f1], g3⟩
theorem first_nil (P : Pl) (n : Nat) : ((Ws.first P n []).moves P) = [] := by
  unfold Ws.moves
  refine List.append_eq_nil_iff.mpr ⟨rfl, List.map_eq_nil_iff.mpr (List.filter_eq_nil_iff.mpr fun x hx => ?_)⟩
  have := List.mem_zipIdx_iff_getElem?.mp hx
  have e := (List.mem_replicate.mp (List.mem_of_getElem? this)).2
  rw [e]
  exact Bool.false_ne_true
theorem bf_nil (P : Pl) (n : Nat) {i : Nat} (h : FinAt P (Ws.first P n []) i) : (bf P (Ws.first P n []) i).fd = [(enN (Ws.first P n []), [])] := by
  have e1 : (bf P (Ws.first P n []) 1) = ⟨[(Ws.first P n [], [])], [(enN (Ws.first P n []), [])]⟩ := by
    have := bf_next (P := P) (s := Ws.first P n []) (i := 0) (x := (Ws.first P n [], [])) rfl
    rw [this]
    dsimp only
    rw [first_nil]
    show (⟨_, addF P [] (Ws.first P n []) []⟩ : Bf) = _
    unfold addF
    rw [first_nil]
    rfl
  have f1 : FinAt P (Ws.first P n []) 1 := by
    unfold FinAt
    rw [e1]
    rfl
  rw [h.uniq f1, e1]
theorem enN_nil (P : Pl) (n : Nat) : (enN (Ws.first P n [])).data = .tuple [.str "rest", .tuple [], .tuple (List.replicate P.ls.length (.int 0))] := by
  have hs : (Ws.first P n []).stuck = [] := by
    unfold Ws.stuck
    refine List.map_eq_nil_iff.mpr (List.filter_eq_nil_iff.mpr fun x hx => ?_)
    have := List.mem_zipIdx_iff_getElem?.mp hx
    have e := (List.mem_replicate.mp (List.mem_of_getElem? this)).2
    rw [e]
    exact Bool.false_ne_true
  rw [enN_data]
  unfold Ws.endD
  rw [hs]
  show PyData.tuple [.str "rest", .tuple [], .tuple ((List.replicate P.ls.length (0 : Int)).map PyData.int)] = _
  rw [List.map_replicate]
theorem end_word (s : Ws) : ∃ (a : Str) (l : List PyData), s.endD = .tuple (.str a :: l) ∧ (decide (a = "rest") = s.stuck.isEmpty) := by
  unfold Ws.endD
  cases h : s.stuck.isEmpty with
  | true => exact ⟨"rest", _, rfl, by decide⟩
  | false => exact ⟨"stuck", _, rfl, by decide +kernel⟩
end Z
set_option maxHeartbeats 1000000
namespace Z
open PySem PySem.Spec PyProof.Rows L2
open He (ga ma)
theorem moves_keepU {K : Fg} {H H' : Hp} {v : V} {ms : List Mv} {w : World} {d : Addr} {es : EnU} (hd : H d = some (dU w d es)) (f : Fr [d] H H') (h : Dp K H v (.list (ms.map dMv))) : Dp K H' v (.list (ms.map dMv)) := by
  obtain ⟨a, xs, rfl, hs, ha⟩ := h.lstI
  by_cases c : a = d
  · subst c
    rcases hs with (e | ⟨o, e⟩) | e
    · rw [hd] at e
      cases e
    · rw [hd] at e
      cases e
    · exact .lst (.inr e) (ha.tk f.tk (tds_mv _))
  · exact .lst (f.sqL hs (by simp [c])) (ha.tk f.tk (tds_mv _))
theorem same_unlock {H Ha : Hp} {d : Addr} {u f : HO} (h : H d = some u) (s : Same (upd H d f) Ha) : Same H (upd Ha d u) := fun b o e => by
  by_cases c : b = d
  · subst c
    rw [upd_same, ← h, e]
  · rw [upd_ne c]
    exact s b o (by rw [upd_ne c]; exact e)
theorem srtF_one (x : NestedKey × List Mv) : srtF [x] = [x] := List.mergeSort_singleton _
theorem nil_shaped (k : Nat) (hk : k ≤ 12) : SeqAt.shaped (.list [.tuple [.str "rest", .tuple [], .tuple (List.replicate k (PyData.int 0))]]) = true := by
  refine (flatW_lst (n := 2) fun d hd => ?_).shaped (by omega)
  rw [List.mem_singleton.mp hd]
  refine flatW_tup fun e he => ?_
  simp only [List.mem_cons, List.not_mem_nil, or_false] at he
  rcases he with rfl | rfl | rfl
  · exact (flatW_str (by decide +kernel)).mono (by omega)
  · exact flatW_tup (n := 0) fun d hd => nomatch hd
  · exact flatW_tup fun d hd => by
      rw [(List.mem_replicate.mp hd).2]
      exact flatW_int _
end Z
set_option maxHeartbeats 1000000
namespace T
open PySem PySem.Spec PyProof.Rows L2 Z
open He (ga ma)
local macro_rules | `(tactic| walk_at "z") => `(tactic| with_reducible first | refine ⟨_, _, rfl, rfl, ?_⟩ | refine ⟨_, rfl, ?_⟩)
local macro_rules | `(tactic| walk_at "z") => `(tactic| ((with_reducible refine s_isi (d := ?d1) ?h1 ?h2 ?q1); (case h1 => first | assumption | constructor); (case h2 => decide)))
local macro_rules | `(tactic| walk_at "z") => `(tactic| with_reducible first | refine s_tup ?_ | refine s_lst ?_)
local macro_rules | `(tactic| walk_at "z") => `(tactic| ((with_reducible refine s_ne ?h1 ?q1); (case h1 => exact rfl)))
local macro_rules | `(tactic| walk_at "z") => `(tactic| ((with_reducible refine s_eq ?h1 ?q1); (case h1 => exact rfl)))
local macro_rules | `(tactic| walk_at "z") => `(tactic| with_reducible first | refine s_cvalg ?_ | refine s_fldS ?_ | refine s_I0 ?_ | refine s_U ?_)
local macro_rules | `(tactic| walk_at "z") => `(tactic| with_reducible first | refine s_fldaug ?_ | refine s_add ?_ | refine s_ipI ?_ | refine s_ixO ?_ | refine s_lcL ?_ | refine s_dcT ?_)
local macro_rules | `(tactic| walk_at "z") => `(tactic| with_reducible first | refine s_daugg ?_ | refine s_disp ?_ | refine s_pcons ?_ | refine s_pnil ?_ | refine s_gsub ?_ | refine s_augS ?_)
local macro_rules | `(tactic| walk_at "z") => `(tactic| with_reducible first | refine s_bm ?_ | refine s_bm0 ?_ | refine s_fldg ?_ | refine s_meth ?_ | refine s_prop ?_ | refine s_lcT ?_)
local macro_rules | `(tactic| walk_at "z") => `(tactic| with_reducible first | refine s_yes ?_ | refine s_gcons ?_ | refine s_gnil ?_ | refine s_din ?_ | refine s_dnin ?_ | refine s_dget ?_)
local macro_rules | `(tactic| walk_at "z") => `(tactic| with_reducible first | refine s_orV ?_ | refine s_notV ?_ | refine s_if ?_ | refine s_chain ?_ | refine s_call ?_ | refine s_bl ?_)
local macro_rules | `(tactic| walk_at "z") => `(tactic| with_reducible first | refine s_test ?_ | refine s_B ?_ | refine s_and ?_ | refine s_or ?_ | refine s_not ?_ | refine s_andV ?_)
local macro_rules | `(tactic| walk_at "z") => `(tactic| with_reducible first | refine s_op ?_ | refine s_un ?_ | refine s_cb ?_ | refine s_cons ?_ | refine s_nil ?_ | refine s_star ?_)
local macro_rules | `(tactic| walk_at "z") => `(tactic| ((with_reducible refine s_var (v := ?v1) ?h1 ?q1); (case h1 => exact rfl)))
local macro_rules | `(tactic| walk_at "z") => `(tactic| with_reducible refine s_c ?_)
local macro_rules | `(tactic| walk_at "z") => `(tactic| with_reducible first | refine s_drop ?_ | refine s_next ?_ | refine s_cont ?_ | refine s_break ?_ | refine s_par ?_ | refine s_par2 ?_)
local macro_rules | `(tactic| walk_at "z") => `(tactic| with_reducible first | refine s_seq ?_ | refine s_asg ?_ | refine s_gname ?_ | refine s_ret ?_ | refine s_retN ?_ | refine s_ifS ?_)
local macro_rules | `(tactic| walk_at "zi") => `(tactic| ((with_reducible refine ite_t ?h1 ?q1); (case h1 => rfl)))
local macro_rules | `(tactic| walk_at "zi") => `(tactic| ((with_reducible refine ite_f ?h1 ?q1); (case h1 => rfl)))
local macro_rules | `(tactic| walk_at "zi") => `(tactic| walk_at "z")
local macro_rules | `(tactic| walk_at "ori") => `(tactic| ((with_reducible apply ite_t); (· rfl)))
local macro_rules | `(tactic| walk_at "ori") => `(tactic| ((with_reducible apply ite_f); (· rfl)))
local macro_rules | `(tactic| walk_at "ori") => `(tactic| with_reducible first | refine ⟨_, _, rfl, rfl, ?_⟩ | refine ⟨_, rfl, ?_⟩)
local macro_rules | `(tactic| walk_at "ori") => `(tactic| ((with_reducible apply s_isi); (· assumption); (· decide)))
local macro_rules | `(tactic| walk_at "ori") => `(tactic| with_reducible first | refine s_tup ?_ | refine s_lst ?_)
local macro_rules | `(tactic| walk_at "ori") => `(tactic| ((with_reducible apply s_ne); (· exact rfl)))
local macro_rules | `(tactic| walk_at "ori") => `(tactic| ((with_reducible apply s_eq); (· exact rfl)))
local macro_rules | `(tactic| walk_at "ori") => `(tactic| with_reducible first | refine s_lcL ?_ | refine s_dcT ?_ | refine s_cvalg ?_ | refine s_I0 ?_ | refine s_U ?_)
local macro_rules | `(tactic| walk_at "ori") => `(tactic| with_reducible first | refine s_daugg ?_ | refine s_disp ?_ | refine s_gsub ?_ | refine s_fldaug ?_ | refine s_ipI ?_ | refine s_ixO ?_)
local macro_rules | `(tactic| walk_at "ori") => `(tactic| with_reducible first | refine s_chain ?_ | refine s_yes ?_ | refine s_din ?_ | refine s_dnin ?_ | refine s_bm0 ?_ | refine s_lcT ?_)
local macro_rules | `(tactic| walk_at "ori") => `(tactic| with_reducible first | refine s_un ?_ | refine s_star ?_ | refine s_and ?_ | refine s_or ?_ | refine s_orV ?_ | refine s_notV ?_)
local macro_rules | `(tactic| walk_at "ori") => `(tactic| with_reducible first | refine s_augS ?_ | refine s_retN ?_ | refine s_cont ?_ | refine s_break ?_ | refine s_par ?_ | refine s_par2 ?_)
local macro_rules | `(tactic| walk_at "ori") => `(tactic| with_reducible first | refine s_andV ?_ | refine s_add ?_ | refine s_prop ?_ | refine s_pnil ?_ | refine s_cb ?_ | refine s_not ?_)
local macro_rules | `(tactic| walk_at "ori") => `(tactic| with_reducible first | refine s_call ?_ | refine s_pcons ?_ | refine s_bm ?_ | refine s_if ?_ | refine s_gcons ?_ | refine s_gnil ?_)
local macro_rules | `(tactic| walk_at "ori") => `(tactic| with_reducible first | refine s_next ?_ | refine s_gname ?_ | refine s_drop ?_ | refine s_meth ?_ | refine s_fldS ?_ | refine s_asg ?_)
local macro_rules | `(tactic| walk_at "ori") => `(tactic| with_reducible first | refine s_fldg ?_ | refine s_ifS ?_ | refine s_dget ?_ | refine s_ret ?_ | refine s_B ?_ | refine s_test ?_)
local macro_rules | `(tactic| walk_at "ori") => `(tactic| with_reducible first | refine s_cons ?_ | refine s_c ?_ | refine s_nil ?_ | refine s_seq ?_ | refine s_op ?_ | refine s_bl ?_)
local macro_rules | `(tactic| walk_at "ori") => `(tactic| ((with_reducible apply s_var); (· exact rfl)))
local macro_rules | `(tactic| walk_at "ri") => `(tactic| repeat walk_at "ori")
local macro_rules | `(tactic| walk_at "zn") => `(tactic| (intro p hp; generalize eH : upd _ p _ = H2; have s2 := newS hp eH; have e2 := newE eH; clear eH))
local macro_rules | `(tactic| walk_at "zt") => `(tactic| (refine ⟨Nat.le_of_ble_eq_true rfl, ?_⟩; intro p hp; generalize eH : upd _ p _ = H2; have s2 := newS hp eH; have e2 := newE eH; clear eH))
def spIsInt (K : Fg) : Sp := fun vs H Q _ => ∃ v d lo hi, vs = [v, .int lo, .int hi] ∧ Dp K H v d ∧ Q (.bl (isIntD lo hi d)) H
section
variable {P : Program} {w : World} {K : Fg} {mg : Str → Option Value} {base : Heap}
theorem ok_is_integer (T : Txt K mg) : FnOk P w K mg base (L2.CX P w) 1 (ga K "is_integer") (fdOf K (ga K "is_integer")) ["value", "low", "high"] (spIsInt K) := by
  refine FunD.ok T.F_is_integer sc_is_integer (fun vs H Q E h => ?_) (fun cdv A outer s H vs Q E hr h => ⟨_, PSs.nox (pss_one (ps_ret (pe_and (pe_callB (call_isiDK K) (by rfl) T.u_isinstance (by decide +kernel) (pa_cons (pv 0) (pa_cons (z_ty (n := "int") T.u_int) pa_nil))) (pe_and (pe_not (pe_callB (call_isiDK K) (by rfl) T.u_isinstance (by decide +kernel) (pa_cons (pv 0) (pa_cons (z_ty (n := "bool") T.u_bool) pa_nil)))) (pe_one (pe_chain op_le op_le (pv 1) (pv 0) (pv 2))))))), ?_⟩)
  · obtain ⟨v, d, lo, hi, rfl, _⟩ := h
    rfl
  obtain ⟨v, d, lo, hi, rfl, hd, q⟩ := h
  show (_ : TS) _ [some v, some (.int lo), some (.int hi)] H
  try dsimp only [cxOf]
  have hd0 := hd
  cases hd <;> (walk_at "ri") <;> try exact q
  rename_i i
  by_cases h1 : lo ≤ i
  · refine ite_t (decide_eq_true h1) ?_
    walk_at "ri"
    have e : isIntD lo hi (.int i) = decide (i ≤ hi) := by simp [isIntD, h1]
    rw [e] at q
    exact q
  · refine ite_f (decide_eq_false h1) ?_
    have e : isIntD lo hi (.int i) = false := by simp [isIntD, h1]
    rw [e] at q
    exact q
def spIsWord (K : Fg) : Sp := fun vs H Q _ => ∃ v d, vs = [v] ∧ Dp K H v d ∧ short d = true ∧ ∀ H', Same H H' → Q (.bl (isWord d)) H'
theorem ok_is_word (T : Txt K mg) : FnOk P w K mg base (L2.CX P w) 1 (ga K "is_word") (fdOf K (ga K "is_word")) ["value"] (spIsWord K) := by
  refine FunD.ok T.F_is_word sc_is_word (fun vs H Q E h => ?_) (fun cdv A outer s H vs Q E hr h => ⟨_, PSs.nox (pss_one (ps_ret (pe_and (pe_callB (call_isiDK K) (by rfl) T.u_isinstance (by decide +kernel) (pa_cons (pv 0) (pa_cons (z_ty (n := "str") T.u_str) pa_nil))) (pe_and (pe_cmpR op_ne (pv 0) pe_str (nomark _)) (pe_one (pe_callB (cr_allK K rfl) (by rfl) T.u_all (by decide +kernel) (pa_cons (pe_lc (own := [("letter", 1)]) rfl sc_is_word.nd (pi_str (pv 0)) (blkOk_by (own := [("letter", 1)]) (N := n_is_word) (sc := defScope s_is_word) (by decide +kernel)) (fun _ _ _ _ _ => (zg 1 sc_is_word.nd)) (fun _ _ _ _ _ => pts_nil) (fun _ _ _ _ _ => (pe_cmpR op_in_sign (pv 1) (z_str T.i_LETTERS) (by rfl)))) pa_nil))))))), ?_⟩)
  · obtain ⟨v, d, rfl, _⟩ := h
    rfl
  obtain ⟨v, d, rfl, hd, hz, q⟩ := h
  show (_ : TS) _ [some v, none] H
  try dsimp only [cxOf]
  have hd0 := hd
  cases hd <;> (walk_at "ri") <;> try exact q _ (Same.refl H)
  rename_i z
  refine ite_b (fun h1 => ?_) (fun h1 => ?_)
  · walk_at "ri"
    refine ⟨_, rfl, z, rfl, fun D hD => lc_dat (K := K) walk_str (fun _ => true) (dAt z.cps.toList fun c => .bool (decide (c ∈ letters))) hD (short_str hz) (dAt_tupd fun _ _ => rfl) (fun _ _ => True.intro) (fun i H x H' y => by rw [y.1]; exact Same.refl H) (fun i x H H' Yes No hi s1 y yes no => ?_) (fun H' ys s1 e1 a1 => ?_)⟩
    · obtain ⟨rfl, c, hc, rfl⟩ := y
      refine ⟨rfl, ?_⟩
      walk_at "ri"
      refine yes rfl _ _ (Same.refl _) ?_
      rw [dAt_eq (by simpa using hc)]
      exact .bl _
    · have e := keptD_map z.cps.toList fun c => PyData.bool (decide (c ∈ letters))
      rw [Array.length_toList] at e
      rw [e, map_bool] at a1
      rw [dp_bools a1] at e1
      refine s_all (SqL.of e1) ?_
      have e2 : isWord (.str z) = ((z.cps.toList.map fun c => decide (c ∈ letters)).all id) := by
        simp only [isWord, h1, Bool.true_and, List.all_map]
        rfl
      rw [← e2]
      exact q _ s1
  · walk_at "ri"
    have e2 : isWord (.str z) = false := by simp only [isWord, h1, Bool.false_and]
    rw [e2] at q
    exact q _ (Same.refl H)
def spIsName (K : Fg) : Sp := fun vs H Q _ => ∃ v d, vs = [v] ∧ Dp K H v d ∧ short d = true ∧ ∀ H', Same H H' → Q (.bl (isName d)) H'
theorem ok_is_name (T : Txt K mg) : FnOk P w K mg base (L2.CX P w) 2 (ga K "is_name") (fdOf K (ga K "is_name")) ["value"] (spIsName K) := by
  refine FunD.ok T.F_is_name sc_is_name (fun vs H Q E h => ?_) (fun cdv A outer s H vs Q E hr h => ⟨_, PSs.nox (pss_one (ps_ret (pe_and (z_call (ok_is_word T) T.c_is_word (hr.mono (by decide)) rfl T.g_is_word passL (pa_cons (pv 0) pa_nil)) (pe_one (pe_cmpR op_le (pe_callB (call_lenK K) (by rfl) T.u_len (by decide +kernel) (pa_cons (pv 0) pa_nil)) (z_int T.i_MAX_NAME) (nomark _)))))), ?_⟩)
  · obtain ⟨v, d, rfl, _⟩ := h
    rfl
  obtain ⟨v, d, rfl, hd, hz, q⟩ := h
  show (_ : TS) _ [some v] H
  try dsimp only [cxOf]
  walk_at "ri"
  refine ⟨v, d, rfl, hd, hz, fun H' s1 => ?_⟩
  walk_at "ri"
  refine ite_b (fun h1 => ?_) (fun h1 => ?_)
  · cases hd <;> try (simp [isWord] at h1; done)
    rename_i z
    walk_at "ri"
    refine s_lenS (by have := short_str hz; show z.cps.size ≤ sizeLine; rw [sizeLine_eq]; omega) ?_
    walk_at "ri"
    have e2 : isName (.str z) = decide ((z.length : Int) ≤ 8) := by simp only [isName, h1, Bool.true_and]
    rw [e2] at q
    exact q _ s1
  · walk_at "ri"
    have e2 : isName d = false := by simp only [isName, h1, Bool.false_and]
    rw [e2] at q
    exact q _ s1
def spIsLine (K : Fg) : Sp := fun vs H Q _ => ∃ v d, vs = [v] ∧ Dp K H v d ∧ short d = true ∧ ∀ H', Same H H' → Q (.bl (isLine d)) H'
theorem ok_is_line (T : Txt K mg) : FnOk P w K mg base (L2.CX P w) 3 (ga K "is_line") (fdOf K (ga K "is_line")) ["line"] (spIsLine K) := by
  refine FunD.ok T.F_is_line sc_is_line (fun vs H Q E h => ?_) (fun cdv A outer s H vs Q E hr h => ⟨_, PSs.nox (pss_cons (ps_if (PW.pt (pw_or (pt_not (pt_val (pe_callB (call_isiDK K) (by rfl) T.u_isinstance (by decide +kernel) (pa_cons (pv 0) (pa_cons (z_ty (n := "tuple") T.u_tuple) pa_nil))))) (pw_or (pt_cmpR op_ne (pe_callB (call_lenK K) (by rfl) T.u_len (by decide +kernel) (pa_cons (pv 0) pa_nil)) pe_int (nomark _)) (pw_or1 (pt_not (pt_val (z_call (ok_is_name T) T.c_is_name (hr.mono (by decide)) rfl T.g_is_name passL (pa_cons (pe_ix (ix_tupK K) (pv 0) pe_int (fun _ _ => rfl)) pa_nil)))))))) (pss_one (ps_ret pe_bl)) pss_nil)
      (pss_cons (ps_if (PW.pt (pw_or (pt_not (pt_val (pe_callB (call_isiDK K) (by rfl) T.u_isinstance (by decide +kernel) (pa_cons (pe_ix (ix_tupK K) (pv 0) pe_int (fun _ _ => rfl)) (pa_cons (z_ty (n := "str") T.u_str) pa_nil))))) (pw_or (pt_cmpR (op_notIn_seqK K) (pe_ix (ix_tupK K) (pv 0) pe_int (fun _ _ => rfl)) (pe_tup (pa_cons (z_str T.i_EDGE) (pa_cons (z_str T.i_LEVEL) pa_nil))) (by rfl)) (pw_or1 (pt_not (pt_val (z_call (ok_is_integer T) T.c_is_integer (hr.mono (by decide)) rfl T.g_is_integer passL (pa_cons (pe_ix (ix_tupK K) (pv 0) pe_int (fun _ _ => rfl)) (pa_cons pe_int (pa_cons (z_int T.i_MAX_RANK) pa_nil)))))))))) (pss_one (ps_ret pe_bl)) pss_nil)
      (pss_one (ps_ret (pe_and (pe_callB (call_isiDK K) (by rfl) T.u_isinstance (by decide +kernel) (pa_cons (pe_ix (ix_tupK K) (pv 0) pe_int (fun _ _ => rfl)) (pa_cons (z_ty (n := "tuple") T.u_tuple) pa_nil))) (pe_one (pe_chain op_le op_le pe_int (pe_callB (call_lenK K) (by rfl) T.u_len (by decide +kernel) (pa_cons (pe_ix (ix_tupK K) (pv 0) pe_int (fun _ _ => rfl)) pa_nil)) (z_int T.i_MAX_STEPS)))))))), ?_⟩)
  · obtain ⟨v, d, rfl, _⟩ := h
    rfl
  obtain ⟨v, d, rfl, hd, hz, q⟩ := h
  show (_ : TS) _ [some v] H
  try dsimp only [cxOf]
  have hd0 := hd
  cases hd <;> (walk_at "ri") <;> try exact q _ (Same.refl H)
  rename_i a xs ds hT hA
  refine s_lenT hT ?_
  walk_at "ri"
  by_cases h4 : ds.length = 4
  · have hl : xs.length = 4 := hA.len.trans h4
    refine ite_f (by rw [hl]; rfl) ?_
    obtain ⟨da, db, dc, de, rfl⟩ : ∃ da db dc de, ds = [da, db, dc, de] := by
      match ds, h4 with
      | [a, b, c, e], _ => exact ⟨a, b, c, e, rfl⟩
    cases hA with | cons h1 hA => ?_
    cases hA with | cons h2 hA => ?_
    cases hA with | cons h3 hA => ?_
    cases hA with | cons h5 hA => ?_
    cases hA
    walk_at "ri"
    refine s_ixT hT rfl ?_
    walk_at "ri"
    have sz := short_tup hz
    refine ⟨_, _, rfl, h1, shorts_at sz (by simp), fun H1 s1 => ?_⟩
    walk_at "ri"
    refine ite_b (fun n1 => ?_) (fun n1 => ?_)
    · walk_at "ri"
      have e : isLine (.tuple [da, db, dc, de]) = false := by simp [isLine, bnt n1]
      rw [e] at q
      exact q _ s1
    have m1 : isName da = true := by simpa using n1
    replace hT := s1.sqT hT
    replace h2 := h2.same s1
    replace h3 := h3.same s1
    replace h5 := h5.same s1
    walk_at "ri"
    refine s_ixT hT rfl ?_
    walk_at "ri"
    have h20 := h2
    cases h2 <;> (walk_at "ri") <;> try (
      refine (?_ : _ → _) (q _ s1)
      rw [show isLine (.tuple [da, _, dc, de]) = false from by simp [isLine, isKind]]
      exact fun z => z)
    rename_i z
    refine s_ixT hT rfl ?_
    walk_at "ri"
    refine ⟨by show 2 ≤ sizeLine; decide, ?_⟩
    walk_at "zn"
    rename_i p hp H2 s2 e2
    refine s_in (.inr (SqT.of e2)) rfl rfl ?_
    walk_at "ri"
    refine ite_b (fun n2 => ?_) (fun n2 => ?_)
    · walk_at "ri"
      have e : isLine (.tuple [da, .str z, dc, de]) = false := by
        have n3 : inV (.str z) [.str "edge", .str "level"] = false := by simpa using n2
        simp [isLine, isKind, n3]
      rw [e] at q
      exact q _ (s1.trans s2)
    have m2 : isKind (.str z) = true := by simpa [isKind] using n2
    replace hT := s2.sqT hT
    replace h3 := h3.same s2
    replace h5 := h5.same s2
    walk_at "ri"
    refine s_ixT hT rfl ?_
    walk_at "ri"
    refine ⟨_, _, _, _, rfl, h3, ?_⟩
    walk_at "ri"
    refine ite_b (fun n2 => ?_) (fun n2 => ?_)
    · walk_at "ri"
      have e : isLine (.tuple [da, .str z, dc, de]) = false := by simp [isLine, bnt n2]
      rw [e] at q
      exact q _ (s1.trans s2)
    have m3 : isIntD 1 9 dc = true := by simpa using n2
    have e : isLine (.tuple [da, .str z, dc, de]) = isSteps 8 de := by simp [isLine, m1, m2, m3]
    rw [e] at q
    walk_at "ri"
    refine s_ixT hT rfl ?_
    walk_at "ri"
    have h50 := h5
    cases h5 <;> (walk_at "ri") <;> try exact q _ (s1.trans s2)
    rename_i a' xs' ds' hT' hA'
    refine s_ixT hT rfl ?_
    walk_at "ri"
    refine s_lenT hT' ?_
    walk_at "ri"
    have el := hA'.len
    refine ite_b (fun n5 => ?_) (fun n5 => ?_)
    · walk_at "ri"
      have e6 : isSteps 8 (.tuple ds') = decide ((xs'.length : Int) ≤ 8) := by
        rw [el] at n5
        show (decide ((1 : Int) ≤ ds'.length) && decide ((ds'.length : Int) ≤ (8 : Nat))) = _
        rw [n5, ← el]
        rfl
      rw [e6] at q
      exact q _ (s1.trans s2)
    · walk_at "ri"
      have e6 : isSteps 8 (.tuple ds') = false := by
        rw [el] at n5
        show (decide ((1 : Int) ≤ ds'.length) && decide ((ds'.length : Int) ≤ (8 : Nat))) = _
        rw [n5]
        rfl
      rw [e6] at q
      exact q _ (s1.trans s2)
  · refine ite_t ?_ ?_
    · have hl : xs.length ≠ 4 := by rw [hA.len]; exact h4
      simp
      omega
    · walk_at "ri"
      rw [isLine_no h4] at q
      exact q _ (Same.refl H)
def spIsWork (K : Fg) : Sp := fun vs H Q _ => ∃ v d, vs = [v] ∧ Dp K H v d ∧ short d = true ∧ ∀ H', Same H H' → Q (.bl (isWork d)) H'
theorem ok_is_work (T : Txt K mg) : FnOk P w K mg base (L2.CX P w) 3 (ga K "is_work") (fdOf K (ga K "is_work")) ["work"] (spIsWork K) := by
  refine FunD.ok T.F_is_work sc_is_work (fun vs H Q E h => ?_) (fun cdv A outer s H vs Q E hr h => ⟨_, PSs.nox (pss_cons (ps_if (PW.pt (pw_or (pt_not (pt_val (pe_callB (call_isiDK K) (by rfl) T.u_isinstance (by decide +kernel) (pa_cons (pv 0) (pa_cons (z_ty (n := "tuple") T.u_tuple) pa_nil))))) (pw_or (pt_cmpR op_ne (pe_callB (call_lenK K) (by rfl) T.u_len (by decide +kernel) (pa_cons (pv 0) pa_nil)) pe_int (nomark _)) (pw_or1 (pt_not (pt_val (z_call (ok_is_name T) T.c_is_name (hr.mono (by decide)) rfl T.g_is_name passL (pa_cons (pe_ix (ix_tupK K) (pv 0) pe_int (fun _ _ => rfl)) pa_nil)))))))) (pss_one (ps_ret pe_bl)) pss_nil)
      (pss_one (ps_ret (pe_and (z_call (ok_is_integer T) T.c_is_integer (hr.mono (by decide)) rfl T.g_is_integer passL (pa_cons (pe_ix (ix_tupK K) (pv 0) pe_int (fun _ _ => rfl)) (pa_cons pe_int (pa_cons (z_int T.i_MAX_RANK) pa_nil)))) (pe_one (z_call (ok_is_integer T) T.c_is_integer (hr.mono (by decide)) rfl T.g_is_integer passL (pa_cons (pe_ix (ix_tupK K) (pv 0) pe_int (fun _ _ => rfl)) (pa_cons pe_int (pa_cons (z_int T.i_MAX_TICKS) pa_nil))))))))), ?_⟩)
  · obtain ⟨v, d, rfl, _⟩ := h
    rfl
  obtain ⟨v, d, rfl, hd, hz, q⟩ := h
  show (_ : TS) _ [some v] H
  try dsimp only [cxOf]
  have hd0 := hd
  cases hd <;> (walk_at "ri") <;> try exact q _ (Same.refl H)
  rename_i a xs ds hT hA
  refine s_lenT hT ?_
  walk_at "ri"
  by_cases h4 : ds.length = 3
  · have hl : xs.length = 3 := hA.len.trans h4
    refine ite_f (by rw [hl]; rfl) ?_
    obtain ⟨da, db, dc, rfl⟩ : ∃ da db dc, ds = [da, db, dc] := by
      match ds, h4 with
      | [a, b, c], _ => exact ⟨a, b, c, rfl⟩
    cases hA with | cons h1 hA => ?_
    cases hA with | cons h2 hA => ?_
    cases hA with | cons h3 hA => ?_
    cases hA
    walk_at "ri"
    refine s_ixT hT rfl ?_
    walk_at "ri"
    have sz := short_tup hz
    refine ⟨_, _, rfl, h1, shorts_at sz (by simp), fun H1 s1 => ?_⟩
    walk_at "ri"
    refine ite_b (fun n1 => ?_) (fun n1 => ?_)
    · walk_at "ri"
      have e : isWork (.tuple [da, db, dc]) = false := by simp [isWork, bnt n1]
      rw [e] at q
      exact q _ s1
    have e : isWork (.tuple [da, db, dc]) = (isIntD 1 9 db && isIntD 1 99 dc) := by simp [isWork, bnf n1]
    rw [e] at q
    replace hT := s1.sqT hT
    replace h2 := h2.same s1
    replace h3 := h3.same s1
    walk_at "ri"
    refine s_ixT hT rfl ?_
    walk_at "ri"
    refine ⟨_, _, _, _, rfl, h2, ?_⟩
    walk_at "ri"
    refine ite_b (fun n2 => ?_) (fun n2 => ?_)
    · walk_at "ri"
      refine s_ixT hT rfl ?_
      walk_at "ri"
      refine ⟨_, _, _, _, rfl, h3, ?_⟩
      rw [n2] at q
      exact q _ s1
    · rw [n2] at q
      exact q _ s1
  · refine ite_t ?_ ?_
    · have hl : xs.length ≠ 3 := by rw [hA.len]; exact h4
      simp
      omega
    · walk_at "ri"
      rw [isWork_no h4] at q
      exact q _ (Same.refl H)
end
set_option maxHeartbeats 1000000
open PySem PySem.Spec PyProof.Rows L2 Z
open He (ga ma)
def spIsStep (K : Fg) : Sp := fun vs H Q _ => ∃ v d dk kvs wl ws, vs = [v, .ref dk, .ref wl] ∧ Dp K H v d ∧ H dk = some (.dK kvs) ∧ strVals kvs ∧ SqL K H wl ws ∧ ws.all flatV = true ∧ Q (.bl (isStep kvs ws d)) H
section
variable {P : Program} {w : World} {K : Fg} {mg : Str → Option Value} {base : Heap}
theorem ok_is_step (T : Txt K mg) : FnOk P w K mg base (L2.CX P w) 2 (ga K "is_step") (fdOf K (ga K "is_step")) ["step", "kinds", "works"] (spIsStep K) := by
  refine FunD.ok T.F_is_step sc_is_step (fun vs H Q E h => ?_) (fun cdv A outer s H vs Q E hr h => ⟨_, PSs.nox (pss_cons (ps_if (PW.pt (pw_or (pt_not (pt_val (pe_callB (call_isiDK K) (by rfl) T.u_isinstance (by decide +kernel) (pa_cons (pv 0) (pa_cons (z_ty (n := "tuple") T.u_tuple) pa_nil))))) (pw_or (pt_cmpR op_ne (pe_callB (call_lenK K) (by rfl) T.u_len (by decide +kernel) (pa_cons (pv 0) pa_nil)) pe_int (nomark _)) (pw_or1 (pt_not (pt_val (pe_callB (call_isiDK K) (by rfl) T.u_isinstance (by decide +kernel) (pa_cons (pe_ix (ix_tupK K) (pv 0) pe_int (fun _ _ => rfl)) (pa_cons (z_ty (n := "str") T.u_str) pa_nil))))))))) (pss_one (ps_ret pe_bl)) pss_nil)
      (pss_cons (ps_asg (pv 0) (kGT K (pg_tup (n := 2) rfl (pgs_cons (zg 3 sc_is_step.nd) (pgs_cons (zg 4 sc_is_step.nd) pgs_nil)))))
      (pss_cons (ps_if (pt_cmpR (op_in_seqK K) (pv 3) (z_ref T.g_LINE_WORDS) (by rfl)) (pss_one (ps_ret (pe_and (pe_callB (call_isiDK K) (by rfl) T.u_isinstance (by decide +kernel) (pa_cons (pv 4) (pa_cons (z_ty (n := "str") T.u_str) pa_nil))) (pe_and (pe_cmp (pc_din (hu_of hr) (pv 4) (pv 1))) (pe_one (pe_or (pe_cmpR op_ne (pv 3) (z_str T.i_QUIET) (nomark _)) (pe_one (pe_cmpR op_eq (pe_dget (hu_of hr) (pv 1) (pv 4) (fun _ _ => rfl)) (z_str T.i_LEVEL) (nomark _))))))))) pss_nil)
      (pss_cons (ps_if (pt_cmpR op_eq (pv 3) (z_str T.i_LATER) (nomark _)) (pss_one (ps_ret (pe_and (pe_callB (call_isiDK K) (by rfl) T.u_isinstance (by decide +kernel) (pa_cons (pv 4) (pa_cons (z_ty (n := "str") T.u_str) pa_nil))) (pe_one (pe_cmpR (op_in_seqK K) (pv 4) (pv 2) (by rfl)))))) pss_nil)
      (pss_cons (ps_if (pt_cmpR (op_in_seqK K) (pv 3) (z_ref T.g_FLAG_WORDS) (by rfl)) (pss_one (ps_ret (z_call (ok_is_integer T) T.c_is_integer (hr.mono (by decide)) rfl T.g_is_integer passL (pa_cons (pv 4) (pa_cons pe_int (pa_cons (z_int T.i_MAX_FLAG) pa_nil)))))) pss_nil)
      (pss_one (ps_ret (pe_or (pe_and (pe_cmpR op_eq (pv 3) (z_str T.i_RUN) (nomark _)) (pe_one (z_call (ok_is_integer T) T.c_is_integer (hr.mono (by decide)) rfl T.g_is_integer passL (pa_cons (pv 4) (pa_cons pe_int (pa_cons (z_int T.i_MAX_TICKS) pa_nil)))))) (pe_one (pe_and (pe_cmpR op_eq (pv 3) (z_str T.i_BAR) (nomark _)) (pe_one (z_call (ok_is_integer T) T.c_is_integer (hr.mono (by decide)) rfl T.g_is_integer passL (pa_cons (pv 4) (pa_cons pe_int (pa_cons (z_int T.i_MAX_RANK) pa_nil))))))))))))))), ?_⟩)
  · obtain ⟨v, d, dk, kvs, wl, ws, rfl, _⟩ := h
    rfl
  obtain ⟨v, d, dk, kvs, wl, ws, rfl, hd, hK, hkv, hW, hws, q⟩ := h
  show (_ : TS) _ [some v, some (.ref dk), some (.ref wl), none, none] H
  try dsimp only [cxOf]
  have hd0 := hd
  cases hd <;> (walk_at "ri") <;> try exact q
  rename_i a xs ds hT hA
  refine s_lenT hT ?_
  walk_at "ri"
  by_cases h4 : ds.length = 2
  · have hl : xs.length = 2 := hA.len.trans h4
    refine ite_f (by rw [hl]; rfl) ?_
    obtain ⟨da, db, rfl⟩ : ∃ da db, ds = [da, db] := by
      match ds, h4 with
      | [a, b], _ => exact ⟨a, b, rfl⟩
    cases hA with | cons h1 hA => ?_
    cases hA with | cons h2 hA => ?_
    cases hA
    walk_at "ri"
    refine s_ixT hT rfl ?_
    walk_at "ri"
    have h10 := h1
    cases h1 <;> (walk_at "ri") <;> try exact q
    rename_i y w
    refine s_gtup hT rfl ?_
    walk_at "ri"
    have q' : Q (.bl (isStepX kvs ws w db)) H := q
    unfold isStepX at q'
    refine s_in (.inr (T.t_LINE_WORDS H)) rfl rfl ?_
    walk_at "ri"
    refine ite_b (fun n1 => ?_) (fun n1 => ?_)
    · have n1' : inV (.str w) lineWords = true := n1
      have h20 := h2
      cases h2 <;> (walk_at "ri") <;> try (rw [if_pos n1'] at q'; exact q')
      rename_i y
      rw [if_pos n1'] at q'
      dsimp only at q'
      refine s_dS hK ?_
      walk_at "ri"
      refine ite_b (fun n2 => ?_) (fun n2 => ?_)
      · rw [n2, Bool.true_and] at q'
        walk_at "ri"
        refine ite_b (fun n3 => ?_) (fun n3 => ?_)
        · rw [n3] at q'
          exact q'
        · rw [n3, Bool.false_or] at q'
          obtain ⟨u, hu⟩ := Option.isSome_iff_exists.mp n2
          obtain ⟨z, rfl⟩ := hkv _ _ hu
          walk_at "ri"
          refine s_dgS hK hu ?_
          walk_at "ri"
          rw [hu] at q'
          have e : decide ((some (V.str z) : Option V) = some (.str "level")) = decide (V.str z = V.str "level") := by simp
          rw [e] at q'
          exact q'
      · rw [n2, Bool.false_and] at q'
        exact q'
    have n1' : ¬ inV (.str w) lineWords = true := by rw [show inV (.str w) lineWords = false from n1]; decide
    rw [if_neg n1'] at q'
    walk_at "ri"
    refine ite_b (fun n2 => ?_) (fun n2 => ?_)
    · rw [if_pos n2] at q'
      walk_at "ri"
      have h20 := h2
      cases h2 <;> (walk_at "ri") <;> try exact q'
      refine s_in (.inl hW) rfl hws ?_
      exact q'
    rw [if_neg (by rw [n2]; decide)] at q'
    walk_at "ri"
    refine s_in (.inr (T.t_FLAG_WORDS H)) rfl rfl ?_
    walk_at "ri"
    refine ite_b (fun n3 => ?_) (fun n3 => ?_)
    · rw [if_pos (show inV (.str w) flagWords = true from n3)] at q'
      walk_at "ri"
      exact ⟨_, _, _, _, rfl, h2, q'⟩
    rw [if_neg (show ¬ inV (.str w) flagWords = true by rw [show inV (.str w) flagWords = false from n3]; decide)] at q'
    walk_at "ri"
    refine ite_b (fun n4 => ?_) (fun n4 => ?_)
    · rw [n4, Bool.true_and] at q'
      walk_at "ri"
      refine ⟨_, _, _, _, rfl, h2, ?_⟩
      walk_at "ri"
      refine ite_b (fun n5 => ?_) (fun n5 => ?_)
      · rw [n5] at q'
        exact q'
      · rw [n5, Bool.false_or] at q'
        walk_at "ri"
        refine ite_b (fun n6 => ?_) (fun n6 => ?_)
        · rw [n6, Bool.true_and] at q'
          walk_at "ri"
          exact ⟨_, _, _, _, rfl, h2, q'⟩
        · rw [n6, Bool.false_and] at q'
          exact q'
    · rw [n4, Bool.false_and, Bool.false_or] at q'
      walk_at "ri"
      refine ite_b (fun n6 => ?_) (fun n6 => ?_)
      · rw [n6, Bool.true_and] at q'
        walk_at "ri"
        exact ⟨_, _, _, _, rfl, h2, q'⟩
      · rw [n6, Bool.false_and] at q'
        exact q'
  · refine ite_t ?_ ?_
    · have hl : xs.length ≠ 2 := by rw [hA.len]; exact h4
      simp
      omega
    · walk_at "ri"
      rw [isStep_no h4] at q
      exact q
end
set_option maxHeartbeats 1000000
open PySem PySem.Spec PyProof.Rows L2 Z
open He (ga ma)
def spCheckLines (K : Fg) (ok : PyData → Bool) : Sp := fun vs H Q _ => ∃ v ls, ∃ most : Int, vs = [v, .int most] ∧ Dp K H v (.tuple ls) ∧ shorts ls = true ∧ (∀ d ∈ ls, ok d = true) ∧ (ls.map nameD).Nodup ∧ (ls.length : Int) ≤ most ∧ ls.length ≤ 10000 ∧ ∀ H', Same H H' → Q .non H'
section
variable {P : Program} {w : World} {K : Fg} {mg : Str → Option Value} {base : Heap}
theorem ok_check_lines (T : Txt K mg) : FnOk P w K mg base (L2.CX P w) 4 (ga K "check_lines") (fdOf K (ga K "check_lines")) ["lines", "most"] (spCheckLines K isLine) := by
  refine FunD.ok T.F_check_lines sc_check_lines (fun vs H Q E h => ?_) (fun cdv A outer s H vs Q E hr h => ⟨_, PSs.nox (pss_cons (zset 2 sc_check_lines.nd (pe_lst pa_nil))
      (pss_one (ps_for PassesOwn.never rfl (kIET K (pi_enumT (by rfl) T.u_enumerate (pa_cons (pv 0) pa_nil))) (kGT K (pg_tup (n := 2) rfl (pgs_cons (zg 3 sc_check_lines.nd) (pgs_cons (zg 4 sc_check_lines.nd) pgs_nil))))
      (pss_cons (ps_if (PW.pt (pw_or (pt_cmpR op_eq (pv 3) (pv 1) (nomark _)) (pw_or (pt_not (pt_val (z_call (ok_is_line T) T.c_is_line (hr.mono (by decide)) rfl T.g_is_line passL (pa_cons (pv 4) pa_nil)))) (pw_or1 (pt_cmpR (op_in_seqK K) (pe_ix (ix_tupK K) (pv 4) pe_int (fun _ _ => rfl)) (pv 2) (by rfl)))))) (pss_one ps_never) pss_nil)
      (pss_one (ps_expr (kBM K (pe_bm PySem.F.plainAttrs_list PySem.F.slot_list_append PySem.F.type_list_append mt_append (pv 2) (pa_cons (pe_ix (ix_tupK K) (pv 4) pe_int (fun _ _ => rfl)) pa_nil))))))))), ?_⟩)
  · obtain ⟨v, ls, most, rfl, _⟩ := h
    rfl
  obtain ⟨v, ls, most, rfl, hd, hz, hok, hnd, hm, hn, q⟩ := h
  obtain ⟨a, xs, rfl, hT, hA⟩ := hd.tupI
  show (_ : TS) _ [some (.ref a), some (.int most), none, none, none] H
  try dsimp only [cxOf]
  walk_at "ri"
  refine ⟨by decide, ?_⟩
  walk_at "zn"
  rename_i l hl H1 s1 e1
  walk_at "ri"
  refine ⟨_, rfl, a, xs, rfl, s1.sqT hT, for_it walk_enumT (fun i σ H' => ∃ v3 v4, σ = [some (.ref a), some (.int most), some (.ref l), v3, v4] ∧ Same H H' ∧ H' l = some (.lst (((ls.map nameD).take i).map V.str))) ⟨none, none, rfl, s1, e1⟩ (fun i σ H' _ ⟨_, _, _, s2, _⟩ => s2.sqT hT) (fun i x σ H2 H3 hi p y => ?_) (fun σ H' ⟨_, _, _, s2, _⟩ => q _ s2)⟩
  obtain ⟨v3, v4, rfl, s2, e2⟩ := p
  obtain ⟨t, y1, y2, rfl, ht, rfl, h1, h2⟩ := y
  cases h1
  generalize eH : upd H2 t _ = H3
  have s3 := newS ht eH
  have e3 := newE eH
  clear eH
  refine s_gtup (SqT.of e3) rfl ?_
  walk_at "ri"
  have hix : i < ls.length := by rw [← hA.len]; exact hi
  have hx2 : xs[i]? = some y2 := h2
  obtain ⟨d, hdi, hdd⟩ := hA.getv hx2
  have hmem : d ∈ ls := List.mem_of_getElem? hdi
  refine ite_f (decide_eq_false fun z => by cases z; omega) ?_
  walk_at "ri"
  refine ⟨y2, d, rfl, (hdd.same s2).same s3, shorts_at hz hmem, fun H4 s4 => ?_⟩
  rw [hok d hmem]
  walk_at "ri"
  obtain ⟨nm, rest, hd5⟩ := isLine_name2 (hok d hmem)
  subst hd5
  have s24 := (s2.trans s3).trans s4
  obtain ⟨b, zs, rfl, hTb, hAb⟩ := (hdd.same s24).tupI
  cases hAb with | cons b1 hAb => ?_
  cases b1
  refine s_ixT hTb (at_of (j := 0) rfl rfl) ?_
  walk_at "ri"
  have e4 : H4 l = some (.lst (((ls.map nameD).take i).map V.str)) := s4 _ _ (s3 _ _ e2)
  have hnm : (ls.map nameD)[i]? = some nm := by
    rw [List.getElem?_map, hdi]
    rfl
  refine s_in (.inl (SqL.of e4)) rfl flat_strs ?_
  walk_at "ri"
  refine ite_f (by rw [if_neg (by decide), inV_strs]; exact decide_eq_false (nodup_take hnd hnm)) ?_
  walk_at "ri"
  refine s_tyL e4 ?_
  walk_at "ri"
  refine s_ixT hTb (at_of (j := 0) rfl rfl) ?_
  walk_at "ri"
  refine s_append e4 ?_ ?_
  · rw [List.length_map, List.length_take, List.length_map, sizeLine_eq]
    omega
  refine ⟨_, _, rfl, fun c o h => ?_, ?_⟩
  · rw [upd_ne (ne_of_none h hl)]
    exact s24 _ _ h
  · rw [upd_same, List.take_add_one, hnm, List.map_append]
    rfl
theorem ok_check_works (T : Txt K mg) : FnOk P w K mg base (L2.CX P w) 4 (ga K "check_works") (fdOf K (ga K "check_works")) ["works", "most"] (spCheckLines K isWork) := by
  refine FunD.ok T.F_check_works sc_check_works (fun vs H Q E h => ?_) (fun cdv A outer s H vs Q E hr h => ⟨_, PSs.nox (pss_cons (zset 2 sc_check_works.nd (pe_lst pa_nil))
      (pss_one (ps_for PassesOwn.never rfl (kIET K (pi_enumT (by rfl) T.u_enumerate (pa_cons (pv 0) pa_nil))) (kGT K (pg_tup (n := 2) rfl (pgs_cons (zg 3 sc_check_works.nd) (pgs_cons (zg 4 sc_check_works.nd) pgs_nil))))
      (pss_cons (ps_if (PW.pt (pw_or (pt_cmpR op_eq (pv 3) (pv 1) (nomark _)) (pw_or (pt_not (pt_val (z_call (ok_is_work T) T.c_is_work (hr.mono (by decide)) rfl T.g_is_work passL (pa_cons (pv 4) pa_nil)))) (pw_or1 (pt_cmpR (op_in_seqK K) (pe_ix (ix_tupK K) (pv 4) pe_int (fun _ _ => rfl)) (pv 2) (by rfl)))))) (pss_one ps_never) pss_nil)
      (pss_one (ps_expr (kBM K (pe_bm PySem.F.plainAttrs_list PySem.F.slot_list_append PySem.F.type_list_append mt_append (pv 2) (pa_cons (pe_ix (ix_tupK K) (pv 4) pe_int (fun _ _ => rfl)) pa_nil))))))))), ?_⟩)
  · obtain ⟨v, ls, most, rfl, _⟩ := h
    rfl
  obtain ⟨v, ls, most, rfl, hd, hz, hok, hnd, hm, hn, q⟩ := h
  obtain ⟨a, xs, rfl, hT, hA⟩ := hd.tupI
  show (_ : TS) _ [some (.ref a), some (.int most), none, none, none] H
  try dsimp only [cxOf]
  walk_at "ri"
  refine ⟨by decide, ?_⟩
  walk_at "zn"
  rename_i l hl H1 s1 e1
  walk_at "ri"
  refine ⟨_, rfl, a, xs, rfl, s1.sqT hT, for_it walk_enumT (fun i σ H' => ∃ v3 v4, σ = [some (.ref a), some (.int most), some (.ref l), v3, v4] ∧ Same H H' ∧ H' l = some (.lst (((ls.map nameD).take i).map V.str))) ⟨none, none, rfl, s1, e1⟩ (fun i σ H' _ ⟨_, _, _, s2, _⟩ => s2.sqT hT) (fun i x σ H2 H3 hi p y => ?_) (fun σ H' ⟨_, _, _, s2, _⟩ => q _ s2)⟩
  obtain ⟨v3, v4, rfl, s2, e2⟩ := p
  obtain ⟨t, y1, y2, rfl, ht, rfl, h1, h2⟩ := y
  cases h1
  generalize eH : upd H2 t _ = H3
  have s3 := newS ht eH
  have e3 := newE eH
  clear eH
  refine s_gtup (SqT.of e3) rfl ?_
  walk_at "ri"
  have hix : i < ls.length := by rw [← hA.len]; exact hi
  have hx2 : xs[i]? = some y2 := h2
  obtain ⟨d, hdi, hdd⟩ := hA.getv hx2
  have hmem : d ∈ ls := List.mem_of_getElem? hdi
  refine ite_f (decide_eq_false fun z => by cases z; omega) ?_
  walk_at "ri"
  refine ⟨y2, d, rfl, (hdd.same s2).same s3, shorts_at hz hmem, fun H4 s4 => ?_⟩
  rw [hok d hmem]
  walk_at "ri"
  obtain ⟨nm, rest, hd5⟩ := isWork_name2 (hok d hmem)
  subst hd5
  have s24 := (s2.trans s3).trans s4
  obtain ⟨b, zs, rfl, hTb, hAb⟩ := (hdd.same s24).tupI
  cases hAb with | cons b1 hAb => ?_
  cases b1
  refine s_ixT hTb (at_of (j := 0) rfl rfl) ?_
  walk_at "ri"
  have e4 : H4 l = some (.lst (((ls.map nameD).take i).map V.str)) := s4 _ _ (s3 _ _ e2)
  have hnm : (ls.map nameD)[i]? = some nm := by
    rw [List.getElem?_map, hdi]
    rfl
  refine s_in (.inl (SqL.of e4)) rfl flat_strs ?_
  walk_at "ri"
  refine ite_f (by rw [if_neg (by decide), inV_strs]; exact decide_eq_false (nodup_take hnd hnm)) ?_
  walk_at "ri"
  refine s_tyL e4 ?_
  walk_at "ri"
  refine s_ixT hTb (at_of (j := 0) rfl rfl) ?_
  walk_at "ri"
  refine s_append e4 ?_ ?_
  · rw [List.length_map, List.length_take, List.length_map, sizeLine_eq]
    omega
  refine ⟨_, _, rfl, fun c o h => ?_, ?_⟩
  · rw [upd_ne (ne_of_none h hl)]
    exact s24 _ _ h
  · rw [upd_same, List.take_add_one, hnm, List.map_append]
    rfl
end
set_option maxHeartbeats 1000000
open PySem PySem.Spec PyProof.Rows L2 Z
open He (ga ma)
def spSetupInit (K : Fg) : Sp := fun vs H Q _ => ∃ x a b dx P, vs = [.ref x, .ref a, .ref b] ∧ H x = some (.ins (ga K "Setup") dx []) ∧ Dp K H (.ref a) (.tuple (P.ls.map dLn)) ∧ Dp K H (.ref b) (.tuple (P.ws.map dWk)) ∧ P.Ok ∧
  ∀ H' rd wd, H rd = none → H wd = none → rd ≠ wd → Fr [x] H H' → PlanAt K H' ⟨x, rd, wd⟩ P → Q .non H'
section
variable {P : Program} {w : World} {K : Fg} {mg : Str → Option Value} {base : Heap}
theorem ok_Setup_init (T : Txt K mg) : FnOk P w K mg base (L2.CX P w) 5 (ma K (ga K "Setup") "__init__") (fdOf K (ma K (ga K "Setup") "__init__")) ["self", "lines", "works"] (spSetupInit K) := by
  refine FunD.ok T.F_Setup_init sc_Setup_init (fun vs H Q E h => ?_) (fun cdv A outer s H vs Q E hr h => ⟨_, PSs.nox (pss_cons (ps_if (PW.pt (pw_or (pt_not (pt_val (pe_callB (call_isiDK K) (by rfl) T.u_isinstance (by decide +kernel) (pa_cons (pv 1) (pa_cons (z_ty (n := "tuple") T.u_tuple) pa_nil))))) (pw_or1 (pt_cmpR (op_eq0K K hr.units) (pv 1) (pe_tup pa_nil) (nomark _))))) (pss_one ps_never) pss_nil)
      (pss_cons (ps_expr (z_call (ok_check_lines T) T.c_check_lines (hr.mono (by decide)) rfl T.g_check_lines passL (pa_cons (pv 1) (pa_cons (ClX.pe_cval (z_ref T.g_Setup)) pa_nil))))
      (pss_cons (ps_if (pt_not (pt_val (pe_callB (call_isiDK K) (by rfl) T.u_isinstance (by decide +kernel) (pa_cons (pv 2) (pa_cons (z_ty (n := "tuple") T.u_tuple) pa_nil))))) (pss_one ps_never) pss_nil)
      (pss_cons (ps_expr (z_call (ok_check_works T) T.c_check_works (hr.mono (by decide)) rfl T.g_check_works passL (pa_cons (pv 2) (pa_cons (ClX.pe_cval (z_ref T.g_Setup)) pa_nil))))
      (pss_cons (zset 3 sc_Setup_init.nd (pe_dc (own := [("line", 6)]) rfl sc_Setup_init.nd (kIT K (pi_tup (pv 1))) (blkOk_by (own := [("line", 6)]) (N := n_Setup_init) (sc := defScope s_Setup_init) (by decide +kernel)) (fun _ _ _ _ _ => (zg 6 sc_Setup_init.nd)) (fun _ _ _ _ _ => pts_nil) (fun _ _ _ _ _ => (pe_ix (ix_tupK K) (pv 6) pe_int (fun _ _ => rfl))) (fun _ _ _ _ _ => (pe_ix (ix_tupK K) (pv 6) pe_int (fun _ _ => rfl)))))
      (pss_cons (zset 4 sc_Setup_init.nd (pe_lc (own := [("work", 7)]) rfl sc_Setup_init.nd (kIT K (pi_tup (pv 2))) (blkOk_by (own := [("work", 7)]) (N := n_Setup_init) (sc := defScope s_Setup_init) (by decide +kernel)) (fun _ _ _ _ _ => (zg 7 sc_Setup_init.nd)) (fun _ _ _ _ _ => pts_nil) (fun _ _ _ _ _ => (pe_ix (ix_tupK K) (pv 7) pe_int (fun _ _ => rfl)))))
      (pss_cons (ps_for PassesOwn.never rfl (kIET K (pi_enumT (by rfl) T.u_enumerate (pa_cons (pv 1) pa_nil))) (kGT K (pg_tup (n := 2) rfl (pgs_cons (zg 5 sc_Setup_init.nd) (pgs_cons (zg 6 sc_Setup_init.nd) pgs_nil))))
      (pss_one (ps_if (pt_not (pt_val (pe_callB (cr_allK K rfl) (by rfl) T.u_all (by decide +kernel) (pa_cons (pe_lc (own := [("step", 8)]) rfl sc_Setup_init.nd (kIT K (pi_tup (pe_ix (ix_tupK K) (pv 6) pe_int (fun _ _ => rfl)))) (blkOk_by (own := [("step", 8)]) (N := n_Setup_init) (sc := defScope s_Setup_init) (by decide +kernel)) (fun _ _ _ _ _ => (zg 8 sc_Setup_init.nd)) (fun _ _ _ _ _ => pts_nil) (fun _ _ _ _ _ => (z_call (ok_is_step T) T.c_is_step (hr.mono (by decide)) rfl T.g_is_step passL (pa_cons (pv 8) (pa_cons (pv 3) (pa_cons (pv 4) pa_nil)))))) pa_nil)))) (pss_one ps_never) pss_nil)))
      (pss_cons (ps_fld (pv 0) (pv 1) rfl)
      (pss_cons (ps_fld (pv 0) (pv 2) rfl)
      (pss_cons (ps_fld (pv 0) (pe_dc (own := [("line", 6)]) rfl sc_Setup_init.nd (kIT K (pi_tup (pv 1))) (blkOk_by (own := [("line", 6)]) (N := n_Setup_init) (sc := defScope s_Setup_init) (by decide +kernel)) (fun _ _ _ _ _ => (zg 6 sc_Setup_init.nd)) (fun _ _ _ _ _ => pts_nil) (fun _ _ _ _ _ => (pe_ix (ix_tupK K) (pv 6) pe_int (fun _ _ => rfl))) (fun _ _ _ _ _ => (pv 6))) rfl)
      (pss_one (ps_fld (pv 0) (pe_dc (own := [("work", 7)]) rfl sc_Setup_init.nd (kIT K (pi_tup (pv 2))) (blkOk_by (own := [("work", 7)]) (N := n_Setup_init) (sc := defScope s_Setup_init) (by decide +kernel)) (fun _ _ _ _ _ => (zg 7 sc_Setup_init.nd)) (fun _ _ _ _ _ => pts_nil) (fun _ _ _ _ _ => (pe_ix (ix_tupK K) (pv 7) pe_int (fun _ _ => rfl))) (fun _ _ _ _ _ => (pv 7))) rfl)))))))))))), ?_⟩)
  · obtain ⟨x, a, b, dx, P, rfl, _⟩ := h
    rfl
  obtain ⟨x, a, b, dx, P, rfl, hx, hda, hdb, ok, q⟩ := h
  show (_ : TS) _ [some (.ref x), some (.ref a), some (.ref b), none, none, none, none, none, none] H
  try dsimp only [cxOf]
  walk_at "ri"
  refine ⟨by decide, ?_⟩
  walk_at "zn"
  rename_i p hp H1 s1 e1
  obtain ⟨_, xs, e, hT, hA⟩ := hda.tupI
  cases e
  obtain ⟨_, ys, e, hTb, hAb⟩ := hdb.tupI
  cases e
  have hxl : xs.length = P.ls.length := by rw [hA.len, List.length_map]
  refine s_eq0T (s1.sqT hT) (SqT.of e1) ?_
  walk_at "ri"
  refine ite_f ?_ ?_
  · cases xs with
    | nil => exact absurd (List.length_eq_zero_iff.mp hxl.symm) ok.ne
    | cons _ _ => rfl
  walk_at "ri"
  refine s_cval T.k_Setup_MAX_LINES ?_
  walk_at "ri"
  have hnm : (P.ls.map dLn).map nameD = P.names := by rw [List.map_map]; rfl
  have hnw : (P.ws.map dWk).map nameD = P.wnames := by rw [List.map_map]; rfl
  have l12 := ok.l12
  have w8 := ok.w8
  refine ⟨_, P.ls.map dLn, 12, rfl, hda.same s1, shorts_map ok.shl, fun d hd => ?_, by rw [hnm]; exact ok.lnd, by rw [List.length_map]; omega, by rw [List.length_map]; omega, fun H2 s2 => ?_⟩
  · obtain ⟨l, hl, rfl⟩ := List.mem_map.mp hd
    exact ok.lok l hl
  have s12 := s1.trans s2
  have hdb2 := hdb.same s12
  walk_at "ri"
  refine s_cval T.k_Setup_MAX_WORKS ?_
  walk_at "ri"
  refine ⟨_, P.ws.map dWk, 8, rfl, hdb.same s12, shorts_map fun w hw => (ok.shw w hw).1, fun d hd => ?_, by rw [hnw]; exact ok.wnd, by rw [List.length_map]; omega, by rw [List.length_map]; omega, fun H3 s3 => ?_⟩
  · obtain ⟨l, hl, rfl⟩ := List.mem_map.mp hd
    exact ok.wok l hl
  walk_at "ri"
  have s13 := s12.trans s3
  have hkk : (P.ls.map fun l => (Sum.inr l.nm : Key)) = P.names.map Sum.inr := by rw [Pl.names, List.map_map]; rfl
  have hkn : (P.ls.map fun l => (Sum.inr l.nm : Key)).Nodup := by
    rw [hkk]
    exact List.Pairwise.map Sum.inr (fun a b h e => h (Sum.inr.inj e)) ok.lnd
  have hkw : (P.ws.map fun l => (Sum.inr l.nm : Key)).Nodup := by
    rw [show (P.ws.map fun l => (Sum.inr l.nm : Key)) = P.wnames.map Sum.inr by rw [Pl.wnames, List.map_map]; rfl]
    exact List.Pairwise.map Sum.inr (fun a b h e => h (Sum.inr.inj e)) ok.wnd
  refine dcT_d (l := P.ls) (da := dLn) (s13.sqT hT) (hA.same s13) (fun l => .inr l.nm) (P.ls.map fun l => .str l.kd) (by rw [List.length_map]) hkn (by omega) (fun i l y v H4 Z N hl hi hy hv s4 hd z => ?_) (fun kd H4 hkd s4 e4 => ?_)
  · obtain ⟨t, zs, rfl, ht, ha⟩ := hd.tupI
    walk_at "ri"
    refine ⟨rfl, ?_⟩
    walk_at "ri"
    cases ha with | cons h1 ha => ?_
    cases ha with | cons h2 ha => ?_
    cases h1
    cases h2
    refine s_ixT ht (at_of (j := 0) rfl rfl) ?_
    walk_at "ri"
    refine s_ixT ht (at_of (j := 1) rfl rfl) ?_
    rw [List.getElem?_map, hi] at hv
    cases hv
    exact z _ (Same.refl _)
  have hkz : (P.ls.map fun l => (Sum.inr l.nm : Key)).zip (P.ls.map fun l => V.str l.kd) = P.kinds := by
    rw [List.zip_map']
    rfl
  rw [hkz] at e4
  walk_at "ri"
  have s14 := s13.trans s4
  refine lcT_d (l := P.ws) (da := dWk) (s14.sqT hTb) (hAb.same s14) (fun _ => true) (fun w => .str w.nm) (by omega) (fun _ _ => rfl) (fun l v H5 Yes No hl s5 hd yes no => ?_) (fun nl H5 ns hnl s5 e5 a5 => ?_)
  · obtain ⟨t, zs, rfl, ht, ha⟩ := hd.tupI
    walk_at "ri"
    refine ⟨rfl, ?_⟩
    walk_at "ri"
    cases ha with | cons h1 ha => ?_
    cases h1
    refine s_ixT ht (at_of (j := 0) rfl rfl) ?_
    exact yes rfl _ _ (Same.refl _) (.str _)
  rw [List.filter_eq_self.mpr (fun _ _ => rfl), map_str] at a5
  have e5' := dp_strs a5
  subst e5'
  have s15 := s14.trans s5
  rw [show (P.ws.map fun w => w.nm) = P.wnames from rfl] at e5
  have hkv : strVals P.kinds := fun k v h => by
    unfold valV at h
    obtain ⟨kv, h1, h2⟩ := Option.map_eq_some_iff.mp h
    obtain ⟨l, hl, rfl⟩ := List.mem_map.mp (List.mem_of_find?_eq_some h1)
    exact ⟨l.kd, h2.symm⟩
  walk_at "ri"
  refine ⟨_, rfl, a, xs, rfl, s15.sqT hT, for_it walk_enumT (fun i σ H' => ∃ v5 v6, σ = [some (.ref x), some (.ref a), some (.ref b), some (.ref kd), some (.ref nl), v5, v6, none, none] ∧ Same H5 H') ⟨none, none, rfl, Same.refl _⟩ (fun i σ H' _ ⟨_, _, _, s6⟩ => s6.sqT (s15.sqT hT)) (fun i x' σ H6 H7 hi p y => ?_) (fun σ H6 ⟨v5, v6, hσ, s6⟩ => ?_)⟩
  · obtain ⟨v5, v6, rfl, s6⟩ := p
    obtain ⟨t, y1, y2, rfl, ht, rfl, h1, h2⟩ := y
    cases h1
    generalize eH : upd H6 t _ = H7
    have s7 := newS ht eH
    have e7 := newE eH
    clear eH
    refine s_gtup (SqT.of e7) rfl ?_
    walk_at "ri"
    have s57 := s6.trans s7
    have s17 := s15.trans s57
    obtain ⟨d, hdi, hdd⟩ := hA.getv h2
    rw [List.getElem?_map] at hdi
    obtain ⟨l, hl, rfl⟩ := Option.map_eq_some_iff.mp hdi
    obtain ⟨c, zs, rfl, hTc, hAc⟩ := (hdd.same s17).tupI
    cases hAc with | cons h1 hAc => ?_
    cases hAc with | cons h2 hAc => ?_
    cases hAc with | cons h3 hAc => ?_
    cases hAc with | cons h4 hAc => ?_
    cases hAc
    refine s_ixT hTc (at_of (j := 3) rfl rfl) ?_
    obtain ⟨st, ss, rfl, hTs, hAs⟩ := h4.tupI
    have hlm := List.mem_of_getElem? hl
    have hst : l.st.length ≤ 8 := by
      have hk := ok.lok l hlm
      simp only [isLine, dLn, isSteps, Bool.and_eq_true, decide_eq_true_eq, List.length_map] at hk
      omega
    refine lcT_d (l := l.st) (da := dSt) hTs hAs (fun _ => true) (fun s => .bool (isStep P.kinds (P.wnames.map V.str) (dSt s))) (by omega) (fun _ _ => rfl) (fun s v H8 Yes No hs s8 hd yes no => ?_) (fun bl H8 bs hbl s8 e8 a8 => ?_)
    · walk_at "ri"
      refine ⟨rfl, ?_⟩
      walk_at "ri"
      refine ⟨_, _, _, _, _, _, rfl, hd, s8 _ _ (s57 _ _ (s5 _ _ e4)), hkv, SqL.of (s8 _ _ (s57 _ _ e5)), flat_strs, ?_⟩
      exact yes rfl _ _ (Same.refl _) (.bl _)
    rw [List.filter_eq_self.mpr (fun _ _ => rfl), map_bool] at a8
    have e8' := dp_bools a8
    subst e8'
    walk_at "ri"
    refine s_all (SqL.of e8) ?_
    walk_at "ri"
    refine ite_f ?_ ?_
    · rw [List.all_map]
      exact congrArg Bool.not (List.all_eq_true.mpr fun s hs => ok.sok l hlm s hs)
    walk_at "ri"
    exact ⟨_, _, rfl, s57.trans s8⟩
  subst hσ
  have s16 := s15.trans s6
  walk_at "ri"
  refine s_fldput (s16 _ _ hx) T.cl_Setup T.n_Setup_line_rows (of_decide_eq_true (by kernel_rfl)) ?_
  walk_at "ri"
  refine s_fldput upd_same T.cl_Setup T.n_Setup_work_rows (of_decide_eq_true (by kernel_rfl)) ?_
  generalize eH : upd (upd H6 x _) x _ = H8
  have e8 : H8 x = some (.ins (ga K "Setup") dx (putF "work_rows" (.ref b) (putF "line_rows" (.ref a) []))) := by rw [← eH, upd_same]
  have f8 : Fr [x] H H8 := by
    rw [← eH]
    exact s16.fr.trans ((Fr.upd (by simp) (s16 _ _ hx) rfl).trans (Fr.upd (by simp) upd_same rfl))
  clear eH
  have hrow : ∀ {H9 : Hp}, Fr [x] H H9 → SqT K H9 a xs ∧ DpAll K H9 xs (P.ls.map dLn) ∧ SqT K H9 b ys ∧ DpAll K H9 ys (P.ws.map dWk) := fun f => ⟨f.tk.sqT hT, hA.tk f.tk (tupds_map tupd_dLn _), f.tk.sqT hTb, hAb.tk f.tk (tupds_map tupd_dWk _)⟩
  walk_at "ri"
  refine dcT_d (l := P.ls) (da := dLn) (hrow f8).1 (hrow f8).2.1 (fun l => .inr l.nm) xs hxl.symm hkn (by omega) (fun i l y v H9 Z N hl hi hy hv s9 hd z => ?_) (fun rd H9 hrd s9 e9 => ?_)
  · obtain ⟨t, zs, rfl, ht, ha⟩ := hd.tupI
    walk_at "ri"
    refine ⟨rfl, ?_⟩
    walk_at "ri"
    cases ha with | cons h1 ha => ?_
    cases h1
    refine s_ixT ht (at_of (j := 0) rfl rfl) ?_
    walk_at "ri"
    rw [hy] at hv
    cases hv
    exact z _ (Same.refl _)
  walk_at "ri"
  refine s_fldput (s9 _ _ e8) T.cl_Setup T.n_Setup_rows_by_name (of_decide_eq_true (by kernel_rfl)) ?_
  generalize eH : upd H9 x _ = H10
  have e10 : H10 x = some (.ins (ga K "Setup") dx (putF "rows_by_name" (.ref rd) (putF "work_rows" (.ref b) (putF "line_rows" (.ref a) [])))) := by rw [← eH, upd_same]
  have f9 : Fr [x] H9 H10 := by rw [← eH]; exact Fr.upd (by simp) (s9 _ _ e8) rfl
  have f10 : Fr [x] H H10 := (f8.trans s9.fr).trans f9
  have hxrd : rd ≠ x := fun z => by rw [z, e8] at hrd; cases hrd
  have d10 : H10 rd = some (.dK ((P.ls.map fun l => (Sum.inr l.nm : Key)).zip xs)) := f9.at e9 (by simp [hxrd])
  clear eH
  have hyl : ys.length = P.ws.length := by rw [hAb.len, List.length_map]
  walk_at "ri"
  refine dcT_d (l := P.ws) (da := dWk) (hrow f10).2.2.1 (hrow f10).2.2.2 (fun l => .inr l.nm) ys hyl.symm hkw (by omega) (fun i l y v H9 Z N hl hi hy hv s9 hd z => ?_) (fun wd H11 hwd s11 e11 => ?_)
  · obtain ⟨t, zs, rfl, ht, ha⟩ := hd.tupI
    walk_at "ri"
    refine ⟨rfl, ?_⟩
    walk_at "ri"
    cases ha with | cons h1 ha => ?_
    cases h1
    refine s_ixT ht (at_of (j := 0) rfl rfl) ?_
    walk_at "ri"
    rw [hy] at hv
    cases hv
    exact z _ (Same.refl _)
  walk_at "ri"
  refine s_fldput (s11 _ _ e10) T.cl_Setup T.n_Setup_works_by_name (of_decide_eq_true (by kernel_rfl)) ?_
  generalize eH : upd H11 x _ = H12
  have f12 : Fr [x] H11 H12 := by rw [← eH]; exact Fr.upd (by simp) (s11 _ _ e10) rfl
  have e12 : H12 x = some (.ins (ga K "Setup") dx (planF a b rd wd)) := by
    rw [← eH, upd_same]
    kernel_rfl
  clear eH
  have f := (f10.trans s11.fr).trans f12
  have hxwd : wd ≠ x := fun z => by rw [z, e10] at hwd; cases hwd
  have new : ∀ {a : Addr} {H9 : Hp}, Fr [x] H H9 → a ≠ x → H9 a = none → H a = none := fun {a H9} f n h => by
    cases e : H a with
    | none => rfl
    | some o => rw [f.at e (by simp [n])] at h; cases h
  refine q H12 rd wd (new f8 hxrd hrd) (new f10 hxwd hwd) (fun z => by rw [← z, d10] at hwd; cases hwd) f ⟨ok, ⟨dx, a, b, e12, hda.tk f.tk (tupds_map tupd_dLn _), hdb.tk f.tk (tupds_map tupd_dWk _)⟩, dictOf_zip (nm := Ln.nm) (f12.at (s11 _ _ d10) (by simp [hxrd])) ok.lnd (hrow f).2.1, dictOf_zip (nm := Wk.nm) (f12.at e11 (by simp [hxwd])) ok.wnd (hrow f).2.2.2⟩
end
set_option maxHeartbeats 1000000
open PySem PySem.Spec PyProof.Rows L2 Z
open He (ga ma)
def nameIn (P : Pl) : PyData → Bool
  | .str z => decide (z ∈ P.names)
  | _ => false
def spContains (K : Fg) : Sp := fun vs H Q _ => ∃ D v d P, vs = [.ref D.p, v] ∧ PlanAt K H D P ∧ Dp K H v d ∧ Q (.bl (nameIn P d)) H
def spCheckLine (K : Fg) : Sp := fun vs H Q _ => ∃ D z P, vs = [.ref D.p, .str z] ∧ PlanAt K H D P ∧ z ∈ P.names ∧ Q .non H
def spGetItem (K : Fg) : Sp := fun vs H Q _ => ∃ D z P, vs = [.ref D.p, .str z] ∧ PlanAt K H D P ∧ z ∈ P.names ∧ ∀ v, Dp K H v (dLn (P.ln z)) → Q v H
section
variable {P : Program} {w : World} {K : Fg} {mg : Str → Option Value} {base : Heap}
theorem ok_Setup_contains (T : Txt K mg) : FnOk P w K mg base (L2.CX P w) 1 (ma K (ga K "Setup") "__contains__") (fdOf K (ma K (ga K "Setup") "__contains__")) ["self", "name"] (spContains K) := by
  refine FunD.ok T.F_Setup_contains sc_Setup_contains (fun vs H Q E h => ?_) (fun cdv A outer s H vs Q E hr h => ⟨_, PSs.nox (pss_one (ps_ret (pe_and (pe_callB (call_isiDK K) (by rfl) T.u_isinstance (by decide +kernel) (pa_cons (pv 1) (pa_cons (z_ty (n := "str") T.u_str) pa_nil))) (pe_one (pe_cmp (pc_din (hu_of hr) (pv 1) (kFld K (pe_fld (pv 0) rfl)))))))), ?_⟩)
  · obtain ⟨D, v, d, P, rfl, _⟩ := h
    rfl
  obtain ⟨D, v, d, P, rfl, pl, hd, q⟩ := h
  show (_ : TS) _ [some (.ref D.p), some v] H
  try dsimp only [cxOf]
  have hd0 := hd
  obtain ⟨dx, a, b, hp, _⟩ := pl.ins
  obtain ⟨kr, hrd, hk, _⟩ := pl.rows.at_
  cases hd <;> (walk_at "ri") <;> try exact q
  refine s_fldat hp T.cl_Setup T.n_Setup_rows_by_name plF_rn ?_
  refine s_dS hrd ?_
  rw [hk]
  exact q
theorem ok_Setup_check_line (T : Txt K mg) : FnOk P w K mg base (L2.CX P w) 2 (ma K (ga K "Setup") "check_line") (fdOf K (ma K (ga K "Setup") "check_line")) ["self", "name"] (spCheckLine K) := by
  refine FunD.ok T.F_Setup_check_line sc_Setup_check_line (fun vs H Q E h => ?_) (fun cdv A outer s H vs Q E hr h => ⟨_, PSs.nox (pss_one (ps_if (pt_cmpR (op_notInO T.m_Setup_contains.at_ T.m_Setup_contains.fn (ok_Setup_contains T) T.c_Setup_contains (hr.mono (by decide)) passL) (pv 1) (pv 0) (by rfl)) (pss_one ps_never) pss_nil)), ?_⟩)
  · obtain ⟨D, z, P, rfl, _⟩ := h
    rfl
  obtain ⟨D, z, P, rfl, pl, hz, q⟩ := h
  show (_ : TS) _ [some (.ref D.p), some (.str z)] H
  try dsimp only [cxOf]
  walk_at "ri"
  obtain ⟨dx, a, b, hp, _⟩ := pl.ins
  refine ⟨_, _, _, rfl, hp, D, _, _, P, rfl, pl, .str z, ?_⟩
  walk_at "ri"
  refine ite_f (by rw [if_pos rfl]; exact congrArg Bool.not (decide_eq_true hz)) ?_
  walk_at "ri"
  exact q
theorem ok_Setup_getitem (T : Txt K mg) : FnOk P w K mg base (L2.CX P w) 3 (ma K (ga K "Setup") "__getitem__") (fdOf K (ma K (ga K "Setup") "__getitem__")) ["self", "name"] (spGetItem K) := by
  refine FunD.ok T.F_Setup_getitem sc_Setup_getitem (fun vs H Q E h => ?_) (fun cdv A outer s H vs Q E hr h => ⟨_, PSs.nox (pss_cons (ps_expr (z_meth (pv 0) T.cl_Setup T.m_Setup_check_line (ok_Setup_check_line T) T.c_Setup_check_line (hr.mono (by decide)) passL (pa_cons (pv 1) pa_nil)))
      (pss_one (ps_ret (pe_dget (hu_of hr) (kFld K (pe_fld (pv 0) rfl)) (pv 1) (fun _ _ => rfl))))), ?_⟩)
  · obtain ⟨D, z, P, rfl, _⟩ := h
    rfl
  obtain ⟨D, z, P, rfl, pl, hz, q⟩ := h
  show (_ : TS) _ [some (.ref D.p), some (.str z)] H
  try dsimp only [cxOf]
  obtain ⟨dx, a, b, hp, _⟩ := pl.ins
  obtain ⟨kr, hrd, hk, hv⟩ := pl.rows.at_
  obtain ⟨hl, en⟩ := pl.ok.ln_mem hz
  obtain ⟨v, h1, h2⟩ := hv _ hl
  rw [en] at h1
  walk_at "ri"
  refine s_methat hp (by kernel_rfl) ?_
  walk_at "ri"
  refine ⟨D, z, P, rfl, pl, hz, ?_⟩
  walk_at "ri"
  refine s_fldat hp T.cl_Setup T.n_Setup_rows_by_name plF_rn ?_
  walk_at "ri"
  refine s_dgS hrd h1 ?_
  exact q v h2
end
end T
set_option maxHeartbeats 4000000
namespace T
open PySem PySem.Spec PyProof.Rows L2 Z
open He (ga ma)
local macro_rules | `(tactic| walk_at "z") => `(tactic| with_reducible first | refine ⟨_, _, rfl, rfl, ?_⟩ | refine ⟨_, rfl, ?_⟩)
local macro_rules | `(tactic| walk_at "z") => `(tactic| ((with_reducible refine s_isi (d := ?d1) ?h1 ?h2 ?q1); (case h1 => first | assumption | constructor); (case h2 => decide)))
local macro_rules | `(tactic| walk_at "z") => `(tactic| with_reducible first | refine s_tup ?_ | refine s_lst ?_)
local macro_rules | `(tactic| walk_at "z") => `(tactic| ((with_reducible refine s_ne ?h1 ?q1); (case h1 => exact rfl)))
local macro_rules | `(tactic| walk_at "z") => `(tactic| ((with_reducible refine s_eq ?h1 ?q1); (case h1 => exact rfl)))
local macro_rules | `(tactic| walk_at "z") => `(tactic| with_reducible first | refine s_dcT ?_ | refine s_cvalg ?_ | refine s_fldS ?_ | refine s_I0 ?_ | refine s_U ?_)
local macro_rules | `(tactic| walk_at "z") => `(tactic| with_reducible first | refine s_make ?_ | refine s_sl ?_ | refine s_nop ?_ | refine s_part ?_ | refine s_lcE ?_ | refine s_lc ?_)
local macro_rules | `(tactic| walk_at "z") => `(tactic| with_reducible first | refine s_for ?_ | refine s_rng1 ?_ | refine s_iT ?_ | refine s_iL ?_ | refine Or.inl (Exists.intro _ (And.intro rfl ?_)) | refine Or.inr (Exists.intro _ (And.intro rfl ?_)))
local macro_rules | `(tactic| walk_at "z") => `(tactic| with_reducible first | refine s_tupRg ?_ | refine s_lstRg ?_ | refine s_rg1 ?_ | refine s_items ?_ | refine s_get2 ?_ | refine s_callI ?_)
local macro_rules | `(tactic| walk_at "z") => `(tactic| with_reducible first | refine s_fldaug ?_ | refine s_add ?_ | refine s_ipI ?_ | refine s_ixO ?_ | refine s_lcL ?_ | refine s_dputg ?_)
local macro_rules | `(tactic| walk_at "z") => `(tactic| with_reducible first | refine s_daugg ?_ | refine s_disp ?_ | refine s_pcons ?_ | refine s_pnil ?_ | refine s_gsub ?_ | refine s_augS ?_)
local macro_rules | `(tactic| walk_at "z") => `(tactic| with_reducible first | refine s_bm ?_ | refine s_bm0 ?_ | refine s_fldg ?_ | refine s_meth ?_ | refine s_prop ?_ | refine s_lcT ?_)
local macro_rules | `(tactic| walk_at "z") => `(tactic| with_reducible first | refine s_yes ?_ | refine s_gcons ?_ | refine s_gnil ?_ | refine s_din ?_ | refine s_dnin ?_ | refine s_dget ?_)
local macro_rules | `(tactic| walk_at "z") => `(tactic| with_reducible first | refine s_orV ?_ | refine s_notV ?_ | refine s_if ?_ | refine s_chain ?_ | refine s_call ?_ | refine s_bl ?_)
local macro_rules | `(tactic| walk_at "z") => `(tactic| with_reducible first | refine s_test ?_ | refine s_B ?_ | refine s_and ?_ | refine s_or ?_ | refine s_not ?_ | refine s_andV ?_)
local macro_rules | `(tactic| walk_at "z") => `(tactic| with_reducible first | refine s_op ?_ | refine s_un ?_ | refine s_cb ?_ | refine s_cons ?_ | refine s_nil ?_ | refine s_star ?_)
local macro_rules | `(tactic| walk_at "z") => `(tactic| ((with_reducible refine s_var (v := ?v1) ?h1 ?q1); (case h1 => exact rfl)))
local macro_rules | `(tactic| walk_at "z") => `(tactic| with_reducible refine s_c ?_)
local macro_rules | `(tactic| walk_at "z") => `(tactic| with_reducible first | refine s_drop ?_ | refine s_next ?_ | refine s_cont ?_ | refine s_break ?_ | refine s_par ?_ | refine s_par2 ?_)
local macro_rules | `(tactic| walk_at "z") => `(tactic| with_reducible first | refine s_seq ?_ | refine s_asg ?_ | refine s_gname ?_ | refine s_ret ?_ | refine s_retN ?_ | refine s_ifS ?_)
local macro_rules | `(tactic| walk_at "zi") => `(tactic| ((with_reducible refine ite_t ?h1 ?q1); (case h1 => rfl)))
local macro_rules | `(tactic| walk_at "zi") => `(tactic| ((with_reducible refine ite_f ?h1 ?q1); (case h1 => rfl)))
local macro_rules | `(tactic| walk_at "zi") => `(tactic| walk_at "z")
local macro_rules | `(tactic| walk_at "zn") => `(tactic| (intro p hp; generalize eH : upd _ p _ = H2; have s2 := newS hp eH; have e2 := newE eH; clear eH))
local macro_rules | `(tactic| walk_at "zt") => `(tactic| ((with_reducible refine And.intro ?h1 ?_); (case h1 => exact Nat.le_of_ble_eq_true rfl); intro p hp; generalize eH : upd _ p _ = H2; have s2 := newS hp eH; have e2 := newE eH; clear eH))
local macro_rules | `(tactic| walk_at "hl") => `(tactic| ((with_reducible apply ev_same); (· assumption); · walk_at "hl"))
local macro_rules | `(tactic| walk_at "hl") => `(tactic| ((with_reducible apply mh_same); (· assumption); · walk_at "hl"))
local macro_rules | `(tactic| walk_at "hl") => `(tactic| ((with_reducible apply hs_same); (· assumption); · walk_at "hl"))
local macro_rules | `(tactic| walk_at "hl") => `(tactic| ((with_reducible apply mst_same); (· assumption); · walk_at "hl"))
local macro_rules | `(tactic| walk_at "hl") => `(tactic| ((with_reducible apply plm_same); (· assumption); · walk_at "hl"))
local macro_rules | `(tactic| walk_at "hl") => `(tactic| ((with_reducible apply md_same); (· assumption); · walk_at "hl"))
local macro_rules | `(tactic| walk_at "hl") => `(tactic| ((with_reducible apply row_same); (· assumption); · walk_at "hl"))
local macro_rules | `(tactic| walk_at "hl") => `(tactic| ((with_reducible apply sg_same); (· assumption); · walk_at "hl"))
local macro_rules | `(tactic| walk_at "hl") => `(tactic| ((with_reducible apply cst_same); (· assumption); · walk_at "hl"))
local macro_rules | `(tactic| walk_at "hl") => `(tactic| ((with_reducible apply co_same); (· assumption); · walk_at "hl"))
local macro_rules | `(tactic| walk_at "hl") => `(tactic| ((with_reducible apply bd_same); (· assumption); · walk_at "hl"))
local macro_rules | `(tactic| walk_at "hl") => `(tactic| ((with_reducible apply pl_same); (· assumption); · walk_at "hl"))
local macro_rules | `(tactic| walk_at "hl") => `(tactic| ((with_reducible apply dpA_same); (· assumption); · walk_at "hl"))
local macro_rules | `(tactic| walk_at "hl") => `(tactic| ((with_reducible apply dp_same); (· assumption); · walk_at "hl"))
local macro_rules | `(tactic| walk_at "hl") => `(tactic| ((with_reducible apply SqL.of); · walk_at "hl"))
local macro_rules | `(tactic| walk_at "hl") => `(tactic| ((with_reducible apply SqT.of); · walk_at "hl"))
local macro_rules | `(tactic| walk_at "hl") => `(tactic| ((with_reducible apply sqL_same); (· assumption); · walk_at "hl"))
local macro_rules | `(tactic| walk_at "hl") => `(tactic| ((with_reducible apply sqT_same); (· assumption); · walk_at "hl"))
local macro_rules | `(tactic| walk_at "hl") => `(tactic| ((with_reducible apply at_same); (· assumption); · walk_at "hl"))
local macro_rules | `(tactic| walk_at "hl") => `(tactic| assumption)
local macro_rules | `(tactic| walk_at "lk") => `(tactic| with_reducible first | exact coF_fr | exact coF_lim | exact coF_jo)
local macro_rules | `(tactic| walk_at "lk") => `(tactic| with_reducible first | exact bdF_hi | exact bdF_ta | exact bdF_ra | exact bdF_jo | exact sgF_plan | exact sgF_board | exact sgF_core | exact sgF_time | exact sgF_sums | exact coF_plan)
local macro_rules | `(tactic| walk_at "lk") => `(tactic| with_reducible first | exact hsF_mo | exact hsF_tu | exact hsF_rc | exact hsF_ho | exact hsF_bs | exact hsF_ds | exact hsF_ev | exact bdF_plan | exact bdF_sh | exact bdF_wa)
local macro_rules | `(tactic| walk_at "lk") => `(tactic| with_reducible first | exact bdF_re | exact bdF_wt | exact hsF_plan | exact hsF_size | exact hsF_rr | exact hsF_sr | exact hsF_wy | exact hsF_li | exact hsF_bd | exact hsF_co)
local macro_rules | `(tactic| walk_at "lk") => `(tactic| with_reducible first | exact wvF_plan | exact wvF_size | exact plF_lr | exact plF_wr | exact plF_rn | exact plF_wn | exact bdF_tm | exact bdF_hr | exact bdF_sp | exact bdF_ru)
local macro_rules | `(tactic| walk_at "mk") => `(tactic| with_reducible first | exact mk_bar | exact mk_jo | exact mk_now | exact mk_lg | exact mk_sp | exact mk_jn | exact mk_ln | exact mk_wk)
local macro_rules | `(tactic| walk_at "mk") => `(tactic| with_reducible first | exact mh_times | exact mh_done | exact mc_ca | exact mc_bar | exact mc_jo | exact mk_ca | exact mk_ed | exact mk_hi | exact mk_up | exact mk_sh)
local macro_rules | `(tactic| walk_at "mk") => `(tactic| with_reducible first | exact mh_fates | exact mh_lines | exact mh_works | exact mh_routes | exact mh_storms | exact mh_spots | exact mh_turns | exact mh_holds | exact mh_last | exact mh_begun)
local macro_rules | `(tactic| walk_at "mk") => `(tactic| with_reducible first | exact mh_modes | exact mh_cores | exact mh_now | exact mh_order | exact mh_shut | exact mh_wanted | exact mh_high | exact mh_flags | exact mh_log | exact mh_rings)
local macro_rules | `(tactic| walk_at "cl") => `(tactic| with_reducible first | exact Txt.cl_Setup (by assumption) | exact Txt.cl_Weaver (by assumption))
local macro_rules | `(tactic| walk_at "na") => `(tactic| with_reducible first | exact Txt.n_Setup_line_rows (by assumption) | exact Txt.n_Setup_work_rows (by assumption) | exact Txt.n_Setup_rows_by_name (by assumption) | exact Txt.n_Setup_works_by_name (by assumption) | exact Txt.n_Weaver_plan (by assumption) | exact Txt.n_Weaver_size (by assumption))
local macro_rules | `(tactic| walk_at "zz") => `(tactic| walk_at "zt")
local macro_rules | `(tactic| walk_at "zz") => `(tactic| ((with_reducible apply s_dgS); (· walk_at "hl"); (· walk_at "mk")))
local macro_rules | `(tactic| walk_at "zz") => `(tactic| ((with_reducible apply s_ixL); (· walk_at "hl"); (· with_reducible first | exact at0 | exact at1 | exact at2 | exact at3 | exact at4)))
local macro_rules | `(tactic| walk_at "zz") => `(tactic| ((with_reducible apply s_ixT); (· walk_at "hl"); (· with_reducible first | exact at0 | exact at1 | exact at2 | exact at3 | exact at4)))
local macro_rules | `(tactic| walk_at "zz") => `(tactic| ((with_reducible apply s_propat); (· walk_at "hl")))
local macro_rules | `(tactic| walk_at "zz") => `(tactic| ((with_reducible apply s_methat); (· walk_at "hl"); (· kernel_rfl)))
local macro_rules | `(tactic| walk_at "zz") => `(tactic| ((with_reducible apply s_fldat); (· walk_at "hl"); (· walk_at "cl"); (· walk_at "na"); (· walk_at "lk")))
local macro_rules | `(tactic| walk_at "zz") => `(tactic| walk_at "zi")
local macro_rules | `(tactic| walk_at "orz") => `(tactic| walk_at "zt")
local macro_rules | `(tactic| walk_at "orz") => `(tactic| ((with_reducible apply s_dgS); (· walk_at "hl"); (· walk_at "mk")))
local macro_rules | `(tactic| walk_at "orz") => `(tactic| ((with_reducible apply s_ixL); (· walk_at "hl"); (· with_reducible first | exact at0 | exact at1 | exact at2 | exact at3 | exact at4)))
local macro_rules | `(tactic| walk_at "orz") => `(tactic| ((with_reducible apply s_ixT); (· walk_at "hl"); (· with_reducible first | exact at0 | exact at1 | exact at2 | exact at3 | exact at4)))
local macro_rules | `(tactic| walk_at "orz") => `(tactic| ((with_reducible apply s_propat); (· walk_at "hl")))
local macro_rules | `(tactic| walk_at "orz") => `(tactic| ((with_reducible apply s_methat); (· walk_at "hl"); (· kernel_rfl)))
local macro_rules | `(tactic| walk_at "orz") => `(tactic| ((with_reducible apply s_fldat); (· walk_at "hl"); (· walk_at "cl"); (· walk_at "na"); (· walk_at "lk")))
local macro_rules | `(tactic| walk_at "orz") => `(tactic| ((with_reducible apply ite_t); (· rfl)))
local macro_rules | `(tactic| walk_at "orz") => `(tactic| ((with_reducible apply ite_f); (· rfl)))
local macro_rules | `(tactic| walk_at "orz") => `(tactic| with_reducible first | refine ⟨_, _, rfl, rfl, ?_⟩ | refine ⟨_, rfl, ?_⟩)
local macro_rules | `(tactic| walk_at "orz") => `(tactic| ((with_reducible apply s_isi); (· assumption); (· decide)))
local macro_rules | `(tactic| walk_at "orz") => `(tactic| with_reducible first | refine s_tup ?_ | refine s_lst ?_)
local macro_rules | `(tactic| walk_at "orz") => `(tactic| ((with_reducible apply s_ne); (· exact rfl)))
local macro_rules | `(tactic| walk_at "orz") => `(tactic| ((with_reducible apply s_eq); (· exact rfl)))
local macro_rules | `(tactic| walk_at "orz") => `(tactic| with_reducible first | refine s_lcE ?_ | refine s_lc ?_ | refine s_dcT ?_ | refine s_cvalg ?_ | refine s_I0 ?_ | refine s_U ?_)
local macro_rules | `(tactic| walk_at "orz") => `(tactic| with_reducible first | refine Or.inl (Exists.intro _ (And.intro rfl ?_)) | refine Or.inr (Exists.intro _ (And.intro rfl ?_)) | refine s_make ?_ | refine s_sl ?_ | refine s_nop ?_ | refine s_part ?_)
local macro_rules | `(tactic| walk_at "orz") => `(tactic| with_reducible first | refine s_get2 ?_ | refine s_callI ?_ | refine s_for ?_ | refine s_rng1 ?_ | refine s_iT ?_ | refine s_iL ?_)
local macro_rules | `(tactic| walk_at "orz") => `(tactic| with_reducible first | refine s_lcL ?_ | refine s_dputg ?_ | refine s_tupRg ?_ | refine s_lstRg ?_ | refine s_rg1 ?_ | refine s_items ?_)
local macro_rules | `(tactic| walk_at "orz") => `(tactic| with_reducible first | refine s_daugg ?_ | refine s_disp ?_ | refine s_gsub ?_ | refine s_fldaug ?_ | refine s_ipI ?_ | refine s_ixO ?_)
local macro_rules | `(tactic| walk_at "orz") => `(tactic| with_reducible first | refine s_chain ?_ | refine s_yes ?_ | refine s_din ?_ | refine s_dnin ?_ | refine s_bm0 ?_ | refine s_lcT ?_)
local macro_rules | `(tactic| walk_at "orz") => `(tactic| with_reducible first | refine s_un ?_ | refine s_star ?_ | refine s_and ?_ | refine s_or ?_ | refine s_orV ?_ | refine s_notV ?_)
local macro_rules | `(tactic| walk_at "orz") => `(tactic| with_reducible first | refine s_augS ?_ | refine s_retN ?_ | refine s_cont ?_ | refine s_break ?_ | refine s_par ?_ | refine s_par2 ?_)
local macro_rules | `(tactic| walk_at "orz") => `(tactic| with_reducible first | refine s_andV ?_ | refine s_add ?_ | refine s_prop ?_ | refine s_pnil ?_ | refine s_cb ?_ | refine s_not ?_)
local macro_rules | `(tactic| walk_at "orz") => `(tactic| with_reducible first | refine s_call ?_ | refine s_pcons ?_ | refine s_bm ?_ | refine s_if ?_ | refine s_gcons ?_ | refine s_gnil ?_)
local macro_rules | `(tactic| walk_at "orz") => `(tactic| with_reducible first | refine s_next ?_ | refine s_gname ?_ | refine s_drop ?_ | refine s_meth ?_ | refine s_fldS ?_ | refine s_asg ?_)
local macro_rules | `(tactic| walk_at "orz") => `(tactic| with_reducible first | refine s_fldg ?_ | refine s_ifS ?_ | refine s_dget ?_ | refine s_ret ?_ | refine s_B ?_ | refine s_test ?_)
local macro_rules | `(tactic| walk_at "orz") => `(tactic| with_reducible first | refine s_cons ?_ | refine s_c ?_ | refine s_nil ?_ | refine s_seq ?_ | refine s_op ?_ | refine s_bl ?_)
local macro_rules | `(tactic| walk_at "orz") => `(tactic| ((with_reducible apply s_var); (· exact rfl)))
local macro_rules | `(tactic| walk_at "rz") => `(tactic| repeat walk_at "orz")
local macro_rules | `(tactic| walk_at "zm") => `(tactic| (intro x dx hx hdx hne; generalize eH : upd (upd _ dx _) x _ = H2; have s2 := mkS hx hdx eH; have e2 := mkE eH; clear eH hdx hne))
local macro_rules | `(tactic| walk_at "zb") => `(tactic| with_reducible first | refine s_gcons ?_ | refine s_gnil ?_ | refine s_gname ?_ | refine s_seq ?_ | refine s_ifS ?_ | refine s_if ?_ | refine s_next ?_ | refine s_drop ?_ | refine s_ret ?_ | refine s_asg ?_)
def spPutIn (K : Fg) : Sp := fun vs H Q _ => ∃ a, ∃ l : List Key, ∃ k : Key, ∃ b : Bool, vs = [.ref a, kV k, .bl b] ∧ SqT K H a (l.map kV) ∧ KindOk (l ++ [k]) ∧ l.length ≤ 1000 ∧ ∀ t H', Same H H' → SqT K H' t ((wPut l k b).map kV) → Q (.ref t) H'
def spWInit (K : Fg) : Sp := fun vs H Q _ => ∃ x D P n dx, vs = [.ref x, .ref D.p, .int (n : Nat)] ∧ H x = some (.ins (ga K "Weaver") dx []) ∧ PlanAt K H D P ∧ x ∉ D.own ∧ n ≤ 6 ∧ Q .non (upd H x (.ins (ga K "Weaver") dx (wvF D.p n)))
def spWRank (K : Fg) : Sp := fun vs H Q _ => ∃ x D P n z, vs = [.ref x, .str z] ∧ WvAt K H x D P n ∧ z ∈ P.names ∧ ∀ H', Same H H' → Q (.int (P.ln z).rk) H'
def spWChanged (K : Fg) : Sp := fun vs H Q _ => ∃ x D P n a v, ∃ j : Nat, ∃ cs : List Wc, ∃ c : Wc, vs = [.ref x, .ref a, .int (j : Nat), v] ∧ WvAt K H x D P n ∧ Dp K H (.ref a) (.tuple (cs.map dWc)) ∧ j < cs.length ∧ cs.length ≤ 1000 ∧ Dp K H v (dWc c) ∧ ∀ t H', Same H H' → Dp K H' (.ref t) (.tuple ((cs.set j c).map dWc)) → Q (.ref t) H'
def spWLess (K : Fg) : Sp := fun vs H Q _ => ∃ x D P n a, ∃ l : List Str, vs = [.ref x, .ref a] ∧ WvAt K H x D P n ∧ SqT K H a (l.map V.str) ∧ l ≠ [] ∧ l.length ≤ 100 ∧ (∀ z ∈ l, z ∈ P.wnames) ∧ ∀ t H', Same H H' → SqT K H' t ((lessW P l).map V.str) → Q (.ref t) H'
def spCheckN (K : Fg) : Sp := fun vs H Q _ => ∃ n lo hi : Int, vs = [.int n, .int lo, .int hi] ∧ lo ≤ n ∧ n ≤ hi ∧ Q .non H
section
variable {P : Program} {w : World} {K : Fg} {mg : Str → Option Value} {base : Heap}
theorem ok_check_number (T : Txt K mg) : FnOk P w K mg base (L2.CX P w) 2 (ga K "check_number") (fdOf K (ga K "check_number")) ["number", "low", "high"] (spCheckN K) := by
  refine FunD.ok T.F_check_number sc_check_number (fun vs H Q E h => ?_) (fun cdv A outer s H vs Q E hr h => ⟨_, PSs.nox (pss_one (ps_if (pt_not (pt_val (z_call (ok_is_integer T) T.c_is_integer (hr.mono (by decide)) rfl T.g_is_integer passL (pa_cons (pv 0) (pa_cons (pv 1) (pa_cons (pv 2) pa_nil)))))) (pss_one ps_never) pss_nil)), ?_⟩)
  · obtain ⟨n, lo, hi, rfl, _⟩ := h
    rfl
  obtain ⟨n, lo, hi, rfl, h1, h2, q⟩ := h
  show (_ : TS) _ [some (.int n), some (.int lo), some (.int hi)] H
  try dsimp only [cxOf]
  walk_at "rz"
  refine ⟨_, _, _, _, rfl, .int _, ?_⟩
  refine ⟨_, rfl, ite_f (by rw [show isIntD lo hi (.int n) = true from decide_eq_true ⟨h1, h2⟩]; rfl) ?_⟩
  walk_at "rz"
  exact q
theorem ok_put_in (T : Txt K mg) : FnOk P w K mg base (L2.CX P w) 1 (ga K "put_in") (fdOf K (ga K "put_in")) ["things", "thing", "is_in"] (spPutIn K) := by
  refine FunD.ok T.F_put_in sc_put_in (fun vs H Q E h => ?_) (fun cdv A outer s H vs Q E hr h => ⟨_, PSs.nox (pss_cons (ps_setLc (i := 3) (own := [("other", 4)]) rfl sc_put_in.nd rfl rfl (sw_true rfl rfl rfl (by decide +kernel)) (kIT K (pi_tup (pv 0))) (blkOk_by (own := [("other", 4)]) (N := n_put_in) (sc := defScope s_put_in) (by decide +kernel)) (fun _ _ _ _ _ => (zg 4 sc_put_in.nd)) (fun _ _ _ _ _ => (pts_one (pt_cmpR op_ne (pv 4) (pv 1) (nomark _)))) (fun _ _ _ _ _ => (pv 4)))
      (pss_one (ps_ret (pe_ifExp (pt_val (pv 2)) (pe_callTy (call_tuple_ofK K) (by rfl) T.u_tuple (by decide +kernel) (pa_cons (pe_callB (cr_sortedDatK K hr.units) (by rfl) T.u_sorted (by decide +kernel) (pa_cons (pe_op op_cat (pv 3) (pe_lst (pa_cons (pv 1) pa_nil))) pa_nil)) pa_nil)) (pe_callTy (call_tuple_ofK K) (by rfl) T.u_tuple (by decide +kernel) (pa_cons (pv 3) pa_nil)))))), ?_⟩)
  · obtain ⟨a, l, k, b, rfl, _⟩ := h
    rfl
  obtain ⟨a, l, k, b, rfl, hT, kd, hl, q⟩ := h
  show (_ : TS) _ (some (.ref a) :: some (kV k) :: some (.bl b) :: List.replicate 2 none) H
  try dsimp only [cxOf]
  dsimp only [List.replicate]
  walk_at "rz"
  refine lcT_d (l := l) (da := kD) hT (dp_keysR l) (fun y => !decide (y = k)) kD (by omega) (fun x _ => tupd_kD x) (fun x v H2 Yes No hx s2 dv yes no => ?_) (fun d H2 ys hd s2 e2 a2 => ?_)
  · rw [dp_keyI dv]
    walk_at "rz"
    refine ⟨rfl, ?_⟩
    walk_at "rz"
    refine s_ne scal_keys ?_
    rw [kV_dec]
    walk_at "rz"
    refine ite_b (fun h1 => ?_) (fun h1 => no h1 _ (Same.refl _))
    walk_at "rz"
    exact yes h1 _ _ (Same.refl _) (dp_key x)
  have a2' : ys = (cutY l k).map kV := dp_keys a2
  rw [a2'] at e2
  have lc : (cutY l k).length ≤ l.length := List.length_filter_le _ _
  walk_at "rz"
  cases b with
  | false =>
    walk_at "rz"
    refine ⟨d, _, rfl, .inl ⟨SqL.of e2, fun t ht => ?_⟩⟩
    generalize eH : upd H2 t _ = H3
    have s3 := newS ht eH
    have e3 := newE eH
    clear eH
    exact q t H3 (s2.trans s3) (SqT.of e3)
  | true =>
    walk_at "rz"
    rename_i p3 hp3 H3 s3 e3
    refine s_cat (s3 _ _ e2) e3 (by rw [List.length_map, sizeLine_eq]; show _ + 1 ≤ _; omega) fun p4 hp4 => ?_
    generalize eH : upd H3 p4 _ = H4
    have s4 := newS hp4 eH
    have e4 := newE eH
    clear eH
    have ec : (cutY l k).map kV ++ [kV k] = (cutY l k ++ [k]).map kV := by rw [List.map_append]; rfl
    rw [ec] at e4
    have kd2 : KindOk (cutY l k ++ [k]) := by
      have sub : ∀ y ∈ cutY l k ++ [k], y ∈ l ++ [k] := fun y hy => by
        rcases List.mem_append.mp hy with hy | hy
        · exact List.mem_append_left _ (List.mem_filter.mp hy).1
        · exact List.mem_append_right _ hy
      rcases kd with h | h
      · exact .inl fun y hy => h y (sub y hy)
      · exact .inr fun y hy => h y (sub y hy)
    obtain ⟨k1, k2, k3⟩ := kd2.sortable
    walk_at "rz"
    refine ⟨p4, _, _, rfl, SqL.of e4, dp_keysR _, k1, k2, k3, fun ys2 p5 h5 hp5 => ?_⟩
    rw [srtY_map] at h5
    rw [dp_keys h5]
    generalize eH : upd H4 p5 _ = H5
    have s5 := newS hp5 eH
    have e5 := newE eH
    clear eH
    walk_at "rz"
    refine ⟨p5, _, rfl, .inl ⟨SqL.of e5, fun t ht => ?_⟩⟩
    generalize eH : upd H5 t _ = H6
    have s6 := newS ht eH
    have e6 := newE eH
    clear eH
    exact q t H6 ((((s2.trans s3).trans s4).trans s5).trans s6) (SqT.of e6)
theorem ok_w_weave_with (T : Txt K mg) : FnOk P w K mg base (L2.CX P w) 1 (ga K "_law_weave_with") (fdOf K (ga K "_law_weave_with")) ["_law_things", "_law_thing", "_law_is_in"] (spPutIn K) := by
  refine FunD.ok T.F_w_weave_with sc_w_weave_with (fun vs H Q E h => ?_) (fun cdv A outer s H vs Q E hr h => ⟨_, PSs.nox (pss_cons (ps_setLc (i := 3) (own := [("_law_one", 4)]) rfl sc_w_weave_with.nd rfl rfl (sw_true rfl rfl rfl (by decide +kernel)) (kIT K (pi_tup (pv 0))) (blkOk_by (own := [("_law_one", 4)]) (N := n_w_weave_with) (sc := defScope s_w_weave_with) (by decide +kernel)) (fun _ _ _ _ _ => (zg 4 sc_w_weave_with.nd)) (fun _ _ _ _ _ => (pts_one (pt_cmpR op_ne (pv 4) (pv 1) (nomark _)))) (fun _ _ _ _ _ => (pv 4)))
      (pss_one (ps_ret (pe_ifExp (pt_val (pv 2)) (pe_callTy (call_tuple_ofK K) (by rfl) T.u_tuple (by decide +kernel) (pa_cons (pe_callB (cr_sortedDatK K hr.units) (by rfl) T.u_sorted (by decide +kernel) (pa_cons (pe_op op_cat (pv 3) (pe_lst (pa_cons (pv 1) pa_nil))) pa_nil)) pa_nil)) (pe_callTy (call_tuple_ofK K) (by rfl) T.u_tuple (by decide +kernel) (pa_cons (pv 3) pa_nil)))))), ?_⟩)
  · obtain ⟨a, l, k, b, rfl, _⟩ := h
    rfl
  obtain ⟨a, l, k, b, rfl, hT, kd, hl, q⟩ := h
  show (_ : TS) _ (some (.ref a) :: some (kV k) :: some (.bl b) :: List.replicate 2 none) H
  try dsimp only [cxOf]
  dsimp only [List.replicate]
  walk_at "rz"
  refine lcT_d (l := l) (da := kD) hT (dp_keysR l) (fun y => !decide (y = k)) kD (by omega) (fun x _ => tupd_kD x) (fun x v H2 Yes No hx s2 dv yes no => ?_) (fun d H2 ys hd s2 e2 a2 => ?_)
  · rw [dp_keyI dv]
    walk_at "rz"
    refine ⟨rfl, ?_⟩
    walk_at "rz"
    refine s_ne scal_keys ?_
    rw [kV_dec]
    walk_at "rz"
    refine ite_b (fun h1 => ?_) (fun h1 => no h1 _ (Same.refl _))
    walk_at "rz"
    exact yes h1 _ _ (Same.refl _) (dp_key x)
  have a2' : ys = (cutY l k).map kV := dp_keys a2
  rw [a2'] at e2
  have lc : (cutY l k).length ≤ l.length := List.length_filter_le _ _
  walk_at "rz"
  cases b with
  | false =>
    walk_at "rz"
    refine ⟨d, _, rfl, .inl ⟨SqL.of e2, fun t ht => ?_⟩⟩
    generalize eH : upd H2 t _ = H3
    have s3 := newS ht eH
    have e3 := newE eH
    clear eH
    exact q t H3 (s2.trans s3) (SqT.of e3)
  | true =>
    walk_at "rz"
    rename_i p3 hp3 H3 s3 e3
    refine s_cat (s3 _ _ e2) e3 (by rw [List.length_map, sizeLine_eq]; show _ + 1 ≤ _; omega) fun p4 hp4 => ?_
    generalize eH : upd H3 p4 _ = H4
    have s4 := newS hp4 eH
    have e4 := newE eH
    clear eH
    have ec : (cutY l k).map kV ++ [kV k] = (cutY l k ++ [k]).map kV := by rw [List.map_append]; rfl
    rw [ec] at e4
    have kd2 : KindOk (cutY l k ++ [k]) := by
      have sub : ∀ y ∈ cutY l k ++ [k], y ∈ l ++ [k] := fun y hy => by
        rcases List.mem_append.mp hy with hy | hy
        · exact List.mem_append_left _ (List.mem_filter.mp hy).1
        · exact List.mem_append_right _ hy
      rcases kd with h | h
      · exact .inl fun y hy => h y (sub y hy)
      · exact .inr fun y hy => h y (sub y hy)
    obtain ⟨k1, k2, k3⟩ := kd2.sortable
    walk_at "rz"
    refine ⟨p4, _, _, rfl, SqL.of e4, dp_keysR _, k1, k2, k3, fun ys2 p5 h5 hp5 => ?_⟩
    rw [srtY_map] at h5
    rw [dp_keys h5]
    generalize eH : upd H4 p5 _ = H5
    have s5 := newS hp5 eH
    have e5 := newE eH
    clear eH
    walk_at "rz"
    refine ⟨p5, _, rfl, .inl ⟨SqL.of e5, fun t ht => ?_⟩⟩
    generalize eH : upd H5 t _ = H6
    have s6 := newS ht eH
    have e6 := newE eH
    clear eH
    exact q t H6 ((((s2.trans s3).trans s4).trans s5).trans s6) (SqT.of e6)
theorem ok_Weaver_init (T : Txt K mg) : FnOk P w K mg base (L2.CX P w) 1 (ma K (ga K "Weaver") "__init__") (fdOf K (ma K (ga K "Weaver") "__init__")) ["self", "setup", "count"] (spWInit K) := by
  refine FunD.ok T.F_Weaver_init sc_Weaver_init (fun vs H Q E h => ?_) (fun cdv A outer s H vs Q E hr h => ⟨_, PSs.nox (pss_cons (ps_fld (pv 0) (pv 1) rfl)
      (pss_one (ps_fld (pv 0) (pv 2) rfl))), ?_⟩)
  · obtain ⟨x, D, P, n, dx, rfl, _⟩ := h
    rfl
  obtain ⟨x, D, P, n, dx, rfl, hx, pl, hxd, n6, q⟩ := h
  show (_ : TS) _ [some (.ref x), some (.ref D.p), some (.int (n : Nat))] H
  try dsimp only [cxOf]
  walk_at "rz"
  refine ⟨x, _, _, _, rfl, hx, T.cl_Weaver, T.n_Weaver_plan, by decide, ?_⟩
  walk_at "rz"
  refine ⟨x, _, _, _, rfl, upd_same, T.cl_Weaver, T.n_Weaver_size, Nat.lt_of_le_of_lt (length_putF _ _ _) (by decide), ?_⟩
  walk_at "rz"
  rw [Z.upd_upd]
  exact q
theorem ok_Weaver_rank (T : Txt K mg) : FnOk P w K mg base (L2.CX P w) 5 (ma K (ga K "Weaver") "rank") (fdOf K (ma K (ga K "Weaver") "rank")) ["self", "line"] (spWRank K) := by
  refine FunD.ok T.F_Weaver_rank sc_Weaver_rank (fun vs H Q E h => ?_) (fun cdv A outer s H vs Q E hr h => ⟨_, PSs.nox (pss_one (ps_ret (pe_ix (ix_tupK K) (z_ixO (kFld K (pe_fld (pv 0) rfl)) (pv 1) T.m_Setup_getitem.at_ T.sub_Setup T.m_Setup_getitem.fn (ok_Setup_getitem T) T.c_Setup_getitem (hr.mono (by decide)) passL) pe_int (fun _ _ => rfl)))), ?_⟩)
  · obtain ⟨x, D, P, n, z, rfl, _⟩ := h
    rfl
  obtain ⟨x, D, P, n, z, rfl, wv, hz, q⟩ := h
  obtain ⟨dx, hx⟩ := wv.ins
  have pl := wv.pl
  obtain ⟨dp, pa, pb, hp, _⟩ := pl.ins
  show (_ : TS) _ [some (.ref x), some (.str z)] H
  try dsimp only [cxOf]
  walk_at "rz"
  refine ⟨D, z, P, rfl, pl, hz, fun v dv => ?_⟩
  obtain ⟨t, s, sv, rfl, ht, hs, ha⟩ := dv.lnI
  walk_at "rz"
  exact q H (Same.refl H)
theorem ok_Weaver_changed (T : Txt K mg) : FnOk P w K mg base (L2.CX P w) 1 (ma K (ga K "Weaver") "changed") (fdOf K (ma K (ga K "Weaver") "changed")) ["self", "processors", "number", "processor"] (spWChanged K) := by
  refine FunD.ok T.F_Weaver_changed sc_Weaver_changed (fun vs H Q E h => ?_) (fun cdv A outer s H vs Q E hr h => ⟨_, PSs.nox (pss_one (ps_ret (pe_op (op_catAK K) (pe_op (op_catAK K) (pe_slice (sl_tupAK K) (pv 1) po_none (po_some (pv 2))) (pe_tup (pa_cons (pv 3) pa_nil))) (pe_slice (sl_tupAK K) (pv 1) (po_some (pe_op op_add (pv 2) pe_int)) po_none)))), ?_⟩)
  · obtain ⟨x, D, P, n, a, v, j, cs, c, rfl, _⟩ := h
    rfl
  obtain ⟨x, D, P, n, a, v, j, cs, c, rfl, wv, da, hj, hl, dv, q⟩ := h
  obtain ⟨_, xs, e, hT, hA⟩ := da.tupI
  cases e
  have lx : xs.length = cs.length := by rw [hA.len, List.length_map]
  show (_ : TS) _ [some (.ref x), some (.ref a), some (.int (j : Nat)), some v] H
  try dsimp only [cxOf]
  walk_at "rz"
  refine s_slA hT fun p1 H1 s1 e1 => ?_
  walk_at "rz"
  rename_i p2 hp2 H2 s2 e2
  refine s_catW (s2.sqT e1) (SqT.of e2) (by rw [sizeLine_eq]; have := cutV_length xs none (some (j : Int)); show _ + 1 ≤ _; omega) fun p3 H3 s3 e3 => ?_
  walk_at "rz"
  refine s_slA (((s1.trans s2).trans s3).sqT hT) fun p4 H4 s4 e4 => ?_
  walk_at "rz"
  refine s_catW (s4.sqT e3) e4 (by rw [sizeLine_eq, List.length_append]; have := cutV_length xs none (some (j : Int)); have := cutV_length xs (some ((j : Int) + 1)) none; show _ + 1 + _ ≤ _; omega) fun p5 H5 s5 e5 => ?_
  have sA := ((s1.trans s2).trans s3).trans (s4.trans s5)
  refine q p5 H5 sA ?_
  rw [cut_take, show (j : Int) + 1 = ((j + 1 : Nat) : Int) by omega, cut_drop, set_cut (by omega)] at e5
  refine .tup e5 ?_
  rw [List.map_set]
  exact (dpall_set dv hA).same sA
theorem ok_Weaver_less (T : Txt K mg) : FnOk P w K mg base (L2.CX P w) 1 (ma K (ga K "Weaver") "less") (fdOf K (ma K (ga K "Weaver") "less")) ["self", "works"] (spWLess K) := by
  refine FunD.ok T.F_Weaver_less sc_Weaver_less (fun vs H Q E h => ?_) (fun cdv A outer s H vs Q E hr h => ⟨_, PSs.nox (pss_cons (zset 2 sc_Weaver_less.nd (pe_ix (ix_tupK K) (pe_callB (cr_minIIK rfl hr.units) (by rfl) T.u_min (by decide +kernel) (pa_cons (pe_lc (own := [("place", 3), ("work", 4)]) rfl sc_Weaver_less.nd (kIET K (pi_enumT (by rfl) T.u_enumerate (pa_cons (pv 1) pa_nil))) (blkOk_by (own := [("place", 3), ("work", 4)]) (N := n_Weaver_less) (sc := defScope s_Weaver_less) (by decide +kernel)) (fun _ _ _ _ _ => (kGT K (pg_tup (n := 2) rfl (pgs_cons (zg 3 sc_Weaver_less.nd) (pgs_cons (zg 4 sc_Weaver_less.nd) pgs_nil))))) (fun _ _ _ _ _ => pts_nil) (fun _ _ _ _ _ => (pe_tup (pa_cons (pe_op op_sub pe_int (pe_ix (ix_tupK K) (pe_dget (hu_of hr) (kFld K (pe_fld (kFld K (pe_fld (pv 0) rfl)) rfl)) (pv 4) (fun _ _ => rfl)) pe_int (fun _ _ => rfl))) (pa_cons (pv 3) pa_nil))))) pa_nil)) pe_int (fun _ _ => rfl)))
      (pss_one (ps_ret (pe_op (op_catAK K) (pe_slice (sl_tupAK K) (pv 1) po_none (po_some (pv 2))) (pe_slice (sl_tupAK K) (pv 1) (po_some (pe_op op_add (pv 2) pe_int)) po_none))))), ?_⟩)
  · obtain ⟨x, D, P, n, a, l, rfl, _⟩ := h
    rfl
  obtain ⟨x, D, P, n, a, l, rfl, wv, hT, hne, hl, hw, q⟩ := h
  obtain ⟨dx, hx⟩ := wv.ins
  have pl := wv.pl
  obtain ⟨dp, pa, pb, hp, _⟩ := pl.ins
  show (_ : TS) _ (some (.ref x) :: some (.ref a) :: List.replicate 3 none) H
  try dsimp only [cxOf]
  dsimp only [List.replicate]
  obtain ⟨kw, hwd, _, hv⟩ := pl.works.at_
  walk_at "rz"
  refine s_enT ?_
  walk_at "rz"
  refine ⟨_, _, rfl, hT, lcET_d (l := l) (da := PyData.str) hT (dp_strsW l) (fun _ _ => true) (fun i z => dII (jobI P (z, i))) (by omega) (fun _ _ => rfl) (fun i z v t H2 Yes No hi s2 dv ht yes no => ?_) (fun d H2 ys hd s2 e2 a2 => ?_)⟩
  · cases dv
    have hzw := hw z (List.mem_of_getElem? hi)
    obtain ⟨w1, w2⟩ := pl.ok.wk_mem hzw
    obtain ⟨wv1, hw1, dw⟩ := hv _ w1
    rw [w2] at hw1
    obtain ⟨tw, rfl, htw⟩ := (dw.same s2).wkI
    have hx2 := s2 _ _ hx
    have hp2 := s2 _ _ hp
    refine s_gtup ht rfl ?_
    walk_at "rz"
    refine ⟨rfl, ?_⟩
    walk_at "rz"
    refine s_dgS (s2 _ _ hwd) hw1 ?_
    walk_at "rz"
    rename_i p3 hp3 H3 s3 e3
    exact yes rfl _ _ s3 (.tup (SqT.of e3) (.cons (.int _) (.cons (.int _) .nil)))
  obtain ⟨y, r, er⟩ := zipIdx_jobs (P := P) hne
  obtain ⟨f1, f2⟩ := firstW_is er
  have a3 : DpAll K H2 ys ((y :: r).map dII) := by
    rw [← er, List.map_map]
    have ef : (l.zipIdx.filter fun _ => true) = l.zipIdx := List.filter_eq_self.mpr fun _ _ => rfl
    rw [ef] at a2
    exact a2
  walk_at "rz"
  refine ⟨d, ys, y, r, rfl, SqL.of e2, a3, fun v dv => ?_⟩
  obtain ⟨t, xs, rfl, ht, ha⟩ := dv.tupI
  cases ha with | cons h1 ha => ?_
  cases ha with | cons h2 ha => ?_
  cases ha
  cases h1
  cases h2
  walk_at "rz"
  rw [f1]
  walk_at "rz"
  refine s_slA (s2.sqT hT) fun p1 H3 s3 e3 => ?_
  walk_at "rz"
  refine s_slA ((s2.trans s3).sqT hT) fun p2 H4 s4 e4 => ?_
  walk_at "rz"
  refine s_catW (s4.sqT e3) e4 (by rw [sizeLine_eq]; have := cutV_length (l.map V.str) none (some (firstW P l : Int)); have := cutV_length (l.map V.str) (some ((firstW P l : Int) + 1)) none; rw [List.length_map] at *; omega) fun p5 H5 s5 e5 => ?_
  rw [cut_take, show ((firstW P l : Nat) : Int) + 1 = ((firstW P l + 1 : Nat) : Int) by omega, cut_drop, ← List.map_take, ← List.map_drop, ← List.map_append] at e5
  exact q p5 H5 (((s2.trans s3).trans s4).trans s5) e5
end
set_option maxHeartbeats 4000000
open PySem PySem.Spec PyProof.Rows L2 Z
open He (ga ma)
def spPLines (K : Fg) : Sp := fun vs H Q _ => ∃ PD P, vs = [.ref PD.p] ∧ PlanAt K H PD P ∧ ∀ a, Dp K H (.ref a) (.tuple (P.ls.map dLn)) → Q (.ref a) H
def spWFirst (K : Fg) : Sp := fun vs H Q _ => ∃ x D P n a, ∃ rg : List Str, vs = [.ref x, .ref a] ∧ WvAt K H x D P n ∧ SqT K H a (rg.map V.str) ∧ (∀ z ∈ rg, z ∈ P.names) ∧ rg.length ≤ 100 ∧ 1 ≤ n ∧ ∀ v H', Same H H' → Dp K H' v (dWs (Ws.first P n rg)) → Q v H'
def spWCan (K : Fg) : Sp := fun vs H Q _ => ∃ x D P n v a, ∃ c : Wc, ∃ up : List Key, vs = [.ref x, v, .ref a] ∧ WvAt K H x D P n ∧ Dp K H v (dWc c) ∧ c.Ok P ∧ SqT K H a (up.map kV) ∧ ∀ H', Same H H' → Q (.bl (c.can P up)) H'
def spWMoves (K : Fg) : Sp := fun vs H Q _ => ∃ x D P n v, ∃ s : Ws, vs = [.ref x, v] ∧ WvAt K H x D P n ∧ Dp K H v (dWs s) ∧ s.Ok P n ∧ ∀ H' l xs, Same H H' → H l = none → H' l = some (.lst xs) → DpAll K H' xs ((s.moves P).map dMv) → Q (.ref l) H'
theorem ringsK_snoc (l : List Str) (z : Str) : ringsK (l ++ [z]) = wPut (ringsK l) (.inr z) true := by
  unfold ringsK
  rw [List.foldl_append]
  rfl
theorem dp_wc0s {K : Fg} {H : Hp} {t : Addr} (h : Dp K H (.ref t) (dWc wc0)) : ∀ n : Nat, DpAll K H (List.replicate n (.ref t)) ((List.replicate n wc0).map dWc)
  | 0 => .nil
  | n + 1 => .cons h (dp_wc0s h n)
section
variable {P : Program} {w : World} {K : Fg} {mg : Str → Option Value} {base : Heap}
theorem ok_Setup_lines (T : Txt K mg) : FnOk P w K mg base (L2.CX P w) 1 (pga K (ga K "Setup") "lines") (fdOf K (pga K (ga K "Setup") "lines")) ["self"] (spPLines K) := by
  refine FunD.ok T.F_Setup_lines sc_Setup_lines (fun vs H Q E h => ?_) (fun cdv A outer s H vs Q E hr h => ⟨_, PSs.nox (pss_one (ps_ret (kFld K (pe_fld (pv 0) rfl)))), ?_⟩)
  · obtain ⟨PD, P, rfl, _⟩ := h
    rfl
  obtain ⟨PD, P, rfl, pl, q⟩ := h
  show (_ : TS) _ [some (.ref PD.p)] H
  try dsimp only [cxOf]
  obtain ⟨dx, a, b, e, h1, h2⟩ := pl.ins
  walk_at "rz"
  exact q a h1
theorem ok_Weaver_first_state (T : Txt K mg) : FnOk P w K mg base (L2.CX P w) 3 (ma K (ga K "Weaver") "first_state") (fdOf K (ma K (ga K "Weaver") "first_state")) ["self", "rings"] (spWFirst K) := by
  refine FunD.ok T.F_Weaver_first_state sc_Weaver_first_state (fun vs H Q E h => ?_) (fun cdv A outer s H vs Q E hr h => ⟨_, PSs.nox (pss_cons (zset 2 sc_Weaver_first_state.nd (pe_tup pa_nil))
      (pss_cons (ps_for PassesOwn.never rfl (kIT K (pi_tup (pv 1))) (zg 3 sc_Weaver_first_state.nd)
      (pss_one (zset 2 sc_Weaver_first_state.nd (z_call (ok_put_in T) T.c_put_in (hr.mono (by decide)) rfl T.g_put_in passL (pa_cons (pv 2) (pa_cons (pv 3) (pa_cons pe_bl pa_nil)))))))
      (pss_one (ps_ret (pe_tup (pa_cons (pv 2) (pa_cons (pe_tup pa_nil) (pa_cons (pe_tup pa_nil) (pa_cons (pe_op (op_repU K) (pe_tup (pa_cons pe_int pa_nil)) (pe_callB (call_lenK K) (by rfl) T.u_len (by decide +kernel) (pa_cons (z_prop (kFld K (pe_fld (pv 0) rfl)) T.cl_Setup T.p_Setup_lines (ok_Setup_lines T) T.c_Setup_lines (hr.mono (by decide)) rfl) pa_nil))) (pa_cons (pe_op (op_repU K) (pe_tup (pa_cons (pe_tup (pa_cons (pe_tup pa_nil) (pa_cons pe_int (pa_cons (pe_tup pa_nil) pa_nil)))) pa_nil)) (kFld K (pe_fld (pv 0) rfl))) pa_nil)))))))))), ?_⟩)
  · obtain ⟨x, D, P, n, a, rg, rfl, _⟩ := h
    rfl
  obtain ⟨x, D, P, n, a, rg, rfl, wv, hT, hz, hl, n1, q⟩ := h
  show (_ : TS) _ (some (.ref x) :: some (.ref a) :: List.replicate 2 none) H
  try dsimp only [cxOf]
  dsimp only [List.replicate]
  walk_at "rz"
  rename_i t1 ht1 H1 s1 e1
  refine ⟨⟨_, s1.sqT hT⟩, for_tup (xs := rg.map V.str) (fun i σ Ha => (∃ t y3, σ = [some (.ref x), some (.ref a), some (.ref t), y3] ∧ SqT K Ha t ((ringsK (rg.take i)).map kV)) ∧ Same H Ha)
    ⟨⟨_, _, rfl, SqT.of e1⟩, s1⟩ (fun i σ Ha _ ⟨_, sa⟩ => sa.sqT hT) (fun i v σ Ha hi ⟨⟨t, y3, es, ht⟩, sa⟩ => ?_) (fun σ Ha ⟨⟨t, y3, es, ht⟩, sa⟩ => ?_)⟩
  · subst es
    obtain ⟨z, hzi, rfl⟩ : ∃ z, rg[i]? = some z ∧ V.str z = v := by
      rw [List.getElem?_map] at hi
      exact Option.map_eq_some_iff.mp hi
    have sub := ringsK_sub (N := P.names) (rg.take i) [] (fun y hy => hz y (List.mem_of_mem_take hy)) ⟨List.nodup_nil, by simp⟩
    have ll := sub.len
    have l12 := wv.pl.ok.len
    rw [List.length_map] at ll
    walk_at "rz"
    refine ⟨t, ringsK (rg.take i), .inr z, true, rfl, ht, KSub.kind sub (List.mem_map_of_mem (hz z (List.mem_of_getElem? hzi))), by unfold ringsK; omega, fun t2 H2 s2 h2 => ?_⟩
    walk_at "rz"
    refine ⟨⟨_, _, rfl, ?_⟩, sa.trans s2⟩
    rw [List.take_add_one, hzi]
    show SqT K H2 t2 ((ringsK (rg.take i ++ [z])).map kV)
    rw [ringsK_snoc]
    exact h2
  subst es
  rw [List.length_map, List.take_length] at ht
  have wva := wv.same sa
  obtain ⟨dx, hx⟩ := wva.ins
  obtain ⟨dp, pa, pb, hp, _⟩ := wva.pl.ins
  have l12 := wva.pl.ok.l12
  have lne := wva.pl.ok.ne
  have n6 := wva.n6
  walk_at "rz"
  rename_i p1 hp1 H1 s1 e1 p2 hp2 H2 s2 e2 p3 hp3 H3 s3 e3
  have s03 := (s1.trans s2).trans s3
  have wv3 := wva.same s03
  refine ⟨D, P, rfl, wv3.pl, fun b db => ?_⟩
  obtain ⟨_, bs, eb, hb, hbA⟩ := db.tupI
  cases eb
  have lb : bs.length = P.ls.length := by rw [hbA.len, List.length_map]
  have lp : 0 < P.ls.length := List.length_pos_iff.mpr lne
  walk_at "rz"
  refine s_lenT hb ?_
  rw [lb]
  refine s_repU (SqT.of e3) (by simp) (by omega) (by omega) (by simp) fun p4 H4 s4 e4 => ?_
  have e4' : SqT K H4 p4 ((List.replicate P.ls.length (0 : Int)).map V.int) := by
    rw [List.map_replicate]
    rw [Int.toNat_natCast, List.flatten_replicate_singleton] at e4
    exact e4
  walk_at "rz"
  rename_i p5 hp5 H5 s5 e5 p6 hp6 H6 s6 e6 p7 hp7 H7 s7 e7 p8 hp8 H8 s8 e8
  have s48 := ((s5.trans s6).trans s7).trans s8
  refine s_repU (SqT.of e8) (by simp) (by omega) (by omega) (by simp) fun p9 H9 s9 e9 => ?_
  rw [Int.toNat_natCast, List.flatten_replicate_singleton] at e9
  walk_at "rz"
  rename_i pA hpA HA sA eA
  have s9A := s9.trans sA
  have s6A := (s7.trans s8).trans s9A
  have s4A := s48.trans s9A
  have s0A := s03.trans (s4.trans s4A)
  have dwc : Dp K HA (.ref p7) (dWc wc0) := Dp.wcR (s := wc0) (SqT.of ((s8.trans s9A) _ _ e7)) (SqT.of (((s6.trans s7).trans (s8.trans s9A)) _ _ e5)) .nil (SqT.of (s6A _ _ e6))
  refine q (.ref pA) HA (sa.trans s0A) (Dp.wsR (s := Ws.first P n rg) (SqT.of eA) (s0A.sqT ht) (SqT.of ((s2.trans (s3.trans (s4.trans s4A))) _ _ e1)) (SqT.of ((s3.trans (s4.trans s4A)) _ _ e2)) (s4A.sqT e4') (sA.sqT e9) (dp_wc0s dwc n))
theorem ok_Weaver_can_step (T : Txt K mg) : FnOk P w K mg base (L2.CX P w) 5 (ma K (ga K "Weaver") "can_step") (fdOf K (ma K (ga K "Weaver") "can_step")) ["self", "processor", "up"] (spWCan K) := by
  refine FunD.ok T.F_Weaver_can_step sc_Weaver_can_step (fun vs H Q E h => ?_) (fun cdv A outer s H vs Q E hr h => ⟨_, PSs.nox (pss_cons (ps_asg (pv 1) (kGT K (pg_tup (n := 3) rfl (pgs_cons (zg 3 sc_Weaver_can_step.nd) (pgs_cons (zg 4 sc_Weaver_can_step.nd) (pgs_cons (zg 5 sc_Weaver_can_step.nd) pgs_nil))))))
      (pss_cons (ps_if (pt_cmpR (op_eq0K K hr.units) (pv 3) (pe_tup pa_nil) (nomark _)) (pss_one (ps_ret (pe_cmpR (op_ne0K K hr.units) (pv 5) (pe_tup pa_nil) (nomark _)))) pss_nil)
      (pss_cons (ps_asg (pe_ix (ix_tupK K) (pe_ix (ix_tupK K) (z_ixO (kFld K (pe_fld (pv 0) rfl)) (pe_ix (ix_tupK K) (pe_ix (ix_tupK K) (pv 3) (pe_un un_neg pe_int) (fun _ _ => rfl)) pe_int (fun _ _ => rfl)) T.m_Setup_getitem.at_ T.sub_Setup T.m_Setup_getitem.fn (ok_Setup_getitem T) T.c_Setup_getitem (hr.mono (by decide)) passL) pe_int (fun _ _ => rfl)) (pe_ix (ix_tupK K) (pe_ix (ix_tupK K) (pv 3) (pe_un un_neg pe_int) (fun _ _ => rfl)) pe_int (fun _ _ => rfl)) (fun _ _ => rfl)) (kGT K (pg_tup (n := 2) rfl (pgs_cons (zg 6 sc_Weaver_can_step.nd) (pgs_cons (zg 7 sc_Weaver_can_step.nd) pgs_nil)))))
      (pss_one (ps_ret (pe_or (pe_cmpR op_ne (pv 6) (z_str T.i_AWAIT) (nomark _)) (pe_one (pe_cmpR (op_in_seqK K) (pv 7) (pv 2) (by rfl))))))))), ?_⟩)
  · obtain ⟨x, D, P, n, v, a, c, up, rfl, _⟩ := h
    rfl
  obtain ⟨x, D, P, n, v, a, c, up, rfl, wv, dv, cok, hup, q⟩ := h
  obtain ⟨t, b, j, ca, rfl, hT, hb, hbA, hj⟩ := dv.wcI
  obtain ⟨dx, hx⟩ := wv.ins
  have pl := wv.pl
  obtain ⟨dp, pa, pb, hp, _⟩ := pl.ins
  show (_ : TS) _ (some (.ref x) :: some (.ref t) :: some (.ref a) :: List.replicate 5 none) H
  try dsimp only [cxOf]
  dsimp only [List.replicate]
  walk_at "rz"
  refine s_gtup hT rfl ?_
  walk_at "rz"
  rename_i p1 hp1 H1 s1 e1
  refine s_eq0T (s1.sqT hb) (SqT.of e1) ?_
  have g1 := q
  unfold Wc.can at g1
  cases hg : c.ca.getLast? with
  | none =>
    rw [hg] at g1
    rw [ca_none hbA hg]
    walk_at "rz"
    rename_i p2 hp2 H2 s2 e2
    refine s_eq0T ((s1.trans s2).sqT hj) (SqT.of e2) ?_
    have e : (c.jo.map V.str).isEmpty = c.jo.isEmpty := by cases c.jo <;> rfl
    rw [e]
    exact g1 _ (s1.trans s2)
  | some y =>
    rw [hg] at g1
    obtain ⟨zs, ty, rfl, hzs, hty⟩ := ca_last hbA hg
    obtain ⟨yz, yi⟩ := cok.cz y (getLast_mem hg)
    have b1 := s1.sqT hb
    have ty1 := s1.sqT hty
    rw [show (zs ++ [V.ref ty]).isEmpty = false by cases zs <;> rfl]
    walk_at "rz"
    refine s_ixT b1 atI_last ?_
    walk_at "rz"
    refine ⟨D, y.1, P, rfl, pl.same s1, yz, fun v dv => ?_⟩
    obtain ⟨tl, st, sv, rfl, htl, hst, hsv⟩ := dv.lnI
    obtain ⟨sy, hsy, tsy⟩ := Dp.stpI pl.ok yz yi hsv
    walk_at "rz"
    refine s_ixT b1 atI_last ?_
    walk_at "rz"
    refine s_ixT hst (at_of (j := y.2.1) rfl hsy) ?_
    walk_at "rz"
    refine s_gtup tsy rfl ?_
    walk_at "rz"
    rw [vstr_dec]
    cases hb1 : !decide ((stp P y).1 = "await") with
    | true =>
      walk_at "rz"
      have g2 := g1 _ s1
      simp only [hb1, Bool.true_or] at g2
      exact g2
    | false =>
      walk_at "rz"
      refine s_in (.inr (s1.sqT hup)) (flat_key _) flat_keys ?_
      rw [inV_keys]
      have g2 := g1 _ s1
      simp only [hb1, Bool.false_or] at g2
      exact g2
theorem ok_Weaver_moves (T : Txt K mg) : FnOk P w K mg base (L2.CX P w) 7 (ma K (ga K "Weaver") "moves") (fdOf K (ma K (ga K "Weaver") "moves")) ["self", "state"] (spWMoves K) := by
  refine FunD.ok T.F_Weaver_moves sc_Weaver_moves (fun vs H Q E h => ?_) (fun cdv A outer s H vs Q E hr h => ⟨_, PSs.nox (pss_cons (ps_asg (pv 1) (kGT K (pg_tup (n := 5) rfl (pgs_cons (zg 2 sc_Weaver_moves.nd) (pgs_cons (zg 3 sc_Weaver_moves.nd) (pgs_cons (zg 4 sc_Weaver_moves.nd) (pgs_cons (zg 5 sc_Weaver_moves.nd) (pgs_cons (zg 6 sc_Weaver_moves.nd) pgs_nil))))))))
      (pss_cons (ps_setLc2 (i := 7) (own := [("calls", 12), ("bar", 13), ("works", 14), ("call", 16)]) (vs1 := [16]) rfl sc_Weaver_moves.nd rfl rfl (sw_true rfl rfl rfl (by decide +kernel)) (kIT K (pi_tup (pv 6))) (blkOk_by (own := [("calls", 12), ("bar", 13), ("works", 14), ("call", 16)]) (N := n_Weaver_moves) (sc := defScope s_Weaver_moves) (by decide +kernel)) (by decide) (fun _ _ _ _ _ => (kGT K (pg_tup (n := 3) rfl (pgs_cons (zg 12 sc_Weaver_moves.nd) (pgs_cons (zg 13 sc_Weaver_moves.nd) (pgs_cons (zg 14 sc_Weaver_moves.nd) pgs_nil)))))) (fun _ _ _ _ _ => pts_nil) (fun _ _ _ _ _ => (kIT K (pi_tup (pv 12)))) (fun _ _ _ _ _ => (zg 16 sc_Weaver_moves.nd)) (fun _ _ _ _ _ => pts_nil) (fun _ _ _ _ _ => (pe_ix (ix_tupK K) (pv 16) pe_int (fun _ _ => rfl))))
      (pss_cons (zset 8 sc_Weaver_moves.nd (pe_lst pa_nil))
      (pss_cons (ps_for PassesOwn.never rfl (kIT K (pi_tup (pv 2))) (zg 9 sc_Weaver_moves.nd)
      (pss_one (ps_if (PW.pt (pw_and (pt_cmpR (op_notIn_seqK K) (pv 9) (pv 3) (by rfl)) (pw_and1 (pt_cmpR (op_notIn_seqK K) (pv 9) (pv 7) (by rfl))))) (pss_one (ps_for PassesOwn.never rfl (kIET K (pi_enumT (by rfl) T.u_enumerate (pa_cons (pv 6) pa_nil))) (kGT K (pg_tup (n := 2) rfl (pgs_cons (zg 10 sc_Weaver_moves.nd) (pgs_cons (zg 11 sc_Weaver_moves.nd) pgs_nil))))
      (pss_cons (ps_asg (pv 11) (kGT K (pg_tup (n := 3) rfl (pgs_cons (zg 12 sc_Weaver_moves.nd) (pgs_cons (zg 13 sc_Weaver_moves.nd) (pgs_cons (zg 14 sc_Weaver_moves.nd) pgs_nil))))))
      (pss_cons (zset 15 sc_Weaver_moves.nd (pe_ifExp (pt_cmpR (op_ne0K K hr.units) (pv 12) (pe_tup pa_nil) (nomark _)) (z_meth (pv 0) T.cl_Weaver T.m_Weaver_rank (ok_Weaver_rank T) T.c_Weaver_rank (hr.mono (by decide)) passL (pa_cons (pe_ix (ix_tupK K) (pe_ix (ix_tupK K) (pv 12) (pe_un un_neg pe_int) (fun _ _ => rfl)) pe_int (fun _ _ => rfl)) pa_nil)) pe_int))
      (pss_one (ps_if (pt_cmpR op_gt (z_meth (pv 0) T.cl_Weaver T.m_Weaver_rank (ok_Weaver_rank T) T.c_Weaver_rank (hr.mono (by decide)) passL (pa_cons (pv 9) pa_nil)) (pe_callB (call_max2 rfl) (by rfl) T.u_max (by decide +kernel) (pa_cons (pv 13) (pa_cons (pv 15) pa_nil))) (nomark _)) (pss_one (ps_expr (kBM K (pe_bm PySem.F.plainAttrs_list PySem.F.slot_list_append PySem.F.type_list_append mt_append (pv 8) (pa_cons (pe_tup (pa_cons pe_str (pa_cons (pv 9) (pa_cons (pv 10) pa_nil)))) pa_nil))))) pss_nil)))))) pss_nil)))
      (pss_cons (ps_for PassesOwn.never rfl (kIET K (pi_enumT (by rfl) T.u_enumerate (pa_cons (pv 6) pa_nil))) (kGT K (pg_tup (n := 2) rfl (pgs_cons (zg 10 sc_Weaver_moves.nd) (pgs_cons (zg 11 sc_Weaver_moves.nd) pgs_nil))))
      (pss_one (ps_if (pt_val (z_meth (pv 0) T.cl_Weaver T.m_Weaver_can_step (ok_Weaver_can_step T) T.c_Weaver_can_step (hr.mono (by decide)) passL (pa_cons (pv 11) (pa_cons (pv 4) pa_nil)))) (pss_one (ps_expr (kBM K (pe_bm PySem.F.plainAttrs_list PySem.F.slot_list_append PySem.F.type_list_append mt_append (pv 8) (pa_cons (pe_tup (pa_cons pe_str (pa_cons (pv 10) pa_nil))) pa_nil))))) pss_nil)))
      (pss_one (ps_ret (pv 8)))))))), ?_⟩)
  · obtain ⟨x, D, P, n, v, s, rfl, _⟩ := h
    rfl
  obtain ⟨x, D, P, n, v, s, rfl, wv, dv, sok, q⟩ := h
  obtain ⟨t, a, b, c, d, e, ce, rfl, hT, ha, hb, hc, hd, he, heA⟩ := dv.wsI
  obtain ⟨dx, hx⟩ := wv.ins
  have pl := wv.pl
  obtain ⟨dp, pa, pb, hp, _⟩ := pl.ins
  have ok := pl.ok
  have lce : ce.length = s.cs.length := by rw [heA.len, List.length_map]
  have lcs := sok.cs
  have n6 := wv.n6
  obtain ⟨lwa, lma, lup, lbe⟩ := sok.walen ok
  show (_ : TS) _ (some (.ref x) :: some (.ref t) :: List.replicate 15 none) H
  try dsimp only [cxOf]
  dsimp only [List.replicate]
  walk_at "rz"
  refine s_gtup hT rfl ?_
  walk_at "rz"
  have lbusy : (s.cs.flatMap fun c => c.ca).length ≤ 1000 := by
    have : ∀ l : List Wc, (∀ c ∈ l, c.Ok P) → (l.flatMap fun c => c.ca).length ≤ 9 * l.length := fun l => by
      induction l with
      | nil => intro _; simp
      | cons c l ih =>
        intro hl
        have h1 := (hl c List.mem_cons_self).calen ok
        have h2 := ih fun y hy => hl y (List.mem_cons_of_mem _ hy)
        rw [List.flatMap_cons, List.length_append, List.length_cons]
        omega
    have := this s.cs sok.co
    omega
  refine s_lc2V (l := s.cs) (da := dWc) (i0 := 6) (j0 := 12) rfl he heA (fun c => c.ca) dCl (fun y => .str y.1) tupd_cl (fun _ => rfl) (by omega) (fun c v H2 R hc2 s2 dc out => ?_) (fun l2 H2 ys hl2 s2 e2 a2 => ?_)
  · obtain ⟨tc, cb, cj, ca, rfl, tcT, cbT, cbA, cjT⟩ := dc.wcI
    refine s_gtup tcT rfl ?_
    walk_at "rz"
    refine out _ _ _ rfl rfl cbT cbA fun y u H3 Yes No hy s3 dy yes => ?_
    obtain ⟨ty, rfl, hty⟩ := dy.clI
    walk_at "rz"
    refine ⟨rfl, ?_⟩
    walk_at "rz"
    exact yes _ _ (Same.refl _) (.str y.1)
  have hbz : ys = s.busy.map V.str := by
    refine dp_strs (K := K) (H := H2) ?_
    have e : s.busy.map PyData.str = (s.cs.flatMap fun c => c.ca).map fun y => .str y.1 := by
      unfold Ws.busy
      rw [List.map_flatMap, List.map_flatMap]
      congr 1
      funext c
      rw [List.map_map]
      rfl
    rw [e]
    exact a2
  subst hbz
  clear a2
  walk_at "rz"
  rename_i l3 hl3 H3 s3 e3
  have sH : Same H H3 := s2.trans s3
  have hl20 : H2 l3 = none := hl3
  refine ⟨⟨_, sH.sqT ha⟩, for_tup (xs := s.wa.map kV) (fun i σ Ha => (∃ y9 y10 y11 y12 y13 y14 y15, σ = [some (.ref x), some (.ref t), some (.ref a), some (.ref b), some (.ref c), some (.ref d), some (.ref e), some (.ref l2), some (.ref l3), y9, y10, y11, y12, y13, y14, y15, none]) ∧ Same H2 Ha ∧ ∃ xs, Ha l3 = some (.lst xs) ∧ DpAll K Ha xs (((s.wa.take i).flatMap (s.begs P)).map dMv))
    ⟨⟨_, _, _, _, _, _, _, rfl⟩, s3, [], e3, .nil⟩ (fun i σ Ha _ ⟨_, sa, _⟩ => (s2.trans sa).sqT ha) (fun i v σ Ha hi ⟨⟨y9, y10, y11, y12, y13, y14, y15, es⟩, sa, xs, ex, ax⟩ => ?_) (fun σ Ha ⟨⟨y9, y10, y11, y12, y13, y14, y15, es⟩, sa, xs, ex, ax⟩ => ?_)⟩
  · subst es
    obtain ⟨k, hk, rfl⟩ : ∃ z, s.wa[i]? = some z ∧ kV z = v := by
      rw [List.getElem?_map] at hi
      exact Option.map_eq_some_iff.mp hi
    obtain ⟨z, hz, rfl⟩ := List.mem_map.mp (sok.wa.sub k (List.mem_of_getElem? hk))
    have sA := s2.trans sa
    have fr0 : s.free (.inr z) = (!inY (.inr z) s.ma && !decide (z ∈ s.busy)) := rfl
    have bg : (s.wa.take (i + 1)).flatMap (s.begs P) = (s.wa.take i).flatMap (s.begs P) ++ s.begs P (.inr z) := by
      rw [List.take_add_one, hk, List.flatMap_append]
      show _ ++ List.flatMap _ [_] = _
      rw [List.flatMap_singleton]
    walk_at "rz"
    refine s_in (.inr (sA.sqT hb)) (flat_key _) flat_keys ?_
    rw [inV_keys]
    walk_at "rz"
    refine ite_b (fun h1 => ?_) (fun h1 => ?_)
    · have h1' : (!inY (.inr z) s.ma) = true := h1
      walk_at "rz"
      refine s_in (.inl (SqL.of (sa _ _ e2))) (flat_key _) flat_strs ?_
      rw [show inV (kV (.inr z)) (s.busy.map V.str) = decide (z ∈ s.busy) from inV_strs]
      walk_at "rz"
      refine ite_b (fun h2 => ?_) (fun h2 => ?_)
      · have h2' : (!decide (z ∈ s.busy)) = true := h2
        have hfree : s.free (.inr z) = true := by rw [fr0, h1', h2']; rfl
        have bg2 : s.begs P (.inr z) = (s.cs.zipIdx.filter fun x => x.1.lets P z).map fun x => .beg z x.2 := by
          unfold Ws.begs
          rw [if_pos hfree]
          rfl
        walk_at "rz"
        refine s_enT ?_
        walk_at "rz"
        refine ⟨_, _, rfl, sA.sqT he, for_it walk_enumT (fun j σ Hb => (∃ y10 y11 y12 y13 y14 y15, σ = [some (.ref x), some (.ref t), some (.ref a), some (.ref b), some (.ref c), some (.ref d), some (.ref e), some (.ref l2), some (.ref l3), some (kV (.inr z)), y10, y11, y12, y13, y14, y15, none]) ∧ Same H2 Hb ∧ ∃ xs, Hb l3 = some (.lst xs) ∧ DpAll K Hb xs (((s.wa.take i).flatMap (s.begs P) ++ ((s.cs.zipIdx.take j).filter fun x : Wc × Nat => x.1.lets P z).map fun x : Wc × Nat => Mv.beg z x.2).map dMv))
          ⟨⟨_, _, _, _, _, _, rfl⟩, sa, xs, ex, by rw [List.take_zero, List.filter_nil, List.map_nil, List.append_nil]; exact ax⟩ (fun j σ Hb _ ⟨_, sb, _⟩ => (s2.trans sb).sqT he) (fun j v σ Hb0 Hb hj ⟨⟨y10, y11, y12, y13, y14, y15, es⟩, sb0, xs1, ex10, ax10⟩ yy => ?_) (fun σ Hb ⟨⟨y10, y11, y12, y13, y14, y15, es⟩, sb, xs1, ex1, ax1⟩ => ?_)⟩
        · subst es
          obtain ⟨tt, _, pv, rfl, htt, rfl, eq1, hpv⟩ := yy
          cases eq1
          have snew : Same Hb0 (upd Hb0 tt (.tup [.int (j : Nat), pv])) := Same.new htt
          have ett : upd Hb0 tt (.tup [.int (j : Nat), pv]) tt = some (.tup [.int (j : Nat), pv]) := upd_same
          generalize upd Hb0 tt (.tup [.int (j : Nat), pv]) = Hb at *
          have sb := sb0.trans snew
          have ex1 := snew _ _ ex10
          have ax1 := ax10.same snew
          clear sb0 ex10 ax10
          have sB := s2.trans sb
          obtain ⟨dd, hdd, dpv⟩ := heA.getv hpv
          rw [List.getElem?_map] at hdd
          obtain ⟨c1, hc1, rfl⟩ := Option.map_eq_some_iff.mp hdd
          obtain ⟨tc, cb, cj, ca, rfl, tcT, cbT, cbA, cjT⟩ := (dpv.same sB).wcI
          have cok := sok.co c1 (List.mem_of_getElem? hc1)
          have hxB := sB _ _ hx
          have wvB := wv.same sB
          refine s_gtup (SqT.of ett) rfl ?_
          walk_at "rz"
          refine s_gtup tcT rfl ?_
          walk_at "rz"
          rename_i q1 hq1 Hc sc ec
          refine s_eq0T (sc.sqT cbT) (SqT.of ec) ?_
          cases hg : c1.ca.getLast? with
          | none =>
            rw [ca_none cbA hg]
            have ein : c1.inner P = 0 := by unfold Wc.inner; rw [hg]
            walk_at "rz"
            refine ⟨x, D, P, n, z, rfl, wvB.same sc, hz, fun Hd sd => ?_⟩
            walk_at "rz"
            refine ⟨_, _, rfl, ?_⟩
            walk_at "rz"
            rw [show (if (0 : Int) > c1.ba then (0 : Int) else c1.ba) = (if c1.inner P > c1.ba then c1.inner P else c1.ba) by rw [ein], max_dec]
            have fl : (if c1.lets P z = true then [(c1, j)] else []) = (if c1.lets P z = true then [(c1, j)] else ([] : List (Wc × Nat))) := rfl
            have hmx := filt_next (fun x : Wc × Nat => x.1.lets P z) hc1
            have pre := begs_len (P := P) (s := s) (by omega) (s.wa.take i)
            have pre2 := filt_len (fun x : Wc × Nat => x.1.lets P z) s.cs j
            rw [List.length_take] at pre
            have la := ax1.len
            rw [List.length_map, List.length_append, List.length_map] at la
            refine ite_b (fun hlt => ?_) (fun hlt => ?_)
            · have hl2 : c1.lets P z = true := hlt
              rw [if_pos (show (fun x : Wc × Nat => x.1.lets P z) (c1, j) = true from hl2)] at hmx
              walk_at "rz"
              refine s_tyL ((sc.trans sd) _ _ ex1) ?_
              walk_at "rz"
              rename_i pw hpw Hw sw ew
              have sbw := (sc.trans sd).trans sw
              have exw := sbw _ _ ex1
              refine s_append exw (by rw [sizeLine_eq]; omega) ?_
              have tk := tk_upd (o := .lst (xs1 ++ [.ref pw])) exw
              walk_at "rz"
              refine ⟨⟨_, _, _, _, _, _, rfl⟩, same_put (sb.trans sbw) hl20, _, upd_same, ?_⟩
              rw [hmx, List.map_append (f := fun x : Wc × Nat => Mv.beg z x.2), ← List.append_assoc, List.map_append (f := dMv)]
              exact ((ax1.same sbw).tk tk (tds_mv _)).app (.cons (tk.sqT (SqT.of ew) |> fun h => .tup h (.cons (.str _) (.cons (.str _) (.cons (.int _) .nil)))) .nil)
            · have hl2 : c1.lets P z = false := hlt
              rw [if_neg (show ¬ (fun x : Wc × Nat => x.1.lets P z) (c1, j) = true by rw [show (fun x : Wc × Nat => x.1.lets P z) (c1, j) = false from hl2]; exact Bool.false_ne_true), List.append_nil] at hmx
              walk_at "rz"
              refine ⟨⟨_, _, _, _, _, _, rfl⟩, sb.trans (sc.trans sd), xs1, (sc.trans sd) _ _ ex1, ?_⟩
              rw [hmx]
              exact ax1.same (sc.trans sd)
          | some y =>
            obtain ⟨zs, ty, rfl, hzs, hty⟩ := ca_last cbA hg
            obtain ⟨yz, yi⟩ := cok.cz y (getLast_mem hg)
            have ein : c1.inner P = (P.ln y.1).rk := by unfold Wc.inner; rw [hg]
            rw [show (zs ++ [V.ref ty]).isEmpty = false by cases zs <;> rfl]
            walk_at "rz"
            refine s_ixT (sc.sqT cbT) atI_last ?_
            have hty2 := sc.sqT hty
            walk_at "rz"
            refine ⟨x, D, P, n, y.1, rfl, wvB.same sc, yz, fun He se => ?_⟩
            walk_at "rz"
            refine ⟨x, D, P, n, z, rfl, (wvB.same sc).same se, hz, fun Hd sd => ?_⟩
            walk_at "rz"
            refine ⟨_, _, rfl, ?_⟩
            walk_at "rz"
            rw [show (if (P.ln y.1).rk > c1.ba then (P.ln y.1).rk else c1.ba) = (if c1.inner P > c1.ba then c1.inner P else c1.ba) by rw [ein], max_dec]
            have fl : (if c1.lets P z = true then [(c1, j)] else []) = (if c1.lets P z = true then [(c1, j)] else ([] : List (Wc × Nat))) := rfl
            have hmx := filt_next (fun x : Wc × Nat => x.1.lets P z) hc1
            have pre := begs_len (P := P) (s := s) (by omega) (s.wa.take i)
            have pre2 := filt_len (fun x : Wc × Nat => x.1.lets P z) s.cs j
            rw [List.length_take] at pre
            have la := ax1.len
            rw [List.length_map, List.length_append, List.length_map] at la
            refine ite_b (fun hlt => ?_) (fun hlt => ?_)
            · have hl2 : c1.lets P z = true := hlt
              rw [if_pos (show (fun x : Wc × Nat => x.1.lets P z) (c1, j) = true from hl2)] at hmx
              walk_at "rz"
              refine s_tyL (((sc.trans se).trans sd) _ _ ex1) ?_
              walk_at "rz"
              rename_i pw hpw Hw sw ew
              have sbw := ((sc.trans se).trans sd).trans sw
              have exw := sbw _ _ ex1
              refine s_append exw (by rw [sizeLine_eq]; omega) ?_
              have tk := tk_upd (o := .lst (xs1 ++ [.ref pw])) exw
              walk_at "rz"
              refine ⟨⟨_, _, _, _, _, _, rfl⟩, same_put (sb.trans sbw) hl20, _, upd_same, ?_⟩
              rw [hmx, List.map_append (f := fun x : Wc × Nat => Mv.beg z x.2), ← List.append_assoc, List.map_append (f := dMv)]
              exact ((ax1.same sbw).tk tk (tds_mv _)).app (.cons (tk.sqT (SqT.of ew) |> fun h => .tup h (.cons (.str _) (.cons (.str _) (.cons (.int _) .nil)))) .nil)
            · have hl2 : c1.lets P z = false := hlt
              rw [if_neg (show ¬ (fun x : Wc × Nat => x.1.lets P z) (c1, j) = true by rw [show (fun x : Wc × Nat => x.1.lets P z) (c1, j) = false from hl2]; exact Bool.false_ne_true), List.append_nil] at hmx
              walk_at "rz"
              refine ⟨⟨_, _, _, _, _, _, rfl⟩, sb.trans ((sc.trans se).trans sd), xs1, ((sc.trans se).trans sd) _ _ ex1, ?_⟩
              rw [hmx]
              exact ax1.same ((sc.trans se).trans sd)
        · subst es
          walk_at "rz"
          refine ⟨⟨_, _, _, _, _, _, _, rfl⟩, sb, xs1, ex1, ?_⟩
          rw [bg, bg2]
          rw [lce, ← List.length_zipIdx (l := s.cs) (i := 0), List.take_length] at ax1
          exact ax1
      · have hfree : s.free (.inr z) = false := by rw [fr0, show (!decide (z ∈ s.busy)) = false from h2, Bool.and_false]
        walk_at "rz"
        refine ⟨⟨_, _, _, _, _, _, _, rfl⟩, sa, xs, ex, ?_⟩
        rw [bg, show s.begs P (.inr z) = [] by unfold Ws.begs; rw [if_neg (by rw [hfree]; exact Bool.false_ne_true)], List.append_nil]
        exact ax
    · have hfree : s.free (.inr z) = false := by rw [fr0, show (!inY (.inr z) s.ma) = false from h1, Bool.false_and]
      walk_at "rz"
      refine ⟨⟨_, _, _, _, _, _, _, rfl⟩, sa, xs, ex, ?_⟩
      rw [bg, show s.begs P (.inr z) = [] by unfold Ws.begs; rw [if_neg (by rw [hfree]; exact Bool.false_ne_true)], List.append_nil]
      exact ax
  subst es
  rw [List.length_map, List.take_length] at ax
  have sA := s2.trans sa
  walk_at "rz"
  refine s_enT ?_
  walk_at "rz"
  refine ⟨_, _, rfl, sA.sqT he, for_it walk_enumT (fun j σ Hb => (∃ y9 y10 y11 y12 y13 y14 y15, σ = [some (.ref x), some (.ref t), some (.ref a), some (.ref b), some (.ref c), some (.ref d), some (.ref e), some (.ref l2), some (.ref l3), y9, y10, y11, y12, y13, y14, y15, none]) ∧ Same H2 Hb ∧ ∃ xs, Hb l3 = some (.lst xs) ∧ DpAll K Hb xs ((s.wa.flatMap (s.begs P) ++ ((s.cs.zipIdx.take j).filter fun x : Wc × Nat => x.1.can P s.up).map fun x : Wc × Nat => Mv.stp x.2).map dMv))
    ⟨⟨_, _, _, _, _, _, _, rfl⟩, sa, xs, ex, by rw [List.take_zero, List.filter_nil, List.map_nil, List.append_nil]; exact ax⟩ (fun j σ Hb _ ⟨_, sb, _⟩ => (s2.trans sb).sqT he) (fun j v σ Hb0 Hb hj ⟨⟨y9, y10, y11, y12, y13, y14, y15, es⟩, sb0, xs1, ex10, ax10⟩ yy => ?_) (fun σ Hb ⟨⟨y9, y10, y11, y12, y13, y14, y15, es⟩, sb, xs1, ex1, ax1⟩ => ?_)⟩
  · subst es
    obtain ⟨tt, _, pv, rfl, htt, rfl, eq1, hpv⟩ := yy
    cases eq1
    have snew : Same Hb0 (upd Hb0 tt (.tup [.int (j : Nat), pv])) := Same.new htt
    have ett : upd Hb0 tt (.tup [.int (j : Nat), pv]) tt = some (.tup [.int (j : Nat), pv]) := upd_same
    generalize upd Hb0 tt (.tup [.int (j : Nat), pv]) = Hb at *
    have sb := sb0.trans snew
    have ex1 := snew _ _ ex10
    have ax1 := ax10.same snew
    clear sb0 ex10 ax10
    have sB := s2.trans sb
    obtain ⟨dd, hdd, dpv⟩ := heA.getv hpv
    rw [List.getElem?_map] at hdd
    obtain ⟨c1, hc1, rfl⟩ := Option.map_eq_some_iff.mp hdd
    have cok := sok.co c1 (List.mem_of_getElem? hc1)
    have hxB := sB _ _ hx
    have hmx := filt_next (fun x : Wc × Nat => x.1.can P s.up) hc1
    have pre := begs_len (P := P) (s := s) (by omega) s.wa
    have pre2 := filt_len (fun x : Wc × Nat => x.1.can P s.up) s.cs j
    have la := ax1.len
    rw [List.length_map, List.length_append, List.length_map] at la
    refine s_gtup (SqT.of ett) rfl ?_
    walk_at "rz"
    refine ⟨x, D, P, n, pv, c, c1, s.up, rfl, wv.same sB, dpv.same sB, cok, sB.sqT hc, fun Hc sc => ?_⟩
    walk_at "rz"
    refine ite_b (fun hlt => ?_) (fun hlt => ?_)
    · rw [if_pos (show (fun x : Wc × Nat => x.1.can P s.up) (c1, j) = true from hlt)] at hmx
      walk_at "rz"
      refine s_tyL (sc _ _ ex1) ?_
      walk_at "rz"
      rename_i pw hpw Hw sw ew
      have sbw := sc.trans sw
      have exw := sbw _ _ ex1
      refine s_append exw (by rw [sizeLine_eq]; omega) ?_
      have tk := tk_upd (o := .lst (xs1 ++ [.ref pw])) exw
      walk_at "rz"
      refine ⟨⟨_, _, _, _, _, _, _, rfl⟩, same_put (sb.trans sbw) hl20, _, upd_same, ?_⟩
      rw [hmx, List.map_append (f := fun x : Wc × Nat => Mv.stp x.2), ← List.append_assoc, List.map_append (f := dMv)]
      exact ((ax1.same sbw).tk tk (tds_mv _)).app (.cons (.tup (tk.sqT (SqT.of ew)) (.cons (.str _) (.cons (.int _) .nil))) .nil)
    · rw [if_neg (show ¬ (fun x : Wc × Nat => x.1.can P s.up) (c1, j) = true by rw [show (fun x : Wc × Nat => x.1.can P s.up) (c1, j) = false from hlt]; exact Bool.false_ne_true), List.append_nil] at hmx
      walk_at "rz"
      refine ⟨⟨_, _, _, _, _, _, _, rfl⟩, sb.trans sc, xs1, sc _ _ ex1, ?_⟩
      rw [hmx]
      exact ax1.same sc
  · subst es
    rw [lce, ← List.length_zipIdx (l := s.cs) (i := 0), List.take_length] at ax1
    walk_at "rz"
    exact q Hb l3 xs1 (s2.trans sb) (same_none s2 hl20) ex1 ax1
end
set_option maxHeartbeats 4000000
open PySem PySem.Spec PyProof.Rows L2 Z
open He (ga ma)
def spWBegun (K : Fg) : Sp := fun vs H Q _ => ∃ x D P n v, ∃ s : Ws, ∃ z : Str, ∃ j : Nat, vs = [.ref x, v, .str z, .int (j : Nat)] ∧ WvAt K H x D P n ∧ Dp K H v (dWs s) ∧ s.Ok P n ∧ z ∈ P.names ∧ j < n ∧ ∀ v' H', Same H H' → Dp K H' v' (dWs (s.after P (.beg z j))) → Q v' H'
def spWBehind (K : Fg) : Sp := fun vs H Q _ => ∃ x D P n v, ∃ s : Ws, ∃ m : Mv, ∃ u, vs = [.ref x, v, u] ∧ WvAt K H x D P n ∧ Dp K H v (dWs s) ∧ s.Ok P n ∧ Dp K H u (dMv m) ∧ m ∈ s.moves P ∧ ∀ v' H', Same H H' → Dp K H' v' (dWs (s.after P m)) → Q v' H'
section
variable {P : Program} {w : World} {K : Fg} {mg : Str → Option Value} {base : Heap}
theorem ok_Weaver_begun (T : Txt K mg) : FnOk P w K mg base (L2.CX P w) 4 (ma K (ga K "Weaver") "begun") (fdOf K (ma K (ga K "Weaver") "begun")) ["self", "state", "line", "number"] (spWBegun K) := by
  refine FunD.ok T.F_Weaver_begun sc_Weaver_begun (fun vs H Q E h => ?_) (fun cdv A outer s H vs Q E hr h => ⟨_, PSs.nox (pss_cons (ps_asg (pv 1) (kGT K (pg_tup (n := 5) rfl (pgs_cons (zg 4 sc_Weaver_begun.nd) (pgs_cons (zg 5 sc_Weaver_begun.nd) (pgs_cons (zg 6 sc_Weaver_begun.nd) (pgs_cons (zg 7 sc_Weaver_begun.nd) (pgs_cons (zg 8 sc_Weaver_begun.nd) pgs_nil))))))))
      (pss_cons (ps_asg (pe_ix (ix_tupK K) (pv 8) (pv 3) (fun _ _ => rfl)) (kGT K (pg_tup (n := 3) rfl (pgs_cons (zg 9 sc_Weaver_begun.nd) (pgs_cons (zg 10 sc_Weaver_begun.nd) (pgs_cons (zg 11 sc_Weaver_begun.nd) pgs_nil))))))
      (pss_cons (ps_setLc (i := 12) (own := [("row", 15)]) rfl sc_Weaver_begun.nd rfl rfl (sw_true rfl rfl rfl (by decide +kernel)) (kIT K (pi_tup (z_prop (kFld K (pe_fld (pv 0) rfl)) T.cl_Setup T.p_Setup_lines (ok_Setup_lines T) T.c_Setup_lines (hr.mono (by decide)) rfl))) (blkOk_by (own := [("row", 15)]) (N := n_Weaver_begun) (sc := defScope s_Weaver_begun) (by decide +kernel)) (fun _ _ _ _ _ => (zg 15 sc_Weaver_begun.nd)) (fun _ _ _ _ _ => pts_nil) (fun _ _ _ _ _ => (pe_ix (ix_tupK K) (pv 15) pe_int (fun _ _ => rfl))))
      (pss_cons (zset 13 sc_Weaver_begun.nd (pe_callTy (call_tuple_ofK K) (by rfl) T.u_tuple (by decide +kernel) (pa_cons (pe_lc (own := [("name", 16), ("many", 17)]) rfl sc_Weaver_begun.nd (kIZM K (pi_zipM (by rfl) T.u_zip (pa_cons (pv 12) (pa_cons (pv 7) pa_nil)))) (blkOk_by (own := [("name", 16), ("many", 17)]) (N := n_Weaver_begun) (sc := defScope s_Weaver_begun) (by decide +kernel)) (fun _ _ _ _ _ => (kGT K (pg_tup (n := 2) rfl (pgs_cons (zg 16 sc_Weaver_begun.nd) (pgs_cons (zg 17 sc_Weaver_begun.nd) pgs_nil))))) (fun _ _ _ _ _ => pts_nil) (fun _ _ _ _ _ => (pe_op op_add (pv 17) (pe_callTy call_int1 (by rfl) T.u_int (by decide +kernel) (pa_cons (pe_cmpR op_eq (pv 16) (pv 2) (nomark _)) pa_nil))))) pa_nil)))
      (pss_cons (zset 14 sc_Weaver_begun.nd (z_meth (pv 0) T.cl_Weaver T.m_Weaver_changed (ok_Weaver_changed T) T.c_Weaver_changed (hr.mono (by decide)) passL (pa_cons (pv 8) (pa_cons (pv 3) (pa_cons (pe_tup (pa_cons (pe_op (op_catAK K) (pv 9) (pe_tup (pa_cons (pe_tup (pa_cons (pv 2) (pa_cons pe_int (pa_cons (pv 10) pa_nil)))) pa_nil))) (pa_cons (pv 10) (pa_cons (pv 11) pa_nil)))) pa_nil)))))
      (pss_one (ps_ret (pe_tup (pa_cons (z_call (ok_put_in T) T.c_put_in (hr.mono (by decide)) rfl T.g_put_in passL (pa_cons (pv 4) (pa_cons (pv 2) (pa_cons pe_bl pa_nil)))) (pa_cons (pv 5) (pa_cons (pv 6) (pa_cons (pv 13) (pa_cons (pv 14) pa_nil))))))))))))), ?_⟩)
  · obtain ⟨x, D, P, n, v, s, z, j, rfl, _⟩ := h
    rfl
  obtain ⟨x, D, P, n, v, s, z, j, rfl, wv, dv, sok, hz, hj, q⟩ := h
  obtain ⟨t, a, b, c, d, e, ce, rfl, hT, ha, hb, hc, hd, he, heA⟩ := dv.wsI
  obtain ⟨dx, hx⟩ := wv.ins
  have pl := wv.pl
  obtain ⟨dp, pa, pb, hp, hpa, _⟩ := pl.ins
  have ok := pl.ok
  have lce : ce.length = s.cs.length := by rw [heA.len, List.length_map]
  have lcs := sok.cs
  have n6 := wv.n6
  obtain ⟨lwa, lma, lup, lbe⟩ := sok.walen ok
  have hj2 : j < s.cs.length := by omega
  have hc1 : s.cs[j]? = some s.cs[j] := List.getElem?_eq_getElem hj2
  obtain ⟨pv, hpv, dpv⟩ := heA.get (i := j) (x := dWc s.cs[j]) (by rw [List.getElem?_map, hc1]; rfl)
  have cok := sok.co _ (List.getElem_mem hj2)
  generalize hcj : s.cs[j] = c1 at *
  obtain ⟨tc, cb, cj, ca, rfl, tcT, cbT, cbA, cjT⟩ := dpv.wcI
  show (_ : TS) _ (some (.ref x) :: some (.ref t) :: some (.str z) :: some (.int (j : Nat)) :: List.replicate 14 none) H
  try dsimp only [cxOf]
  dsimp only [List.replicate]
  walk_at "rz"
  refine s_gtup hT rfl ?_
  walk_at "rz"
  refine s_ixT he (at_of (j := j) rfl hpv) ?_
  refine s_gtup tcT rfl ?_
  walk_at "rz"
  refine ⟨D, P, rfl, pl, fun b2 db2 => ?_⟩
  obtain ⟨_, ls, eb, hlT, hlA⟩ := db2.tupI
  cases eb
  have l12 := ok.l12
  refine lcT_d (l := P.ls) (da := dLn) hlT hlA (fun _ => true) (fun l => .str l.nm) (by omega) (fun _ _ => rfl) (fun l v H2 Yes No hl2 s2 dv yes no => ?_) (fun l2 H2 ys hl2 s2 e2 a2 => ?_)
  · obtain ⟨tl, st, sv, rfl, htl, _, _⟩ := dv.lnI
    walk_at "rz"
    refine ⟨rfl, ?_⟩
    walk_at "rz"
    exact yes rfl _ _ (Same.refl _) (.str _)
  have a3 : DpAll K H2 ys (P.names.map PyData.str) := by
    have e : (P.ls.filter fun _ => true) = P.ls := List.filter_eq_self.mpr fun _ _ => rfl
    rw [e] at a2
    rw [show P.names.map PyData.str = P.ls.map fun l => PyData.str l.nm by rw [Pl.names, List.map_map]; rfl]
    exact a2
  walk_at "rz"
  refine s_zipM ?_
  walk_at "rz"
  refine ⟨_, _, _, _, rfl, SqL.of e2, s2.sqT hd, lcZM_d (l := P.names) (m := s.be) (SqL.of e2) a3 (s2.sqT hd) (dp_intsW _) sok.be.symm (fun p => .int (p.2 + if p.1 = z then 1 else 0)) (by have := ok.len; omega) (fun _ => rfl) (fun i y k v u tt H3 Yes No hi1 hi2 s3 dy dk htt yes => ?_) (fun l3 H3 zs hl3 s3 e3 a3 => ?_)⟩
  · cases dy
    cases dk
    refine s_gtup htt rfl ?_
    walk_at "rz"
    refine ⟨rfl, ?_⟩
    walk_at "rz"
    refine yes _ _ (Same.refl _) ?_
    rw [vstr_dec]
    by_cases h : y = z
    · rw [if_pos (decide_eq_true h), if_pos h]
      exact .int _
    · rw [if_neg (by simpa using h), if_neg h]
      exact .int _
  have a4 : zs = (bumpB P s.be z).map V.int := by
    refine dp_ints (K := K) (H := H3) ?_
    unfold bumpB
    rw [List.map_map]
    exact a3
  subst a4
  walk_at "rz"
  refine ⟨l3, _, rfl, .inl ⟨SqL.of e3, fun t4 ht4 => ?_⟩⟩
  generalize eH : upd H3 t4 _ = H4
  have s4 := newS ht4 eH
  have e4 := newE eH
  clear eH
  have s04 := (s2.trans s3).trans s4
  have hx4 := s04 _ _ hx
  walk_at "rz"
  rename_i t5 ht5 H5 s5 e5 t6 ht6 H6 s6 e6
  have s06 := (s04.trans s5).trans s6
  have calen := cok.calen ok
  have lca : ca.length = c1.ca.length := by rw [cbA.len, List.length_map]
  refine s_catW (s06.sqT cbT) (SqT.of e6) (by rw [sizeLine_eq]; show _ + 1 ≤ _; omega) fun t7 H7 s7 e7 => ?_
  walk_at "rz"
  rename_i t8 ht8 H8 s8 e8
  have s08 := (s06.trans s7).trans s8
  have dcl : Dp K H8 (.ref t5) (dCl (z, 0, c1.ba)) := .tup (SqT.of ((s6.trans (s7.trans s8)) _ _ e5)) (.cons (.str _) (.cons (.int _) (.cons (.int _) .nil)))
  have dwc : Dp K H8 (.ref t8) (dWc { c1 with ca := c1.ca ++ [(z, 0, c1.ba)] }) := by
    refine Dp.wcR (s := { c1 with ca := c1.ca ++ [(z, 0, c1.ba)] }) (SqT.of e8) (s8.sqT e7) ?_ (s08.sqT cjT)
    rw [List.map_append]
    exact (cbA.same s08).app (.cons dcl .nil)
  refine ⟨x, D, P, n, e, _, j, s.cs, _, rfl, wv.same s08, .tup (s08.sqT he) (heA.same s08), hj2, by omega, dwc, fun t9 H9 s9 d9 => ?_⟩
  walk_at "rz"
  have s09 := s08.trans s9
  refine ⟨a, s.wa, .inr z, false, rfl, s09.sqT ha, KSub.kind sok.wa (List.mem_map_of_mem hz), by omega, fun tA HA sA eA => ?_⟩
  walk_at "rz"
  rename_i tB htB HB sB eB
  have s0B := (s09.trans sA).trans sB
  obtain ⟨_, ce2, ec2, c2T, c2A⟩ := d9.tupI
  cases ec2
  have ea : s.after P (.beg z j) = { s with wa := wPut s.wa (.inr z) false, be := bumpB P s.be z, cs := s.cs.set j { c1 with ca := c1.ca ++ [(z, 0, c1.ba)] } } := by
    unfold Ws.after
    simp only [hc1, Option.getD_some]
  refine q (.ref tB) HB s0B ?_
  rw [ea]
  exact Dp.wsR (s := { s with wa := wPut s.wa (.inr z) false, be := bumpB P s.be z, cs := s.cs.set j { c1 with ca := c1.ca ++ [(z, 0, c1.ba)] } }) (SqT.of eB) (sB.sqT eA) (s0B.sqT hb) (s0B.sqT hc) (SqT.of (((((s5.trans s6).trans s7).trans s8).trans (s9.trans (sA.trans sB))) _ _ e4)) ((sA.trans sB).sqT c2T) (c2A.same (sA.trans sB))
theorem _root_.Z.StepIs.barK {P : Pl} {w : Str × Key} (si : StepIs P w) (e : w.1 = "bar") : ∃ i, w.2 = .inl i := by
  cases si with
  | run i _ _ => exact ⟨i, rfl⟩
  | bar i _ _ => exact ⟨i, rfl⟩
  | later z hz => exact absurd (show ("later" : Str) = "bar" from e) (by decide)
  | flag w i hw _ _ => exact ⟨i, rfl⟩
  | line w z hw hz _ =>
    have e' : w = "bar" := e
    rw [e'] at hw
    exact absurd hw (by decide)
theorem _root_.Z.StepIs.laterS {P : Pl} {w : Str × Key} (si : StepIs P w) (e : w.1 = "later") : ∃ z, w.2 = .inr z := by
  cases si with
  | run i _ _ => exact absurd (show ("run" : Str) = "later" from e) (by decide)
  | bar i _ _ => exact absurd (show ("bar" : Str) = "later" from e) (by decide)
  | later z hz => exact ⟨z, rfl⟩
  | flag w i hw _ _ =>
    have e' : w = "later" := e
    rw [e'] at hw
    exact absurd hw (by decide)
  | line w z hw hz _ => exact ⟨z, rfl⟩
theorem if_w {c : Bool} {ta tb : TS} {D : Ends} {σ : L2.St} {H : Hp} (Ex : L2.St → Hp → Prop) (hx : ∀ σ H, Ex σ H → D.nx σ H) (h : ∀ nx : L2.St → Hp → Prop, (∀ σ H, Ex σ H → nx σ H) → if c = true then ta { D with nx := nx } σ H else tb { D with nx := nx } σ H) : if c = true then ta D σ H else tb D σ H := h D.nx hx
theorem ok_Weaver_behind (T : Txt K mg) : FnOk P w K mg base (L2.CX P w) 6 (ma K (ga K "Weaver") "behind") (fdOf K (ma K (ga K "Weaver") "behind")) ["self", "state", "move"] (spWBehind K) := by
  refine FunD.ok T.F_Weaver_behind sc_Weaver_behind (fun vs H Q E h => ?_) (fun cdv A outer s H vs Q E hr h => ⟨_, PSs.nox (pss_cons (ps_if (pt_cmpR op_eq (pe_ix (ix_tupK K) (pv 2) pe_int (fun _ _ => rfl)) pe_str (nomark _)) (pss_one (ps_ret (z_meth (pv 0) T.cl_Weaver T.m_Weaver_begun (ok_Weaver_begun T) T.c_Weaver_begun (hr.mono (by decide)) passL (pa_cons (pv 1) (pa_cons (pe_ix (ix_tupK K) (pv 2) pe_int (fun _ _ => rfl)) (pa_cons (pe_ix (ix_tupK K) (pv 2) pe_int (fun _ _ => rfl)) pa_nil)))))) pss_nil)
      (pss_cons (ps_asg (pv 1) (kGT K (pg_tup (n := 5) rfl (pgs_cons (zg 3 sc_Weaver_behind.nd) (pgs_cons (zg 4 sc_Weaver_behind.nd) (pgs_cons (zg 5 sc_Weaver_behind.nd) (pgs_cons (zg 6 sc_Weaver_behind.nd) (pgs_cons (zg 7 sc_Weaver_behind.nd) pgs_nil))))))))
      (pss_cons (ps_asg (pe_ix (ix_tupK K) (pv 7) (pe_ix (ix_tupK K) (pv 2) pe_int (fun _ _ => rfl)) (fun _ _ => rfl)) (kGT K (pg_tup (n := 3) rfl (pgs_cons (zg 8 sc_Weaver_behind.nd) (pgs_cons (zg 9 sc_Weaver_behind.nd) (pgs_cons (zg 10 sc_Weaver_behind.nd) pgs_nil))))))
      (pss_cons (ps_if (pt_cmpR (op_eq0K K hr.units) (pv 8) (pe_tup pa_nil) (nomark _)) (pss_one (ps_ret (pe_tup (pa_cons (pv 3) (pa_cons (pv 4) (pa_cons (pv 5) (pa_cons (pv 6) (pa_cons (z_meth (pv 0) T.cl_Weaver T.m_Weaver_changed (ok_Weaver_changed T) T.c_Weaver_changed (hr.mono (by decide)) passL (pa_cons (pv 7) (pa_cons (pe_ix (ix_tupK K) (pv 2) pe_int (fun _ _ => rfl)) (pa_cons (pe_tup (pa_cons (pe_tup pa_nil) (pa_cons (pv 9) (pa_cons (z_meth (pv 0) T.cl_Weaver T.m_Weaver_less (ok_Weaver_less T) T.c_Weaver_less (hr.mono (by decide)) passL (pa_cons (pv 10) pa_nil)) pa_nil)))) pa_nil)))) pa_nil)))))))) pss_nil)
      (pss_cons (ps_asg (pe_ix (ix_tupK K) (pv 8) (pe_un un_neg pe_int) (fun _ _ => rfl)) (kGT K (pg_tup (n := 3) rfl (pgs_cons (zg 11 sc_Weaver_behind.nd) (pgs_cons (zg 12 sc_Weaver_behind.nd) (pgs_cons (zg 13 sc_Weaver_behind.nd) pgs_nil))))))
      (pss_cons (ps_asg (pe_ix (ix_tupK K) (pe_ix (ix_tupK K) (z_ixO (kFld K (pe_fld (pv 0) rfl)) (pv 11) T.m_Setup_getitem.at_ T.sub_Setup T.m_Setup_getitem.fn (ok_Setup_getitem T) T.c_Setup_getitem (hr.mono (by decide)) passL) pe_int (fun _ _ => rfl)) (pv 12) (fun _ _ => rfl)) (kGT K (pg_tup (n := 2) rfl (pgs_cons (zg 14 sc_Weaver_behind.nd) (pgs_cons (zg 15 sc_Weaver_behind.nd) pgs_nil)))))
      (pss_cons (ps_if (pt_cmpR op_eq (pv 14) pe_str (nomark _)) (pss_one (zset 3 sc_Weaver_behind.nd (z_call (ok_put_in T) T.c_put_in (hr.mono (by decide)) rfl T.g_put_in passL (pa_cons (pv 3) (pa_cons (pv 15) (pa_cons pe_bl pa_nil)))))) (pss_one (ps_if (pt_cmpR (op_in_seqK K) (pv 14) (pe_tup (pa_cons pe_str (pa_cons pe_str pa_nil))) (by rfl)) (pss_one (zset 4 sc_Weaver_behind.nd (z_call (ok_put_in T) T.c_put_in (hr.mono (by decide)) rfl T.g_put_in passL (pa_cons (pv 4) (pa_cons (pv 15) (pa_cons (pe_cmpR op_eq (pv 14) pe_str (nomark _)) pa_nil)))))) (pss_one (ps_if (pt_cmpR (op_in_seqK K) (pv 14) (pe_tup (pa_cons pe_str (pa_cons pe_str pa_nil))) (by rfl)) (pss_one (zset 5 sc_Weaver_behind.nd (z_call (ok_put_in T) T.c_put_in (hr.mono (by decide)) rfl T.g_put_in passL (pa_cons (pv 5) (pa_cons (pv 15) (pa_cons (pe_cmpR op_eq (pv 14) pe_str (nomark _)) pa_nil)))))) (pss_one (ps_if (pt_cmpR op_eq (pv 14) (z_str T.i_BAR) (nomark _)) (pss_one (zset 9 sc_Weaver_behind.nd (pv 15))) (pss_one (ps_if (PW.pt (pw_and (pt_cmpR op_eq (pv 14) (z_str T.i_LATER) (nomark _)) (pw_and1 (pt_cmpR (op_notIn_seqK K) (pv 15) (pv 10) (by rfl))))) (pss_one (zset 10 sc_Weaver_behind.nd (pe_op (op_catAK K) (pv 10) (pe_tup (pa_cons (pv 15) pa_nil))))) pss_nil)))))))))
      (pss_cons (ps_if (pt_cmpR op_lt (pe_op op_add (pv 12) pe_int) (pe_callB (call_lenK K) (by rfl) T.u_len (by decide +kernel) (pa_cons (pe_ix (ix_tupK K) (z_ixO (kFld K (pe_fld (pv 0) rfl)) (pv 11) T.m_Setup_getitem.at_ T.sub_Setup T.m_Setup_getitem.fn (ok_Setup_getitem T) T.c_Setup_getitem (hr.mono (by decide)) passL) pe_int (fun _ _ => rfl)) pa_nil)) (nomark _)) (pss_one (zset 8 sc_Weaver_behind.nd (pe_op (op_catAK K) (pe_slice (sl_tupAK K) (pv 8) po_none (po_some (pe_un un_neg pe_int))) (pe_tup (pa_cons (pe_tup (pa_cons (pv 11) (pa_cons (pe_op op_add (pv 12) pe_int) (pa_cons (pv 13) pa_nil)))) pa_nil))))) (pss_one (ps_par (by rfl) sc_Weaver_behind.nd (i := 8) (j := 9) rfl rfl (by decide) rfl rfl (pa_cons (pe_slice (sl_tupAK K) (pv 8) po_none (po_some (pe_un un_neg pe_int))) (pa_cons (pv 13) pa_nil)) (by rfl))))
      (pss_one (ps_ret (pe_tup (pa_cons (pv 3) (pa_cons (pv 4) (pa_cons (pv 5) (pa_cons (pv 6) (pa_cons (z_meth (pv 0) T.cl_Weaver T.m_Weaver_changed (ok_Weaver_changed T) T.c_Weaver_changed (hr.mono (by decide)) passL (pa_cons (pv 7) (pa_cons (pe_ix (ix_tupK K) (pv 2) pe_int (fun _ _ => rfl)) (pa_cons (pe_tup (pa_cons (pv 8) (pa_cons (pv 9) (pa_cons (pv 10) pa_nil)))) pa_nil)))) pa_nil)))))))))))))))), ?_⟩)
  · obtain ⟨x, D, P, n, v, s, m, u, rfl, _⟩ := h
    rfl
  obtain ⟨x, D, P, n, v, s, m, u, rfl, wv, dv, sok, du, hm, q⟩ := h
  obtain ⟨t, a, b, c, d, e, ce, rfl, hT, ha, hb, hc, hd, he, heA⟩ := dv.wsI
  obtain ⟨dx, hx⟩ := wv.ins
  have pl := wv.pl
  obtain ⟨dp, pa, pb, hp, hpa, _⟩ := pl.ins
  have ok := pl.ok
  have lce : ce.length = s.cs.length := by rw [heA.len, List.length_map]
  have lcs := sok.cs
  have n6 := wv.n6
  obtain ⟨lwa, lma, lup, lbe⟩ := sok.walen ok
  rcases moves_mem hm with ⟨z, j, c1, rfl, ⟨k, hk, rfl, hf⟩, hj, hl⟩ | ⟨j, c1, rfl, hj, hcan⟩
  · obtain ⟨tu, us, rfl, huT, huA⟩ := du.tupI
    cases huA with | cons h1 huA => ?_
    cases huA with | cons h2 huA => ?_
    cases huA with | cons h3 huA => ?_
    cases huA
    cases h1
    cases h2
    cases h3
    obtain ⟨z, hz, rfl⟩ := List.mem_map.mp (sok.wa.sub k hk)
    have hjn : j < n := by
      have := (List.getElem?_eq_some_iff.mp hj).1
      omega
    show (_ : TS) _ (some (.ref x) :: some (.ref t) :: some (.ref tu) :: List.replicate 13 none) H
    try dsimp only [cxOf]
    dsimp only [List.replicate]
    walk_at "rz"
    exact ⟨x, D, P, n, _, s, z, j, rfl, wv, dv, sok, hz, hjn, q⟩
  obtain ⟨tu, us, rfl, huT, huA⟩ := du.tupI
  cases huA with | cons h1 huA => ?_
  cases huA with | cons h2 huA => ?_
  cases huA
  cases h1
  cases h2
  have hj2 : j < s.cs.length := (List.getElem?_eq_some_iff.mp hj).1
  obtain ⟨pv, hpv, dpv⟩ := heA.get (i := j) (x := dWc c1) (by rw [List.getElem?_map, hj]; rfl)
  have cok := sok.co _ (List.mem_of_getElem? hj)
  obtain ⟨tc, cb, cj, ca, rfl, tcT, cbT, cbA, cjT⟩ := dpv.wcI
  show (_ : TS) _ (some (.ref x) :: some (.ref t) :: some (.ref tu) :: List.replicate 13 none) H
  try dsimp only [cxOf]
  dsimp only [List.replicate]
  walk_at "rz"
  refine s_gtup hT rfl ?_
  walk_at "rz"
  refine s_ixT he (at_of (j := j) rfl hpv) ?_
  refine s_gtup tcT rfl ?_
  walk_at "rz"
  rename_i p1 hp1 H1 s1 e1
  refine s_eq0T (s1.sqT cbT) (SqT.of e1) ?_
  have jolen := cok.jolen ok
  have calen := cok.calen ok
  cases hg : c1.ca.getLast? with
  | none =>
    have ea : s.after P (.stp j) = { s with cs := s.cs.set j { c1 with jo := lessW P c1.jo } } := by
      unfold Ws.after
      simp only [hj, Option.getD_some, hg]
    rw [ca_none cbA hg]
    have jne : c1.jo ≠ [] := fun h0 => by
      unfold Wc.can at hcan
      rw [hg, h0] at hcan
      cases hcan
    walk_at "rz"
    rename_i p2 hp2 H2 s2 e2
    have s02 := s1.trans s2
    refine ⟨x, D, P, n, cj, c1.jo, rfl, wv.same s02, s02.sqT cjT, jne, by omega, cok.jw, fun p3 H3 s3 e3 => ?_⟩
    walk_at "rz"
    rename_i p4 hp4 H4 s4 e4
    have s04 := (s02.trans s3).trans s4
    have dwc : Dp K H4 (.ref p4) (dWc { c1 with jo := lessW P c1.jo }) := by
      refine Dp.wcR (s := { c1 with jo := lessW P c1.jo }) (SqT.of e4) (ca := []) (SqT.of ((s3.trans s4) _ _ e2)) ?_ (s4.sqT e3)
      rw [List.getLast?_eq_none_iff.mp hg]
      exact .nil
    refine ⟨x, D, P, n, e, _, j, s.cs, _, rfl, wv.same s04, .tup (s04.sqT he) (heA.same s04), hj2, by omega, dwc, fun t9 H9 s9 d9 => ?_⟩
    walk_at "rz"
    rename_i tB htB HB sB eB
    have s0B := (s04.trans s9).trans sB
    obtain ⟨_, ce2, ec2, c2T, c2A⟩ := d9.tupI
    cases ec2
    refine q (.ref tB) HB s0B ?_
    rw [ea]
    exact Dp.wsR (s := { s with cs := s.cs.set j { c1 with jo := lessW P c1.jo } }) (SqT.of eB) (s0B.sqT ha) (s0B.sqT hb) (s0B.sqT hc) (s0B.sqT hd) (sB.sqT c2T) (c2A.same sB)
  | some y =>
    obtain ⟨zs, ty, rfl, hzs, hty⟩ := ca_last cbA hg
    obtain ⟨yz, yi⟩ := cok.cz y (getLast_mem hg)
    have ea : s.after P (.stp j) = { s.did (stp P y) with cs := s.cs.set j (c1.gone P y.1 y.2.1 y.2.2) } := by
      unfold Ws.after
      simp only [hj, Option.getD_some, hg]
    obtain ⟨_, si⟩ := ok.stp yz yi
    have lzs : zs.length ≤ 9 := by
      have := cbA.len
      rw [List.length_append, List.length_map] at this
      omega
    have hcg : c1.gone P y.1 y.2.1 y.2.2 = (let w := stp P y
        let ba := if w.1 = "bar" then kI w.2 else c1.ba
        let jo := if w.1 = "later" ∧ kS w.2 ∉ c1.jo then c1.jo ++ [kS w.2] else c1.jo
        if y.2.1 + 1 < (P.ln y.1).st.length then ⟨c1.ca.dropLast ++ [(y.1, y.2.1 + 1, y.2.2)], ba, jo⟩ else ⟨c1.ca.dropLast, y.2.2, jo⟩) := rfl
    rw [show (zs ++ [V.ref ty]).isEmpty = false by cases zs <;> rfl]
    have cb1 := s1.sqT cbT
    have ty1 := s1.sqT hty
    have hx1 := s1 _ _ hx
    have hp1 := s1 _ _ hp
    walk_at "rz"
    refine s_ixT cb1 atI_last ?_
    refine s_gtup ty1 rfl ?_
    walk_at "rz"
    refine ⟨D, y.1, P, rfl, pl.same s1, yz, fun v dv => ?_⟩
    obtain ⟨tl, st, sv, rfl, htl, hst, hsv⟩ := dv.lnI
    obtain ⟨sy0, hsy, tsy⟩ := Dp.stpI ok yz yi hsv
    have lsv : sv.length = (P.ln y.1).st.length := by rw [hsv.len, List.length_map]
    walk_at "rz"
    refine s_ixT hst (at_of (j := y.2.1) rfl hsy) ?_
    generalize hw : stp P y = w at *
    obtain ⟨wd, vl⟩ := w
    dsimp only at hcg tsy
    generalize hba : (if wd = "bar" then kI vl else c1.ba) = ba1 at hcg
    generalize hjo : (if wd = "later" ∧ kS vl ∉ c1.jo then c1.jo ++ [kS vl] else c1.jo) = jo1 at hcg
    refine s_gtup tsy rfl ?_
    walk_at "rz"
    refine if_w (fun σ Hy => ∃ a2 b2 c2 j2, σ = [some (.ref x), some (.ref t), some (.ref tu), some (.ref a2), some (.ref b2), some (.ref c2), some (.ref d), some (.ref e), some (.ref cb), some (.int ba1), some (.ref j2), some (.str y.1), some (.int (y.2.1 : Nat)), some (.int y.2.2), some (.str wd), some (kV vl)] ∧ Same H1 Hy ∧ SqT K Hy a2 ((s.did (wd, vl)).wa.map kV) ∧ SqT K Hy b2 ((s.did (wd, vl)).ma.map kV) ∧ SqT K Hy c2 ((s.did (wd, vl)).up.map kV) ∧ SqT K Hy j2 (jo1.map V.str)) ?rest (fun nx hx => ?br)
    case rest =>
      rintro σ Hy ⟨a2, b2, c2, j2, rfl, sy1, aT, bT, cT, jT⟩
      have sy := s1.trans sy1
      have hxy := sy _ _ hx
      have hpy := sy _ _ hp
      have sty := sy1.sqT hst
      walk_at "rz"
      refine ⟨D, y.1, P, rfl, pl.same sy, yz, fun v dv2 => ?_⟩
      obtain ⟨tl2, st2, sv2, rfl, htl2, hst2, hsv2⟩ := dv2.lnI
      have lsv2 : sv2.length = (P.ln y.1).st.length := by rw [hsv2.len, List.length_map]
      walk_at "rz"
      refine s_lenT hst2 ?_
      rw [lsv2]
      walk_at "rz"
      have cby := sy.sqT cbT
      refine ite_b (fun hlt => ?_) (fun hlt => ?_)
      · have hlt2 : y.2.1 + 1 < (P.ln y.1).st.length := by
          have := of_decide_eq_true hlt
          omega
        have hgone : c1.gone P y.1 y.2.1 y.2.2 = ⟨c1.ca.dropLast ++ [(y.1, y.2.1 + 1, y.2.2)], ba1, jo1⟩ := by rw [hcg, if_pos hlt2]
        walk_at "rz"
        refine s_slA cby fun k2a K2 k2 f2 => ?_
        rw [cut_initW] at f2
        walk_at "rz"
        rename_i k3a hk3 K3 k3 f3 k4a hk4 K4 k4 f4
        refine s_catW ((k3.trans k4).sqT f2) (SqT.of f4) (by rw [sizeLine_eq]; show _ + 1 ≤ _; omega) fun k5a K5 k5 f5 => ?_
        have dcl : Dp K K4 (.ref k3a) (dCl (y.1, y.2.1 + 1, y.2.2)) := .tup (SqT.of (k4 _ _ f3)) (.cons (.str _) (.cons (by rw [show ((y.2.1 : Nat) : Int) + 1 = ((y.2.1 + 1 : Nat) : Int) by omega]; exact .int _) (.cons (.int _) .nil)))
        walk_at "rz"
        rename_i q8 hq8 K8 r8 f8
        have r08 := (((k2.trans k3).trans k4).trans k5).trans r8
        have dwc : Dp K K8 (.ref q8) (dWc (⟨c1.ca.dropLast ++ [(y.1, y.2.1 + 1, y.2.2)], ba1, jo1⟩ : Wc)) := Dp.wcR (s := (⟨c1.ca.dropLast ++ [(y.1, y.2.1 + 1, y.2.2)], ba1, jo1⟩ : Wc)) (SqT.of f8) (r8.sqT f5) ((by rw [List.map_append]; exact (hzs.same (sy.trans r08)).app (.cons (dcl.same (k5.trans r8)) .nil))) (((((k2.trans k3).trans k4).trans k5).trans r8).sqT jT)
        refine ⟨x, D, P, n, e, _, j, s.cs, _, rfl, wv.same (sy.trans r08), .tup ((sy.trans r08).sqT he) (heA.same (sy.trans r08)), hj2, by omega, dwc, fun q9 K9 r9 d9 => ?_⟩
        walk_at "rz"
        rename_i qA hqA KA rA fA
        have r0A := (r08.trans r9).trans rA
        obtain ⟨_, ce2, ec2, c2T, c2A⟩ := d9.tupI
        cases ec2
        refine q (.ref qA) KA (sy.trans r0A) ?_
        rw [ea]
        exact Dp.wsR (s := { s.did (wd, vl) with cs := s.cs.set j (c1.gone P y.1 y.2.1 y.2.2) }) (SqT.of fA) (r0A.sqT aT) (r0A.sqT bT) (r0A.sqT cT) ((sy.trans r0A).sqT hd) (rA.sqT c2T) (by rw [hgone]; exact c2A.same rA)
      · have hlt2 : ¬ y.2.1 + 1 < (P.ln y.1).st.length := by
          have := of_decide_eq_false hlt
          omega
        have hgone : c1.gone P y.1 y.2.1 y.2.2 = ⟨c1.ca.dropLast, y.2.2, jo1⟩ := by rw [hcg, if_neg hlt2]
        walk_at "rz"
        refine s_slA cby fun k2a K2 k2 f2 => ?_
        rw [cut_initW] at f2
        walk_at "rz"
        rename_i q8 hq8 K8 r8 f8
        have r08 := (k2).trans r8
        have dwc : Dp K K8 (.ref q8) (dWc (⟨c1.ca.dropLast, y.2.2, jo1⟩ : Wc)) := Dp.wcR (s := (⟨c1.ca.dropLast, y.2.2, jo1⟩ : Wc)) (SqT.of f8) (r8.sqT f2) ((hzs.same (sy.trans r08))) ((k2.trans r8).sqT jT)
        refine ⟨x, D, P, n, e, _, j, s.cs, _, rfl, wv.same (sy.trans r08), .tup ((sy.trans r08).sqT he) (heA.same (sy.trans r08)), hj2, by omega, dwc, fun q9 K9 r9 d9 => ?_⟩
        walk_at "rz"
        rename_i qA hqA KA rA fA
        have r0A := (r08.trans r9).trans rA
        obtain ⟨_, ce2, ec2, c2T, c2A⟩ := d9.tupI
        cases ec2
        refine q (.ref qA) KA (sy.trans r0A) ?_
        rw [ea]
        exact Dp.wsR (s := { s.did (wd, vl) with cs := s.cs.set j (c1.gone P y.1 y.2.1 y.2.2) }) (SqT.of fA) (r0A.sqT aT) (r0A.sqT bT) (r0A.sqT cT) ((sy.trans r0A).sqT hd) (rA.sqT c2T) (by rw [hgone]; exact c2A.same rA)
    case br =>
      have pos : ∀ {σ : L2.St} {Hy : Hp}, (∃ a2 b2 c2 j2, σ = [some (.ref x), some (.ref t), some (.ref tu), some (.ref a2), some (.ref b2), some (.ref c2), some (.ref d), some (.ref e), some (.ref cb), some (.int ba1), some (.ref j2), some (.str y.1), some (.int (y.2.1 : Nat)), some (.int y.2.2), some (.str wd), some (kV vl)] ∧ Same H1 Hy ∧ SqT K Hy a2 ((s.did (wd, vl)).wa.map kV) ∧ SqT K Hy b2 ((s.did (wd, vl)).ma.map kV) ∧ SqT K Hy c2 ((s.did (wd, vl)).up.map kV) ∧ SqT K Hy j2 (jo1.map V.str)) → nx σ Hy := fun h => hx _ _ h
      have ha1 := s1.sqT ha
      have hb1 := s1.sqT hb
      have hc1 := s1.sqT hc
      have cj1 := s1.sqT cjT
      rw [vstr_dec]
      refine ite_b (fun w1 => ?_) (fun w1 => ?_)
      · have w1 : wd = "ring" := of_decide_eq_true w1
        subst w1
        rw [if_neg (by decide)] at hba
        rw [if_neg (fun h => absurd h.1 (by decide))] at hjo
        subst hba hjo
        have hk2 := si.lineK (q := "ring") rfl (by decide)
        walk_at "rz"
        refine ⟨a, s.wa, vl, true, rfl, ha1, KSub.kind sok.wa hk2, by omega, fun t2 H2 s2 h2 => ?_⟩
        walk_at "rz"
        refine pos ⟨_, _, _, _, rfl, s2, ?_, ?_, ?_, s2.sqT cj1⟩
        · exact h2
        · exact s2.sqT hb1
        · exact s2.sqT hc1
      have w1 : ¬ wd = "ring" := of_decide_eq_false w1
      have dwa : (s.did (wd, vl)).wa = s.wa := if_neg w1
      rw [dwa] at pos
      walk_at "rz"
      rename_i t2 ht2 H2 s2 e2
      refine s_in (.inr (SqT.of e2)) rfl rfl ?_
      rw [show inV (V.str wd) [V.str "mask", V.str "unmask"] = decide (wd ∈ (["mask", "unmask"] : List Str)) from inV_strs (l := ["mask", "unmask"])]
      walk_at "rz"
      refine ite_b (fun w2 => ?_) (fun w2 => ?_)
      · have w2 : wd ∈ (["mask", "unmask"] : List Str) := of_decide_eq_true w2
        have w2' : wd = "mask" ∨ wd = "unmask" := by simpa using w2
        have w3 : wd ∈ (["ring", "mask", "unmask"] : List Str) := List.mem_cons_of_mem _ w2
        have nb : wd ≠ "bar" := fun h => by rw [h] at w2; exact absurd w2 (by decide)
        have nl : wd ≠ "later" := fun h => by rw [h] at w2; exact absurd w2 (by decide)
        have nf : ¬ (wd = "set" ∨ wd = "clear") := fun h => by rcases h with h | h <;> (rw [h] at w2; exact absurd w2 (by decide))
        rw [if_neg nb] at hba
        rw [if_neg (fun h => nl h.1)] at hjo
        subst hba hjo
        have dma : (s.did (wd, vl)).ma = wPut s.ma vl (decide (wd = "mask")) := if_pos w2'
        have dup : (s.did (wd, vl)).up = s.up := if_neg nf
        rw [dma, dup] at pos
        have hk2 := si.lineK rfl w3
        walk_at "rz"
        rw [vstr_dec]
        refine ⟨b, s.ma, vl, decide (wd = "mask"), rfl, s2.sqT hb1, KSub.kind sok.ma hk2, by omega, fun t3 H3 s3 h3 => ?_⟩
        walk_at "rz"
        have s13 := s2.trans s3
        exact pos ⟨_, _, _, _, rfl, s13, s13.sqT ha1, h3, s13.sqT hc1, s13.sqT cj1⟩
      have w2 : ¬ wd ∈ (["mask", "unmask"] : List Str) := of_decide_eq_false w2
      have w2' : ¬ (wd = "mask" ∨ wd = "unmask") := by simpa using w2
      have dma : (s.did (wd, vl)).ma = s.ma := if_neg w2'
      rw [dma] at pos
      walk_at "rz"
      rename_i t3 ht3 H3 s3 e3
      have s13 := s2.trans s3
      refine s_in (.inr (SqT.of e3)) rfl rfl ?_
      rw [show inV (V.str wd) [V.str "set", V.str "clear"] = decide (wd ∈ (["set", "clear"] : List Str)) from inV_strs (l := ["set", "clear"])]
      walk_at "rz"
      refine ite_b (fun w3 => ?_) (fun w3 => ?_)
      · have w3 : wd ∈ (["set", "clear"] : List Str) := of_decide_eq_true w3
        have w3' : wd = "set" ∨ wd = "clear" := by simpa using w3
        have nb : wd ≠ "bar" := fun h => by rw [h] at w3; exact absurd w3 (by decide)
        have nl : wd ≠ "later" := fun h => by rw [h] at w3; exact absurd w3 (by decide)
        rw [if_neg nb] at hba
        rw [if_neg (fun h => nl h.1)] at hjo
        subst hba hjo
        have dup : (s.did (wd, vl)).up = wPut s.up vl (decide (wd = "set")) := if_pos w3'
        rw [dup] at pos
        have hk2 := si.flagK rfl w3
        walk_at "rz"
        rw [vstr_dec]
        refine ⟨c, s.up, vl, decide (wd = "set"), rfl, s13.sqT hc1, KSub.kindF sok.up hk2, by omega, fun t4 H4 s4 h4 => ?_⟩
        walk_at "rz"
        have s14 := s13.trans s4
        exact pos ⟨_, _, _, _, rfl, s14, s14.sqT ha1, s14.sqT hb1, h4, s14.sqT cj1⟩
      have w3 : ¬ wd ∈ (["set", "clear"] : List Str) := of_decide_eq_false w3
      have w3' : ¬ (wd = "set" ∨ wd = "clear") := by simpa using w3
      have dup : (s.did (wd, vl)).up = s.up := if_neg w3'
      rw [dup] at pos
      walk_at "rz"
      rw [vstr_dec]
      refine ite_b (fun w4 => ?_) (fun w4 => ?_)
      · have w4 : wd = "bar" := of_decide_eq_true w4
        subst w4
        rw [if_neg (fun h => absurd h.1 (by decide))] at hjo
        rw [if_pos rfl] at hba
        obtain ⟨i, rfl⟩ : ∃ i, vl = .inl i := si.barK rfl
        subst hba hjo
        walk_at "rz"
        exact pos ⟨_, _, _, _, rfl, s13, s13.sqT ha1, s13.sqT hb1, s13.sqT hc1, s13.sqT cj1⟩
      have w4 : ¬ wd = "bar" := of_decide_eq_false w4
      rw [if_neg w4] at hba
      subst hba
      walk_at "rz"
      rw [vstr_dec]
      refine ite_b (fun w5 => ?_) (fun w5 => ?_)
      · have w5 : wd = "later" := of_decide_eq_true w5
        subst w5
        obtain ⟨z, rfl⟩ : ∃ z, vl = .inr z := si.laterS rfl
        walk_at "rz"
        refine s_in (.inr (s13.sqT cj1)) (flat_key _) flat_strs ?_
        rw [show inV (kV (.inr z)) (c1.jo.map V.str) = decide (z ∈ c1.jo) from inV_strs]
        walk_at "rz"
        refine ite_b (fun w6 => ?_) (fun w6 => ?_)
        · have w6 : ¬ z ∈ c1.jo := by simpa using w6
          rw [if_pos ⟨rfl, w6⟩] at hjo
          subst hjo
          walk_at "rz"
          rename_i t4 ht4 H4 s4 e4
          refine s_catW ((s13.trans s4).sqT cj1) (SqT.of e4) (by rw [sizeLine_eq, List.length_map]; show _ + 1 ≤ _; omega) fun t5 H5 s5 h5 => ?_
          walk_at "rz"
          have s15 := (s13.trans s4).trans s5
          refine pos ⟨_, _, _, _, rfl, s15, s15.sqT ha1, s15.sqT hb1, s15.sqT hc1, ?_⟩
          rw [List.map_append]
          exact h5
        · have w6 : z ∈ c1.jo := by simpa using w6
          rw [if_neg (fun h => h.2 w6)] at hjo
          subst hjo
          walk_at "rz"
          exact pos ⟨_, _, _, _, rfl, s13, s13.sqT ha1, s13.sqT hb1, s13.sqT hc1, s13.sqT cj1⟩
      · have w5 : ¬ wd = "later" := of_decide_eq_false w5
        rw [if_neg (fun h => w5 h.1)] at hjo
        subst hjo
        walk_at "rz"
        exact pos ⟨_, _, _, _, rfl, s13, s13.sqT ha1, s13.sqT hb1, s13.sqT hc1, s13.sqT cj1⟩
end
set_option maxHeartbeats 4000000
open PySem PySem.Spec PyProof.Rows L2 Z
open He (ga ma)
def spWEnd (K : Fg) : Sp := fun vs H Q _ => ∃ x D P n v, ∃ s : Ws, vs = [.ref x, v] ∧ WvAt K H x D P n ∧ Dp K H v (dWs s) ∧ s.Ok P n ∧ ∀ u H', Same H H' → Dp K H' u (s.endN P) → Q u H'
def spWOf (K : Fg) : Sp := fun vs H Q _ => ∃ D P n a, ∃ rg : List Str, vs = [.ref D.p, .int (n : Nat), .ref a] ∧ PlanAt K H D P ∧ (∀ l ∈ P.ls, l.kd = "edge") ∧ 1 ≤ n ∧ n ≤ 6 ∧ SqT K H a (rg.map V.str) ∧ (∀ z ∈ rg, z ∈ P.names) ∧ rg.length ≤ 6 ∧ ∀ x H', Same H H' → WvAt K H' x D P n → Q (.ref x) H'
section
variable {P : Program} {w : World} {K : Fg} {mg : Str → Option Value} {base : Heap}
theorem ok_Weaver_end (T : Txt K mg) : FnOk P w K mg base (L2.CX P w) 8 (ma K (ga K "Weaver") "end") (fdOf K (ma K (ga K "Weaver") "end")) ["self", "state"] (spWEnd K) := by
  refine FunD.ok T.F_Weaver_end sc_Weaver_end (fun vs H Q E h => ?_) (fun cdv A outer s H vs Q E hr h => ⟨_, PSs.nox (pss_cons (ps_if (pt_cmpR (op_ne0K K hr.units) (z_meth (pv 0) T.cl_Weaver T.m_Weaver_moves (ok_Weaver_moves T) T.c_Weaver_moves (hr.mono (by decide)) passL (pa_cons (pv 1) pa_nil)) (pe_lst pa_nil) (nomark _)) (pss_one (ps_ret pe_non)) pss_nil)
      (pss_cons (zset 2 sc_Weaver_end.nd (pe_callTy (call_tuple_ofK K) (by rfl) T.u_tuple (by decide +kernel) (pa_cons (pe_lc (own := [("number", 3), ("processor", 4)]) rfl sc_Weaver_end.nd (kIET K (pi_enumT (by rfl) T.u_enumerate (pa_cons (pe_ix (ix_tupK K) (pv 1) pe_int (fun _ _ => rfl)) pa_nil))) (blkOk_by (own := [("number", 3), ("processor", 4)]) (N := n_Weaver_end) (sc := defScope s_Weaver_end) (by decide +kernel)) (fun _ _ _ _ _ => (kGT K (pg_tup (n := 2) rfl (pgs_cons (zg 3 sc_Weaver_end.nd) (pgs_cons (zg 4 sc_Weaver_end.nd) pgs_nil))))) (fun _ _ _ _ _ => (pts_one (pt_cmpR (op_ne0K K hr.units) (pe_ix (ix_tupK K) (pv 4) pe_int (fun _ _ => rfl)) (pe_tup pa_nil) (nomark _)))) (fun _ _ _ _ _ => (pv 3))) pa_nil)))
      (pss_one (ps_ret (pe_ifExp (pt_cmpR (op_ne0K K hr.units) (pv 2) (pe_tup pa_nil) (nomark _)) (pe_tup (pa_cons pe_str (pa_cons (pv 2) pa_nil))) (pe_tup (pa_cons pe_str (pa_cons (pe_ix (ix_tupK K) (pv 1) pe_int (fun _ _ => rfl)) (pa_cons (pe_ix (ix_tupK K) (pv 1) pe_int (fun _ _ => rfl)) pa_nil))))))))), ?_⟩)
  · obtain ⟨x, D, P, n, v, s, rfl, _⟩ := h
    rfl
  obtain ⟨x, D, P, n, v, s, rfl, wv, dv, sok, q⟩ := h
  obtain ⟨t, a, b, c, d, e, ce, rfl, hT, ha, hb, hc, hd, he, heA⟩ := dv.wsI
  obtain ⟨dx, hx⟩ := wv.ins
  have lce : ce.length = s.cs.length := by rw [heA.len, List.length_map]
  have lcs := sok.cs
  have n6 := wv.n6
  show (_ : TS) _ (some (.ref x) :: some (.ref t) :: List.replicate 3 none) H
  try dsimp only [cxOf]
  dsimp only [List.replicate]
  walk_at "rz"
  refine ⟨x, D, P, n, _, s, rfl, wv, dv, sok, fun H1 l1 xs s1 hl1 e1 a1 => ?_⟩
  have lx : xs.length = (s.moves P).length := by rw [a1.len, List.length_map]
  walk_at "rz"
  rename_i p2 hp2 H2 s2 e2
  refine s_eq0L (s2.seq (SqL.of e1)) (SqL.of e2) ?_
  have ee : xs.isEmpty = (s.moves P).isEmpty := by
    rw [Bool.eq_iff_iff, List.isEmpty_iff_length_eq_zero, List.isEmpty_iff_length_eq_zero, lx]
  rw [ee]
  unfold Ws.endN at q
  have s02 := s1.trans s2
  cases hm : (s.moves P).isEmpty with
  | false =>
    rw [hm] at q
    walk_at "rz"
    exact q .non _ s02 .non
  | true =>
    rw [hm, if_pos rfl] at q
    walk_at "rz"
    refine s_enT ?_
    walk_at "rz"
    have hT2 := s02.sqT hT
    refine ⟨_, _, rfl, s02.sqT he, lcET_d (l := s.cs) (da := dWc) (s02.sqT he) (heA.same s02) (fun _ c => !c.ca.isEmpty) (fun i _ => .int (i : Nat)) (by omega) (fun _ _ => rfl) (fun i c1 v tt H3 Yes No hi s3 dv htt yes no => ?_) (fun l3 H3 ys hl3 s3 e3 a3 => ?_)⟩
    · obtain ⟨tc, cb, cj, ca, rfl, tcT, cbT, cbA, cjT⟩ := dv.wcI
      refine s_gtup htt rfl ?_
      walk_at "rz"
      refine ⟨rfl, ?_⟩
      walk_at "rz"
      rename_i p4 hp4 H4 s4 e4
      refine s_eq0T (s4.sqT cbT) (SqT.of e4) ?_
      have ec : ca.isEmpty = c1.ca.isEmpty := by
        rw [Bool.eq_iff_iff, List.isEmpty_iff_length_eq_zero, List.isEmpty_iff_length_eq_zero, cbA.len, List.length_map]
      rw [ec]
      walk_at "rz"
      refine ite_b (fun h1 => ?_) (fun h1 => no h1 _ s4)
      walk_at "rz"
      exact yes h1 _ _ s4 (.int _)
    have a4 : DpAll K H3 ys (s.stuck.map fun n => .int (n : Nat)) := by
      unfold Ws.stuck
      rw [List.map_map]
      exact a3
    have ly : ys.length = s.stuck.length := by rw [a4.len, List.length_map]
    walk_at "rz"
    refine ⟨l3, ys, rfl, .inl ⟨SqL.of e3, fun t4 ht4 => ?_⟩⟩
    generalize eH : upd H3 t4 _ = H4
    have s4 := newS ht4 eH
    have e4 := newE eH
    clear eH
    walk_at "rz"
    rename_i p5 hp5 H5 s5 e5
    refine s_eq0T (SqT.of (s5 _ _ e4)) (SqT.of e5) ?_
    have es : ys.isEmpty = s.stuck.isEmpty := by
      rw [Bool.eq_iff_iff, List.isEmpty_iff_length_eq_zero, List.isEmpty_iff_length_eq_zero, ly]
    rw [es]
    have s05 := ((s02.trans s3).trans s4).trans s5
    have hT5 := s05.sqT hT
    unfold Ws.endD at q
    cases hs : s.stuck.isEmpty with
    | false =>
      rw [hs] at q
      walk_at "rz"
      rename_i p6 hp6 H6 s6 e6
      exact q (.ref p6) H6 (s05.trans s6) (.tup (SqT.of e6) (.cons (.str _) (.cons (.tup (SqT.of ((s5.trans s6) _ _ e4)) ((a4.same s4).same (s5.trans s6))) .nil)))
    | true =>
      rw [hs, if_pos rfl] at q
      walk_at "rz"
      rename_i p6 hp6 H6 s6 e6
      have s06 := s05.trans s6
      exact q (.ref p6) H6 s06 (.tup (SqT.of e6) (.cons (.str _) (.cons (dp_ks (s06.sqT hc)) (.cons (.tup (s06.sqT hd) (dp_intsW _)) .nil))))
theorem ok_weaver_of (T : Txt K mg) : FnOk P w K mg base (L2.CX P w) 4 (ga K "weaver_of") (fdOf K (ga K "weaver_of")) ["setup", "count", "rings"] (spWOf K) := by
  refine FunD.ok T.F_weaver_of sc_weaver_of (fun vs H Q E h => ?_) (fun cdv A outer s H vs Q E hr h => ⟨_, PSs.nox (pss_cons (ps_if (pt_not (pt_val (pe_callB (cr_allK K rfl) (by rfl) T.u_all (by decide +kernel) (pa_cons (pe_lc (own := [("line", 4)]) rfl sc_weaver_of.nd (kIT K (pi_tup (z_prop (pv 0) T.cl_Setup T.p_Setup_lines (ok_Setup_lines T) T.c_Setup_lines (hr.mono (by decide)) rfl))) (blkOk_by (own := [("line", 4)]) (N := n_weaver_of) (sc := defScope s_weaver_of) (by decide +kernel)) (fun _ _ _ _ _ => (zg 4 sc_weaver_of.nd)) (fun _ _ _ _ _ => pts_nil) (fun _ _ _ _ _ => (pe_cmpR op_eq (pe_ix (ix_tupK K) (pv 4) pe_int (fun _ _ => rfl)) (z_str T.i_EDGE) (nomark _)))) pa_nil)))) (pss_one ps_never) pss_nil)
      (pss_cons (ps_expr (z_call (ok_check_number T) T.c_check_number (hr.mono (by decide)) rfl T.g_check_number passL (pa_cons (pv 1) (pa_cons pe_int (pa_cons (z_int T.i_MAX_PROCESSORS) pa_nil)))))
      (pss_cons (ps_for PassesOwn.never rfl (kIET K (pi_enumT (by rfl) T.u_enumerate (pa_cons (pv 2) pa_nil))) (kGT K (pg_tup (n := 2) rfl (pgs_cons (zg 3 sc_weaver_of.nd) (pgs_cons (zg 4 sc_weaver_of.nd) pgs_nil))))
      (pss_one (ps_if (PW.pt (pw_or (pt_cmpR op_eq (pv 3) (z_int T.i_MAX_RINGS) (nomark _)) (pw_or1 (pt_cmpR (op_notInO T.m_Setup_contains.at_ T.m_Setup_contains.fn (ok_Setup_contains T) T.c_Setup_contains (hr.mono (by decide)) passL) (pv 4) (pv 0) (by rfl))))) (pss_one ps_never) pss_nil)))
      (pss_one (ps_ret (z_make T.mk_Weaver (ok_Weaver_init T) T.c_Weaver_init (hr.mono (by decide)) rfl T.g_Weaver passL (pa_cons (pv 0) (pa_cons (pv 1) pa_nil)))))))), ?_⟩)
  · obtain ⟨D, P, n, a, rg, rfl, _⟩ := h
    rfl
  obtain ⟨D, P, n, a, rg, rfl, pl, hed, n1, n6, hT, hz, hl, q⟩ := h
  obtain ⟨dp, pa, pb, hp, hpa, _⟩ := pl.ins
  have l12 := pl.ok.l12
  show (_ : TS) _ (some (.ref D.p) :: some (.int (n : Nat)) :: some (.ref a) :: List.replicate 2 none) H
  try dsimp only [cxOf]
  dsimp only [List.replicate]
  walk_at "rz"
  refine ⟨D, P, rfl, pl, fun b2 db2 => ?_⟩
  obtain ⟨_, ls, eb, hlT, hlA⟩ := db2.tupI
  cases eb
  refine lcT_d (l := P.ls) (da := dLn) hlT hlA (fun _ => true) (fun l => .bool (decide (l.kd = "edge"))) (by omega) (fun _ _ => rfl) (fun l v H2 Yes No hl2 s2 dv yes no => ?_) (fun l2 H2 ys hl2 s2 e2 a2 => ?_)
  · obtain ⟨tl, st, sv, rfl, htl, _, _⟩ := dv.lnI
    walk_at "rz"
    refine ⟨rfl, ?_⟩
    walk_at "rz"
    rw [vstr_dec]
    exact yes rfl _ _ (Same.refl _) (.bl _)
  rw [List.filter_eq_self.mpr fun _ _ => rfl, map_bool] at a2
  rw [dp_bools a2] at e2
  walk_at "rz"
  refine s_all (SqL.of e2) ?_
  have eall : (P.ls.map fun l : Ln => decide (l.kd = ("edge" : Str))).all id = true := by
    rw [List.all_eq_true]
    intro x hx
    obtain ⟨l, hl, rfl⟩ := List.mem_map.mp hx
    exact decide_eq_true (hed l hl)
  rw [eall]
  walk_at "rz"
  refine ⟨_, _, _, rfl, by omega, by omega, ?_⟩
  have hp2 := s2 _ _ hp
  have pl2 := pl.same s2
  walk_at "rz"
  refine s_enT ?_
  walk_at "rz"
  refine ⟨_, _, rfl, s2.sqT hT, for_it walk_enumT (fun i σ Ha => (∃ y3 y4, σ = [some (.ref D.p), some (.int (n : Nat)), some (.ref a), y3, y4]) ∧ Same H2 Ha) ⟨⟨_, _, rfl⟩, Same.refl _⟩ (fun i σ Ha _ ⟨_, sa⟩ => (s2.trans sa).sqT hT) (fun i v σ Ha0 Ha hi ⟨⟨y3, y4, es⟩, sa0⟩ yy => ?_) (fun σ Ha ⟨⟨y3, y4, es⟩, sa⟩ => ?_)⟩
  · subst es
    obtain ⟨tt, _, pv, rfl, htt, rfl, eq1, hpv⟩ := yy
    cases eq1
    have snew : Same Ha0 (upd Ha0 tt (.tup [.int (i : Nat), pv])) := Same.new htt
    have ett : upd Ha0 tt (.tup [.int (i : Nat), pv]) tt = some (.tup [.int (i : Nat), pv]) := upd_same
    generalize upd Ha0 tt (.tup [.int (i : Nat), pv]) = Ha at *
    have sa := sa0.trans snew
    have hpv : (rg.map V.str)[i]? = some pv := hpv
    rw [List.getElem?_map] at hpv
    obtain ⟨z, hz2, rfl⟩ := Option.map_eq_some_iff.mp hpv
    have hi2 : i < rg.length := (List.getElem?_eq_some_iff.mp hz2).1
    have hpa2 := sa _ _ hp2
    refine s_gtup (SqT.of ett) rfl ?_
    walk_at "rz"
    refine ite_f (decide_eq_false (fun e => by injection e with e; omega)) ?_
    walk_at "rz"
    refine ⟨_, _, _, rfl, hpa2, D, _, _, P, rfl, pl2.same sa, .str z, ?_⟩
    refine ⟨_, rfl, ?_⟩
    walk_at "rz"
    refine ite_f (by rw [if_pos rfl]; exact congrArg Bool.not (decide_eq_true (hz z (List.mem_of_getElem? hz2)))) ?_
    walk_at "rz"
    exact ⟨⟨_, _, rfl⟩, sa⟩
  subst es
  have sA := s2.trans sa
  walk_at "rz"
  walk_at "zm"
  rename_i x dx hx0 H4 s4 e4
  have plA := pl.same sA
  have plx : ∀ y ∈ D.own, y ≠ x := fun y hy e => by
    have hn : ∃ o, Ha y = some o := by
      obtain ⟨_, _, _, h1, _⟩ := plA.ins
      obtain ⟨_, h2, _⟩ := plA.rows.at_
      obtain ⟨_, h3, _⟩ := plA.works.at_
      simp only [PA.own, List.mem_cons, List.not_mem_nil, or_false] at hy
      rcases hy with rfl | rfl | rfl
      · exact ⟨_, h1⟩
      · exact ⟨_, h2⟩
      · exact ⟨_, h3⟩
    obtain ⟨o, ho⟩ := hn
    rw [e, hx0] at ho
    cases ho
  refine ⟨x, D, P, n, dx, rfl, e4, plA.same s4, fun h => plx x h rfl, by omega, rfl, ?_⟩
  have s5 : Same Ha (upd H4 x (.ins (ga K "Weaver") dx (wvF D.p n))) := same_put s4 hx0
  exact q x _ (sA.trans s5) ⟨⟨dx, upd_same⟩, plA.same s5, by omega⟩
end
set_option maxHeartbeats 4000000
open PySem PySem.Spec PyProof.Rows L2 Z
open He (ga ma)
def dRs (P : Pl) (z : Str) : PyData := .tuple [.int (P.ln z).rk, .tuple ((P.ln z).st.map dSt)]
def spLSteps (K : Fg) : Sp := fun vs H Q _ => ∃ v P n z, ∃ rg : List Str, vs = [v, .str z] ∧ Dp K H v (dPt P n rg) ∧ P.Ok ∧ z ∈ P.names ∧ ∀ u H', Same H H' → Dp K H' u (dRs P z) → Q u H'
def spLRank (K : Fg) : Sp := fun vs H Q _ => ∃ v P n z, ∃ rg : List Str, vs = [v, .str z] ∧ Dp K H v (dPt P n rg) ∧ P.Ok ∧ z ∈ P.wnames ∧ ∀ H', Same H H' → Q (.int (P.wk z).rk) H'
def spLFirst (K : Fg) : Sp := fun vs H Q _ => ∃ v P n, ∃ rg : List Str, vs = [v] ∧ Dp K H v (dPt P n rg) ∧ P.Ok ∧ 1 ≤ n ∧ n ≤ 6 ∧ rg.length < 60 ∧ ∀ u H', Same H H' → Dp K H' u (dWs (Ws.first P n rg)) → Q u H'
def spLEnd (K : Fg) : Sp := fun vs H Q _ => ∃ v, ∃ s : Ws, vs = [v] ∧ Dp K H v (dWs s) ∧ s.cs.length ≤ 6 ∧ ∀ u H', Same H H' → Dp K H' u s.endD → Q u H'
section
variable {P : Program} {w : World} {K : Fg} {mg : Str → Option Value} {base : Heap}
theorem ok_w_weave_steps (T : Txt K mg) : FnOk P w K mg base (L2.CX P w) 1 (ga K "_law_weave_steps") (fdOf K (ga K "_law_weave_steps")) ["_law_parts", "_law_line"] (spLSteps K) := by
  refine FunD.ok T.F_w_weave_steps sc_w_weave_steps (fun vs H Q E h => ?_) (fun cdv A outer s H vs Q E hr h => ⟨_, PSs.nox (pss_one (ps_ret (pe_ix (ix_listK K) (pe_lc (own := [("_law_row", 2)]) rfl sc_w_weave_steps.nd (kIT K (pi_tup (pe_ix (ix_tupK K) (pv 0) pe_int (fun _ _ => rfl)))) (blkOk_by (own := [("_law_row", 2)]) (N := n_w_weave_steps) (sc := defScope s_w_weave_steps) (by decide +kernel)) (fun _ _ _ _ _ => (zg 2 sc_w_weave_steps.nd)) (fun _ _ _ _ _ => (pts_one (pt_cmpR op_eq (pe_ix (ix_tupK K) (pv 2) pe_int (fun _ _ => rfl)) (pv 1) (nomark _)))) (fun _ _ _ _ _ => (pe_tup (pa_cons (pe_ix (ix_tupK K) (pv 2) pe_int (fun _ _ => rfl)) (pa_cons (pe_ix (ix_tupK K) (pv 2) pe_int (fun _ _ => rfl)) pa_nil))))) pe_int (fun _ _ => rfl)))), ?_⟩)
  · obtain ⟨v, P, n, z, rg, rfl, _⟩ := h
    rfl
  obtain ⟨v, P, n, z, rg, rfl, dv, ok, hz, q⟩ := h
  obtain ⟨t, ps, rfl, hT, hA⟩ := dv.tupI
  cases hA with | cons h1 hA => ?_
  cases hA with | cons h2 hA => ?_
  cases hA with | cons h3 hA => ?_
  cases hA with | cons h4 hA => ?_
  cases hA
  obtain ⟨a, ls, rfl, hlT, hlA⟩ := h1.tupI
  have l12 := ok.l12
  show (_ : TS) _ (some (.ref t) :: some (.str z) :: List.replicate 1 none) H
  try dsimp only [cxOf]
  dsimp only [List.replicate]
  walk_at "rz"
  refine lcT_d (l := P.ls) (da := dLn) hlT hlA (fun l => decide (l.nm = z)) (fun l => .tuple [.int l.rk, .tuple (l.st.map dSt)]) (by omega) (fun l _ => by show tupds [_, _] = true; have := tupds_map tupd_dSt l.st; simp [tupds, tupd, this]) (fun l v H2 Yes No hl2 s2 dv yes no => ?_) (fun l2 H2 ys hl2 s2 e2 a2 => ?_)
  · obtain ⟨tl, st, sv, rfl, htl, hst, hsv⟩ := dv.lnI
    walk_at "rz"
    refine ⟨rfl, ?_⟩
    walk_at "rz"
    rw [vstr_dec]
    refine ite_b (fun h1 => ?_) (fun h1 => no h1 _ (Same.refl _))
    walk_at "rz"
    rename_i p3 hp3 H3 s3 e3
    exact yes h1 _ _ s3 (.tup (SqT.of e3) (.cons (.int _) (.cons (.tup (s3.sqT hst) (hsv.same s3)) .nil)))
  rw [ln_filter ok hz] at a2
  cases a2 with | cons b1 b2 => ?_
  cases b2
  walk_at "rz"
  exact q _ H2 s2 b1
theorem ok_w_weave_rank (T : Txt K mg) : FnOk P w K mg base (L2.CX P w) 1 (ga K "_law_weave_rank") (fdOf K (ga K "_law_weave_rank")) ["_law_parts", "_law_work"] (spLRank K) := by
  refine FunD.ok T.F_w_weave_rank sc_w_weave_rank (fun vs H Q E h => ?_) (fun cdv A outer s H vs Q E hr h => ⟨_, PSs.nox (pss_one (ps_ret (pe_ix (ix_listK K) (pe_lc (own := [("_law_row", 2)]) rfl sc_w_weave_rank.nd (kIT K (pi_tup (pe_ix (ix_tupK K) (pv 0) pe_int (fun _ _ => rfl)))) (blkOk_by (own := [("_law_row", 2)]) (N := n_w_weave_rank) (sc := defScope s_w_weave_rank) (by decide +kernel)) (fun _ _ _ _ _ => (zg 2 sc_w_weave_rank.nd)) (fun _ _ _ _ _ => (pts_one (pt_cmpR op_eq (pe_ix (ix_tupK K) (pv 2) pe_int (fun _ _ => rfl)) (pv 1) (nomark _)))) (fun _ _ _ _ _ => (pe_ix (ix_tupK K) (pv 2) pe_int (fun _ _ => rfl)))) pe_int (fun _ _ => rfl)))), ?_⟩)
  · obtain ⟨v, P, n, z, rg, rfl, _⟩ := h
    rfl
  obtain ⟨v, P, n, z, rg, rfl, dv, ok, hz, q⟩ := h
  obtain ⟨t, ps, rfl, hT, hA⟩ := dv.tupI
  cases hA with | cons h1 hA => ?_
  cases hA with | cons h2 hA => ?_
  cases hA with | cons h3 hA => ?_
  cases hA with | cons h4 hA => ?_
  cases hA
  obtain ⟨a, ls, rfl, hlT, hlA⟩ := h2.tupI
  have w8 := ok.w8
  show (_ : TS) _ (some (.ref t) :: some (.str z) :: List.replicate 1 none) H
  try dsimp only [cxOf]
  dsimp only [List.replicate]
  walk_at "rz"
  refine lcT_d (l := P.ws) (da := dWk) hlT hlA (fun l => decide (l.nm = z)) (fun l => .int l.rk) (by omega) (fun _ _ => rfl) (fun l v H2 Yes No hl2 s2 dv yes no => ?_) (fun l2 H2 ys hl2 s2 e2 a2 => ?_)
  · obtain ⟨tl, rfl, htl⟩ := dv.wkI
    walk_at "rz"
    refine ⟨rfl, ?_⟩
    walk_at "rz"
    rw [vstr_dec]
    refine ite_b (fun h1 => ?_) (fun h1 => no h1 _ (Same.refl _))
    walk_at "rz"
    exact yes h1 _ _ (Same.refl _) (.int _)
  rw [wk_filter ok hz] at a2
  cases a2 with | cons b1 b2 => ?_
  cases b2
  cases b1
  walk_at "rz"
  exact q H2 s2
theorem ok_w_weave_first (T : Txt K mg) : FnOk P w K mg base (L2.CX P w) 1 (ga K "_law_weave_first") (fdOf K (ga K "_law_weave_first")) ["_law_parts"] (spLFirst K) := by
  refine FunD.ok T.F_w_weave_first sc_w_weave_first (fun vs H Q E h => ?_) (fun cdv A outer s H vs Q E hr h => ⟨_, PSs.nox (pss_cons (ps_asg (pv 0) (kGT K (pg_tup (n := 4) rfl (pgs_cons (zg 1 sc_w_weave_first.nd) (pgs_cons (zg 2 sc_w_weave_first.nd) (pgs_cons (zg 3 sc_w_weave_first.nd) (pgs_cons (zg 4 sc_w_weave_first.nd) pgs_nil)))))))
      (pss_one (ps_ret (pe_tup (pa_cons (pe_callTy (call_tuple_ofK K) (by rfl) T.u_tuple (by decide +kernel) (pa_cons (pe_callB (cr_sortedY rfl hr.units) (by rfl) T.u_sorted (by decide +kernel) (pa_cons (pe_callTy (cr_setTK K rfl) (by rfl) T.u_set (by decide +kernel) (pa_cons (pv 4) pa_nil)) pa_nil)) pa_nil)) (pa_cons (pe_tup pa_nil) (pa_cons (pe_tup pa_nil) (pa_cons (pe_op (op_repU K) (pe_tup (pa_cons pe_int pa_nil)) (pe_callB (call_lenK K) (by rfl) T.u_len (by decide +kernel) (pa_cons (pv 1) pa_nil))) (pa_cons (pe_op (op_repU K) (pe_tup (pa_cons (pe_tup (pa_cons (pe_tup pa_nil) (pa_cons pe_int (pa_cons (pe_tup pa_nil) pa_nil)))) pa_nil)) (pv 3)) pa_nil))))))))), ?_⟩)
  · obtain ⟨v, P, n, rg, rfl, _⟩ := h
    rfl
  obtain ⟨v, P, n, rg, rfl, dv, ok, n1, n6, hrg, q⟩ := h
  obtain ⟨t, ps, rfl, hT, hA⟩ := dv.tupI
  cases hA with | cons h1 hA => ?_
  cases hA with | cons h2 hA => ?_
  cases hA with | cons h3 hA => ?_
  cases hA with | cons h4 hA => ?_
  cases hA
  cases h3
  obtain ⟨a, ls, rfl, hlT, hlA⟩ := h1.tupI
  obtain ⟨b, bs, rfl, hbT, hbA⟩ := h2.tupI
  obtain ⟨c, cs, rfl, hcT, hcA⟩ := h4.tupI
  rw [dp_strs hcA] at hcT
  have lls : ls.length = P.ls.length := by rw [hlA.len, List.length_map]
  have l12 := ok.l12
  have lp : 0 < P.ls.length := List.length_pos_iff.mpr ok.ne
  show (_ : TS) _ (some (.ref t) :: List.replicate 4 none) H
  try dsimp only [cxOf]
  dsimp only [List.replicate]
  walk_at "rz"
  refine s_gtup hT rfl ?_
  walk_at "rz"
  refine ⟨c, rg, rfl, hcT, by omega, fun p1 l hp1 nd mem ll => ?_⟩
  generalize eH : upd H p1 _ = H1
  have s1 := newS hp1 eH
  have e1 := newE eH
  clear eH
  walk_at "rz"
  refine ⟨p1, l, rfl, e1, by omega, fun m p2 pm hp2 => ?_⟩
  rw [rings_sorted nd mem pm]
  generalize eH : upd H1 p2 _ = H2
  have s2 := newS hp2 eH
  have e2 := newE eH
  clear eH
  walk_at "rz"
  refine ⟨p2, _, rfl, .inl ⟨SqL.of e2, fun p3 hp3 => ?_⟩⟩
  generalize eH : upd H2 p3 _ = H3
  have s3 := newS hp3 eH
  have e3 := newE eH
  clear eH
  have s03 := (s1.trans s2).trans s3
  have hlT3 := s03.sqT hlT
  walk_at "rz"
  rename_i p4 hp4 H4 s4 e4 p5 hp5 H5 s5 e5 p6 hp6 H6 s6 e6
  refine s_lenT (((s4.trans s5).trans s6).sqT hlT3) ?_
  rw [lls]
  refine s_repU (SqT.of e6) (by simp) (by omega) (by omega) (by simp) fun p7 H7 s7 e7 => ?_
  have e7' : SqT K H7 p7 ((List.replicate P.ls.length (0 : Int)).map V.int) := by
    rw [List.map_replicate]
    rw [Int.toNat_natCast, List.flatten_replicate_singleton] at e7
    exact e7
  walk_at "rz"
  rename_i p8 hp8 H8 s8 e8 p9 hp9 H9 s9 e9 pa hpa Ha sa ea pb hpb Hb sb eb
  refine s_repU (SqT.of eb) (by simp) (by omega) (by omega) (by simp) fun pc Hc sc ec => ?_
  rw [Int.toNat_natCast, List.flatten_replicate_singleton] at ec
  walk_at "rz"
  rename_i pd hpd Hd sd ed
  have sbd := (sb.trans sc).trans sd
  have s7d := ((s8.trans s9).trans sa).trans sbd
  have s3d := ((s4.trans s5).trans (s6.trans s7)).trans s7d
  have dwc : Dp K Hd (.ref pa) (dWc wc0) := Dp.wcR (s := wc0) (SqT.of (sbd _ _ ea)) (SqT.of (((s9.trans sa).trans sbd) _ _ e8)) .nil (SqT.of ((sa.trans sbd) _ _ e9))
  refine q (.ref pd) Hd (s03.trans s3d) (Dp.wsR (s := Ws.first P n rg) (SqT.of ed) ?_ (SqT.of (((s5.trans (s6.trans s7)).trans s7d) _ _ e4)) (SqT.of (((s6.trans s7).trans s7d) _ _ e5)) (s7d.sqT e7') (sd.sqT ec) (dp_wc0s dwc n))
  show SqT K Hd p3 ((ringsK rg).map kV)
  rw [ringsK_str, List.map_map]
  exact SqT.of (s3d _ _ e3)
theorem ok_w_weave_end (T : Txt K mg) : FnOk P w K mg base (L2.CX P w) 1 (ga K "_law_weave_end") (fdOf K (ga K "_law_weave_end")) ["_law_state"] (spLEnd K) := by
  refine FunD.ok T.F_w_weave_end sc_w_weave_end (fun vs H Q E h => ?_) (fun cdv A outer s H vs Q E hr h => ⟨_, PSs.nox (pss_cons (zset 1 sc_w_weave_end.nd (pe_callTy (call_tuple_ofK K) (by rfl) T.u_tuple (by decide +kernel) (pa_cons (pe_lc (own := [("_law_k", 2)]) rfl sc_w_weave_end.nd (pi_range1 rfl T.u_range (pa_cons (pe_callB (call_lenK K) (by rfl) T.u_len (by decide +kernel) (pa_cons (pe_ix (ix_tupK K) (pv 0) pe_int (fun _ _ => rfl)) pa_nil)) pa_nil)) (blkOk_by (own := [("_law_k", 2)]) (N := n_w_weave_end) (sc := defScope s_w_weave_end) (by decide +kernel)) (fun _ _ _ _ _ => (zg 2 sc_w_weave_end.nd)) (fun _ _ _ _ _ => (pts_one (pt_cmpR (op_ne0K K hr.units) (pe_ix (ix_tupK K) (pe_ix (ix_tupK K) (pe_ix (ix_tupK K) (pv 0) pe_int (fun _ _ => rfl)) (pv 2) (fun _ _ => rfl)) pe_int (fun _ _ => rfl)) (pe_tup pa_nil) (nomark _)))) (fun _ _ _ _ _ => (pv 2))) pa_nil)))
      (pss_one (ps_ret (pe_ifExp (pt_cmpR (op_ne0K K hr.units) (pv 1) (pe_tup pa_nil) (nomark _)) (pe_tup (pa_cons pe_str (pa_cons (pv 1) pa_nil))) (pe_tup (pa_cons pe_str (pa_cons (pe_ix (ix_tupK K) (pv 0) pe_int (fun _ _ => rfl)) (pa_cons (pe_ix (ix_tupK K) (pv 0) pe_int (fun _ _ => rfl)) pa_nil)))))))), ?_⟩)
  · obtain ⟨v, s, rfl, _⟩ := h
    rfl
  obtain ⟨v, s, rfl, dv, l6, q⟩ := h
  obtain ⟨t, a, b, c, d, e, ce, rfl, hT, ha, hb, hc, hd, he, heA⟩ := dv.wsI
  have lce : ce.length = s.cs.length := by rw [heA.len, List.length_map]
  show (_ : TS) _ (some (.ref t) :: List.replicate 2 none) H
  try dsimp only [cxOf]
  dsimp only [List.replicate]
  walk_at "rz"
  refine s_lenT he ?_
  rw [lce]
  walk_at "rz"
  refine ⟨by omega, by omega, ?_⟩
  rw [Int.toNat_natCast]
  refine lcRg_d (K := K) (fun i => !((s.cs[i]?).getD wc0).ca.isEmpty) (fun i => .int (i : Nat)) (by omega) (fun _ _ => rfl) (fun i H2 Yes No hi s2 yes no => ?_) (fun l2 H2 ys hl2 s2 e2 a2 => ?_)
  · have hc1 : s.cs[i]? = some s.cs[i] := List.getElem?_eq_getElem hi
    obtain ⟨pv, hpv, dpv⟩ := heA.get (i := i) (x := dWc s.cs[i]) (by rw [List.getElem?_map, hc1]; rfl)
    rw [hc1, Option.getD_some] at yes no
    obtain ⟨tc, cb, cj, ca, rfl, tcT, cbT, cbA, cjT⟩ := (dpv.same s2).wcI
    have he2 := s2.sqT he
    walk_at "rz"
    refine ⟨rfl, ?_⟩
    walk_at "rz"
    refine s_ixT he2 (at_of (j := i) rfl hpv) ?_
    walk_at "rz"
    rename_i p4 hp4 H4 s4 e4
    refine s_eq0T (s4.sqT cbT) (SqT.of e4) ?_
    have ec : ca.isEmpty = s.cs[i].ca.isEmpty := by
      rw [Bool.eq_iff_iff, List.isEmpty_iff_length_eq_zero, List.isEmpty_iff_length_eq_zero, cbA.len, List.length_map]
    rw [ec]
    walk_at "rz"
    refine ite_b (fun h1 => ?_) (fun h1 => no h1 _ s4)
    walk_at "rz"
    exact yes h1 _ _ s4 (.int _)
  rw [← stuck_range] at a2
  have ly : ys.length = s.stuck.length := by rw [a2.len, List.length_map]
  walk_at "rz"
  refine ⟨l2, ys, rfl, .inl ⟨SqL.of e2, fun t4 ht4 => ?_⟩⟩
  generalize eH : upd H2 t4 _ = H4
  have s4 := newS ht4 eH
  have e4 := newE eH
  clear eH
  walk_at "rz"
  rename_i p5 hp5 H5 s5 e5
  refine s_eq0T (SqT.of (s5 _ _ e4)) (SqT.of e5) ?_
  have es : ys.isEmpty = s.stuck.isEmpty := by
    rw [Bool.eq_iff_iff, List.isEmpty_iff_length_eq_zero, List.isEmpty_iff_length_eq_zero, ly]
  rw [es]
  have s05 := (s2.trans s4).trans s5
  have hT5 := s05.sqT hT
  unfold Ws.endD at q
  cases hs : s.stuck.isEmpty with
  | false =>
    rw [hs] at q
    walk_at "rz"
    rename_i p6 hp6 H6 s6 e6
    exact q (.ref p6) H6 (s05.trans s6) (.tup (SqT.of e6) (.cons (.str _) (.cons (.tup (SqT.of ((s5.trans s6) _ _ e4)) ((a2.same s4).same (s5.trans s6))) .nil)))
  | true =>
    rw [hs, if_pos rfl] at q
    walk_at "rz"
    rename_i p6 hp6 H6 s6 e6
    have s06 := s05.trans s6
    exact q (.ref p6) H6 s06 (.tup (SqT.of e6) (.cons (.str _) (.cons (dp_ks (s06.sqT hc)) (.cons (.tup (s06.sqT hd) (dp_intsW _)) .nil))))
end
set_option maxHeartbeats 4000000
open PySem PySem.Spec PyProof.Rows L2 Z
open He (ga ma)
def spLMoves (K : Fg) : Sp := fun vs H Q _ => ∃ v u P n, ∃ s : Ws, ∃ rg : List Str, vs = [v, u] ∧ Dp K H v (dPt P n rg) ∧ P.Ok ∧ Dp K H u (dWs s) ∧ s.Ok P n ∧ n ≤ 6 ∧ ∀ H' l xs, Same H H' → H l = none → H' l = some (.lst xs) → DpAll K H' xs ((s.moves P).map dMv) → Q (.ref l) H'
theorem busy_snoc {s : Ws} {i : Nat} {c : Wc} (h : s.cs[i]? = some c) : ((s.cs.take (i + 1)).flatMap fun c => c.ca.map (·.1)) = ((s.cs.take i).flatMap fun c => c.ca.map (·.1)) ++ c.ca.map (·.1) := by
  rw [List.take_add_one, h, List.flatMap_append]
  show _ ++ List.flatMap _ [_] = _
  rw [List.flatMap_singleton]
section
variable {P : Program} {w : World} {K : Fg} {mg : Str → Option Value} {base : Heap}
theorem ok_w_weave_moves (T : Txt K mg) : FnOk P w K mg base (L2.CX P w) 2 (ga K "_law_weave_moves") (fdOf K (ga K "_law_weave_moves")) ["_law_parts", "_law_state"] (spLMoves K) := by
  refine FunD.ok T.F_w_weave_moves sc_w_weave_moves (fun vs H Q E h => ?_) (fun cdv A outer s H vs Q E hr h => ⟨_, PSs.nox (pss_cons (ps_par (by rfl) sc_w_weave_moves.nd (i := 2) (j := 3) rfl rfl (by decide) rfl rfl (pa_cons (pe_lst pa_nil) (pa_cons (pe_lst pa_nil) pa_nil)) (by rfl))
      (pss_cons (ps_for PassesOwn.never rfl (kIT K (pi_tup (pe_ix (ix_tupK K) (pv 1) pe_int (fun _ _ => rfl)))) (zg 4 sc_w_weave_moves.nd)
      (pss_one (zset 2 sc_w_weave_moves.nd (pe_op op_cat (pv 2) (pe_lc (own := [("_law_call", 13)]) rfl sc_w_weave_moves.nd (kIT K (pi_tup (pe_ix (ix_tupK K) (pv 4) pe_int (fun _ _ => rfl)))) (blkOk_by (own := [("_law_call", 13)]) (N := n_w_weave_moves) (sc := defScope s_w_weave_moves) (by decide +kernel)) (fun _ _ _ _ _ => (zg 13 sc_w_weave_moves.nd)) (fun _ _ _ _ _ => pts_nil) (fun _ _ _ _ _ => (pe_ix (ix_tupK K) (pv 13) pe_int (fun _ _ => rfl))))))))
      (pss_cons (ps_for PassesOwn.never rfl (kIT K (pi_tup (pe_ix (ix_tupK K) (pv 1) pe_int (fun _ _ => rfl)))) (zg 5 sc_w_weave_moves.nd)
      (pss_one (ps_for PassesOwn.never rfl (pi_range1 rfl T.u_range (pa_cons (pe_callB (call_lenK K) (by rfl) T.u_len (by decide +kernel) (pa_cons (pe_ix (ix_tupK K) (pv 1) pe_int (fun _ _ => rfl)) pa_nil)) pa_nil)) (zg 6 sc_w_weave_moves.nd)
      (pss_cons (ps_asg (pe_ix (ix_tupK K) (pe_ix (ix_tupK K) (pv 1) pe_int (fun _ _ => rfl)) (pv 6) (fun _ _ => rfl)) (kGT K (pg_tup (n := 3) rfl (pgs_cons (zg 7 sc_w_weave_moves.nd) (pgs_cons (zg 8 sc_w_weave_moves.nd) (pgs_cons (zg 9 sc_w_weave_moves.nd) pgs_nil))))))
      (pss_cons (zset 10 sc_w_weave_moves.nd (pe_ifExp (pt_cmpR (op_ne0K K hr.units) (pv 7) (pe_tup pa_nil) (nomark _)) (pe_ix (ix_tupK K) (z_call (ok_w_weave_steps T) T.c_w_weave_steps (hr.mono (by decide)) rfl T.g_w_weave_steps passL (pa_cons (pv 0) (pa_cons (pe_ix (ix_tupK K) (pe_ix (ix_tupK K) (pv 7) (pe_un un_neg pe_int) (fun _ _ => rfl)) pe_int (fun _ _ => rfl)) pa_nil))) pe_int (fun _ _ => rfl)) pe_int))
      (pss_one (ps_if (PW.pt (pw_and (pt_cmpR (op_notIn_seqK K) (pv 5) (pe_ix (ix_tupK K) (pv 1) pe_int (fun _ _ => rfl)) (by rfl)) (pw_and (pt_cmpR (op_notIn_seqK K) (pv 5) (pv 2) (by rfl)) (pw_and1 (pt_cmpR op_gt (pe_ix (ix_tupK K) (z_call (ok_w_weave_steps T) T.c_w_weave_steps (hr.mono (by decide)) rfl T.g_w_weave_steps passL (pa_cons (pv 0) (pa_cons (pv 5) pa_nil))) pe_int (fun _ _ => rfl)) (pe_callB (call_max2 rfl) (by rfl) T.u_max (by decide +kernel) (pa_cons (pv 8) (pa_cons (pv 10) pa_nil))) (nomark _)))))) (pss_one (ps_expr (kBM K (pe_bm PySem.F.plainAttrs_list PySem.F.slot_list_append PySem.F.type_list_append mt_append (pv 3) (pa_cons (pe_tup (pa_cons pe_str (pa_cons (pv 5) (pa_cons (pv 6) pa_nil)))) pa_nil))))) pss_nil)))))))
      (pss_cons (ps_for PassesOwn.never rfl (pi_range1 rfl T.u_range (pa_cons (pe_callB (call_lenK K) (by rfl) T.u_len (by decide +kernel) (pa_cons (pe_ix (ix_tupK K) (pv 1) pe_int (fun _ _ => rfl)) pa_nil)) pa_nil)) (zg 6 sc_w_weave_moves.nd)
      (pss_cons (ps_asg (pe_ix (ix_tupK K) (pe_ix (ix_tupK K) (pv 1) pe_int (fun _ _ => rfl)) (pv 6) (fun _ _ => rfl)) (kGT K (pg_tup (n := 3) rfl (pgs_cons (zg 7 sc_w_weave_moves.nd) (pgs_cons (zg 8 sc_w_weave_moves.nd) (pgs_cons (zg 9 sc_w_weave_moves.nd) pgs_nil))))))
      (pss_one (ps_if (pt_cmpR (op_ne0K K hr.units) (pv 7) (pe_tup pa_nil) (nomark _)) (pss_cons (ps_asg (pe_ix (ix_tupK K) (pe_ix (ix_tupK K) (z_call (ok_w_weave_steps T) T.c_w_weave_steps (hr.mono (by decide)) rfl T.g_w_weave_steps passL (pa_cons (pv 0) (pa_cons (pe_ix (ix_tupK K) (pe_ix (ix_tupK K) (pv 7) (pe_un un_neg pe_int) (fun _ _ => rfl)) pe_int (fun _ _ => rfl)) pa_nil))) pe_int (fun _ _ => rfl)) (pe_ix (ix_tupK K) (pe_ix (ix_tupK K) (pv 7) (pe_un un_neg pe_int) (fun _ _ => rfl)) pe_int (fun _ _ => rfl)) (fun _ _ => rfl)) (kGT K (pg_tup (n := 2) rfl (pgs_cons (zg 11 sc_w_weave_moves.nd) (pgs_cons (zg 12 sc_w_weave_moves.nd) pgs_nil)))))
      (pss_one (ps_if (PW.pt (pw_or (pt_cmpR op_ne (pv 11) pe_str (nomark _)) (pw_or1 (pt_cmpR (op_in_seqK K) (pv 12) (pe_ix (ix_tupK K) (pv 1) pe_int (fun _ _ => rfl)) (by rfl))))) (pss_one (ps_expr (kBM K (pe_bm PySem.F.plainAttrs_list PySem.F.slot_list_append PySem.F.type_list_append mt_append (pv 3) (pa_cons (pe_tup (pa_cons pe_str (pa_cons (pv 6) pa_nil))) pa_nil))))) pss_nil))) (pss_one (ps_if (pt_cmpR (op_ne0K K hr.units) (pv 9) (pe_tup pa_nil) (nomark _)) (pss_one (ps_expr (kBM K (pe_bm PySem.F.plainAttrs_list PySem.F.slot_list_append PySem.F.type_list_append mt_append (pv 3) (pa_cons (pe_tup (pa_cons pe_str (pa_cons (pv 6) pa_nil))) pa_nil))))) pss_nil))))))
      (pss_one (ps_ret (pv 3))))))), ?_⟩)
  · obtain ⟨v, u, P, n, s, rg, rfl, _⟩ := h
    rfl
  obtain ⟨v, u, P, n, s, rg, rfl, dpt, ok, dv, sok, n6, q⟩ := h
  obtain ⟨t, a, b, c, d, e, ce, rfl, hT, ha, hb, hc, hd, he, heA⟩ := dv.wsI
  obtain ⟨tp, ps, rfl, _⟩ := dpt.tupI
  have lce : ce.length = s.cs.length := by rw [heA.len, List.length_map]
  have lcs := sok.cs
  obtain ⟨lwa, lma, lup, lbe⟩ := sok.walen ok
  show (_ : TS) _ (some (.ref tp) :: some (.ref t) :: List.replicate 12 none) H
  try dsimp only [cxOf]
  dsimp only [List.replicate]
  walk_at "rz"
  rename_i l2 hl2 H2 s2 e2 l3 hl3 H3 s3 e3
  have s03 := s2.trans s3
  have hl30 : H l3 = none := same_none s2 hl3
  have nc : ∀ {c : Wc}, c ∈ s.cs → c.ca.length ≤ 9 := fun hc => (sok.co _ hc).calen ok
  refine ⟨⟨_, s03.sqT he⟩, for_tup (xs := ce) (fun i σ Ha => (∃ lb y4 y5 y6 y7 y8 y9 y10 y11 y12, σ = [some (.ref tp), some (.ref t), some (.ref lb), some (.ref l3), y4, y5, y6, y7, y8, y9, y10, y11, y12, none] ∧ lb ≠ l3 ∧ Ha lb = some (.lst (((s.cs.take i).flatMap fun c => c.ca.map (·.1)).map V.str))) ∧ Same H3 Ha)
    ⟨⟨l2, _, _, _, _, _, _, _, _, _, rfl, (ne_of_none (s3 _ _ e2 |> fun _ => e2) hl3), s3 _ _ e2⟩, Same.refl _⟩ (fun i σ Ha _ ⟨_, sa⟩ => (s03.trans sa).sqT he) (fun i v σ Ha hi ⟨⟨lb, y4, y5, y6, y7, y8, y9, y10, y11, y12, es, nlb, elb⟩, sa⟩ => ?_) (fun σ Ha ⟨⟨lb, y4, y5, y6, y7, y8, y9, y10, y11, y12, es, nlb, elb⟩, sa⟩ => ?_)⟩
  · subst es
    have sA := s03.trans sa
    obtain ⟨dd, hdd, dpv⟩ := heA.getv hi
    rw [List.getElem?_map] at hdd
    obtain ⟨c1, hc1, rfl⟩ := Option.map_eq_some_iff.mp hdd
    have cin := List.mem_of_getElem? hc1
    obtain ⟨tc, cb, cj, ca, rfl, tcT, cbT, cbA, cjT⟩ := (dpv.same sA).wcI
    have lbz : ((s.cs.take i).flatMap fun c => c.ca.map (·.1)).length ≤ 9 * i := by
      have key : ∀ l : List Wc, (∀ c ∈ l, c ∈ s.cs) → (l.flatMap fun c => c.ca.map (·.1)).length ≤ 9 * l.length := fun l => by
        induction l with
        | nil => intro _; simp
        | cons c l ih =>
          intro hl
          have h1 := nc (hl c List.mem_cons_self)
          have h2 := ih fun y hy => hl y (List.mem_cons_of_mem _ hy)
          rw [List.flatMap_cons, List.length_append, List.length_cons, List.length_map]
          omega
      have := key (s.cs.take i) (fun c hc => List.mem_of_mem_take hc)
      rw [List.length_take] at this
      omega
    have hiz : i < s.cs.length := (List.getElem?_eq_some_iff.mp hc1).1
    have c9 := nc cin
    walk_at "rz"
    refine lcT_d (l := c1.ca) (da := dCl) cbT cbA (fun _ => true) (fun y => .str y.1) (by omega) (fun _ _ => rfl) (fun y v H5 Yes No hy s5 dy yes no => ?_) (fun l5 H5 ys hl5 s5 e5 a5 => ?_)
    · obtain ⟨ty, rfl, hty⟩ := dy.clI
      walk_at "rz"
      refine ⟨rfl, ?_⟩
      walk_at "rz"
      exact yes rfl _ _ (Same.refl _) (.str _)
    have a6 : ys = (c1.ca.map (·.1)).map V.str := by
      refine dp_strs (K := K) (H := H5) ?_
      rw [List.filter_eq_self.mpr fun _ _ => rfl] at a5
      rw [List.map_map]
      exact a5
    subst a6
    refine s_cat (s5 _ _ elb) e5 (by rw [sizeLine_eq, List.length_map, List.length_map, List.length_map]; omega) fun p6 hp6 => ?_
    generalize eH : upd H5 p6 _ = H6
    have s6 := newS hp6 eH
    have e6 := newE eH
    clear eH
    walk_at "rz"
    have s36 := (sa.trans s5).trans s6
    have np : p6 ≠ l3 := fun z => by
      rw [z] at hp6
      have := (sa.trans s5) _ _ e3
      rw [hp6] at this
      cases this
    refine ⟨⟨p6, _, _, _, _, _, _, _, _, _, rfl, np, ?_⟩, s36⟩
    rw [busy_snoc hc1, List.map_append]
    exact e6
  subst es
  rw [lce, List.take_length] at elb
  have elb : Ha lb = some (.lst (s.busy.map V.str)) := elb
  have s0a := s03.trans sa
  have e3a := sa _ _ e3
  -- the lines that can begin
  walk_at "rz"
  refine ⟨⟨_, s0a.sqT ha⟩, for_tup (xs := s.wa.map kV) (fun i σ Hb => (∃ y4 y5 y6 y7 y8 y9 y10 y11 y12, σ = [some (.ref tp), some (.ref t), some (.ref lb), some (.ref l3), y4, y5, y6, y7, y8, y9, y10, y11, y12, none]) ∧ Fr [l3] Ha Hb ∧ ∃ xs, Hb l3 = some (.lst xs) ∧ DpAll K Hb xs (((s.wa.take i).flatMap (s.begs P)).map dMv))
    ⟨⟨_, _, _, _, _, _, _, _, _, rfl⟩, Fr.refl, [], e3a, .nil⟩ (fun i σ Hb _ ⟨_, fb, _⟩ => fb.tk.sqT (s0a.sqT ha)) (fun i v σ Hb hi ⟨⟨y4, y5, y6, y7, y8, y9, y10, y11, y12, es⟩, fb, xs, ex, ax⟩ => ?_) (fun σ Hb ⟨⟨y4, y5, y6, y7, y8, y9, y10, y11, y12, es⟩, fb, xs, ex, ax⟩ => ?_)⟩
  · subst es
    obtain ⟨k, hk, rfl⟩ : ∃ z, s.wa[i]? = some z ∧ kV z = v := by
      rw [List.getElem?_map] at hi
      exact Option.map_eq_some_iff.mp hi
    obtain ⟨z, hz, rfl⟩ := List.mem_map.mp (sok.wa.sub k (List.mem_of_getElem? hk))
    have tkb := fb.tk
    have heB := tkb.sqT (s0a.sqT he)
    have hTB := tkb.sqT (s0a.sqT hT)
    walk_at "rz"
    refine s_lenT heB ?_
    rw [lce]
    walk_at "rz"
    refine ⟨by omega, by omega, ?_⟩
    rw [Int.toNat_natCast]
    have fr0 : s.free (.inr z) = (!inY (.inr z) s.ma && !decide (z ∈ s.busy)) := rfl
    have bg : (s.wa.take (i + 1)).flatMap (s.begs P) = (s.wa.take i).flatMap (s.begs P) ++ (s.cs.zipIdx.filter fun x : Wc × Nat => s.free (.inr z) && x.1.lets P z).map fun x : Wc × Nat => Mv.beg z x.2 := by
      rw [List.take_add_one, hk, List.flatMap_append]
      show _ ++ List.flatMap _ [_] = _
      rw [List.flatMap_singleton, begs_and]
      rfl
    have pre := begs_len (P := P) (s := s) (by omega) (s.wa.take i)
    rw [List.length_take] at pre
    refine for_range (lo := 0) (n := s.cs.length) (fun j σ Hc => (∃ y6 y7 y8 y9 y10 y11 y12, σ = [some (.ref tp), some (.ref t), some (.ref lb), some (.ref l3), y4, some (kV (.inr z)), y6, y7, y8, y9, y10, y11, y12, none]) ∧ Fr [l3] Hb Hc ∧ ∃ xs, Hc l3 = some (.lst xs) ∧ DpAll K Hc xs (((s.wa.take i).flatMap (s.begs P) ++ ((s.cs.zipIdx.take j).filter fun x : Wc × Nat => s.free (.inr z) && x.1.lets P z).map fun x : Wc × Nat => Mv.beg z x.2).map dMv))
      ⟨⟨_, _, _, _, _, _, _, rfl⟩, Fr.refl, xs, ex, by rw [List.take_zero, List.filter_nil, List.map_nil, List.append_nil]; exact ax⟩ (fun j σ Hc hj ⟨⟨y6, y7, y8, y9, y10, y11, y12, es⟩, fc, xsc, exc, axc⟩ => ?_) (fun σ Hc ⟨⟨y6, y7, y8, y9, y10, y11, y12, es⟩, fc, xsc, exc, axc⟩ => ?_)
    · subst es
      have hc1 : s.cs[j]? = some s.cs[j] := List.getElem?_eq_getElem hj
      obtain ⟨pv, hpv, dpv⟩ := heA.get (i := j) (x := dWc s.cs[j]) (by rw [List.getElem?_map, hc1]; rfl)
      have cok := sok.co _ (List.getElem_mem hj)
      generalize s.cs[j] = c1 at *
      have tkc := fc.tk
      obtain ⟨tc, cb, cj, ca, rfl, tcT, cbT, cbA, cjT⟩ := ((dpv.same s0a).tk (tkb.trans tkc) (tupd_wc _)).wcI
      have heC := tkc.sqT heB
      have hTC := tkc.sqT hTB
      have hmx := filt_next (fun x : Wc × Nat => s.free (.inr z) && x.1.lets P z) hc1
      have pre2 := filt_len (fun x : Wc × Nat => s.free (.inr z) && x.1.lets P z) s.cs j
      have la := axc.len
      rw [List.length_map, List.length_append, List.length_map] at la
      walk_at "rz"
      refine s_ixT heC (at_of (j := j) (by omega) hpv) ?_
      refine s_gtup tcT rfl ?_
      walk_at "rz"
      rename_i q1 hq1 Hd sd ed
      refine s_eq0T (sd.sqT cbT) (SqT.of ed) ?_
      cases hg : c1.ca.getLast? with
      | none =>
        rw [ca_none cbA hg]
        have ein : c1.inner P = 0 := by unfold Wc.inner; rw [hg]
        have hTd := (tkb.trans (tkc.trans (sd).tk)).sqT (s0a.sqT hT)
        have hbd := (tkb.trans (tkc.trans (sd).tk)).sqT (s0a.sqT hb)
        have tkd : Tk Hb Hd := tkc.trans (sd).tk
        have exd := (sd) _ _ exc
        have axd := axc.same (sd)
        have elbd := (sd) _ _ (fc.at (fb.at elb (by simp [nlb])) (by simp [nlb]))
        have fd : Fr [l3] Ha Hd := (fb.trans fc).trans (sd).fr
        have dptd : Dp K Hd (.ref tp) (dPt P n rg) := (dpt.same s0a).tk (tkb.trans tkd) (tupd_pt _ _ _)
        walk_at "rz"
        refine s_in (.inr hbd) (flat_key _) flat_keys ?_
        rw [inV_keys]
        walk_at "rz"
        refine ite_b (fun h1 => ?_) (fun h1 => ?_)
        · have h1' : (!inY (.inr z) s.ma) = true := h1
          walk_at "rz"
          refine s_in (.inl (SqL.of elbd)) (flat_key _) flat_strs ?_
          rw [show inV (kV (.inr z)) (s.busy.map V.str) = decide (z ∈ s.busy) from inV_strs]
          walk_at "rz"
          refine ite_b (fun h2 => ?_) (fun h2 => ?_)
          · have h2' : (!decide (z ∈ s.busy)) = true := h2
            have hfree : s.free (.inr z) = true := by rw [fr0, h1', h2']; rfl
            walk_at "rz"
            refine ⟨_, P, n, z, rg, rfl, dptd, ok, hz, fun u2 Hg sg du2 => ?_⟩
            obtain ⟨tu, tus, rfl, htu, hau⟩ := du2.tupI
            cases hau with | cons b1 hau => ?_
            cases hau with | cons b2 hau => ?_
            cases hau
            cases b1
            walk_at "rz"
            refine ⟨_, _, rfl, ?_⟩
            walk_at "rz"
            rw [show (if (0 : Int) > c1.ba then (0 : Int) else c1.ba) = (if c1.inner P > c1.ba then c1.inner P else c1.ba) by rw [ein], max_dec]
            refine ite_b (fun hlt => ?_) (fun hlt => ?_)
            · have hlt2 : c1.lets P z = true := hlt
              rw [if_pos (show (fun x : Wc × Nat => s.free (.inr z) && x.1.lets P z) (c1, j) = true by show (s.free (.inr z) && c1.lets P z) = true; rw [hfree, hlt2]; rfl)] at hmx
              walk_at "rz"
              refine s_tyL (sg _ _ exd) ?_
              walk_at "rz"
              rename_i pw hpw Hw sw ew
              have sgw := sg.trans sw
              have exw := sgw _ _ exd
              refine s_append exw (by rw [sizeLine_eq]; omega) ?_
              have tk := tk_upd (o := .lst (xsc ++ [.ref pw])) exw
              have fw : Fr [l3] Hw (upd Hw l3 (.lst (xsc ++ [.ref pw]))) := Fr.upd (by simp) exw rfl
              walk_at "rz"
              refine ⟨⟨_, _, _, _, _, _, _, rfl⟩, (fc.trans ((sd).trans sgw).fr).trans fw, _, upd_same, ?_⟩
              rw [hmx, List.map_append (f := fun x : Wc × Nat => Mv.beg z x.2), ← List.append_assoc, List.map_append (f := dMv)]
              exact ((axd.same sgw).tk tk (tds_mv _)).app (.cons (.tup (tk.sqT (SqT.of ew)) (.cons (.str _) (.cons (.str _) (.cons (by rw [Int.zero_add]; exact .int _) .nil)))) .nil)
            · have hlt2 : c1.lets P z = false := hlt
              rw [if_neg (show ¬ (fun x : Wc × Nat => s.free (.inr z) && x.1.lets P z) (c1, j) = true by show ¬ (s.free (.inr z) && c1.lets P z) = true; rw [hlt2, Bool.and_false]; exact Bool.false_ne_true), List.append_nil] at hmx
              walk_at "rz"
              refine ⟨⟨_, _, _, _, _, _, _, rfl⟩, fc.trans ((sd).trans sg).fr, xsc, sg _ _ exd, ?_⟩
              rw [hmx]
              exact axd.same sg
          · have hfree : s.free (.inr z) = false := by rw [fr0, show (!decide (z ∈ s.busy)) = false from h2, Bool.and_false]
            rw [if_neg (show ¬ (fun x : Wc × Nat => s.free (.inr z) && x.1.lets P z) (c1, j) = true by show ¬ (s.free (.inr z) && c1.lets P z) = true; rw [hfree]; exact Bool.false_ne_true), List.append_nil] at hmx
            walk_at "rz"
            refine ⟨⟨_, _, _, _, _, _, _, rfl⟩, fc.trans (sd).fr, xsc, exd, ?_⟩
            rw [hmx]
            exact axd
        · have hfree : s.free (.inr z) = false := by rw [fr0, show (!inY (.inr z) s.ma) = false from h1, Bool.false_and]
          rw [if_neg (show ¬ (fun x : Wc × Nat => s.free (.inr z) && x.1.lets P z) (c1, j) = true by show ¬ (s.free (.inr z) && c1.lets P z) = true; rw [hfree]; exact Bool.false_ne_true), List.append_nil] at hmx
          walk_at "rz"
          refine ⟨⟨_, _, _, _, _, _, _, rfl⟩, fc.trans (sd).fr, xsc, exd, ?_⟩
          rw [hmx]
          exact axd
      | some y =>
        obtain ⟨zs, ty, rfl, hzs, hty⟩ := ca_last cbA hg
        obtain ⟨yz, yi⟩ := cok.cz y (getLast_mem hg)
        have ein : c1.inner P = (P.ln y.1).rk := by unfold Wc.inner; rw [hg]
        rw [show (zs ++ [V.ref ty]).isEmpty = false by cases zs <;> rfl]
        walk_at "rz"
        refine s_ixT (sd.sqT cbT) atI_last ?_
        have hty2 := sd.sqT hty
        walk_at "rz"
        have dptd0 : Dp K Hd (.ref tp) (dPt P n rg) := (dpt.same s0a).tk (tkb.trans (tkc.trans sd.tk)) (tupd_pt _ _ _)
        refine ⟨_, P, n, y.1, rg, rfl, dptd0, ok, yz, fun u1 He se du1 => ?_⟩
        obtain ⟨tu1, tus1, rfl, htu1, hau1⟩ := du1.tupI
        cases hau1 with | cons b1 hau1 => ?_
        cases hau1 with | cons b2 hau1 => ?_
        cases hau1
        cases b1
        have ed : He q1 = some (.tup []) := se _ _ ed
        have hTd := (tkb.trans (tkc.trans (sd.trans se).tk)).sqT (s0a.sqT hT)
        have hbd := (tkb.trans (tkc.trans (sd.trans se).tk)).sqT (s0a.sqT hb)
        have tkd : Tk Hb He := tkc.trans (sd.trans se).tk
        have exd := (sd.trans se) _ _ exc
        have axd := axc.same (sd.trans se)
        have elbd := (sd.trans se) _ _ (fc.at (fb.at elb (by simp [nlb])) (by simp [nlb]))
        have fd : Fr [l3] Ha He := (fb.trans fc).trans (sd.trans se).fr
        have dptd : Dp K He (.ref tp) (dPt P n rg) := (dpt.same s0a).tk (tkb.trans tkd) (tupd_pt _ _ _)
        walk_at "rz"
        refine s_in (.inr hbd) (flat_key _) flat_keys ?_
        rw [inV_keys]
        walk_at "rz"
        refine ite_b (fun h1 => ?_) (fun h1 => ?_)
        · have h1' : (!inY (.inr z) s.ma) = true := h1
          walk_at "rz"
          refine s_in (.inl (SqL.of elbd)) (flat_key _) flat_strs ?_
          rw [show inV (kV (.inr z)) (s.busy.map V.str) = decide (z ∈ s.busy) from inV_strs]
          walk_at "rz"
          refine ite_b (fun h2 => ?_) (fun h2 => ?_)
          · have h2' : (!decide (z ∈ s.busy)) = true := h2
            have hfree : s.free (.inr z) = true := by rw [fr0, h1', h2']; rfl
            walk_at "rz"
            refine ⟨_, P, n, z, rg, rfl, dptd, ok, hz, fun u2 Hg sg du2 => ?_⟩
            obtain ⟨tu, tus, rfl, htu, hau⟩ := du2.tupI
            cases hau with | cons b1 hau => ?_
            cases hau with | cons b2 hau => ?_
            cases hau
            cases b1
            walk_at "rz"
            refine ⟨_, _, rfl, ?_⟩
            walk_at "rz"
            rw [show (if (P.ln y.1).rk > c1.ba then (P.ln y.1).rk else c1.ba) = (if c1.inner P > c1.ba then c1.inner P else c1.ba) by rw [ein], max_dec]
            refine ite_b (fun hlt => ?_) (fun hlt => ?_)
            · have hlt2 : c1.lets P z = true := hlt
              rw [if_pos (show (fun x : Wc × Nat => s.free (.inr z) && x.1.lets P z) (c1, j) = true by show (s.free (.inr z) && c1.lets P z) = true; rw [hfree, hlt2]; rfl)] at hmx
              walk_at "rz"
              refine s_tyL (sg _ _ exd) ?_
              walk_at "rz"
              rename_i pw hpw Hw sw ew
              have sgw := sg.trans sw
              have exw := sgw _ _ exd
              refine s_append exw (by rw [sizeLine_eq]; omega) ?_
              have tk := tk_upd (o := .lst (xsc ++ [.ref pw])) exw
              have fw : Fr [l3] Hw (upd Hw l3 (.lst (xsc ++ [.ref pw]))) := Fr.upd (by simp) exw rfl
              walk_at "rz"
              refine ⟨⟨_, _, _, _, _, _, _, rfl⟩, (fc.trans ((sd.trans se).trans sgw).fr).trans fw, _, upd_same, ?_⟩
              rw [hmx, List.map_append (f := fun x : Wc × Nat => Mv.beg z x.2), ← List.append_assoc, List.map_append (f := dMv)]
              exact ((axd.same sgw).tk tk (tds_mv _)).app (.cons (.tup (tk.sqT (SqT.of ew)) (.cons (.str _) (.cons (.str _) (.cons (by rw [Int.zero_add]; exact .int _) .nil)))) .nil)
            · have hlt2 : c1.lets P z = false := hlt
              rw [if_neg (show ¬ (fun x : Wc × Nat => s.free (.inr z) && x.1.lets P z) (c1, j) = true by show ¬ (s.free (.inr z) && c1.lets P z) = true; rw [hlt2, Bool.and_false]; exact Bool.false_ne_true), List.append_nil] at hmx
              walk_at "rz"
              refine ⟨⟨_, _, _, _, _, _, _, rfl⟩, fc.trans ((sd.trans se).trans sg).fr, xsc, sg _ _ exd, ?_⟩
              rw [hmx]
              exact axd.same sg
          · have hfree : s.free (.inr z) = false := by rw [fr0, show (!decide (z ∈ s.busy)) = false from h2, Bool.and_false]
            rw [if_neg (show ¬ (fun x : Wc × Nat => s.free (.inr z) && x.1.lets P z) (c1, j) = true by show ¬ (s.free (.inr z) && c1.lets P z) = true; rw [hfree]; exact Bool.false_ne_true), List.append_nil] at hmx
            walk_at "rz"
            refine ⟨⟨_, _, _, _, _, _, _, rfl⟩, fc.trans (sd.trans se).fr, xsc, exd, ?_⟩
            rw [hmx]
            exact axd
        · have hfree : s.free (.inr z) = false := by rw [fr0, show (!inY (.inr z) s.ma) = false from h1, Bool.false_and]
          rw [if_neg (show ¬ (fun x : Wc × Nat => s.free (.inr z) && x.1.lets P z) (c1, j) = true by show ¬ (s.free (.inr z) && c1.lets P z) = true; rw [hfree]; exact Bool.false_ne_true), List.append_nil] at hmx
          walk_at "rz"
          refine ⟨⟨_, _, _, _, _, _, _, rfl⟩, fc.trans (sd.trans se).fr, xsc, exd, ?_⟩
          rw [hmx]
          exact axd
    · subst es
      walk_at "rz"
      refine ⟨⟨_, _, _, _, _, _, _, _, _, rfl⟩, fb.trans fc, xsc, exc, ?_⟩
      rw [bg]
      rw [← List.length_zipIdx (l := s.cs) (i := 0), List.take_length] at axc
      exact axc
  subst es
  rw [List.length_map, List.take_length] at ax
  have tkb := fb.tk
  have heB := tkb.sqT (s0a.sqT he)
  have hTB := tkb.sqT (s0a.sqT hT)
  have s0 : Same H Hb := ((s0a.fr : Fr [] H Ha).seq fb fun y hy => .inr (by rw [List.mem_singleton.mp hy]; exact hl30)).same
  have lmv := begs_len (P := P) (s := s) (by omega) s.wa
  walk_at "rz"
  refine s_lenT heB ?_
  rw [lce]
  walk_at "rz"
  refine ⟨by omega, by omega, ?_⟩
  rw [Int.toNat_natCast]
  refine for_range (lo := 0) (n := s.cs.length) (fun j σ Hc => (∃ y4 y5 y6 y7 y8 y9 y10 y11 y12, σ = [some (.ref tp), some (.ref t), some (.ref lb), some (.ref l3), y4, y5, y6, y7, y8, y9, y10, y11, y12, none]) ∧ Fr [l3] Hb Hc ∧ ∃ xs, Hc l3 = some (.lst xs) ∧ DpAll K Hc xs ((s.wa.flatMap (s.begs P) ++ ((s.cs.zipIdx.take j).filter fun x : Wc × Nat => x.1.can P s.up).map fun x : Wc × Nat => Mv.stp x.2).map dMv))
    ⟨⟨_, _, _, _, _, _, _, _, _, rfl⟩, Fr.refl, xs, ex, by rw [List.take_zero, List.filter_nil, List.map_nil, List.append_nil]; exact ax⟩ (fun j σ Hc hj ⟨⟨y4, y5, y6, y7, y8, y9, y10, y11, y12, es⟩, fc, xsc, exc, axc⟩ => ?_) (fun σ Hc ⟨⟨y4, y5, y6, y7, y8, y9, y10, y11, y12, es⟩, fc, xsc, exc, axc⟩ => ?_)
  · subst es
    have hc1 : s.cs[j]? = some s.cs[j] := List.getElem?_eq_getElem hj
    obtain ⟨pv, hpv, dpv⟩ := heA.get (i := j) (x := dWc s.cs[j]) (by rw [List.getElem?_map, hc1]; rfl)
    have cok := sok.co _ (List.getElem_mem hj)
    generalize s.cs[j] = c1 at *
    have tkc := fc.tk
    obtain ⟨tc, cb, cj, ca, rfl, tcT, cbT, cbA, cjT⟩ := ((dpv.same s0).tk tkc (tupd_wc _)).wcI
    have heC := tkc.sqT heB
    have hTC := tkc.sqT hTB
    have hmx := filt_next (fun x : Wc × Nat => x.1.can P s.up) hc1
    have pre2 := filt_len (fun x : Wc × Nat => x.1.can P s.up) s.cs j
    have la := axc.len
    rw [List.length_map, List.length_append, List.length_map] at la
    have hcan : c1.can P s.up = match c1.ca.getLast? with
      | none => !c1.jo.isEmpty
      | some x => !decide ((stp P x).1 = "await") || inY (stp P x).2 s.up := rfl
    walk_at "rz"
    refine s_ixT heC (at_of (j := j) (by omega) hpv) ?_
    refine s_gtup tcT rfl ?_
    walk_at "rz"
    rename_i q1 hq1 Hd sd ed
    refine s_eq0T (sd.sqT cbT) (SqT.of ed) ?_
    cases hg : c1.ca.getLast? with
    | none =>
      rw [ca_none cbA hg]
      rw [hg] at hcan
      have hcan : c1.can P s.up = !c1.jo.isEmpty := hcan
      walk_at "rz"
      rename_i q2 hq2 He se ee
      have sde := sd.trans se
      refine s_eq0T (sde.sqT cjT) (SqT.of ee) ?_
      have ej : (c1.jo.map V.str).isEmpty = c1.jo.isEmpty := by cases c1.jo <;> rfl
      rw [ej]
      walk_at "rz"
      refine ite_b (fun h1 => ?_) (fun h1 => ?_)
      · have hc2 : c1.can P s.up = true := hcan.trans h1
        rw [if_pos (show (fun x : Wc × Nat => x.1.can P s.up) (c1, j) = true from hc2)] at hmx
        walk_at "rz"
        refine s_tyL ((sde) _ _ exc) ?_
        walk_at "rz"
        rename_i pw hpw Hw sw ew
        have sgw := (sde).trans sw
        have exw := sgw _ _ exc
        refine s_append exw (by rw [sizeLine_eq]; omega) ?_
        have tk := tk_upd (o := .lst (xsc ++ [.ref pw])) exw
        have fw : Fr [l3] Hw (upd Hw l3 (.lst (xsc ++ [.ref pw]))) := Fr.upd (by simp) exw rfl
        walk_at "rz"
        refine ⟨⟨_, _, _, _, _, _, _, _, _, rfl⟩, (fc.trans sgw.fr).trans fw, _, upd_same, ?_⟩
        rw [hmx, List.map_append (f := fun x : Wc × Nat => Mv.stp x.2), ← List.append_assoc, List.map_append (f := dMv)]
        exact ((axc.same sgw).tk tk (tds_mv _)).app (.cons (.tup (tk.sqT (SqT.of ew)) (.cons (.str _) (.cons (by rw [Int.zero_add]; exact .int _) .nil))) .nil)
      · have hc2 : c1.can P s.up = false := hcan.trans h1
        rw [if_neg (show ¬ (fun x : Wc × Nat => x.1.can P s.up) (c1, j) = true by rw [show (fun x : Wc × Nat => x.1.can P s.up) (c1, j) = false from hc2]; exact Bool.false_ne_true), List.append_nil] at hmx
        walk_at "rz"
        refine ⟨⟨_, _, _, _, _, _, _, _, _, rfl⟩, fc.trans (sde).fr, xsc, (sde) _ _ exc, ?_⟩
        rw [hmx]
        exact axc.same (sde)
    | some y =>
      obtain ⟨zs, ty, rfl, hzs, hty⟩ := ca_last cbA hg
      obtain ⟨yz, yi⟩ := cok.cz y (getLast_mem hg)
      rw [hg] at hcan
      have hcan : c1.can P s.up = (!decide ((stp P y).1 = "await") || inY (stp P y).2 s.up) := hcan
      rw [show (zs ++ [V.ref ty]).isEmpty = false by cases zs <;> rfl]
      have cbD := sd.sqT cbT
      have hty2 := sd.sqT hty
      walk_at "rz"
      refine s_ixT cbD atI_last ?_
      walk_at "rz"
      have dptd : Dp K Hd (.ref tp) (dPt P n rg) := (dpt.same s0).tk (tkc.trans sd.tk) (tupd_pt _ _ _)
      refine ⟨_, P, n, y.1, rg, rfl, dptd, ok, yz, fun u1 He se du1 => ?_⟩
      obtain ⟨tu1, tus1, rfl, htu1, hau1⟩ := du1.tupI
      cases hau1 with | cons b1 hau1 => ?_
      cases hau1 with | cons b2 hau1 => ?_
      cases hau1
      obtain ⟨st, sv, rfl, hst, hsv⟩ := b2.tupI
      obtain ⟨sy0, hsy, tsy⟩ := Dp.stpI ok yz yi hsv
      have sde := sd.trans se
      have hty3 := se.sqT hty2
      have hupE := sde.sqT (tkc.sqT (s0.sqT hc))
      walk_at "rz"
      refine s_ixT (se.sqT cbD) atI_last ?_
      walk_at "rz"
      refine s_ixT hst (at_of (j := y.2.1) rfl hsy) ?_
      refine s_gtup tsy rfl ?_
      walk_at "rz"
      rw [vstr_dec]
      refine ite_b (fun h1 => ?_) (fun h1 => ?_)
      · have hc2 : c1.can P s.up = true := by rw [hcan, h1]; rfl
        rw [if_pos (show (fun x : Wc × Nat => x.1.can P s.up) (c1, j) = true from hc2)] at hmx
        walk_at "rz"
        refine s_tyL ((sde) _ _ exc) ?_
        walk_at "rz"
        rename_i pw hpw Hw sw ew
        have sgw := (sde).trans sw
        have exw := sgw _ _ exc
        refine s_append exw (by rw [sizeLine_eq]; omega) ?_
        have tk := tk_upd (o := .lst (xsc ++ [.ref pw])) exw
        have fw : Fr [l3] Hw (upd Hw l3 (.lst (xsc ++ [.ref pw]))) := Fr.upd (by simp) exw rfl
        walk_at "rz"
        refine ⟨⟨_, _, _, _, _, _, _, _, _, rfl⟩, (fc.trans sgw.fr).trans fw, _, upd_same, ?_⟩
        rw [hmx, List.map_append (f := fun x : Wc × Nat => Mv.stp x.2), ← List.append_assoc, List.map_append (f := dMv)]
        exact ((axc.same sgw).tk tk (tds_mv _)).app (.cons (.tup (tk.sqT (SqT.of ew)) (.cons (.str _) (.cons (by rw [Int.zero_add]; exact .int _) .nil))) .nil)
      · have hTE := sde.sqT hTC
        walk_at "rz"
        refine s_in (.inr hupE) (flat_key _) flat_keys ?_
        rw [inV_keys]
        walk_at "rz"
        refine ite_b (fun h2 => ?_) (fun h2 => ?_)
        · have hc2 : c1.can P s.up = true := by rw [hcan, h1]; exact h2
          rw [if_pos (show (fun x : Wc × Nat => x.1.can P s.up) (c1, j) = true from hc2)] at hmx
          walk_at "rz"
          refine s_tyL ((sde) _ _ exc) ?_
          walk_at "rz"
          rename_i pw hpw Hw sw ew
          have sgw := (sde).trans sw
          have exw := sgw _ _ exc
          refine s_append exw (by rw [sizeLine_eq]; omega) ?_
          have tk := tk_upd (o := .lst (xsc ++ [.ref pw])) exw
          have fw : Fr [l3] Hw (upd Hw l3 (.lst (xsc ++ [.ref pw]))) := Fr.upd (by simp) exw rfl
          walk_at "rz"
          refine ⟨⟨_, _, _, _, _, _, _, _, _, rfl⟩, (fc.trans sgw.fr).trans fw, _, upd_same, ?_⟩
          rw [hmx, List.map_append (f := fun x : Wc × Nat => Mv.stp x.2), ← List.append_assoc, List.map_append (f := dMv)]
          exact ((axc.same sgw).tk tk (tds_mv _)).app (.cons (.tup (tk.sqT (SqT.of ew)) (.cons (.str _) (.cons (by rw [Int.zero_add]; exact .int _) .nil))) .nil)
        · have hc2 : c1.can P s.up = false := by rw [hcan, h1]; exact h2
          rw [if_neg (show ¬ (fun x : Wc × Nat => x.1.can P s.up) (c1, j) = true by rw [show (fun x : Wc × Nat => x.1.can P s.up) (c1, j) = false from hc2]; exact Bool.false_ne_true), List.append_nil] at hmx
          walk_at "rz"
          refine ⟨⟨_, _, _, _, _, _, _, _, _, rfl⟩, fc.trans (sde).fr, xsc, (sde) _ _ exc, ?_⟩
          rw [hmx]
          exact axc.same (sde)
  · subst es
    rw [← List.length_zipIdx (l := s.cs) (i := 0), List.take_length] at axc
    walk_at "rz"
    exact q Hc l3 xsc (((s0.fr : Fr [] H Hb).seq fc fun y hy => .inr (by rw [List.mem_singleton.mp hy]; exact hl30)).same) hl30 exc axc
end
set_option maxHeartbeats 12000000
open PySem PySem.Spec PyProof.Rows L2 Z
open He (ga ma)
def spLDone (K : Fg) : Sp := fun vs H Q _ => ∃ v u x P n, ∃ s : Ws, ∃ m : Mv, ∃ rg : List Str, vs = [v, u, x] ∧ Dp K H v (dPt P n rg) ∧ P.Ok ∧ Dp K H u (dWs s) ∧ s.Ok P n ∧ n ≤ 6 ∧ Dp K H x (dMv m) ∧ m ∈ s.moves P ∧ ∀ y H', Same H H' → Dp K H' y (dWs (s.after P m)) → Q y H'
def ExD (K : Fg) (H : Hp) (tp t tm e : Addr) (j : Nat) (cs : List Wc) (s' : Ws) (σ : L2.St) (Hy : Hp) : Prop := ∃ a2 b2 c2 d2 co, ∃ c' : Wc, ∃ y9 y10 y11 y12 y14 y15 y16 y17 y18 y19 y20 y21 y22, σ = [some (.ref tp), some (.ref t), some (.ref tm), some (.ref a2), some (.ref b2), some (.ref c2), some (.ref d2), some (.ref e), some (.int (j : Nat)), y9, y10, y11, y12, some (.ref co), y14, y15, y16, y17, y18, y19, y20, y21, y22] ∧ Same H Hy ∧ SqT K Hy a2 (s'.wa.map kV) ∧ SqT K Hy b2 (s'.ma.map kV) ∧ SqT K Hy c2 (s'.up.map kV) ∧ SqT K Hy d2 (s'.be.map V.int) ∧ Dp K Hy (.ref co) (dWc c') ∧ s'.cs = cs.set j c'
theorem if_x {c : Bool} {te tc : TE} {σ : L2.St} {H : Hp} {R : VK} (Ex : V → Hp → Prop) (hx : ∀ v H, Ex v H → R v H) (h : ∀ R' : VK, (∀ v H, Ex v H → R' v H) → if c = true then te σ H R' else tc σ H R') : if c = true then te σ H R else tc σ H R := h R hx
theorem if_and {c : Bool} {tt : L2.St → Hp → (Bool → Hp → Prop) → Prop} {te tc : TE} {σ : L2.St} {H : Hp} {R : VK} (Ex : V → Hp → Prop) (hx : ∀ v H, Ex v H → R v H) (h : ∀ R' : VK, (∀ v H, Ex v H → R' v H) → if c = true then tt σ H (fun c1 H1 => if c1 = true then te σ H1 R' else tc σ H1 R') else if false = true then te σ H R' else tc σ H R') : if c = true then tt σ H (fun c1 H1 => if c1 = true then te σ H1 R else tc σ H1 R) else if false = true then te σ H R else tc σ H R := h R hx
theorem atI_last3 {a b c : V} : atI [a, b, c] (-1) = some c := atI_last (xs := [a, b])
theorem atI_last2 {a b : V} : atI [a, b] (-1) = some b := atI_last (xs := [a])
section
variable {P : Program} {w : World} {K : Fg} {mg : Str → Option Value} {base : Heap}
theorem ok_w_weave_done (T : Txt K mg) : FnOk P w K mg base (L2.CX P w) 2 (ga K "_law_weave_done") (fdOf K (ga K "_law_weave_done")) ["_law_parts", "_law_state", "_law_move"] (spLDone K) := by
  refine FunD.ok T.F_w_weave_done sc_w_weave_done (fun vs H Q E h => ?_) (fun cdv A outer s H vs Q E hr h => ⟨_, PSs.nox (pss_cons (ps_asg (pv 1) (kGT K (pg_tup (n := 5) rfl (pgs_cons (zg 3 sc_w_weave_done.nd) (pgs_cons (zg 4 sc_w_weave_done.nd) (pgs_cons (zg 5 sc_w_weave_done.nd) (pgs_cons (zg 6 sc_w_weave_done.nd) (pgs_cons (zg 7 sc_w_weave_done.nd) pgs_nil))))))))
      (pss_cons (zset 8 sc_w_weave_done.nd (pe_ix (ix_tupK K) (pv 2) (pe_un un_neg pe_int) (fun _ _ => rfl)))
      (pss_cons (ps_asg (pe_ix (ix_tupK K) (pv 7) (pv 8) (fun _ _ => rfl)) (kGT K (pg_tup (n := 3) rfl (pgs_cons (zg 9 sc_w_weave_done.nd) (pgs_cons (zg 10 sc_w_weave_done.nd) (pgs_cons (zg 11 sc_w_weave_done.nd) pgs_nil))))))
      (pss_cons (ps_if (pt_cmpR op_eq (pe_ix (ix_tupK K) (pv 2) pe_int (fun _ _ => rfl)) pe_str (nomark _)) (pss_cons (zset 12 sc_w_weave_done.nd (pe_lc (own := [("_law_row", 21)]) rfl sc_w_weave_done.nd (kIT K (pi_tup (pe_ix (ix_tupK K) (pv 0) pe_int (fun _ _ => rfl)))) (blkOk_by (own := [("_law_row", 21)]) (N := n_w_weave_done) (sc := defScope s_w_weave_done) (by decide +kernel)) (fun _ _ _ _ _ => (zg 21 sc_w_weave_done.nd)) (fun _ _ _ _ _ => pts_nil) (fun _ _ _ _ _ => (pe_ix (ix_tupK K) (pv 21) pe_int (fun _ _ => rfl)))))
      (pss_cons (zset 6 sc_w_weave_done.nd (pe_callTy (call_tuple_ofK K) (by rfl) T.u_tuple (by decide +kernel) (pa_cons (pe_lc (own := [("_law_j", 22)]) rfl sc_w_weave_done.nd (pi_range1 rfl T.u_range (pa_cons (pe_callB (call_lenK K) (by rfl) T.u_len (by decide +kernel) (pa_cons (pv 12) pa_nil)) pa_nil)) (blkOk_by (own := [("_law_j", 22)]) (N := n_w_weave_done) (sc := defScope s_w_weave_done) (by decide +kernel)) (fun _ _ _ _ _ => (zg 22 sc_w_weave_done.nd)) (fun _ _ _ _ _ => pts_nil) (fun _ _ _ _ _ => (pe_op op_add (pe_ix (ix_tupK K) (pv 6) (pv 22) (fun _ _ => rfl)) (pe_callTy call_int1 (by rfl) T.u_int (by decide +kernel) (pa_cons (pe_cmpR op_eq (pe_ix (ix_listK K) (pv 12) (pv 22) (fun _ _ => rfl)) (pe_ix (ix_tupK K) (pv 2) pe_int (fun _ _ => rfl)) (nomark _)) pa_nil))))) pa_nil)))
      (pss_one (ps_par (by rfl) sc_w_weave_done.nd (i := 3) (j := 13) rfl rfl (by decide) rfl rfl (pa_cons (z_call (ok_w_weave_with T) T.c_w_weave_with (hr.mono (by decide)) rfl T.g_w_weave_with passL (pa_cons (pv 3) (pa_cons (pe_ix (ix_tupK K) (pv 2) pe_int (fun _ _ => rfl)) (pa_cons pe_bl pa_nil)))) (pa_cons (pe_tup (pa_cons (pe_op (op_catAK K) (pv 9) (pe_tup (pa_cons (pe_tup (pa_cons (pe_ix (ix_tupK K) (pv 2) pe_int (fun _ _ => rfl)) (pa_cons pe_int (pa_cons (pv 10) pa_nil)))) pa_nil))) (pa_cons (pv 10) (pa_cons (pv 11) pa_nil)))) pa_nil)) (by rfl))))) (pss_one (ps_if (pt_cmpR (op_eq0K K hr.units) (pv 9) (pe_tup pa_nil) (nomark _)) (pss_cons (zset 14 sc_w_weave_done.nd (pe_ix (ix_tupK K) (pe_callB (cr_minIIK rfl hr.units) (by rfl) T.u_min (by decide +kernel) (pa_cons (pe_lc (own := [("_law_j", 22)]) rfl sc_w_weave_done.nd (pi_range1 rfl T.u_range (pa_cons (pe_callB (call_lenK K) (by rfl) T.u_len (by decide +kernel) (pa_cons (pv 11) pa_nil)) pa_nil)) (blkOk_by (own := [("_law_j", 22)]) (N := n_w_weave_done) (sc := defScope s_w_weave_done) (by decide +kernel)) (fun _ _ _ _ _ => (zg 22 sc_w_weave_done.nd)) (fun _ _ _ _ _ => pts_nil) (fun _ _ _ _ _ => (pe_tup (pa_cons (pe_op op_sub pe_int (z_call (ok_w_weave_rank T) T.c_w_weave_rank (hr.mono (by decide)) rfl T.g_w_weave_rank passL (pa_cons (pv 0) (pa_cons (pe_ix (ix_tupK K) (pv 11) (pv 22) (fun _ _ => rfl)) pa_nil)))) (pa_cons (pv 22) pa_nil))))) pa_nil)) pe_int (fun _ _ => rfl)))
      (pss_one (zset 13 sc_w_weave_done.nd (pe_tup (pa_cons (pv 9) (pa_cons (pv 10) (pa_cons (pe_op (op_catAK K) (pe_slice (sl_tupAK K) (pv 11) po_none (po_some (pv 14))) (pe_slice (sl_tupAK K) (pv 11) (po_some (pe_op op_add (pv 14) pe_int)) po_none)) pa_nil))))))) (pss_cons (ps_asg (pe_ix (ix_tupK K) (pv 9) (pe_un un_neg pe_int) (fun _ _ => rfl)) (kGT K (pg_tup (n := 3) rfl (pgs_cons (zg 15 sc_w_weave_done.nd) (pgs_cons (zg 16 sc_w_weave_done.nd) (pgs_cons (zg 17 sc_w_weave_done.nd) pgs_nil))))))
      (pss_cons (zset 18 sc_w_weave_done.nd (pe_ix (ix_tupK K) (z_call (ok_w_weave_steps T) T.c_w_weave_steps (hr.mono (by decide)) rfl T.g_w_weave_steps passL (pa_cons (pv 0) (pa_cons (pv 15) pa_nil))) pe_int (fun _ _ => rfl)))
      (pss_cons (ps_asg (pe_ix (ix_tupK K) (pv 18) (pv 16) (fun _ _ => rfl)) (kGT K (pg_tup (n := 2) rfl (pgs_cons (zg 19 sc_w_weave_done.nd) (pgs_cons (zg 20 sc_w_weave_done.nd) pgs_nil)))))
      (pss_cons (zset 3 sc_w_weave_done.nd (pe_ifExp (pt_cmpR op_eq (pv 19) pe_str (nomark _)) (z_call (ok_w_weave_with T) T.c_w_weave_with (hr.mono (by decide)) rfl T.g_w_weave_with passL (pa_cons (pv 3) (pa_cons (pv 20) (pa_cons pe_bl pa_nil)))) (pv 3)))
      (pss_cons (zset 4 sc_w_weave_done.nd (pe_ifExp (pt_cmpR (op_in_seqK K) (pv 19) (pe_tup (pa_cons pe_str (pa_cons pe_str pa_nil))) (by rfl)) (z_call (ok_w_weave_with T) T.c_w_weave_with (hr.mono (by decide)) rfl T.g_w_weave_with passL (pa_cons (pv 4) (pa_cons (pv 20) (pa_cons (pe_cmpR op_eq (pv 19) pe_str (nomark _)) pa_nil)))) (pv 4)))
      (pss_cons (zset 5 sc_w_weave_done.nd (pe_ifExp (pt_cmpR (op_in_seqK K) (pv 19) (pe_tup (pa_cons pe_str (pa_cons pe_str pa_nil))) (by rfl)) (z_call (ok_w_weave_with T) T.c_w_weave_with (hr.mono (by decide)) rfl T.g_w_weave_with passL (pa_cons (pv 5) (pa_cons (pv 20) (pa_cons (pe_cmpR op_eq (pv 19) pe_str (nomark _)) pa_nil)))) (pv 5)))
      (pss_cons (zset 10 sc_w_weave_done.nd (pe_ifExp (pt_cmpR op_eq (pv 19) pe_str (nomark _)) (pv 20) (pv 10)))
      (pss_cons (zset 11 sc_w_weave_done.nd (pe_ifExp (PW.pt (pw_and (pt_cmpR op_eq (pv 19) pe_str (nomark _)) (pw_and1 (pt_cmpR (op_notIn_seqK K) (pv 20) (pv 11) (by rfl))))) (pe_op (op_catAK K) (pv 11) (pe_tup (pa_cons (pv 20) pa_nil))) (pv 11)))
      (pss_one (zset 13 sc_w_weave_done.nd (pe_ifExp (pt_cmpR op_lt (pe_op op_add (pv 16) pe_int) (pe_callB (call_lenK K) (by rfl) T.u_len (by decide +kernel) (pa_cons (pv 18) pa_nil)) (nomark _)) (pe_tup (pa_cons (pe_op (op_catAK K) (pe_slice (sl_tupAK K) (pv 9) po_none (po_some (pe_un un_neg pe_int))) (pe_tup (pa_cons (pe_tup (pa_cons (pv 15) (pa_cons (pe_op op_add (pv 16) pe_int) (pa_cons (pv 17) pa_nil)))) pa_nil))) (pa_cons (pv 10) (pa_cons (pv 11) pa_nil)))) (pe_tup (pa_cons (pe_slice (sl_tupAK K) (pv 9) po_none (po_some (pe_un un_neg pe_int))) (pa_cons (pv 17) (pa_cons (pv 11) pa_nil))))))))))))))))))
      (pss_one (ps_ret (pe_tup (pa_cons (pv 3) (pa_cons (pv 4) (pa_cons (pv 5) (pa_cons (pv 6) (pa_cons (pe_op (op_catAK K) (pe_op (op_catAK K) (pe_slice (sl_tupAK K) (pv 7) po_none (po_some (pv 8))) (pe_tup (pa_cons (pv 13) pa_nil))) (pe_slice (sl_tupAK K) (pv 7) (po_some (pe_op op_add (pv 8) pe_int)) po_none)) pa_nil)))))))))))), ?_⟩)
  · obtain ⟨v, u, x, P, n, s, m, rg, rfl, _⟩ := h
    rfl
  obtain ⟨v, u, x, P, n, s, m, rg, rfl, dpt, ok, dv, sok, n6, dm, hm, q⟩ := h
  obtain ⟨t, a, b, c, d, e, ce, rfl, hT, ha, hb, hc, hd, he, heA⟩ := dv.wsI
  obtain ⟨tp, ps, rfl, hpT, hpA⟩ := dpt.tupI
  cases hpA with | cons h1 hpA => ?_
  cases hpA with | cons h2 hpA => ?_
  cases hpA with | cons h3 hpA => ?_
  cases hpA with | cons h4 hpA => ?_
  cases hpA
  obtain ⟨pa, ls, rfl, hlT, hlA⟩ := h1.tupI
  have lce : ce.length = s.cs.length := by rw [heA.len, List.length_map]
  have lcs := sok.cs
  obtain ⟨lwa, lma, lup, lbe⟩ := sok.walen ok
  have lnm := ok.len
  obtain ⟨tm, ms, j, c1, rfl, hmT, hk1, hj, hmw⟩ : ∃ tm ms, ∃ j : Nat, ∃ c1 : Wc, x = .ref tm ∧ SqT K H tm ms ∧ atI ms (-1) = some (.int (j : Nat)) ∧ s.cs[j]? = some c1 ∧ ((∃ z, m = .beg z j ∧ ms = [.str "begin", .str z, .int (j : Nat)] ∧ z ∈ P.names) ∨ (m = .stp j ∧ ms = [.str "step", .int (j : Nat)] ∧ c1.can P s.up = true)) := by
    rcases moves_mem hm with ⟨z, j, c1, rfl, ⟨k, hk, rfl, hf⟩, hj, hl⟩ | ⟨j, c1, rfl, hj, hcan⟩
    · obtain ⟨tu, us, rfl, huT, huA⟩ := dm.tupI
      cases huA with | cons h1 huA => ?_
      cases huA with | cons h2 huA => ?_
      cases huA with | cons h3 huA => ?_
      cases huA
      cases h1
      cases h2
      cases h3
      obtain ⟨z, hz, rfl⟩ := List.mem_map.mp (sok.wa.sub k hk)
      exact ⟨tu, _, j, c1, rfl, huT, atI_last3, hj, .inl ⟨z, rfl, rfl, hz⟩⟩
    · obtain ⟨tu, us, rfl, huT, huA⟩ := dm.tupI
      cases huA with | cons h1 huA => ?_
      cases huA with | cons h2 huA => ?_
      cases huA
      cases h1
      cases h2
      exact ⟨tu, _, j, c1, rfl, huT, atI_last2, hj, .inr ⟨rfl, rfl, hcan⟩⟩
  have hj2 : j < s.cs.length := (List.getElem?_eq_some_iff.mp hj).1
  obtain ⟨pv, hpv, dpv⟩ := heA.get (i := j) (x := dWc c1) (by rw [List.getElem?_map, hj]; rfl)
  have cok := sok.co _ (List.mem_of_getElem? hj)
  obtain ⟨tc, cb, cj, ca, rfl, tcT, cbT, cbA, cjT⟩ := dpv.wcI
  have jolen := cok.jolen ok
  have calen := cok.calen ok
  have lca : ca.length = c1.ca.length := by rw [cbA.len, List.length_map]
  show (_ : TS) _ (some (.ref tp) :: some (.ref t) :: some (.ref tm) :: List.replicate 20 none) H
  try dsimp only [cxOf]
  dsimp only [List.replicate]
  walk_at "rz"
  refine s_gtup hT rfl ?_
  walk_at "rz"
  refine s_ixT hmT hk1 ?_
  walk_at "rz"
  refine s_ixT he (at_of (j := j) rfl hpv) ?_
  refine s_gtup tcT rfl ?_
  walk_at "rz"
  obtain ⟨b0, hb0⟩ : ∃ b0 : Str, ms[0]? = some (V.str b0) ∧ (b0 = "begin" ↔ ∃ z, m = .beg z j) := by
    rcases hmw with ⟨z, rfl, rfl, _⟩ | ⟨rfl, rfl, _⟩
    · exact ⟨_, rfl, fun _ => ⟨z, rfl⟩, fun _ => rfl⟩
    · exact ⟨_, rfl, fun h => absurd h (by decide), fun ⟨z, h⟩ => nomatch h⟩
  refine s_ixT hmT (at_of (j := 0) rfl hb0.1) ?_
  walk_at "rz"
  rw [vstr_dec]
  refine if_w (ExD K H tp t tm e j s.cs (s.after P m)) ?rest (fun nx hx => ?br)
  case rest =>
    rintro σ Hy ⟨a2, b2, c2, d2, co, c', y9, y10, y11, y12, y14, y15, y16, y17, y18, y19, y20, y21, y22, rfl, sy, aT, bT, cT, dT, dco, ecs⟩
    have heY := sy.sqT he
    walk_at "rz"
    refine s_slA heY fun p1 H1 s1 e1 => ?_
    walk_at "rz"
    rename_i p2 hp2 H2 s2 e2
    refine s_catW (s2.sqT e1) (SqT.of e2) (by rw [sizeLine_eq]; have := cutV_length ce none (some (j : Int)); show _ + 1 ≤ _; omega) fun p3 H3 s3 e3 => ?_
    walk_at "rz"
    refine s_slA (((s1.trans s2).trans s3).sqT heY) fun p4 H4 s4 e4 => ?_
    walk_at "rz"
    refine s_catW (s4.sqT e3) e4 (by rw [sizeLine_eq, List.length_append]; have := cutV_length ce none (some (j : Int)); have := cutV_length ce (some ((j : Int) + 1)) none; show _ + 1 + _ ≤ _; omega) fun p5 H5 s5 e5 => ?_
    walk_at "rz"
    rename_i p6 hp6 H6 s6 e6
    have sA := ((s1.trans s2).trans s3).trans ((s4.trans s5).trans s6)
    rw [cut_take, show (j : Int) + 1 = ((j + 1 : Nat) : Int) by omega, cut_drop, set_cut (by omega)] at e5
    refine q (.ref p6) H6 (sy.trans sA) (Dp.wsR (s := s.after P m) (SqT.of e6) (sA.sqT aT) (sA.sqT bT) (sA.sqT cT) (sA.sqT dT) (s6.sqT e5) ?_)
    rw [ecs, List.map_set]
    exact dpall_set (dco.same sA) (heA.same (sy.trans sA))
  have pos : ∀ {σ : L2.St} {Hy : Hp}, ExD K H tp t tm e j s.cs (s.after P m) σ Hy → nx σ Hy := fun h => hx _ _ h
  clear hx
  rcases hmw with ⟨z, rfl, rfl, hz⟩ | ⟨rfl, rfl, hcan⟩
  · have e0 : ("begin" : Str) = b0 := by
      have e : V.str ("begin" : Str) = V.str b0 := Option.some.inj hb0.1
      injection e
    subst e0
    rw [if_pos (by decide)]
    have ea : s.after P (.beg z j) = { s with wa := wPut s.wa (.inr z) false, be := bumpB P s.be z, cs := s.cs.set j { c1 with ca := c1.ca ++ [(z, 0, c1.ba)] } } := by
      unfold Ws.after
      simp only [hj, Option.getD_some]
    walk_at "rz"
    have l12 := ok.l12
    refine lcT_d (l := P.ls) (da := dLn) hlT hlA (fun _ => true) (fun l => .str l.nm) (by omega) (fun _ _ => rfl) (fun l v H2 Yes No hl2 s2 dv yes no => ?_) (fun l2 H2 ys hl2 s2 e2 a2 => ?_)
    · obtain ⟨tl, st, sv, rfl, htl, _, _⟩ := dv.lnI
      walk_at "rz"
      refine ⟨rfl, ?_⟩
      walk_at "rz"
      exact yes rfl _ _ (Same.refl _) (.str _)
    have a3 : ys = P.names.map V.str := by
      refine dp_strs (K := K) (H := H2) ?_
      have e : (P.ls.filter fun _ => true) = P.ls := List.filter_eq_self.mpr fun _ _ => rfl
      rw [e] at a2
      rw [show P.names.map PyData.str = P.ls.map fun l => PyData.str l.nm by rw [Pl.names, List.map_map]; rfl]
      exact a2
    subst a3
    walk_at "rz"
    refine s_lenL (SqL.of e2) ?_
    walk_at "rz"
    rw [List.length_map]
    refine ⟨by omega, by omega, ?_⟩
    rw [Int.toNat_natCast]
    refine lcRg_d (K := K) (fun _ => true) (fun i => .int ((s.be[i]?).getD 0 + if (P.names[i]?).getD ("" : Str) = z then 1 else 0)) (by omega) (fun _ _ => rfl) (fun i H3 Yes No hi s3 yes no => ?_) (fun l3 H3 zs hl3 s3 e3 a3 => ?_)
    · have hn1 : P.names[i]? = some P.names[i] := List.getElem?_eq_getElem hi
      have hb1 : s.be[i]? = some (s.be[i]'(by have := sok.be; omega)) := List.getElem?_eq_getElem (by have := sok.be; omega)
      have hd2 := (s2.trans s3).sqT hd
      have hm2 := (s2.trans s3).sqT hmT
      have e2' := s3 _ _ e2
      generalize hbe : (s.be[i]'(by have := sok.be; omega)) = b1 at hb1
      generalize hne : P.names[i] = nm1 at hn1
      rw [hn1, hb1] at yes
      walk_at "rz"
      refine ⟨rfl, ?_⟩
      walk_at "rz"
      refine s_ixT hd2 (at_of (j := i) (v := .int b1) rfl (by rw [List.getElem?_map, hb1]; rfl)) ?_
      walk_at "rz"
      refine s_ixL (SqL.of e2') (v := .str nm1) (atI_nat (by rw [List.getElem?_map, hn1]; rfl)) ?_
      walk_at "rz"
      refine yes rfl _ _ (Same.refl _) ?_
      rw [vstr_dec]
      by_cases h : nm1 = z
      · rw [if_pos (decide_eq_true h)]
        show Dp K _ _ (.int (b1 + if nm1 = z then 1 else 0))
        rw [if_pos h]
        exact .int _
      · rw [if_neg (by simpa using h)]
        show Dp K _ _ (.int (b1 + if nm1 = z then 1 else 0))
        rw [if_neg h]
        exact .int _
    have a4 : zs = (bumpB P s.be z).map V.int := by
      refine dp_ints (K := K) (H := H3) ?_
      rw [List.filter_eq_self.mpr fun _ _ => rfl] at a3
      rw [bump_range P s.be z sok.be, List.map_map]
      exact a3
    subst a4
    walk_at "rz"
    refine ⟨l3, _, rfl, .inl ⟨SqL.of e3, fun t4 ht4 => ?_⟩⟩
    generalize eH : upd H3 t4 _ = H4
    have s4 := newS ht4 eH
    have e4 := newE eH
    clear eH
    have s04 := (s2.trans s3).trans s4
    have hm4 := s04.sqT hmT
    walk_at "rz"
    refine ⟨a, s.wa, .inr z, false, rfl, s04.sqT ha, KSub.kind sok.wa (List.mem_map_of_mem hz), by omega, fun tA HA sA eA => ?_⟩
    walk_at "rz"
    rename_i p6 hp6 H6 s6 e6 p7 hp7 H7 s7 e7
    refine s_catW (((s04.trans sA).trans (s6.trans s7)).sqT cbT) (SqT.of e7) (by rw [sizeLine_eq]; show _ + 1 ≤ _; omega) fun p8 H8 s8 e8 => ?_
    walk_at "rz"
    rename_i p9 hp9 H9 s9 e9
    have s49 := ((sA.trans (s6.trans s7)).trans s8).trans s9
    have s09 := s04.trans s49
    have dcl : Dp K H9 (.ref p6) (dCl (z, 0, c1.ba)) := .tup (SqT.of (((s7.trans s8).trans s9) _ _ e6)) (.cons (.str _) (.cons (.int _) (.cons (.int _) .nil)))
    have dwc : Dp K H9 (.ref p9) (dWc { c1 with ca := c1.ca ++ [(z, 0, c1.ba)] }) := by
      refine Dp.wcR (s := { c1 with ca := c1.ca ++ [(z, 0, c1.ba)] }) (SqT.of e9) (s9.sqT e8) ?_ (s09.sqT cjT)
      rw [List.map_append]
      exact (cbA.same s09).app (.cons dcl .nil)
    rw [ea] at pos
    exact pos ⟨_, _, _, _, _, _, _, _, _, _, _, _, _, _, _, _, _, _, _, rfl, s09, (((s6.trans s7).trans s8).trans s9).sqT eA, s09.sqT hb, s09.sqT hc, SqT.of (s49 _ _ e4), dwc, rfl⟩
  have e0 : ("step" : Str) = b0 := by
    have e : V.str ("step" : Str) = V.str b0 := Option.some.inj hb0.1
    injection e
  subst e0
  rw [if_neg (by decide)]
  walk_at "rz"
  rename_i p1 hp1 H1 s1 e1
  refine s_eq0T (s1.sqT cbT) (SqT.of e1) ?_
  cases hg : c1.ca.getLast? with
  | none =>
    have ea : s.after P (.stp j) = { s with cs := s.cs.set j { c1 with jo := lessW P c1.jo } } := by
      unfold Ws.after
      simp only [hj, Option.getD_some, hg]
    rw [ca_none cbA hg]
    have jne : c1.jo ≠ [] := fun h0 => by
      unfold Wc.can at hcan
      rw [hg, h0] at hcan
      cases hcan
    have cj1 := s1.sqT cjT
    walk_at "rz"
    refine s_lenT cj1 ?_
    walk_at "rz"
    rw [List.length_map]
    refine ⟨by omega, by omega, ?_⟩
    rw [Int.toNat_natCast]
    refine lcRg_d (K := K) (fun _ => true) (fun i => dII (0 - (P.wk ((c1.jo[i]?).getD ("" : Str))).rk, ((i : Nat) : Int))) (by omega) (fun _ _ => rfl) (fun i H2 Yes No hi s2 yes no => ?_) (fun l2 H2 ys hl2 s2 e2 a2 => ?_)
    · have hn1 : c1.jo[i]? = some c1.jo[i] := List.getElem?_eq_getElem hi
      have hw1 := cok.jw _ (List.getElem_mem hi)
      generalize c1.jo[i] = w1 at hn1 hw1
      have cj2 := s2.sqT cj1
      rw [hn1] at yes
      walk_at "rz"
      refine ⟨rfl, ?_⟩
      walk_at "rz"
      refine s_ixT cj2 (at_of (j := i) (v := .str w1) rfl (by rw [List.getElem?_map, hn1]; rfl)) ?_
      walk_at "rz"
      refine ⟨_, P, n, w1, rg, rfl, dpt.same (s1.trans s2), ok, hw1, fun H3 s3 => ?_⟩
      walk_at "rz"
      rename_i p4 hp4 H4 s4 e4
      exact yes rfl _ _ (s3.trans s4) (.tup (SqT.of e4) (.cons (.int _) (.cons (.int _) .nil)))
    rw [List.filter_eq_self.mpr fun _ _ => rfl] at a2
    obtain ⟨y0, r0, ey⟩ := zipIdx_jobs (P := P) jne
    have fw := firstW_is ey
    have a3 : DpAll K H2 ys ((y0 :: r0).map dII) := by
      rw [← ey, jobs_range, List.map_map]
      exact a2
    walk_at "rz"
    refine ⟨_, _, y0, r0, rfl, SqL.of e2, a3, fun v hv => ?_⟩
    obtain ⟨tv, tvs, rfl, htv, hav⟩ := hv.tupI
    cases hav with | cons b1 hav => ?_
    cases hav with | cons b2 hav => ?_
    cases hav
    cases b1
    cases b2
    have cj2 := s2.sqT cj1
    walk_at "rz"
    refine s_slA cj2 fun p3 H3 s3 e3 => ?_
    walk_at "rz"
    refine s_slA (s3.sqT cj2) fun p4 H4 s4 e4 => ?_
    refine s_catW (s4.sqT e3) e4 (by rw [fw.1, cut_take, show ((firstW P c1.jo : Nat) : Int) + 1 = ((firstW P c1.jo + 1 : Nat) : Int) by omega, cut_drop, sizeLine_eq, List.length_take, List.length_drop, List.length_map]; omega) fun p5 H5 s5 e5 => ?_
    rw [fw.1, cut_take, show ((firstW P c1.jo : Nat) : Int) + 1 = ((firstW P c1.jo + 1 : Nat) : Int) by omega, cut_drop, ← List.map_take, ← List.map_drop, ← List.map_append] at e5
    walk_at "rz"
    rename_i p6 hp6 H6 s6 e6
    have s06 := ((s1.trans s2).trans (s3.trans s4)).trans (s5.trans s6)
    have dwc : Dp K H6 (.ref p6) (dWc { c1 with jo := lessW P c1.jo }) := by
      refine Dp.wcR (s := { c1 with jo := lessW P c1.jo }) (SqT.of e6) (ca := []) ?_ ?_ (s6.sqT e5)
      · have := s06.sqT cbT
        rw [ca_none cbA hg] at this
        exact this
      rw [List.getLast?_eq_none_iff.mp hg]
      exact .nil
    rw [ea] at pos
    exact pos ⟨_, _, _, _, _, _, _, _, _, _, _, _, _, _, _, _, _, _, _, rfl, s06, s06.sqT ha, s06.sqT hb, s06.sqT hc, s06.sqT hd, dwc, rfl⟩
  | some y =>
    obtain ⟨zs, ty, rfl, hzs, hty⟩ := ca_last cbA hg
    obtain ⟨yz, yi⟩ := cok.cz y (getLast_mem hg)
    have ea : s.after P (.stp j) = { s.did (stp P y) with cs := s.cs.set j (c1.gone P y.1 y.2.1 y.2.2) } := by
      unfold Ws.after
      simp only [hj, Option.getD_some, hg]
    obtain ⟨_, si⟩ := ok.stp yz yi
    have lzs : zs.length ≤ 9 := by
      have := cbA.len
      rw [List.length_append, List.length_map] at this
      omega
    have hcg : c1.gone P y.1 y.2.1 y.2.2 = (let w := stp P y
        let ba := if w.1 = "bar" then kI w.2 else c1.ba
        let jo := if w.1 = "later" ∧ kS w.2 ∉ c1.jo then c1.jo ++ [kS w.2] else c1.jo
        if y.2.1 + 1 < (P.ln y.1).st.length then ⟨c1.ca.dropLast ++ [(y.1, y.2.1 + 1, y.2.2)], ba, jo⟩ else ⟨c1.ca.dropLast, y.2.2, jo⟩) := rfl
    rw [show (zs ++ [V.ref ty]).isEmpty = false by cases zs <;> rfl]
    have cb1 := s1.sqT cbT
    have ty1 := s1.sqT hty
    walk_at "rz"
    refine s_ixT cb1 atI_last ?_
    refine s_gtup ty1 rfl ?_
    walk_at "rz"
    refine ⟨_, P, n, y.1, rg, rfl, dpt.same s1, ok, yz, fun u1 H2 s2 du1 => ?_⟩
    obtain ⟨tu1, tus1, rfl, htu1, hau1⟩ := du1.tupI
    cases hau1 with | cons b1 hau1 => ?_
    cases hau1 with | cons b2 hau1 => ?_
    cases hau1
    obtain ⟨st, sv, rfl, hst, hsv⟩ := b2.tupI
    obtain ⟨sy0, hsy, tsy⟩ := Dp.stpI ok yz yi hsv
    have lsv : sv.length = (P.ln y.1).st.length := by rw [hsv.len, List.length_map]
    walk_at "rz"
    refine s_ixT hst (at_of (j := y.2.1) rfl hsy) ?_
    generalize hw : stp P y = w at *
    obtain ⟨wd, vl⟩ := w
    dsimp only at hcg tsy
    refine s_gtup tsy rfl ?_
    walk_at "rz"
    generalize hba : (if wd = "bar" then kI vl else c1.ba) = ba1 at hcg
    generalize hjo : (if wd = "later" ∧ kS vl ∉ c1.jo then c1.jo ++ [kS vl] else c1.jo) = jo1 at hcg
    have s02 := s1.trans s2
    rw [vstr_dec]
    dsimp only [List.set]
    refine if_x (fun v Hy => ∃ a2, v = .ref a2 ∧ Same H2 Hy ∧ SqT K Hy a2 ((s.did (wd, vl)).wa.map kV)) ?r1 (fun R1 hR1 => ?b1)
    case b1 =>
      refine ite_b (fun w1 => ?_) (fun w1 => ?_)
      · have w1 : wd = "ring" := of_decide_eq_true w1
        have hk2 := si.lineK (q := "ring") w1 (by decide)
        have dwa : (s.did (wd, vl)).wa = wPut s.wa vl true := if_pos w1
        walk_at "rz"
        exact ⟨a, s.wa, vl, true, rfl, s02.sqT ha, KSub.kind sok.wa hk2, by omega, fun t3 H3 s3 h3 => hR1 _ _ ⟨_, rfl, s3, by rw [dwa]; exact h3⟩⟩
      · have w1 : ¬ wd = "ring" := of_decide_eq_false w1
        have dwa : (s.did (wd, vl)).wa = s.wa := if_neg w1
        walk_at "rz"
        exact hR1 _ _ ⟨_, rfl, Same.refl _, by rw [dwa]; exact s02.sqT ha⟩
    case r1 =>
      rintro v Ha ⟨a2, rfl, sa, aT⟩
      have s0a := s02.trans sa
      walk_at "rz"
      rename_i t2 ht2 H3 s3 e3
      refine s_in (.inr (SqT.of e3)) rfl rfl ?_
      rw [show inV (V.str wd) [V.str "mask", V.str "unmask"] = decide (wd ∈ (["mask", "unmask"] : List Str)) from inV_strs (l := ["mask", "unmask"])]
      walk_at "rz"
      refine if_x (fun v Hy => ∃ a2, v = .ref a2 ∧ Same H3 Hy ∧ SqT K Hy a2 ((s.did (wd, vl)).ma.map kV)) ?r2 (fun R2 hR2 => ?b2)
      case b2 =>
        refine ite_b (fun w2 => ?_) (fun w2 => ?_)
        · have w2 : wd ∈ (["mask", "unmask"] : List Str) := of_decide_eq_true w2
          have w2' : wd = "mask" ∨ wd = "unmask" := by simpa using w2
          have w3 : wd ∈ (["ring", "mask", "unmask"] : List Str) := List.mem_cons_of_mem _ w2
          have dma : (s.did (wd, vl)).ma = wPut s.ma vl (decide (wd = "mask")) := if_pos w2'
          have hk2 := si.lineK rfl w3
          walk_at "rz"
          rw [vstr_dec]
          exact ⟨b, s.ma, vl, decide (wd = "mask"), rfl, (s0a.trans s3).sqT hb, KSub.kind sok.ma hk2, by omega, fun t4 H4 s4 h4 => hR2 _ _ ⟨_, rfl, s4, by rw [dma]; exact h4⟩⟩
        · have w2 : ¬ wd ∈ (["mask", "unmask"] : List Str) := of_decide_eq_false w2
          have w2' : ¬ (wd = "mask" ∨ wd = "unmask") := by simpa using w2
          have dma : (s.did (wd, vl)).ma = s.ma := if_neg w2'
          walk_at "rz"
          exact hR2 _ _ ⟨_, rfl, Same.refl _, by rw [dma]; exact (s0a.trans s3).sqT hb⟩
      case r2 =>
        rintro v Hb ⟨b2, rfl, sb, bT⟩
        have s0b := (s0a.trans s3).trans sb
        walk_at "rz"
        rename_i t4 ht4 H4 s4 e4
        refine s_in (.inr (SqT.of e4)) rfl rfl ?_
        rw [show inV (V.str wd) [V.str "set", V.str "clear"] = decide (wd ∈ (["set", "clear"] : List Str)) from inV_strs (l := ["set", "clear"])]
        walk_at "rz"
        refine if_x (fun v Hy => ∃ a2, v = .ref a2 ∧ Same H4 Hy ∧ SqT K Hy a2 ((s.did (wd, vl)).up.map kV)) ?r3 (fun R3 hR3 => ?b3)
        case b3 =>
          refine ite_b (fun w2 => ?_) (fun w2 => ?_)
          · have w2 : wd ∈ (["set", "clear"] : List Str) := of_decide_eq_true w2
            have w2' : wd = "set" ∨ wd = "clear" := by simpa using w2
            have dup : (s.did (wd, vl)).up = wPut s.up vl (decide (wd = "set")) := if_pos w2'
            have hk2 := si.flagK rfl w2
            walk_at "rz"
            rw [vstr_dec]
            exact ⟨c, s.up, vl, decide (wd = "set"), rfl, (s0b.trans s4).sqT hc, KSub.kindF sok.up hk2, by omega, fun t4 H4 s4 h4 => hR3 _ _ ⟨_, rfl, s4, by rw [dup]; exact h4⟩⟩
          · have w2 : ¬ wd ∈ (["set", "clear"] : List Str) := of_decide_eq_false w2
            have w2' : ¬ (wd = "set" ∨ wd = "clear") := by simpa using w2
            have dup : (s.did (wd, vl)).up = s.up := if_neg w2'
            walk_at "rz"
            exact hR3 _ _ ⟨_, rfl, Same.refl _, by rw [dup]; exact (s0b.trans s4).sqT hc⟩
        case r3 =>
          rintro v Hc ⟨c2, rfl, sc, cT⟩
          have s0c := (s0b.trans s4).trans sc
          walk_at "rz"
          rw [vstr_dec]
          refine if_x (fun v Hy => v = .int ba1 ∧ Same Hc Hy) ?r4 (fun R4 hR4 => ?b4)
          case b4 =>
            refine ite_b (fun w4 => ?_) (fun w4 => ?_)
            · have w4 : wd = "bar" := of_decide_eq_true w4
              rw [if_pos w4] at hba
              obtain ⟨i, rfl⟩ : ∃ i, vl = .inl i := si.barK w4
              subst hba
              walk_at "rz"
              exact hR4 _ _ ⟨rfl, Same.refl _⟩
            · have w4 : ¬ wd = "bar" := of_decide_eq_false w4
              rw [if_neg w4] at hba
              subst hba
              walk_at "rz"
              exact hR4 _ _ ⟨rfl, Same.refl _⟩
          case r4 =>
            rintro v Hd ⟨rfl, sd⟩
            have s0d := s0c.trans sd
            walk_at "rz"
            rw [vstr_dec]
            dsimp only [List.set]
            have cjd := s0d.sqT cjT
            refine if_and (fun v Hy => ∃ a2, v = .ref a2 ∧ Same Hd Hy ∧ SqT K Hy a2 (jo1.map V.str)) ?r5 (fun R5 hR5 => ?b5)
            case b5 =>
              refine ite_b (fun w5 => ?_) (fun w5 => ?_)
              · have w5 : wd = "later" := of_decide_eq_true w5
                obtain ⟨z, rfl⟩ : ∃ z, vl = .inr z := si.laterS w5
                walk_at "rz"
                refine s_in (.inr cjd) (flat_key _) flat_strs ?_
                rw [show inV (kV (.inr z)) (c1.jo.map V.str) = decide (z ∈ c1.jo) from inV_strs]
                walk_at "rz"
                refine ite_b (fun w6 => ?_) (fun w6 => ?_)
                · have w6 : ¬ z ∈ c1.jo := by simpa using w6
                  rw [if_pos ⟨w5, w6⟩] at hjo
                  subst hjo
                  walk_at "rz"
                  rename_i t5 ht5 H5 s5 e5
                  refine s_catW (s5.sqT cjd) (SqT.of e5) (by rw [sizeLine_eq, List.length_map]; show _ + 1 ≤ _; omega) fun t6 H6 s6 e6 => hR5 _ _ ⟨_, rfl, s5.trans s6, ?_⟩
                  rw [List.map_append]
                  exact e6
                · have w6 : z ∈ c1.jo := by simpa using w6
                  rw [if_neg (fun h => h.2 w6)] at hjo
                  subst hjo
                  walk_at "rz"
                  exact hR5 _ _ ⟨_, rfl, Same.refl _, cjd⟩
              · have w5 : ¬ wd = "later" := of_decide_eq_false w5
                rw [if_neg (fun h => w5 h.1)] at hjo
                subst hjo
                walk_at "rz"
                exact hR5 _ _ ⟨_, rfl, Same.refl _, cjd⟩
            case r5 =>
              rintro v He ⟨j2, rfl, se, jT⟩
              have s0e := s0d.trans se
              have cbe := s0e.sqT cbT
              have jT5 := jo1
              have sde := sc.trans (sd.trans se)
              have s2e : Same H2 He := (((sa.trans s3).trans sb).trans s4).trans sde
              have ste := s2e.sqT hst
              walk_at "rz"
              refine s_lenT ste ?_
              rw [lsv]
              walk_at "rz"
              have ecs : (s.after P (.stp j)).cs = s.cs.set j (c1.gone P y.1 y.2.1 y.2.2) := by rw [ea]
              have ewa : (s.after P (.stp j)).wa = (s.did (wd, vl)).wa := by rw [ea]
              have ema : (s.after P (.stp j)).ma = (s.did (wd, vl)).ma := by rw [ea]
              have eup : (s.after P (.stp j)).up = (s.did (wd, vl)).up := by rw [ea]
              have ebe : (s.after P (.stp j)).be = s.be := by rw [ea]; rfl
              have ait : SqT K He a2 ((s.after P (.stp j)).wa.map kV) := by rw [ewa]; exact (((s3.trans sb).trans s4).trans sde).sqT aT
              have bit : SqT K He b2 ((s.after P (.stp j)).ma.map kV) := by rw [ema]; exact (s4.trans sde).sqT bT
              have cit : SqT K He c2 ((s.after P (.stp j)).up.map kV) := by rw [eup]; exact (sd.trans se).sqT cT
              have dit : SqT K He d ((s.after P (.stp j)).be.map V.int) := by rw [ebe]; exact s0e.sqT hd
              refine ite_b (fun hlt => ?_) (fun hlt => ?_)
              · have hlt2 : y.2.1 + 1 < (P.ln y.1).st.length := by
                  have := of_decide_eq_true hlt
                  omega
                rw [hcg, if_pos hlt2] at ecs
                walk_at "rz"
                refine s_slA cbe fun k2a K2 k2 f2 => ?_
                rw [cut_initW] at f2
                walk_at "rz"
                rename_i k3a hk3 K3 k3 f3 k4a hk4 K4 k4 f4
                refine s_catW ((k3.trans k4).sqT f2) (SqT.of f4) (by rw [sizeLine_eq]; show _ + 1 ≤ _; omega) fun k5a K5 k5 f5 => ?_
                have dcl : Dp K K4 (.ref k3a) (dCl (y.1, y.2.1 + 1, y.2.2)) := .tup (SqT.of (k4 _ _ f3)) (.cons (.str _) (.cons (by rw [show ((y.2.1 : Nat) : Int) + 1 = ((y.2.1 + 1 : Nat) : Int) by omega]; exact .int _) (.cons (.int _) .nil)))
                walk_at "rz"
                rename_i q8 hq8 K8 r8 f8
                have r08 := (((k2.trans k3).trans k4).trans k5).trans r8
                have dwc : Dp K K8 (.ref q8) (dWc (⟨c1.ca.dropLast ++ [(y.1, y.2.1 + 1, y.2.2)], ba1, jo1⟩ : Wc)) := Dp.wcR (s := (⟨c1.ca.dropLast ++ [(y.1, y.2.1 + 1, y.2.2)], ba1, jo1⟩ : Wc)) (SqT.of f8) (r8.sqT f5) ((by rw [List.map_append]; exact (hzs.same (s0e.trans r08)).app (.cons (dcl.same (k5.trans r8)) .nil))) (r08.sqT jT)
                exact pos ⟨_, _, _, _, _, _, _, _, _, _, _, _, _, _, _, _, _, _, _, rfl, s0e.trans r08, r08.sqT ait, r08.sqT bit, r08.sqT cit, r08.sqT dit, dwc, ecs⟩
              · have hlt2 : ¬ y.2.1 + 1 < (P.ln y.1).st.length := by
                  have := of_decide_eq_false hlt
                  omega
                rw [hcg, if_neg hlt2] at ecs
                walk_at "rz"
                refine s_slA cbe fun k2a K2 k2 f2 => ?_
                rw [cut_initW] at f2
                walk_at "rz"
                rename_i q8 hq8 K8 r8 f8
                have r08 := k2.trans r8
                have dwc : Dp K K8 (.ref q8) (dWc (⟨c1.ca.dropLast, y.2.2, jo1⟩ : Wc)) := Dp.wcR (s := (⟨c1.ca.dropLast, y.2.2, jo1⟩ : Wc)) (SqT.of f8) (r8.sqT f2) ((hzs.same (s0e.trans r08))) (r08.sqT jT)
                exact pos ⟨_, _, _, _, _, _, _, _, _, _, _, _, _, _, _, _, _, _, _, rfl, s0e.trans r08, r08.sqT ait, r08.sqT bit, r08.sqT cit, r08.sqT dit, dwc, ecs⟩
end
set_option maxHeartbeats 1000000
open PySem PySem.Spec PyProof.Rows L2 Z
open He (ga ma)
def spTaken (K : Fg) : Sp := fun vs H Q _ => ∃ r sc ns many, vs = [.ref r, .int many] ∧ RowAt K H r sc ns ∧ 0 < many ∧ many < 1000000 ∧ ∀ n H', 0 ≤ n → n < many → Fr [r] H H' → RowAt K H' r sc ns → Q (.int n) H'
section
variable {P : Program} {w : World} {K : Fg} {mg : Str → Option Value} {base : Heap}
theorem ok_w_taken (T : Txt K mg) : FnOk P w K mg base (L2.CX P w) 1 (ga K "_law_taken") (fdOf K (ga K "_law_taken")) ["_law_row", "_law_many"] (spTaken K) := by
  refine FunD.ok T.F_w_taken sc_w_taken (fun vs H Q E h => ?_) (fun cdv A outer s H vs Q E hr h => ⟨_, PSs.nox (pss_cons (ps_if (pt_cmpR op_gt (pe_ix (ix_listK K) (pv 0) pe_int (fun _ _ => rfl)) pe_int (nomark _)) (pss_cons (zset 2 sc_w_taken.nd (pe_op op_mod (pe_callTy call_int1 (by rfl) T.u_int (by decide +kernel) (pa_cons (pe_ix (ix_listK K) (pv 0) pe_int (fun _ _ => rfl)) pa_nil)) (pv 1)))
      (pss_cons (ps_asg (pe_op op_fdiv (pe_ix (ix_listK K) (pv 0) pe_int (fun _ _ => rfl)) (pv 1)) (pg_sub (pv 0) pe_int set_list))
      (pss_one (ps_ret (pv 2))))) pss_nil)
      (pss_cons (ps_asg (pe_op op_add (pe_ix (ix_listK K) (pv 0) pe_int (fun _ _ => rfl)) pe_int) (pg_sub (pv 0) pe_int set_list))
      (pss_cons (ps_if (pt_cmpR op_gt (pe_ix (ix_listK K) (pv 0) pe_int (fun _ _ => rfl)) (pe_callB (call_lenK K) (by rfl) T.u_len (by decide +kernel) (pa_cons (pe_ix (ix_listK K) (pv 0) pe_int (fun _ _ => rfl)) pa_nil)) (nomark _)) (pss_cons (ps_asg (pe_op op_mod (pe_callTy call_int1 (by rfl) T.u_int (by decide +kernel) (pa_cons (pe_op op_add (pe_op op_mul (pe_ix (ix_listK K) (pv 0) pe_int (fun _ _ => rfl)) pe_int) pe_int) pa_nil)) pe_int) (pg_sub (pv 0) pe_int set_list))
      (pss_one (ps_ret (pe_op op_mod (pe_callTy call_int1 (by rfl) T.u_int (by decide +kernel) (pa_cons (pe_op op_fdiv (pe_ix (ix_listK K) (pv 0) pe_int (fun _ _ => rfl)) pe_int) pa_nil)) (pv 1))))) pss_nil)
      (pss_cons (zset 3 sc_w_taken.nd (pe_ix (ix_listK K) (pe_ix (ix_listK K) (pv 0) pe_int (fun _ _ => rfl)) (pe_op op_sub (pe_ix (ix_listK K) (pv 0) pe_int (fun _ _ => rfl)) pe_int) (fun _ _ => rfl)))
      (pss_cons (ps_asg (pe_op op_mod (pe_callTy call_int1 (by rfl) T.u_int (by decide +kernel) (pa_cons (pe_op op_add (pe_op op_add (pe_op op_mul (pe_ix (ix_listK K) (pv 0) pe_int (fun _ _ => rfl)) pe_int) (pv 3)) pe_int) pa_nil)) pe_int) (pg_sub (pv 0) pe_int set_list))
      (pss_cons (ps_asg (pe_ifExp (pt_cmpR op_ge (pv 3) (pe_op op_pow pe_int pe_int) (nomark _)) (pe_op op_fdiv (pv 3) (pv 1)) pe_int) (pg_sub (pv 0) pe_int set_list))
      (pss_one (ps_ret (pe_op op_mod (pe_callTy call_int1 (by rfl) T.u_int (by decide +kernel) (pa_cons (pv 3) pa_nil)) (pv 1)))))))))), ?_⟩)
  · obtain ⟨r, sc, ns, many, rfl, _⟩ := h
    rfl
  obtain ⟨r, sc, ns, many, rfl, hrow, hm0, hm1, q⟩ := h
  show (_ : TS) _ [some (.ref r), some (.int many), none, none] H
  try dsimp only [cxOf]
  obtain ⟨i, seed, rest, er, hi, hs0, hs1⟩ := hrow.row
  have hL : SqL K H r [.ref sc, .int i, .int seed, .int rest] := SqL.of er
  have hsc := hrow.scr
  have hne := hrow.ne
  walk_at "rz"
  refine ite_b (fun h => ?_) (fun h => ?_)
  · walk_at "rz"
    refine s_I hm0 ?_
    walk_at "rz"
    refine s_I ⟨hm0, by omega⟩ ?_
    walk_at "rz"
    refine s_setL er (j := 3) rfl ?_
    walk_at "rz"
    refine q _ _ (Int.emod_nonneg _ (by omega)) (Int.emod_lt_of_pos _ hm0) (Fr.upd (by simp) er rfl) ⟨⟨i, seed, rest / many, upd_same, hi, hs0, hs1⟩, (Fr.upd (A := [r]) (by simp) er rfl).scr hsc hne, hne⟩
  · have f1 : ∀ o, Fr [r] H (upd H r o) := fun o => Fr.upd (by simp) er rfl
    walk_at "rz"
    refine s_setL er (j := 1) rfl ?_
    show (_ : L2.St → Hp → Prop) _ (upd H r (.lst [.ref sc, .int (i + 1), .int seed, .int rest]))
    have f1 : Fr [r] H (upd H r (.lst [.ref sc, .int (i + 1), .int seed, .int rest])) := Fr.upd (by simp) er rfl
    have er1 : upd H r (.lst [.ref sc, .int (i + 1), .int seed, .int rest]) r = some (.lst [.ref sc, .int (i + 1), .int seed, .int rest]) := upd_same
    generalize upd H r (.lst [.ref sc, .int (i + 1), .int seed, .int rest]) = H1 at *
    have hL1 : SqL K H1 r [.ref sc, .int (i + 1), .int seed, .int rest] := SqL.of er1
    have hsc1 := f1.scr hsc hne
    walk_at "rz"
    refine s_lenL hsc1 ?_
    rw [List.length_map]
    walk_at "rz"
    refine ite_b (fun h => ?_) (fun h => ?_)
    · walk_at "rz"
      refine s_I (.inl ⟨by omega, by omega⟩) ?_
      walk_at "rz"
      refine s_I (by decide) ?_
      walk_at "rz"
      refine s_setL er1 (j := 2) rfl ?_
      show (_ : L2.St → Hp → Prop) _ (upd H1 r (.lst [.ref sc, .int (i + 1), .int ((seed * 48271 + 11) % 2147483647), .int rest]))
      have f2 : Fr [r] H1 (upd H1 r (.lst [.ref sc, .int (i + 1), .int ((seed * 48271 + 11) % 2147483647), .int rest])) := Fr.upd (by simp) er1 rfl
      have er2 : upd H1 r (.lst [.ref sc, .int (i + 1), .int ((seed * 48271 + 11) % 2147483647), .int rest]) r = some (.lst [.ref sc, .int (i + 1), .int ((seed * 48271 + 11) % 2147483647), .int rest]) := upd_same
      generalize upd H1 r (.lst [.ref sc, .int (i + 1), .int ((seed * 48271 + 11) % 2147483647), .int rest]) = H2 at *
      have hL2 : SqL K H2 r [.ref sc, .int (i + 1), .int ((seed * 48271 + 11) % 2147483647), .int rest] := SqL.of er2
      walk_at "rz"
      refine s_I ⟨by decide, by decide⟩ ?_
      walk_at "rz"
      refine s_I hm0 ?_
      exact q _ _ (Int.emod_nonneg _ (by omega)) (Int.emod_lt_of_pos _ hm0) (f1.trans f2) ⟨⟨_, _, _, er2, by omega, Int.emod_nonneg _ (by omega), Int.emod_lt_of_pos _ (by omega)⟩, f2.scr hsc1 hne, hne⟩
    · have hlt : i.toNat < ns.length := by
        have := of_decide_eq_false h
        omega
      obtain ⟨cell, hcell⟩ : ∃ c, ns[i.toNat]? = some c := ⟨_, List.getElem?_eq_getElem hlt⟩
      walk_at "rz"
      refine s_ixL hsc1 (v := .int cell) (at_of (j := i.toNat) (by omega) (by rw [List.getElem?_map, hcell]; rfl)) ?_
      walk_at "rz"
      refine s_I (.inl ⟨by omega, by omega⟩) ?_
      walk_at "rz"
      refine s_I (by decide) ?_
      walk_at "rz"
      refine s_setL er1 (j := 2) rfl ?_
      show (_ : L2.St → Hp → Prop) _ (upd H1 r (.lst [.ref sc, .int (i + 1), .int ((seed * 48271 + cell + 11) % 2147483647), .int rest]))
      have f2 : Fr [r] H1 (upd H1 r (.lst [.ref sc, .int (i + 1), .int ((seed * 48271 + cell + 11) % 2147483647), .int rest])) := Fr.upd (by simp) er1 rfl
      have er2 : upd H1 r (.lst [.ref sc, .int (i + 1), .int ((seed * 48271 + cell + 11) % 2147483647), .int rest]) r = some (.lst [.ref sc, .int (i + 1), .int ((seed * 48271 + cell + 11) % 2147483647), .int rest]) := upd_same
      generalize upd H1 r (.lst [.ref sc, .int (i + 1), .int ((seed * 48271 + cell + 11) % 2147483647), .int rest]) = H2 at *
      have f12 := f1.trans f2
      have hsc2 := f2.scr hsc1 hne
      have fin : ∀ (H3 : Hp) (x y z : Int), Fr [r] H H3 → SqL K H3 sc (ns.map V.int) → H3 r = some (.lst [.ref sc, .int x, .int y, .int z]) → 0 ≤ x → 0 ≤ y → y < 2147483647 → Q (.int (cell % many)) H3 := fun H3 x y z f hs he h1 h2 h3 =>
        q _ _ (Int.emod_nonneg _ (by omega)) (Int.emod_lt_of_pos _ hm0) f ⟨⟨_, _, _, he, h1, h2, h3⟩, hs, hne⟩
      walk_at "rz"
      refine s_I ⟨by decide, by decide, by decide⟩ ?_
      walk_at "rz"
      have f3 : ∀ o, Fr [r] H2 (upd H2 r o) := fun o => Fr.upd (by simp) er2 rfl
      refine ite_b (fun h => ?_) (fun h => ?_)
      · walk_at "rz"
        refine s_I ⟨hm0, by omega⟩ ?_
        walk_at "rz"
        refine s_setL er2 (j := 3) rfl ?_
        walk_at "rz"
        refine s_I hm0 ?_
        exact fin _ (i + 1) ((seed * 48271 + cell + 11) % 2147483647) (cell / many) (f12.trans (f3 _)) ((f3 _).scr hsc2 hne) upd_same (by omega) (Int.emod_nonneg _ (by omega)) (Int.emod_lt_of_pos _ (by omega))
      · walk_at "rz"
        refine s_setL er2 (j := 3) rfl ?_
        walk_at "rz"
        refine s_I hm0 ?_
        exact fin _ (i + 1) ((seed * 48271 + cell + 11) % 2147483647) 0 (f12.trans (f3 _)) ((f3 _).scr hsc2 hne) upd_same (by omega) (Int.emod_nonneg _ (by omega)) (Int.emod_lt_of_pos _ (by omega))
end
theorem s_take {K : Fg} {H : Hp} {r sc : Addr} {ns : List Int} {many : Int} {Q : VK} {E : XK} (h : RowAt K H r sc ns) (h0 : 0 < many) (h1 : many < 1000000) (q : ∀ n H', 0 ≤ n → n < many → Fr [r] H H' → RowAt K H' r sc ns → Q (.int n) H') : spTaken K [.ref r, .int many] H Q E := ⟨r, sc, ns, many, rfl, h, h0, h1, q⟩
set_option maxHeartbeats 4000000
open PySem PySem.Spec PyProof.Rows L2 Z
open He (ga ma)
def spSteps (K : Fg) : Sp := fun vs H Q _ => ∃ r sc ns kl nl wt, ∃ kinds names : List Str, ∃ ws : List Wk, vs = [.ref r, .ref kl, .ref nl, .ref wt] ∧ RowAt K H r sc ns ∧ H kl = some (.lst (kinds.map V.str)) ∧ H nl = some (.lst (names.map V.str)) ∧ Dp K H (.ref wt) (.tuple (ws.map dWk)) ∧ kinds.length = names.length ∧ names ≠ [] ∧ names.length ≤ 12 ∧ ws.length ≤ 8 ∧ (∀ k ∈ kinds, k = "edge" ∨ k = "level") ∧ kl ≠ r ∧ nl ≠ r ∧
  ∀ t st H', Fr [r] H H' → RowAt K H' r sc ns → Dp K H' (.ref t) (.tuple (st.map dSt)) → (∀ s ∈ st, FitSt (names.zip kinds) (ws.map (·.nm)) s) → st ≠ [] → st.length ≤ 8 → Q (.ref t) H'
section
variable {P : Program} {w : World} {K : Fg} {mg : Str → Option Value} {base : Heap}
theorem ok_w_steps (T : Txt K mg) : FnOk P w K mg base (L2.CX P w) 2 (ga K "_law_steps") (fdOf K (ga K "_law_steps")) ["_law_row", "_law_kinds", "_law_names", "_law_works"] (spSteps K) := by
  refine FunD.ok T.F_w_steps sc_w_steps (fun vs H Q E h => ?_) (fun cdv A outer s H vs Q E hr h => ⟨_, PSs.nox (pss_cons (zset 4 sc_w_steps.nd (pe_lst pa_nil))
      (pss_cons (ps_for PassesOwn.never rfl (pi_range1 rfl T.u_range (pa_cons (pe_op op_add pe_int (z_call (ok_w_taken T) T.c_w_taken (hr.mono (by decide)) rfl T.g_w_taken passL (pa_cons (pv 0) (pa_cons pe_int pa_nil)))) pa_nil)) (zg 5 sc_w_steps.nd)
      (pss_cons (ps_par (by rfl) sc_w_steps.nd (i := 6) (j := 7) rfl rfl (by decide) rfl rfl (pa_cons (z_call (ok_w_taken T) T.c_w_taken (hr.mono (by decide)) rfl T.g_w_taken passL (pa_cons (pv 0) (pa_cons pe_int pa_nil))) (pa_cons (z_call (ok_w_taken T) T.c_w_taken (hr.mono (by decide)) rfl T.g_w_taken passL (pa_cons (pv 0) (pa_cons (pe_callB (call_lenK K) (by rfl) T.u_len (by decide +kernel) (pa_cons (pv 2) pa_nil)) pa_nil))) pa_nil)) (by rfl))
      (pss_one (ps_if (PW.pt (pw_or (pt_cmpR op_lt (pv 6) pe_int (nomark _)) (pw_or1 (PW.pt (pw_and (pt_cmpR op_gt (pv 6) pe_int (nomark _)) (pw_and1 (pt_cmpR (op_eq0K K hr.units) (pv 3) (pe_tup pa_nil) (nomark _)))))))) (pss_one (ps_expr (kBM K (pe_bm PySem.F.plainAttrs_list PySem.F.slot_list_append PySem.F.type_list_append mt_append (pv 4) (pa_cons (pe_tup (pa_cons pe_str (pa_cons (pe_op op_add pe_int (z_call (ok_w_taken T) T.c_w_taken (hr.mono (by decide)) rfl T.g_w_taken passL (pa_cons (pv 0) (pa_cons (pe_ix (ix_listK K) (pe_lst (pa_cons pe_int (pa_cons pe_int (pa_cons pe_int pa_nil)))) (z_call (ok_w_taken T) T.c_w_taken (hr.mono (by decide)) rfl T.g_w_taken passL (pa_cons (pv 0) (pa_cons pe_int pa_nil))) (fun _ _ => rfl)) pa_nil)))) pa_nil))) pa_nil))))) (pss_one (ps_if (pt_cmpR op_lt (pv 6) pe_int (nomark _)) (pss_cons (zset 8 sc_w_steps.nd (pe_ix (ix_listK K) (pe_lst (pa_cons pe_str (pa_cons pe_str (pa_cons pe_str (pa_cons pe_str (pa_cons pe_str pa_nil)))))) (z_call (ok_w_taken T) T.c_w_taken (hr.mono (by decide)) rfl T.g_w_taken passL (pa_cons (pv 0) (pa_cons pe_int pa_nil))) (fun _ _ => rfl)))
      (pss_one (ps_expr (kBM K (pe_bm PySem.F.plainAttrs_list PySem.F.slot_list_append PySem.F.type_list_append mt_append (pv 4) (pa_cons (pe_tup (pa_cons (pe_ifExp (PW.pt (pw_and (pt_cmpR op_eq (pv 8) pe_str (nomark _)) (pw_and1 (pt_cmpR op_eq (pe_ix (ix_listK K) (pv 1) (pv 7) (fun _ _ => rfl)) pe_str (nomark _))))) pe_str (pv 8)) (pa_cons (pe_ix (ix_listK K) (pv 2) (pv 7) (fun _ _ => rfl)) pa_nil))) pa_nil)))))) (pss_one (ps_if (pt_cmpR op_lt (pv 6) pe_int (nomark _)) (pss_one (ps_expr (kBM K (pe_bm PySem.F.plainAttrs_list PySem.F.slot_list_append PySem.F.type_list_append mt_append (pv 4) (pa_cons (pe_tup (pa_cons (pe_ix (ix_listK K) (pe_lst (pa_cons pe_str (pa_cons pe_str (pa_cons pe_str pa_nil)))) (z_call (ok_w_taken T) T.c_w_taken (hr.mono (by decide)) rfl T.g_w_taken passL (pa_cons (pv 0) (pa_cons pe_int pa_nil))) (fun _ _ => rfl)) (pa_cons (z_call (ok_w_taken T) T.c_w_taken (hr.mono (by decide)) rfl T.g_w_taken passL (pa_cons (pv 0) (pa_cons pe_int pa_nil))) pa_nil))) pa_nil))))) (pss_one (ps_if (pt_cmpR op_eq (pv 6) pe_int (nomark _)) (pss_one (ps_expr (kBM K (pe_bm PySem.F.plainAttrs_list PySem.F.slot_list_append PySem.F.type_list_append mt_append (pv 4) (pa_cons (pe_tup (pa_cons pe_str (pa_cons (z_call (ok_w_taken T) T.c_w_taken (hr.mono (by decide)) rfl T.g_w_taken passL (pa_cons (pv 0) (pa_cons pe_int pa_nil))) pa_nil))) pa_nil))))) (pss_one (ps_expr (kBM K (pe_bm PySem.F.plainAttrs_list PySem.F.slot_list_append PySem.F.type_list_append mt_append (pv 4) (pa_cons (pe_tup (pa_cons pe_str (pa_cons (pe_ix (ix_tupK K) (pe_ix (ix_tupK K) (pv 3) (z_call (ok_w_taken T) T.c_w_taken (hr.mono (by decide)) rfl T.g_w_taken passL (pa_cons (pv 0) (pa_cons (pe_callB (call_lenK K) (by rfl) T.u_len (by decide +kernel) (pa_cons (pv 3) pa_nil)) pa_nil))) (fun _ _ => rfl)) pe_int (fun _ _ => rfl)) pa_nil))) pa_nil)))))))))))))))
      (pss_one (ps_ret (pe_callTy (call_tuple_ofK K) (by rfl) T.u_tuple (by decide +kernel) (pa_cons (pv 4) pa_nil)))))), ?_⟩)
  · obtain ⟨r, sc, ns, kl, nl, wt, kinds, names, ws, rfl, _⟩ := h
    rfl
  obtain ⟨r, sc, ns, kl, nl, wt, kinds, names, ws, rfl, hrow, hk, hn, hw, hkn, hne, n12, w8, hkd, kr, nr, q⟩ := h
  have hr0 := hrow.ex
  obtain ⟨_, wv, e, hwT, hwA⟩ := hw.tupI
  cases e
  have lwv : wv.length = ws.length := by rw [hwA.len, List.length_map]
  have npos : 0 < names.length := List.length_pos_iff.mpr hne
  show (_ : TS) _ (some (.ref r) :: some (.ref kl) :: some (.ref nl) :: some (.ref wt) :: List.replicate 5 none) H
  try dsimp only [cxOf]
  dsimp only [List.replicate]
  walk_at "rz"
  rename_i l1 hl1 H1 s1 e1
  have l1r : l1 ≠ r := fun e => hr0 (by rw [← e]; exact hl1)
  refine s_take (hrow.same s1) (by omega) (by omega) fun m H2 m0 m4 f2 row2 => ?_
  have e2 := f2.at e1 (by simp [l1r])
  have f02 : Fr [r] H H2 := s1.fr.trans f2
  walk_at "rz"
  refine ⟨by omega, by omega, for_range (lo := 0) (n := (1 + m).toNat) (fun i σ Ha => (∃ y5 y6 y7 y8, σ = [some (.ref r), some (.ref kl), some (.ref nl), some (.ref wt), some (.ref l1), y5, y6, y7, y8]) ∧ StAt K H2 Ha r l1 sc ns (names.zip kinds) (ws.map (·.nm)) i)
    ⟨⟨_, _, _, _, rfl⟩, Fr.refl, row2, [], [], e2, .nil, rfl, by simp⟩ (fun i σ Ha hi ⟨⟨y5, y6, y7, y8, es⟩, sa⟩ => ?_) (fun σ Ha ⟨⟨y5, y6, y7, y8, es⟩, sa⟩ => ?_)⟩
  · subst es
    have at2 : ∀ {a : Addr} {o : HO} {Hb : Hp}, H a = some o → a ≠ r → Fr [r] Ha Hb → Hb a = some o := fun {a o Hb} h ar f => by
      have al : a ≠ l1 := fun e => by rw [e, hl1] at h; cases h
      exact f.at (sa.fr.at (f02.at h (by simp [ar])) (by simp [ar, al])) (by simp [ar])
    have fin : ∀ {Hb : Hp} {σ : L2.St} {v : V} {s : Str × Key}, Fr [r] Ha Hb → RowAt K Hb r sc ns → Dp K Hb v (dSt s) → FitSt (names.zip kinds) (ws.map (·.nm)) s → (∃ y5 y6 y7 y8, σ = [some (.ref r), some (.ref kl), some (.ref nl), some (.ref wt), some (.ref l1), y5, y6, y7, y8]) →
        rAppend (.ref l1) [v] Hb fun _ H' => (∃ y5 y6 y7 y8, σ = [some (.ref r), some (.ref kl), some (.ref nl), some (.ref wt), some (.ref l1), y5, y6, y7, y8]) ∧ StAt K H2 H' r l1 sc ns (names.zip kinds) (ws.map (·.nm)) (i + 1) := fun {Hb σ v s} f row dv fit es => by
      obtain ⟨xs, ex, lx, st⟩ := sa.push hrow hl1 l1r f row dv fit
      exact s_append ex (by rw [sizeLine_eq]; omega) ⟨es, st⟩
    obtain ⟨st0, xs0, ex0, _, _, _⟩ := sa.at_
    have tyl : ∀ {Hb : Hp}, Fr [r] Ha Hb → Hb l1 = some (.lst xs0) := fun f => f.at ex0 (by simp [l1r])
    have nr0 : ∀ {Hb : Hp} {p : Addr}, RowAt K Hb r sc ns → Hb p = none → p ≠ r := fun row hp e => row.ex (by rw [← e]; exact hp)
    walk_at "rz"
    refine s_take sa.row (by omega) (by omega) fun way Hb w0 w14 fb rowb => ?_
    walk_at "rz"
    refine s_lenL (SqL.of (at2 hn nr fb)) ?_
    rw [List.length_map]
    walk_at "rz"
    refine s_take rowb (by omega) (by omega) fun lk Hc lk0 lkn fc rowc => ?_
    have fac := fb.trans fc
    have hz1 : (names.zip kinds).map (·.1) = names := List.map_fst_zip (by omega)
    have hlk : lk.toNat < names.length := by omega
    have hlk2 : lk.toNat < kinds.length := by omega
    have elk : ((lk.toNat : Nat) : Int) = lk := by omega
    have zin : names[lk.toNat] ∈ (names.zip kinds).map (·.1) := by rw [hz1]; exact List.getElem_mem hlk
    have ixn : ∀ {Hx : Hp} {R : VK}, Fr [r] Ha Hx → R (.str names[lk.toNat]) Hx → rIxL K (.ref nl) (.int lk) Hx R := fun f q => s_ixL (SqL.of (at2 hn nr f)) (at_of (j := lk.toNat) (by omega) (by rw [List.getElem?_map, List.getElem?_eq_getElem hlk]; rfl)) q
    have ixk : ∀ {Hx : Hp} {R : VK}, Fr [r] Ha Hx → R (.str kinds[lk.toNat]) Hx → rIxL K (.ref kl) (.int lk) Hx R := fun f q => s_ixL (SqL.of (at2 hk kr f)) (at_of (j := lk.toNat) (by omega) (by rw [List.getElem?_map, List.getElem?_eq_getElem hlk2]; rfl)) q
    walk_at "rz"
    refine ite_b (fun h1 => ?_) (fun h1 => ?_)
    · walk_at "rz"
      refine s_tyL (tyl fac) ?_
      walk_at "rz"
      rename_i p3 hp3 H3 s3 e3
      have p3r := nr0 rowc hp3
      refine s_take (rowc.same s3) (by omega) (by omega) fun m3 H4 m30 m33 f4 row4 => ?_
      have e4 := f4.at e3 (by simp [p3r])
      obtain ⟨bd, hbd, hb1, hb9⟩ : ∃ bd : Int, ([V.int 3, V.int 3, V.int 9] : List V)[m3.toNat]? = some (.int bd) ∧ 3 ≤ bd ∧ bd ≤ 9 := by
        have : m3 = 0 ∨ m3 = 1 ∨ m3 = 2 := by omega
        rcases this with rfl | rfl | rfl
        · exact ⟨3, rfl, by omega, by omega⟩
        · exact ⟨3, rfl, by omega, by omega⟩
        · exact ⟨9, rfl, by omega, by omega⟩
      refine s_ixL (SqL.of e4) (v := .int bd) (at_of (j := m3.toNat) (by omega) hbd) ?_
      walk_at "rz"
      refine s_take row4 (by omega) (by omega) fun m5 H5 m50 m5b f5 row5 => ?_
      walk_at "rz"
      rename_i t6 ht6 H6 s6 e6
      exact fin (((fac.trans s3.fr).trans (f4.trans f5)).trans s6.fr) (row5.same s6) (dp_step (w := "run") (k := .inl (1 + m5)) (SqT.of e6)) (.run (by omega) (by omega)) ⟨_, _, _, _, rfl⟩
    walk_at "rz"
    refine ite_b (fun h2 => ?_) (fun h2 => ?_)
    · have h2 : 11 < way := by simpa using h2
      walk_at "rz"
      rename_i p0 hp0 H0 s0 e0
      have fac := fac.trans s0.fr
      have rowc := rowc.same s0
      have hwT0 : SqT K H0 wt wv := (f02.trans (Fr.refl : Fr [r] H2 H2)).tk.sqT hwT |> fun h => (sa.fr.tk.sqT h) |> fun h => fac.tk.sqT h
      refine s_eq0T hwT0 (SqT.of e0) ?_
      walk_at "rz"
      refine ite_b (fun h3 => ?_) (fun h3 => ?_)
      · walk_at "rz"
        refine s_tyL (tyl fac) ?_
        walk_at "rz"
        rename_i p3 hp3 H3 s3 e3
        have p3r := nr0 rowc hp3
        refine s_take (rowc.same s3) (by omega) (by omega) fun m3 H4 m30 m33 f4 row4 => ?_
        have e4 := f4.at e3 (by simp [p3r])
        obtain ⟨bd, hbd, hb1, hb9⟩ : ∃ bd : Int, ([V.int 3, V.int 3, V.int 9] : List V)[m3.toNat]? = some (.int bd) ∧ 3 ≤ bd ∧ bd ≤ 9 := by
          have : m3 = 0 ∨ m3 = 1 ∨ m3 = 2 := by omega
          rcases this with rfl | rfl | rfl
          · exact ⟨3, rfl, by omega, by omega⟩
          · exact ⟨3, rfl, by omega, by omega⟩
          · exact ⟨9, rfl, by omega, by omega⟩
        refine s_ixL (SqL.of e4) (v := .int bd) (at_of (j := m3.toNat) (by omega) hbd) ?_
        walk_at "rz"
        refine s_take row4 (by omega) (by omega) fun m5 H5 m50 m5b f5 row5 => ?_
        walk_at "rz"
        rename_i t6 ht6 H6 s6 e6
        exact fin (((fac.trans s3.fr).trans (f4.trans f5)).trans s6.fr) (row5.same s6) (dp_step (w := "run") (k := .inl (1 + m5)) (SqT.of e6)) (.run (by omega) (by omega)) ⟨_, _, _, _, rfl⟩
      · have wne : ws ≠ [] := fun e => by
          rw [e] at lwv
          rw [List.length_eq_zero_iff.mp lwv] at h3
          cases h3
        have wpos : 0 < ws.length := List.length_pos_iff.mpr wne
        walk_at "rz"
        refine ite_f (decide_eq_false (by omega)) ?_
        walk_at "rz"
        refine ite_f (decide_eq_false (by omega)) ?_
        walk_at "rz"
        refine ite_f (decide_eq_false (fun e => by injection e with e; omega)) ?_
        walk_at "rz"
        refine s_tyL (tyl fac) ?_
        walk_at "rz"
        refine s_lenT hwT0 ?_
        rw [lwv]
        walk_at "rz"
        refine s_take rowc (by omega) (by omega) fun m5 H5 m50 m5b f5 row5 => ?_
        have hm5 : m5.toNat < ws.length := by omega
        obtain ⟨y, hy, dy⟩ := hwA.get (i := m5.toNat) (x := dWk ws[m5.toNat]) (by rw [List.getElem?_map, List.getElem?_eq_getElem hm5]; rfl)
        have hwT5 : SqT K H5 wt wv := f5.tk.sqT hwT0
        have dy5 : Dp K H5 y (dWk ws[m5.toNat]) := (((dy.tk f02.tk (tupd_dWk _)).tk sa.fr.tk (tupd_dWk _)).tk fac.tk (tupd_dWk _)).tk f5.tk (tupd_dWk _)
        refine s_ixT hwT5 (v := y) (at_of (j := m5.toNat) (by omega) hy) ?_
        obtain ⟨ya, ys, rfl, hyT, hyA⟩ := dy5.tupI
        cases hyA with | cons k1 hyA => ?_
        cases k1
        walk_at "rz"
        rename_i t6 ht6 H6 s6 e6
        exact fin ((fac.trans f5).trans s6.fr) (row5.same s6) (dp_step (w := "later") (k := .inr ws[m5.toNat].nm) (SqT.of e6)) (.later (List.mem_map.mpr ⟨_, List.getElem_mem hm5, rfl⟩)) ⟨_, _, _, _, rfl⟩
    · have h2 : ¬ 11 < way := by simpa using h2
      have h1 : ¬ way < 6 := by simpa using h1
      walk_at "rz"
      refine ite_b (fun h3 => ?_) (fun h3 => ?_)
      · have h3 : way < 9 := by simpa using h3
        walk_at "rz"
        rename_i p3 hp3 H3 s3 e3
        have p3r := nr0 rowc hp3
        refine s_take (rowc.same s3) (by omega) (by omega) fun m3 H4 m30 m35 f4 row4 => ?_
        have e4 := f4.at e3 (by simp [p3r])
        have fa4 := (fac.trans s3.fr).trans f4
        obtain ⟨wd, hwd, hwm⟩ : ∃ wd : Str, ([V.str "ring", V.str "mask", V.str "unmask", V.str "unmask", V.str "quiet"] : List V)[m3.toNat]? = some (.str wd) ∧ (wd = "ring" ∨ wd = "mask" ∨ wd = "unmask" ∨ wd = "quiet") := by
          have : m3 = 0 ∨ m3 = 1 ∨ m3 = 2 ∨ m3 = 3 ∨ m3 = 4 := by omega
          rcases this with rfl | rfl | rfl | rfl | rfl
          · exact ⟨"ring", rfl, .inl rfl⟩
          · exact ⟨"mask", rfl, .inr (.inl rfl)⟩
          · exact ⟨"unmask", rfl, .inr (.inr (.inl rfl))⟩
          · exact ⟨"unmask", rfl, .inr (.inr (.inl rfl))⟩
          · exact ⟨"quiet", rfl, .inr (.inr (.inr rfl))⟩
        refine s_ixL (SqL.of e4) (v := .str wd) (at_of (j := m3.toNat) (by omega) hwd) ?_
        walk_at "rz"
        refine s_tyL (tyl fa4) ?_
        rcases hwm with rfl | rfl | rfl | rfl
        · walk_at "rz"
          refine ixn fa4 ?_
          walk_at "rz"
          rename_i t6 ht6 H6 s6 e6
          exact fin (fa4.trans s6.fr) (row4.same s6) (dp_step (w := "ring") (k := .inr names[lk.toNat]) (SqT.of e6)) (.line (by decide) zin) ⟨_, _, _, _, rfl⟩
        · walk_at "rz"
          refine ixn fa4 ?_
          walk_at "rz"
          rename_i t6 ht6 H6 s6 e6
          exact fin (fa4.trans s6.fr) (row4.same s6) (dp_step (w := "mask") (k := .inr names[lk.toNat]) (SqT.of e6)) (.line (by decide) zin) ⟨_, _, _, _, rfl⟩
        · walk_at "rz"
          refine ixn fa4 ?_
          walk_at "rz"
          rename_i t6 ht6 H6 s6 e6
          exact fin (fa4.trans s6.fr) (row4.same s6) (dp_step (w := "unmask") (k := .inr names[lk.toNat]) (SqT.of e6)) (.line (by decide) zin) ⟨_, _, _, _, rfl⟩
        · walk_at "rz"
          refine ixk fa4 ?_
          rcases hkd _ (List.getElem_mem hlk2) with ek | ek
          · rw [ek]
            walk_at "rz"
            refine ixn fa4 ?_
            walk_at "rz"
            rename_i t6 ht6 H6 s6 e6
            exact fin (fa4.trans s6.fr) (row4.same s6) (dp_step (w := "ring") (k := .inr names[lk.toNat]) (SqT.of e6)) (.line (by decide) zin) ⟨_, _, _, _, rfl⟩
          · have zq : (names[lk.toNat], ("level" : Str)) ∈ names.zip kinds := List.mem_of_getElem? (i := lk.toNat) (List.getElem?_zip_eq_some.mpr ⟨List.getElem?_eq_getElem hlk, by rw [List.getElem?_eq_getElem hlk2, ek]⟩)
            rw [ek]
            walk_at "rz"
            refine ixn fa4 ?_
            walk_at "rz"
            rename_i t6 ht6 H6 s6 e6
            exact fin (fa4.trans s6.fr) (row4.same s6) (dp_step (w := "quiet") (k := .inr names[lk.toNat]) (SqT.of e6)) (.quiet zq) ⟨_, _, _, _, rfl⟩
      · have h3 : ¬ way < 9 := by simpa using h3
        walk_at "rz"
        refine ite_b (fun h4 => ?_) (fun h4 => ?_)
        · have h4 : way < 11 := by simpa using h4
          walk_at "rz"
          refine s_tyL (tyl fac) ?_
          walk_at "rz"
          rename_i p3 hp3 H3 s3 e3
          have p3r := nr0 rowc hp3
          refine s_take (rowc.same s3) (by omega) (by omega) fun m3 H4 m30 m35 f4 row4 => ?_
          have e4 := f4.at e3 (by simp [p3r])
          have fa4 := (fac.trans s3.fr).trans f4
          obtain ⟨wd, hwd, hwm⟩ : ∃ wd : Str, ([V.str "set", V.str "clear", V.str "await"] : List V)[m3.toNat]? = some (.str wd) ∧ wd ∈ (["set", "clear", "await"] : List Str) := by
            have : m3 = 0 ∨ m3 = 1 ∨ m3 = 2 := by omega
            rcases this with rfl | rfl | rfl
            · exact ⟨"set", rfl, by decide⟩
            · exact ⟨"clear", rfl, by decide⟩
            · exact ⟨"await", rfl, by decide⟩
          refine s_ixL (SqL.of e4) (v := .str wd) (at_of (j := m3.toNat) (by omega) hwd) ?_
          walk_at "rz"
          refine s_take row4 (by omega) (by omega) fun m5 H5 m50 m5b f5 row5 => ?_
          walk_at "rz"
          rename_i t6 ht6 H6 s6 e6
          exact fin ((fa4.trans f5).trans s6.fr) (row5.same s6) (dp_step (w := wd) (k := .inl m5) (SqT.of e6)) (.flag hwm (by omega) (by omega)) ⟨_, _, _, _, rfl⟩
        · have h4 : ¬ way < 11 := by simpa using h4
          have ew : way = 11 := by omega
          subst ew
          walk_at "rz"
          refine s_tyL (tyl fac) ?_
          walk_at "rz"
          refine s_take rowc (by omega) (by omega) fun m5 H5 m50 m5b f5 row5 => ?_
          walk_at "rz"
          rename_i t6 ht6 H6 s6 e6
          exact fin ((fac.trans f5).trans s6.fr) (row5.same s6) (dp_step (w := "bar") (k := .inl m5) (SqT.of e6)) (.bar (by omega) (by omega)) ⟨_, _, _, _, rfl⟩
  subst es
  obtain ⟨st, xs, ex, dx, lst, fst⟩ := sa.at_
  walk_at "rz"
  refine ⟨l1, xs, rfl, .inl ⟨SqL.of ex, fun t9 ht9 => ?_⟩⟩
  generalize eH : upd Ha t9 _ = H9
  have s9 := newS ht9 eH
  have e9 := newE eH
  clear eH
  have fra : Fr [r] H Ha := f02.seq sa.fr fun a ha => by
    simp only [List.mem_cons, List.not_mem_nil, or_false] at ha
    rcases ha with rfl | rfl
    · exact .inl (by simp)
    · exact .inr hl1
  refine q t9 st H9 (fra.trans s9.fr) (sa.row.same s9) (.tup (SqT.of e9) (dx.same s9)) fst (fun e => ?_) (by omega)
  rw [e, List.length_nil] at lst
  omega
end
set_option maxHeartbeats 8000000
open PySem PySem.Spec PyProof.Rows L2 Z
open He (ga ma)
def nmW : List Str := ["a", "b", "c"]
theorem nmW_A : ∀ z ∈ nmW, z ∈ nmA := by decide
theorem zip_repl {α β : Type} {b : β} : ∀ l : List α, l.zip (List.replicate l.length b) = l.map fun z => (z, b)
  | [] => rfl
  | x :: l => by rw [List.length_cons, List.replicate_succ, List.zip_cons_cons, zip_repl l]; rfl
def spWParts (K : Fg) : Sp := fun vs H Q _ => ∃ r sc ns, vs = [.ref r] ∧ RowAt K H r sc ns ∧ ∀ t, ∀ P : Pl, ∀ n : Nat, ∀ rg : List Str, ∀ H', Fr [r] H H' → RowAt K H' r sc ns → P.Ok → (∀ l ∈ P.ls, l.kd = "edge") → 1 ≤ n → n ≤ 3 → (∀ z ∈ rg, z ∈ P.names) → rg.length ≤ 3 → Dp K H' (.ref t) (dPt P n rg) → Q (.ref t) H'
section
variable {P : Program} {w : World} {K : Fg} {mg : Str → Option Value} {base : Heap}
theorem ok_w_weaving_parts (T : Txt K mg) : FnOk P w K mg base (L2.CX P w) 3 (ga K "_law_weaving_parts") (fdOf K (ga K "_law_weaving_parts")) ["_law_row"] (spWParts K) := by
  refine FunD.ok T.F_w_weaving_parts sc_w_weaving_parts (fun vs H Q E h => ?_) (fun cdv A outer s H vs Q E hr h => ⟨_, PSs.nox (pss_cons (zset 1 sc_w_weaving_parts.nd (pe_slice (sl_listK K) (pe_lst (pa_cons pe_str (pa_cons pe_str (pa_cons pe_str pa_nil)))) po_none (po_some (pe_op op_add pe_int (z_call (ok_w_taken T) T.c_w_taken (hr.mono (by decide)) rfl T.g_w_taken passL (pa_cons (pv 0) (pa_cons pe_int pa_nil)))))))
      (pss_cons (zset 2 sc_w_weaving_parts.nd (pe_slice (sl_tupAK K) (pe_tup (pa_cons (pe_tup (pa_cons pe_str (pa_cons (pe_op op_add pe_int (z_call (ok_w_taken T) T.c_w_taken (hr.mono (by decide)) rfl T.g_w_taken passL (pa_cons (pv 0) (pa_cons pe_int pa_nil)))) (pa_cons pe_int pa_nil)))) (pa_cons (pe_tup (pa_cons pe_str (pa_cons pe_int (pa_cons pe_int pa_nil)))) pa_nil))) po_none (po_some (z_call (ok_w_taken T) T.c_w_taken (hr.mono (by decide)) rfl T.g_w_taken passL (pa_cons (pv 0) (pa_cons pe_int pa_nil))))))
      (pss_cons (zset 3 sc_w_weaving_parts.nd (pe_lst pa_nil))
      (pss_cons (ps_for PassesOwn.never rfl (kIL K (pi_list (pv 1))) (zg 4 sc_w_weaving_parts.nd)
      (pss_cons (zset 5 sc_w_weaving_parts.nd (z_call (ok_w_steps T) T.c_w_steps (hr.mono (by decide)) rfl T.g_w_steps passL (pa_cons (pv 0) (pa_cons (pe_op op_rep (pe_lst (pa_cons pe_str pa_nil)) (pe_callB (call_lenK K) (by rfl) T.u_len (by decide +kernel) (pa_cons (pv 1) pa_nil))) (pa_cons (pv 1) (pa_cons (pv 2) pa_nil))))))
      (pss_cons (zset 5 sc_w_weaving_parts.nd (pe_callTy (call_tuple_ofK K) (by rfl) T.u_tuple (by decide +kernel) (pa_cons (pe_lc (own := [("_law_step", 7)]) rfl sc_w_weaving_parts.nd (kIT K (pi_tup (pv 5))) (blkOk_by (own := [("_law_step", 7)]) (N := n_w_weaving_parts) (sc := defScope s_w_weaving_parts) (by decide +kernel)) (fun _ _ _ _ _ => (zg 7 sc_w_weaving_parts.nd)) (fun _ _ _ _ _ => (pts_one (PW.pt (pw_or (pt_cmpR op_ne (pe_ix (ix_tupK K) (pv 7) pe_int (fun _ _ => rfl)) pe_str (nomark _)) (pw_or1 (pt_cmpR op_gt_str (pe_ix (ix_tupK K) (pv 7) pe_int (fun _ _ => rfl)) (pv 4) (nomark _))))))) (fun _ _ _ _ _ => (pv 7))) pa_nil)))
      (pss_one (ps_expr (kBM K (pe_bm PySem.F.plainAttrs_list PySem.F.slot_list_append PySem.F.type_list_append mt_append (pv 3) (pa_cons (pe_tup (pa_cons (pv 4) (pa_cons pe_str (pa_cons (pe_op op_add pe_int (z_call (ok_w_taken T) T.c_w_taken (hr.mono (by decide)) rfl T.g_w_taken passL (pa_cons (pv 0) (pa_cons pe_int pa_nil)))) (pa_cons (pe_ifExp (pt_cmpR (op_ne0K K hr.units) (pv 5) (pe_tup pa_nil) (nomark _)) (pe_slice (sl_tupAK K) (pv 5) po_none (po_some pe_int)) (pe_tup (pa_cons (pe_tup (pa_cons pe_str (pa_cons pe_int pa_nil))) pa_nil))) pa_nil))))) pa_nil))))))))
      (pss_cons (zset 6 sc_w_weaving_parts.nd (pe_callTy (call_tuple_ofK K) (by rfl) T.u_tuple (by decide +kernel) (pa_cons (pe_lc (own := [("_law_k", 8)]) rfl sc_w_weaving_parts.nd (pi_range1 rfl T.u_range (pa_cons (z_call (ok_w_taken T) T.c_w_taken (hr.mono (by decide)) rfl T.g_w_taken passL (pa_cons (pv 0) (pa_cons pe_int pa_nil))) pa_nil)) (blkOk_by (own := [("_law_k", 8)]) (N := n_w_weaving_parts) (sc := defScope s_w_weaving_parts) (by decide +kernel)) (fun _ _ _ _ _ => (zg 8 sc_w_weaving_parts.nd)) (fun _ _ _ _ _ => pts_nil) (fun _ _ _ _ _ => (pe_ix (ix_listK K) (pv 1) (z_call (ok_w_taken T) T.c_w_taken (hr.mono (by decide)) rfl T.g_w_taken passL (pa_cons (pv 0) (pa_cons (pe_callB (call_lenK K) (by rfl) T.u_len (by decide +kernel) (pa_cons (pv 1) pa_nil)) pa_nil))) (fun _ _ => rfl)))) pa_nil)))
      (pss_one (ps_ret (pe_tup (pa_cons (pe_callTy (call_tuple_ofK K) (by rfl) T.u_tuple (by decide +kernel) (pa_cons (pv 3) pa_nil)) (pa_cons (pv 2) (pa_cons (pe_op op_add pe_int (z_call (ok_w_taken T) T.c_w_taken (hr.mono (by decide)) rfl T.g_w_taken passL (pa_cons (pv 0) (pa_cons (pe_ifExp (pt_cmpR op_gt (z_call (ok_w_taken T) T.c_w_taken (hr.mono (by decide)) rfl T.g_w_taken passL (pa_cons (pv 0) (pa_cons pe_int pa_nil))) pe_int (nomark _)) pe_int pe_int) pa_nil)))) (pa_cons (pv 6) pa_nil)))))))))))), ?_⟩)
  · obtain ⟨r, sc, ns, rfl, _⟩ := h
    rfl
  obtain ⟨r, sc, ns, rfl, hrow, q⟩ := h
  show (_ : TS) _ (some (.ref r) :: List.replicate 8 none) H
  try dsimp only [cxOf]
  dsimp only [List.replicate]
  have hr0 := hrow.ex
  have nR : ∀ {a : Addr}, H a = none → a ≠ r := fun h e => hr0 (by rw [← e]; exact h)
  walk_at "rz"
  rename_i l1 hl1 H1 s1 e1
  have hl1r : l1 ≠ r := nR hl1
  refine s_take (hrow.same s1) (by omega) (by omega) fun nn H3 nn0 nn1 f3 row3 => ?_
  have e3 : H3 l1 = some (.lst (nmW.map V.str)) := f3.at e1 (by simp [hl1r])
  walk_at "rz"
  refine s_slL (SqL.of e3) fun l4 hl4 => ?_
  rw [show 1 + nn = (((1 + nn).toNat : Nat) : Int) by omega, cut_take, ← List.map_take]
  generalize eH : upd H3 l4 _ = H4
  have s4 := newS hl4 eH
  have e4 := newE eH
  clear eH
  have n9 : nmW.length = 3 := rfl
  generalize hN : nmW.take (1 + nn).toNat = N at e4
  have hN6 : 1 ≤ N.length ∧ N.length ≤ 3 := by rw [← hN, List.length_take]; omega
  have hNd : N.Nodup := by rw [← hN]; exact List.Nodup.sublist (List.take_sublist _ _) (by decide)
  have hNi : ∀ z ∈ N, z ∈ nmW := fun z hz => by rw [← hN] at hz; exact List.mem_of_mem_take hz
  have row4 := row3.same s4
  have f14 : Fr [r] H H4 := s1.fr.trans (f3.trans s4.fr)
  have hl40 : H l4 = none := (s1.fr.trans f3 : Fr [r] H H3).back hl4
  have hl4r := nR hl40
  clear e1 e3 s1 s4 f3 row3 hl1 hl4 hN
  -- works
  walk_at "rz"
  refine s_take row4 (by omega) (by omega) fun n1 H5 n10 n13 f5 row5 => ?_
  walk_at "rz"
  rename_i t6 ht6 H6 s6 e6 t7 ht7 H7 s7 e7 t8 ht8 H8 s8 e8
  have s58 := (s6.trans s7).trans s8
  refine s_take (row5.same s58) (by omega) (by omega) fun n2 H9 n20 n23 f9 row9 => ?_
  walk_at "rz"
  have t8r : t8 ≠ r := fun e => row5.ex (by rw [← e]; exact same_none (s6.trans s7) ht8)
  refine s_slA (SqT.of (f9.at e8 (by simp [t8r]))) fun t9 HA sA eA => ?_
  obtain ⟨k2, rfl⟩ := Int.eq_ofNat_of_zero_le n20
  rw [cut_take] at eA
  have t6r : t6 ≠ r := fun e => row5.ex (by rw [← e]; exact ht6)
  have t7r : t7 ≠ r := fun e => row5.ex (by rw [← e]; exact same_none s6 ht7)
  have dW : DpAll K HA ([V.ref t6, V.ref t7].take k2) (([⟨"flush", 1 + n1, 2⟩, ⟨"net", 2, 1⟩] : List Wk).take k2 |>.map dWk) := by
    have d1 : Dp K HA (.ref t6) (dWk ⟨"flush", 1 + n1, 2⟩) := .tup (SqT.of (sA _ _ (f9.at ((s7.trans s8) _ _ e6) (by simp [t6r])))) (.cons (.str _) (.cons (.int _) (.cons (.int _) .nil)))
    have d2 : Dp K HA (.ref t7) (dWk ⟨"net", 2, 1⟩) := .tup (SqT.of (sA _ _ (f9.at (s8 _ _ e7) (by simp [t7r])))) (.cons (.str _) (.cons (.int _) (.cons (.int _) .nil)))
    rw [List.map_take]
    match k2 with
    | 0 => exact .nil
    | 1 => exact .cons d1 .nil
    | k + 2 => simp only [List.take_succ_cons, List.take_nil, List.map_cons, List.map_nil]; exact .cons d1 (.cons d2 .nil)
  generalize hW : ([⟨"flush", 1 + n1, 2⟩, ⟨"net", 2, 1⟩] : List Wk).take k2 = W at dW
  have hWm : W.map (·.nm) = (["flush", "net"] : List Str).take k2 := by rw [← hW, List.map_take]; rfl
  have hWd : (W.map (·.nm)).Nodup := by rw [hWm]; exact List.Nodup.sublist (List.take_sublist _ _) (by decide)
  have hWl : W.length ≤ 2 := by rw [← hW, List.length_take]; exact Nat.min_le_right _ _
  have hWf : ∀ w ∈ W, FitWk w := fun w hw => by
    rw [← hW] at hw
    have := List.mem_of_mem_take hw
    simp only [List.mem_cons, List.not_mem_nil, or_false] at this
    rcases this with rfl | rfl
    · exact ⟨(by decide : ("flush" : Str) ∈ nmA), by show 1 ≤ 1 + n1; omega, by show 1 + n1 ≤ 9; omega, (by decide : (1 : Int) ≤ 2), (by decide : (2 : Int) ≤ 99)⟩
    · exact ⟨by decide, by decide, by decide, by decide, by decide⟩
  have dwt : Dp K HA (.ref t9) (.tuple (W.map dWk)) := .tup eA dW
  have tw : tupd (.tuple (W.map dWk)) = true := tupds_map tupd_dWk _
  have f4A : Fr [r] H4 HA := f5.trans (s58.fr.trans (f9.trans sA.fr))
  have f0A := f14.trans f4A
  have rowA := row9.same sA
  have eN := f4A.at e4 (by simp [hl4r])
  clear e4 row4 row5 row9 e6 e7 e8 eA dW hW hWm s58 s6 s7 s8 f5 f9 sA ht6 ht7 ht8
  walk_at "rz"
  rename_i lB hlB HB sB eB
  have hl40' : HA l4 ≠ none := by rw [eN]; simp
  have hlB0 : H lB = none := f0A.back hlB
  have hlBr := nR hlB0
  have n4B : l4 ≠ lB := fun e => by rw [e] at eN; rw [hlB] at eN; cases eN
  have rowB := rowA.same sB
  have enB := sB _ _ eN
  have dwB := dwt.same sB
  refine ⟨⟨_, SqL.of enB⟩, for_list (xs := N.map V.str) (fun i σ Ha => (∃ y4 y5 y6 y7 y8, σ = [some (.ref r), some (.ref l4), some (.ref t9), some (.ref lB), y4, y5, y6, y7, y8]) ∧ Fr [r, lB] HB Ha ∧ RowAt K Ha r sc ns ∧ ∃ (ls : List Ln) (ys : List V), Ha lB = some (.lst ys) ∧ DpAll K Ha ys (ls.map dLn) ∧ ls.map (·.nm) = N.take i ∧ ∀ l ∈ ls, l.kd = "edge" ∧ FitLn (N.map fun z => (z, ("edge" : Str))) (W.map (·.nm)) l)
    ⟨⟨_, _, _, _, _, rfl⟩, Fr.refl, rowB, [], [], eB, .nil, rfl, by simp⟩ (fun i σ Ha _ ⟨_, fa, _⟩ => SqL.of (fa.at enB (by simp [hl4r, n4B]))) (fun i x σ Ha hi ⟨⟨y4, y5, y6, y7, y8, es⟩, fa, rowa, ls, ys, ea, da, hnm, hf⟩ => ?_) (fun σ Ha ⟨⟨y4, y5, y6, y7, y8, es⟩, fa, rowa, ls, ys, ea, da, hnm, hf⟩ => ?_)⟩
  · subst es
    obtain ⟨z, hz, rfl⟩ : ∃ z, N[i]? = some z ∧ V.str z = x := by
      rw [List.getElem?_map] at hi
      exact Option.map_eq_some_iff.mp hi
    have lls : ls.length ≤ 3 := by
      have := congrArg List.length hnm
      rw [List.length_map, List.length_take] at this
      omega
    have lys : ys.length = ls.length := by rw [da.len, List.length_map]
    have tl : tupds (ls.map dLn) = true := tupds_map tupd_dLn _
    have ena := fa.at enB (by simp [hl4r, n4B])
    have twf := fa.tk
    walk_at "rz"
    rename_i p1 hp1 H2 s2 e2
    refine s_lenL (SqL.of (s2 _ _ ena)) ?_
    rw [List.length_map]
    refine s_repT e2 (by omega) (by omega) (by simp) fun p3 hp3 => ?_
    generalize eH : upd H2 p3 _ = H3
    have s3 := newS hp3 eH
    have e3 := newE eH
    clear eH
    have e3' : H3 p3 = some (.lst ((List.replicate N.length ("edge" : Str)).map V.str)) := by
      rw [e3, Int.toNat_natCast, List.flatten_replicate_singleton, List.map_replicate]
    have s23 := s2.trans s3
    have row3 := rowa.same s23
    have p3r : p3 ≠ r := fun e => (rowa.same s2).ex (by rw [← e]; exact hp3)
    walk_at "rz"
    refine ⟨r, sc, ns, p3, l4, t9, _, N, W, rfl, row3, e3', s23 _ _ ena, (dwB.tk twf tw).same s23, by rw [List.length_replicate], fun e => by rw [e] at hN6; simp at hN6, by omega, by omega, fun k hk => .inl (List.eq_of_mem_replicate hk), p3r, hl4r, fun t5 st H5 f5 row5 d5 hst hne st8 => ?_⟩
    obtain ⟨_, stv, e5, h5T, h5A⟩ := d5.tupI
    cases e5
    have f25 : Fr [r] Ha H5 := s23.fr.trans f5
    walk_at "rz"
    refine lcT_d (l := st) (da := dSt) h5T h5A (fun s => !decide (s.1 = "ring") || decide (z.cps.toList < (kS s.2).cps.toList)) dSt (by omega) (fun s _ => tupd_dSt s) (fun s v H6 Yes No hl6 s6 dv yes no => ?_) (fun l6 H6 zs hl6 s6 e6 a6 => ?_)
    · obtain ⟨tv, rfl, htv⟩ := dv.stI
      walk_at "rz"
      refine ⟨rfl, ?_⟩
      walk_at "rz"
      rw [vstr_dec]
      refine ite_b (fun h1 => ?_) (fun h1 => ?_)
      · have h1 : (!decide (s.1 = "ring")) = true := h1
        walk_at "rz"
        exact yes (by rw [h1]; rfl) _ _ (Same.refl _) dv
      · have h1 : (!decide (s.1 = "ring")) = false := h1
        have h2 : s.1 = "ring" := by simpa using h1
        obtain ⟨y, hy⟩ : ∃ y, s.2 = .inr y := by
          have := hst s hl6
          obtain ⟨s1, s2⟩ := s
          cases this with
          | run _ _ => exact absurd (show ("run" : Str) = "ring" from h2) (by decide)
          | bar _ _ => exact absurd (show ("bar" : Str) = "ring" from h2) (by decide)
          | flag hw _ _ =>
            have h2 : s1 = "ring" := h2
            rw [h2] at hw
            exact absurd hw (by decide)
          | line _ _ => exact ⟨_, rfl⟩
          | quiet _ => exact ⟨_, rfl⟩
          | later _ => exact ⟨_, rfl⟩
        rw [hy] at htv yes no
        walk_at "rz"
        refine ite_b (fun h3 => ?_) (fun h3 => ?_)
        · walk_at "rz"
          exact yes (by rw [h1]; exact h3) _ _ (Same.refl _) dv
        · exact no (by rw [h1]; exact h3) _ (Same.refl _)
    walk_at "rz"
    refine ⟨l6, zs, rfl, .inl ⟨SqL.of e6, fun t7 ht7 => ?_⟩⟩
    generalize eH : upd H6 t7 _ = H7
    have s7 := newS ht7 eH
    have e7 := newE eH
    clear eH
    generalize hst2 : st.filter (fun s : Str × Key => !decide (s.1 = "ring") || decide (z.cps.toList < (kS s.2).cps.toList)) = st2 at a6
    have hzk : N.zip (List.replicate N.length ("edge" : Str)) = N.map fun z => (z, ("edge" : Str)) := zip_repl N
    rw [hzk] at hst
    have hfz := hst
    have hs2 : ∀ s ∈ st2, s ∈ st := fun s hs => by rw [← hst2] at hs; exact (List.mem_filter.mp hs).1
    have f27 : Fr [r] Ha H7 := f25.trans (s6.trans s7).fr
    have row7 := row5.same (s6.trans s7)
    have ea7 := f27.at ea (by simp [hlBr])
    walk_at "rz"
    refine s_tyL ea7 ?_
    walk_at "rz"
    refine s_take row7 (by omega) (by omega) fun rk H8 rk0 rk4 f8 row8 => ?_
    have t7r : t7 ≠ r := fun e => row5.ex (by rw [← e]; exact same_none s6 ht7)
    have e8 := f8.at e7 (by simp [t7r])
    walk_at "rz"
    rename_i p9 hp9 H9 s9 e9
    have e79 := s9 _ _ e8
    refine s_eq0T (SqT.of e79) (SqT.of e9) ?_
    have lzs : zs.length = st2.length := by rw [a6.len, List.length_map]
    have a8 : DpAll K H9 zs (st2.map dSt) := (((a6.same s7).tk f8.tk (tupds_map tupd_dSt _)).same s9)
    walk_at "rz"
    dsimp only [List.set]
    refine if_x (fun v Hy => ∃ a st3, v = .ref a ∧ Same H8 Hy ∧ Dp K Hy (.ref a) (.tuple (st3.map dSt)) ∧ st3 ≠ [] ∧ st3.length ≤ 3 ∧ ∀ s ∈ st3, FitSt (N.map fun z => (z, ("edge" : Str))) (W.map (·.nm)) s) ?r1 (fun R1 hR1 => ?b1)
    case b1 =>
      refine ite_b (fun h1 => ?_) (fun h1 => ?_)
      · have hne2 : st2 ≠ [] := fun h => by
          rw [h] at lzs
          rw [List.length_eq_zero_iff.mp lzs] at h1
          exact absurd h1 (by decide)
        walk_at "rz"
        refine s_slA (SqT.of e79) fun tA HA sA eA => hR1 _ _ ⟨_, st2.take 3, rfl, s9.trans sA, ?_, ?_, ?_, fun s hs => hfz s (hs2 s (List.mem_of_mem_take hs))⟩
        · rw [show (3 : Int) = ((3 : Nat) : Int) from rfl, cut_take] at eA
          refine .tup eA ?_
          rw [List.map_take]
          exact (a8.same sA).take 3
        · intro h
          have := congrArg List.length h
          rw [List.length_take, List.length_nil] at this
          have := List.length_pos_iff.mpr hne2
          omega
        · rw [List.length_take]
          omega
      · walk_at "rz"
        rename_i tA htA HA sA eA tB htB HB2 sB2 eB2
        refine hR1 _ _ ⟨_, [("run", .inl 1)], rfl, (s9.trans sA).trans sB2, .tup (SqT.of eB2) (.cons (.tup (SqT.of (sB2 _ _ eA)) (.cons (.str _) (.cons (.int _) .nil))) .nil), by simp, by decide, fun s hs => ?_⟩
        rw [List.mem_singleton.mp hs]
        exact .run (by decide) (by decide)
    case r1 =>
      rintro v HC ⟨tC, st3, rfl, s8C, dC, hne3, hl3, hfit3⟩
      walk_at "rz"
      rename_i tD htD HD sD eD
      have s8D := s8C.trans sD
      have f2D : Fr [r] Ha HD := f27.trans (f8.trans s8D.fr)
      have eaD := f2D.at ea (by simp [hlBr])
      refine s_append eaD (by rw [sizeLine_eq]; omega) ?_
      have fD : Fr [lB] HD (upd HD lB (.lst (ys ++ [.ref tD]))) := Fr.upd (by simp) eaD rfl
      have dD : Dp K HD (.ref tD) (dLn ⟨z, "edge", 1 + rk, st3⟩) := .tup (SqT.of eD) (.cons (.str _) (.cons (.str _) (.cons (.int _) (.cons (dC.same sD) .nil))))
      refine ⟨⟨_, _, _, _, _, rfl⟩, (fa.trans (f2D.mono (by simp))).trans (fD.mono (by simp)), hrow.kept (row8.same s8D) fD (by simp [hlB0]), ls ++ [⟨z, "edge", 1 + rk, st3⟩], _, upd_same, ?_, ?_, fun l hl => ?_⟩
      · rw [List.map_append]
        exact ((da.tk f2D.tk tl).tk fD.tk tl).app (.cons (dD.tk fD.tk (tupd_dLn _)) .nil)
      · rw [List.map_append, hnm, List.take_add_one, hz]
        rfl
      · rcases List.mem_append.mp hl with hl | hl
        · exact hf l hl
        · rw [List.mem_singleton.mp hl]
          exact ⟨rfl, nmW_A _ (hNi _ (List.mem_of_getElem? hz)), .inl rfl, by show 1 ≤ 1 + rk; omega, by show 1 + rk ≤ 9; omega, hne3, by show st3.length ≤ 8; omega, hfit3⟩
  subst es
  rw [List.length_map, List.take_length] at hnm
  have hnk : nkOf ls = N.map fun z => (z, ("edge" : Str)) := by
    rw [← hnm, List.map_map]
    exact List.map_congr_left fun l hl => by show (l.nm, l.kd) = (l.nm, _); rw [(hf l hl).1]
  have pok : Pl.Ok ⟨ls, W⟩ := plan_names (N := N) hNd (fun e => by rw [e] at hN6; simp at hN6) (by omega) hnm (fun l hl => by rw [hnk]; exact (hf l hl).2) hWd (by omega) hWf
  have lls : ls.length = N.length := by rw [← hnm, List.length_map]
  have lys : ys.length = ls.length := by rw [da.len, List.length_map]
  walk_at "rz"
  refine s_take rowa (by omega) (by omega) fun m H2 m0 m4 f2 row2 => ?_
  walk_at "rz"
  have npos : 1 ≤ N.length := hN6.1
  have f02 : Fr [r, lB] HB H2 := fa.trans (f2.mono (by simp))
  have en2 := f02.at enB (by simp [hl4r, n4B])
  obtain ⟨mk, rfl⟩ := Int.eq_ofNat_of_zero_le m0
  refine ⟨by omega, by omega, ?_⟩
  rw [Int.toNat_natCast]
  refine lcR_row row2 (by omega) (fun _ (z : Str) => z ∈ N) PyData.str (fun _ => rfl) (fun i Hb Yes No hi fb rowb yes => ?_) (fun l5 H5 zs rg hl5 f5 row5 e5 rl hrel a5 => ?_)
  · have enb := fb.at en2 (by simp [hl4r])
    walk_at "rz"
    refine ⟨rfl, ?_⟩
    walk_at "rz"
    refine s_lenL (SqL.of enb) ?_
    rw [List.length_map]
    walk_at "rz"
    refine s_take rowb (by omega) (by omega) fun n1 Hc n10 n11 fc rowc => ?_
    have hn1 : n1.toNat < N.length := by omega
    have enc := fc.at enb (by simp [hl4r])
    refine s_ixL (SqL.of enc) (v := .str (gS N n1.toNat)) (at_of (j := n1.toNat) (by omega) (gS_map hn1)) ?_
    exact yes _ _ (gS N n1.toNat) fc rowc (List.mem_of_getElem? (gS_eq hn1)) (.str _)
  cases dp_strs a5
  have hrg : ∀ z ∈ rg, z ∈ N := fun z hz => by
    obtain ⟨_, h⟩ := rel_all hrel z hz
    exact h
  walk_at "rz"
  refine ⟨l5, _, rfl, .inl ⟨SqL.of e5, fun t6 ht6 => ?_⟩⟩
  generalize eH : upd H5 t6 _ = H6
  have s6 := newS ht6 eH
  have e6 := newE eH
  clear eH
  have t6r : t6 ≠ r := fun e => row5.ex (by rw [← e]; exact ht6)
  have f25 : Fr [r] Ha H6 := (f2.trans f5).trans s6.fr
  have ea6 := f25.at ea (by simp [hlBr])
  walk_at "rz"
  refine ⟨lB, ys, rfl, .inl ⟨SqL.of ea6, fun t7 ht7 => ?_⟩⟩
  generalize eH : upd H6 t7 _ = H7
  have s7 := newS ht7 eH
  have e7 := newE eH
  clear eH
  have row7 := (row5.same s6).same s7
  have t7r : t7 ≠ r := fun e => (row5.same s6).ex (by rw [← e]; exact ht7)
  have tl : tupds (ls.map dLn) = true := tupds_map tupd_dLn _
  have f0a : Fr [r] H Ha := (f0A.trans sB.fr : Fr [r] H HB).seq fa fun y hy => by
    simp only [List.mem_cons, List.not_mem_nil, or_false] at hy
    rcases hy with rfl | rfl
    · exact .inl (by simp)
    · exact .inr hlB0
  have f27 : Fr [r] Ha H7 := f25.trans s7.fr
  have da7 : DpAll K H7 ys (ls.map dLn) := da.tk f27.tk tl
  have dw7 : Dp K H7 (.ref t9) (.tuple (W.map dWk)) := (dwB.tk fa.tk tw).tk f27.tk tw
  walk_at "rz"
  refine s_take row7 (by omega) (by omega) fun n3 H8 n30 n33 f8 row8 => ?_
  walk_at "rz"
  have fin : ∀ {Hz : Hp} {n : Nat} {tz : Addr}, Fr [r] H7 Hz → RowAt K Hz r sc ns → 1 ≤ n → n ≤ 3 → Hz tz = some (.tup [.ref t7, .ref t9, .int (n : Nat), .ref t6]) → Q (.ref tz) Hz := fun {Hz n tz} fz rowz n1 n3 ez => by
    refine q tz ⟨ls, W⟩ n rg Hz (f0a.trans (f27.trans fz)) rowz pok (fun l hl => (hf l hl).1) n1 n3 (fun z hz => by show z ∈ ls.map (·.nm); rw [hnm]; exact hrg z hz) (by omega) ?_
    exact .tup (SqT.of ez) (.cons (.tup (SqT.of (fz.at e7 (by simp [t7r]))) (da7.tk fz.tk tl)) (.cons (dw7.tk fz.tk tw) (.cons (.int _) (.cons (.tup (SqT.of (fz.at (s7 _ _ e6) (by simp [t6r]))) (dp_strsW _)) .nil))))
  refine ite_b (fun h1 => ?_) (fun h1 => ?_)
  · walk_at "rz"
    refine s_take row8 (by omega) (by omega) fun n4 H9 n40 n43 f9 row9 => ?_
    walk_at "rz"
    rename_i tz htz Hz sz ez
    obtain ⟨n5, rfl⟩ := Int.eq_ofNat_of_zero_le n40
    exact fin (n := 1 + n5) (f8.trans (f9.trans sz.fr)) (row9.same sz) (by omega) (by omega) ez
  · walk_at "rz"
    refine s_take row8 (by omega) (by omega) fun n4 H9 n40 n43 f9 row9 => ?_
    walk_at "rz"
    rename_i tz htz Hz sz ez
    obtain ⟨n5, rfl⟩ := Int.eq_ofNat_of_zero_le n40
    exact fin (n := 1 + n5) (f8.trans (f9.trans sz.fr)) (row9.same sz) (by omega) (by omega) ez
end
set_option maxHeartbeats 4000000
open PySem PySem.Spec PyProof.Rows L2 Z
open He (ga ma)
def wyR (K : Fg) : Hp → V → Ws × List Mv → Prop := fun H v x => Dp K H v (.tuple (x.2.map dMv))
def spLEnds (w : World) (K : Fg) : Sp := fun vs H Q _ => ∃ v P n, ∃ m : Nat, ∃ rg : List Str, vs = [v, .int (m : Nat)] ∧ Dp K H v (dPt P n rg) ∧ P.Ok ∧ (∀ z ∈ rg, z ∈ P.names) ∧ rg.length < 60 ∧ 1 ≤ n ∧ n ≤ 6 ∧ 1 ≤ m ∧ m ≤ 5000 ∧ (Big P (Ws.first P n rg) m → ∀ H', Same H H' → Q .non H') ∧
  ∀ i, FinAt P (Ws.first P n rg) i → i ≤ m → ∀ H' d, Same H H' → H d = none → UAt w K H' d (bf P (Ws.first P n rg) i).fd (fun x => x.1) (fun H v x => Dp K H v (.list (x.2.map dMv))) → Q (.ref d) H'
def LendW (w : World) (K : Fg) (P : Pl) (s0 : Ws) (m : Nat) (v : V) (t dw dl df : Addr) (Hz : Hp) (k : Nat) (σ : L2.St) (Ha : Hp) : Prop := ∃ (i : Nat) (y7 y8 y9 y10 y11 : Option V) (xs : List V), σ = [some v, some (.int (m : Nat)), some (.ref t), some (.ref dw), some (.ref dl), some (.ref df), some (.int (i : Nat)), y7, y8, y9, y10, y11] ∧
  k + i = m + 1 ∧ i ≤ (bf P s0 i).wy.length ∧ (bf P s0 i).wy.length ≤ m ∧ Fr [dw, dl, df] Hz Ha ∧ UAt w K Ha dw (bf P s0 i).wy (fun x => wsN x.1) (wyR K) ∧ Ha dl = some (.lst xs) ∧ DpAll K Ha xs ((bf P s0 i).wy.map fun x => dWs x.1) ∧ UAt w K Ha df (bf P s0 i).fd (fun x => x.1) (fun H v x => LvQ K dl H v x.2)
theorem if_gE {c : TT} {ta tb : TS} {D : Ends} {σ : L2.St} {H : Hp} (Ex : L2.St → Hp → Prop) (hx : ∀ σ H, Ex σ H → D.nx σ H) (h : ∀ nx : L2.St → Hp → Prop, (∀ σ H, Ex σ H → nx σ H) → tIfS c ta tb { D with nx := nx } σ H) : tIfS c ta tb D σ H := h D.nx hx
section
variable {P : Program} {w : World} {K : Fg} {mg : Str → Option Value} {base : Heap}
theorem ok_w_weave_ends (T : Txt K mg) : FnOk P w K mg base (L2.CX P w) 5 (ga K "_law_weave_ends") (fdOf K (ga K "_law_weave_ends")) ["_law_parts", "_law_most"] (spLEnds w K) := by
  refine FunD.ok T.F_w_weave_ends sc_w_weave_ends (fun vs H Q E h => ?_) (fun cdv A outer s H vs Q E hr h => ⟨_, PSs.nox (pss_cons (zset 2 sc_w_weave_ends.nd (z_call (ok_w_weave_first T) T.c_w_weave_first (hr.mono (by decide)) rfl T.g_w_weave_first passL (pa_cons (pv 0) pa_nil)))
      (pss_cons (ps_asg (pe_tup (pa_cons (kUOne w K hr.units5 (pv 2) (pe_tup pa_nil)) (pa_cons (pe_lst (pa_cons (pv 2) pa_nil)) (pa_cons (kUNew w) (pa_cons pe_int pa_nil))))) (kGT K (pg_tup (n := 4) rfl (pgs_cons (zg 3 sc_w_weave_ends.nd) (pgs_cons (zg 4 sc_w_weave_ends.nd) (pgs_cons (zg 5 sc_w_weave_ends.nd) (pgs_cons (zg 6 sc_w_weave_ends.nd) pgs_nil)))))))
      (pss_cons (ps_while PassesOwn.never (pt_cmpR op_lt (pv 6) (pe_callB (call_lenK K) (by rfl) T.u_len (by decide +kernel) (pa_cons (pv 4) pa_nil)) (nomark _))
      (pss_cons (zset 7 sc_w_weave_ends.nd (pe_ix (ix_listK K) (pv 4) (pv 6) (fun _ _ => rfl)))
      (pss_cons (zset 8 sc_w_weave_ends.nd (z_call (ok_w_weave_moves T) T.c_w_weave_moves (hr.mono (by decide)) rfl T.g_w_weave_moves passL (pa_cons (pv 0) (pa_cons (pv 7) pa_nil))))
      (pss_cons (zset 9 sc_w_weave_ends.nd (z_call (ok_w_weave_end T) T.c_w_weave_end (hr.mono (by decide)) rfl T.g_w_weave_end passL (pa_cons (pv 7) pa_nil)))
      (pss_cons (ps_if (PW.pt (pw_and (pt_cmpR (op_eq0K K hr.units) (pv 8) (pe_lst pa_nil) (nomark _)) (pw_and1 (pt_cmp (kUNotIn w K hr.units5 (pv 9) (pv 5)))))) (pss_one (kUPut w K hr.units5 (pv 5) (pv 9) (pe_callTy call_list_of (by rfl) T.u_list (by decide +kernel) (pa_cons (kUGet w K hr.units5 (pv 3) (pv 7) (fun _ _ => rfl)) pa_nil)) rfl)) pss_nil)
      (pss_cons (ps_for PassesOwn.never rfl (kIL K (pi_list (pv 8))) (zg 10 sc_w_weave_ends.nd)
      (pss_cons (zset 11 sc_w_weave_ends.nd (z_call (ok_w_weave_done T) T.c_w_weave_done (hr.mono (by decide)) rfl T.g_w_weave_done passL (pa_cons (pv 0) (pa_cons (pv 7) (pa_cons (pv 10) pa_nil)))))
      (pss_one (ps_if (pt_cmp (kUNotIn w K hr.units5 (pv 11) (pv 3))) (pss_cons (kUPut w K hr.units5 (pv 3) (pv 11) (pe_op (op_catAK K) (kUGet w K hr.units5 (pv 3) (pv 7) (fun _ _ => rfl)) (pe_tup (pa_cons (pv 10) pa_nil))) rfl)
      (pss_one (ps_expr (kBM K (pe_bm PySem.F.plainAttrs_list PySem.F.slot_list_append PySem.F.type_list_append mt_append (pv 4) (pa_cons (pv 11) pa_nil)))))) pss_nil))))
      (pss_cons (zset 6 sc_w_weave_ends.nd (pe_op op_add (pv 6) pe_int))
      (pss_one (ps_if (pt_cmpR op_gt (pe_callB (call_lenK K) (by rfl) T.u_len (by decide +kernel) (pa_cons (pv 4) pa_nil)) (pv 1) (nomark _)) (pss_one (ps_ret pe_non)) pss_nil)))))))))
      (pss_one (ps_ret (pv 5)))))), ?_⟩)
  · obtain ⟨v, P, n, m, rg, rfl, _⟩ := h
    rfl
  obtain ⟨v, P0, n, m, rg, rfl, dpt, ok, hz, hrg, n1, n6, m1, m5, qN, qD⟩ := h
  have ok0 : (Ws.first P0 n rg).Ok P0 n := Ws.Ok.first n hz
  show (_ : TS) _ (some v :: some (.int (m : Nat)) :: List.replicate 10 none) H
  try dsimp only [cxOf]
  dsimp only [List.replicate]
  walk_at "rz"
  refine ⟨v, P0, n, rg, rfl, dpt, ok, n1, n6, hrg, fun u H1 s1 du => ?_⟩
  generalize hs0 : Ws.first P0 n rg = s0 at *
  obtain ⟨t, _, rfl, _⟩ := du.tupI
  walk_at "rz"
  refine s_uone fun dw hdw => ?_
  generalize eH : upd H1 dw _ = H2
  have s2 := newS hdw eH
  have e2 := newE eH
  clear eH
  walk_at "rz"
  rename_i p3 hp3 H3 s3 e3
  refine UAt.one (K := K) (key := fun x : Ws × List Mv => wsN x.1) (R := wyR K) (x := (s0, [])) (s3 _ _ e2) (key_ws ((du.same s2).same s3)) (fun H' f => .tup (f.tk.sqT (SqT.of e3)) .nil) (fun H4 f4 u4 => ?_)
  walk_at "rz"
  rename_i dl hdl H5 s5 e5
  refine s_unew ?_
  walk_at "zn"
  rename_i df hdf H6 s6 e6
  walk_at "rz"
  rename_i p7 hp7 H7 s7 e7
  refine s_gtup (SqT.of e7) rfl ?_
  have s47 := (s5.trans s6).trans s7
  have f17 : Fr [dw] H1 H7 := (((s2.trans s3).fr : Fr [dw] H1 H3).trans f4).trans s47.fr
  have n1w : H1 dw = none := hdw
  have n1l : H1 dl = none := ((s2.trans s3).fr : Fr [dw] H1 H3).back (f4.back hdl)
  have n1f : H1 df = none := ((s2.trans s3).fr : Fr [dw] H1 H3).back (f4.back (s5.fr (A := []) |>.back hdf))
  have uw7 : UAt w K H7 dw (bf P0 s0 0).wy (fun x => wsN x.1) (wyR K) := u4.keep (s47.fr (A := [])) (by simp) fun v x _ h => h.same s47
  have e57 := (s6.trans s7) _ _ e5
  have uf7 : UAt w K H7 df (bf P0 s0 0).fd (fun x => x.1) (fun H v x => LvQ K dl H v x.2) := UAt.nil (s7 _ _ e6)
  have f1 : Fr [dw, dl, df] H1 H7 := f17.mono (by simp)
  have du7 : Dp K H7 (.ref t) (dWs s0) := du.tk f17.tk (tupd_ws _)
  have dpt7 : Dp K H7 v (dPt P0 n rg) := (dpt.same s1).tk f17.tk (tupd_pt _ _ _)
  have wf : dw ≠ df := fun e => by
    have h := s5.fr (A := []) |>.back hdf
    rw [← e] at h
    exact u4.ex h
  have wl : dw ≠ dl := fun e => by
    rw [← e] at hdl
    exact u4.ex hdl
  have lf : dl ≠ df := fun e => by
    rw [← e, e5] at hdf
    cases hdf
  have cut : ∀ {Hx : Hp}, Fr [dw, dl, df] H7 Hx → Same H Hx := fun {Hx} fx => s1.trans ((f1.trans fx).cut (A := []) fun a ha => by
    simp only [List.mem_cons, List.not_mem_nil, or_false] at ha
    rcases ha with rfl | rfl | rfl
    · exact .inr n1w
    · exact .inr n1l
    · exact .inr n1f).same
  have nf : H df = none := s1.fr (A := []) |>.back n1f
  clear e7 e6 e5 s5 s6 s7 s47 e3 e2 s2 s3 u4 f4 hdf hdl hdw hp7 hp3 f17
  walk_at "rz"
  refine ⟨LendW w K P0 s0 m v t dw dl df H7, ⟨m + 1, 0, _, _, _, _, _, _, rfl, rfl, Nat.zero_le _, m1, Fr.refl, uw7, e57, .cons du7 .nil, uf7⟩, ?_⟩
  rintro k σ Ha ⟨i, y7, y8, y9, y10, y11, xs, rfl, hk, hi, hm, fa, uw, el, al, uf⟩
  have lxs : xs.length = (bf P0 s0 i).wy.length := by rw [al.len, List.length_map]
  have bok := bf_ok P0 s0 i
  have lfd := bf_fd_len P0 s0 i
  walk_at "rz"
  refine s_lenL (SqL.of el) ?_
  walk_at "rz"
  by_cases hlt : i < (bf P0 s0 i).wy.length
  · refine ite_t (decide_eq_true (by rw [lxs]; exact_mod_cast hlt)) ?_
    refine ⟨LendW w K P0 s0 m v t dw dl df H7 (k - 1), (fun σ' H' h => ⟨k - 1, by omega, h⟩), ?_⟩
    have hxi : (bf P0 s0 i).wy[i]? = some (bf P0 s0 i).wy[i] := List.getElem?_eq_getElem hlt
    generalize (bf P0 s0 i).wy[i] = x at hxi
    obtain ⟨sv, hsv, dsv⟩ := al.get (i := i) (x := dWs x.1) (by rw [List.getElem?_map, hxi]; rfl)
    obtain ⟨g1, g2, g3⟩ := bok.go i x hxi
    have sok : x.1.Ok P0 n := by rw [g1]; exact g2.okAll ok ok0
    have ml := moves_len sok ok n6
    have dpa : Dp K Ha v (dPt P0 n rg) := dpt7.tk fa.tk (tupd_pt _ _ _)
    have hmem : x ∈ (bf P0 s0 i).wy := List.mem_of_getElem? hxi
    walk_at "rz"
    refine s_ixL (SqL.of el) (v := sv) (at_of (j := i) rfl hsv) ?_
    walk_at "rz"
    refine ⟨v, sv, P0, n, x.1, rg, rfl, dpa, ok, dsv, sok, n6, fun H2 l2 zs s2 hl2 e2 a2 => ?_⟩
    have lzs : zs.length = (x.1.moves P0).length := by rw [a2.len, List.length_map]
    walk_at "rz"
    refine ⟨sv, x.1, rfl, dsv.same s2, by have := sok.cs; omega, fun u3 H3 s3 du3 => ?_⟩
    obtain ⟨te, rfl⟩ := endD_ref du3
    have s23 := s2.trans s3
    have l2w : l2 ≠ dw := fun e => by rw [e] at hl2; exact uw.ex hl2
    have l2l : l2 ≠ dl := fun e => by rw [e, el] at hl2; cases hl2
    have l2f : l2 ≠ df := fun e => by rw [e] at hl2; exact uf.ex hl2
    have uw3 : UAt w K H3 dw (bf P0 s0 i).wy (fun x => wsN x.1) (wyR K) := uw.keep (s23.fr (A := [])) (by simp) fun v x _ h => h.same s23
    have uf3 : UAt w K H3 df (bf P0 s0 i).fd (fun x => x.1) (fun H v x => LvQ K dl H v x.2) := uf.keep (s23.fr (A := [])) (by simp) fun v x _ h => h.keep (s23.fr (A := [])) (by simp)
    have el3 := s23 _ _ el
    have dsv3 := dsv.same s23
    obtain ⟨ts, _, rfl, _⟩ := dsv.tupI
    refine s_gname ?_
    refine s_seq ?_
    refine if_gE (fun σ Hy => σ = [some v, some (.int (m : Nat)), some (.ref t), some (.ref dw), some (.ref dl), some (.ref df), some (.int (i : Nat)), some (.ref ts), some (.ref l2), some (.ref te), y10, y11] ∧ Fr [df] H3 Hy ∧ UAt w K Hy df (addF P0 (bf P0 s0 i).fd x.1 x.2) (fun x => x.1) (fun H v x => LvQ K dl H v x.2)) ?rest (fun nx hx => ?iff)
    case iff =>
      walk_at "rz"
      rename_i p4 hp4 H4 s4 e4
      refine s_eq0L (SqL.of ((s3.trans s4) _ _ e2)) (SqL.of e4) ?_
      have uf4 : UAt w K H4 df (bf P0 s0 i).fd (fun x => x.1) (fun H v x => LvQ K dl H v x.2) := uf3.keep (s4.fr (A := [])) (by simp) fun v x _ h => h.keep (s4.fr (A := [])) (by simp)
      have ez : zs.isEmpty = (x.1.moves P0).isEmpty := by rw [Bool.eq_iff_iff, List.isEmpty_iff_length_eq_zero, List.isEmpty_iff_length_eq_zero, lzs]
      rw [ez]
      cases hmv : (x.1.moves P0).isEmpty with
      | false =>
        have ea : addF P0 (bf P0 s0 i).fd x.1 x.2 = (bf P0 s0 i).fd := by unfold addF; rw [hmv]; rfl
        walk_at "rz"
        exact hx _ _ ⟨rfl, s4.fr, by rw [ea]; exact uf4⟩
      | true =>
        walk_at "rz"
        refine s_unotin ?_
        walk_at "rz"
        refine uf4.nin (key_en (du3.same s4)) ?_
        rw [hasF_any]
        cases hfd : hasF (bf P0 s0 i).fd (enN x.1) with
        | true =>
          have ea : addF P0 (bf P0 s0 i).fd x.1 x.2 = (bf P0 s0 i).fd := by unfold addF; rw [hmv, hfd]; rfl
          walk_at "rz"
          exact hx _ _ ⟨rfl, s4.fr, by rw [ea]; exact uf4⟩
        | false =>
          have ea : addF P0 (bf P0 s0 i).fd x.1 x.2 = (bf P0 s0 i).fd ++ [(enN x.1, x.2)] := by unfold addF; rw [hmv, hfd]; rfl
          have uw4 : UAt w K H4 dw (bf P0 s0 i).wy (fun x => wsN x.1) (wyR K) := uw3.keep (s4.fr (A := [])) (by simp) fun v x _ h => h.same s4
          walk_at "rz"
          refine s_uput ?_
          walk_at "rz"
          refine s_uget ?_
          walk_at "rz"
          refine uw4.got bok.nd hmem (key_ws (dsv3.same s4)) fun vw rw => ?_
          obtain ⟨tv, tvs, rfl, hT, hA⟩ := L2.Dp.tupI rw
          walk_at "rz"
          refine ⟨tv, tvs, rfl, .inr hT, fun lv hlv => ?_⟩
          generalize eH : upd H4 lv _ = H5
          have s5 := newS hlv eH
          have e5 := newE eH
          clear eH
          have uf5 : UAt w K H5 df (bf P0 s0 i).fd (fun x => x.1) (fun H v x => LvQ K dl H v x.2) := uf4.keep (s5.fr (A := [])) (by simp) fun v x _ h => h.keep (s5.fr (A := [])) (by simp)
          have lvl : lv ≠ dl := fun e => by rw [e, s4 _ _ el3] at hlv; cases hlv
          have lvf : lv ≠ df := fun e => by rw [e] at hlv; exact uf4.ex hlv
          walk_at "rz"
          refine uf5.put (R' := fun H v x => LvQ K dl H v x.2) (x := (enN x.1, x.2)) (key_en ((du3.same s4).same s5)) hfd (by rw [sizeLine_eq]; omega) (fun Hy fy v y _ h => h.keep fy fun a ha => .inr (by rw [List.mem_singleton.mp ha]; exact uf5.nolst)) (fun Hy fy => ⟨lv, tvs, rfl, lvl, fy.at e5 (by simp [lvf]), (hA.same s5).tk fy.tk (tds_mv _)⟩) (fun Hy fy uy => ?_)
          exact hx _ _ ⟨rfl, ((s4.trans s5).fr : Fr [df] H3 H5).trans fy, by rw [ea]; exact uy⟩
    rintro σ Hy ⟨rfl, fy, uy⟩
    have f37 : Fr [df] Ha Hy := (s23.fr : Fr [df] Ha H3).trans fy
    have uwy : UAt w K Hy dw (bf P0 s0 i).wy (fun x => wsN x.1) (wyR K) := uw3.keep fy (by simp [wf]) fun v x _ h => h.tk fy.tk (tds_mv _)
    have ely := fy.at el3 (by simp [lf])
    have e2y := fy.at (s3 _ _ e2) (by simp [l2f])
    have a2y := (a2.same s3).tk fy.tk (tds_mv _)
    have tw : ∀ l : Wy, tupds (l.map fun x => dWs x.1) = true := fun l => tupds_map (f := fun x : Ws × List Mv => dWs x.1) (fun x => tupd_ws _) l
    have aly := al.tk f37.tk (tw _)
    have dsy := dsv.tk f37.tk (tupd_ws _)
    have dpy := dpa.tk f37.tk (tupd_pt _ _ _)
    clear uw3 uf3 el3 dsv3 du3
    dsimp only
    walk_at "rz"
    refine ⟨⟨_, SqL.of e2y⟩, for_it (walk_list (xs := zs)) (fun j σ Hb => (∃ y10 y11, σ = [some v, some (.int (m : Nat)), some (.ref t), some (.ref dw), some (.ref dl), some (.ref df), some (.int (i : Nat)), some (.ref ts), some (.ref l2), some (.ref te), y10, y11]) ∧ Fr [dw, dl] Hy Hb ∧ UAt w K Hb dw (midW P0 (bf P0 s0 i) x j) (fun x => wsN x.1) (wyR K) ∧ ∃ xs, Hb dl = some (.lst xs) ∧ DpAll K Hb xs ((midW P0 (bf P0 s0 i) x j).map fun x => dWs x.1))
      ⟨⟨_, _, rfl⟩, Fr.refl, uwy, xs, ely, aly⟩ (fun j σ Hb _ ⟨_, fb, _⟩ => SqL.of (fb.at e2y (by simp [l2w, l2l]))) (fun j zv σ Hb0 Hb hj ⟨⟨y10, y11, es⟩, fb, ub, xb, eb, ab⟩ yy => ?_) (fun σ Hb ⟨⟨y10, y11, es⟩, fb, ub, xb, eb, ab⟩ => ?_)⟩
    · subst es
      obtain ⟨rfl, hzv⟩ := yy
      obtain ⟨dd, hdd, dzv⟩ := (a2y.tk fb.tk (tds_mv _)).getv hzv
      rw [List.getElem?_map] at hdd
      obtain ⟨mv, hmv, rfl⟩ := Option.map_eq_some_iff.mp hdd
      have mem := List.mem_of_getElem? hmv
      have hjl : j < (x.1.moves P0).length := (List.getElem?_eq_some_iff.mp hmv).1
      have lxb : xb.length = (midW P0 (bf P0 s0 i) x j).length := by rw [ab.len, List.length_map]
      have lmid : (midW P0 (bf P0 s0 i) x j).length ≤ (bf P0 s0 i).wy.length + 78 := by
        have h1 := foldW_len P0 x.1 x.2 ((x.1.moves P0).take j) (bf P0 s0 i).wy
        rw [List.length_take] at h1
        unfold midW
        omega
      have hmn := midW_next (b := bf P0 s0 i) hmv
      walk_at "rz"
      refine ⟨v, _, zv, P0, n, x.1, mv, rg, rfl, dpy.tk fb.tk (tupd_pt _ _ _), ok, dsy.tk fb.tk (tupd_ws _), sok, n6, dzv, mem, fun gv Hc sc dg => ?_⟩
      obtain ⟨tg, _, rfl, _⟩ := dg.tupI
      have ubc : UAt w K Hc dw (midW P0 (bf P0 s0 i) x j) (fun x => wsN x.1) (wyR K) := ub.keep (sc.fr (A := [])) (by simp) fun v x _ h => h.same sc
      have ebc := sc _ _ eb
      have abc := ab.same sc
      walk_at "rz"
      refine s_unotin ?_
      walk_at "rz"
      refine ubc.nin (key_ws dg) ?_
      rw [hasW_any]
      cases hhw : hasW (midW P0 (bf P0 s0 i) x j) (wsN (x.1.after P0 mv)) with
      | true =>
        have ea : midW P0 (bf P0 s0 i) x (j + 1) = midW P0 (bf P0 s0 i) x j := by rw [hmn]; unfold addW; rw [if_pos hhw]
        walk_at "rz"
        exact ⟨⟨_, _, rfl⟩, fb.trans sc.fr, by rw [ea]; exact ubc, xb, ebc, by rw [ea]; exact abc⟩
      | false =>
        have ea : midW P0 (bf P0 s0 i) x (j + 1) = midW P0 (bf P0 s0 i) x j ++ [(x.1.after P0 mv, x.2 ++ [mv])] := by rw [hmn]; unfold addW; rw [if_neg (by rw [hhw]; exact Bool.false_ne_true)]
        have hpre := midW_pre P0 (bf P0 s0 i) x j
        have ndm : ((midW P0 (bf P0 s0 i) x j).map fun x => wsN x.1).Nodup := (foldW_ok (P := P0) (s0 := s0) (i := i) g1 g2 g3 ((x.1.moves P0).take j) _ (fun m hm => List.mem_of_mem_take hm) hlt bok.go bok.nd).2
        walk_at "rz"
        refine s_uput ?_
        walk_at "rz"
        refine s_uget ?_
        walk_at "rz"
        refine ubc.got ndm (hpre.subset hmem) (key_ws ((dsy.tk fb.tk (tupd_ws _)).same sc)) fun vw rw => ?_
        obtain ⟨tv, tvs, rfl, hT, hA⟩ := L2.Dp.tupI rw
        have ltv : tvs.length = x.2.length := by rw [hA.len, List.length_map]
        walk_at "rz"
        rename_i p5 hp5 Hd sd ed
        refine s_catW (sd.sqT hT) (SqT.of ed) (by rw [sizeLine_eq, ltv]; show _ + 1 ≤ _; omega) fun cv He se ecv => ?_
        have sde := sd.trans se
        have ube : UAt w K He dw (midW P0 (bf P0 s0 i) x j) (fun x => wsN x.1) (wyR K) := ubc.keep (sde.fr (A := [])) (by simp) fun v x _ h => h.same sde
        walk_at "rz"
        refine ube.put (R' := wyR K) (x := (x.1.after P0 mv, x.2 ++ [mv])) (key_ws (dg.same sde)) hhw (by rw [sizeLine_eq]; omega) (fun Hf ff v y _ h => h.tk ff.tk (tds_mv _)) (fun Hf ff => ?_) (fun Hf ff uf' => ?_)
        · show Dp K Hf (.ref cv) (.tuple ((x.2 ++ [mv]).map dMv))
          rw [List.map_append]
          exact .tup (ff.tk.sqT ecv) (((hA.same sde).tk ff.tk (tds_mv _)).app (.cons (((dzv.same sc).same sde).tk ff.tk (tupd_mv _)) .nil))
        have ebf := ff.at (sde _ _ ebc) (by simp [wl.symm])
        walk_at "rz"
        refine s_tyL ebf ?_
        walk_at "rz"
        refine s_append ebf (by rw [sizeLine_eq]; omega) ?_
        have fg : Fr [dl] Hf (upd Hf dl (.lst (xb ++ [.ref tg]))) := Fr.upd (by simp) ebf rfl
        have eg : upd Hf dl (.lst (xb ++ [.ref tg])) dl = some (.lst (xb ++ [.ref tg])) := upd_same
        generalize upd Hf dl (.lst (xb ++ [.ref tg])) = Hg at fg eg ⊢
        walk_at "rz"
        refine ⟨⟨_, _, rfl⟩, fb.trans (((sc.trans sde).fr : Fr [dw, dl] Hb He).trans ((ff.mono (by simp)).trans (fg.mono (by simp)))), ?_, _, eg, ?_⟩
        · rw [ea]
          exact uf'.keep fg (by simp [wl]) fun v x _ h => h.tk fg.tk (tds_mv _)
        · rw [ea, List.map_append]
          exact (((abc.same sde).tk ff.tk (tw _)).tk fg.tk (tw _)).app (.cons (((dg.same sde).tk ff.tk (tupd_ws _)).tk fg.tk (tupd_ws _)) .nil)
    · subst es
      have hbn := bf_next hxi
      rw [lzs, midW_all] at ub ab
      have e1 : (bf P0 s0 (i + 1)).wy = (x.1.moves P0).foldl (addW P0 x.1 x.2) (bf P0 s0 i).wy := by rw [hbn]
      have e1f : (bf P0 s0 (i + 1)).fd = addF P0 (bf P0 s0 i).fd x.1 x.2 := by rw [hbn]
      rw [← e1] at ub ab
      rw [← e1f] at uy
      have lxb : xb.length = (bf P0 s0 (i + 1)).wy.length := by rw [ab.len, List.length_map]
      have mono : (bf P0 s0 i).wy.length ≤ (bf P0 s0 (i + 1)).wy.length := bf_mono (Nat.le_succ i)
      have fab : Fr [dw, dl, df] H7 Hb := fa.trans ((f37.mono (by simp)).trans (fb.mono (by simp)))
      walk_at "rz"
      refine s_lenL (SqL.of eb) ?_
      walk_at "rz"
      by_cases hbig : m < (bf P0 s0 (i + 1)).wy.length
      · refine ite_t (decide_eq_true (by rw [lxb]; exact_mod_cast hbig)) ?_
        walk_at "rz"
        exact qN ⟨i + 1, hbig⟩ _ (cut fab)
      · refine ite_f (decide_eq_false (by rw [lxb]; exact_mod_cast hbig)) ?_
        walk_at "rz"
        refine ⟨i + 1, _, _, _, _, _, xb, rfl, by omega, by omega, by omega, fab, ub, eb, ab, uy.keep fb (by simp [wf.symm, lf.symm]) fun v y _ h => h.keep fb fun a ha => ?_⟩
        simp only [List.mem_cons, List.not_mem_nil, or_false] at ha
        rcases ha with rfl | rfl
        · exact .inr uwy.nolst
        · exact .inl rfl
  · refine ite_f (decide_eq_false (by rw [lxs]; exact_mod_cast hlt)) ?_
    walk_at "rz"
    exact qD i (by unfold FinAt; omega) (by omega) _ df (cut fa) nf (uf.keep (Fr.refl (A := [])) (by simp) fun v x _ h => h.dp)
end
set_option maxHeartbeats 4000000
open PySem PySem.Spec PyProof.Rows L2 Z
open He (ga ma)
def spWEnds (w : World) (K : Fg) : Sp := fun vs H Q E => ∃ x D P n a, ∃ rg : List Str, vs = [.ref x, .ref a] ∧ WvAt K H x D P n ∧ SqT K H a (rg.map V.str) ∧ (∀ z ∈ rg, z ∈ P.names) ∧ rg.length ≤ 100 ∧ 1 ≤ n ∧
  (∀ i, FinAt P (Ws.first P n rg) i → i ≤ 3000 → ∀ H' d, Same H H' → H d = none → UAt w K H' d (bf P (Ws.first P n rg) i).fd (fun x => x.1) (fun H v x => Dp K H v (.list (x.2.map dMv))) → Q (.ref d) H') ∧
  (Big P (Ws.first P n rg) 3000 → ∀ H', Same H H' → E (.ref (ga K "TooMany")) none H')
def spWEndsAll (w : World) (K : Fg) : Sp := fun vs H Q E => ∃ D P n a, ∃ rg : List Str, vs = [.ref D.p, .int (n : Nat), .ref a] ∧ PlanAt K H D P ∧ (∀ l ∈ P.ls, l.kd = "edge") ∧ 1 ≤ n ∧ n ≤ 6 ∧ SqT K H a (rg.map V.str) ∧ (∀ z ∈ rg, z ∈ P.names) ∧ rg.length ≤ 6 ∧
  (∀ i, FinAt P (Ws.first P n rg) i → i ≤ 3000 → ∀ H' l ys, Same H H' → H l = none → H' l = some (.lst ys) → DpAll K H' ys ((srtF (bf P (Ws.first P n rg) i).fd).map dFd) → Q (.ref l) H') ∧
  (Big P (Ws.first P n rg) 3000 → ∀ H', Same H H' → E (.ref (ga K "TooMany")) none H')
def WendW (w : World) (K : Fg) (P : Pl) (s0 : Ws) (x a t dw dl df : Addr) (Hz : Hp) (k : Nat) (σ : L2.St) (Ha : Hp) : Prop := ∃ (i : Nat) (y6 y7 y8 y9 : Option V) (xs : List V), σ = [some (.ref x), some (.ref a), some (.ref t), some (.ref dw), some (.ref dl), some (.ref df), y6, y7, y8, y9] ∧
  k + i = 3001 ∧ i ≤ (bf P s0 i).wy.length ∧ (bf P s0 i).wy.length ≤ 3000 ∧ Fr [dw, dl, df] Hz Ha ∧ UAt w K Ha dw (bf P s0 i).wy (fun x => wsN x.1) (fun H v x => LvQ K dl H v x.2) ∧ Ha dl = some (.lst xs) ∧ DpAll K Ha xs (((bf P s0 i).wy.drop i).map fun x => dWs x.1) ∧ UAt w K Ha df (bf P s0 i).fd (fun x => x.1) (fun H v x => LvQ K dl H v x.2)
section
variable {P : Program} {w : World} {K : Fg} {mg : Str → Option Value} {base : Heap}
theorem ok_Weaver_ends_x (T : Txt K mg) : FnOk P w K mg base (L2.CX P w) 9 (ma K (ga K "Weaver") "ends") (fdOf K (ma K (ga K "Weaver") "ends")) ["self", "rings"] (spWEnds w K) := by
  refine FunD.ok T.F_Weaver_ends sc_Weaver_ends (fun vs H Q E h => ?_) (fun cdv A outer s H vs Q E hr h => ⟨_, (pss_cons (zset 2 sc_Weaver_ends.nd (z_meth (pv 0) T.cl_Weaver T.m_Weaver_first_state (ok_Weaver_first_state T) T.c_Weaver_first_state (hr.mono (by decide)) passL (pa_cons (pv 1) pa_nil)))
      (pss_cons (zset 3 sc_Weaver_ends.nd (kUOne w K hr.units5 (pv 2) (pe_lst pa_nil)))
      (pss_cons (zset 4 sc_Weaver_ends.nd (pe_lst (pa_cons (pv 2) pa_nil)))
      (pss_cons (zset 5 sc_Weaver_ends.nd (kUNew w))
      (pss_cons (ps_while PassesOwn.leaving (pt_cmpR (op_ne0K K hr.units) (pv 4) (pe_lst pa_nil) (nomark _))
      (pss_cons (zset 6 sc_Weaver_ends.nd (kBM K (pe_bm PySem.F.plainAttrs_list PySem.F.slot_list_pop PySem.F.type_list_pop mt_popAt (pv 4) (pa_cons pe_int pa_nil))))
      (pss_cons (zset 7 sc_Weaver_ends.nd (z_meth (pv 0) T.cl_Weaver T.m_Weaver_end (ok_Weaver_end T) T.c_Weaver_end (hr.mono (by decide)) passL (pa_cons (pv 6) pa_nil)))
      (pss_cons (ps_if (PW.pt (pw_and (pt_cmpR op_notN (pv 7) pe_non (nomark _)) (pw_and1 (pt_cmp (kUNotIn w K hr.units5 (pv 7) (pv 5)))))) (pss_one (kUPut w K hr.units5 (pv 5) (pv 7) (kUGet w K hr.units5 (pv 3) (pv 6) (fun _ _ => rfl)) rfl)) pss_nil)
      (pss_one (ps_for PassesOwn.leaving rfl (kIL K (pi_list (z_meth (pv 0) T.cl_Weaver T.m_Weaver_moves (ok_Weaver_moves T) T.c_Weaver_moves (hr.mono (by decide)) passL (pa_cons (pv 6) pa_nil)))) (zg 8 sc_Weaver_ends.nd)
      (pss_cons (zset 9 sc_Weaver_ends.nd (z_meth (pv 0) T.cl_Weaver T.m_Weaver_behind (ok_Weaver_behind T) T.c_Weaver_behind (hr.mono (by decide)) passL (pa_cons (pv 6) (pa_cons (pv 8) pa_nil))))
      (pss_one (ps_if (pt_cmp (kUNotIn w K hr.units5 (pv 9) (pv 3))) (pss_cons (ps_if (pt_cmpR op_eq (pe_callB (kLenU w K) (by rfl) T.u_len (by decide +kernel) (pa_cons (pv 3) pa_nil)) (z_int T.i_MAX_STATES) (nomark _)) (pss_one (ps_raise rfl (takes_of rfl rfl rfl rfl) (pmk_own PySem.F.excBase_ValueError T.xr_TooMany.1 T.g_TooMany T.xr_TooMany.2.1 (raises_own T.xr_TooMany.2.2.1 T.xr_TooMany.2.2.2) rfl))) pss_nil)
      (pss_cons (kUPut w K hr.units5 (pv 3) (pv 9) (pe_op op_cat (kUGet w K hr.units5 (pv 3) (pv 6) (fun _ _ => rfl)) (pe_lst (pa_cons (pv 8) pa_nil))) rfl)
      (pss_one (ps_expr (kBM K (pe_bm PySem.F.plainAttrs_list PySem.F.slot_list_append PySem.F.type_list_append mt_append (pv 4) (pa_cons (pv 9) pa_nil))))))) pss_nil)))))))))
      (pss_one (ps_ret (pv 5)))))))), ?_⟩)
  · obtain ⟨x, D, P, n, a, rg, rfl, _⟩ := h
    rfl
  obtain ⟨x0, D, P0, n, a, rg, rfl, wv, hra, hz, hrg, n1, qD, qE⟩ := h
  have ok := wv.pl.ok
  have n6 := wv.n6
  have ok0 : (Ws.first P0 n rg).Ok P0 n := Ws.Ok.first n hz
  obtain ⟨dx, hx0⟩ := wv.ins
  show (_ : TS) _ (some (.ref x0) :: some (.ref a) :: List.replicate 8 none) H
  try dsimp only [cxOf]
  dsimp only [List.replicate]
  walk_at "rz"
  refine ⟨x0, D, P0, n, a, rg, rfl, wv, hra, hz, hrg, n1, fun u H1 s1 du => ?_⟩
  generalize hs0 : Ws.first P0 n rg = s0 at *
  obtain ⟨t, _, rfl, _⟩ := du.tupI
  walk_at "rz"
  refine s_uone fun dw hdw => ?_
  generalize eH : upd H1 dw _ = H2
  have s2 := newS hdw eH
  have e2 := newE eH
  clear eH
  walk_at "rz"
  rename_i p3 hp3 H3 s3 e3
  have p3w : p3 ≠ dw := fun e => by rw [e, e2] at hp3; cases hp3
  have np3 : ∀ {q : Addr}, H3 q = none → p3 ≠ q := fun {q} h e => by rw [← e, e3] at h; cases h
  refine UAt.one (K := K) (key := fun x : Ws × List Mv => wsN x.1) (R := fun H v x => ∃ l, v = .ref l ∧ H l = some (.lst []) ∧ l = p3 ∧ x.2 = []) (x := (s0, [])) (s3 _ _ e2) (key_ws ((du.same s2).same s3)) (fun H' f => ⟨p3, rfl, f.at e3 (by simp [p3w]), rfl, rfl⟩) (fun H4 f4 u4 => ?_)
  walk_at "rz"
  rename_i dl hdl H5 s5 e5
  refine s_unew ?_
  walk_at "zn"
  rename_i df hdf H6 s6 e6
  have s46 := s5.trans s6
  have f16 : Fr [dw] H1 H6 := (((s2.trans s3).fr : Fr [dw] H1 H3).trans f4).trans s46.fr
  have n1w : H1 dw = none := hdw
  have n1l : H1 dl = none := ((s2.trans s3).fr : Fr [dw] H1 H3).back (f4.back hdl)
  have n1f : H1 df = none := ((s2.trans s3).fr : Fr [dw] H1 H3).back (f4.back (s5.fr (A := []) |>.back hdf))
  have n3l : H3 dl = none := f4.back hdl
  have uw6 : UAt w K H6 dw (bf P0 s0 0).wy (fun x => wsN x.1) (fun H v x => LvQ K dl H v x.2) := u4.keep (s46.fr (A := [])) (by simp) fun v x _ ⟨l, e1, h2, h3, h4⟩ => ⟨l, [], e1, by rw [h3]; exact np3 n3l, s46 _ _ h2, by rw [h4]; exact .nil⟩
  have e56 := s6 _ _ e5
  have uf6 : UAt w K H6 df (bf P0 s0 0).fd (fun x => x.1) (fun H v x => LvQ K dl H v x.2) := UAt.nil e6
  have f1 : Fr [dw, dl, df] H1 H6 := f16.mono (by simp)
  have du6 : Dp K H6 (.ref t) (dWs s0) := du.tk f16.tk (tupd_ws _)
  have wf : dw ≠ df := fun e => by
    have h := s5.fr (A := []) |>.back hdf
    rw [← e] at h
    exact u4.ex h
  have wl : dw ≠ dl := fun e => by
    rw [← e] at hdl
    exact u4.ex hdl
  have lf : dl ≠ df := fun e => by
    rw [← e, e5] at hdf
    cases hdf
  have hfree : ∀ y ∈ [dw, dl, df], H1 y = none := fun a ha => by
    simp only [List.mem_cons, List.not_mem_nil, or_false] at ha
    rcases ha with rfl | rfl | rfl
    · exact n1w
    · exact n1l
    · exact n1f
  have cut1 : ∀ {Hx : Hp}, Fr [dw, dl, df] H6 Hx → Same H1 Hx := fun {Hx} fx => ((f1.trans fx).cut (A := []) fun a ha => .inr (hfree a ha)).same
  have wv1 := wv.same s1
  have nf : H df = none := s1.fr (A := []) |>.back n1f
  clear e6 e5 s5 s6 s46 e3 e2 s2 s3 u4 f4 hdf hdl hdw hp3 f16 np3 n3l p3w
  walk_at "rz"
  refine ⟨WendW w K P0 s0 x0 a t dw dl df H6, ⟨3001, 0, _, _, _, _, _, rfl, rfl, Nat.zero_le _, (by show 1 ≤ 3000; omega), Fr.refl, uw6, e56, .cons du6 .nil, uf6⟩, ?_⟩
  rintro k σ Ha ⟨i, y6, y7, y8, y9, xs, rfl, hk, hi, hm, fa, uw, el, al, uf⟩
  have lxs : xs.length = (bf P0 s0 i).wy.length - i := by rw [al.len, List.length_map, List.length_drop]
  have bok := bf_ok P0 s0 i
  have lfd := bf_fd_len P0 s0 i
  walk_at "rz"
  rename_i pe hpe Hb sb eb
  refine s_eq0L (SqL.of (sb _ _ el)) (SqL.of eb) ?_
  rw [if_pos rfl]
  have fb : Fr [dw, dl, df] H6 Hb := fa.trans sb.fr
  have uwb : UAt w K Hb dw (bf P0 s0 i).wy (fun x => wsN x.1) (fun H v x => LvQ K dl H v x.2) := uw.keep (sb.fr (A := [])) (by simp) fun v x _ h => h.keep (sb.fr (A := [])) (by simp)
  have ufb : UAt w K Hb df (bf P0 s0 i).fd (fun x => x.1) (fun H v x => LvQ K dl H v x.2) := uf.keep (sb.fr (A := [])) (by simp) fun v x _ h => h.keep (sb.fr (A := [])) (by simp)
  have elb := sb _ _ el
  have alb := al.same sb
  clear uw uf el al
  walk_at "rz"
  by_cases hlt : i < (bf P0 s0 i).wy.length
  · have hxi : (bf P0 s0 i).wy[i]? = some (bf P0 s0 i).wy[i] := List.getElem?_eq_getElem hlt
    have hdr : (bf P0 s0 i).wy.drop i = (bf P0 s0 i).wy[i] :: (bf P0 s0 i).wy.drop (i + 1) := List.drop_eq_getElem_cons hlt
    generalize (bf P0 s0 i).wy[i] = x at hxi hdr
    rw [hdr, List.map_cons] at alb
    obtain ⟨sv, xr, rfl, dsv, alr⟩ : ∃ v vs, xs = v :: vs ∧ Dp K Hb v (dWs x.1) ∧ DpAll K Hb vs (((bf P0 s0 i).wy.drop (i + 1)).map fun x => dWs x.1) := by cases alb with | cons h1 h2 => exact ⟨_, _, rfl, h1, h2⟩
    refine ite_t rfl ?_
    refine ⟨WendW w K P0 s0 x0 a t dw dl df H6 (k - 1), (fun σ' H' h => ⟨k - 1, by omega, h⟩), ?_⟩
    obtain ⟨g1, g2, g3⟩ := bok.go i x hxi
    have sok : x.1.Ok P0 n := by rw [g1]; exact g2.okAll ok ok0
    have ml := moves_len sok ok n6
    have hmem : x ∈ (bf P0 s0 i).wy := List.mem_of_getElem? hxi
    walk_at "rz"
    refine s_tyL elb ?_
    walk_at "rz"
    refine ⟨dl, _, 0, 0, sv, rfl, rfl, elb, by omega, by omega, (by unfold seqIndex?; simp), rfl, ?_⟩
    have fp : Fr [dl] Hb (upd Hb dl (.lst ((sv :: xr).eraseIdx 0))) := Fr.upd (by simp) elb rfl
    have ep : upd Hb dl (.lst ((sv :: xr).eraseIdx 0)) dl = some (.lst xr) := upd_same
    generalize upd Hb dl (.lst ((sv :: xr).eraseIdx 0)) = Hc at fp ep ⊢
    have tw : ∀ l : Wy, tupds (l.map fun x => dWs x.1) = true := fun l => tupds_map (f := fun x : Ws × List Mv => dWs x.1) (fun x => tupd_ws _) l
    have dsc := dsv.tk fp.tk (tupd_ws _)
    have alc := alr.tk fp.tk (tw _)
    have uwc : UAt w K Hc dw (bf P0 s0 i).wy (fun x => wsN x.1) (fun H v x => LvQ K dl H v x.2) := uwb.keep fp (by simp [wl]) fun v x _ h => h.keep fp (by simp)
    have ufc : UAt w K Hc df (bf P0 s0 i).fd (fun x => x.1) (fun H v x => LvQ K dl H v x.2) := ufb.keep fp (by simp [lf.symm]) fun v x _ h => h.keep fp (by simp)
    have fc : Fr [dw, dl, df] H6 Hc := fb.trans (fp.mono (by simp))
    have s1c := cut1 fc
    have hxc := s1c _ _ (s1 _ _ hx0)
    clear uwb ufb elb alr dsv eb hpe
    walk_at "rz"
    refine ⟨x0, D, P0, n, sv, x.1, rfl, wv1.same s1c, dsc, sok, fun u3 H3 s3 du3 => ?_⟩
    have uw3 : UAt w K H3 dw (bf P0 s0 i).wy (fun x => wsN x.1) (fun H v x => LvQ K dl H v x.2) := uwc.keep (s3.fr (A := [])) (by simp) fun v x _ h => h.keep (s3.fr (A := [])) (by simp)
    have uf3 : UAt w K H3 df (bf P0 s0 i).fd (fun x => x.1) (fun H v x => LvQ K dl H v x.2) := ufc.keep (s3.fr (A := [])) (by simp) fun v x _ h => h.keep (s3.fr (A := [])) (by simp)
    have ep3 := s3 _ _ ep
    have dsv3 := dsc.same s3
    obtain ⟨ts, _, rfl, _⟩ := dsc.tupI
    refine s_gname ?_
    refine s_seq ?_
    refine if_gE (fun σ Hy => σ = [some (.ref x0), some (.ref a), some (.ref t), some (.ref dw), some (.ref dl), some (.ref df), some (.ref ts), some u3, y8, y9] ∧ Fr [df] H3 Hy ∧ UAt w K Hy df (addF P0 (bf P0 s0 i).fd x.1 x.2) (fun x => x.1) (fun H v x => LvQ K dl H v x.2)) ?rest (fun nx hx => ?iff)
    case iff =>
      walk_at "rz"
      refine ⟨rfl, ?_⟩
      unfold Ws.endN at du3
      cases hmv : (x.1.moves P0).isEmpty with
      | false =>
        rw [hmv, if_neg Bool.false_ne_true] at du3
        cases du3
        have ea : addF P0 (bf P0 s0 i).fd x.1 x.2 = (bf P0 s0 i).fd := by unfold addF; rw [hmv]; rfl
        walk_at "rz"
        exact hx _ _ ⟨rfl, Fr.refl, by rw [ea]; exact uf3⟩
      | true =>
        rw [hmv, if_pos rfl] at du3
        obtain ⟨te, rfl⟩ := endD_ref du3
        walk_at "rz"
        refine s_unotin ?_
        walk_at "rz"
        refine uf3.nin (key_en du3) ?_
        rw [hasF_any]
        cases hfd : hasF (bf P0 s0 i).fd (enN x.1) with
        | true =>
          have ea : addF P0 (bf P0 s0 i).fd x.1 x.2 = (bf P0 s0 i).fd := by unfold addF; rw [hmv, hfd]; rfl
          walk_at "rz"
          exact hx _ _ ⟨rfl, Fr.refl, by rw [ea]; exact uf3⟩
        | false =>
          have ea : addF P0 (bf P0 s0 i).fd x.1 x.2 = (bf P0 s0 i).fd ++ [(enN x.1, x.2)] := by unfold addF; rw [hmv, hfd]; rfl
          walk_at "rz"
          refine s_uput ?_
          walk_at "rz"
          refine s_uget ?_
          walk_at "rz"
          refine uw3.got bok.nd hmem (key_ws dsv3) fun vw rw => ?_
          walk_at "rz"
          refine uf3.put (R' := fun H v x => LvQ K dl H v x.2) (x := (enN x.1, x.2)) (key_en du3) hfd (by rw [sizeLine_eq]; omega) (fun Hy fy v y _ h => h.keep fy fun a ha => .inr (by rw [List.mem_singleton.mp ha]; exact uf3.nolst)) (fun Hy fy => rw.keep fy fun a ha => .inr (by rw [List.mem_singleton.mp ha]; exact uf3.nolst)) (fun Hy fy uy => ?_)
          exact hx _ _ ⟨rfl, fy, by rw [ea]; exact uy⟩
    rintro σ Hy ⟨rfl, fy, uy⟩
    have f3y : Fr [df] Hc Hy := (s3.fr : Fr [df] Hc H3).trans fy
    have uwy : UAt w K Hy dw (bf P0 s0 i).wy (fun x => wsN x.1) (fun H v x => LvQ K dl H v x.2) := uw3.keep fy (by simp [wf]) fun v x _ h => h.keep fy fun a ha => .inr (by rw [List.mem_singleton.mp ha]; exact uf3.nolst)
    have ely := fy.at ep3 (by simp [lf])
    have aly := alc.tk f3y.tk (tw _)
    have dsy := dsc.tk f3y.tk (tupd_ws _)
    have fcy : Fr [dw, dl, df] H6 Hy := fc.trans (f3y.mono (by simp))
    have s1y := cut1 fcy
    have hxy := s1y _ _ (s1 _ _ hx0)
    clear uw3 uf3 ep3 dsv3 du3 uwc ufc ep alc s3 hxc
    dsimp only
    walk_at "rz"
    refine ⟨x0, D, P0, n, _, x.1, rfl, wv1.same s1y, dsy, sok, fun Hq l2 zs sq hl2 e2y a2y => ?_⟩
    have lzs : zs.length = (x.1.moves P0).length := by rw [a2y.len, List.length_map]
    have l2w : l2 ≠ dw := fun e => by rw [e] at hl2; exact uwy.ex hl2
    have l2l : l2 ≠ dl := fun e => by rw [e, ely] at hl2; cases hl2
    have l2f : l2 ≠ df := fun e => by rw [e] at hl2; exact uy.ex hl2
    have uwq : UAt w K Hq dw (bf P0 s0 i).wy (fun x => wsN x.1) (fun H v x => LvQ K dl H v x.2) := uwy.keep (sq.fr (A := [])) (by simp) fun v x _ h => h.keep (sq.fr (A := [])) (by simp)
    have fcq : Fr [dw, dl, df] H6 Hq := fcy.trans sq.fr
    have dsq := dsy.same sq
    have uyq : UAt w K Hq df (addF P0 (bf P0 s0 i).fd x.1 x.2) (fun x => x.1) (fun H v x => LvQ K dl H v x.2) := uy.keep (sq.fr (A := [])) (by simp) fun v x _ h => h.keep (sq.fr (A := [])) (by simp)
    walk_at "rz"
    refine ⟨⟨_, SqL.of e2y⟩, for_it (walk_list (xs := zs)) (fun j σ Hb => (∃ y8 y9, σ = [some (.ref x0), some (.ref a), some (.ref t), some (.ref dw), some (.ref dl), some (.ref df), some (.ref ts), some u3, y8, y9]) ∧ Fr [dw, dl] Hq Hb ∧ (midW P0 (bf P0 s0 i) x j).length ≤ 3000 ∧ UAt w K Hb dw (midW P0 (bf P0 s0 i) x j) (fun x => wsN x.1) (fun H v x => LvQ K dl H v x.2) ∧ ∃ xs, Hb dl = some (.lst xs) ∧ DpAll K Hb xs (((midW P0 (bf P0 s0 i) x j).drop (i + 1)).map fun x => dWs x.1))
      ⟨⟨_, _, rfl⟩, Fr.refl, hm, uwq, xr, sq _ _ ely, aly.same sq⟩ (fun j σ Hb _ ⟨_, fb, _⟩ => SqL.of (fb.at e2y (by simp [l2w, l2l]))) (fun j zv σ Hb0 Hb hj ⟨⟨y8, y9, es⟩, fb, hmj, ub, xb, eb, ab⟩ yy => ?_) (fun σ Hb ⟨⟨y8, y9, es⟩, fb, hmj, ub, xb, eb, ab⟩ => ?_)⟩
    · subst es
      obtain ⟨rfl, hzv⟩ := yy
      obtain ⟨dd, hdd, dzv⟩ := (a2y.tk fb.tk (tds_mv _)).getv hzv
      rw [List.getElem?_map] at hdd
      obtain ⟨mv, hmv, rfl⟩ := Option.map_eq_some_iff.mp hdd
      have mem := List.mem_of_getElem? hmv
      have hjl : j < (x.1.moves P0).length := (List.getElem?_eq_some_iff.mp hmv).1
      have lxb : xb.length = (midW P0 (bf P0 s0 i) x j).length - (i + 1) := by rw [ab.len, List.length_map, List.length_drop]
      have hmn := midW_next (b := bf P0 s0 i) hmv
      have hpre := midW_pre P0 (bf P0 s0 i) x j
      have him : i + 1 ≤ (midW P0 (bf P0 s0 i) x j).length := by have := hpre.length_le; omega
      have s1b := cut1 (fcq.trans (fb.mono (by simp)))
      have hxb := s1b _ _ (s1 _ _ hx0)
      walk_at "rz"
      refine ⟨x0, D, P0, n, _, x.1, mv, zv, rfl, wv1.same s1b, dsq.tk fb.tk (tupd_ws _), sok, dzv, mem, fun gv Hc2 sc dg => ?_⟩
      obtain ⟨tg, _, rfl, _⟩ := dg.tupI
      have ubc : UAt w K Hc2 dw (midW P0 (bf P0 s0 i) x j) (fun x => wsN x.1) (fun H v x => LvQ K dl H v x.2) := ub.keep (sc.fr (A := [])) (by simp) fun v x _ h => h.keep (sc.fr (A := [])) (by simp)
      have ebc := sc _ _ eb
      have abc := ab.same sc
      walk_at "rz"
      refine s_unotin ?_
      walk_at "rz"
      refine ubc.nin (key_ws dg) ?_
      rw [hasW_any]
      cases hhw : hasW (midW P0 (bf P0 s0 i) x j) (wsN (x.1.after P0 mv)) with
      | true =>
        have ea : midW P0 (bf P0 s0 i) x (j + 1) = midW P0 (bf P0 s0 i) x j := by rw [hmn]; unfold addW; rw [if_pos hhw]
        walk_at "rz"
        exact ⟨⟨_, _, rfl⟩, fb.trans sc.fr, by rw [ea]; exact hmj, by rw [ea]; exact ubc, xb, ebc, by rw [ea]; exact abc⟩
      | false =>
        have ea : midW P0 (bf P0 s0 i) x (j + 1) = midW P0 (bf P0 s0 i) x j ++ [(x.1.after P0 mv, x.2 ++ [mv])] := by rw [hmn]; unfold addW; rw [if_neg (by rw [hhw]; exact Bool.false_ne_true)]
        have ndm : ((midW P0 (bf P0 s0 i) x j).map fun x => wsN x.1).Nodup := (foldW_ok (P := P0) (s0 := s0) (i := i) g1 g2 g3 ((x.1.moves P0).take j) _ (fun m hm => List.mem_of_mem_take hm) hlt bok.go bok.nd).2
        walk_at "rz"
        refine ubc.len ?_
        walk_at "rz"
        by_cases h3 : (midW P0 (bf P0 s0 i) x j).length = 3000
        · refine ite_t (decide_eq_true (by rw [h3]; rfl)) ?_
          walk_at "rz"
          refine qE ⟨i + 1, ?_⟩ _ (s1.trans (cut1 (fcq.trans ((fb.trans sc.fr).mono (by simp)))))
          have hle := midW_le P0 (bf P0 s0 i) x (j + 1)
          rw [ea, List.length_append, h3] at hle
          rw [bf_next hxi]
          exact hle
        · refine ite_f (decide_eq_false (fun e => h3 (by injection e with e; exact Int.ofNat.inj e))) ?_
          walk_at "rz"
          refine s_uput ?_
          walk_at "rz"
          refine s_uget ?_
          walk_at "rz"
          refine ubc.got ndm (hpre.subset hmem) (key_ws ((dsq.tk fb.tk (tupd_ws _)).same sc)) fun vw rw => ?_
          obtain ⟨lw, lws, rfl, lwn, elw, hA⟩ := rw
          have ltv : lws.length = x.2.length := by rw [hA.len, List.length_map]
          walk_at "rz"
          rename_i p5 hp5 Hd sd ed
          refine s_cat (sd _ _ elw) ed (by rw [sizeLine_eq, ltv]; show _ + 1 ≤ _; omega) fun cv hcv => ?_
          generalize eH : upd Hd cv _ = He
          have se := newS hcv eH
          have ecv := newE eH
          clear eH
          have sde := sd.trans se
          have ube : UAt w K He dw (midW P0 (bf P0 s0 i) x j) (fun x => wsN x.1) (fun H v x => LvQ K dl H v x.2) := ubc.keep (sde.fr (A := [])) (by simp) fun v x _ h => h.keep (sde.fr (A := [])) (by simp)
          have cvl : cv ≠ dl := fun e => by rw [e, sd _ _ ebc] at hcv; cases hcv
          have cvw : cv ≠ dw := fun e => by
            have := sd.fr (A := []) |>.back hcv
            rw [e] at this
            exact ubc.ex this
          walk_at "rz"
          refine ube.put (R' := fun H v x => LvQ K dl H v x.2) (x := (x.1.after P0 mv, x.2 ++ [mv])) (key_ws (dg.same sde)) hhw (by rw [sizeLine_eq]; omega) (fun Hf ff v y _ h => h.keep ff fun a ha => .inr (by rw [List.mem_singleton.mp ha]; exact ube.nolst)) (fun Hf ff => ?_) (fun Hf ff uf' => ?_)
          · refine ⟨cv, _, rfl, cvl, ff.at ecv (by simp [cvw]), ?_⟩
            rw [List.map_append]
            exact ((hA.same sde).tk ff.tk (tds_mv _)).app (.cons (((dzv.same sc).same sde).tk ff.tk (tupd_mv _)) .nil)
          have ebf := ff.at (sde _ _ ebc) (by simp [wl.symm])
          walk_at "rz"
          refine s_tyL ebf ?_
          walk_at "rz"
          refine s_append ebf (by rw [sizeLine_eq]; omega) ?_
          have fg : Fr [dl] Hf (upd Hf dl (.lst (xb ++ [.ref tg]))) := Fr.upd (by simp) ebf rfl
          have eg : upd Hf dl (.lst (xb ++ [.ref tg])) dl = some (.lst (xb ++ [.ref tg])) := upd_same
          generalize upd Hf dl (.lst (xb ++ [.ref tg])) = Hg at fg eg ⊢
          walk_at "rz"
          refine ⟨⟨_, _, rfl⟩, fb.trans (((sc.trans sde).fr : Fr [dw, dl] Hb He).trans ((ff.mono (by simp)).trans (fg.mono (by simp)))), ?_, ?_, _, eg, ?_⟩
          · rw [ea, List.length_append]
            show _ + 1 ≤ 3000
            omega
          · rw [ea]
            exact uf'.keep fg (by simp [wl]) fun v x _ h => h.keep fg (by simp)
          · rw [ea, List.drop_append_of_le_length him, List.map_append]
            exact (((abc.same sde).tk ff.tk (tw _)).tk fg.tk (tw _)).app (.cons (((dg.same sde).tk ff.tk (tupd_ws _)).tk fg.tk (tupd_ws _)) .nil)
    · subst es
      have hbn := bf_next hxi
      rw [lzs, midW_all] at ub ab hmj
      have e1 : (bf P0 s0 (i + 1)).wy = (x.1.moves P0).foldl (addW P0 x.1 x.2) (bf P0 s0 i).wy := by rw [hbn]
      have e1f : (bf P0 s0 (i + 1)).fd = addF P0 (bf P0 s0 i).fd x.1 x.2 := by rw [hbn]
      rw [← e1] at ub ab hmj
      rw [← e1f] at uyq
      have mono : (bf P0 s0 i).wy.length ≤ (bf P0 s0 (i + 1)).wy.length := bf_mono (Nat.le_succ i)
      have fab : Fr [dw, dl, df] H6 Hb := fcq.trans (fb.mono (by simp))
      walk_at "rz"
      refine ⟨i + 1, _, _, _, _, xb, rfl, by omega, by omega, hmj, fab, ub, eb, ab, uyq.keep fb (by simp [wf.symm, lf.symm]) fun v y _ h => h.keep fb fun a ha => ?_⟩
      simp only [List.mem_cons, List.not_mem_nil, or_false] at ha
      rcases ha with rfl | rfl
      · exact .inr uwq.nolst
      · exact .inl rfl
  · have hx : xs = [] := List.length_eq_zero_iff.mp (by omega)
    subst hx
    refine ite_f rfl ?_
    walk_at "rz"
    exact qD i (by unfold FinAt; omega) (by omega) _ df (s1.trans (cut1 fb)) nf (ufb.keep (Fr.refl (A := [])) (by simp) fun v x _ h => h.dp)
theorem ok_weaving_ends_x (T : Txt K mg) : FnOk P w K mg base (L2.CX P w) 10 (ga K "weaving_ends") (fdOf K (ga K "weaving_ends")) ["setup", "count", "rings"] (spWEndsAll w K) := by
  refine FunD.ok T.F_weaving_ends sc_weaving_ends (fun vs H Q E h => ?_) (fun cdv A outer s H vs Q E hr h => ⟨_, (pss_one (ps_ret (kSU w K (z_sortedItemsU (by rfl) T.u_sorted (z_meth (z_call (ok_weaver_of T) T.c_weaver_of (hr.mono (by decide)) rfl T.g_weaver_of passL (pa_cons (pv 0) (pa_cons (pv 1) (pa_cons (pv 2) pa_nil)))) T.cl_Weaver T.m_Weaver_ends (ok_Weaver_ends_x T) T.c_Weaver_ends (hr.mono (by decide)) (passes_call (takes_of rfl rfl rfl rfl) (fun _ _ _ _ h => h)) (pa_cons (pv 2) pa_nil)) hr.units)))), ?_⟩)
  · obtain ⟨D, P, n, a, rg, rfl, _⟩ := h
    rfl
  obtain ⟨D, P0, n, a, rg, rfl, pl, hed, n1, n6, hra, hz, hrg, qD, qE⟩ := h
  have ok0 : (Ws.first P0 n rg).Ok P0 n := Ws.Ok.first n hz
  show (_ : TS) _ (some (.ref D.p) :: some (.int (n : Nat)) :: some (.ref a) :: List.replicate 0 none) H
  try dsimp only [cxOf]
  dsimp only [List.replicate]
  refine s_ret ?_
  refine s_sortU ?_
  walk_at "rz"
  refine ⟨D, P0, n, a, rg, rfl, pl, hed, n1, n6, hra, hz, hrg, fun x H1 s1 wv => ?_⟩
  obtain ⟨dx, hx⟩ := wv.ins
  walk_at "rz"
  refine ⟨x, D, P0, n, a, rg, rfl, wv, s1.sqT hra, hz, by omega, n1, fun i hf hi H2 d s2 nd ud => ?_, fun hb H2 s2 => qE hb H2 (s1.trans s2)⟩
  exact UAt.sorted pl.ok ok0 ud fun H3 l ys s3 hl el al => qD i hf hi H3 l ys ((s1.trans s2).trans s3) ((s1.trans s2).fr (A := []) |>.back hl) el al
theorem ok_weaving_ends (T : Txt K mg) : FnOk P w K mg base (L2.CX P w) 10 (ga K "weaving_ends") (fdOf K (ga K "weaving_ends")) ["setup", "count", "rings"] (spWEndsAll w K) := ok_weaving_ends_x T
end
set_option maxHeartbeats 8000000
open PySem PySem.Spec PyProof.Rows L2 Z
open He (ga ma)
def spLaw (K : Fg) : Sp := fun vs H Q _ => ∃ (a : Addr) (ns : List Int), vs = [.ref a] ∧ SqL K H a (ns.map V.int) ∧ ∀ H', Q (.bl true) H'
section
variable {P : Program} {w : World} {K : Fg} {mg : Str → Option Value} {base : Heap}
theorem ok_law (T : Txt K mg) : FnOk P w K mg base (L2.CX P w) 32 (ga K "law") (fdOf K (ga K "law")) ["_law_script"] (spLaw K) := by
  refine FunD.ok T.F_law sc_law (fun vs H Q E h => ?_) (fun cdv A outer s H vs Q E hr h => ⟨_, PSs.nox (pss_cons (zset 1 sc_law.nd (pe_lst (pa_cons (pv 0) (pa_cons pe_int (pa_cons pe_int (pa_cons pe_int pa_nil))))))
      (pss_cons (ps_asg (z_call (ok_w_weaving_parts T) T.c_w_weaving_parts (hr.mono (by decide)) rfl T.g_w_weaving_parts passL (pa_cons (pv 1) pa_nil)) (kGT K (pg_tup (n := 4) rfl (pgs_cons (zg 2 sc_law.nd) (pgs_cons (zg 3 sc_law.nd) (pgs_cons (zg 4 sc_law.nd) (pgs_cons (zg 5 sc_law.nd) pgs_nil)))))))
      (pss_cons (ps_if (pt_cmpR op_isN (z_call (ok_w_weave_ends T) T.c_w_weave_ends (hr.mono (by decide)) rfl T.g_w_weave_ends passL (pa_cons (pe_tup (pa_cons (pv 2) (pa_cons (pv 3) (pa_cons pe_int (pa_cons (pv 5) pa_nil))))) (pa_cons pe_int pa_nil))) pe_non (nomark _)) (pss_one (ps_ret pe_bl)) pss_nil)
      (pss_cons (zset 6 sc_law.nd (z_make T.mk_Setup (ok_Setup_init T) T.c_Setup_init (hr.mono (by decide)) rfl T.g_Setup passL (pa_cons (pv 2) (pa_cons (pv 3) pa_nil))))
      (pss_cons (ps_par (by rfl) sc_law.nd (i := 7) (j := 8) rfl rfl (by decide) rfl rfl (pa_cons (pe_callTy (kDictU w K rfl hr.units) (by rfl) T.u_dict (by decide +kernel) (pa_cons (z_call (ok_weaving_ends T) T.c_weaving_ends (hr.mono (by decide)) rfl T.g_weaving_ends passL (pa_cons (pv 6) (pa_cons pe_int (pa_cons (pv 5) pa_nil)))) pa_nil)) (pa_cons (pe_callTy (kDictU w K rfl hr.units) (by rfl) T.u_dict (by decide +kernel) (pa_cons (z_call (ok_weaving_ends T) T.c_weaving_ends (hr.mono (by decide)) rfl T.g_weaving_ends passL (pa_cons (pv 6) (pa_cons pe_int (pa_cons (pv 5) pa_nil)))) pa_nil)) pa_nil)) (by rfl))
      (pss_cons (ps_lock (ps_for PassesOwn.never rfl (kIU w (pi_itemsU (pv 7))) (kGT K (pg_tup (n := 2) rfl (pgs_cons (zg 9 sc_law.nd) (pgs_cons (zg 10 sc_law.nd) pgs_nil))))
      (pss_one (ps_if (PW.pt (pw_and (pt_cmpR op_eq (pe_ix (ix_tupK K) (pv 9) pe_int (fun _ _ => rfl)) pe_str (nomark _)) (pw_and1 (PW.pt (pw_or (pt_cmp (kUNotIn w K hr.units5 (pv 9) (pv 8))) (pw_or1 (pt_cmpR op_gt (pe_callB (call_lenK K) (by rfl) T.u_len (by decide +kernel) (pa_cons (kUGet w K hr.units5 (pv 8) (pv 9) (fun _ _ => rfl)) pa_nil)) (pe_callB (call_lenK K) (by rfl) T.u_len (by decide +kernel) (pa_cons (pv 10) pa_nil)) (nomark _)))))))) (pss_one (ps_ret pe_bl)) pss_nil))))
      (pss_cons (ps_if (pt_cmpR (op_eq0K K hr.units) (pv 5) (pe_tup pa_nil) (nomark _)) (pss_one (ps_ret (pe_and (pe_cmpR (op_eqDK K hr.units) (pe_callTy (kListU w K rfl) (by rfl) T.u_list (by decide +kernel) (pa_cons (pv 8) pa_nil)) (pe_lst (pa_cons (pe_tup (pa_cons pe_str (pa_cons (pe_tup pa_nil) (pa_cons (pe_op (op_repU K) (pe_tup (pa_cons pe_int pa_nil)) (pe_callB (call_lenK K) (by rfl) T.u_len (by decide +kernel) (pa_cons (pv 2) pa_nil))) pa_nil)))) pa_nil)) (nomark _)) (pe_one (pe_cmpR (op_eqUK w K hr.units5) (pv 8) (pv 7) (nomark _)))))) pss_nil)
      (pss_one (ps_ret (pe_and (pe_cmpR op_gt (pe_callB (kLenU w K) (by rfl) T.u_len (by decide +kernel) (pa_cons (pv 7) pa_nil)) pe_int (nomark _)) (pe_one (pe_cmpR op_gt (pe_callB (kLenU w K) (by rfl) T.u_len (by decide +kernel) (pa_cons (pv 8) pa_nil)) pe_int (nomark _))))))))))))), ?_⟩)
  · obtain ⟨a, ns, rfl, _⟩ := h
    rfl
  obtain ⟨sc, ns, rfl, hsc, q⟩ := h
  show (_ : TS) _ (some (.ref sc) :: List.replicate 10 none) H
  try dsimp only [cxOf]
  dsimp only [List.replicate]
  walk_at "rz"
  rename_i r hr0 H1 s1 e1
  have row1 := row_new hsc hr0 s1 e1
  clear e1
  refine ⟨r, sc, ns, rfl, row1, fun t P0 n rg H2 f2 row2 pok hed n1 n3 hz hl dpt => ?_⟩
  obtain ⟨_, ps, ept, hpT, hpA⟩ := dpt.tupI
  cases ept
  cases hpA with | cons b1 hpA => ?_
  cases hpA with | cons b2 hpA => ?_
  cases hpA with | cons b3 hpA => ?_
  cases hpA with | cons b4 hpA => ?_
  cases hpA
  cases b3
  obtain ⟨pa, la, rfl, paT, paA⟩ := b1.tupI
  obtain ⟨pb, lb, rfl, pbT, pbA⟩ := b2.tupI
  obtain ⟨pr, lr, rfl, prT, prA⟩ := b4.tupI
  rw [dp_strs prA] at prT
  have lla : la.length = P0.ls.length := by rw [paA.len, List.length_map]
  have l12 := pok.l12
  have lp : 0 < P0.ls.length := List.length_pos_iff.mpr pok.ne
  have so1 : (Ws.first P0 1 rg).Ok P0 1 := Ws.Ok.first 1 hz
  have so2 : (Ws.first P0 2 rg).Ok P0 2 := Ws.Ok.first 2 hz
  refine s_gtup hpT rfl ?_
  walk_at "rz"
  rename_i p5 hp5 H5 s5 e5
  have dp5 : Dp K H5 (.ref p5) (dPt P0 2 rg) := .tup (SqT.of e5) (.cons (b1.same s5) (.cons (b2.same s5) (.cons (.int _) (.cons (b4.same s5) .nil))))
  walk_at "rz"
  refine ⟨.ref p5, P0, 2, 1200, rg, rfl, dp5, pok, hz, by omega, by omega, by omega, by omega, by omega, fun hbig H6 s6 => ?none, fun j h2 hj H6 d s6 hd ud => ?dict⟩
  case none =>
    walk_at "rz"
    refine ⟨rfl, ?_⟩
    walk_at "rz"
    exact q _
  case dict =>
    obtain ⟨i, h1, hij⟩ := fin_one h2
    have s26 := s5.trans s6
    have b16 := b1.same s26
    have b26 := b2.same s26
    have pr6 := s26.sqT prT
    have pa6 := s26.sqT paT
    clear s26 ud hd s6 dp5 e5 hp5 s5 b1 b2 b4 prT prA paT paA pbT pbA hpT dpt row1 row2 f2
    walk_at "rz"
    refine ⟨rfl, ?_⟩
    walk_at "rz"
    walk_at "zm"
    rename_i p dx hp0 H7 s7 e7
    refine ⟨p, pa, pb, dx, P0, rfl, e7, b16.same s7, b26.same s7, pok, fun H8 rd wd hrd hwd hne f8 pl8 => ⟨rfl, ?_⟩⟩
    have s68 : Same H6 H8 := ((s7.fr : Fr [] H6 H7).seq f8 fun y hy => .inr (by rw [List.mem_singleton.mp hy]; exact hp0)).same
    have pr8 := s68.sqT pr6
    have pa8 := s68.sqT pa6
    clear s68 s7 e7 f8 hp0 hrd hwd hne b16 b26 pr6 pa6
    obtain ⟨hk1, hn1⟩ := srtF_keys (P := P0) pok so1 i
    obtain ⟨hk2, hn2⟩ := srtF_keys (P := P0) pok so2 j
    have bok1 := bf_ok P0 (Ws.first P0 1 rg) i
    walk_at "rz"
    refine ⟨⟨p, rd, wd⟩, P0, 1, pr, rg, rfl, pl8, hed, by omega, by omega, pr8, hz, by omega, fun i' hf' hi' H9 l1 ys1 s9 hl1 el1 al1 => ?_, fun hb => absurd hb (h1.big (by omega))⟩
    obtain rfl := hf'.uniq h1
    walk_at "rz"
    refine ends_dict (SqL.of el1) al1 hk1 hn1 fun d1 Ha sa hd1 u1 => ?_
    have s8a := s9.trans sa
    walk_at "rz"
    refine ⟨⟨p, rd, wd⟩, P0, 2, pr, rg, rfl, pl8.same s8a, hed, by omega, by omega, s8a.sqT pr8, hz, by omega, fun j' hf2 hj2 Hb l2 ys2 sb hl2 el2 al2 => ?_, fun hb => absurd hb (h2.big (by omega))⟩
    obtain rfl := hf2.uniq h2
    walk_at "rz"
    refine ends_dict (SqL.of el2) al2 hk2 hn2 fun d2 Hc sc2 hd2 u2 => ?_
    have sac := sb.trans sc2
    have s8c := s8a.trans sac
    have prc := s8c.sqT pr8
    have pac := s8c.sqT pa8
    have u1c : UAt w K Hc d1 (srtF (bf P0 (Ws.first P0 1 rg) i').fd) (fun x => x.1) (fun H v x => Dp K H v (.list (x.2.map dMv))) := u1.keep (sac.fr (A := [])) (by simp) fun v x _ h => h.same sac
    have d12 : d1 ≠ d2 := fun e => by
      have := sb.fr (A := []) |>.back hd2
      rw [← e] at this
      exact u1.ex this
    clear u1 al1 el1 hl1 al2 el2 hl2 s9 sa sb sc2 s8a sac s8c pl8 pr8 pa8 hd1 hd2
    walk_at "rz"
    obtain ⟨es, ee, ke, pe⟩ := u1c
    refine s_lock ⟨d1, dU w d1 es, ee, mut_dU, fun od => ?_⟩
    have ff : Fr [d1] Hc (upd Hc d1 (.frz od (dU w d1 es))) := Fr.upd (by simp) ee tupO_dU
    have ef : upd Hc d1 (.frz od (dU w d1 es)) d1 = some (.frz od (dU w d1 es)) := upd_same
    have unl : ∀ {Hx : Hp}, Same (upd Hc d1 (.frz od (dU w d1 es))) Hx → Same Hc (upd Hx d1 (dU w d1 es)) := fun {Hx} s => same_unlock ee s
    generalize upd Hc d1 (.frz od (dU w d1 es)) = Hf at ff ef unl ⊢
    have u2f : UAt w K Hf d2 (srtF (bf P0 (Ws.first P0 2 rg) j').fd) (fun x => x.1) (fun H v x => Dp K H v (.list (x.2.map dMv))) := u2.keep ff (by simp [d12.symm]) fun v x _ h => moves_keepU ee ff h
    have kf : KeysU K Hf es := ke.tk ff.tk
    have pf : Paired (fun (e : NestedKey × Addr × V) x => e.1 = x.1 ∧ Dp K Hf e.2.2 (.list (x.2.map dMv))) es (srtF (bf P0 (Ws.first P0 1 rg) i').fd) := paired_imp pe fun a y _ ⟨c1, c2⟩ => ⟨c1, moves_keepU ee ff c2⟩
    walk_at "rz"
    refine s_itemsU ?_
    walk_at "rz"
    refine ⟨d1, od, es, rfl, ef, for_it walk_itemsU (fun k σ Hx => (∃ y9 y10, σ = [some (.ref sc), some (.ref r), some (.ref pa), some (.ref pb), some (.int (n : Nat)), some (.ref pr), some (.ref p), some (.ref d1), some (.ref d2), y9, y10]) ∧ Same Hf Hx) ⟨⟨_, _, rfl⟩, Same.refl _⟩ (fun k σ Hx _ ⟨_, sx⟩ => sx _ _ ef) (fun k v σ Hx0 Hx hk ⟨⟨y9, y10, es9⟩, sx0⟩ yy => ?_) (fun σ Hx ⟨⟨y9, y10, es9⟩, sx⟩ => ?_)⟩
    · subst es9
      obtain ⟨tt, xv, yv, rfl, htt, rfl, hx1, hx2⟩ := yy
      have snew : Same Hx0 (upd Hx0 tt (.tup [xv, yv])) := Same.new htt
      have ett : upd Hx0 tt (.tup [xv, yv]) tt = some (.tup [xv, yv]) := upd_same
      generalize upd Hx0 tt (.tup [xv, yv]) = Hx at *
      have sx := sx0.trans snew
      have ek : es[k]? = some es[k] := List.getElem?_eq_getElem hk
      generalize es[k] = e0 at ek
      dsimp only at hx1 hx2
      rw [ek] at hx1 hx2
      obtain rfl : V.ref e0.2.1 = xv := Option.some.inj hx1
      obtain rfl : e0.2.2 = yv := Option.some.inj hx2
      obtain ⟨f, g1, g2, g3⟩ := LiI.paired_get pf ek
      have fin : f ∈ (bf P0 (Ws.first P0 1 rg) i').fd := srtF_mem.mp (List.mem_of_getElem? g1)
      obtain ⟨f1, f2, f3, _⟩ := bok1.fgo f fin
      have kk := kf e0 (List.mem_of_getElem? ek)
      have kx : KeyU K Hx f.1 e0.2.1 := by rw [← g2]; exact kk.tk sx.tk
      obtain ⟨a, ll, ea, ew⟩ := end_word ((Ws.first P0 1 rg).go P0 f.2)
      have db := kx.1
      rw [f1, enN_data, ea] at db
      obtain ⟨_, bs, eb, hbT, hbA⟩ := db.tupI
      cases eb
      cases hbA with | cons c1 hbA => ?_
      cases c1
      refine s_gtup (SqT.of ett) rfl ?_
      walk_at "rz"
      rw [vstr_dec, ew]
      cases hst : ((Ws.first P0 1 rg).go P0 f.2).stuck.isEmpty with
      | false =>
        walk_at "rz"
        exact ⟨⟨_, _, rfl⟩, sx⟩
      | true =>
        obtain ⟨g, gm, ge, gl⟩ := rest_two pok hz h2 fin hst
        have u2x : UAt w K Hx d2 (srtF (bf P0 (Ws.first P0 2 rg) j').fd) (fun x => x.1) (fun H v x => Dp K H v (.list (x.2.map dMv))) := u2f.keep (sx.fr (A := [])) (by simp) fun v x _ h => h.same sx
        walk_at "rz"
        refine s_unotin ?_
        walk_at "rz"
        refine u2x.nin kx ?_
        have hany : ((srtF (bf P0 (Ws.first P0 2 rg) j').fd).any fun x => decide (x.1 = f.1)) = true := List.any_eq_true.mpr ⟨g, srtF_mem.mpr gm, decide_eq_true ge⟩
        rw [hany]
        walk_at "rz"
        refine s_uget ?_
        walk_at "rz"
        refine u2x.got hn2 (srtF_mem.mpr gm) (by rw [ge]; exact kx) fun vw rw => ?_
        obtain ⟨lw, lws, rfl, hS, hM⟩ := L2.Dp.lstI rw
        have llw : lws.length = g.2.length := by rw [hM.len, List.length_map]
        obtain ⟨lm, lms, em, hS2, hM2⟩ := L2.Dp.lstI (g3.same sx)
        have llm : lms.length = f.2.length := by rw [hM2.len, List.length_map]
        rw [em]
        walk_at "rz"
        refine s_lenL hS ?_
        walk_at "rz"
        refine s_lenL hS2 ?_
        walk_at "rz"
        refine ite_f (decide_eq_false (by omega)) ?_
        walk_at "rz"
        exact ⟨⟨_, _, rfl⟩, sx⟩
    subst es9
    refine ⟨sx _ _ ef, ?_⟩
    have sg := unl sx
    have u2g : UAt w K (upd Hx d1 (dU w d1 es)) d2 (srtF (bf P0 (Ws.first P0 2 rg) j').fd) (fun x => x.1) (fun H v x => Dp K H v (.list (x.2.map dMv))) := u2.keep (sg.fr (A := [])) (by simp) fun v x _ h => h.same sg
    have u1g : UAt w K (upd Hx d1 (dU w d1 es)) d1 (srtF (bf P0 (Ws.first P0 1 rg) i').fd) (fun x => x.1) (fun H v x => Dp K H v (.list (x.2.map dMv))) := UAt.keep (R := fun H v (x : NestedKey × List Mv) => Dp K H v (.list (x.2.map dMv))) ⟨es, ee, ke, pe⟩ (sg.fr (A := [])) (by simp) fun v x _ h => h.same sg
    generalize upd Hx d1 (dU w d1 es) = Hg at sg u2g u1g ⊢
    have prg := sg.sqT prc
    have pag := sg.sqT pac
    clear sx ef unl pf kf u2f ff u2 ee ke pe prc pac sg
    walk_at "rz"
    rename_i pz hpz Hz sz ez
    refine s_eq0T (sz.sqT prg) (SqT.of ez) ?_
    have er : (rg.map V.str).isEmpty = rg.isEmpty := by cases rg <;> rfl
    rw [er]
    have u2z : UAt w K Hz d2 (srtF (bf P0 (Ws.first P0 2 rg) j').fd) (fun x => x.1) (fun H v x => Dp K H v (.list (x.2.map dMv))) := u2g.keep (sz.fr (A := [])) (by simp) fun v x _ h => h.same sz
    have u1z : UAt w K Hz d1 (srtF (bf P0 (Ws.first P0 1 rg) i').fd) (fun x => x.1) (fun H v x => Dp K H v (.list (x.2.map dMv))) := u1g.keep (sz.fr (A := [])) (by simp) fun v x _ h => h.same sz
    have paz := sz.sqT pag
    clear u2g u1g prg pag sz ez hpz
    cases hrg : rg.isEmpty with
    | false =>
      have p1 := h1.pos pok so1
      have p2 := h2.pos pok so2
      have q1 : (srtF (bf P0 (Ws.first P0 1 rg) i').fd).length = (bf P0 (Ws.first P0 1 rg) i').fd.length := (List.mergeSort_perm _ _).length_eq
      have q2 : (srtF (bf P0 (Ws.first P0 2 rg) j').fd).length = (bf P0 (Ws.first P0 2 rg) j').fd.length := (List.mergeSort_perm _ _).length_eq
      walk_at "rz"
      refine u1z.len ?_
      walk_at "rz"
      rw [decide_eq_true (by omega)]
      walk_at "rz"
      refine u2z.len ?_
      walk_at "rz"
      rw [decide_eq_true (by omega)]
      exact q _
    | true =>
      obtain rfl : rg = [] := List.isEmpty_iff.mp hrg
      have e1 := bf_nil P0 1 h1
      have e2 := bf_nil P0 2 h2
      rw [e1, srtF_one] at u1z
      rw [e2, srtF_one] at u2z
      obtain ⟨es2, ee2, ke2, pe2⟩ := u2z
      obtain ⟨es1, ee1, ke1, pe1⟩ := u1z
      cases pe2 with | @cons x2 _ _ _ hx2 pe2 => ?_
      cases pe2
      cases pe1 with | @cons x1 _ _ _ hx1 pe1 => ?_
      cases pe1
      walk_at "rz"
      refine ⟨d2, [x2], rfl, ee2, ke2, fun ql hql => ?_⟩
      generalize eH : upd Hz ql _ = H1
      have s1 := newS hql eH
      have el := newE eH
      clear eH
      have kd := (keys_dp ke2).same s1
      have dx2 : x2.1.data = .tuple [.str "rest", .tuple [], .tuple (List.replicate P0.ls.length (PyData.int 0))] := by rw [hx2.1]; exact enN_nil P0 2
      have e12 : x2.1 = x1.1 := by
        rw [hx2.1, hx1.1]
        show enN (Ws.first P0 2 []) = enN (Ws.first P0 1 [])
        rw [← ext_first, ext_enN]
      walk_at "rz"
      rename_i pA hpA HA sA eA pB hpB HB sB eB
      refine s_lenT (((s1.trans sA).trans sB).sqT paz) ?_
      rw [lla]
      refine s_repU (SqT.of eB) (by simp) (by omega) (by omega) (by simp) fun pC HC sC eC => ?_
      rw [Int.toNat_natCast, List.flatten_replicate_singleton] at eC
      have eC' : SqT K HC pC ((List.replicate P0.ls.length (0 : Int)).map V.int) := by
        rw [List.map_replicate]
        exact eC
      walk_at "rz"
      rename_i pD hpD HD sD eD pE hpE HE sE eE
      have sAE := ((sB.trans sC).trans sD).trans sE
      have sh := nil_shaped P0.ls.length l12
      have dd : DpAll K HE (List.map (fun x : NestedKey × Addr × V => V.ref x.2.1) [x2]) [.tuple [.str "rest", .tuple [], .tuple (List.replicate P0.ls.length (PyData.int 0))]] := by
        rw [← dx2]
        exact (kd.same sA).same sAE
      refine ⟨_, _, .lst (SqL.of (sAE _ _ (sA _ _ el))) dd, .lst (SqL.of eE) (.cons (.tup (SqT.of (sE _ _ eD)) (.cons (.str _) (.cons (.tup (SqT.of (sAE _ _ eA)) .nil) (.cons (.tup ((sD.trans sE).sqT eC') (by have := dp_intsW (K := K) (H := HE) (List.replicate P0.ls.length (0 : Int)); rw [List.map_replicate (f := PyData.int)] at this; exact this)) .nil)))) .nil), sh, sh, ?_⟩
      rw [shaped_eqvW sh]
      have szE := (s1.trans sA).trans sAE
      walk_at "rz"
      refine ⟨d2, d1, [x2], [x1], rfl, rfl, szE _ _ ee2, szE _ _ ee1, fun x hx => ⟨(ke2 x hx).1.same szE, (ke2 x hx).2⟩, fun x hx => ⟨(ke1 x hx).1.same szE, (ke1 x hx).2⟩, rfl, fun e he => ?_, ?_⟩
      · rw [List.mem_singleton.mp he]
        exact ⟨x1, List.mem_singleton.mpr rfl, e12, .list [], .list [], hx2.2.same szE, hx1.2.same szE, by decide +kernel, by decide +kernel, by decide +kernel⟩
      · exact q _
end
end T
set_option maxHeartbeats 0
namespace Z
open PySem PySem.Spec PyProof.Rows L2
theorem walkEX {l : PySem.W.OpenLaw} {n k : Nat} {q : Program} {ls : List Str} {XP : (Str → Option Value) → Heap → Prop} {YP : World → Heap → Prop} {d : DefRec} {x : Str} (hn : l.most = some n) (hz : n ≤ sizeLine) (hdf : d.params.defaults = []) (room : Room k callerA)
    (F : ∀ (w : World) (mg : Str → Option Value) (f : Addr) (h : Heap), YP w h → h.Ns mainGlobals mg → mg d.name = some (.ref f) → ∃ (K : Fg) (fd : FuncData) (sp : Sp), K.In h ∧ (∀ (s : Shared) (u : Value), BindsTo s fd ⟨[u], []⟩ [(x, u)]) ∧
      (∀ (H : Hp) (a : Addr) (ns : List Int), ns.length ≤ n → SqL K H a (ns.map V.int) → sp [.ref a] H (fun v _ => v = .bl true) fun _ _ _ => False) ∧ ∀ base : Heap, K.In base → base.Ns mainGlobals mg → FnOk l.prog w K mg base (L2.CX l.prog w) k f fd [x] sp) :
    PySem.W.WalkO q ls XP YP l.row.toRowW d [] (fun f vs => PySem.call f vs) := by
  refine Att.attach_call hn hdf fun w _ s1 mg _ f _ _ _ _ a _ ns G Y _ _ _ hm ho hi hl hg => ?_
  obtain ⟨K, fd, sp, KX, hb, hsp, hF⟩ := F w mg f _ Y G.T.g hm
  refine law_call KX G.T.g G.T.b G.T.builtins G.T.nolimit hg ho hi (Nat.le_trans hl hz) room hF hb (fun H _ hS => hsp H a ns hl hS) fun H e s' z => ?_
  obtain ⟨_, _, _, _, _, _, _, _, _, _, _, _, z⟩ := z
  exact z
end Z
namespace T
open PySem PySem.Spec PyProof.Rows L2 Z
open He (ga ma)
theorem facts {P : Program} {w : World} {K : Fg} {h : Heap} {mg : Str → Option Value} {f : Addr} (X : K.In h) (G : h.Ns mainGlobals mg) (hfa : mg ("law" : Str) = some (.ref f)) (c : SaysZ fa fn K) :
    ∃ fd : FuncData, (∀ (s : Shared) (v : Value), BindsTo s fd ⟨[v], []⟩ [("_law_script", v)]) ∧ ∀ base : Heap, K.In base → base.Ns mainGlobals mg → FnOk P w K mg base (L2.CX P w) 32 f fd ["_law_script"] (spLaw K) := by
  have T := txt_of X G c
  have e := hfa.symm.trans T.g_law
  cases e
  have b := FunD.bindsA (ps := ["_law_script"]) T.F_law fun _ _ _ _ _ _ us hl => match us, hl with | [_], _ => rfl
  exact ⟨_, fun s v => b s [v] rfl, fun base _ _ => ok_law T⟩
end T
open PySem PySem.W PySem.Calls PyProof.Rows
theorem PySem.Challenge.cw_callbells_k76_whole_more_processors_holds : PySem.Challenge.rw_callbells_k76_whole_more_processors.Holds := by
  w_on; o_law
  refine HandSHeadRun.head_any (r := OpenLaw.row PySem.Challenge.rw_callbells_k76_whole_more_processors) (q := view (OpenLaw.row PySem.Challenge.rw_callbells_k76_whole_more_processors).prog [57]) (H := T.hk) (ob := T.ob) (M := 9000) (loose := T.names) (d := HandSHeadRun.topDef (OpenLaw.row PySem.Challenge.rw_callbells_k76_whole_more_processors).prog 57) (kwd := []) T.ob_eq
    (by kernel_rfl) (fun s => by kernel_rfl) T.run (by kernel_rfl) (by kernel_rfl) (by kernel_rfl) (by rfl) (by first | assumption | decide +kernel) (by decide +kernel) ⟨rfl, rfl, rfl, rfl, rfl, by decide +kernel⟩ ?hw ?hc
  case hw => w_witness2
  case hc =>
    refine Z.walkEX (l := PySem.Challenge.rw_callbells_k76_whole_more_processors) (n := 63) (k := 32) (x := "_law_script") rfl (by decide) (by kernel_rfl) ⟨rfl, by decide, by decide⟩ ?_
    intro w mg f h Y G hm0
    obtain ⟨K, KX, c⟩ := Y
    have hm : mg ("law" : PySem.Str) = some (.ref f) := by
      have e : (HandSHeadRun.topDef (OpenLaw.row PySem.Challenge.rw_callbells_k76_whole_more_processors).prog 57).name = ("law" : PySem.Str) := by kernel_rfl
      rw [← e]
      exact hm0
    obtain ⟨fd, hb, hF⟩ := T.facts (P := (PySem.Challenge.rw_callbells_k76_whole_more_processors).prog) (w := w) KX G hm c
    exact ⟨K, fd, T.spLaw K, KX, hb, fun H a ns hl hS => ⟨a, ns, rfl, hS, fun _ => rfl⟩, hF⟩
