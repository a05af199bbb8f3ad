import PyProof.Rows.All
import Wide.All
import OpenK.AllK
import Wide.FinOn
import KE.KStateDown
import HandS.ForMost
import HandS.Walk
import HandS.Star
import HandS.DictComp
import HandS.Defaults
import HandS.Property
import HandS.ClsMeth
import HandS.IsInst
import HandS.Flow
import HandS.Deep
import HandS.NoneIn
import HandS.Sort
import HandS.SortRule
import HandS.TupAny
import HandS.Wide
import HandS.WordsExc
import HandS.Head2
import HandS.HeadEnd
import HandS.HeadHook2
import KE.GoesEnum
import KE.GoesMore
import KE.DataFind
import KE.SortData
import HandS.SetFor
import HandS.TryOnly
import KE.KTupSum
import HandS.More
import HandS.Dict
import HandS.Style
import HandS.SetTxt0
import HandS.Strs
import HandS.MakeKwOnly
import KE.DataMinMax
import KE.KCallOwn
import HandS.ListItems
import KE.KDictList
import HandS.Lambda
import HandS.HeadHook4
import OpenK.KOps
import HandS.Text
import HandS.RaiseMore
import HandS.ExcIs
import HandS.ExcField
import HandS.ExcInit
import HandS.ExcOwn
import KE.KExcIs
import HandS.FStr
import KE.SortLaws
import HandS.Conv
import PySem.Challenge.RW_callbells_k03_texts_of_set_ups
set_option Elab.async false
set_option linter.all false
set_option maxRecDepth 100000
set_option maxHeartbeats 1000000
namespace Z
open PySem PySem.Spec PyProof.Rows L2
abbrev Fg := PySem.W.Frag
def fd0 : FuncData := PySem.W.fnOf "" "" (defArgs (.Pass ⟨0, 0, 0, 0⟩)) [] (defScope (.Pass ⟨0, 0, 0, 0⟩)) .none .none .none .none none .none .none
def fdOf (K : Fg) (a : Addr) : FuncData := match K.lookup a with
 | some ⟨_, _, .func fd, _⟩ => fd
 | _ => fd0
theorem fdOf_eq {K : Fg} {x q : Str} {pa : Arguments} {bd : List Stmt} {sc : Scope} {dv : List V} {kw : List (Str × V)} {f : Addr} {fd : FuncData} (F : FunD K x q pa bd sc dv kw f fd) : fdOf K f = fd := by
 obtain ⟨⟨oc, od, dV, kV, doc, pm, an, cdv, ct, osl, e, lk, _⟩, _⟩ := F
 unfold fdOf
 rw [lk]
structure Cal (K : Fg) (f : Addr) (ps : List Str) (dvs : List V) : Prop where
 kp : PySem.W.keepIn K (.ref f) = true
 b : ∃ ds, Binds K (fdOf K f) ps ds ∧ Vals dvs ds
section
variable {X : Cx} {k : Nat} {f C p0 : Addr} {ps : List Str} {sp : Sp} {dvs : List V} {x m : Str} {p pos apos : Pos} {e o i : Expr} {es : List Expr} {ta tb : TE} {t : TA} {E : XK}
abbrev FnX (X : Cx) (k : Nat) (f : Addr) (ps : List Str) (sp : Sp) : Prop := FnOk X.prog X.w X.K X.mg X.base (L2.CX X.prog X.w) k f (fdOf X.K f) ps sp
theorem z_call (F : FnX X k f ps sp) (c : Cal X.K f ps dvs) (hr : Room k X.A) (hg : Gl X x) (hm : X.mg x = some (.ref f)) (hx : Passes (L2.CX X.prog X.w) X E) (ha : PA X (e :: es) t) (hdb : (x == ("__debug__" : Str)) = false := by decide)
  (he : starEach (e :: es) X.env = (false, eval e X.env) :: starEach es X.env := by rfl) (hpl : (backTo pos (starEach es X.env)).any (·.1) = false := by rfl) : PE X (.Call (.Name x p) (e :: es) [] pos) (tCall sp dvs E t) := by
 obtain ⟨ds, hb, hd⟩ := c.b
 exact pe_call F hr hg hm c.kp hb hd hx ha hdb he hpl
theorem z_meth {pl : Sem Bool} (he : PE X o ta) (cl : Cls X.K C) (hm : Meth X.K C m f) (F : FnX X k f ps sp) (c : Cal X.K f ps dvs) (hr : Room k X.A) (hx : Passes (L2.CX X.prog X.w) X E) (ha : PA X (e :: es) t)
  (hst : starEach (e :: es) X.env = (false, eval e X.env) :: starEach es X.env := by rfl) (hpl : (backTo pos (starEach es X.env)).any (·.1) = false := by rfl)
  (ht : eval (.Call (.Attribute o m apos) (e :: es) [] pos) X.env = (do
   let ov ← eval o X.env
   standAt apos.atName
   let (f, first) ← holding [ov] (getMethod ov m pl)
   callWith pos f first (backTo pos (starEach (e :: es) X.env)) (backToKw pos (keywordEach [] X.env))) := by rfl) :
  PE X (.Call (.Attribute o m apos) (e :: es) [] pos) (tMeth C m sp dvs E ta t) := by
 obtain ⟨ds, hb, hd⟩ := c.b
 exact pe_meth he cl hm F hr hb hd hx ha hst hpl ht
theorem z_meth0 {pl : Sem Bool} (he : PE X o ta) (cl : Cls X.K C) (hm : Meth X.K C m f) (F : FnX X k f ps sp) (c : Cal X.K f ps dvs) (hr : Room k X.A) (hx : Passes (L2.CX X.prog X.w) X E)
  (ht : eval (.Call (.Attribute o m apos) [] [] pos) X.env = (do
   let ov ← eval o X.env
   standAt apos.atName
   let (f, first) ← holding [ov] (getMethod ov m pl)
   callWith pos f first (backTo pos (starEach [] X.env)) (backToKw pos (keywordEach [] X.env))) := by rfl) :
  PE X (.Call (.Attribute o m apos) [] [] pos) (tMeth C m sp dvs E ta tNil) := by
 obtain ⟨ds, hb, hd⟩ := c.b
 exact pe_meth0 he cl hm F hr hb hd hx ht
theorem z_make (M : Mk X.K C f) (F : FnX X k f ps sp) (c : Cal X.K f ps dvs) (hr : Room (k + 1) X.A) (hg : Gl X x) (hm : X.mg x = some (.ref C)) (hx : Passes (L2.CX X.prog X.w) X E) (ha : PA X (e :: es) t) (hdb : (x == ("__debug__" : Str)) = false := by decide)
  (he : starEach (e :: es) X.env = (false, eval e X.env) :: starEach es X.env := by rfl) (hpl : (backTo pos (starEach es X.env)).any (·.1) = false := by rfl) : PE X (.Call (.Name x p) (e :: es) [] pos) (tMake C sp dvs E t) := by
 obtain ⟨ds, hb, hd⟩ := c.b
 exact pe_make M F hr hg hm hb hd hx ha hdb he hpl
theorem z_prop (he : PE X e ta) (cl : Cls X.K C) (hp : PropOf X.K C m p0 f) (F : FnX X k f ps sp) (c : Cal X.K f ps []) (hr : Room (k + 1) X.A) (hab : attributeBase e m X.env (eval e X.env) = eval e X.env) : PE X (.Attribute e m pos) (tProp C sp [] E0 ta) := by
 obtain ⟨ds, hb, hd⟩ := c.b
 exact pe_prop he cl hp F hr hb hd passL hab
theorem run_in0 {pins : List (Addr × Obj)} {σ : L2.St} {H : Hp} {s : Shared} {Q : VK} {us : List Value} {vs : List V} (F : FnX X k f ps sp) (c : Cal X.K f ps []) (hr : Room k X.A) (hx : Passes (L2.CX X.prog X.w) X E)
  (I : Inv X pins σ H s) (r : Vals vs us) (h : sp vs H Q E) : wpAny (model X.prog X.w) X.A (call (.ref f) us) (EP X pins σ Q) X.xe s := by
 obtain ⟨ds, hb, hd⟩ := c.b
 cases hd
 have h' : sp (vs ++ []) H Q E := by rw [List.append_nil]; exact h
 exact run_fn F hr hb .nil hx I r h'
def tIxO (C : Addr) (sp : Sp) (E : XK) (ta tb : TE) : TE := fun σ H Q => ta σ H fun x H1 => tb σ H1 fun y H2 => ∃ a dx fs, x = .ref a ∧ H2 a = some (.ins C dx fs) ∧ sp [.ref a, y] H2 Q E
end
end Z
set_option maxHeartbeats 1000000
namespace L2
open PySem PySem.Spec PyProof.Rows Z
def Kp (A : List Addr) (H H' : Hp) : Prop := ∀ a o, H a = some o → a ∉ A → H' a = some o
theorem Same.kp {H H' : Hp} {A : List Addr} (s : Same H H') : Kp A H H' := fun a o h _ => s a o h
theorem Kp.refl {A : List Addr} {H : Hp} : Kp A H H := fun _ _ h _ => h
theorem Kp.nil {H H' : Hp} (k : Kp [] H H') : Same H H' := fun a o h => k a o h (by simp)
theorem Kp.mono {A B : List Addr} {H H' : Hp} (k : Kp A H H') (s : ∀ a ∈ A, a ∈ B) : Kp B H H' := fun a o h n => k a o h fun z => n (s a z)
theorem Kp.trans {A : List Addr} {H H1 H2 : Hp} (a : Kp A H H1) (b : Kp A H1 H2) : Kp A H H2 := fun c o h n => b c o (a c o h n) n
theorem Same.new {H : Hp} {p : Addr} {o : HO} (h : H p = none) : Same H (upd H p o) := fun a u e => by
 rw [upd_ne (ne_of_none e h)]
 exact e
theorem Same.sqT {K : Fg} {H H' : Hp} {a : Addr} {xs : List V} (e : Same H H') (h : SqT K H a xs) : SqT K H' a xs := by
 rcases h with (h | ⟨o, h⟩) | h
 ·exact .inl (.inl (e _ _ h))
 ·exact .inl (.inr ⟨o, e _ _ h⟩)
 ·exact .inr h
def Tk (H H' : Hp) : Prop := ∀ a, ((∃ xs, H a = some (.tup xs)) ∨ ∃ o u, H a = some (.frz o u)) → H' a = H a
theorem Tk.refl (H : Hp) : Tk H H := fun _ _ => rfl
theorem Tk.trans {H H1 H2 : Hp} (a : Tk H H1) (b : Tk H1 H2) : Tk H H2 := fun c h => by
 have e := a c h
 have h1 : (∃ xs, H1 c = some (.tup xs)) ∨ ∃ o u, H1 c = some (.frz o u) := by
  rw [e]
  exact h
 rw [b c h1, e]
theorem Same.tk {H H' : Hp} (s : Same H H') : Tk H H' := fun a h => by
 rcases h with ⟨xs, h⟩ | ⟨o, u, h⟩ <;> rw [h, s a _ h]
theorem Tk.sqT {K : Fg} {H H' : Hp} {a : Addr} {xs : List V} (e : Tk H H') (h : SqT K H a xs) : SqT K H' a xs := by
 rcases h with (h | ⟨o, h⟩) | h
 ·exact .inl (.inl (by rw [e a (.inl ⟨_, h⟩)]; exact h))
 ·exact .inl (.inr ⟨o, by rw [e a (.inr ⟨_, _, h⟩)]; exact h⟩)
 ·exact .inr h
mutual
theorem Dp.same {K : Fg} {H H' : Hp} (e : Same H H') : ∀ {v : V} {d : PyData}, Dp K H v d → Dp K H' v d
 | _, _, .non => .non
 | _, _, .bl b => .bl b
 | _, _, .int i => .int i
 | _, _, .str x => .str x
 | _, _, .lst s a => .lst (e.seq s) (DpAll.same e a)
 | _, _, .tup s a => .tup (e.sqT s) (DpAll.same e a)
theorem DpAll.same {K : Fg} {H H' : Hp} (e : Same H H') : ∀ {v : List V} {d : List PyData}, DpAll K H v d → DpAll K H' v d
 | _, _, .nil => .nil
 | _, _, .cons a b => .cons (Dp.same e a) (DpAll.same e b)
end
mutual
def tupd : PyData → Bool
 | .none => true
 | .bool _ => true
 | .int _ => true
 | .str _ => true
 | .list _ => false
 | .tuple xs => tupds xs
 | .dict _ => false
def tupds : List PyData → Bool
 | [] => true
 | d :: ds => tupd d && tupds ds
end
mutual
theorem Dp.tk {K : Fg} {H H' : Hp} (e : Tk H H') : ∀ {v : V} {d : PyData}, tupd d = true → Dp K H v d → Dp K H' v d
 | _, _, _, .non => .non
 | _, _, _, .bl b => .bl b
 | _, _, _, .int i => .int i
 | _, _, _, .str x => .str x
 | _, _, h, .lst s a => by unfold tupd at h; cases h
 | _, _, h, .tup s a => .tup (e.sqT s) (DpAll.tk e (by unfold tupd at h; exact h) a)
theorem DpAll.tk {K : Fg} {H H' : Hp} (e : Tk H H') : ∀ {v : List V} {d : List PyData}, tupds d = true → DpAll K H v d → DpAll K H' v d
 | _, _, _, .nil => .nil
 | _, _, h, .cons a b => by
  unfold tupds at h
  obtain ⟨h1, h2⟩ := Bool.and_eq_true_iff.mp h
  exact .cons (Dp.tk e h1 a) (DpAll.tk e h2 b)
end
theorem DpAll.len {K : Fg} {H : Hp} : ∀ {v : List V} {d : List PyData}, DpAll K H v d → v.length = d.length
 | _, _, .nil => rfl
 | _, _, .cons _ b => by rw [List.length_cons, List.length_cons, DpAll.len b]
theorem DpAll.get {K : Fg} {H : Hp} : ∀ {v : List V} {d : List PyData} {i : Nat} {x : PyData}, DpAll K H v d → d[i]? = some x → ∃ y, v[i]? = some y ∧ Dp K H y x
 | _, _, i, _, .nil, h => by simp at h
 | _, _, 0, _, .cons a _, h => by
  simp at h
  subst h
  exact ⟨_, rfl, a⟩
 | _, _, i + 1, _, .cons _ b, h => by
  obtain ⟨y, h1, h2⟩ := DpAll.get (i := i) b (by simpa using h)
  exact ⟨y, by simpa using h1, h2⟩
theorem DpAll.getv {K : Fg} {H : Hp} : ∀ {v : List V} {d : List PyData} {i : Nat} {y : V}, DpAll K H v d → v[i]? = some y → ∃ x, d[i]? = some x ∧ Dp K H y x
 | _, _, i, _, .nil, h => by simp at h
 | _, _, 0, _, .cons a _, h => by
  simp at h
  subst h
  exact ⟨_, rfl, a⟩
 | _, _, i + 1, _, .cons _ b, h => by
  obtain ⟨y, h1, h2⟩ := DpAll.getv (i := i) b (by simpa using h)
  exact ⟨y, by simpa using h1, h2⟩
theorem DpAll.app {K : Fg} {H : Hp} : ∀ {v u : List V} {d e : List PyData}, DpAll K H v d → DpAll K H u e → DpAll K H (v ++ u) (d ++ e)
 | _, _, _, _, .nil, s => s
 | _, _, _, _, .cons a b, s => .cons a (DpAll.app b s)
theorem DpAll.take {K : Fg} {H : Hp} : ∀ {v : List V} {d : List PyData} (n : Nat), DpAll K H v d → DpAll K H (v.take n) (d.take n)
 | _, _, 0, _ => .nil
 | _, _, _ + 1, .nil => .nil
 | _, _, n + 1, .cons a b => .cons a (DpAll.take n b)
theorem DpAll.drop {K : Fg} {H : Hp} : ∀ {v : List V} {d : List PyData} (n : Nat), DpAll K H v d → DpAll K H (v.drop n) (d.drop n)
 | _, _, 0, r => r
 | _, _, _ + 1, .nil => .nil
 | _, _, n + 1, .cons _ b => DpAll.drop n b
theorem Dp.tupI {K : Fg} {H : Hp} {v : V} {ds : List PyData} (h : Dp K H v (.tuple ds)) : ∃ a xs, v = .ref a ∧ SqT K H a xs ∧ DpAll K H xs ds := by
 cases h with
 | tup s a => exact ⟨_, _, rfl, s, a⟩
def tyD : PyData → String
 | .none => "NoneType"
 | .bool _ => "bool"
 | .int _ => "int"
 | .str _ => "str"
 | .list _ => "list"
 | .tuple _ => "tuple"
 | .dict _ => "dict"
theorem Dp.ty {K : Fg} {H : Hp} {v : V} {d : PyData} (h : Dp K H v d) : TyX K H v (.type (tyD d)) := by
 cases h with
 | non => exact .base .non
 | bl b => exact .base (.bl b)
 | int i => exact .base (.int i)
 | str x => exact .base (.str x)
 | lst s a =>
  rcases s with (s | ⟨o, s⟩) | ⟨o, its, n, e, c, _⟩
  ·exact .base (.lst s)
  ·exact .base (.frz s)
  ·exact .kList e c
 | tup s a =>
  rcases s with (s | ⟨o, s⟩) | ⟨o, its, n, e, c, _⟩
  ·exact .base (.tup s)
  ·exact .fTuple s
  ·exact .kTuple e c
def isiT (T t : String) : Bool := T == t || (T == "int" && t == "bool")
def isiB (T : String) (d : PyData) : Bool := isiT T (tyD d)
theorem isi_kit {K : Fg} {T : String} {d : PyData} (hT : T ∈ ["int", "bool", "str", "tuple", "list"]) : PySem.W.kitOne K (.type (tyD d)) (.type T) = some (isiB T d) := by
 have ht : tyD d ∈ ["NoneType", "bool", "int", "str", "list", "tuple", "dict"] := by cases d <;> simp [tyD]
 unfold isiB
 generalize tyD d = t at ht
 have all : ∀ T ∈ ["int", "bool", "str", "tuple", "list"], ∀ t ∈ ["NoneType", "bool", "int", "str", "list", "tuple", "dict"], kitB t T = some (isiT T t) := by decide +kernel
 exact kit_ty (all T hT t ht)
section
variable {X : Cx}
def rIsiD (K : Fg) : List V → Hp → VK → Prop := fun xs H Q => ∃ (x : V) (T : String) (d : PyData), xs = [x, .ty T] ∧ Dp K H x d ∧ T ∈ ["int", "bool", "str", "tuple", "list"] ∧ Q (.bl (isiB T d)) H
theorem call_isiD : CallR X (.builtin "isinstance") (rIsiD X.K) := by
 intro pins s σ H xs us Q I r h
 obtain ⟨x, T, d, e, hd, hT, q⟩ := h
 exact call_isi pins s σ H xs us Q I r ⟨x, .ty T, _, _, _, e, .ty T, hd.ty, isi_kit hT, q⟩
end
end L2
set_option maxHeartbeats 1000000
namespace Z
open PySem PySem.Spec PyProof.Rows L2
def pga (K : Fg) (C : Addr) (f : Str) : Addr := match PySem.W.recIn K (He.ma K C f) "property" with
 | some (.ref g :: _) => g
 | _ => 0
structure DefZ where
 at_ : Fg → Addr
 name : Str
 qual : Str
 st : Stmt
 dfl : List He.Dv := []
def DefZ.see (K : Fg) (a : Addr) : He.FnW := match K.lookup a with
 | some ⟨_, _, .func z, _⟩ => some (z.name, z.qualname, z.params, z.body, z.scope, z.globals, z.closure, z.builtins)
 | _ => none
def DefZ.due (d : DefZ) : He.FnW := some (d.name, d.qual, defArgs d.st, .stmts (defBody d.st), defScope d.st, mainGlobals, [], builtinsNs)
def DefZ.good (K : Fg) (d : DefZ) : Bool := PySem.W.keepIn K (.ref (d.at_ K)) && (match K.lookup (d.at_ K) with
 | some ⟨_, _, .func z, _⟩ => PySem.W.codeIn K z.code d.qual && He.dflB K z.defaults (d.dfl.map (He.Dv.v K))
 | _ => false)
abbrev FunZ (K : Fg) (d : DefZ) : Prop := FunD K d.name d.qual (defArgs d.st) (defBody d.st) (defScope d.st) (d.dfl.map (He.Dv.v K)) [] (d.at_ K) (fdOf K (d.at_ K))
theorem DefZ.fun {K : Fg} {d : DefZ} (e : DefZ.see K (d.at_ K) = d.due) (c : d.good K = true) : FunZ K d := by
 obtain ⟨kp, c2⟩ := He.ba c
 have go : ∃ fd, FunD K d.name d.qual (defArgs d.st) (defBody d.st) (defScope d.st) (d.dfl.map (He.Dv.v K)) [] (d.at_ K) fd := by
  unfold DefZ.see at e
  cases q : K.lookup (d.at_ K) with
  | none =>
   rw [q] at c2
   cases c2
  | some o =>
   obtain ⟨oc, od, dt, osl⟩ := o
   rw [q] at c2 e
   cases dt with
   | func fd =>
    obtain ⟨n1, n2, n3, n4, n5, n6, n7, n8, n9, n10, n11, n12, n13, n14, n15⟩ := fd
    have e2 : (some (n1, n2, n3, n4, n5, n6, n7, n15) : He.FnW) = some (d.name, d.qual, defArgs d.st, .stmts (defBody d.st), defScope d.st, mainGlobals, [], builtinsNs) := e
    simp only [Option.some.injEq, Prod.mk.injEq] at e2
    obtain ⟨h1, h2, h3, h4, h5, h6, h7, h8⟩ := e2
    subst h1 h2 h3 h4 h5 h6 h7 h8
    obtain ⟨k1, k3⟩ := He.ba (show (PySem.W.codeIn K n13 d.qual && He.dflB K n8 (d.dfl.map (He.Dv.v K))) = true from c2)
    exact ⟨_, ⟨oc, od, n8, n9, n10, n11, n12, n13, n14, osl, rfl, q, k1, He.dflB_ok k3, .inl rfl⟩, kp⟩
   | _ => cases c2
 obtain ⟨fd, F⟩ := go
 show FunD K d.name d.qual (defArgs d.st) (defBody d.st) (defScope d.st) (d.dfl.map (He.Dv.v K)) [] (d.at_ K) (fdOf K (d.at_ K))
 rw [fdOf_eq F]
 exact F
abbrev Seen : Type := Bool × List He.FnW
def lookZ (fa : List (Fg → Bool)) (fn : List DefZ) (K : Fg) : Seen := ((fa.all fun f => f K) && fn.all fun d => d.good K, fn.map fun d => DefZ.see K (d.at_ K))
def SaysZ (fa : List (Fg → Bool)) (fn : List DefZ) (K : Fg) : Prop := lookZ fa fn K = (true, fn.map DefZ.due)
theorem SaysZ.fact {fa : List (Fg → Bool)} {fn : List DefZ} {K : Fg} (c : SaysZ fa fn K) (i : Nat) {f : Fg → Bool} (h : fa[i]? = some f) : f K = true := by
 have c1 := (He.ba (show ((fa.all fun f => f K) && fn.all fun d => d.good K) = true from congrArg (fun z : Seen => z.1) c)).1
 exact List.all_eq_true.mp c1 f (List.mem_of_getElem? h)
theorem SaysZ.def_ {fa : List (Fg → Bool)} {fn : List DefZ} {K : Fg} (c : SaysZ fa fn K) (i : Nat) {d : DefZ} (h : fn[i]? = some d) : FunZ K d := by
 have c2 := (He.ba (show ((fa.all fun f => f K) && fn.all fun d => d.good K) = true from congrArg (fun z : Seen => z.1) c)).2
 have e : fn.map (fun d => DefZ.see K (d.at_ K)) = fn.map DefZ.due := congrArg (fun z : Seen => z.2) c
 have e2 : (fn.map fun d => DefZ.see K (d.at_ K))[i]? = (fn.map DefZ.due)[i]? := by rw [e]
 rw [List.getElem?_map, List.getElem?_map, h] at e2
 exact DefZ.fun (Option.some.inj e2) (List.all_eq_true.mp c2 d (List.mem_of_getElem? h))
open He (ga ma)
def fGlo (x : Str) (K : Fg) : Bool := He.Fa.ok K (.glo x)
def fFree (x : Str) (K : Fg) : Bool := He.Fa.ok K (.free x)
def fInt (x : Str) (i : Int) (K : Fg) : Bool := He.Fa.ok K (.int x i)
def fStr (x z : Str) (K : Fg) : Bool := He.Fa.ok K (.str x z)
def fCls (x : Str) (K : Fg) : Bool := He.Fa.ok K (.cls x)
def fNo (x f : Str) (K : Fg) : Bool := He.Fa.ok K (.noat x f)
def fMeth (x m : Str) (K : Fg) : Bool := He.Fa.ok K (.meth x m)
def fMk (x : Str) (K : Fg) : Bool := He.Fa.ok K (.mkr x)
def fTup (x : Str) (vs : List He.Dv) (K : Fg) : Bool := He.tupB K x vs
def fProp (x f : Str) (K : Fg) : Bool := decide (PySem.W.findIn K (.ref (ga K x)) f = some (some (.ref (ma K (ga K x) f)))) && decide (PySem.W.specialIn K (.ref (ma K (ga K x) f)) "__get__" = some (some (.builtin "property.__get__"))) &&
 decide (PySem.W.takesIn K (.ref (ma K (ga K x) f)) = some true) && (match PySem.W.recIn K (ma K (ga K x) f) "property" with
 | some (.ref _ :: _) => true
 | _ => false)
theorem fProp_ok {K : Fg} {x f : Str} (h : fProp x f K = true) : PropOf K (ga K x) f (ma K (ga K x) f) (pga K (ga K x) f) := by
 unfold fProp at h
 simp only [Bool.and_eq_true, decide_eq_true_eq] at h
 obtain ⟨⟨⟨h1, h2⟩, h3⟩, h4⟩ := h
 refine ⟨h1, h2, h3, ?_⟩
 unfold pga
 split at h4
 ·rename_i g r e
  rw [e]
  exact ⟨r, rfl⟩
 ·cases h4
def dfA (f : Fg → Addr) (i : Nat) (K : Fg) : Addr := match K.lookup (f K) with
 | some ⟨_, _, .func z, _⟩ => (match z.defaults with
  | .ref T => (match K.lookup T with
   | some ⟨_, _, .seq its _, _⟩ => (match its.toList[i]? with
    | some (.ref a) => a
    | _ => 0)
   | _ => 0)
  | _ => 0)
 | _ => 0
theorem calD {K : Fg} {d : DefZ} {ps : List Str} (F : FunZ K d) (n : Nat) (hd : d.dfl.map (He.Dv.v K) ≠ []) (hn : n + 0 = ps.length)
  (h : ∀ (T : Addr) (kV doc pm : Value) (an : Option Addr) (cdv ct : Value) (us its : List Value), us.length = n → its.length = (d.dfl.map (He.Dv.v K)).length →
   ∃ k, bindArgs (PySem.W.fnOf d.name d.qual (defArgs d.st) (defBody d.st) (defScope d.st) (.ref T) kV doc pm an cdv ct) ⟨us, []⟩ = seqItems? (.ref T) >>= k ∧ k (some its.toArray) = pure (ps.zip us)) : Cal K (d.at_ K) ps [] := by
 obtain ⟨ds, hv, hb⟩ := FunD.binds1 (ps := ps) F n (d.dfl.map (He.Dv.v K)).length hd (by rw [Nat.sub_self]; exact hn) (fun T kV doc pm an cdv ct us its h1 h2 => by
  obtain ⟨k, e1, e2⟩ := h T kV doc pm an cdv ct us its h1 h2
  refine ⟨k, e1, ?_⟩
  rw [e2, List.drop_eq_nil_of_le (by omega), List.append_nil])
 rw [List.drop_eq_nil_of_le (Nat.le_refl _)] at hv
 exact ⟨F.kp, ds, hb, hv⟩
def ClsI (K : Fg) (C : Addr) (f : Str) (n : Int) : Prop := ∃ mc u, ClX.CRead K C mc ∧ ClX.CVal K C mc f (.int n) u
def fClsI (x f : Str) (n : Int) (K : Fg) : Bool := PySem.W.readsIn K (ga K x) (.type "type") && decide (PySem.W.specialIn K (.ref (ga K x)) "__getattribute__" = some (some (.builtin "type.__getattribute__"))) && (match PySem.W.findCls K (.ref (ga K x)) (.type "type") f with
 | some (.val (.int m _)) => decide (m = n)
 | _ => false)
theorem fClsI_ok {K : Fg} {x f : Str} {n : Int} (h : fClsI x f n K = true) : ClsI K (ga K x) f n := by
 unfold fClsI at h
 simp only [Bool.and_eq_true, decide_eq_true_eq] at h
 obtain ⟨⟨h1, h2⟩, h3⟩ := h
 split at h3
 ·rename_i m t e
  have em : m = n := of_decide_eq_true h3
  subst em
  exact ⟨_, _, ⟨h1, h2⟩, ⟨e, t, rfl⟩⟩
 ·cases h3
end Z
set_option maxHeartbeats 1000000
namespace Z
open PySem PySem.Spec PyProof.Rows L2
section
variable {X : Cx} {x : Str} {pos : Pos}
theorem z_int {n : Int} (h : ∃ t, X.mg x = some (.int n t)) (hg : Gl X x := by rfl) (hd : (x == ("__debug__" : Str)) = false := by decide) : PE X (.Name x pos) (tC (.int n)) := by
 obtain ⟨t, h⟩ := h
 exact pe_glob hg h ⟨t, rfl⟩ hd
theorem z_str {n : Str} (h : ∃ t, X.mg x = some (.str n t)) (hg : Gl X x := by rfl) (hd : (x == ("__debug__" : Str)) = false := by decide) : PE X (.Name x pos) (tC (.str n)) := by
 obtain ⟨t, h⟩ := h
 exact pe_glob hg h ⟨t, rfl⟩ hd
theorem z_ref {a : Addr} (h : X.mg x = some (.ref a)) (hg : Gl X x := by rfl) (hd : (x == ("__debug__" : Str)) = false := by decide) : PE X (.Name x pos) (tC (.ref a)) := pe_glob hg h rfl hd
theorem z_ty {n : String} (hm : X.mg x = none) (hv : bootBuiltins x = some (.type n) := by decide +kernel) (hg : Gl X x := by rfl) (hn : x ≠ "__name__" := by decide) (hd : (x == ("__debug__" : Str)) = false := by decide) : PE X (.Name x pos) (tC (.ty n)) := pe_bltn hg hm hv rfl hn hd
theorem zg (i : Nat) (hN : X.N.Nodup) (hi : X.N[i]? = some x := by rfl) (hx : Loc X.env.scope x := by first | exact Or.inl rfl | exact Or.inr rfl) (hf : X.fn x = true ∨ X.env.scope.names.lookup x = some .local := by first | exact Or.inl rfl | exact Or.inr rfl) : PG X (.Name x pos) (gName i) := pg_name hN hi hx hf
theorem zset (i : Nat) {e : Expr} {te : TE} {pos' : Pos} (hN : X.N.Nodup) (he : PE X e te) (hi : X.N[i]? = some x := by rfl) (hx : Loc X.env.scope x := by first | exact Or.inl rfl | exact Or.inr rfl) (hs : swapsWith e (some (.Name x pos')) pos.line X.env = pure false := by rfl)
  (hf : X.fn x = true ∨ X.env.scope.names.lookup x = some .local := by first | exact Or.inl rfl | exact Or.inr rfl) : PS X (.Assign [.Name x pos'] e pos) (tAsg te (gName i)) := ps_set hN hi hx he hs hf
end
section
variable {σ : L2.St} {H : Hp} {Q : VK} {i : Nat} {v x y : V} {ta tb tc : TE} {r r' : R2} {D : Ends}
theorem s_var (h : σ[i]? = some (some v)) (q : Q v H) : tVar i σ H Q := ⟨v, h, q⟩
theorem s_c (q : Q v H) : tC v σ H Q := q
theorem s_op (q : ta σ H fun x H1 => tb σ H1 fun y H2 => r x y H2 Q) : tOp r ta tb σ H Q := q
theorem s_un {r : V → Hp → VK → Prop} (q : ta σ H fun x H1 => r x H1 Q) : tUn r ta σ H Q := q
theorem s_cb {r : List V → Hp → VK → Prop} {t : TA} (q : t σ H fun vs H1 => r vs H1 Q) : tCB r t σ H Q := q
theorem s_nil {Q : List V → Hp → Prop} (q : Q [] H) : tNil σ H Q := q
theorem s_cons {Q : List V → Hp → Prop} {tr : TA} (q : ta σ H fun x H1 => tr σ H1 fun xs H2 => Q (x :: xs) H2) : tCons ta tr σ H Q := q
theorem s_star {K : Fg} {Q : List V → Hp → Prop} {tr : TA} (q : ta σ H fun x H1 => ∃ p xs, x = V.ref p ∧ (SqT K H1 p xs ∨ SqL K H1 p xs) ∧ tr σ H1 fun ys H2 => Q (xs ++ ys) H2) : StX.tStar K ta tr σ H Q := q
theorem s_test {Q : Bool → Hp → Prop} (q : ta σ H fun x H' => ∃ k, x = .bl k ∧ Q k H') : tTest ta σ H Q := q
theorem s_B {Q : Bool → Hp → Prop} (q : ta σ H fun x H' => ∃ k, x = .bl k ∧ Q k H') : tB ta σ H Q := q
theorem s_bl {b : Bool} {R : Bool → Prop} (q : R b) : ∃ k, V.bl b = .bl k ∧ R k := ⟨b, rfl, q⟩
theorem s_and {t u : TT} {Q : Bool → Hp → Prop} (q : t σ H fun c H1 => if c = true then u σ H1 Q else Q false H1) : tAnd t u σ H Q := q
theorem s_or {t u : TT} {Q : Bool → Hp → Prop} (q : t σ H fun c H1 => if c = true then Q true H1 else u σ H1 Q) : tOr t u σ H Q := q
theorem s_not {t : TT} {Q : Bool → Hp → Prop} (q : t σ H fun c H1 => Q (!c) H1) : tNot t σ H Q := q
theorem s_andV (q : ta σ H fun x H1 => ∃ c, x = .bl c ∧ if c = true then tb σ H1 Q else Q (.bl false) H1) : tAndV ta tb σ H Q := q
theorem s_orV (q : ta σ H fun x H1 => ∃ c, x = .bl c ∧ if c = true then Q (.bl true) H1 else tb σ H1 Q) : tOrV ta tb σ H Q := q
theorem s_notV (q : ta σ H fun x H1 => ∃ c, x = .bl c ∧ Q (.bl (!c)) H1) : tNotV ta σ H Q := q
theorem s_if {t : TT} (q : t σ H fun c H1 => if c = true then ta σ H1 Q else tb σ H1 Q) : tIf t ta tb σ H Q := q
theorem s_chain (q : ta σ H fun x H1 => tb σ H1 fun y H2 => r x y H2 fun z H3 => ∃ k, z = .bl k ∧ (if k = true then tc σ H3 fun w' H4 => r' y w' H4 Q else Q (.bl false) H3)) : tChain r r' ta tb tc σ H Q := q
theorem s_tup {t : TA} (q : t σ H fun xs H1 => xs.length ≤ sizeLine ∧ ∀ p, H1 p = none → Q (.ref p) (upd H1 p (.tup xs))) : tTup t σ H Q := q
theorem s_lst {t : TA} (q : t σ H fun xs H1 => xs.length ≤ sizeLine ∧ ∀ p, H1 p = none → Q (.ref p) (upd H1 p (.lst xs))) : tLst t σ H Q := q
theorem s_call {sp : Sp} {dvs : List V} {E : XK} {t : TA} (q : t σ H fun vs H1 => sp (vs ++ dvs) H1 Q E) : tCall sp dvs E t σ H Q := q
variable {ea ec ed : L2.St → Hp → Prop} {eb : VK}
theorem s_seq {t u : TS} (q : t (.mk (u (.mk ea eb ec ed)) eb ec ed) σ H) : tSeq t u (.mk ea eb ec ed) σ H := q
theorem s_asg {g : TG} (q : ta σ H fun x H1 => g x σ H1 ea) : tAsg ta g (.mk ea eb ec ed) σ H := q
theorem s_gname {P : L2.St → Hp → Prop} (q : P (σ.set i (some v)) H) : gName i v σ H P := q
theorem s_ret (q : ta σ H eb) : tRet ta (.mk ea eb ec ed) σ H := q
theorem s_retN (q : eb .non H) : tRetN (.mk ea eb ec ed) σ H := q
theorem s_ifS {t : TT} {u w : TS} (q : t σ H fun b H1 => if b = true then u D σ H1 else w D σ H1) : tIfS t u w D σ H := q
theorem s_drop (q : ta σ H fun _ H1 => ea σ H1) : tDrop ta (.mk ea eb ec ed) σ H := q
theorem s_next (q : ea σ H) : tNext (.mk ea eb ec ed) σ H := q
theorem s_cont (q : ed σ H) : tCont (.mk ea eb ec ed) σ H := q
theorem s_break (q : ec σ H) : tBreak (.mk ea eb ec ed) σ H := q
theorem s_par {j : Nat} {t : TA} (q : t σ H fun vs H1 => ∃ v w, vs = [v, w] ∧ ea ((σ.set i (some v)).set j (some w)) H1) : tPar i j t (.mk ea eb ec ed) σ H := q
theorem s_par2 {R : V → V → Prop} {a b : V} (q : R a b) : ∃ v w, ([a, b] : List V) = [v, w] ∧ R v w := ⟨a, b, rfl, q⟩
theorem s_I0 {g : Int → Int → V} {a b : Int} (q : Q (g a b) H) : rI0 g (.int a) (.int b) H Q := ⟨a, b, rfl, rfl, q⟩
theorem s_I {C : Int → Int → Prop} {g : Int → Int → V} {a b : Int} (c : C a b) (q : Q (g a b) H) : rI C g (.int a) (.int b) H Q := ⟨a, b, rfl, rfl, c, q⟩
theorem s_U {g : Int → V} {a : Int} (q : Q (g a) H) : rU g (.int a) H Q := ⟨a, rfl, q⟩
theorem s_eq (h : scal x y = true) (q : Q (.bl (decide (x = y))) H) : rEq x y H Q := ⟨h, q⟩
theorem s_ne (h : scal x y = true) (q : Q (.bl (!decide (x = y))) H) : rNe x y H Q := ⟨h, q⟩
theorem s_isi {K : Fg} {T : String} {d : PyData} (h : Dp K H x d) (hT : T ∈ ["int", "bool", "str", "tuple", "list"]) (q : Q (.bl (isiB T d)) H) : rIsiD K [x, .ty T] H Q := ⟨x, T, d, rfl, h, hT, q⟩
theorem s_ixT {K : Fg} {p : Addr} {xs : List V} {a : Int} (h : SqT K H p xs) (e : atI xs a = some v) (q : Q v H) : rIxT K (.ref p) (.int a) H Q := ⟨p, xs, a, v, rfl, rfl, h, e, q⟩
theorem s_ixL {K : Fg} {p : Addr} {xs : List V} {a : Int} (h : SqL K H p xs) (e : atI xs a = some v) (q : Q v H) : rIxL K (.ref p) (.int a) H Q := ⟨p, xs, a, v, rfl, rfl, h, e, q⟩
theorem s_in {K : Fg} {neg : Bool} {p : Addr} {xs : List V} (h : SqL K H p xs ∨ SqT K H p xs) (fx : flatV x = true) (fs : xs.all flatV = true) (q : Q (.bl (if neg then !inV x xs else inV x xs)) H) : rIn K neg x (.ref p) H Q := ⟨p, xs, rfl, h, fx, fs, q⟩
end
theorem ite_t {b : Bool} {A B : Prop} (h : b = true) (q : A) : if b = true then A else B := by
 rw [if_pos h]
 exact q
theorem ite_f {b : Bool} {A B : Prop} (h : b = false) (q : B) : if b = true then A else B := by
 subst h
 exact q
theorem ite_b {b : Bool} {A B : Prop} (h : b = true → A) (q : b = false → B) : if b = true then A else B := by
 cases b
 ·exact q rfl
 ·exact h rfl
theorem tk_upd {H : Hp} {D : Addr} {xs : List V} {o : HO} (h : H D = some (.lst xs)) : Tk H (upd H D o) := fun a ha => by
 rw [upd_ne]
 rintro rfl
 rcases ha with ⟨ys, ha⟩ | ⟨o', u, ha⟩ <;> rw [h] at ha <;> cases ha
def keptD (keep : Nat → Bool) (d : Nat → PyData) (n : Nat) : List PyData := ((List.range n).filter keep).map d
theorem keptD_yes {keep : Nat → Bool} {d : Nat → PyData} {n : Nat} (h : keep n = true) : keptD keep d (n + 1) = keptD keep d n ++ [d n] := by
 unfold keptD
 rw [List.range_succ, List.filter_append, List.map_append]
 simp [h]
theorem keptD_no {keep : Nat → Bool} {d : Nat → PyData} {n : Nat} (h : keep n = false) : keptD keep d (n + 1) = keptD keep d n := by
 unfold keptD
 rw [List.range_succ, List.filter_append, List.map_append]
 simp [h]
theorem keptD_len {keep : Nat → Bool} {d : Nat → PyData} {n : Nat} : (keptD keep d n).length ≤ n := by
 unfold keptD
 rw [List.length_map]
 exact Nat.le_trans (List.length_filter_le _ _) (by rw [List.length_range]; exact Nat.le_refl _)
theorem keptD_tupds {keep : Nat → Bool} {d : Nat → PyData} (h : ∀ i, tupd (d i) = true) : ∀ n, tupds (keptD keep d n) = true
 | 0 => rfl
 | n + 1 => by
  have ap : ∀ (l : List PyData) (x : PyData), tupds l = true → tupd x = true → tupds (l ++ [x]) = true := by
   intro l
   induction l with
   | nil =>
    intro x _ hx
    show (tupd x && true) = true
    rw [hx]
    rfl
   | cons y l ih =>
    intro x hl hx
    obtain ⟨h1, h2⟩ := Bool.and_eq_true_iff.mp (show (tupd y && tupds l) = true from hl)
    show (tupd y && tupds (l ++ [x])) = true
    rw [h1, ih x h2 hx]
    rfl
  cases e : keep n with
  | true =>
   rw [keptD_yes e]
   exact ap _ _ (keptD_tupds h n) (h n)
  | false =>
   rw [keptD_no e]
   exact keptD_tupds h n
theorem lc_dat {K : Fg} {J : It} {n : Nat} {G : Hp → Prop} {Y : Nat → Hp → V → Hp → Prop} {g : TG} {tt : TT} {te : TE} {vs : List Nat} {σ : L2.St} {H1 : Hp} {D : Addr} {Qd : Hp → Prop} (w : Walk J n G Y) (keep : Nat → Bool) (d : Nat → PyData) (hD : H1 D = none) (hn : n ≤ 40000)
  (hdt : ∀ i, tupd (d i) = true) (hG : ∀ H, Same H1 H → G H) (hY : ∀ i H x H', Y i H x H' → Same H H')
  (hs : ∀ (i : Nat) (x : V) (H H' : Hp) (Yes : VK) (No : Hp → Prop), i < n → Same H1 H → Y i H x H' → (keep i = true → ∀ y H4, Same H' H4 → Dp K H4 y (d i) → Yes y H4) → (keep i = false → ∀ H3, Same H' H3 → No H3) →
   g x (wipe σ vs) H' fun σ2 H2 => wipe σ2 vs = wipe σ vs ∧ tt σ2 H2 fun b H3 => if b = true then te σ2 H3 Yes else No H3)
  (hd : ∀ H' ys, Same H1 H' → H' D = some (.lst ys) → DpAll K H' ys (keptD keep d n) → Qd H') :
  ∃ W : Nat → Nat → Hp → Prop, (∃ m, W 0 m (upd H1 D (.lst []))) ∧ ∀ i m H, W i m H →
   (J.stop i H ∧ Qd H) ∨ (J.go i H ∧ ∃ Nx : Hp → Prop, (∀ H', Nx H' → ∃ m', m' < m ∧ W (i + 1) m' H') ∧ ∀ x H', J.yld i H x H' → g x (wipe σ vs) H' fun σ2 H2 => wipe σ2 vs = wipe σ vs ∧ tt σ2 H2 fun b H3 =>
    if b = true then te σ2 H3 fun y H4 => ∃ acc, H4 D = some (.lst acc) ∧ acc.length < sizeLine ∧ Nx (upd H4 D (.lst (acc ++ [y]))) else Nx H3) := by
 refine lc_it w (fun i H => Same H1 H ∧ ∃ ys, H D = some (.lst ys) ∧ DpAll K H ys (keptD keep d i)) ⟨Same.new hD, [], upd_same, .nil⟩ (fun i H _ p => hG H p.1) (fun i x H H' hi p y => ?_) (fun H p => ?_)
 ·obtain ⟨s1, ys, e1, a1⟩ := p
  have s2 := hY i H x H' y
  refine hs i x H H' _ _ hi s1 y (fun hk y4 H4 s4 d4 => ⟨ys, s4 _ _ (s2 _ _ e1), ?_, ?_, ?_⟩) fun hk H3 s3 => ⟨(s1.trans s2).trans s3, ys, s3 _ _ (s2 _ _ e1), ?_⟩
  ·rw [a1.len]
   exact Nat.lt_of_le_of_lt keptD_len (Nat.lt_of_lt_of_le (Nat.lt_of_lt_of_le hi hn) (by decide))
  ·exact fun a o h => by
    rw [upd_ne (ne_of_none h hD)]
    exact s4 _ _ (s2 _ _ (s1 _ _ h))
  ·refine ⟨_, upd_same, ?_⟩
   have t := tk_upd (o := .lst (ys ++ [y4])) (s4 _ _ (s2 _ _ e1))
   rw [keptD_yes hk]
   exact ((a1.same (s2.trans s4)).tk t (keptD_tupds hdt i)).app (.cons (d4.tk t (hdt i)) .nil)
  ·rw [keptD_no hk]
   exact a1.same (s2.trans s3)
 ·obtain ⟨s1, ys, e1, a1⟩ := p
  exact hd H ys s1 e1 a1
theorem dp_bools {K : Fg} {H : Hp} : ∀ {ys : List V} {bs : List Bool}, DpAll K H ys (bs.map PyData.bool) → ys = bs.map V.bl
 | _, [], .nil => rfl
 | _, b :: bs, .cons a r => by
  cases a
  rw [dp_bools r]
  rfl
theorem dp_strs {K : Fg} {H : Hp} : ∀ {ys : List V} {bs : List Str}, DpAll K H ys (bs.map PyData.str) → ys = bs.map V.str
 | _, [], .nil => rfl
 | _, b :: bs, .cons a r => by
  cases a
  rw [dp_strs r]
  rfl
def pAt {α : Type} (l : List α) (p : α → Bool) (i : Nat) : Bool := (l[i]?.map p).getD false
def dAt {α : Type} (l : List α) (f : α → PyData) (i : Nat) : PyData := (l[i]?.map f).getD .none
theorem pAt_eq {α : Type} {l : List α} {p : α → Bool} {i : Nat} {x : α} (h : l[i]? = some x) : pAt l p i = p x := by
 unfold pAt
 rw [h]
 rfl
theorem dAt_eq {α : Type} {l : List α} {f : α → PyData} {i : Nat} {x : α} (h : l[i]? = some x) : dAt l f i = f x := by
 unfold dAt
 rw [h]
 rfl
theorem dAt_tupd {α : Type} {l : List α} {f : α → PyData} (h : ∀ x ∈ l, tupd (f x) = true) (i : Nat) : tupd (dAt l f i) = true := by
 unfold dAt
 cases e : l[i]? with
 | none => rfl
 | some x => exact h x (List.mem_of_getElem? e)
theorem keptD_list {α : Type} (l : List α) (p : α → Bool) (f : α → PyData) : keptD (pAt l p) (dAt l f) l.length = (l.filter p).map f := by
 have go : ∀ n, n ≤ l.length → keptD (pAt l p) (dAt l f) n = ((l.take n).filter p).map f := by
  intro n
  induction n with
  | zero => intro _; simp [keptD]
  | succ n ih =>
   intro hn
   have hx : l[n]? = some l[n] := List.getElem?_eq_getElem (by omega)
   have et : l.take (n + 1) = l.take n ++ [l[n]] := by rw [List.take_add_one, hx]; rfl
   cases e : pAt l p n with
   | true =>
    rw [keptD_yes e, ih (by omega), dAt_eq hx, et, List.filter_append, List.map_append]
    rw [pAt_eq hx] at e
    simp [e]
   | false =>
    rw [keptD_no e, ih (by omega), et, List.filter_append, List.map_append]
    rw [pAt_eq hx] at e
    simp [e]
 rw [go l.length (Nat.le_refl _), List.take_length]
theorem keptD_map {α : Type} (l : List α) (f : α → PyData) : keptD (fun _ => true) (dAt l f) l.length = l.map f := by
 have e := keptD_list l (fun _ => true) f
 have e2 : keptD (pAt l fun _ => true) (dAt l f) l.length = keptD (fun _ => true) (dAt l f) l.length := by
  unfold keptD
  congr 1
  apply List.filter_congr
  intro i hi
  have hi' : i < l.length := List.mem_range.mp hi
  rw [pAt_eq (List.getElem?_eq_getElem hi')]
 rw [← e2, e, List.filter_eq_self.mpr (fun _ _ => rfl)]
theorem map_bool {α : Type} (l : List α) (f : α → Bool) : (l.map fun c => PyData.bool (f c)) = (l.map f).map PyData.bool := by rw [List.map_map]; rfl
theorem map_str {α : Type} (l : List α) (f : α → Str) : (l.map fun c => PyData.str (f c)) = (l.map f).map PyData.str := by rw [List.map_map]; rfl
theorem s_yes {σ : L2.St} {H : Hp} {Q : Bool → Hp → Prop} (q : Q true H) : tYes σ H Q := q
theorem s_all {K : Fg} {H : Hp} {Q : VK} {a : Addr} {bs : List Bool} (h : SqL K H a (bs.map V.bl)) (q : Q (.bl (bs.all id)) H) : rAll K [.ref a] H Q := ⟨a, bs, rfl, h, q⟩
theorem s_lenT {K : Fg} {H : Hp} {p : Addr} {xs : List V} {R : Nat → Prop} (h : SqT K H p xs) (q : R xs.length) : ∃ x n, ([V.ref p] : List V) = [x] ∧ LenV K x H n ∧ R n := ⟨_, _, rfl, .inr ⟨xs, h, rfl⟩, q⟩
theorem s_lenL {K : Fg} {H : Hp} {p : Addr} {xs : List V} {R : Nat → Prop} (h : SqL K H p xs) (q : R xs.length) : ∃ x n, ([V.ref p] : List V) = [x] ∧ LenV K x H n ∧ R n := ⟨_, _, rfl, .inl ⟨xs, h, rfl⟩, q⟩
theorem s_lenS {K : Fg} {H : Hp} {z : Str} {R : Nat → Prop} (h : z.length ≤ sizeLine) (q : R z.length) : ∃ x n, ([V.str z] : List V) = [x] ∧ LenV K x H n ∧ R n := ⟨_, _, rfl, ⟨h, rfl⟩, q⟩
mutual
def short : PyData → Bool
 | .none => true
 | .bool _ => true
 | .int _ => true
 | .str z => decide (z.cps.size ≤ 40000)
 | .list xs => shorts xs
 | .tuple xs => shorts xs
 | .dict _ => true
def shorts : List PyData → Bool
 | [] => true
 | d :: ds => short d && shorts ds
end
theorem shorts_at : ∀ {ds : List PyData} {d : PyData}, shorts ds = true → d ∈ ds → short d = true
 | [], _, _, h => by simp at h
 | x :: ds, d, h, hm => by
  obtain ⟨h1, h2⟩ := Bool.and_eq_true_iff.mp (show (short x && shorts ds) = true from h)
  rcases List.mem_cons.mp hm with rfl | hm
  ·exact h1
  ·exact shorts_at h2 hm
theorem short_str {z : Str} (h : short (.str z) = true) : z.cps.size ≤ 40000 := by
 unfold short at h
 exact of_decide_eq_true h
theorem short_tup {ds : List PyData} (h : short (.tuple ds) = true) : shorts ds = true := by
 unfold short at h
 exact h
theorem bnt {b : Bool} (h : (!b) = true) : b = false := by
 cases b
 ·rfl
 ·cases h
theorem bnf {b : Bool} (h : (!b) = false) : b = true := by
 cases b
 ·cases h
 ·rfl
theorem newS {H H2 : Hp} {p : Addr} {o : HO} (hp : H p = none) (e : upd H p o = H2) : Same H H2 := by
 subst e
 exact Same.new hp
theorem newE {H H2 : Hp} {p : Addr} {o : HO} (e : upd H p o = H2) : H2 p = some o := by
 subst e
 exact upd_same
section
variable {K : Fg} {σ : L2.St} {H : Hp} {P : L2.St → Hp → Prop} {a : Addr} {xs r : List V} {v y : V} {Q : VK} {kvs : List (Key × V)} {k : Key}
theorem s_gtup {n : Nat} {t : TGs} (h : SqT K H a xs) (hl : xs.length = n) (q : t xs σ H P) : gTup K n t (.ref a) σ H P := ⟨a, xs, rfl, h, hl, q⟩
theorem s_gcons {t : TG} {u : TGs} (q : t v σ H fun σ' H' => u r σ' H' P) : gCons t u (v :: r) σ H P := ⟨v, r, rfl, q⟩
theorem s_gnil (q : P σ H) : gNil [] σ H P := ⟨rfl, q⟩
theorem s_din {ty td : TE} (q : ty σ H fun y H1 => td σ H1 fun x H2 => ∃ a o, x = .ref a ∧ DGet H2 a y o ∧ Q (.bl o.isSome) H2) : tDIn ty td σ H Q := q
theorem s_dnin {ty td : TE} (q : ty σ H fun y H1 => td σ H1 fun x H2 => ∃ a o, x = .ref a ∧ DGet H2 a y o ∧ Q (.bl (!o.isSome)) H2) : tDNotIn ty td σ H Q := q
theorem s_dget {ty td : TE} (q : td σ H fun x H1 => ty σ H1 fun y H2 => ∃ a v, x = .ref a ∧ DGet H2 a y (some v) ∧ Q v H2) : tDGet td ty σ H Q := q
theorem s_dS {z : Str} {R : Option V → Prop} (h : H a = some (.dK kvs)) (q : R (valV kvs (.inr z))) : ∃ b o, V.ref a = .ref b ∧ DGet H b (.str z) o ∧ R o := ⟨a, _, rfl, DGet.k (k := Sum.inr z) h, q⟩
theorem s_dgS {z : Str} {R : V → Prop} (h : H a = some (.dK kvs)) (e : valV kvs (.inr z) = some v) (q : R v) : ∃ b u, V.ref a = .ref b ∧ DGet H b (.str z) (some u) ∧ R u := ⟨a, v, rfl, by rw [← e]; exact DGet.k (k := Sum.inr z) h, q⟩
end
section
variable {K : Fg} {σ : L2.St} {H : Hp} {Q : VK} {ta tv : TE} {t : TA} {r : V → List V → Hp → VK → Prop} {l : Addr} {xs : List V} {x y v : V} {f m : Str} {C dx : Addr} {fs : List (Str × V)} {ea ec ed : L2.St → Hp → Prop} {eb : VK}
theorem s_bm {T : String} (q : ta σ H fun x H1 => tyV K T x H1 ∧ t σ H1 fun xs H2 => r x xs H2 Q) : tBM K T r ta t σ H Q := q
theorem s_bm0 {T : String} (q : ta σ H fun x H1 => tyV K T x H1 ∧ r x [] H1 Q) : tBM0 K T r ta σ H Q := q
theorem s_tyL {R : Prop} (h : H l = some (.lst xs)) (q : R) : tyV K "list" (.ref l) H ∧ R := ⟨Or.inl ⟨rfl, xs, SqL.of h⟩, q⟩
theorem s_append (h : H l = some (.lst xs)) (hl : xs.length < sizeLine) (q : Q .non (upd H l (.lst (xs ++ [y])))) : rAppend (.ref l) [y] H Q := ⟨l, xs, y, rfl, rfl, h, hl, q⟩
theorem s_fldg (q : ta σ H fun x H1 => ∃ a C dx fs v, x = .ref a ∧ H1 a = some (.ins C dx fs) ∧ Cls K C ∧ NoAttr K C f ∧ fs.lookup f = some v ∧ Q v H1) : tFld K ta f σ H Q := q
theorem s_fldat {a : Addr} {R : V → Prop} (h : H a = some (.ins C dx fs)) (c : Cls K C) (n : NoAttr K C f) (e : fs.lookup f = some v) (q : R v) : ∃ b C dx fs v, V.ref a = .ref b ∧ H b = some (.ins C dx fs) ∧ Cls K C ∧ NoAttr K C f ∧ fs.lookup f = some v ∧ R v := ⟨a, C, dx, fs, v, rfl, h, c, n, e, q⟩
theorem s_meth {sp : Sp} {dvs : List V} {E : XK} (q : ta σ H fun x H1 => ∃ a dx fs, x = .ref a ∧ H1 a = some (.ins C dx fs) ∧ fs.lookup m = none ∧ t σ H1 fun vs H2 => sp (x :: (vs ++ dvs)) H2 Q E) : tMeth C m sp dvs E ta t σ H Q := q
theorem s_methat {a : Addr} {R : Prop} (h : H a = some (.ins C dx fs)) (e : fs.lookup m = none) (q : R) : ∃ b dx fs, V.ref a = .ref b ∧ H b = some (.ins C dx fs) ∧ fs.lookup m = none ∧ R := ⟨a, dx, fs, rfl, h, e, q⟩
theorem s_prop {sp : Sp} {E : XK} (q : ta σ H fun x H1 => ∃ a dx fs, x = .ref a ∧ H1 a = some (.ins C dx fs) ∧ sp [.ref a] H1 Q E) : tProp C sp [] E ta σ H Q := q
theorem s_propat {a : Addr} {R : Addr → Prop} (h : H a = some (.ins C dx fs)) (q : R a) : ∃ b dx fs, V.ref a = .ref b ∧ H b = some (.ins C dx fs) ∧ R b := ⟨a, dx, fs, rfl, h, q⟩
end
end Z
set_option maxHeartbeats 1000000
namespace Z
open PySem PySem.Spec PyProof.Rows L2
open AutoSeq1 (wpAny_loadPart')
theorem enum_new1 {v : Value} {o : Obj} {G : Heap → Prop} (B : Begins v o G) :
  Meets (Builtin.«enumerate.__new__» ⟨[.type "enumerate", v], []⟩) (fun _ R s => G s.heap ∧
   R (.ok (.ret (.ref (s.heap.push o).objs.size))) { s with heap := (s.heap.push o).push { cls := .type "enumerate", data := .fields #[.none, .bool false, .ref s.heap.objs.size, rawInt 0, .none, .none] } }) :=
 .of_wp fun prog w A R s h => by
  obtain ⟨hp, g, d, tk, os⟩ := s
  obtain ⟨h1, h⟩ := h
  have su := sub_enumerate
  have q1 : ∀ {A' : Around} {E : Value → Shared → Prop} {Q : Value → Shared → Prop}, Q (.ref hp.objs.size) ⟨hp.push o, g, d, tk, os⟩ → wpAny (model prog w) A' (pyIter v) Q E ⟨hp, g, d, tk, os⟩ :=
   fun q => B.iter prog w _ _ ⟨hp, g, d, tk, os⟩ _ h1 q
  wp_walk using q1
  refine wpAny_stack_any fun st => wpAny_pure ?_
  split
  ·rename_i c _ _ _ _ _
   cases (c == Value.type "enumerate") <;> (wp_walk using q1; exact ⟨_, rfl, h⟩)
  ·wp_walk using q1
   exact ⟨_, rfl, h⟩
theorem call_enumT {prog : Program} {w : World} {A : Around} {E : Value → Shared → Prop} {s : Shared} {v : Value} {o : Obj} {G : Heap → Prop} {Q : Value → Shared → Prop} (B : Begins v o G) (h1 : G s.heap)
  (h : ∀ h', IsEnum h' (s.heap.objs.size + 1) s.heap.objs.size 0 .none → h'.get? s.heap.objs.size = some o → (∀ b o, s.heap.get? b = some o → h'.get? b = some o) → Q (.ref (s.heap.objs.size + 1)) { s with heap := h' }) :
  wpAny (model prog w) A (call (.type "enumerate") [v]) Q E s := by
 refine callType_new F.called_enumerate (by decide) (F.typeCall_enumerate_1 _) (F.newCall_enumerate_1 _) (fun obj => F.args_object_init_2 obj _) F.entry_enumerate_new (enum_new1 B) ⟨h1, ?_⟩
 have hz : (s.heap.push o).objs.size = s.heap.objs.size + 1 := Heap.size_push ..
 show _ ∧ _
 rw [hz]
 have he : IsEnum ((s.heap.push o).push { cls := .type "enumerate", data := .fields #[.none, .bool false, .ref s.heap.objs.size, rawInt 0, .none, .none] }) (s.heap.objs.size + 1) s.heap.objs.size 0 .none := by
  have z := Heap.get?_push_size (s.heap.push o) (o := { cls := .type "enumerate", data := .fields #[.none, .bool false, .ref s.heap.objs.size, rawInt 0, .none, .none] }) rfl
  rw [hz] at z
  exact z
 exact ⟨⟨_, he, rfl⟩, h _ he (Heap.get?_push_of_some _ (Heap.get?_push_size _ B.free)) fun b o x => Heap.get?_push_of_some _ (Heap.get?_push_of_some _ x)⟩
def IteT (K : Fg) (a : Addr) : It :=
 ⟨fun i H => ∃ (xs : List V) (x : V), SqT K H a xs ∧ xs[i]? = some x, fun i H v H' => ∃ T x, v = .ref T ∧ H T = none ∧ H' = upd H T (.tup [.int (i : Nat), x]) ∧ ∀ xs, SqT K H a xs → xs[i]? = some x, fun i H => ∃ xs : List V, SqT K H a xs ∧ xs.length ≤ i⟩
theorem turn_enumT {P : Program} {w : World} {K : Fg} {elts : List Expr} {kk : Nat} {tpos : Pos} (a e it : Addr) (hai : a ≠ it) (hae : a ≠ e) :
  Turn P w K (.Tuple elts kk tpos) (IteT K a) [e, it] e (fun i h => (∃ old, IsEnum h e it ((i : Nat) : Int) old) ∧ h.IsTupleIter it a i ∧ e ≠ it) where
 mem := by simp
 obj := fun i h st b hb => by
  obtain ⟨⟨old, he⟩, ⟨o, ho, hc, hd⟩, _⟩ := st
  have e' : b = e ∨ b = it := by simpa using hb
  rcases e' with z | z
  ·rw [z]
   exact ⟨_, he, fun v q => nomatch q⟩
  ·rw [z]
   exact ⟨o, ho, fun v q => by rw [hd] at q; cases q⟩
 keep := fun i h h' st k => let ⟨⟨old, he⟩, hi, hne⟩ := st; ⟨⟨old, k e (by simp) _ he⟩, hi.at fun o q => k it (by simp) o q, hne⟩
 item := by
  intro X hP hw hK hc i pins s σ H E I hf st hg
  subst hP hw hK
  obtain ⟨⟨old, he⟩, hit, hne⟩ := st
  obtain ⟨xs, x, hq, hx⟩ := hg
  obtain ⟨its, rv, p, hz⟩ := I.tuple hq
  obtain ⟨u, hu, ru⟩ := rv.get hx
  have hel : e < s.heap.objs.size := Heap.lt_size he
  have hil : it < s.heap.objs.size := by
   obtain ⟨_, q, _⟩ := hit
   exact Heap.lt_size q
  have hlt : i < its.toArray.size := by
   have := (List.getElem?_eq_some_iff.mp hu).1
   simpa using this
  have Dr := Draws.tuple (prog := X.prog) (w := X.w) (A := X.A.in1) (I.ok.hd hc) it a hai its.toArray
  refine wpAny_pyNext_enum_itemD Dr he ⟨hit, p⟩ hlt hne (by simp [hne, Ne.symm hae]) fun x' h' tk hx' ho hst' hT hsz hk => ?_
  have ex : x' = u := by
   have hx2 : its[i]? = some x' := by simpa using hx'
   rw [hu] at hx2
   exact (Option.some.inj hx2).symm
  subst ex
  refine ⟨_, rfl, wpAny_letOwnedTupleGo_enum (s := { s with heap := h', toks := tk + 1 }) ho fun h'' he' sb => ?_⟩
  have hT2 : h''.get? s.heap.objs.size = some { cls := .type "tuple", data := .seq #[.int i tk, x'] } := (sb.2 _ (Nat.ne_of_gt hel)).trans hT
  have new : ObjOk X.prog X.w (upd H s.heap.objs.size (.tup [.int (i : Nat), x])) h'' s.heap.objs.size (.tup [.int (i : Nat), x]) :=
   ⟨by show 2 ≤ sizeLine; decide, [.int i tk, x'], .cons ⟨_, rfl⟩ (.cons ru .nil), ⟨_, hT2, rfl, _, rfl⟩⟩
  have I1 : Inv X pins σ (upd H s.heap.objs.size (.tup [.int (i : Nat), x])) { s with heap := h'', toks := tk + 1 } :=
   I.turnedNew (ch := [e, it]) (fun b ob hb q => (sb.2 b (fun z => hb (by simp [z]))).trans (hk b ob (fun z => hb (by simp [z])) (fun z => hb (by simp [z])) q)) hf (Nat.le_refl _) new
  refine ⟨.ref s.heap.objs.size, _, I1, rfl, ⟨_, x, rfl, I.hok.fresh (Nat.le_refl _), rfl, fun ys hy => by rw [I.tuple_inj hy hq]; exact hx⟩, ⟨⟨x', ?_⟩, hst'.1.at fun o q => (sb.2 it (Ne.symm hne)).trans q, hne⟩, fun b hb => ?_⟩
  ·have e1 : ((i + 1 : Nat) : Int) = (i : Int) + 1 := by omega
   rw [e1]
   exact he'
  ·have hb' : b < s.heap.objs.size := by
    have e' : b = e ∨ b = it := by simpa using hb
    rcases e' with z | z
    ·rw [z]; exact hel
    ·rw [z]; exact hil
   rw [upd_ne (Nat.ne_of_lt hb')]
   exact (hf b hb).1
 done := by
  intro X hP hw hK hc i pins s σ H E I hf st hg
  subst hP hw hK
  obtain ⟨⟨old, he⟩, hit, hne⟩ := st
  obtain ⟨xs, hq, hx⟩ := hg
  obtain ⟨its, rv, p, hz⟩ := I.tuple hq
  obtain ⟨f0, f1, f2, f3, f4, f5⟩ := hf it (by simp)
  have hl := rv.length
  have Dr := Draws.tuple (prog := X.prog) (w := X.w) (A := X.A.in1) (I.ok.hd hc) it a hai its.toArray
  have T : s.TypeIs (.ref e) "enumerate" := ⟨_, he, rfl⟩
  unfold pyNext
  refine wpAny_bind (wpAny_attempt (wpAny_callSpecial?_slot (name := Str.ofString "__next__") T F.slot_enumerate_next (wpAny_call_entry F.slot_enumerate_next T F.entry_enumerate_next ?_ (F.args_enumerate_next_1 _))))
  show wpAny _ _ (field (.ref e) 2 >>= _) _ _ _
  refine wpAny_bind (wpAny_field he rfl (x := .ref it) rfl ?_)
  refine wpAny_bind (wpAny_nextOf_tuple_end (I.ok.hd hc) hit p (by simp; omega) fun h' x he' hx' => ?_)
  obtain ⟨o, ho, hcc⟩ := hx'
  refine wpAny_bind (wpAny_isInstance (T := "StopIteration") (b := true) ⟨o, ho, hcc⟩ isSubtype_stop ?_)
  exact wpAny_pure ⟨rfl, I.turned (t' := s.toks) (fun b o hb q => he' b o hb q) f0 f1 f3 f4 f5⟩
 self := fun A i s Q E st h => let ⟨⟨_, he⟩, _⟩ := st; wpAny_pyIter_enum he h
def iEnumT (K : Fg) (ta : TA) : TI := fun σ H R => ta σ H fun vs H1 => ∃ a xs, vs = [.ref a] ∧ SqT K H1 a xs ∧ R (IteT K a) H1
theorem pi_enumT {X : Cx} {e : Expr} {ta : TA} {p pos tpos : Pos} {elts : List Expr} {kk : Nat} (hg : Gl X "enumerate") (hm : X.mg "enumerate" = none) (ha : PA X [e] ta) (hs : starEach [e] X.env = [(false, eval e X.env)] := by rfl) :
  PI X (.Tuple elts kk tpos) (.Call (.Name "enumerate" p) [e] [] pos) (iEnumT X.K ta) := by
 refine ⟨fun pins s σ H R I h => ?_⟩
 refine Call_ (ld_blt I hg hm boot_enumerate (PyProof.Rows.callWith_type1 (thn (ha.run pos pins s σ H _ I h) fun us s1 ⟨vs, H1, I1, r1, q1⟩ => ?_) hs rfl))
 obtain ⟨a, xs, ex, hq, q⟩ := q1
 subst ex
 cases r1 with
 | cons r rr =>
  cases rr
  cases r
  obtain ⟨its, rv, p', hz⟩ := I1.tuple hq
  have la : a < s1.heap.objs.size := p'.lt
  refine call_enumT (begins_tuple a its.toArray) p' fun h' he hit hk => wpAny_pyIter_enum he ?_
  have I2 : Inv X pins σ H1 { s1 with heap := h' } := I1.kept (t' := s1.toks) hk
  refine ⟨s1.heap.objs.size + 1, [s1.heap.objs.size + 1, s1.heap.objs.size], _, _, H1, rfl, I2, turn_enumT a (s1.heap.objs.size + 1) s1.heap.objs.size (Nat.ne_of_lt la) (Nat.ne_of_lt (Nat.lt_succ_of_lt la)), ⟨⟨.none, he⟩, ⟨_, hit, rfl, rfl⟩, Nat.succ_ne_self _⟩, fun b hb => ?_, q⟩
  have e' : b = s1.heap.objs.size + 1 ∨ b = s1.heap.objs.size := by simpa using hb
  have hle : s1.heap.objs.size ≤ b := by
   rcases e' with z | z
   ·rw [z]; exact Nat.le_add_right _ _
   ·rw [z]; exact Nat.le_refl _
  exact I1.fpOk hle (I1.hok.fresh hle)
theorem walk_enumT {K : Fg} {a : Addr} {xs : List V} : Walk (IteT K a) xs.length (fun H => SqT K H a xs) (YPair (fun i => some (.int (i : Nat))) (fun i => xs[i]?)) := by
 refine ⟨fun i _ hi q => ⟨xs, xs[i], q, by simp [hi]⟩, fun _ q => ⟨xs, q, Nat.le_refl _⟩, fun i H v H' _ q y => ?_⟩
 obtain ⟨T, x, h1, h2, h3, h4⟩ := y
 exact ⟨T, .int (i : Nat), x, h1, h2, h3, rfl, h4 xs q⟩
end Z
set_option maxHeartbeats 1000000
namespace Z
open PySem PySem.Spec PyProof.Rows L2
section
variable {X : Cx}
def rEq0 (K : Fg) (neg : Bool) : R2 := fun x y H Q => ∃ a b xs, x = .ref a ∧ y = .ref b ∧ ((SqL K H a xs ∧ SqL K H b []) ∨ (SqT K H a xs ∧ SqT K H b [])) ∧ Q (.bl (if neg then !xs.isEmpty else xs.isEmpty)) H
theorem vals_nil {us : List Value} (r : Vals [] us) : us = [] := by cases r; rfl
theorem op_eq0 (hu : X.A.units + 64 < cLine) : OpR X (compareOp .Eq) (rEq0 X.K false) := by
 intro pins s σ H x y v u Q I rx ry h
 obtain ⟨a, b, xs, rfl, rfl, hq, q⟩ := h
 obtain rfl : v = Value.ref a := rx
 obtain rfl : u = Value.ref b := ry
 rcases hq with ⟨ha, hb⟩ | ⟨ha, hb⟩
 ·obtain ⟨its, r1, p1, _⟩ := I.list ha
  obtain ⟨its2, r2, p2, _⟩ := I.list hb
  cases vals_nil r2
  cases xs with
  | nil =>
   cases vals_nil r1
   exact SeqAt.eq_listAt (e := fun _ => true) p1.isList p2.isList rfl (by omega) (fun j h1 _ => absurd h1 (Nat.not_lt_zero _)) ⟨.bl true, H, I, rfl, q⟩
  | cons z zs =>
   cases r1
   exact SeqAt.eq_list_lengthsAt p1.isList p2.isList (by simp) (by omega) ⟨.bl false, H, I, rfl, q⟩
 ·obtain ⟨its, r1, p1, _⟩ := I.tuple ha
  obtain ⟨its2, r2, p2, _⟩ := I.tuple hb
  cases vals_nil r2
  cases xs with
  | nil =>
   cases vals_nil r1
   exact SeqAt.eq_tupleAt (e := fun _ => true) p1 p2 (by omega) (fun j h1 _ => absurd h1 (Nat.not_lt_zero _)) ⟨.bl true, H, I, rfl, q⟩
  | cons z zs =>
   cases r1
   refine SeqAt.eq_tupleAt (e := fun _ => true) p1 p2 (by omega) (fun j _ h1 => absurd h1 (Nat.not_lt_zero _)) ⟨.bl false, H, I, ?_, q⟩
   show Value.bool _ = Value.bool false
   simp
theorem op_ne0 (hu : X.A.units + 64 < cLine) : OpR X (compareOp .NotEq) (rEq0 X.K true) := by
 intro pins s σ H x y v u Q I rx ry h
 obtain ⟨a, b, xs, rfl, rfl, hq, q⟩ := h
 obtain rfl : v = Value.ref a := rx
 obtain rfl : u = Value.ref b := ry
 rcases hq with ⟨ha, hb⟩ | ⟨ha, hb⟩
 ·obtain ⟨its, r1, p1, _⟩ := I.list ha
  obtain ⟨its2, r2, p2, _⟩ := I.list hb
  cases vals_nil r2
  cases xs with
  | nil =>
   cases vals_nil r1
   exact SeqAt.RcNeAt.lists (e := fun _ => true) p1.isList p2.isList rfl (by omega) (fun j h1 _ => absurd h1 (Nat.not_lt_zero _)) _ _ _ _ ⟨.bl false, H, I, rfl, q⟩
  | cons z zs =>
   cases r1
   exact SeqAt.RcNeAt.lists_lengths p1.isList p2.isList (by simp) (by omega) _ _ _ _ ⟨.bl true, H, I, rfl, q⟩
 ·obtain ⟨its, r1, p1, _⟩ := I.tuple ha
  obtain ⟨its2, r2, p2, _⟩ := I.tuple hb
  cases vals_nil r2
  cases xs with
  | nil =>
   cases vals_nil r1
   exact SeqAt.RcNeAt.tuples (e := fun _ => true) p1 p2 (by omega) (fun j h1 _ => absurd h1 (Nat.not_lt_zero _)) _ _ _ _ ⟨.bl false, H, I, rfl, q⟩
  | cons z zs =>
   cases r1
   refine SeqAt.RcNeAt.tuples (e := fun _ => true) p1 p2 (by omega) (fun j _ h1 => absurd h1 (Nat.not_lt_zero _)) _ _ _ _ ⟨.bl true, H, I, ?_, q⟩
   show Value.bool _ = Value.bool true
   simp
end
end Z
set_option maxHeartbeats 1000000
namespace Z
open PySem PySem.Spec PyProof.Rows L2
section
variable {X : Cx} (K : Fg) {e : Expr} {es : List Expr} {ta : TE} {t : TA} {tg : TGs} {f : Str} {T : String} {r : V → List V → Hp → VK → Prop} {n : Nat} {x y : Expr}
theorem ix_tupK (hK : X.K = K := by rfl) : IxR X (rIxT K) := by subst hK; exact ix_tup
theorem ix_listK (hK : X.K = K := by rfl) : IxR X (rIxL K) := by subst hK; exact ix_list
theorem op_in_seqK (hK : X.K = K := by rfl) : OpR X (compareOp .In) (rIn K false) := by subst hK; exact op_in_seq
theorem op_notIn_seqK (hK : X.K = K := by rfl) : OpR X (compareOp .NotIn) (rIn K true) := by subst hK; exact op_notIn_seq
theorem call_isiDK (hK : X.K = K := by rfl) : CallR X (.builtin "isinstance") (rIsiD K) := by subst hK; exact call_isiD
theorem call_lenK (hK : X.K = K := by rfl) : CallR X (.builtin "len") (fun xs H Q => ∃ x n, xs = [x] ∧ LenV K x H n ∧ Q (.int n) H) := by subst hK; exact call_len
theorem cr_allK (hc : X.calm = true) (hK : X.K = K := by rfl) : CallR X (.builtin "all") (rAll K) := by subst hK; exact cr_all hc
theorem call_tuple_ofK (hK : X.K = K := by rfl) : CallR X (.type "tuple") (fun xs H Q => ∃ p ys, xs = [.ref p] ∧ ((SqL K H p ys ∧ ∀ l, H l = none → Q (.ref l) (upd H l (.tup ys))) ∨ (SqT K H p ys ∧ Q (.ref p) H))) := by subst hK; exact call_tuple_of
theorem op_eq0K (hu : X.A.units + 64 < cLine) (hK : X.K = K := by rfl) : OpR X (compareOp .Eq) (rEq0 K false) := by subst hK; exact op_eq0 hu
theorem op_ne0K (hu : X.A.units + 64 < cLine) (hK : X.K = K := by rfl) : OpR X (compareOp .NotEq) (rEq0 K true) := by subst hK; exact op_ne0 hu
theorem op_eqDK (hu : X.A.units + 64 < cLine) (hK : X.K = K := by rfl) : OpR X (compareOp .Eq) (rEqD K) := by subst hK; exact op_eqD hu
theorem op_neDK (hu : X.A.units + 64 < cLine) (hK : X.K = K := by rfl) : OpR X (compareOp .NotEq) (rNeD K) := by subst hK; exact op_neD hu
theorem sl_listK (hK : X.K = K := by rfl) : SlR X (rSlL K) := by subst hK; exact sl_list
theorem sl_tupAK (hK : X.K = K := by rfl) : SlR X (rSlA K) := by subst hK; exact sl_tupA
theorem op_catAK (hK : X.K = K := by rfl) : OpR X (binaryOp .Add) (rCatA K) := by subst hK; exact op_catA
theorem kFld (h : PE X e (tFld X.K ta f)) (hK : X.K = K := by rfl) : PE X e (tFld K ta f) := by subst hK; exact h
theorem kBM (h : PE X e (tBM X.K T r ta t)) (hK : X.K = K := by rfl) : PE X e (tBM K T r ta t) := by subst hK; exact h
theorem kGT (h : PG X e (gTup X.K n tg)) (hK : X.K = K := by rfl) : PG X e (gTup K n tg) := by subst hK; exact h
theorem kIT (h : PI X x y (iTup X.K ta)) (hK : X.K = K := by rfl) : PI X x y (iTup K ta) := by subst hK; exact h
theorem kIL (h : PI X x y (iList X.K ta)) (hK : X.K = K := by rfl) : PI X x y (iList K ta) := by subst hK; exact h
theorem kIET (h : PI X x y (iEnumT X.K t)) (hK : X.K = K := by rfl) : PI X x y (iEnumT K t) := by subst hK; exact h
theorem kIE (h : PI X x y (iEnum X.K t)) (hK : X.K = K := by rfl) : PI X x y (iEnum K t) := by subst hK; exact h
theorem kSt {te : TE} (h : PA X es (StX.tStar X.K te t)) (hK : X.K = K := by rfl) : PA X es (StX.tStar K te t) := by subst hK; exact h
end
end Z
set_option maxHeartbeats 1000000
namespace Z
open PySem PySem.Spec PyProof.Rows L2
end Z
set_option maxHeartbeats 1000000
namespace Z
open PySem PySem.Spec PyProof.Rows L2
def adR (n : Nat) : List Addr := cStatics :: mainGlobals :: List.range n
def seeR (n : Nat) (fa : List (Fg → Bool)) (fn : List DefZ) (g : Addr → Option Obj) : Seen := lookZ fa fn (He.frG g (adR n))
def hookR (n : Nat) (fa : List (Fg → Bool)) (fn : List DefZ) : PySem.W.Hook where
 α := Seen
 obs := fun s => seeR n fa fn s.heap.get?
 val := fun _ => (true, fn.map DefZ.due)
 says := fun _ h => ∃ K : Fg, K.In h ∧ SaysZ fa fn K
 of := fun _ _ e => ⟨_, He.frG_in, e⟩
 keeps := fun _ _ _ ⟨K, hK, c⟩ k => ⟨K, PySem.W.Frag.In.keeps hK k, c⟩
theorem seeR_eq {n : Nat} {fa : List (Fg → Bool)} {fn : List DefZ} {g : Addr → Option Obj} {s : Shared} (h : ∀ a, g a = s.heap.get? a) : seeR n fa fn g = (hookR n fa fn).obs s := by
 obtain rfl : g = s.heap.get? := funext h
 rfl
end Z
set_option maxHeartbeats 1000000
namespace Z
open PySem PySem.Spec PyProof.Rows L2
end Z
namespace Z
open PySem PySem.Spec PyProof.Rows L2
end Z
set_option maxHeartbeats 1000000
namespace Z
open PySem PySem.Spec PyProof.Rows L2
end Z
set_option maxHeartbeats 1000000
namespace Z
open PySem PySem.Spec PyProof.Rows L2
end Z
set_option maxHeartbeats 1000000
namespace Z
open PySem PySem.Spec PyProof.Rows L2
section
variable {X : Cx} {k : Nat} {f C : Addr} {ps : List Str} {sp : Sp} {E : XK}
def rEqO (C : Addr) (sp : Sp) (E : XK) : R2 := fun x y H Q => ∃ a b dx dy fs gs, x = .ref a ∧ y = .ref b ∧ H a = some (.ins C dx fs) ∧ H b = some (.ins C dy gs) ∧ sp [.ref a, .ref b] H (fun v H2 => ∃ c, v = .bl c ∧ Q (.bl c) H2) E
theorem op_eqO (hs : PySem.W.findIn X.K (.ref C) "__eq__" = some (some (.ref f))) (hfn : PySem.W.isFn X.K (.ref f) = true) (F : FnX X k f ps sp) (c : Cal X.K f ps []) (hr : Room k X.A) (hx : Passes (L2.CX X.prog X.w) X E) : OpR X (compareOp .Eq) (rEqO C sp E) := by
 intro pins s σ H x y v u Q I rx ry h
 obtain ⟨a, b, dx, dy, fs, gs, rfl, rfl, ea, eb, q⟩ := h
 obtain rfl : v = Value.ref a := rx
 obtain rfl : u = Value.ref b := ry
 obtain ⟨mA, O, _⟩ := ins_get I.hok ea
 obtain ⟨mB, O2, _⟩ := ins_get I.hok eb
 obtain ⟨od, J, _⟩ := O.look
 obtain ⟨od2, J2, _⟩ := O2.look
 obtain ⟨mf, fr⟩ := I.fr
 show wpAny (model X.prog X.w) X.A (richCompare .Eq (.ref a) (.ref b)) (EP X pins σ Q) X.xe s
 refine PySem.W.cmp_K (op := .Eq) (tb := .ref C) hr.units0 fr I.mod.kin J J2.type (by simp [PySem.W.notFirst]) hs hfn (thn (run_in0 F c hr hx I (.cons (show L2.RelV (.ref a) (.ref a) from rfl) (.cons (show L2.RelV (.ref b) (.ref b) from rfl) .nil)) q) fun r s' ⟨z, H2, I2, rz, w, ez, q2⟩ => ?_)
 subst ez
 cases rz
 exact ⟨.bl w, H2, I2, rfl, q2⟩
theorem call_isiOK (K : Fg) (hK : X.K = K := by rfl) : CallR X (.builtin "isinstance") (rIsi K) := by subst hK; exact call_isi
end
structure IsO (K : Fg) (C : Addr) : Prop where
 a : PySem.W.findIn K (.ref C) "__class__" = some (some (.builtin "object.__class__"))
 n : PySem.W.specialIn K (.builtin "object.__class__") "__get__" = some (some (.builtin "getset_descriptor.__get__"))
 t : PySem.W.takesIn K (.builtin "object.__class__") = some true
 m : PySem.W.mroIn K C (.type "object") = some true
 k : PySem.W.kitOne K (.ref C) (.ref C) = some true
def fIsO (x : Str) (K : Fg) : Bool := decide (PySem.W.findIn K (.ref (He.ga K x)) "__class__" = some (some (.builtin "object.__class__"))) && (decide (PySem.W.specialIn K (.builtin "object.__class__") "__get__" = some (some (.builtin "getset_descriptor.__get__"))) && (decide (PySem.W.takesIn K (.builtin "object.__class__") = some true) && (decide (PySem.W.mroIn K (He.ga K x) (.type "object") = some true) && decide (PySem.W.kitOne K (.ref (He.ga K x)) (.ref (He.ga K x)) = some true))))
theorem fIsO_ok {K : Fg} {x : Str} (h : fIsO x K = true) : IsO K (He.ga K x) := by
 unfold fIsO at h
 simp only [Bool.and_eq_true, decide_eq_true_eq] at h
 obtain ⟨h1, h2, h3, h4, h5⟩ := h
 exact ⟨h1, h2, h3, h4, h5⟩
theorem s_isiO {K : Fg} {H : Hp} {Q : VK} {a C dx : Addr} {fs : List (Str × V)} (h : H a = some (.ins C dx fs)) (cl : Cls K C) (i : IsO K C) (q : Q (.bl true) H) : rIsi K [.ref a, .ref C] H Q := ⟨.ref a, .ref C, .ref C, .ref C, true, rfl, .own C, .base (.ins h cl i.a i.n i.t i.m), i.k, q⟩
end Z
set_option maxHeartbeats 1000000
namespace Z
open PySem PySem.Spec PyProof.Rows L2
end Z
set_option maxHeartbeats 3200000
namespace Z
open PySem PySem.Spec PyProof.Rows L2 PySem.Froz
structure TxR (P : Program) (w : World) (D : SD) (l : List Str) : Prop where
 ok : TxOk P w D l
 nd : l.Nodup
 ris : Ris D.2.2.place.toList
 led : w.params.followText "set-order" = true ∨ D.2.2.led = true
theorem off_place (t : SetTable) : (if t.plain = true then { t with plain := false } else t).place = t.place ∧ (if t.plain = true then { t with plain := false } else t).led = t.led := by
 by_cases c : t.plain = true
 ·rw [if_pos c]; exact ⟨rfl, rfl⟩
 ·rw [if_neg c]; exact ⟨rfl, rfl⟩
theorem tail_place (ep : Nat) (es : Array (Int × Value)) (t : SetTable) (b : Bool) (r : Ris t.place.toList) : Ris (tailTx ep es t b).2.2.place.toList ∧ (tailTx ep es t b).2.2.led = t.led := by
 unfold tailTx
 split
 ·exact ⟨relayAll_ris _ _ _, relayAll_led _ _ _⟩
 ·exact ⟨r, rfl⟩
theorem TxR.add {P : Program} {w : World} {D : SD} {l : List Str} {k : Str} (F : TxR P w D l) (u : Tok) (hk : k ∉ l) : TxR P w (addTx (hashStr w k) (.str k u) D) (k :: l) := by
 have r1 := layNew_ris D.2.2 D.1 (hashStr w k) (.str k u) F.ris
 have l1 := layNew_led D.2.2 D.1 (hashStr w k) (.str k u)
 obtain ⟨p1, p2⟩ := off_place (layNew D.2.2 D.1 (hashStr w k) (.str k u)).2.1
 obtain ⟨q1, q2⟩ := tail_place D.2.1 (layNew D.2.2 D.1 (hashStr w k) (.str k u)).1 _ (layNew D.2.2 D.1 (hashStr w k) (.str k u)).2.2.1 (by rw [p1]; exact r1)
 exact ⟨add_ok u F.ok, List.nodup_cons.mpr ⟨hk, F.nd⟩, q1, F.led.imp id fun z => q2.trans (p2.trans (l1.trans z))⟩
end Z
set_option maxHeartbeats 3200000
namespace Z
open PySem PySem.Spec PyProof.Rows L2 PySem.Froz
end Z
set_option maxHeartbeats 1000000
namespace Z
open PySem PySem.Spec PyProof.Rows L2
end Z
set_option maxHeartbeats 1000000
namespace Z
open PySem PySem.Spec PyProof.Rows L2
end Z
set_option maxHeartbeats 1000000
namespace Z
open PySem PySem.Spec PyProof.Rows L2
end Z
set_option maxHeartbeats 1000000
namespace Z
open PySem PySem.Spec PyProof.Rows L2
open He (ga ma)
end Z
set_option maxHeartbeats 1000000
namespace Z
open PySem PySem.Spec PyProof.Rows L2
open He (ga ma)
end Z
set_option maxHeartbeats 1000000
namespace Z
open PySem PySem.Spec PyProof.Rows L2
open PySem.W (minD AlikeAll min_list_data)
open He (ga ma)
section
variable {X : Cx}
def tCallI (C : Addr) (sp : Sp) (dvs : List V) (E : XK) (tf : TE) (t : TA) : TE := fun σ H Q => tf σ H fun y H1 => ∃ a, y = V.ref a ∧ t σ H1 fun vs H2 => (∃ dx fs, H2 a = some (.ins C dx fs)) ∧ sp ((V.ref a :: vs) ++ dvs) H2 Q E
variable {k : Nat} {f C : Addr} {ps : List Str} {sp : Sp} {dvs : List V} {pos : Pos} {e fe : Expr} {es : List Expr} {tf : TE} {t : TA} {E : XK}
end
theorem s_callI {σ : L2.St} {H : Hp} {Q : VK} {C : Addr} {sp : Sp} {dvs : List V} {E : XK} {tf : TE} {t : TA} (q : tf σ H fun y H1 => ∃ a, y = V.ref a ∧ t σ H1 fun vs H2 => (∃ dx fs, H2 a = some (.ins C dx fs)) ∧ sp ((V.ref a :: vs) ++ dvs) H2 Q E) : tCallI C sp dvs E tf t σ H Q := q
end Z
set_option maxHeartbeats 1000000
namespace Z
open PySem PySem.Spec PyProof.Rows L2
end Z
set_option maxHeartbeats 2000000
namespace Z
open PySem PySem.Spec PyProof.Rows L2
end Z
set_option maxHeartbeats 2000000
namespace Z
open PySem PySem.Spec PyProof.Rows L2
end Z
set_option maxHeartbeats 1000000
namespace Z
open PySem PySem.Spec PyProof.Rows L2
def isIntD (lo hi : Int) : PyData → Bool
 | .int i => decide (lo ≤ i ∧ i ≤ hi)
 | _ => false
def letters : List Nat := ("abcdefghijklmnopqrstuvwxyz" : Str).cps.toList
def isWord : PyData → Bool
 | .str z => !decide (V.str z = V.str "") && z.cps.toList.all fun c => decide (c ∈ letters)
 | _ => false
def isName (d : PyData) : Bool := isWord d && match d with
 | .str z => decide ((z.length : Int) ≤ 8)
 | _ => false
def isKind : PyData → Bool
 | .str z => inV (.str z) [.str "edge", .str "level"]
 | _ => false
def isSteps (n : Nat) : PyData → Bool
 | .tuple xs => decide ((1 : Int) ≤ xs.length) && decide ((xs.length : Int) ≤ n)
 | _ => false
def isLine : PyData → Bool
 | .tuple [a, b, c, e] => isName a && (isKind b && (isIntD 1 9 c && isSteps 8 e))
 | _ => false
theorem isLine_no {ds : List PyData} (h : ds.length ≠ 4) : isLine (.tuple ds) = false := by
 unfold isLine
 split
 ·rename_i e
  cases e
  simp at h
 ·rfl
def isWork : PyData → Bool
 | .tuple [a, b, c] => isName a && (isIntD 1 9 b && isIntD 1 99 c)
 | _ => false
theorem isWork_no {ds : List PyData} (h : ds.length ≠ 3) : isWork (.tuple ds) = false := by
 unfold isWork
 split
 ·rename_i e
  cases e
  simp at h
 ·rfl
abbrev lineWords : List V := [.str "ring", .str "quiet", .str "mask", .str "unmask"]
abbrev flagWords : List V := [.str "set", .str "clear", .str "await"]
def isStepX (kvs : List (Key × V)) (ws : List V) (w : Str) (x : PyData) : Bool :=
 if inV (.str w) lineWords = true then (match x with
  | .str y => (valV kvs (.inr y)).isSome && (!decide (V.str w = V.str "quiet") || decide (valV kvs (.inr y) = some (.str "level")))
  | _ => false)
 else if decide (V.str w = V.str "later") = true then (match x with
  | .str y => inV (.str y) ws
  | _ => false)
 else if inV (.str w) flagWords = true then isIntD 0 7 x
 else (decide (V.str w = V.str "run") && isIntD 1 99 x) || (decide (V.str w = V.str "bar") && isIntD 0 9 x)
def isStep (kvs : List (Key × V)) (ws : List V) : PyData → Bool
 | .tuple [.str w, x] => isStepX kvs ws w x
 | _ => false
def strVals (kvs : List (Key × V)) : Prop := ∀ k v, valV kvs k = some v → ∃ z, v = .str z
theorem isStep_no {kvs : List (Key × V)} {ws : List V} {ds : List PyData} (h : ds.length ≠ 2) : isStep kvs ws (.tuple ds) = false := by
 unfold isStep
 split
 ·rename_i e
  cases e
  simp at h
 ·rfl
def nameD : PyData → Str
 | .tuple (.str n :: _) => n
 | _ => ""
theorem isLine_name {d : PyData} (h : isLine d = true) : ∃ a b c e, d = .tuple [.str a, b, c, e] := by
 unfold isLine at h
 split at h
 ·rename_i a b c e
  obtain ⟨h1, _⟩ := Bool.and_eq_true_iff.mp h
  obtain ⟨h2, _⟩ := Bool.and_eq_true_iff.mp (show (isWord a && _) = true from h1)
  cases a <;> try (cases h2; done)
  exact ⟨_, b, c, e, rfl⟩
 ·cases h
theorem isWork_name {d : PyData} (h : isWork d = true) : ∃ a b c, d = .tuple [.str a, b, c] := by
 unfold isWork at h
 split at h
 ·rename_i a b c
  obtain ⟨h1, _⟩ := Bool.and_eq_true_iff.mp h
  obtain ⟨h2, _⟩ := Bool.and_eq_true_iff.mp (show (isWord a && _) = true from h1)
  cases a <;> try (cases h2; done)
  exact ⟨_, b, c, rfl⟩
 ·cases h
theorem isLine_name2 {d : PyData} (h : isLine d = true) : ∃ n r, d = .tuple (.str n :: r) := by
 obtain ⟨a, b, c, e, rfl⟩ := isLine_name h
 exact ⟨a, _, rfl⟩
theorem isWork_name2 {d : PyData} (h : isWork d = true) : ∃ n r, d = .tuple (.str n :: r) := by
 obtain ⟨a, b, c, rfl⟩ := isWork_name h
 exact ⟨a, _, rfl⟩
theorem inV_strs {x : Str} : ∀ {l : List Str}, inV (.str x) (l.map V.str) = decide (x ∈ l)
 | [] => rfl
 | y :: l => by
  show ((y == x) || inV (.str x) (l.map V.str)) = _
  rw [inV_strs (l := l)]
  by_cases h : x = y
  ·subst h
   simp
  ·have : (y == x) = false := beq_eq_false_iff_ne.mpr fun z => h z.symm
   simp [this, h]
theorem flat_strs : ∀ {l : List Str}, (l.map V.str).all flatV = true
 | [] => rfl
 | _ :: l => by
  show (true && (l.map V.str).all flatV) = true
  rw [flat_strs (l := l)]
  rfl
theorem nodup_take {α : Type} {l : List α} (h : l.Nodup) {i : Nat} {x : α} (e : l[i]? = some x) : ¬ x ∈ l.take i := fun hm => by
 obtain ⟨j, hj, ej⟩ := List.mem_iff_getElem.mp hm
 have hi : j < i := by rw [List.length_take] at hj; omega
 have e2 : l[j]? = some x := by
  rw [← ej, List.getElem_take]
  exact List.getElem?_eq_getElem _
 have := nd_ix h e2 e
 omega
end Z
set_option maxHeartbeats 1000000
namespace Z
open PySem PySem.Spec PyProof.Rows L2
open He (ga ma)
def tupO : HO → Bool
 | .tup _ => true
 | .frz _ _ => true
 | _ => false
def Fr (A : List Addr) (H H' : Hp) : Prop := (∀ a o, H a = some o → (a ∉ A ∨ tupO o = true) → H' a = some o) ∧ ∀ a, H' a = none → H a = none
section
variable {A B : List Addr} {H H1 H2 : Hp} {a : Addr} {o o' : HO}
theorem Fr.refl : Fr A H H := ⟨fun _ _ h _ => h, fun _ h => h⟩
theorem Fr.trans (x : Fr A H H1) (y : Fr A H1 H2) : Fr A H H2 := ⟨fun a o h n => y.1 a o (x.1 a o h n) n, fun a h => x.2 a (y.2 a h)⟩
theorem Fr.mono (x : Fr A H H1) (s : ∀ a ∈ A, a ∈ B) : Fr B H H1 := ⟨fun a o h n => x.1 a o h (n.imp (fun z z' => z (s a z')) id), x.2⟩
theorem Fr.same (x : Fr [] H H1) : Same H H1 := fun a o h => x.1 a o h (.inl (by simp))
theorem _root_.L2.Same.fr (s : Same H H1) : Fr A H H1 := ⟨fun a o h _ => s a o h, fun a h => by
 cases e : H a with
 | none => rfl
 | some o => rw [s a o e] at h; cases h⟩
theorem Fr.tk (x : Fr A H H1) : Tk H H1 := fun a h => by
 rcases h with ⟨xs, h⟩ | ⟨o, u, h⟩
 ·rw [h, x.1 a _ h (.inr rfl)]
 ·rw [h, x.1 a _ h (.inr rfl)]
theorem Fr.new (h : H a = none) : Fr A H (upd H a o) := (Same.new h).fr
theorem Fr.upd (hm : a ∈ A) (h : H a = some o) (ht : tupO o = false) : Fr A H (upd H a o') := by
 refine ⟨fun c u e n => ?_, fun c e => ?_⟩
 ·by_cases z : c = a
  ·subst z
   rw [h] at e
   cases e
   rcases n with n | n
   ·exact absurd hm n
   ·rw [ht] at n
    cases n
  ·rw [upd_ne z]
   exact e
 ·by_cases z : c = a
  ·subst z
   rw [upd_same] at e
   cases e
  ·rw [upd_ne z] at e
   exact e
theorem Fr.at (x : Fr A H H1) (h : H a = some o) (n : a ∉ A) : H1 a = some o := x.1 a o h (.inl n)
theorem Fr.back (x : Fr A H H1) (h : H1 a = none) : H a = none := x.2 a h
end
def kD : Key → PyData
 | .inl i => .int i
 | .inr z => .str z
structure Ln where
 nm : Str
 kd : Str
 rk : Int
 st : List (Str × Key)
structure Wk where
 nm : Str
 rk : Int
 tk : Int
structure Pl where
 ls : List Ln
 ws : List Wk
def dSt (s : Str × Key) : PyData := .tuple [.str s.1, kD s.2]
def dLn (l : Ln) : PyData := .tuple [.str l.nm, .str l.kd, .int l.rk, .tuple (l.st.map dSt)]
def dWk (w : Wk) : PyData := .tuple [.str w.nm, .int w.rk, .int w.tk]
def Pl.kinds (P : Pl) : List (Key × V) := P.ls.map fun l => (.inr l.nm, .str l.kd)
def Pl.names (P : Pl) : List Str := P.ls.map (·.nm)
def Pl.wnames (P : Pl) : List Str := P.ws.map (·.nm)
structure Pl.Ok (P : Pl) : Prop where
 ne : P.ls ≠ []
 l12 : P.ls.length ≤ 12
 w8 : P.ws.length ≤ 8
 lok : ∀ l ∈ P.ls, isLine (dLn l) = true
 wok : ∀ w ∈ P.ws, isWork (dWk w) = true
 lnd : P.names.Nodup
 wnd : P.wnames.Nodup
 sok : ∀ l ∈ P.ls, ∀ s ∈ l.st, isStep P.kinds (P.wnames.map V.str) (dSt s) = true
 shl : ∀ l ∈ P.ls, short (dLn l) = true
 shw : ∀ w ∈ P.ws, short (dWk w) = true ∧ (PyData.str w.nm).canLay0 = true
theorem tupd_kD (k : Key) : tupd (kD k) = true := by cases k <;> rfl
theorem tupds_map {α : Type} {f : α → PyData} (h : ∀ x, tupd (f x) = true) : ∀ l : List α, tupds (l.map f) = true
 | [] => rfl
 | x :: l => by
  show (tupd (f x) && tupds (l.map f)) = true
  rw [h x, tupds_map h l]
  rfl
theorem tupd_dSt (s : Str × Key) : tupd (dSt s) = true := by
 show (true && (tupd (kD s.2) && true)) = true
 rw [tupd_kD]
 rfl
theorem tupd_dLn (l : Ln) : tupd (dLn l) = true := by
 show (true && (true && (true && (tupds (l.st.map dSt) && true)))) = true
 rw [tupds_map tupd_dSt]
 rfl
theorem tupd_dWk (w : Wk) : tupd (dWk w) = true := rfl
theorem shorts_map {α : Type} {f : α → PyData} : ∀ {l : List α}, (∀ x ∈ l, short (f x) = true) → shorts (l.map f) = true
 | [], _ => rfl
 | x :: l, h => by
  show (short (f x) && shorts (l.map f)) = true
  rw [h x (by simp), shorts_map fun y hy => h y (List.mem_cons_of_mem _ hy)]
  rfl
def Pl.ln (P : Pl) (z : Str) : Ln := (P.ls.find? fun l => l.nm == z).getD ⟨z, "", 0, []⟩
def Pl.wk (P : Pl) (z : Str) : Wk := (P.ws.find? fun w => w.nm == z).getD ⟨z, 0, 0⟩
theorem find_nd {α : Type} {f : α → Str} : ∀ {l : List α} {x : α}, (l.map f).Nodup → x ∈ l → (l.find? fun y => f y == f x) = some x
 | y :: l, x, hn, hm => by
  rw [List.map_cons, List.nodup_cons] at hn
  rcases List.mem_cons.mp hm with rfl | hm
  ·simp
  ·have : (f y == f x) = false := beq_eq_false_iff_ne.mpr fun e => hn.1 (by rw [e]; exact List.mem_map_of_mem hm)
   rw [List.find?_cons, this]
   exact find_nd hn.2 hm
theorem Pl.Ok.ln_eq {P : Pl} (h : P.Ok) {l : Ln} (hl : l ∈ P.ls) : P.ln l.nm = l := by
 unfold Pl.ln
 rw [find_nd (f := Ln.nm) h.lnd hl]
 rfl
theorem Pl.Ok.wk_eq {P : Pl} (h : P.Ok) {w : Wk} (hl : w ∈ P.ws) : P.wk w.nm = w := by
 unfold Pl.wk
 rw [find_nd (f := Wk.nm) h.wnd hl]
 rfl
theorem Pl.Ok.ln_mem {P : Pl} (h : P.Ok) {z : Str} (hz : z ∈ P.names) : P.ln z ∈ P.ls ∧ (P.ln z).nm = z := by
 obtain ⟨l, hl, rfl⟩ := List.mem_map.mp hz
 rw [h.ln_eq hl]
 exact ⟨hl, rfl⟩
theorem Pl.Ok.wk_mem {P : Pl} (h : P.Ok) {z : Str} (hz : z ∈ P.wnames) : P.wk z ∈ P.ws ∧ (P.wk z).nm = z := by
 obtain ⟨l, hl, rfl⟩ := List.mem_map.mp hz
 rw [h.wk_eq hl]
 exact ⟨hl, rfl⟩
structure DictOf {α : Type} (K : Fg) (H : Hp) (rd : Addr) (nm : α → Str) (d : α → PyData) (l : List α) : Prop where
 at_ : ∃ kvs, H rd = some (.dK kvs) ∧ (∀ z, (valV kvs (.inr z)).isSome = decide (z ∈ l.map nm)) ∧ ∀ x ∈ l, ∃ v, valV kvs (.inr (nm x)) = some v ∧ Dp K H v (d x)
theorem DictOf.keep {α : Type} {K : Fg} {H H' : Hp} {rd : Addr} {nm : α → Str} {d : α → PyData} {l : List α} (h : DictOf K H rd nm d l) (e : H' rd = H rd) (t : Tk H H') (hd : ∀ x, tupd (d x) = true) : DictOf K H' rd nm d l := by
 obtain ⟨kvs, h1, h2, h3⟩ := h.at_
 refine ⟨kvs, by rw [e]; exact h1, h2, fun x hx => ?_⟩
 obtain ⟨v, h4, h5⟩ := h3 x hx
 exact ⟨v, h4, h5.tk t (hd x)⟩
def planF (a b rd wd : Addr) : List (Str × V) := [("line_rows", .ref a), ("work_rows", .ref b), ("rows_by_name", .ref rd), ("works_by_name", .ref wd)]
structure PA where
 p : Addr
 rd : Addr
 wd : Addr
def PA.own (D : PA) : List Addr := [D.p, D.rd, D.wd]
structure PlanAt (K : Fg) (H : Hp) (D : PA) (P : Pl) : Prop where
 ok : P.Ok
 ins : ∃ dx a b, H D.p = some (.ins (ga K "Setup") dx (planF a b D.rd D.wd)) ∧ Dp K H (.ref a) (.tuple (P.ls.map dLn)) ∧ Dp K H (.ref b) (.tuple (P.ws.map dWk))
 rows : DictOf K H D.rd (·.nm) dLn P.ls
 works : DictOf K H D.wd (·.nm) dWk P.ws
theorem PlanAt.keep {K : Fg} {H H' : Hp} {D : PA} {P : Pl} (h : PlanAt K H D P) {A : List Addr} (f : Fr A H H') (n : ∀ a ∈ D.own, a ∉ A) : PlanAt K H' D P := by
 obtain ⟨dx, a, b, h1, h2, h3⟩ := h.ins
 have e1 := f.at h1 (n _ (by simp [PA.own]))
 have e2 : H' D.rd = H D.rd := by
  obtain ⟨kvs, h1, _⟩ := h.rows.at_
  rw [h1, f.at h1 (n _ (by simp [PA.own]))]
 have e3 : H' D.wd = H D.wd := by
  obtain ⟨kvs, h1, _⟩ := h.works.at_
  rw [h1, f.at h1 (n _ (by simp [PA.own]))]
 refine ⟨h.ok, ⟨dx, a, b, e1, h2.tk f.tk (tupds_map tupd_dLn _), h3.tk f.tk (tupds_map tupd_dWk _)⟩, h.rows.keep e2 f.tk tupd_dLn, h.works.keep e3 f.tk tupd_dWk⟩
theorem PlanAt.same {K : Fg} {H H' : Hp} {D : PA} {P : Pl} (h : PlanAt K H D P) (f : Same H H') : PlanAt K H' D P := h.keep (A := []) f.fr (by simp)
theorem valV_notin {kvs : List (Key × V)} {k : Key} (h : k ∉ kvs.map (·.1)) : valV kvs k = none := by
 unfold valV
 rw [List.find?_eq_none.mpr fun x hx => ?_]
 ·rfl
 ·simp only [decide_eq_true_eq]
  intro e
  exact h (by rw [← e]; exact List.mem_map_of_mem hx)
theorem zip_fst {α β : Type} : ∀ {l : List α} {m : List β}, l.length = m.length → (l.zip m).map (·.1) = l
 | [], [], _ => rfl
 | _ :: l, _ :: m, h => by
  simp only [List.zip_cons_cons, List.map_cons]
  rw [zip_fst (by simpa using h)]
theorem dc_dat {K : Fg} {a : Addr} {xs : List V} {g : TG} {tt : TT} {tk tv : TE} {vs : List Nat} {σ : L2.St} {H1 : Hp} {D : Addr} {Qd : Hp → Prop} (ks : List Key) (vv : List V) (h1 : ks.length = xs.length) (h2 : ks.length = vv.length) (hnd : ks.Nodup) (hD : H1 D = none) (hT : SqT K H1 a xs) (hn : xs.length ≤ 40000)
  (hs : ∀ (i : Nat) (x : V) (k : Key) (v : V) (H : Hp) (Z : V → V → Hp → Prop) (N : Hp → Prop), xs[i]? = some x → ks[i]? = some k → vv[i]? = some v → Same H1 H → (∀ H5, Same H H5 → Z (kV k) v H5) →
   g x (wipe σ vs) H fun σ2 H2 => wipe σ2 vs = wipe σ vs ∧ tt σ2 H2 fun b H3 => if b = true then tk σ2 H3 fun y H4 => tv σ2 H4 fun z H5 => Z y z H5 else N H3)
  (hd : ∀ H', Same H1 H' → H' D = some (.dK (ks.zip vv)) → Qd H') :
  ∃ W : Nat → Nat → Hp → Prop, (∃ m, W 0 m (upd H1 D (.dK []))) ∧ ∀ i m H, W i m H →
   ((Itt K a).stop i H ∧ Qd H) ∨ ((Itt K a).go i H ∧ ∃ Nx : Hp → Prop, (∀ H', Nx H' → ∃ m', m' < m ∧ W (i + 1) m' H') ∧ ∀ x H', (Itt K a).yld i H x H' → g x (wipe σ vs) H' fun σ2 H2 => wipe σ2 vs = wipe σ vs ∧ tt σ2 H2 fun b H3 =>
    if b = true then tk σ2 H3 fun y H4 => tv σ2 H4 fun z H5 => ∃ kvs k, y = kV k ∧ H5 D = some (.dK kvs) ∧ kvs.length < sizeLine ∧ Nx (upd H5 D (.dK (putK kvs k z))) else Nx H3) := by
 have hz : (ks.zip vv).length = xs.length := by rw [List.length_zip]; omega
 refine dc_tup (fun i H => Same H1 H ∧ H D = some (.dK ((ks.zip vv).take i))) ⟨Same.new hD, upd_same⟩ (fun i H _ p => p.1.sqT hT) (fun i x H hx p => ?_) (fun H p => ?_)
 ·obtain ⟨s1, e1⟩ := p
  have hi : i < xs.length := (List.getElem?_eq_some_iff.mp hx).1
  have hk : ks[i]? = some ks[i] := List.getElem?_eq_getElem (by omega)
  have hv : vv[i]? = some vv[i] := List.getElem?_eq_getElem (by omega)
  refine hs i x _ _ H (fun y z H5 => ∃ kvs k, y = kV k ∧ H5 D = some (.dK kvs) ∧ kvs.length < sizeLine ∧ (Same H1 (upd H5 D (.dK (putK kvs k z))) ∧ upd H5 D (.dK (putK kvs k z)) D = some (.dK ((ks.zip vv).take (i + 1))))) _ hx hk hv s1 fun H5 s5 => ?_
  refine ⟨_, _, rfl, s5 _ _ e1, ?_, fun c o h => ?_, ?_⟩
  ·rw [List.length_take, sizeLine_eq]
   omega
  ·rw [upd_ne (ne_of_none h hD)]
   exact s5 _ _ (s1 _ _ h)
  ·have hzi : (ks.zip vv)[i]? = some (ks[i], vv[i]) := by
    rw [List.getElem?_eq_getElem (by omega), List.getElem_zip]
   have hno : valV ((ks.zip vv).take i) ks[i] = none := by
    refine valV_notin ?_
    rw [List.map_take, zip_fst h2]
    exact fun hm => by
     obtain ⟨j, hj, ej⟩ := List.mem_iff_getElem.mp hm
     have hji : j < i := by rw [List.length_take] at hj; omega
     have e2 : ks[j]? = some ks[i] := by
      rw [← ej, List.getElem_take]
      exact List.getElem?_eq_getElem _
     have := nd_ix hnd e2 hk
     omega
   rw [upd_same, putK_new _ hno, List.take_add_one, hzi]
   rfl
 ·obtain ⟨s1, e1⟩ := p
  rw [← hz, List.take_length] at e1
  exact hd H s1 e1
theorem valV_zip {ks : List Key} {vv : List V} (hnd : ks.Nodup) {i : Nat} {k : Key} {v : V} (hk : ks[i]? = some k) (hv : vv[i]? = some v) : valV (ks.zip vv) k = some v := by
 induction ks generalizing vv i with
 | nil => simp at hk
 | cons a l ih =>
  cases vv with
  | nil => simp at hv
  | cons b m =>
   rw [List.nodup_cons] at hnd
   cases i with
   | zero =>
    simp at hk hv
    subst hk hv
    exact valV_pos rfl
   | succ i =>
    have hk2 : l[i]? = some k := by simpa using hk
    have hne : ¬ a = k := fun e => hnd.1 (by rw [e]; exact List.mem_of_getElem? hk2)
    rw [List.zip_cons_cons, valV_neg hne]
    exact ih hnd.2 hk2 (by simpa using hv)
theorem dictOf_zip {α : Type} {K : Fg} {H : Hp} {rd : Addr} {nm : α → Str} {d : α → PyData} {l : List α} {vv : List V} (h : H rd = some (.dK ((l.map fun x => (Sum.inr (nm x) : Key)).zip vv))) (hnd : (l.map nm).Nodup) (ha : DpAll K H vv (l.map d)) : DictOf K H rd nm d l := by
 have hl : vv.length = l.length := by rw [ha.len, List.length_map]
 have hk : (l.map fun x => (Sum.inr (nm x) : Key)) = (l.map nm).map Sum.inr := by rw [List.map_map]; rfl
 have hn2 : (l.map fun x => (Sum.inr (nm x) : Key)).Nodup := by
  rw [hk]
  exact List.Pairwise.map Sum.inr (fun a b h e => h (Sum.inr.inj e)) hnd
 refine ⟨_, h, fun z => ?_, fun x hx => ?_⟩
 ·by_cases hz : z ∈ l.map nm
  ·obtain ⟨i, hi⟩ := List.mem_iff_getElem?.mp hz
   have hil : i < l.length := by have := (List.getElem?_eq_some_iff.mp hi).1; rwa [List.length_map] at this
   have h1 : (l.map fun x => (Sum.inr (nm x) : Key))[i]? = some (.inr z) := by rw [hk, List.getElem?_map, hi]; rfl
   have h2 : vv[i]? = some vv[i] := List.getElem?_eq_getElem (by omega)
   rw [valV_zip hn2 h1 h2, decide_eq_true hz]
   rfl
  ·rw [valV_notin, decide_eq_false hz]
   ·rfl
   ·rw [zip_fst (by rw [List.length_map, hl]), hk]
    intro hm
    obtain ⟨y, hy, e⟩ := List.mem_map.mp hm
    cases e
    exact hz hy
 ·obtain ⟨i, hi⟩ := List.mem_iff_getElem?.mp hx
  have h1 : (l.map fun x => (Sum.inr (nm x) : Key))[i]? = some (.inr (nm x)) := by rw [List.getElem?_map, hi]; rfl
  have h3 : (l.map d)[i]? = some (d x) := by rw [List.getElem?_map, hi]; rfl
  obtain ⟨v, hv, hd⟩ := ha.get h3
  exact ⟨v, valV_zip hn2 h1 hv, hd⟩
end Z
set_option maxHeartbeats 1000000
namespace Z
open PySem PySem.Spec PyProof.Rows L2
open LamX (lamCx lamEnv inv_table run_ofS CodeO codeO_ne TabB TabS among_app)
end Z
set_option maxHeartbeats 1000000
namespace Z
open PySem PySem.Spec PyProof.Rows L2
open He (ga ma)
section
variable {K : Fg} {σ : L2.St} {H H1 : Hp} {Q : VK} {g : TG} {tt : TT} {te tk tv tl : TE} {vs : List Nat} {x : V} {a : Addr} {xs : List V} {α : Type} {l : List α} {da : α → PyData}
def LcQ (J : It) (g : TG) (tt : TT) (te : TE) (vs : List Nat) (σ : L2.St) (Q : VK) (H1 : Hp) : Prop := ∀ D, H1 D = none → ∃ W : Nat → Nat → Hp → Prop, (∃ m, W 0 m (upd H1 D (.lst []))) ∧ ∀ i m H, W i m H →
 (J.stop i H ∧ Q (.ref D) H) ∨ (J.go i H ∧ ∃ Nx : Hp → Prop, (∀ H', Nx H' → ∃ m', m' < m ∧ W (i + 1) m' H') ∧ ∀ x H', J.yld i H x H' → g x (wipe σ vs) H' fun σ2 H2 => wipe σ2 vs = wipe σ vs ∧ tt σ2 H2 fun b H3 =>
  if b = true then te σ2 H3 fun y H4 => ∃ acc, H4 D = some (.lst acc) ∧ acc.length < sizeLine ∧ Nx (upd H4 D (.lst (acc ++ [y]))) else Nx H3)
def LcT (K : Fg) (g : TG) (tt : TT) (te : TE) (vs : List Nat) (σ : L2.St) (Q : VK) (x : V) (H1 : Hp) : Prop := ∃ a, x = .ref a ∧ (∃ xs, SqT K H1 a xs) ∧ LcQ (Itt K a) g tt te vs σ Q H1
def LcL (K : Fg) (g : TG) (tt : TT) (te : TE) (vs : List Nat) (σ : L2.St) (Q : VK) (x : V) (H1 : Hp) : Prop := ∃ a, x = .ref a ∧ (∃ xs, SqL K H1 a xs) ∧ LcQ (Itl K a) g tt te vs σ Q H1
theorem s_lcT (q : tl σ H fun x H1 => LcT K g tt te vs σ Q x H1) : tLc (iTup K tl) g tt te vs σ H Q := q
theorem s_lcL (q : tl σ H fun x H1 => LcL K g tt te vs σ Q x H1) : tLc (iList K tl) g tt te vs σ H Q := q
theorem lcT_d (hT : SqT K H1 a xs) (hA : DpAll K H1 xs (l.map da)) (p : α → Bool) (f : α → PyData) (hn : l.length ≤ 40000) (hf : ∀ x ∈ l, tupd (f x) = true)
  (hs : ∀ (x : α) (v : V) (H : Hp) (Yes : VK) (No : Hp → Prop), x ∈ l → Same H1 H → Dp K H v (da x) → (p x = true → ∀ y H4, Same H H4 → Dp K H4 y (f x) → Yes y H4) → (p x = false → ∀ H3, Same H H3 → No H3) →
   g v (wipe σ vs) H fun σ2 H2 => wipe σ2 vs = wipe σ vs ∧ tt σ2 H2 fun b H3 => if b = true then te σ2 H3 Yes else No H3)
  (hd : ∀ D H' ys, H1 D = none → Same H1 H' → H' D = some (.lst ys) → DpAll K H' ys ((l.filter p).map f) → Q (.ref D) H') : LcT K g tt te vs σ Q (.ref a) H1 := by
 have hlen : xs.length = l.length := by rw [hA.len, List.length_map]
 refine ⟨a, rfl, ⟨xs, hT⟩, fun D hD => ?_⟩
 refine lc_dat (K := K) walk_tup (pAt l p) (dAt l f) hD (by rw [hlen]; exact hn) (dAt_tupd hf) (fun H s => s.sqT hT) (fun i H x H' y => by rw [y.1]; exact Same.refl H) (fun i x H H' Yes No hi s1 y yes no => ?_) (fun H' ys s1 e1 a1 => ?_)
 ·obtain ⟨rfl, hx⟩ := y
  obtain ⟨d, hd', dd⟩ := hA.getv hx
  rw [List.getElem?_map] at hd'
  obtain ⟨z, hz, rfl⟩ := Option.map_eq_some_iff.mp hd'
  rw [pAt_eq hz, dAt_eq hz] at yes
  rw [pAt_eq hz] at no
  exact hs z x H' Yes No (List.mem_of_getElem? hz) s1 (dd.same s1) yes no
 ·rw [hlen, keptD_list] at a1
  exact hd D H' ys hD s1 e1 a1
def DcT (K : Fg) (g : TG) (tt : TT) (tk tv : TE) (vs : List Nat) (σ : L2.St) (Q : VK) (x : V) (H1 : Hp) : Prop := ∃ a, x = .ref a ∧ (∃ xs, SqT K H1 a xs) ∧ ∀ D, H1 D = none → ∃ W : Nat → Nat → Hp → Prop, (∃ m, W 0 m (upd H1 D (.dK []))) ∧ ∀ i m H, W i m H →
 ((Itt K a).stop i H ∧ Q (.ref D) H) ∨ ((Itt K a).go i H ∧ ∃ Nx : Hp → Prop, (∀ H', Nx H' → ∃ m', m' < m ∧ W (i + 1) m' H') ∧ ∀ x H', (Itt K a).yld i H x H' → g x (wipe σ vs) H' fun σ2 H2 => wipe σ2 vs = wipe σ vs ∧ tt σ2 H2 fun b H3 =>
  if b = true then tk σ2 H3 fun y H4 => tv σ2 H4 fun z H5 => ∃ kvs k, y = kV k ∧ H5 D = some (.dK kvs) ∧ kvs.length < sizeLine ∧ Nx (upd H5 D (.dK (putK kvs k z))) else Nx H3)
theorem s_dcT (q : tl σ H fun x H1 => DcT K g tt tk tv vs σ Q x H1) : tDc (iTup K tl) g tt tk tv vs σ H Q := q
theorem dcT_d (hT : SqT K H1 a xs) (hA : DpAll K H1 xs (l.map da)) (kf : α → Key) (vv : List V) (h2 : l.length = vv.length) (hnd : (l.map kf).Nodup) (hn : l.length ≤ 40000)
  (hs : ∀ (i : Nat) (x : α) (y v : V) (H : Hp) (Z : V → V → Hp → Prop) (N : Hp → Prop), x ∈ l → l[i]? = some x → xs[i]? = some y → vv[i]? = some v → Same H1 H → Dp K H y (da x) → (∀ H5, Same H H5 → Z (kV (kf x)) v H5) →
   g y (wipe σ vs) H fun σ2 H2 => wipe σ2 vs = wipe σ vs ∧ tt σ2 H2 fun b H3 => if b = true then tk σ2 H3 fun y H4 => tv σ2 H4 fun z H5 => Z y z H5 else N H3)
  (hd : ∀ D H', H1 D = none → Same H1 H' → H' D = some (.dK ((l.map kf).zip vv)) → Q (.ref D) H') : DcT K g tt tk tv vs σ Q (.ref a) H1 := by
 have hlen : xs.length = l.length := by rw [hA.len, List.length_map]
 refine ⟨a, rfl, ⟨xs, hT⟩, fun D hD => ?_⟩
 refine dc_dat (l.map kf) vv (by rw [List.length_map, hlen]) (by rw [List.length_map, h2]) hnd hD hT (by rw [hlen]; exact hn) (fun i x k v H Z N hx hk hv s1 z => ?_) (fun H' s1 e1 => hd D H' hD s1 e1)
 obtain ⟨d, hd', dd⟩ := hA.getv hx
 rw [List.getElem?_map] at hd' hk
 obtain ⟨w, hw, rfl⟩ := Option.map_eq_some_iff.mp hd'
 rw [hw] at hk
 cases hk
 exact hs i w x v H Z N (List.mem_of_getElem? hw) hw hx hv s1 (dd.same s1) z
theorem s_cval {C : Addr} {f : Str} {n : Int} {R : V → Prop} (h : ClsI K C f n) (q : R (.int n)) : ∃ C' mc v u, V.ref C = .ref C' ∧ ClX.CRead K C' mc ∧ ClX.CVal K C' mc f v u ∧ R v := by
 obtain ⟨mc, u, h1, h2⟩ := h
 exact ⟨C, mc, _, u, rfl, h1, h2, q⟩
theorem s_cvalg {ta : TE} {f : Str} (q : ta σ H fun x H1 => ∃ C mc v u, x = .ref C ∧ ClX.CRead K C mc ∧ ClX.CVal K C mc f v u ∧ Q v H1) : ClX.tCVal K ta f σ H Q := q
theorem s_eq0T {b : Addr} {neg : Bool} {xs : List V} (h1 : SqT K H a xs) (h2 : SqT K H b []) (q : Q (.bl (if neg then !xs.isEmpty else xs.isEmpty)) H) : rEq0 K neg (.ref a) (.ref b) H Q := ⟨a, b, xs, rfl, rfl, .inr ⟨h1, h2⟩, q⟩
theorem s_eq0L {b : Addr} {neg : Bool} {xs : List V} (h1 : SqL K H a xs) (h2 : SqL K H b []) (q : Q (.bl (if neg then !xs.isEmpty else xs.isEmpty)) H) : rEq0 K neg (.ref a) (.ref b) H Q := ⟨a, b, xs, rfl, rfl, .inl ⟨h1, h2⟩, q⟩
theorem s_ixO {C : Addr} {sp : Sp} {E : XK} {ta tb : TE} (q : ta σ H fun x H1 => tb σ H1 fun y H2 => ∃ a dx fs, x = .ref a ∧ H2 a = some (.ins C dx fs) ∧ sp [.ref a, y] H2 Q E) : tIxO C sp E ta tb σ H Q := q
variable {ea ec ed : L2.St → Hp → Prop} {eb : VK}
theorem s_fldS {ta tv : TE} {f : Str} (q : tv σ H fun y H1 => ta σ H1 fun x H2 => ∃ a C dx fs, x = .ref a ∧ H2 a = some (.ins C dx fs) ∧ Cls K C ∧ NoAttr K C f ∧ fs.length < 1000 ∧ ea σ (upd H2 a (.ins C dx (putF f y fs)))) : sFld K ta tv f (.mk ea eb ec ed) σ H := q
theorem s_fldput {C dx : Addr} {fs : List (Str × V)} {f : Str} {y : V} {R : Hp → Prop} (h : H a = some (.ins C dx fs)) (c : Cls K C) (n : NoAttr K C f) (hl : fs.length < 1000) (q : R (upd H a (.ins C dx (putF f y fs)))) :
  ∃ b C dx fs, V.ref a = .ref b ∧ H b = some (.ins C dx fs) ∧ Cls K C ∧ NoAttr K C f ∧ fs.length < 1000 ∧ R (upd H b (.ins C dx (putF f y fs))) := ⟨a, C, dx, fs, rfl, h, c, n, hl, q⟩
end
end Z
set_option maxHeartbeats 1000000
namespace Z
open PySem PySem.Spec PyProof.Rows L2
open He (ga ma)
def kI : Key → Int
 | .inl i => i
 | .inr _ => 0
def ordD (l : Ln) : PyData := .tuple [.int (0 - l.rk), .str l.nm]
def Pl.order (P : Pl) : List Str := (P.ls.mergeSort (PySem.W.dataLe false ordD)).map (·.nm)
def ticksOf (l : Ln) : Int := ((l.st.filter fun s => decide (s.1 = ("run" : Str))).map fun s => kI s.2).sum
theorem inV_str {w : Str} {l : List Str} (h : inV (.str w) (l.map V.str) = true) : w ∈ l := by
 rw [inV_strs] at h
 exact of_decide_eq_true h
theorem kinds_val {P : Pl} {z : Str} {v : V} (h : valV P.kinds (.inr z) = some v) : ∃ l ∈ P.ls, l.nm = z ∧ v = .str l.kd := by
 unfold valV at h
 obtain ⟨kv, h1, h2⟩ := Option.map_eq_some_iff.mp h
 obtain ⟨l, hl, rfl⟩ := List.mem_map.mp (List.mem_of_find?_eq_some h1)
 have h3 := List.find?_some h1
 exact ⟨l, hl, Sum.inr.inj (of_decide_eq_true h3), h2.symm⟩
theorem Pl.Ok.steps8 {P : Pl} (ok : P.Ok) {l : Ln} (hl : l ∈ P.ls) : l.st.length ≤ 8 := by
 have hk := ok.lok l hl
 simp only [isLine, dLn, isSteps, Bool.and_eq_true, decide_eq_true_eq, List.length_map] at hk
 omega
inductive StepIs (P : Pl) : Str × Key → Prop
 | run (i : Int) : 1 ≤ i → i ≤ 99 → StepIs P ("run", .inl i)
 | bar (i : Int) : 0 ≤ i → i ≤ 9 → StepIs P ("bar", .inl i)
 | later (z : Str) : z ∈ P.wnames → StepIs P ("later", .inr z)
 | flag (w : Str) (i : Int) : w ∈ (["set", "clear", "await"] : List Str) → 0 ≤ i → i ≤ 7 → StepIs P (w, .inl i)
 | line (w z : Str) : w ∈ (["ring", "quiet", "mask", "unmask"] : List Str) → z ∈ P.names → (w = "quiet" → (P.ln z).kd = "level") → StepIs P (w, .inr z)
theorem isInt_k {lo hi : Int} {k : Key} (h : isIntD lo hi (kD k) = true) : ∃ i, k = .inl i ∧ lo ≤ i ∧ i ≤ hi := by
 cases k with
 | inl i => exact ⟨i, rfl, of_decide_eq_true (show decide (lo ≤ i ∧ i ≤ hi) = true from h)⟩
 | inr z => cases h
theorem Pl.Ok.step {P : Pl} (ok : P.Ok) {l : Ln} (hl : l ∈ P.ls) {s : Str × Key} (hs : s ∈ l.st) : StepIs P s := by
 obtain ⟨w, k⟩ := s
 have h := ok.sok l hl _ hs
 have h' : isStepX P.kinds (P.wnames.map V.str) w (kD k) = true := h
 unfold isStepX at h'
 split at h'
 ·rename_i hw
  have hw' : w ∈ (["ring", "quiet", "mask", "unmask"] : List Str) := inV_str (show inV (.str w) ((["ring", "quiet", "mask", "unmask"] : List Str).map V.str) = true from hw)
  cases k with
  | inl i => cases h'
  | inr z =>
   have h2 : ((valV P.kinds (.inr z)).isSome && (!decide (V.str w = V.str "quiet") || decide (valV P.kinds (.inr z) = some (.str "level")))) = true := h'
   obtain ⟨h3, h4⟩ := Bool.and_eq_true_iff.mp h2
   obtain ⟨v, hv⟩ := Option.isSome_iff_exists.mp h3
   obtain ⟨m, hm, rfl, rfl⟩ := kinds_val hv
   refine .line w _ hw' (List.mem_map_of_mem hm) fun e => ?_
   rw [ok.ln_eq hm]
   subst e
   rw [hv] at h4
   simpa using h4
 ·split at h'
  ·rename_i hw
   have hw' : w = "later" := by simpa using hw
   subst hw'
   cases k with
   | inl i => cases h'
   | inr z => exact .later z (inV_str h')
  ·split at h'
   ·rename_i hw
    have hw' : w ∈ (["set", "clear", "await"] : List Str) := inV_str (show inV (.str w) ((["set", "clear", "await"] : List Str).map V.str) = true from hw)
    obtain ⟨i, rfl, h1, h2⟩ := isInt_k h'
    exact .flag w i hw' h1 h2
   ·rcases Bool.or_eq_true_iff.mp h' with h' | h'
    ·obtain ⟨h1, h2⟩ := Bool.and_eq_true_iff.mp h'
     obtain ⟨i, rfl, h3, h4⟩ := isInt_k h2
     have hw' : w = "run" := by simpa using h1
     subst hw'
     exact .run i h3 h4
    ·obtain ⟨h1, h2⟩ := Bool.and_eq_true_iff.mp h'
     obtain ⟨i, rfl, h3, h4⟩ := isInt_k h2
     have hw' : w = "bar" := by simpa using h1
     subst hw'
     exact .bar i h3 h4
theorem plF_lr {a b rd wd : Addr} : (planF a b rd wd).lookup ("line_rows" : Str) = some (.ref a) := by kernel_rfl
theorem plF_wr {a b rd wd : Addr} : (planF a b rd wd).lookup ("work_rows" : Str) = some (.ref b) := by kernel_rfl
theorem plF_rn {a b rd wd : Addr} : (planF a b rd wd).lookup ("rows_by_name" : Str) = some (.ref rd) := by kernel_rfl
theorem plF_wn {a b rd wd : Addr} : (planF a b rd wd).lookup ("works_by_name" : Str) = some (.ref wd) := by kernel_rfl
end Z
set_option maxHeartbeats 1000000
namespace Z
open PySem PySem.Spec PyProof.Rows L2
open He (ga ma)
structure Bd where
 shut : List Str
 wanted : List Str
 high : List Str
 taken : List Str
 raised : List Int
 joined : List (Str × Int)
def putL {α : Type} [DecidableEq α] (l : List α) (x : α) (b : Bool) : List α × Bool := if decide (x ∈ l) = b then (l, false) else (if b = true then l ++ [x] else l.erase x, true)
def bump (l : List (Str × Int)) (z : Str) : List (Str × Int) := l.map fun x => if x.1 = z then (x.1, x.2 + 1) else x
def Bd.ring (P : Pl) (B : Bd) (z : Str) : Bd × Bool :=
 if (P.ln z).kd = "edge" then (if z ∈ B.wanted then ({ B with joined := bump B.joined z }, false) else ({ B with wanted := B.wanted ++ [z] }, true))
 else (if z ∈ B.high then ({ B with joined := bump B.joined z }, false) else ({ B with high := B.high ++ [z] }, true))
def Bd.ended (B : Bd) (z : Str) : Bd := { B with taken := B.taken.erase z }
def kS : Key → Str
 | .inl _ => ""
 | .inr z => z
def Bd.carry (P : Pl) (B : Bd) (s : Str × Key) : Bd × Bool :=
 if s.1 = "ring" then B.ring P (kS s.2)
 else if s.1 = "quiet" then ({ B with high := (putL B.high (kS s.2) false).1 }, (putL B.high (kS s.2) false).2)
 else if s.1 = "mask" then ({ B with shut := (putL B.shut (kS s.2) true).1 }, (putL B.shut (kS s.2) true).2)
 else if s.1 = "unmask" then ({ B with shut := (putL B.shut (kS s.2) false).1 }, (putL B.shut (kS s.2) false).2)
 else if s.1 = "set" then ({ B with raised := (putL B.raised (kI s.2) true).1 }, (putL B.raised (kI s.2) true).2)
 else ({ B with raised := (putL B.raised (kI s.2) false).1 }, (putL B.raised (kI s.2) false).2)
structure Sub {α : Type} (l m : List α) : Prop where
 nd : l.Nodup
 sub : ∀ x ∈ l, x ∈ m
theorem Sub.nil {α : Type} {m : List α} : Sub [] m := ⟨.nil, by simp⟩
theorem Sub.add {α : Type} {l m : List α} {x : α} (h : Sub l m) (hn : x ∉ l) (hx : x ∈ m) : Sub (l ++ [x]) m := by
 refine ⟨?_, fun y hy => ?_⟩
 ·rw [List.nodup_append]
  exact ⟨h.nd, by simp, fun a ha b hb e => by simp at hb; subst hb; subst e; exact hn ha⟩
 ·rcases List.mem_append.mp hy with hy | hy
  ·exact h.sub y hy
  ·simp at hy
   subst hy
   exact hx
theorem Sub.erase {α : Type} [BEq α] [LawfulBEq α] {l m : List α} (x : α) (h : Sub l m) : Sub (l.erase x) m := ⟨h.nd.erase x, fun y hy => h.sub y (List.mem_of_mem_erase hy)⟩
theorem Sub.len {α : Type} [BEq α] [LawfulBEq α] : ∀ {l m : List α}, Sub l m → l.length ≤ m.length
 | [], _, _ => Nat.zero_le _
 | x :: l, m, h => by
  have hx := h.sub x (by simp)
  have hn := List.nodup_cons.mp h.nd
  have : Sub l (m.erase x) := ⟨hn.2, fun y hy => (List.mem_erase_of_ne fun e => hn.1 (by rw [← e]; exact hy)).mpr (h.sub y (List.mem_cons_of_mem _ hy))⟩
  have := this.len
  rw [List.length_erase_of_mem hx] at this
  have : 0 < m.length := List.length_pos_of_mem hx
  rw [List.length_cons]
  omega
theorem Sub.put {α : Type} [DecidableEq α] {l m : List α} {x : α} {b : Bool} (h : Sub l m) (hx : x ∈ m) : Sub (putL l x b).1 m := by
 unfold putL
 split
 ·exact h
 ·rename_i hn
  split
  ·rename_i hb
   subst hb
   exact h.add (by simpa using hn) hx
  ·exact h.erase x
def flagL : List Int := [0, 1, 2, 3, 4, 5, 6, 7]
theorem flagL_mem {i : Int} (h0 : 0 ≤ i) (h7 : i ≤ 7) : i ∈ flagL := by
 have : i = 0 ∨ i = 1 ∨ i = 2 ∨ i = 3 ∨ i = 4 ∨ i = 5 ∨ i = 6 ∨ i = 7 := by omega
 simp [flagL, this]
structure Bd.Ok (P : Pl) (B : Bd) : Prop where
 sh : Sub B.shut P.names
 wa : Sub B.wanted P.names
 hi : Sub B.high P.names
 ta : Sub B.taken P.names
 ra : Sub B.raised flagL
 jk : B.joined.map (·.1) = P.order
theorem bump_fst (l : List (Str × Int)) (z : Str) : (bump l z).map (·.1) = l.map (·.1) := by
 unfold bump
 rw [List.map_map]
 apply List.map_congr_left
 intro x _
 show (if x.1 = z then (x.1, x.2 + 1) else x).1 = x.1
 split <;> rfl
theorem Bd.Ok.ring {P : Pl} {B : Bd} (h : B.Ok P) {z : Str} (hz : z ∈ P.names) : (B.ring P z).1.Ok P := by
 unfold Bd.ring
 split
 ·split
  ·exact ⟨h.sh, h.wa, h.hi, h.ta, h.ra, by show (bump B.joined z).map (·.1) = _; rw [bump_fst]; exact h.jk⟩
  ·rename_i hn
   exact ⟨h.sh, h.wa.add hn hz, h.hi, h.ta, h.ra, h.jk⟩
 ·split
  ·exact ⟨h.sh, h.wa, h.hi, h.ta, h.ra, by show (bump B.joined z).map (·.1) = _; rw [bump_fst]; exact h.jk⟩
  ·rename_i hn
   exact ⟨h.sh, h.wa, h.hi.add hn hz, h.ta, h.ra, h.jk⟩
theorem Bd.Ok.ended {P : Pl} {B : Bd} (h : B.Ok P) (z : Str) : (B.ended z).Ok P := ⟨h.sh, h.wa, h.hi, h.ta.erase z, h.ra, h.jk⟩
def CarryIs (P : Pl) (s : Str × Key) : Prop := (s.1 ∈ (["ring", "quiet", "mask", "unmask"] : List Str) ∧ ∃ z, s.2 = .inr z ∧ z ∈ P.names) ∨ (s.1 ∈ (["set", "clear"] : List Str) ∧ ∃ i, s.2 = .inl i ∧ 0 ≤ i ∧ i ≤ 7)
theorem Bd.Ok.carry {P : Pl} {B : Bd} (h : B.Ok P) {s : Str × Key} (hs : CarryIs P s) : (B.carry P s).1.Ok P := by
 obtain ⟨w, k⟩ := s
 rcases hs with ⟨hw, z, e, hz⟩ | ⟨hw, i, e, h0, h7⟩
 ·simp only at e hw
  subst e
  simp only [List.mem_cons, List.not_mem_nil, or_false] at hw
  rcases hw with rfl | rfl | rfl | rfl
  ·exact h.ring hz
  ·exact ⟨h.sh, h.wa, h.hi.put hz, h.ta, h.ra, h.jk⟩
  ·exact ⟨h.sh.put hz, h.wa, h.hi, h.ta, h.ra, h.jk⟩
  ·exact ⟨h.sh.put hz, h.wa, h.hi, h.ta, h.ra, h.jk⟩
 ·simp only at e hw
  subst e
  simp only [List.mem_cons, List.not_mem_nil, or_false] at hw
  rcases hw with rfl | rfl
  ·exact ⟨h.sh, h.wa, h.hi, h.ta, h.ra.put (flagL_mem h0 h7), h.jk⟩
  ·exact ⟨h.sh, h.wa, h.hi, h.ta, h.ra.put (flagL_mem h0 h7), h.jk⟩
theorem Pl.Ok.len {P : Pl} (ok : P.Ok) : P.names.length ≤ 12 := by
 unfold Pl.names
 rw [List.length_map]
 exact ok.l12
theorem Sub.len12 {P : Pl} (ok : P.Ok) {l : List Str} (h : Sub l P.names) : l.length ≤ 12 := Nat.le_trans h.len ok.len
structure BA where
 b : Addr
 sh : Addr
 wa : Addr
 hi : Addr
 ta : Addr
 ra : Addr
 jo : Addr
def BA.own (D : BA) : List Addr := [D.b, D.sh, D.wa, D.hi, D.ta, D.ra, D.jo]
def boardF (p : Addr) (D : BA) : List (Str × V) := [("plan", .ref p), ("shut", .ref D.sh), ("wanted", .ref D.wa), ("high", .ref D.hi), ("taken", .ref D.ta), ("raised", .ref D.ra), ("joined", .ref D.jo)]
theorem bdF_plan {p : Addr} {D : BA} : (boardF p D).lookup ("plan" : Str) = some (.ref p) := by kernel_rfl
theorem bdF_sh {p : Addr} {D : BA} : (boardF p D).lookup ("shut" : Str) = some (.ref D.sh) := by kernel_rfl
theorem bdF_wa {p : Addr} {D : BA} : (boardF p D).lookup ("wanted" : Str) = some (.ref D.wa) := by kernel_rfl
theorem bdF_hi {p : Addr} {D : BA} : (boardF p D).lookup ("high" : Str) = some (.ref D.hi) := by kernel_rfl
theorem bdF_ta {p : Addr} {D : BA} : (boardF p D).lookup ("taken" : Str) = some (.ref D.ta) := by kernel_rfl
theorem bdF_ra {p : Addr} {D : BA} : (boardF p D).lookup ("raised" : Str) = some (.ref D.ra) := by kernel_rfl
theorem bdF_jo {p : Addr} {D : BA} : (boardF p D).lookup ("joined" : Str) = some (.ref D.jo) := by kernel_rfl
def joinK (l : List (Str × Int)) : List (Key × V) := l.map fun x => (.inr x.1, .int x.2)
structure BoardAt (K : Fg) (H : Hp) (p : Addr) (D : BA) (B : Bd) : Prop where
 nd : D.own.Nodup
 ins : ∃ dx, H D.b = some (.ins (ga K "Board") dx (boardF p D))
 sh : H D.sh = some (.lst (B.shut.map V.str))
 wa : H D.wa = some (.lst (B.wanted.map V.str))
 hi : H D.hi = some (.lst (B.high.map V.str))
 ta : H D.ta = some (.lst (B.taken.map V.str))
 ra : H D.ra = some (.lst (B.raised.map V.int))
 jo : H D.jo = some (.dK (joinK B.joined))
section
variable {K : Fg} {H H' : Hp} {p : Addr} {D : BA} {B : Bd}
theorem BoardAt.keep (h : BoardAt K H p D B) {A : List Addr} (f : Fr A H H') (n : ∀ a ∈ D.own, a ∉ A) : BoardAt K H' p D B := by
 have n' : D.b ∉ A ∧ D.sh ∉ A ∧ D.wa ∉ A ∧ D.hi ∉ A ∧ D.ta ∉ A ∧ D.ra ∉ A ∧ D.jo ∉ A := by simpa [BA.own] using n
 obtain ⟨n1, n2, n3, n4, n5, n6, n7⟩ := n'
 obtain ⟨dx, e⟩ := h.ins
 exact ⟨h.nd, ⟨dx, f.at e n1⟩, f.at h.sh n2, f.at h.wa n3, f.at h.hi n4, f.at h.ta n5, f.at h.ra n6, f.at h.jo n7⟩
theorem BoardAt.same (h : BoardAt K H p D B) (s : Same H H') : BoardAt K H' p D B := h.keep (A := []) s.fr (by simp)
local macro_rules | `(tactic| walk_at "bd") => `(tactic| (rw [upd_ne (by first | assumption | (apply Ne.symm; assumption))]; assumption))
local macro_rules | `(tactic| walk_at "bd") => `(tactic| exact upd_same)
end
end Z
set_option maxHeartbeats 2000000
namespace Z
open PySem PySem.Spec PyProof.Rows L2
end Z
set_option maxHeartbeats 2000000
namespace Z
open PySem PySem.Spec PyProof.Rows L2
end Z
set_option maxHeartbeats 1000000
namespace Z
open PySem PySem.Spec PyProof.Rows L2
open He (ga ma)
def cga (K : Fg) (C : Addr) (m : Str) : Addr := match PySem.W.recIn K (ma K C m) "classmethod" with
 | some (.ref g :: _) => g
 | _ => 0
structure CMZ (K : Fg) (C : Addr) (m : Str) : Prop where
 rd : ClX.CRead K C (.type "type")
 met : ClX.CMet K C (.type "type") m (ma K C m) (cga K C m)
def fCm (x m : Str) (K : Fg) : Bool := PySem.W.readsIn K (ga K x) (.type "type") && decide (PySem.W.specialIn K (.ref (ga K x)) "__getattribute__" = some (some (.builtin "type.__getattribute__"))) &&
 (match PySem.W.findCls K (.ref (ga K x)) (.type "type") m with
 | some (.get (.builtin b) (.ref p) .none (.ref c)) => decide (b = "classmethod.__get__") && decide (p = ma K (ga K x) m) && decide (c = ga K x)
 | _ => false) && (match PySem.W.recIn K (ma K (ga K x) m) "classmethod" with
 | some (.ref _ :: _) => true
 | _ => false) && PySem.W.fnIn K (cga K (ga K x) m)
theorem fCm_ok {K : Fg} {x m : Str} (h : fCm x m K = true) : CMZ K (ga K x) m := by
 unfold fCm at h
 simp only [Bool.and_eq_true, decide_eq_true_eq] at h
 obtain ⟨⟨⟨⟨h1, h2⟩, h3⟩, h4⟩, h5⟩ := h
 refine ⟨⟨h1, h2⟩, ?_, ?_, h5⟩
 ·split at h3
  ·rename_i b p c e
   simp only [Bool.and_eq_true, decide_eq_true_eq] at h3
   obtain ⟨⟨rfl, rfl⟩, rfl⟩ := h3
   exact e
  ·cases h3
 ·unfold cga
  split at h4
  ·rename_i g r e
   rw [e]
   exact ⟨r, rfl⟩
  ·cases h4
section
variable {X : Cx} {k : Nat} {C g : Addr} {sp : Sp} {E : XK} {o e : Expr} {es : List Expr} {m x : Str} {p pos apos : Pos} {ta : TE} {t : TA} {pl : Sem Bool} {ps : List Str} {f : Addr} {i : Nat}
theorem z_cmeth (he : PE X o ta) (z : CMZ X.K C m) (F : FnX X k (cga X.K C m) ps sp) (c : Cal X.K (cga X.K C m) ps []) (hr : Room k X.A) (hx : Passes (L2.CX X.prog X.w) X E) (ha : L2.PA X (e :: es) t)
  (hst : starEach (e :: es) X.env = (false, eval e X.env) :: starEach es X.env := by rfl) (hpl : (backTo pos (starEach es X.env)).any (·.1) = false := by rfl)
  (ht : eval (.Call (.Attribute o m apos) (e :: es) [] pos) X.env = (do
   let ov ← eval o X.env; standAt apos.atName
   let (f, first) ← holding [ov] (getMethod ov m pl); callWith pos f first (backTo pos (starEach (e :: es) X.env)) (backToKw pos (keywordEach [] X.env))) := by rfl) :
  PE X (.Call (.Attribute o m apos) (e :: es) [] pos) (ClX.tCMeth C sp E ta t) := by
 obtain ⟨ds, hb, hd⟩ := c.b
 cases hd
 have G := (F.raw hb .nil).imp (sp' := sp) fun vs H Q E h => by rw [List.append_nil]; exact h
 exact ClX.pe_cmeth he z.rd z.met G hr hx ha hst hpl ht
def tMakeV (i : Nat) (C : Addr) (sp : Sp) (E : XK) (t : TA) : TE := fun σ H Q => σ[i]? = some (some (.ref C)) ∧ tMake C sp [] E t σ H Q
theorem z_makeV (hN : X.N[i]? = some x) (hv : Vis X.env.scope x) (M : Mk X.K C f) (F : FnX X k f ps sp) (c : Cal X.K f ps []) (hr : Room (k + 1) X.A) (hx : Passes (L2.CX X.prog X.w) X E) (ha : L2.PA X (e :: es) t)
  (hd : (x == ("__debug__" : Str)) = false := by decide) (hcd : (x == ("__classdict__" : Str)) = false := by decide)
  (he : starEach (e :: es) X.env = (false, eval e X.env) :: starEach es X.env := by rfl) (hpl : (backTo pos (starEach es X.env)).any (·.1) = false := by rfl) :
  PE X (.Call (.Name x p) (e :: es) [] pos) (tMakeV i C sp E t) := by
 obtain ⟨ds, hb, hds⟩ := c.b
 refine ⟨fun pins s σ H Q I h => ?_⟩
 obtain ⟨hs, q⟩ := h
 refine wpAny_Call_Name_kw (thn ((pe_var (pos := p) (i := i) hN hv hd hcd).run pins s σ H (fun v' H1 => v' = .ref C ∧ H1 = H) I ⟨.ref C, hs, rfl, rfl⟩) fun u s1 ⟨v', H1, I1, r1, q1⟩ => ?_)
 obtain ⟨ev, eH⟩ := q1
 subst ev
 rw [eH] at I1
 obtain rfl : u = Value.ref C := r1
 refine PySem.W.callWith_K (h₀ := X.base) I1.ok.mod.kin M.kp (thn (ha.run pos pins s1 σ H _ I1 q) fun us s2 ⟨vs, H2, I2, r, q2⟩ => ⟨I2.kIn, ?_⟩) he hpl
 exact run_make M F hr hb hds hx I2 r q2
theorem call_strD : CallR X (.type "str") (fun xs H Q => (∃ i, xs = [.int i] ∧ i.natAbs.log2 < 1920 ∧ Q (.str (toString i)) H) ∨ ∃ a, xs = [.str a] ∧ Q (.str a) H) := by
 intro pins s σ H xs us Q I r h
 rcases h with h | h
 ·exact call_str_int pins s σ H xs us Q I r h
 ·exact SkE.call_str_str pins s σ H xs us Q I r h
end
theorem s_makeV {i : Nat} {C : Addr} {sp : Sp} {E : XK} {t : TA} {σ : L2.St} {H : Hp} {Q : VK} (h : σ[i]? = some (some (.ref C))) (q : tMake C sp [] E t σ H Q) : tMakeV i C sp E t σ H Q := ⟨h, q⟩
theorem s_cmeth {C : Addr} {sp : Sp} {E : XK} {ta : TE} {t : TA} {σ : L2.St} {H : Hp} {Q : VK} (q : ta σ H fun x H1 => x = .ref C ∧ t σ H1 fun vs H2 => sp (.ref C :: vs) H2 Q E) : ClX.tCMeth C sp E ta t σ H Q := q
end Z
set_option maxHeartbeats 1000000
namespace Z
open PySem PySem.Spec PyProof.Rows L2
open He (ga ma)
section
variable {K : Fg} {σ : L2.St} {H H1 : Hp} {Q : VK} {te tk tv tl td ty : TE} {a : Addr} {xs : List V} {kvs : List (Key × V)} {ea ec ed : L2.St → Hp → Prop} {eb : VK}
theorem s_daugg {rd : V → V → Hp → VK → Prop} (q : td σ H fun x H1 => ty σ H1 fun y H2 => ∃ a v, x = .ref a ∧ DGet H2 a y (some v) ∧ tv σ H2 fun y2 H3 => rd v y2 H3 fun z H4 => ∃ H5, DPut H4 a y z H5 ∧ ea σ H5) : sDAug td ty tv rd (.mk ea eb ec ed) σ H := q
theorem s_add {i j : Int} (q : Q (.int (i + j)) H) : rAdd (.int i) (.int j) H Q := ⟨i, j, rfl, rfl, q⟩
theorem s_disp {trs : List (TE × TE)} (q : ∀ p, H p = none → tPairs trs σ (upd H p (.dK [])) fun ps H2 => H2 p = some (.dK []) ∧ ∃ kvs : List (Key × V), ps = kvs.map (fun kv => (kV kv.1, kv.2)) ∧ kvs.length ≤ 15 ∧ Q (.ref p) (upd H2 p (.dK (mergeK [] kvs)))) : tDisp trs σ H Q := q
theorem s_pnil {R : List (V × V) → Hp → Prop} (q : R [] H) : tPairs [] σ H R := q
theorem s_pcons {R : List (V × V) → Hp → Prop} {trs : List (TE × TE)} (q : tk σ H fun x H1 => tv σ H1 fun y H2 => tPairs trs σ H2 fun ps H3 => R ((x, y) :: ps) H3) : tPairs ((tk, tv) :: trs) σ H R := q
theorem s_setL {p : Addr} {k : Int} {v : V} {j : Nat} {R : Hp → Prop} (h : H p = some (.lst xs)) (e : ixN xs.length k = some j) (q : R (upd H p (.lst (xs.set j v)))) : rSetL (.ref p) (.int k) v H R := ⟨p, xs, k, j, rfl, rfl, h, e, q⟩
theorem s_gsub {to ti : TE} {t : TSet} {v : V} {R : L2.St → Hp → Prop} (q : to σ H fun o H1 => ti σ H1 fun i H2 => t o i v H2 fun H3 => R σ H3) : gSub to ti t v σ H R := q
theorem s_augS {to ti : TE} {tget : V → V → Hp → VK → Prop} {tip : TIp} {tset : TSet} (q : to σ H fun o H1 => ti σ H1 fun i H2 => tget o i H2 fun x H3 => te σ H3 fun y H4 => tip x y H4 fun z H5 => tset o i z H5 fun H6 => ea σ H6) : tAugS to ti te tget tip tset (.mk ea eb ec ed) σ H := q
theorem s_ipI {f : Int → Int → Int} {i j : Int} (q : Q (.int (f i j)) H) : ipI f (.int i) (.int j) H Q := ⟨i, j, rfl, rfl, q⟩
theorem s_cat {b : Addr} {zs : List V} (h : H a = some (.lst xs)) (h2 : H b = some (.lst zs)) (hl : xs.length + zs.length ≤ sizeLine) (q : ∀ p, H p = none → Q (.ref p) (upd H p (.lst (xs ++ zs)))) : rCat (.ref a) (.ref b) H Q := ⟨a, b, xs, zs, rfl, rfl, h, h2, hl, q⟩
theorem s_fldaug {ta : TE} {rd : V → V → Hp → VK → Prop} {f : Str} (q : ta σ H fun x H1 => ∃ a C dx fs v, x = .ref a ∧ H1 a = some (.ins C dx fs) ∧ Cls K C ∧ NoAttr K C f ∧ fs.lookup f = some v ∧
 tv σ H1 fun y H2 => rd v y H2 fun z H3 => ∃ dx' fs', H3 a = some (.ins C dx' fs') ∧ fs'.length < 1000 ∧ ea σ (upd H3 a (.ins C dx' (putF f z fs')))) : sFldAug K ta tv rd f (.mk ea eb ec ed) σ H := q
end
theorem Fr.fresh {A : List Addr} {H H' : Hp} {a : Addr} (f : Fr A H H') (hn : a ∉ A) (h : H' a = none) : H a = none := f.back h
end Z
set_option maxHeartbeats 1000000
namespace Z
open PySem PySem.Spec PyProof.Rows L2
open He (ga ma)
structure Frm where
 ln : Str
 st : Nat
 tk : Nat
 kp : Int
structure Cr where
 frames : List Frm
 limit : Int
 jobs : List (Str × Nat)
abbrev Ev := Str × Str
def dEv (e : Ev) : PyData := .tuple [.str e.1, .str e.2]
def frV (f : Frm) : List V := [.str f.ln, .int f.st, .int f.tk, .int f.kp]
def jbV (j : Str × Nat) : List V := [.str j.1, .int j.2]
def leave (jobs : List (Str × Nat)) (z : Str) : List (Str × Nat) := if (z, 0) ∈ jobs then jobs else jobs ++ [(z, 0)]
def stepFx (P : Pl) (lim : Int) (jobs : List (Str × Nat)) (B : Bd) (s : Str × Key) : Int × List (Str × Nat) × Bd :=
 if s.1 = "bar" then (kI s.2, jobs, B) else if s.1 = "later" then (lim, leave jobs (kS s.2), B) else if s.1 ≠ "await" then (lim, jobs, (B.carry P s).1) else (lim, jobs, B)
def stops (B : Bd) (s : Str × Key) : Bool := decide (s.1 = ("run" : Str)) || (decide (s.1 = ("await" : Str)) && !decide (kI s.2 ∈ B.raised))
def passL (P : Pl) (fs : List Frm) (f : Frm) (lim : Int) (jobs : List (Str × Nat)) (B : Bd) : List (Str × Key) → Cr × Bd × List Ev
 | [] => (⟨fs, f.kp, jobs⟩, B.ended f.ln, [("end", f.ln)])
 | s :: r => if stops B s = true then (⟨fs ++ [f], lim, jobs⟩, B, []) else
  passL P fs { f with st := f.st + 1 } (stepFx P lim jobs B s).1 (stepFx P lim jobs B s).2.1 (stepFx P lim jobs B s).2.2 r
inductive Lsts (H : Hp) : List Addr → List (List V) → Prop
 | nil : Lsts H [] []
 | cons {a : Addr} {xs : List V} {as : List Addr} {xss : List (List V)} : H a = some (.lst xs) → Lsts H as xss → Lsts H (a :: as) (xs :: xss)
section
variable {H H' : Hp}
theorem Lsts.len : ∀ {as : List Addr} {xss : List (List V)}, Lsts H as xss → as.length = xss.length
 | _, _, .nil => rfl
 | _, _, .cons _ t => by rw [List.length_cons, List.length_cons, t.len]
theorem Lsts.keep {A : List Addr} (f : Fr A H H') : ∀ {as : List Addr} {xss : List (List V)}, Lsts H as xss → (∀ a ∈ as, a ∉ A) → Lsts H' as xss
 | _, _, .nil, _ => .nil
 | _, _, .cons h t, n => .cons (f.at h (n _ (by simp))) (t.keep f fun a ha => n a (List.mem_cons_of_mem _ ha))
theorem Lsts.get : ∀ {as : List Addr} {xss : List (List V)} {i : Nat} {a : Addr}, Lsts H as xss → as[i]? = some a → ∃ xs, xss[i]? = some xs ∧ H a = some (.lst xs)
 | _, _, _, _, .nil, h => by simp at h
 | _, _, 0, _, .cons h _, e => by
  simp at e
  subst e
  exact ⟨_, rfl, h⟩
 | _, _, i + 1, _, .cons _ t, e => by
  obtain ⟨xs, h1, h2⟩ := t.get (i := i) (by simpa using e)
  exact ⟨xs, by simpa using h1, h2⟩
theorem Lsts.app : ∀ {as bs : List Addr} {xss yss : List (List V)}, Lsts H as xss → Lsts H bs yss → Lsts H (as ++ bs) (xss ++ yss)
 | _, _, _, _, .nil, s => s
 | _, _, _, _, .cons h t, s => .cons h (t.app s)
theorem Lsts.snoc {as : List Addr} {xss : List (List V)} {x : List V} (h : Lsts H as (xss ++ [x])) : ∃ bs a, as = bs ++ [a] ∧ Lsts H bs xss ∧ H a = some (.lst x) := by
 induction xss generalizing as with
 | nil =>
  cases h with
  | cons h t =>
   cases t
   exact ⟨[], _, rfl, .nil, h⟩
 | cons y yss ih =>
  cases h with
  | cons h t =>
   obtain ⟨bs, a, rfl, h1, h2⟩ := ih t
   exact ⟨_ :: bs, a, rfl, .cons h h1, h2⟩
theorem Lsts.set : ∀ {as : List Addr} {xss : List (List V)} {a : Addr} {xs : List V} (i : Nat), Lsts H as xss → H a = some (.lst xs) → Lsts H (as.set i a) (xss.set i xs)
 | _, _, _, _, _, .nil, _ => .nil
 | _, _, _, _, 0, .cons h t, e => .cons e t
 | _, _, _, _, i + 1, .cons h t, e => .cons h (t.set i e)
theorem Lsts.take : ∀ {as : List Addr} {xss : List (List V)} (n : Nat), Lsts H as xss → Lsts H (as.take n) (xss.take n)
 | _, _, 0, _ => .nil
 | _, _, _ + 1, .nil => .nil
 | _, _, n + 1, .cons h t => .cons h (t.take n)
theorem Lsts.drop : ∀ {as : List Addr} {xss : List (List V)} (n : Nat), Lsts H as xss → Lsts H (as.drop n) (xss.drop n)
 | _, _, 0, h => h
 | _, _, _ + 1, .nil => .nil
 | _, _, n + 1, .cons _ t => t.drop n
theorem Lsts.dp {K : Fg} {α : Type} {f : α → List V} {d : α → List PyData} (hd : ∀ x, DpAll K H (f x) (d x)) : ∀ {as : List Addr} {l : List α}, Lsts H as (l.map f) → DpAll K H (as.map V.ref) (l.map fun x => .list (d x))
 | _, [], .nil => .nil
 | _, _ :: _, .cons h t => .cons (.lst (SqL.of h) (hd _)) (Lsts.dp hd t)
end
structure CA where
 c : Addr
 fr : Addr
 jo : Addr
 fs : List Addr
 js : List Addr
def CA.own (D : CA) : List Addr := D.c :: D.fr :: D.jo :: (D.fs ++ D.js)
def coreF (p fr jo : Addr) (lim : Int) : List (Str × V) := [("plan", .ref p), ("frames", .ref fr), ("limit", .int lim), ("jobs", .ref jo)]
theorem coF_plan {p fr jo : Addr} {lim : Int} : (coreF p fr jo lim).lookup ("plan" : Str) = some (.ref p) := by kernel_rfl
theorem coF_fr {p fr jo : Addr} {lim : Int} : (coreF p fr jo lim).lookup ("frames" : Str) = some (.ref fr) := by kernel_rfl
theorem coF_lim {p fr jo : Addr} {lim : Int} : (coreF p fr jo lim).lookup ("limit" : Str) = some (.int lim) := by kernel_rfl
theorem coF_jo {p fr jo : Addr} {lim : Int} : (coreF p fr jo lim).lookup ("jobs" : Str) = some (.ref jo) := by kernel_rfl
structure CoreAt (K : Fg) (H : Hp) (p : Addr) (D : CA) (C : Cr) : Prop where
 nd : D.own.Nodup
 ins : ∃ dx, H D.c = some (.ins (ga K "Core") dx (coreF p D.fr D.jo C.limit))
 fr : H D.fr = some (.lst (D.fs.map V.ref))
 jo : H D.jo = some (.lst (D.js.map V.ref))
 fs : Lsts H D.fs (C.frames.map frV)
 js : Lsts H D.js (C.jobs.map jbV)
section
variable {K : Fg} {H H' : Hp} {p : Addr} {D : CA} {C : Cr}
theorem CoreAt.keep (h : CoreAt K H p D C) {A : List Addr} (f : Fr A H H') (n : ∀ a ∈ D.own, a ∉ A) : CoreAt K H' p D C := by
 obtain ⟨dx, e⟩ := h.ins
 refine ⟨h.nd, ⟨dx, f.at e (n _ (by simp [CA.own]))⟩, f.at h.fr (n _ (by simp [CA.own])), f.at h.jo (n _ (by simp [CA.own])), h.fs.keep f fun a ha => n a (by simp [CA.own, ha]), h.js.keep f fun a ha => n a (by simp [CA.own, ha])⟩
theorem CoreAt.same (h : CoreAt K H p D C) (s : Same H H') : CoreAt K H' p D C := h.keep (A := []) s.fr (by simp)
structure CA.Sep (D : CA) : Prop where
 cfr : D.c ≠ D.fr
 cjo : D.c ≠ D.jo
 frjo : D.fr ≠ D.jo
 cfs : D.c ∉ D.fs
 cjs : D.c ∉ D.js
 frfs : D.fr ∉ D.fs
 frjs : D.fr ∉ D.js
 jofs : D.jo ∉ D.fs
 jojs : D.jo ∉ D.js
 fsn : D.fs.Nodup
 jsn : D.js.Nodup
 fj : ∀ a ∈ D.fs, a ∉ D.js
theorem CA.Sep.own {D : CA} (h : D.Sep) : D.own.Nodup := by
 simp only [CA.own, List.nodup_cons, List.mem_cons, List.mem_append, not_or]
 exact ⟨⟨h.cfr, h.cjo, h.cfs, h.cjs⟩, ⟨h.frjo, h.frfs, h.frjs⟩, ⟨h.jofs, h.jojs⟩, List.nodup_append.mpr ⟨h.fsn, h.jsn, fun a ha b hb e => h.fj a ha (by rw [e]; exact hb)⟩⟩
end
def EvAt (K : Fg) (H : Hp) (l : Addr) (es : List Ev) : Prop := ∃ xs, H l = some (.lst xs) ∧ DpAll K H xs (es.map dEv)
theorem tupd_dEv (e : Ev) : tupd (dEv e) = true := rfl
theorem EvAt.keep {K : Fg} {H H' : Hp} {l : Addr} {es : List Ev} {A : List Addr} (h : EvAt K H l es) (f : Fr A H H') (n : l ∉ A) : EvAt K H' l es := by
 obtain ⟨xs, h1, h2⟩ := h
 exact ⟨xs, f.at h1 n, h2.tk f.tk (tupds_map tupd_dEv _)⟩
end Z
set_option maxHeartbeats 1000000
namespace Z
open PySem PySem.Spec PyProof.Rows L2
open He (ga ma)
structure JOk (P : Pl) (jobs : List (Str × Nat)) : Prop where
 sub : ∀ j ∈ jobs, j.1 ∈ P.wnames
 pw : jobs.Pairwise fun a b => a.1 = b.1 → a.2 ≠ 0 ∧ b.2 = 0
theorem JOk.nil {P : Pl} : JOk P [] := ⟨by simp, .nil⟩
theorem pw_half {jobs : List (Str × Nat)} (h : jobs.Pairwise fun a b => a.1 = b.1 → a.2 ≠ 0 ∧ b.2 = 0) (p : Str × Nat → Bool) (hp : ∀ a b, p a = true → p b = true → ¬ (a.2 ≠ 0 ∧ b.2 = 0)) : ((jobs.filter p).map (·.1)).Nodup := by
 refine List.Pairwise.map (R := fun a b => p a = true ∧ p b = true ∧ (a.1 = b.1 → a.2 ≠ 0 ∧ b.2 = 0)) _ (fun a b hab e => hp a b hab.1 hab.2.1 (hab.2.2 e)) ?_
 have h1 := List.Pairwise.filter p h
 have h2 : ∀ a ∈ jobs.filter p, p a = true := fun a ha => (List.mem_filter.mp ha).2
 clear h
 generalize jobs.filter p = l at h1 h2
 induction h1 with
 | nil => exact .nil
 | cons hx ht ih =>
  refine .cons (fun b hb => ⟨h2 _ (by simp), h2 b (List.mem_cons_of_mem _ hb), hx b hb⟩) (ih fun a ha => h2 a (List.mem_cons_of_mem _ ha))
theorem JOk.len {P : Pl} (ok : P.Ok) {jobs : List (Str × Nat)} (h : JOk P jobs) : jobs.length ≤ 16 := by
 have w8 : P.wnames.length ≤ 8 := by unfold Pl.wnames; rw [List.length_map]; exact ok.w8
 have k1 : Sub ((jobs.filter fun a => decide (a.2 = 0)).map (·.1)) P.wnames := ⟨pw_half h.pw _ fun a b ha hb => by simp at ha; simp [ha], fun x hx => by
  obtain ⟨j, hj, rfl⟩ := List.mem_map.mp hx
  exact h.sub j (List.mem_filter.mp hj).1⟩
 have k2 : Sub ((jobs.filter fun a => !decide (a.2 = 0)).map (·.1)) P.wnames := ⟨pw_half h.pw _ fun a b ha hb => by simp at hb; simp [hb], fun x hx => by
  obtain ⟨j, hj, rfl⟩ := List.mem_map.mp hx
  exact h.sub j (List.mem_filter.mp hj).1⟩
 have l1 := k1.len
 have l2 := k2.len
 rw [List.length_map] at l1 l2
 have e : jobs.length = (jobs.filter fun a => decide (a.2 = 0)).length + (jobs.filter fun a => !decide (a.2 = 0)).length := by
  have e2 := List.length_eq_countP_add_countP (p := fun a : Str × Nat => decide (a.2 = 0)) (l := jobs)
  rw [← List.countP_eq_length_filter, ← List.countP_eq_length_filter]
  have e3 : (fun a : Str × Nat => decide (¬ (decide (a.2 = 0)) = true)) = fun a => !decide (a.2 = 0) := by
   funext a
   simp
  rw [e3] at e2
  exact e2
 omega
def Stands (P : Pl) (f : Frm) : Prop := ∃ s, (P.ln f.ln).st[f.st]? = some s ∧ (s.1 = "run" ∨ s.1 = "await")
structure FOk (P : Pl) (fs : List Frm) (B : Bd) : Prop where
 nm : ∀ f ∈ fs, f.ln ∈ P.names
 tk : ∀ f ∈ fs, f.ln ∈ B.taken
 nd : (fs.map (·.ln)).Nodup
 st : ∀ f ∈ fs, Stands P f
theorem FOk.len {P : Pl} (ok : P.Ok) {fs : List Frm} {B : Bd} (h : FOk P fs B) : fs.length ≤ 12 := by
 have : Sub (fs.map (·.ln)) P.names := ⟨h.nd, fun x hx => by
  obtain ⟨f, hf, rfl⟩ := List.mem_map.mp hx
  exact h.nm f hf⟩
 have := this.len12 ok
 rwa [List.length_map] at this
structure CSt (K : Fg) (H : Hp) (PD : PA) (P : Pl) (D : CA) (C : Cr) (E : BA) (B : Bd) : Prop where
 pl : PlanAt K H PD P
 co : CoreAt K H PD.p D C
 bd : BoardAt K H PD.p E B
 pd : ∀ a ∈ PD.own, a ∉ D.own ∧ a ∉ E.own
 de : ∀ a ∈ D.own, a ∉ E.own
 bok : B.Ok P
 jok : JOk P C.jobs
structure Chg (H : Hp) (D : CA) (E : BA) (H' : Hp) (D' : CA) : Prop where
 fr : Fr (D.own ++ E.own) H H'
 c : D'.c = D.c
 own : ∀ a ∈ D'.own, a ∈ D.own ∨ H a = none
theorem Chg.refl {H : Hp} {D : CA} {E : BA} : Chg H D E H D := ⟨Fr.refl, rfl, fun _ h => .inl h⟩
theorem Chg.trans {H H1 H2 : Hp} {D D1 D2 : CA} {E : BA} (x : Chg H D E H1 D1) (y : Chg H1 D1 E H2 D2) : Chg H D E H2 D2 := by
 refine ⟨⟨fun a o h n => ?_, fun a h => x.fr.back (y.fr.back h)⟩, y.c.trans x.c, fun a ha => ?_⟩
 ·refine y.fr.1 a o (x.fr.1 a o h n) ?_
  rcases n with n | n
  ·refine .inl fun z => n ?_
   rcases List.mem_append.mp z with z | z
   ·rcases x.own a z with z | z
    ·exact List.mem_append_left _ z
    ·rw [h] at z
     cases z
   ·exact List.mem_append_right _ z
  ·exact .inr n
 ·rcases y.own a ha with h | h
  ·exact x.own a h
  ·exact .inr (x.fr.back h)
theorem PlanAt.ex {K : Fg} {H : Hp} {D : PA} {P : Pl} (h : PlanAt K H D P) : ∀ a ∈ D.own, H a ≠ none := by
 obtain ⟨_, _, _, h1, _⟩ := h.ins
 obtain ⟨_, h2, _⟩ := h.rows.at_
 obtain ⟨_, h3, _⟩ := h.works.at_
 simp [PA.own, h1, h2, h3]
theorem BoardAt.ex {K : Fg} {H : Hp} {p : Addr} {D : BA} {B : Bd} (h : BoardAt K H p D B) : ∀ a ∈ D.own, H a ≠ none := by
 obtain ⟨_, h1⟩ := h.ins
 simp [BA.own, h1, h.sh, h.wa, h.hi, h.ta, h.ra, h.jo]
theorem Lsts.ex {H : Hp} : ∀ {as : List Addr} {xss : List (List V)}, Lsts H as xss → ∀ a ∈ as, H a ≠ none
 | _, _, .nil, _, h => by simp at h
 | _, _, .cons e t, a, h => by
  rcases List.mem_cons.mp h with rfl | h
  ·simp [e]
  ·exact t.ex a h
theorem CoreAt.ex {K : Fg} {H : Hp} {p : Addr} {D : CA} {C : Cr} (h : CoreAt K H p D C) : ∀ a ∈ D.own, H a ≠ none := by
 obtain ⟨_, h1⟩ := h.ins
 intro a ha
 simp only [CA.own, List.mem_cons, List.mem_append] at ha
 rcases ha with rfl | rfl | rfl | ha | ha
 ·simp [h1]
 ·simp [h.fr]
 ·simp [h.jo]
 ·exact h.fs.ex a ha
 ·exact h.js.ex a ha
section
variable {K : Fg} {H H' : Hp} {PD : PA} {P : Pl} {D D' : CA} {C C' : Cr} {E : BA} {B B' : Bd}
theorem CSt.same (h : CSt K H PD P D C E B) (s : Same H H') : CSt K H' PD P D C E B := ⟨h.pl.same s, h.co.same s, h.bd.same s, h.pd, h.de, h.bok, h.jok⟩
theorem Chg.same (s : Same H H') : Chg H D E H' D := ⟨s.fr, rfl, fun _ h => .inl h⟩
end
end Z
set_option maxHeartbeats 1000000
namespace Z
open PySem PySem.Spec PyProof.Rows L2
open He (ga ma)
theorem StepIs.carry {P : Pl} {s : Str × Key} (h : StepIs P s) (h1 : s.1 ≠ "run") (h2 : s.1 ≠ "bar") (h3 : s.1 ≠ "later") (h4 : s.1 ≠ "await") : CarryIs P s := by
 cases h with
 | run i _ _ => exact absurd rfl h1
 | bar i _ _ => exact absurd rfl h2
 | later z _ => exact absurd rfl h3
 | flag w i hm h0 h7 =>
  refine .inr ⟨?_, i, rfl, h0, h7⟩
  simp only [List.mem_cons, List.not_mem_nil, or_false] at hm ⊢
  rcases hm with rfl | rfl | rfl
  ·exact .inl rfl
  ·exact .inr rfl
  ·exact absurd rfl h4
 | line w z hm hz _ => exact .inl ⟨hm, z, rfl, hz⟩
structure PassOk (P : Pl) (r : Cr × Bd × List Ev) : Prop where
 bok : r.2.1.Ok P
 jok : JOk P r.1.jobs
 fok : FOk P r.1.frames r.2.1
theorem FOk.taken {P : Pl} {fs : List Frm} {B B' : Bd} (h : FOk P fs B) (e : B'.taken = B.taken) : FOk P fs B' := ⟨h.nm, fun f hf => by rw [e]; exact h.tk f hf, h.nd, h.st⟩
theorem FOk.snoc {P : Pl} {fs : List Frm} {f : Frm} {B : Bd} (h : FOk P fs B) (h1 : f.ln ∈ P.names) (h2 : f.ln ∈ B.taken) (h3 : f.ln ∉ fs.map (·.ln)) (h4 : Stands P f) : FOk P (fs ++ [f]) B := by
 refine ⟨fun g hg => ?_, fun g hg => ?_, ?_, fun g hg => ?_⟩
 ·rcases List.mem_append.mp hg with hg | hg
  ·exact h.nm g hg
  ·rw [List.mem_singleton.mp hg]; exact h1
 ·rcases List.mem_append.mp hg with hg | hg
  ·exact h.tk g hg
  ·rw [List.mem_singleton.mp hg]; exact h2
 ·rw [List.map_append, List.nodup_append]
  refine ⟨h.nd, by simp, fun a ha b hb e => ?_⟩
  rw [List.map_singleton, List.mem_singleton] at hb
  subst hb
  subst e
  exact h3 ha
 ·rcases List.mem_append.mp hg with hg | hg
  ·exact h.st g hg
  ·rw [List.mem_singleton.mp hg]; exact h4
theorem FOk.init {P : Pl} {fs : List Frm} {f : Frm} {B : Bd} (h : FOk P (fs ++ [f]) B) : FOk P fs B ∧ f.ln ∈ P.names ∧ f.ln ∈ B.taken ∧ f.ln ∉ fs.map (·.ln) ∧ Stands P f := by
 have hn := h.nd
 rw [List.map_append, List.nodup_append] at hn
 refine ⟨⟨fun g hg => h.nm g (List.mem_append_left _ hg), fun g hg => h.tk g (List.mem_append_left _ hg), hn.1, fun g hg => h.st g (List.mem_append_left _ hg)⟩, h.nm f (by simp), h.tk f (by simp), fun hm => ?_, h.st f (by simp)⟩
 exact hn.2.2 _ hm f.ln (by simp) rfl
def left1 (P : Pl) (f : Frm) : Nat := (P.ln f.ln).st.length - f.st + 1
def left (P : Pl) (fs : List Frm) : Nat := (fs.map (left1 P)).sum
end Z
set_option maxHeartbeats 1000000
namespace Z
open PySem PySem.Spec PyProof.Rows L2
open He (ga ma)
section
variable {K : Fg} {H H' : Hp} {a p : Addr} {o : HO} {xs : List V} {v : V} {d : PyData} {ds : List PyData}
theorem at_same (s : Same H H') (h : H a = some o) : H' a = some o := s a o h
theorem sqT_same (s : Same H H') (h : SqT K H a xs) : SqT K H' a xs := s.sqT h
theorem sqL_same (s : Same H H') (h : SqL K H a xs) : SqL K H' a xs := s.seq h
theorem dp_same (s : Same H H') (h : Dp K H v d) : Dp K H' v d := h.same s
theorem dpA_same (s : Same H H') (h : DpAll K H xs ds) : DpAll K H' xs ds := h.same s
theorem pl_same {D : PA} {P : Pl} (s : Same H H') (h : PlanAt K H D P) : PlanAt K H' D P := h.same s
theorem bd_same {D : BA} {B : Bd} (s : Same H H') (h : BoardAt K H p D B) : BoardAt K H' p D B := h.same s
theorem co_same {D : CA} {C : Cr} (s : Same H H') (h : CoreAt K H p D C) : CoreAt K H' p D C := h.same s
theorem cst_same {PD : PA} {P : Pl} {D : CA} {C : Cr} {E : BA} {B : Bd} (s : Same H H') (h : CSt K H PD P D C E B) : CSt K H' PD P D C E B := h.same s
theorem ev_same {l : Addr} {es : List Ev} (s : Same H H') (h : EvAt K H l es) : EvAt K H' l es := h.keep (A := []) s.fr (by simp)
end
theorem at0 {a : V} {r : List V} : atI (a :: r) 0 = some a := at_of (j := 0) rfl rfl
theorem at1 {a b : V} {r : List V} : atI (a :: b :: r) 1 = some b := at_of (j := 1) rfl rfl
theorem at2 {a b c : V} {r : List V} : atI (a :: b :: c :: r) 2 = some c := at_of (j := 2) rfl rfl
theorem at3 {a b c d : V} {r : List V} : atI (a :: b :: c :: d :: r) 3 = some d := at_of (j := 3) rfl rfl
theorem at4 {a b c d e : V} {r : List V} : atI (a :: b :: c :: d :: e :: r) 4 = some e := at_of (j := 4) rfl rfl
end Z
set_option maxHeartbeats 1000000
namespace Z
open PySem PySem.Spec PyProof.Rows L2
open He (ga ma)
structure COk (P : Pl) (C : Cr) (B : Bd) : Prop where
 bok : B.Ok P
 jok : JOk P C.jobs
 fok : FOk P C.frames B
theorem PassOk.cok {P : Pl} {r : Cr × Bd × List Ev} (h : PassOk P r) : COk P r.1 r.2.1 := ⟨h.bok, h.jok, h.fok⟩
theorem FOk.inj {P : Pl} {fs : List Frm} {f g : Frm} {B : Bd} (h : FOk P (fs ++ [f]) B) (e : g.ln = f.ln) (hs : Stands P g) : FOk P (fs ++ [g]) B := by
 obtain ⟨h1, h2, h3, h4, h5⟩ := h.init
 exact h1.snoc (by rw [e]; exact h2) (by rw [e]; exact h3) (by rw [e]; exact h4) hs
theorem left_le {P : Pl} (ok : P.Ok) {fs : List Frm} (h : ∀ f ∈ fs, f.ln ∈ P.names) : left P fs ≤ 9 * fs.length := by
 unfold left
 induction fs with
 | nil => exact Nat.le_refl _
 | cons f fs ih =>
  have h1 := ok.steps8 (ok.ln_mem (h f (by simp))).1
  have h2 := ih fun g hg => h g (List.mem_cons_of_mem _ hg)
  rw [List.map_cons, List.sum_cons, List.length_cons]
  have : left1 P f ≤ 9 := by unfold left1; omega
  omega
section
variable {K : Fg} {σ : L2.St} {H H1 : Hp} {Q : VK} {g : TG} {tt : TT} {te : TE} {vs : List Nat} {a : Addr} {xs : List V} {α : Type} {l : List α} {da : α → PyData}
def LcE (K : Fg) (g : TG) (tt : TT) (te : TE) (vs : List Nat) (σ : L2.St) (Q : VK) (us : List V) (H1 : Hp) : Prop := ∃ a xs, us = [.ref a] ∧ SqL K H1 a xs ∧ LcQ (Ite K a) g tt te vs σ Q H1
theorem s_lcE {ta : TA} (q : ta σ H fun us H1 => LcE K g tt te vs σ Q us H1) : tLc (iEnum K ta) g tt te vs σ H Q := q
end
section
variable {K : Fg} {σ : L2.St} {H : Hp} {Q : VK} {a : Addr} {xs : List V}
theorem s_sl {r : V → Option Int → Option Int → Hp → VK → Prop} {te : TE} {tl th : TO} (q : te σ H fun x H1 => tl σ H1 fun l H2 => th σ H2 fun u H3 => r x l u H3 Q) : L2.tSl r te tl th σ H Q := q
theorem s_nop {R : Option Int → Hp → Prop} (q : R none H) : tNoPart σ H R := q
theorem s_part {R : Option Int → Hp → Prop} {t : TE} (q : t σ H fun x H1 => ∃ i, x = .int i ∧ R (some i) H1) : tPart t σ H R := q
theorem s_slL {lo hi : Option Int} (h : SqL K H a xs) (q : ∀ p, H p = none → Q (.ref p) (upd H p (.lst (cutV xs lo hi)))) : rSlL K (.ref a) lo hi H Q := ⟨a, xs, rfl, h, q⟩
theorem cut_take (xs : List V) (k : Nat) : cutV xs none (some (k : Int)) = xs.take k := by
 unfold cutV
 rw [HT.sIx_none, HT.sIx_nat, List.drop_zero, Nat.sub_zero]
 by_cases h : k ≤ xs.length
 ·rw [Nat.min_eq_left h]
 ·rw [Nat.min_eq_right (by omega), List.take_of_length_le (by omega), List.take_of_length_le (by omega)]
end
end Z
set_option maxHeartbeats 1000000
namespace Z
open PySem PySem.Spec PyProof.Rows L2
open He (ga ma)
theorem while_e {c : TT} {tb : TS} {D : Ends} {σ : L2.St} {H : Hp} (Ex : L2.St → Hp → Prop) (hx : ∀ σ H, Ex σ H → D.nx σ H) (h : (∀ σ H, Ex σ H → D.nx σ H) → tWhile c tb D σ H) : tWhile c tb D σ H := h hx
theorem EvAt.ne {K : Fg} {H : Hp} {l : Addr} {es : List Ev} (h : EvAt K H l es) : H l ≠ none := by
 obtain ⟨xs, e, _⟩ := h
 rw [e]
 simp
theorem EvAt.len {K : Fg} {H : Hp} {l : Addr} {es : List Ev} (h : EvAt K H l es) : ∃ xs, H l = some (.lst xs) ∧ xs.length = es.length ∧ DpAll K H xs (es.map dEv) := by
 obtain ⟨xs, e, d⟩ := h
 exact ⟨xs, e, by rw [d.len, List.length_map], d⟩
theorem COk.len {P : Pl} (ok : P.Ok) {C : Cr} {B : Bd} (h : COk P C B) : left P C.frames ≤ 108 := by
 have h1 := left_le ok h.fok.nm
 have h2 := h.fok.len ok
 omega
end Z
set_option maxHeartbeats 1000000
namespace Z
open PySem PySem.Spec PyProof.Rows L2
open He (ga ma)
structure Sg where
 B : Bd
 C : Cr
 time : Int
 sums : List (Str × Int)
def sumKeys : List Str := ["call", "spun", "work", "idle"]
def Sg.ring (P : Pl) (G : Sg) (z : Str) : Sg := { G with B := (G.B.ring P z).1 }
structure SA where
 s : Addr
 su : Addr
 PD : PA
 D : CA
 E : BA
def SA.own (A : SA) : List Addr := A.s :: A.su :: (A.D.own ++ A.E.own)
def singF (A : SA) (time : Int) : List (Str × V) := [("plan", .ref A.PD.p), ("board", .ref A.E.b), ("core", .ref A.D.c), ("time", .int time), ("sums", .ref A.su)]
theorem sgF_plan {A : SA} {t : Int} : (singF A t).lookup ("plan" : Str) = some (.ref A.PD.p) := by kernel_rfl
theorem sgF_board {A : SA} {t : Int} : (singF A t).lookup ("board" : Str) = some (.ref A.E.b) := by kernel_rfl
theorem sgF_core {A : SA} {t : Int} : (singF A t).lookup ("core" : Str) = some (.ref A.D.c) := by kernel_rfl
theorem sgF_time {A : SA} {t : Int} : (singF A t).lookup ("time" : Str) = some (.int t) := by kernel_rfl
theorem sgF_sums {A : SA} {t : Int} : (singF A t).lookup ("sums" : Str) = some (.ref A.su) := by kernel_rfl
structure SgAt (K : Fg) (H : Hp) (A : SA) (P : Pl) (G : Sg) : Prop where
 cst : CSt K H A.PD P A.D G.C A.E G.B
 fok : FOk P G.C.frames G.B
 ins : ∃ dx, H A.s = some (.ins (ga K "Single") dx (singF A G.time))
 su : H A.su = some (.dK (joinK G.sums))
 sk : G.sums.map (·.1) = sumKeys
 ssu : A.s ≠ A.su
 sn : A.s ∉ A.PD.own ∧ A.s ∉ A.D.own ∧ A.s ∉ A.E.own
 sun : A.su ∉ A.PD.own ∧ A.su ∉ A.D.own ∧ A.su ∉ A.E.own
structure ChS (H : Hp) (A : SA) (H' : Hp) (A' : SA) : Prop where
 fr : Fr A.own H H'
 s : A'.s = A.s
 su : A'.su = A.su
 PD : A'.PD = A.PD
 E : A'.E = A.E
 c : A'.D.c = A.D.c
 own : ∀ a ∈ A'.own, a ∈ A.own ∨ H a = none
theorem ChS.refl {H : Hp} {A : SA} : ChS H A H A := ⟨Fr.refl, rfl, rfl, rfl, rfl, rfl, fun _ h => .inl h⟩
theorem ChS.same {H H' : Hp} {A : SA} (s : Same H H') : ChS H A H' A := ⟨s.fr, rfl, rfl, rfl, rfl, rfl, fun _ h => .inl h⟩
theorem Fr.seq {M N : List Addr} {H H1 H2 : Hp} (x : Fr M H H1) (y : Fr N H1 H2) (h : ∀ a ∈ N, a ∈ M ∨ H a = none) : Fr M H H2 := by
 refine ⟨fun a o e n => y.1 a o (x.1 a o e n) ?_, fun a e => x.back (y.back e)⟩
 rcases n with n | n
 ·refine .inl fun z => ?_
  rcases h a z with z | z
  ·exact n z
  ·rw [e] at z
   cases z
 ·exact .inr n
theorem ChS.trans {H H1 H2 : Hp} {A A1 A2 : SA} (x : ChS H A H1 A1) (y : ChS H1 A1 H2 A2) : ChS H A H2 A2 := by
 refine ⟨x.fr.seq y.fr x.own, y.s.trans x.s, y.su.trans x.su, y.PD.trans x.PD, y.E.trans x.E, y.c.trans x.c, fun a ha => ?_⟩
 rcases y.own a ha with h | h
 ·exact x.own a h
 ·exact .inr (x.fr.back h)
section
variable {K : Fg} {H H' : Hp} {A : SA} {P : Pl} {G : Sg}
theorem SgAt.keep (h : SgAt K H A P G) {N : List Addr} (f : Fr N H H') (n : ∀ a ∈ A.own, a ∉ N) (n2 : ∀ a ∈ A.PD.own, a ∉ N) : SgAt K H' A P G := by
 obtain ⟨dx, e⟩ := h.ins
 have hD : ∀ a ∈ A.D.own, a ∉ N := fun a ha => n a (by simp [SA.own, ha])
 have hE : ∀ a ∈ A.E.own, a ∉ N := fun a ha => n a (by simp [SA.own, ha])
 exact ⟨⟨h.cst.pl.keep f n2, h.cst.co.keep f hD, h.cst.bd.keep f hE, h.cst.pd, h.cst.de, h.cst.bok, h.cst.jok⟩, h.fok, ⟨dx, f.at e (n _ (by simp [SA.own]))⟩, f.at h.su (n _ (by simp [SA.own])), h.sk, h.ssu, h.sn, h.sun⟩
theorem SgAt.same (h : SgAt K H A P G) (s : Same H H') : SgAt K H' A P G := h.keep (N := []) s.fr (by simp) (by simp)
theorem SgAt.ex (h : SgAt K H A P G) : ∀ a ∈ A.own, H a ≠ none := by
 obtain ⟨dx, e⟩ := h.ins
 intro a ha
 simp only [SA.own, List.mem_cons, List.mem_append] at ha
 rcases ha with rfl | rfl | ha | ha
 ·simp [e]
 ·simp [h.su]
 ·exact h.cst.co.ex a ha
 ·exact h.cst.bd.ex a ha
theorem sg_same (s : Same H H') (h : SgAt K H A P G) : SgAt K H' A P G := h.same s
end
theorem s_make {C : Addr} {sp : Sp} {dvs : List V} {E : XK} {t : TA} {σ : L2.St} {H : Hp} {Q : VK} (q : t σ H fun vs H1 => ∀ x dx, H1 x = none → H1 dx = none → dx ≠ x →
 sp (.ref x :: (vs ++ dvs)) (upd (upd H1 dx (.own x)) x (.ins C dx [])) (fun v H2 => v = .non ∧ Q (.ref x) H2) E) : tMake C sp dvs E t σ H Q := q
theorem mkS {H H2 : Hp} {x dx : Addr} {o u : HO} (hx : H x = none) (hd : H dx = none) (e : upd (upd H dx o) x u = H2) : Same H H2 := by
 subst e
 intro a v h
 rw [upd_ne (ne_of_none h hx), upd_ne (ne_of_none h hd)]
 exact h
theorem mkE {H H2 : Hp} {x dx : Addr} {o u : HO} (e : upd (upd H dx o) x u = H2) : H2 x = some u := by
 subst e
 exact upd_same
end Z
set_option maxHeartbeats 1000000
namespace Z
open PySem PySem.Spec PyProof.Rows L2
open He (ga ma)
def dJob (j : Str × Nat) : PyData := .tuple [.str j.1, .int j.2]
theorem Fr.sqL {K : Fg} {N : List Addr} {H H' : Hp} {a : Addr} {xs : List V} (f : Fr N H H') (h : SqL K H a xs) (n : a ∉ N) : SqL K H' a xs := by
 rcases h with (h | ⟨o, h⟩) | h
 ·exact .inl (.inl (f.at h n))
 ·exact .inl (.inr ⟨o, f.at h n⟩)
 ·exact .inr h
theorem Fr.scr {K : Fg} {H H' : Hp} {r a : Addr} {xs : List V} (f : Fr [r] H H') (h : SqL K H a xs) (n : a ≠ r ∨ ∀ H, SqL K H a xs) : SqL K H' a xs := n.elim (fun n => f.sqL h (by simp [n])) fun z => z H'
structure RowAt (K : Fg) (H : Hp) (r sc : Addr) (ns : List Int) : Prop where
 row : ∃ i seed rest : Int, H r = some (.lst [.ref sc, .int i, .int seed, .int rest]) ∧ 0 ≤ i ∧ 0 ≤ seed ∧ seed < 2147483647
 scr : SqL K H sc (ns.map V.int)
 ne : sc ≠ r ∨ ∀ H, SqL K H sc (ns.map V.int)
theorem RowAt.keep {K : Fg} {H H' : Hp} {r sc : Addr} {ns : List Int} {N : List Addr} (h : RowAt K H r sc ns) (f : Fr N H H') (n1 : r ∉ N) (n2 : sc ∉ N ∨ ∀ H, SqL K H sc (ns.map V.int)) : RowAt K H' r sc ns := by
 obtain ⟨i, seed, rest, e, h1⟩ := h.row
 exact ⟨⟨i, seed, rest, f.at e n1, h1⟩, n2.elim (f.sqL h.scr) fun z => z H', h.ne⟩
theorem RowAt.same {K : Fg} {H H' : Hp} {r sc : Addr} {ns : List Int} (h : RowAt K H r sc ns) (s : Same H H') : RowAt K H' r sc ns := h.keep (N := []) s.fr (by simp) (.inl (by simp))
theorem RowAt.ex {K : Fg} {H : Hp} {r sc : Addr} {ns : List Int} (h : RowAt K H r sc ns) : H r ≠ none := by
 obtain ⟨i, seed, rest, e, _⟩ := h.row
 rw [e]
 simp
theorem row_same {K : Fg} {H H' : Hp} {r sc : Addr} {ns : List Int} (s : Same H H') (h : RowAt K H r sc ns) : RowAt K H' r sc ns := h.same s
end Z
set_option maxHeartbeats 1000000
namespace Z
open PySem PySem.Spec PyProof.Rows L2
section
variable {K : Fg} {H : Hp}
theorem s_catW {Q : VK} {a b : Addr} {xs ys : List V} (ha : SqT K H a xs) (hb : SqT K H b ys) (hz : xs.length + ys.length ≤ sizeLine) (q : ∀ c H', Same H H' → SqT K H' c (xs ++ ys) → Q (.ref c) H') : rCatA K (.ref a) (.ref b) H Q := by
 refine ⟨a, b, xs, ys, rfl, rfl, ha, hb, hz, fun e => ?_, fun _ e => ?_, fun _ _ p hp => q p _ (Same.new hp) (SqT.of upd_same)⟩
 ·subst e
  exact q b H (Same.refl H) hb
 ·subst e
  exact q a H (Same.refl H) (by rw [List.append_nil]; exact ha)
end
end Z
set_option maxHeartbeats 1000000
namespace Z
open PySem PySem.Spec PyProof.Rows L2
open LamX (lamCx lamEnv run_ofS CodeO TabB TabS LamS pe_act)
open He (ga ma)
end Z
set_option maxHeartbeats 1000000
namespace Z
open PySem PySem.Spec PyProof.Rows L2
open He (ga ma)
theorem str_len_app (a b : Str) : (a ++ b).length = a.length + b.length := by
 show (a.cps ++ b.cps).size = a.cps.size + b.cps.size
 exact Array.size_append
end Z
set_option maxHeartbeats 1000000
namespace T
open PySem PySem.Spec PyProof.Rows L2 Z
open He (ga ma)
def top (i : Nat) : Stmt := PySem.Challenge.pw_callbells_k03_texts_of_set_ups.main.body.getD i (.Pass ⟨0, 0, 0, 0⟩)
abbrev s_is_integer : Stmt := top 24
def d_is_integer : DefZ := ⟨fun K => ga K "is_integer", "is_integer", "is_integer", s_is_integer, []⟩
abbrev n_is_integer : List Str := ["value", "low", "high"]
theorem sc_is_integer : FnScope n_is_integer ["value", "low", "high"] (defScope s_is_integer) := ⟨rfl, rfl, rfl, by decide +kernel, rfl, by decide +kernel, by decide +kernel⟩
abbrev s_is_word : Stmt := top 25
def d_is_word : DefZ := ⟨fun K => ga K "is_word", "is_word", "is_word", s_is_word, []⟩
abbrev n_is_word : List Str := ["value", "letter"]
theorem sc_is_word : FnScope n_is_word ["value"] (defScope s_is_word) := ⟨rfl, rfl, rfl, by decide +kernel, rfl, by decide +kernel, by decide +kernel⟩
abbrev s_is_name : Stmt := top 26
def d_is_name : DefZ := ⟨fun K => ga K "is_name", "is_name", "is_name", s_is_name, []⟩
abbrev n_is_name : List Str := ["value"]
theorem sc_is_name : FnScope n_is_name ["value"] (defScope s_is_name) := ⟨rfl, rfl, rfl, by decide +kernel, rfl, by decide +kernel, by decide +kernel⟩
abbrev s_is_line : Stmt := top 27
def d_is_line : DefZ := ⟨fun K => ga K "is_line", "is_line", "is_line", s_is_line, []⟩
abbrev n_is_line : List Str := ["line"]
theorem sc_is_line : FnScope n_is_line ["line"] (defScope s_is_line) := ⟨rfl, rfl, rfl, by decide +kernel, rfl, by decide +kernel, by decide +kernel⟩
abbrev s_is_work : Stmt := top 28
def d_is_work : DefZ := ⟨fun K => ga K "is_work", "is_work", "is_work", s_is_work, []⟩
abbrev n_is_work : List Str := ["work"]
theorem sc_is_work : FnScope n_is_work ["work"] (defScope s_is_work) := ⟨rfl, rfl, rfl, by decide +kernel, rfl, by decide +kernel, by decide +kernel⟩
abbrev s_is_step : Stmt := top 29
def d_is_step : DefZ := ⟨fun K => ga K "is_step", "is_step", "is_step", s_is_step, []⟩
abbrev n_is_step : List Str := ["step", "kinds", "works", "word", "value"]
theorem sc_is_step : FnScope n_is_step ["step", "kinds", "works"] (defScope s_is_step) := ⟨rfl, rfl, rfl, by decide +kernel, rfl, by decide +kernel, by decide +kernel⟩
abbrev s_check_lines : Stmt := top 30
def d_check_lines : DefZ := ⟨fun K => ga K "check_lines", "check_lines", "check_lines", s_check_lines, []⟩
abbrev n_check_lines : List Str := ["lines", "most", "names", "index", "line"]
theorem sc_check_lines : FnScope n_check_lines ["lines", "most"] (defScope s_check_lines) := ⟨rfl, rfl, rfl, by decide +kernel, rfl, by decide +kernel, by decide +kernel⟩
abbrev s_check_works : Stmt := top 31
def d_check_works : DefZ := ⟨fun K => ga K "check_works", "check_works", "check_works", s_check_works, []⟩
abbrev n_check_works : List Str := ["works", "most", "names", "index", "work"]
theorem sc_check_works : FnScope n_check_works ["works", "most"] (defScope s_check_works) := ⟨rfl, rfl, rfl, by decide +kernel, rfl, by decide +kernel, by decide +kernel⟩
abbrev s_Setup_init : Stmt := inClass (top 32) 3
def d_Setup_init : DefZ := ⟨fun K => ma K (ga K "Setup") "__init__", "__init__", "Setup.__init__", s_Setup_init, [.adr (dfA (fun K => ma K (ga K "Setup") "__init__") 0)]⟩
abbrev n_Setup_init : List Str := ["self", "lines", "works", "kinds", "names", "index", "line", "work", "step"]
theorem sc_Setup_init : FnScope n_Setup_init ["self", "lines", "works"] (defScope s_Setup_init) := ⟨rfl, rfl, rfl, by decide +kernel, rfl, by decide +kernel, by decide +kernel⟩
abbrev s_Setup_parse : Stmt := inClass (top 32) 4
def d_Setup_parse : DefZ := ⟨fun K => cga K (ga K "Setup") "parse", "parse", "Setup.parse", s_Setup_parse, []⟩
abbrev n_Setup_parse : List Str := ["cls", "text", "lines", "works", "row", "line", "reader"]
theorem sc_Setup_parse : FnScope n_Setup_parse ["cls", "text"] (defScope s_Setup_parse) := ⟨rfl, rfl, rfl, by decide +kernel, rfl, by decide +kernel, by decide +kernel⟩
abbrev s_Setup_lines : Stmt := inClass (top 32) 5
def d_Setup_lines : DefZ := ⟨fun K => pga K (ga K "Setup") "lines", "lines", "Setup.lines", s_Setup_lines, []⟩
abbrev n_Setup_lines : List Str := ["self"]
theorem sc_Setup_lines : FnScope n_Setup_lines ["self"] (defScope s_Setup_lines) := ⟨rfl, rfl, rfl, by decide +kernel, rfl, by decide +kernel, by decide +kernel⟩
abbrev s_Setup_works : Stmt := inClass (top 32) 6
def d_Setup_works : DefZ := ⟨fun K => pga K (ga K "Setup") "works", "works", "Setup.works", s_Setup_works, []⟩
abbrev n_Setup_works : List Str := ["self"]
theorem sc_Setup_works : FnScope n_Setup_works ["self"] (defScope s_Setup_works) := ⟨rfl, rfl, rfl, by decide +kernel, rfl, by decide +kernel, by decide +kernel⟩
abbrev s_Setup_text : Stmt := inClass (top 32) 9
def d_Setup_text : DefZ := ⟨fun K => pga K (ga K "Setup") "text", "text", "Setup.text", s_Setup_text, []⟩
abbrev n_Setup_text : List Str := ["self", "rows", "line", "step", "part", "work", "row", "word"]
theorem sc_Setup_text : FnScope n_Setup_text ["self"] (defScope s_Setup_text) := ⟨rfl, rfl, rfl, by decide +kernel, rfl, by decide +kernel, by decide +kernel⟩
abbrev s_Setup_eq : Stmt := inClass (top 32) 14
def d_Setup_eq : DefZ := ⟨fun K => ma K (ga K "Setup") "__eq__", "__eq__", "Setup.__eq__", s_Setup_eq, []⟩
abbrev n_Setup_eq : List Str := ["self", "other"]
theorem sc_Setup_eq : FnScope n_Setup_eq ["self", "other"] (defScope s_Setup_eq) := ⟨rfl, rfl, rfl, by decide +kernel, rfl, by decide +kernel, by decide +kernel⟩
abbrev s_RowReader_init : Stmt := inClass (top 35) 0
def d_RowReader_init : DefZ := ⟨fun K => ma K (ga K "RowReader") "__init__", "__init__", "RowReader.__init__", s_RowReader_init, []⟩
abbrev n_RowReader_init : List Str := ["self", "line", "number"]
theorem sc_RowReader_init : FnScope n_RowReader_init ["self", "line", "number"] (defScope s_RowReader_init) := ⟨rfl, rfl, rfl, by decide +kernel, rfl, by decide +kernel, by decide +kernel⟩
abbrev s_RowReader_need : Stmt := inClass (top 35) 1
def d_RowReader_need : DefZ := ⟨fun K => ma K (ga K "RowReader") "need", "need", "RowReader.need", s_RowReader_need, []⟩
abbrev n_RowReader_need : List Str := ["self", "is_right"]
theorem sc_RowReader_need : FnScope n_RowReader_need ["self", "is_right"] (defScope s_RowReader_need) := ⟨rfl, rfl, rfl, by decide +kernel, rfl, by decide +kernel, by decide +kernel⟩
abbrev s_RowReader_is_over : Stmt := inClass (top 35) 2
def d_RowReader_is_over : DefZ := ⟨fun K => ma K (ga K "RowReader") "is_over", "is_over", "RowReader.is_over", s_RowReader_is_over, []⟩
abbrev n_RowReader_is_over : List Str := ["self"]
theorem sc_RowReader_is_over : FnScope n_RowReader_is_over ["self"] (defScope s_RowReader_is_over) := ⟨rfl, rfl, rfl, by decide +kernel, rfl, by decide +kernel, by decide +kernel⟩
abbrev s_RowReader_is_work_row : Stmt := inClass (top 35) 3
def d_RowReader_is_work_row : DefZ := ⟨fun K => ma K (ga K "RowReader") "is_work_row", "is_work_row", "RowReader.is_work_row", s_RowReader_is_work_row, []⟩
abbrev n_RowReader_is_work_row : List Str := ["self"]
theorem sc_RowReader_is_work_row : FnScope n_RowReader_is_work_row ["self"] (defScope s_RowReader_is_work_row) := ⟨rfl, rfl, rfl, by decide +kernel, rfl, by decide +kernel, by decide +kernel⟩
abbrev s_RowReader_take : Stmt := inClass (top 35) 4
def d_RowReader_take : DefZ := ⟨fun K => ma K (ga K "RowReader") "take", "take", "RowReader.take", s_RowReader_take, []⟩
abbrev n_RowReader_take : List Str := ["self", "words"]
theorem sc_RowReader_take : FnScope n_RowReader_take ["self", "words"] (defScope s_RowReader_take) := ⟨rfl, rfl, rfl, by decide +kernel, rfl, by decide +kernel, by decide +kernel⟩
abbrev s_RowReader_read_name : Stmt := inClass (top 35) 5
def d_RowReader_read_name : DefZ := ⟨fun K => ma K (ga K "RowReader") "read_name", "read_name", "RowReader.read_name", s_RowReader_read_name, []⟩
abbrev n_RowReader_read_name : List Str := ["self"]
theorem sc_RowReader_read_name : FnScope n_RowReader_read_name ["self"] (defScope s_RowReader_read_name) := ⟨rfl, rfl, rfl, by decide +kernel, rfl, by decide +kernel, by decide +kernel⟩
abbrev s_RowReader_read_integer : Stmt := inClass (top 35) 6
def d_RowReader_read_integer : DefZ := ⟨fun K => ma K (ga K "RowReader") "read_integer", "read_integer", "RowReader.read_integer", s_RowReader_read_integer, []⟩
abbrev n_RowReader_read_integer : List Str := ["self", "word", "digit"]
theorem sc_RowReader_read_integer : FnScope n_RowReader_read_integer ["self"] (defScope s_RowReader_read_integer) := ⟨rfl, rfl, rfl, by decide +kernel, rfl, by decide +kernel, by decide +kernel⟩
abbrev s_RowReader_read_step : Stmt := inClass (top 35) 7
def d_RowReader_read_step : DefZ := ⟨fun K => ma K (ga K "RowReader") "read_step", "read_step", "RowReader.read_step", s_RowReader_read_step, []⟩
abbrev n_RowReader_read_step : List Str := ["self", "word"]
theorem sc_RowReader_read_step : FnScope n_RowReader_read_step ["self"] (defScope s_RowReader_read_step) := ⟨rfl, rfl, rfl, by decide +kernel, rfl, by decide +kernel, by decide +kernel⟩
abbrev s_RowReader_read_line : Stmt := inClass (top 35) 8
def d_RowReader_read_line : DefZ := ⟨fun K => ma K (ga K "RowReader") "read_line", "read_line", "RowReader.read_line", s_RowReader_read_line, []⟩
abbrev n_RowReader_read_line : List Str := ["self", "name", "kind", "rank", "steps"]
theorem sc_RowReader_read_line : FnScope n_RowReader_read_line ["self"] (defScope s_RowReader_read_line) := ⟨rfl, rfl, rfl, by decide +kernel, rfl, by decide +kernel, by decide +kernel⟩
abbrev s_RowReader_read_work : Stmt := inClass (top 35) 9
def d_RowReader_read_work : DefZ := ⟨fun K => ma K (ga K "RowReader") "read_work", "read_work", "RowReader.read_work", s_RowReader_read_work, []⟩
abbrev n_RowReader_read_work : List Str := ["self", "found"]
theorem sc_RowReader_read_work : FnScope n_RowReader_read_work ["self"] (defScope s_RowReader_read_work) := ⟨rfl, rfl, rfl, by decide +kernel, rfl, by decide +kernel, by decide +kernel⟩
abbrev s_w_taken : Stmt := top 37
def d_w_taken : DefZ := ⟨fun K => ga K "_law_taken", "_law_taken", "_law_taken", s_w_taken, []⟩
abbrev n_w_taken : List Str := ["_law_row", "_law_many", "_law_found", "_law_cell"]
theorem sc_w_taken : FnScope n_w_taken ["_law_row", "_law_many"] (defScope s_w_taken) := ⟨rfl, rfl, rfl, by decide +kernel, rfl, by decide +kernel, by decide +kernel⟩
abbrev s_w_mixed : Stmt := top 38
def d_w_mixed : DefZ := ⟨fun K => ga K "_law_mixed", "_law_mixed", "_law_mixed", s_w_mixed, []⟩
abbrev n_w_mixed : List Str := ["_law_row", "_law_things", "_law_left", "_law_found"]
theorem sc_w_mixed : FnScope n_w_mixed ["_law_row", "_law_things"] (defScope s_w_mixed) := ⟨rfl, rfl, rfl, by decide +kernel, rfl, by decide +kernel, by decide +kernel⟩
abbrev s_w_step : Stmt := top 39
def d_w_step : DefZ := ⟨fun K => ga K "_law_step", "_law_step", "_law_step", s_w_step, []⟩
abbrev n_w_step : List Str := ["_law_row", "_law_names", "_law_levels", "_law_works", "_law_word"]
theorem sc_w_step : FnScope n_w_step ["_law_row", "_law_names", "_law_levels", "_law_works"] (defScope s_w_step) := ⟨rfl, rfl, rfl, by decide +kernel, rfl, by decide +kernel, by decide +kernel⟩
abbrev s_w_setup : Stmt := top 40
def d_w_setup : DefZ := ⟨fun K => ga K "_law_setup", "_law_setup", "_law_setup", s_w_setup, []⟩
abbrev n_w_setup : List Str := ["_law_row", "_law_most", "_law_names", "_law_kinds", "_law_levels", "_law_works", "_law_lines", "_law_k", "_law_steps", "_law_rows", "_law_name", "_law_turn", "_law_work"]
theorem sc_w_setup : FnScope n_w_setup ["_law_row", "_law_most"] (defScope s_w_setup) := ⟨rfl, rfl, rfl, by decide +kernel, rfl, by decide +kernel, by decide +kernel⟩
abbrev s_law : Stmt := top 41
def d_law : DefZ := ⟨fun K => ga K "law", "law", "law", s_law, []⟩
abbrev n_law : List Str := ["_law_script", "_law_row", "_law_turn", "_law_lines", "_law_works", "_law_text", "_law_line", "_law_word", "_law_value", "_law_work", "_law_setup_here"]
theorem sc_law : FnScope n_law ["_law_script"] (defScope s_law) := ⟨rfl, rfl, rfl, by decide +kernel, rfl, by decide +kernel, by decide +kernel⟩
structure Txt0 (K : Fg) (mg : Str → Option Value) : Prop where
 i_LETTERS : ∃ t, mg "LETTERS" = some (.str "abcdefghijklmnopqrstuvwxyz" t)
 i_DIGITS : ∃ t, mg "DIGITS" = some (.str "0123456789" t)
 i_MAX_NAME : ∃ t, mg "MAX_NAME" = some (.int 8 t)
 i_MAX_RANK : ∃ t, mg "MAX_RANK" = some (.int 9 t)
 i_MAX_STEPS : ∃ t, mg "MAX_STEPS" = some (.int 8 t)
 i_MAX_TICKS : ∃ t, mg "MAX_TICKS" = some (.int 99 t)
 i_MAX_FLAG : ∃ t, mg "MAX_FLAG" = some (.int 7 t)
 i_MAX_DIGITS : ∃ t, mg "MAX_DIGITS" = some (.int 3 t)
 i_EDGE : ∃ t, mg "EDGE" = some (.str "edge" t)
 i_LEVEL : ∃ t, mg "LEVEL" = some (.str "level" t)
 i_RUN : ∃ t, mg "RUN" = some (.str "run" t)
 i_QUIET : ∃ t, mg "QUIET" = some (.str "quiet" t)
 i_AWAIT : ∃ t, mg "AWAIT" = some (.str "await" t)
 i_BAR : ∃ t, mg "BAR" = some (.str "bar" t)
 i_LATER : ∃ t, mg "LATER" = some (.str "later" t)
 g_LINE_WORDS : mg "LINE_WORDS" = some (.ref (ga K "LINE_WORDS"))
 t_LINE_WORDS : ∀ H, SqT K H (ga K "LINE_WORDS") ([.str "ring", .str "quiet", .str "mask", .str "unmask"] : List V)
 g_FLAG_WORDS : mg "FLAG_WORDS" = some (.ref (ga K "FLAG_WORDS"))
 t_FLAG_WORDS : ∀ H, SqT K H (ga K "FLAG_WORDS") ([.str "set", .str "clear", .str "await"] : List V)
 g_is_integer : mg "is_integer" = some (.ref (ga K "is_integer"))
 g_is_word : mg "is_word" = some (.ref (ga K "is_word"))
 g_is_name : mg "is_name" = some (.ref (ga K "is_name"))
 g_is_line : mg "is_line" = some (.ref (ga K "is_line"))
 g_is_work : mg "is_work" = some (.ref (ga K "is_work"))
 g_is_step : mg "is_step" = some (.ref (ga K "is_step"))
 g_check_lines : mg "check_lines" = some (.ref (ga K "check_lines"))
 g_check_works : mg "check_works" = some (.ref (ga K "check_works"))
 g_w_taken : mg "_law_taken" = some (.ref (ga K "_law_taken"))
 g_w_mixed : mg "_law_mixed" = some (.ref (ga K "_law_mixed"))
 g_w_step : mg "_law_step" = some (.ref (ga K "_law_step"))
structure Txt1 (K : Fg) (mg : Str → Option Value) : Prop where
 g_w_setup : mg "_law_setup" = some (.ref (ga K "_law_setup"))
 g_law : mg "law" = some (.ref (ga K "law"))
 F_is_integer : FunZ K d_is_integer
 c_is_integer : Cal K (ga K "is_integer") ["value", "low", "high"] []
 F_is_word : FunZ K d_is_word
 c_is_word : Cal K (ga K "is_word") ["value"] []
 F_is_name : FunZ K d_is_name
 c_is_name : Cal K (ga K "is_name") ["value"] []
 F_is_line : FunZ K d_is_line
 c_is_line : Cal K (ga K "is_line") ["line"] []
 F_is_work : FunZ K d_is_work
 c_is_work : Cal K (ga K "is_work") ["work"] []
 F_is_step : FunZ K d_is_step
 c_is_step : Cal K (ga K "is_step") ["step", "kinds", "works"] []
 F_check_lines : FunZ K d_check_lines
 c_check_lines : Cal K (ga K "check_lines") ["lines", "most"] []
 F_check_works : FunZ K d_check_works
 c_check_works : Cal K (ga K "check_works") ["works", "most"] []
 F_Setup_init : FunZ K d_Setup_init
 c_Setup_init : Cal K (ma K (ga K "Setup") "__init__") ["self", "lines", "works"] []
 F_Setup_parse : FunZ K d_Setup_parse
 c_Setup_parse : Cal K (cga K (ga K "Setup") "parse") ["cls", "text"] []
 F_Setup_lines : FunZ K d_Setup_lines
 c_Setup_lines : Cal K (pga K (ga K "Setup") "lines") ["self"] []
 F_Setup_works : FunZ K d_Setup_works
 c_Setup_works : Cal K (pga K (ga K "Setup") "works") ["self"] []
 F_Setup_text : FunZ K d_Setup_text
 c_Setup_text : Cal K (pga K (ga K "Setup") "text") ["self"] []
 F_Setup_eq : FunZ K d_Setup_eq
 c_Setup_eq : Cal K (ma K (ga K "Setup") "__eq__") ["self", "other"] []
structure Txt2 (K : Fg) (mg : Str → Option Value) : Prop where
 F_RowReader_init : FunZ K d_RowReader_init
 c_RowReader_init : Cal K (ma K (ga K "RowReader") "__init__") ["self", "line", "number"] []
 F_RowReader_need : FunZ K d_RowReader_need
 c_RowReader_need : Cal K (ma K (ga K "RowReader") "need") ["self", "is_right"] []
 F_RowReader_is_over : FunZ K d_RowReader_is_over
 c_RowReader_is_over : Cal K (ma K (ga K "RowReader") "is_over") ["self"] []
 F_RowReader_is_work_row : FunZ K d_RowReader_is_work_row
 c_RowReader_is_work_row : Cal K (ma K (ga K "RowReader") "is_work_row") ["self"] []
 F_RowReader_take : FunZ K d_RowReader_take
 c_RowReader_take : Cal K (ma K (ga K "RowReader") "take") ["self", "words"] []
 F_RowReader_read_name : FunZ K d_RowReader_read_name
 c_RowReader_read_name : Cal K (ma K (ga K "RowReader") "read_name") ["self"] []
 F_RowReader_read_integer : FunZ K d_RowReader_read_integer
 c_RowReader_read_integer : Cal K (ma K (ga K "RowReader") "read_integer") ["self"] []
 F_RowReader_read_step : FunZ K d_RowReader_read_step
 c_RowReader_read_step : Cal K (ma K (ga K "RowReader") "read_step") ["self"] []
 F_RowReader_read_line : FunZ K d_RowReader_read_line
 c_RowReader_read_line : Cal K (ma K (ga K "RowReader") "read_line") ["self"] []
 F_RowReader_read_work : FunZ K d_RowReader_read_work
 c_RowReader_read_work : Cal K (ma K (ga K "RowReader") "read_work") ["self"] []
 F_w_taken : FunZ K d_w_taken
 c_w_taken : Cal K (ga K "_law_taken") ["_law_row", "_law_many"] []
 F_w_mixed : FunZ K d_w_mixed
 c_w_mixed : Cal K (ga K "_law_mixed") ["_law_row", "_law_things"] []
 F_w_step : FunZ K d_w_step
 c_w_step : Cal K (ga K "_law_step") ["_law_row", "_law_names", "_law_levels", "_law_works"] []
 F_w_setup : FunZ K d_w_setup
 c_w_setup : Cal K (ga K "_law_setup") ["_law_row", "_law_most"] []
 F_law : FunZ K d_law
 c_law : Cal K (ga K "law") ["_law_script"] []
structure Txt3 (K : Fg) (mg : Str → Option Value) : Prop where
 g_Setup : mg "Setup" = some (.ref (ga K "Setup"))
 cl_Setup : Cls K (ga K "Setup")
 mk_Setup : Mk K (ga K "Setup") (ma K (ga K "Setup") "__init__")
 n_Setup_line_rows : NoAttr K (ga K "Setup") "line_rows"
 n_Setup_work_rows : NoAttr K (ga K "Setup") "work_rows"
 n_Setup_rows_by_name : NoAttr K (ga K "Setup") "rows_by_name"
 n_Setup_works_by_name : NoAttr K (ga K "Setup") "works_by_name"
 m_Setup_init : Meth K (ga K "Setup") "__init__" (ma K (ga K "Setup") "__init__")
 cm_Setup_parse : CMZ K (ga K "Setup") "parse"
 p_Setup_lines : PropOf K (ga K "Setup") "lines" (ma K (ga K "Setup") "lines") (pga K (ga K "Setup") "lines")
 p_Setup_works : PropOf K (ga K "Setup") "works" (ma K (ga K "Setup") "works") (pga K (ga K "Setup") "works")
 p_Setup_text : PropOf K (ga K "Setup") "text" (ma K (ga K "Setup") "text") (pga K (ga K "Setup") "text")
 m_Setup_eq : Meth K (ga K "Setup") "__eq__" (ma K (ga K "Setup") "__eq__")
 is_Setup : IsO K (ga K "Setup")
 k_Setup_MAX_LINES : ClsI K (ga K "Setup") "MAX_LINES" 12
 k_Setup_MAX_WORKS : ClsI K (ga K "Setup") "MAX_WORKS" 8
 k_Setup_MAX_FLAG : ClsI K (ga K "Setup") "MAX_FLAG" 7
 g_RowReader : mg "RowReader" = some (.ref (ga K "RowReader"))
 cl_RowReader : Cls K (ga K "RowReader")
 mk_RowReader : Mk K (ga K "RowReader") (ma K (ga K "RowReader") "__init__")
 n_RowReader_parts : NoAttr K (ga K "RowReader") "parts"
 n_RowReader_number : NoAttr K (ga K "RowReader") "number"
 n_RowReader_spot : NoAttr K (ga K "RowReader") "spot"
 m_RowReader_init : Meth K (ga K "RowReader") "__init__" (ma K (ga K "RowReader") "__init__")
 m_RowReader_need : Meth K (ga K "RowReader") "need" (ma K (ga K "RowReader") "need")
 m_RowReader_is_over : Meth K (ga K "RowReader") "is_over" (ma K (ga K "RowReader") "is_over")
 m_RowReader_is_work_row : Meth K (ga K "RowReader") "is_work_row" (ma K (ga K "RowReader") "is_work_row")
 m_RowReader_take : Meth K (ga K "RowReader") "take" (ma K (ga K "RowReader") "take")
 m_RowReader_read_name : Meth K (ga K "RowReader") "read_name" (ma K (ga K "RowReader") "read_name")
 m_RowReader_read_integer : Meth K (ga K "RowReader") "read_integer" (ma K (ga K "RowReader") "read_integer")
structure Txt4 (K : Fg) (mg : Str → Option Value) : Prop where
 m_RowReader_read_step : Meth K (ga K "RowReader") "read_step" (ma K (ga K "RowReader") "read_step")
 m_RowReader_read_line : Meth K (ga K "RowReader") "read_line" (ma K (ga K "RowReader") "read_line")
 m_RowReader_read_work : Meth K (ga K "RowReader") "read_work" (ma K (ga K "RowReader") "read_work")
 u_isinstance : mg "isinstance" = none
 u_bool : mg "bool" = none
 u_int : mg "int" = none
 u_all : mg "all" = none
 u_str : mg "str" = none
 u_len : mg "len" = none
 u_tuple : mg "tuple" = none
 u_enumerate : mg "enumerate" = none
 u_list : mg "list" = none
 u_range : mg "range" = none
structure Txt (K : Fg) (mg : Str → Option Value) : Prop where
 p0 : Txt0 K mg
 p1 : Txt1 K mg
 p2 : Txt2 K mg
 p3 : Txt3 K mg
 p4 : Txt4 K mg
section
variable {K : Fg} {mg : Str → Option Value} (T : Txt K mg) 
include T
theorem Txt.i_LETTERS : ∃ t, mg "LETTERS" = some (.str "abcdefghijklmnopqrstuvwxyz" t) := T.p0.i_LETTERS
theorem Txt.i_DIGITS : ∃ t, mg "DIGITS" = some (.str "0123456789" t) := T.p0.i_DIGITS
theorem Txt.i_MAX_NAME : ∃ t, mg "MAX_NAME" = some (.int 8 t) := T.p0.i_MAX_NAME
theorem Txt.i_MAX_RANK : ∃ t, mg "MAX_RANK" = some (.int 9 t) := T.p0.i_MAX_RANK
theorem Txt.i_MAX_STEPS : ∃ t, mg "MAX_STEPS" = some (.int 8 t) := T.p0.i_MAX_STEPS
theorem Txt.i_MAX_TICKS : ∃ t, mg "MAX_TICKS" = some (.int 99 t) := T.p0.i_MAX_TICKS
theorem Txt.i_MAX_FLAG : ∃ t, mg "MAX_FLAG" = some (.int 7 t) := T.p0.i_MAX_FLAG
theorem Txt.i_MAX_DIGITS : ∃ t, mg "MAX_DIGITS" = some (.int 3 t) := T.p0.i_MAX_DIGITS
theorem Txt.i_EDGE : ∃ t, mg "EDGE" = some (.str "edge" t) := T.p0.i_EDGE
theorem Txt.i_LEVEL : ∃ t, mg "LEVEL" = some (.str "level" t) := T.p0.i_LEVEL
theorem Txt.i_RUN : ∃ t, mg "RUN" = some (.str "run" t) := T.p0.i_RUN
theorem Txt.i_QUIET : ∃ t, mg "QUIET" = some (.str "quiet" t) := T.p0.i_QUIET
theorem Txt.i_BAR : ∃ t, mg "BAR" = some (.str "bar" t) := T.p0.i_BAR
theorem Txt.i_LATER : ∃ t, mg "LATER" = some (.str "later" t) := T.p0.i_LATER
theorem Txt.g_LINE_WORDS : mg "LINE_WORDS" = some (.ref (ga K "LINE_WORDS")) := T.p0.g_LINE_WORDS
theorem Txt.t_LINE_WORDS : ∀ H, SqT K H (ga K "LINE_WORDS") ([.str "ring", .str "quiet", .str "mask", .str "unmask"] : List V) := T.p0.t_LINE_WORDS
theorem Txt.g_FLAG_WORDS : mg "FLAG_WORDS" = some (.ref (ga K "FLAG_WORDS")) := T.p0.g_FLAG_WORDS
theorem Txt.t_FLAG_WORDS : ∀ H, SqT K H (ga K "FLAG_WORDS") ([.str "set", .str "clear", .str "await"] : List V) := T.p0.t_FLAG_WORDS
theorem Txt.g_is_integer : mg "is_integer" = some (.ref (ga K "is_integer")) := T.p0.g_is_integer
theorem Txt.g_is_word : mg "is_word" = some (.ref (ga K "is_word")) := T.p0.g_is_word
theorem Txt.g_is_name : mg "is_name" = some (.ref (ga K "is_name")) := T.p0.g_is_name
theorem Txt.g_is_line : mg "is_line" = some (.ref (ga K "is_line")) := T.p0.g_is_line
theorem Txt.g_is_work : mg "is_work" = some (.ref (ga K "is_work")) := T.p0.g_is_work
theorem Txt.g_is_step : mg "is_step" = some (.ref (ga K "is_step")) := T.p0.g_is_step
theorem Txt.g_check_lines : mg "check_lines" = some (.ref (ga K "check_lines")) := T.p0.g_check_lines
theorem Txt.g_check_works : mg "check_works" = some (.ref (ga K "check_works")) := T.p0.g_check_works
theorem Txt.g_w_taken : mg "_law_taken" = some (.ref (ga K "_law_taken")) := T.p0.g_w_taken
theorem Txt.g_w_mixed : mg "_law_mixed" = some (.ref (ga K "_law_mixed")) := T.p0.g_w_mixed
theorem Txt.g_w_step : mg "_law_step" = some (.ref (ga K "_law_step")) := T.p0.g_w_step
theorem Txt.g_w_setup : mg "_law_setup" = some (.ref (ga K "_law_setup")) := T.p1.g_w_setup
theorem Txt.g_law : mg "law" = some (.ref (ga K "law")) := T.p1.g_law
theorem Txt.F_is_integer : FunZ K d_is_integer := T.p1.F_is_integer
theorem Txt.c_is_integer : Cal K (ga K "is_integer") ["value", "low", "high"] [] := T.p1.c_is_integer
theorem Txt.F_is_word : FunZ K d_is_word := T.p1.F_is_word
theorem Txt.c_is_word : Cal K (ga K "is_word") ["value"] [] := T.p1.c_is_word
theorem Txt.F_is_name : FunZ K d_is_name := T.p1.F_is_name
theorem Txt.c_is_name : Cal K (ga K "is_name") ["value"] [] := T.p1.c_is_name
theorem Txt.F_is_line : FunZ K d_is_line := T.p1.F_is_line
theorem Txt.c_is_line : Cal K (ga K "is_line") ["line"] [] := T.p1.c_is_line
theorem Txt.F_is_work : FunZ K d_is_work := T.p1.F_is_work
theorem Txt.c_is_work : Cal K (ga K "is_work") ["work"] [] := T.p1.c_is_work
theorem Txt.F_is_step : FunZ K d_is_step := T.p1.F_is_step
theorem Txt.c_is_step : Cal K (ga K "is_step") ["step", "kinds", "works"] [] := T.p1.c_is_step
theorem Txt.F_check_lines : FunZ K d_check_lines := T.p1.F_check_lines
theorem Txt.c_check_lines : Cal K (ga K "check_lines") ["lines", "most"] [] := T.p1.c_check_lines
theorem Txt.F_check_works : FunZ K d_check_works := T.p1.F_check_works
theorem Txt.c_check_works : Cal K (ga K "check_works") ["works", "most"] [] := T.p1.c_check_works
theorem Txt.F_Setup_init : FunZ K d_Setup_init := T.p1.F_Setup_init
theorem Txt.c_Setup_init : Cal K (ma K (ga K "Setup") "__init__") ["self", "lines", "works"] [] := T.p1.c_Setup_init
theorem Txt.F_Setup_parse : FunZ K d_Setup_parse := T.p1.F_Setup_parse
theorem Txt.c_Setup_parse : Cal K (cga K (ga K "Setup") "parse") ["cls", "text"] [] := T.p1.c_Setup_parse
theorem Txt.F_Setup_lines : FunZ K d_Setup_lines := T.p1.F_Setup_lines
theorem Txt.c_Setup_lines : Cal K (pga K (ga K "Setup") "lines") ["self"] [] := T.p1.c_Setup_lines
theorem Txt.F_Setup_works : FunZ K d_Setup_works := T.p1.F_Setup_works
theorem Txt.c_Setup_works : Cal K (pga K (ga K "Setup") "works") ["self"] [] := T.p1.c_Setup_works
theorem Txt.F_Setup_text : FunZ K d_Setup_text := T.p1.F_Setup_text
theorem Txt.c_Setup_text : Cal K (pga K (ga K "Setup") "text") ["self"] [] := T.p1.c_Setup_text
theorem Txt.F_Setup_eq : FunZ K d_Setup_eq := T.p1.F_Setup_eq
theorem Txt.c_Setup_eq : Cal K (ma K (ga K "Setup") "__eq__") ["self", "other"] [] := T.p1.c_Setup_eq
theorem Txt.F_RowReader_init : FunZ K d_RowReader_init := T.p2.F_RowReader_init
theorem Txt.c_RowReader_init : Cal K (ma K (ga K "RowReader") "__init__") ["self", "line", "number"] [] := T.p2.c_RowReader_init
theorem Txt.F_RowReader_need : FunZ K d_RowReader_need := T.p2.F_RowReader_need
theorem Txt.c_RowReader_need : Cal K (ma K (ga K "RowReader") "need") ["self", "is_right"] [] := T.p2.c_RowReader_need
theorem Txt.F_RowReader_is_over : FunZ K d_RowReader_is_over := T.p2.F_RowReader_is_over
theorem Txt.c_RowReader_is_over : Cal K (ma K (ga K "RowReader") "is_over") ["self"] [] := T.p2.c_RowReader_is_over
theorem Txt.F_RowReader_is_work_row : FunZ K d_RowReader_is_work_row := T.p2.F_RowReader_is_work_row
theorem Txt.c_RowReader_is_work_row : Cal K (ma K (ga K "RowReader") "is_work_row") ["self"] [] := T.p2.c_RowReader_is_work_row
theorem Txt.F_RowReader_take : FunZ K d_RowReader_take := T.p2.F_RowReader_take
theorem Txt.c_RowReader_take : Cal K (ma K (ga K "RowReader") "take") ["self", "words"] [] := T.p2.c_RowReader_take
theorem Txt.F_RowReader_read_name : FunZ K d_RowReader_read_name := T.p2.F_RowReader_read_name
theorem Txt.c_RowReader_read_name : Cal K (ma K (ga K "RowReader") "read_name") ["self"] [] := T.p2.c_RowReader_read_name
theorem Txt.F_RowReader_read_integer : FunZ K d_RowReader_read_integer := T.p2.F_RowReader_read_integer
theorem Txt.c_RowReader_read_integer : Cal K (ma K (ga K "RowReader") "read_integer") ["self"] [] := T.p2.c_RowReader_read_integer
theorem Txt.F_RowReader_read_step : FunZ K d_RowReader_read_step := T.p2.F_RowReader_read_step
theorem Txt.c_RowReader_read_step : Cal K (ma K (ga K "RowReader") "read_step") ["self"] [] := T.p2.c_RowReader_read_step
theorem Txt.F_RowReader_read_line : FunZ K d_RowReader_read_line := T.p2.F_RowReader_read_line
theorem Txt.c_RowReader_read_line : Cal K (ma K (ga K "RowReader") "read_line") ["self"] [] := T.p2.c_RowReader_read_line
theorem Txt.F_RowReader_read_work : FunZ K d_RowReader_read_work := T.p2.F_RowReader_read_work
theorem Txt.c_RowReader_read_work : Cal K (ma K (ga K "RowReader") "read_work") ["self"] [] := T.p2.c_RowReader_read_work
theorem Txt.F_w_taken : FunZ K d_w_taken := T.p2.F_w_taken
theorem Txt.c_w_taken : Cal K (ga K "_law_taken") ["_law_row", "_law_many"] [] := T.p2.c_w_taken
theorem Txt.F_w_mixed : FunZ K d_w_mixed := T.p2.F_w_mixed
theorem Txt.c_w_mixed : Cal K (ga K "_law_mixed") ["_law_row", "_law_things"] [] := T.p2.c_w_mixed
theorem Txt.F_w_step : FunZ K d_w_step := T.p2.F_w_step
theorem Txt.c_w_step : Cal K (ga K "_law_step") ["_law_row", "_law_names", "_law_levels", "_law_works"] [] := T.p2.c_w_step
theorem Txt.F_w_setup : FunZ K d_w_setup := T.p2.F_w_setup
theorem Txt.c_w_setup : Cal K (ga K "_law_setup") ["_law_row", "_law_most"] [] := T.p2.c_w_setup
theorem Txt.F_law : FunZ K d_law := T.p2.F_law
theorem Txt.g_Setup : mg "Setup" = some (.ref (ga K "Setup")) := T.p3.g_Setup
theorem Txt.cl_Setup : Cls K (ga K "Setup") := T.p3.cl_Setup
theorem Txt.mk_Setup : Mk K (ga K "Setup") (ma K (ga K "Setup") "__init__") := T.p3.mk_Setup
theorem Txt.n_Setup_line_rows : NoAttr K (ga K "Setup") "line_rows" := T.p3.n_Setup_line_rows
theorem Txt.n_Setup_work_rows : NoAttr K (ga K "Setup") "work_rows" := T.p3.n_Setup_work_rows
theorem Txt.n_Setup_rows_by_name : NoAttr K (ga K "Setup") "rows_by_name" := T.p3.n_Setup_rows_by_name
theorem Txt.n_Setup_works_by_name : NoAttr K (ga K "Setup") "works_by_name" := T.p3.n_Setup_works_by_name
theorem Txt.cm_Setup_parse : CMZ K (ga K "Setup") "parse" := T.p3.cm_Setup_parse
theorem Txt.p_Setup_lines : PropOf K (ga K "Setup") "lines" (ma K (ga K "Setup") "lines") (pga K (ga K "Setup") "lines") := T.p3.p_Setup_lines
theorem Txt.p_Setup_works : PropOf K (ga K "Setup") "works" (ma K (ga K "Setup") "works") (pga K (ga K "Setup") "works") := T.p3.p_Setup_works
theorem Txt.p_Setup_text : PropOf K (ga K "Setup") "text" (ma K (ga K "Setup") "text") (pga K (ga K "Setup") "text") := T.p3.p_Setup_text
theorem Txt.m_Setup_eq : Meth K (ga K "Setup") "__eq__" (ma K (ga K "Setup") "__eq__") := T.p3.m_Setup_eq
theorem Txt.is_Setup : IsO K (ga K "Setup") := T.p3.is_Setup
theorem Txt.k_Setup_MAX_LINES : ClsI K (ga K "Setup") "MAX_LINES" 12 := T.p3.k_Setup_MAX_LINES
theorem Txt.k_Setup_MAX_WORKS : ClsI K (ga K "Setup") "MAX_WORKS" 8 := T.p3.k_Setup_MAX_WORKS
theorem Txt.g_RowReader : mg "RowReader" = some (.ref (ga K "RowReader")) := T.p3.g_RowReader
theorem Txt.cl_RowReader : Cls K (ga K "RowReader") := T.p3.cl_RowReader
theorem Txt.mk_RowReader : Mk K (ga K "RowReader") (ma K (ga K "RowReader") "__init__") := T.p3.mk_RowReader
theorem Txt.n_RowReader_parts : NoAttr K (ga K "RowReader") "parts" := T.p3.n_RowReader_parts
theorem Txt.n_RowReader_number : NoAttr K (ga K "RowReader") "number" := T.p3.n_RowReader_number
theorem Txt.n_RowReader_spot : NoAttr K (ga K "RowReader") "spot" := T.p3.n_RowReader_spot
theorem Txt.m_RowReader_need : Meth K (ga K "RowReader") "need" (ma K (ga K "RowReader") "need") := T.p3.m_RowReader_need
theorem Txt.m_RowReader_is_over : Meth K (ga K "RowReader") "is_over" (ma K (ga K "RowReader") "is_over") := T.p3.m_RowReader_is_over
theorem Txt.m_RowReader_is_work_row : Meth K (ga K "RowReader") "is_work_row" (ma K (ga K "RowReader") "is_work_row") := T.p3.m_RowReader_is_work_row
theorem Txt.m_RowReader_take : Meth K (ga K "RowReader") "take" (ma K (ga K "RowReader") "take") := T.p3.m_RowReader_take
theorem Txt.m_RowReader_read_name : Meth K (ga K "RowReader") "read_name" (ma K (ga K "RowReader") "read_name") := T.p3.m_RowReader_read_name
theorem Txt.m_RowReader_read_integer : Meth K (ga K "RowReader") "read_integer" (ma K (ga K "RowReader") "read_integer") := T.p3.m_RowReader_read_integer
theorem Txt.m_RowReader_read_step : Meth K (ga K "RowReader") "read_step" (ma K (ga K "RowReader") "read_step") := T.p4.m_RowReader_read_step
theorem Txt.m_RowReader_read_line : Meth K (ga K "RowReader") "read_line" (ma K (ga K "RowReader") "read_line") := T.p4.m_RowReader_read_line
theorem Txt.m_RowReader_read_work : Meth K (ga K "RowReader") "read_work" (ma K (ga K "RowReader") "read_work") := T.p4.m_RowReader_read_work
theorem Txt.u_isinstance : mg "isinstance" = none := T.p4.u_isinstance
theorem Txt.u_bool : mg "bool" = none := T.p4.u_bool
theorem Txt.u_int : mg "int" = none := T.p4.u_int
theorem Txt.u_all : mg "all" = none := T.p4.u_all
theorem Txt.u_str : mg "str" = none := T.p4.u_str
theorem Txt.u_len : mg "len" = none := T.p4.u_len
theorem Txt.u_tuple : mg "tuple" = none := T.p4.u_tuple
theorem Txt.u_enumerate : mg "enumerate" = none := T.p4.u_enumerate
theorem Txt.u_list : mg "list" = none := T.p4.u_list
theorem Txt.u_range : mg "range" = none := T.p4.u_range
end
theorem _root_.Z.SaysZ.factC {fa : List (Fg → Bool)} {fn : List DefZ} {K : Fg} (c : SaysZ fa fn K) (l : List (Fg → Bool)) (i : Nat) (s : ∀ f, f ∈ l → f ∈ fa) {f : Fg → Bool} (h : l[i]? = some f) : f K = true := by
 obtain ⟨j, hj, e⟩ := List.mem_iff_getElem.mp (s f (List.mem_of_getElem? h))
 exact c.fact j (by rw [List.getElem?_eq_getElem hj, e])
theorem _root_.Z.SaysZ.defC {fa : List (Fg → Bool)} {fn : List DefZ} {K : Fg} (c : SaysZ fa fn K) (l : List DefZ) (i : Nat) (s : ∀ f, f ∈ l → f ∈ fn) {d : DefZ} (h : l[i]? = some d) : FunZ K d := by
 obtain ⟨j, hj, e⟩ := List.mem_iff_getElem.mp (s d (List.mem_of_getElem? h))
 exact c.def_ j (by rw [List.getElem?_eq_getElem hj, e])
def fa_0 : List (Fg → Bool) := [fStr "LETTERS" "abcdefghijklmnopqrstuvwxyz", fStr "DIGITS" "0123456789", fInt "MAX_NAME" 8, fInt "MAX_RANK" 9, fInt "MAX_STEPS" 8, fInt "MAX_TICKS" 99, fInt "MAX_FLAG" 7, fInt "MAX_DIGITS" 3, fStr "EDGE" "edge", fStr "LEVEL" "level", fStr "RUN" "run", fStr "QUIET" "quiet", fStr "AWAIT" "await", fStr "BAR" "bar", fStr "LATER" "later", fGlo "LINE_WORDS", fTup "LINE_WORDS" [.str "ring", .str "quiet", .str "mask", .str "unmask"], fGlo "FLAG_WORDS", fTup "FLAG_WORDS" [.str "set", .str "clear", .str "await"], fGlo "is_integer", fGlo "is_word", fGlo "is_name", fGlo "is_line", fGlo "is_work", fGlo "is_step", fGlo "check_lines", fGlo "check_works", fGlo "_law_taken", fGlo "_law_mixed", fGlo "_law_step"]
def fa_1 : List (Fg → Bool) := [fGlo "_law_setup", fGlo "law", fGlo "Setup", fCls "Setup", fMk "Setup", fNo "Setup" "line_rows", fNo "Setup" "work_rows", fNo "Setup" "rows_by_name", fNo "Setup" "works_by_name", fMeth "Setup" "__init__", fCm "Setup" "parse", fProp "Setup" "lines", fProp "Setup" "works", fProp "Setup" "text", fMeth "Setup" "__eq__", fIsO "Setup", fClsI "Setup" "MAX_LINES" 12, fClsI "Setup" "MAX_WORKS" 8, fClsI "Setup" "MAX_FLAG" 7, fGlo "RowReader", fCls "RowReader", fMk "RowReader", fNo "RowReader" "parts", fNo "RowReader" "number", fNo "RowReader" "spot", fMeth "RowReader" "__init__", fMeth "RowReader" "need", fMeth "RowReader" "is_over", fMeth "RowReader" "is_work_row", fMeth "RowReader" "take"]
def fa_2 : List (Fg → Bool) := [fMeth "RowReader" "read_name", fMeth "RowReader" "read_integer", fMeth "RowReader" "read_step", fMeth "RowReader" "read_line", fMeth "RowReader" "read_work", fFree "isinstance", fFree "bool", fFree "int", fFree "all", fFree "str", fFree "len", fFree "tuple", fFree "enumerate", fFree "list", fFree "range"]
def fa : List (Fg → Bool) := fa_0 ++ (fa_1 ++ (fa_2))
def fn_0 : List DefZ := [d_is_integer, d_is_word, d_is_name, d_is_line, d_is_work, d_is_step, d_check_lines, d_check_works, d_Setup_init, d_Setup_parse, d_Setup_lines, d_Setup_works, d_Setup_text, d_Setup_eq, d_RowReader_init, d_RowReader_need, d_RowReader_is_over, d_RowReader_is_work_row, d_RowReader_take, d_RowReader_read_name, d_RowReader_read_integer, d_RowReader_read_step, d_RowReader_read_line, d_RowReader_read_work, d_w_taken, d_w_mixed, d_w_step, d_w_setup, d_law]
def fn : List DefZ := fn_0
theorem ia_0 : ∀ f, f ∈ fa_0 → f ∈ fa := fun f h => List.mem_append_left _ h
theorem ia_1 : ∀ f, f ∈ fa_1 → f ∈ fa := fun f h => List.mem_append_right _ (List.mem_append_left _ h)
theorem ia_2 : ∀ f, f ∈ fa_2 → f ∈ fa := fun f h => List.mem_append_right _ (List.mem_append_right _ (h))
theorem in_0 : ∀ f, f ∈ fn_0 → f ∈ fn := fun f h => h
theorem txt_of {K : Fg} {h : Heap} {mg : Str → Option Value} (X : K.In h) (G : h.Ns mainGlobals mg) (c : SaysZ fa fn K) : Txt K mg where
 p0 := ⟨He.str_ok X G (c.factC fa_0 0 ia_0 rfl), He.str_ok X G (c.factC fa_0 1 ia_0 rfl), He.int_ok X G (c.factC fa_0 2 ia_0 rfl), He.int_ok X G (c.factC fa_0 3 ia_0 rfl), He.int_ok X G (c.factC fa_0 4 ia_0 rfl), He.int_ok X G (c.factC fa_0 5 ia_0 rfl), He.int_ok X G (c.factC fa_0 6 ia_0 rfl), He.int_ok X G (c.factC fa_0 7 ia_0 rfl), He.str_ok X G (c.factC fa_0 8 ia_0 rfl), He.str_ok X G (c.factC fa_0 9 ia_0 rfl), He.str_ok X G (c.factC fa_0 10 ia_0 rfl), He.str_ok X G (c.factC fa_0 11 ia_0 rfl), He.str_ok X G (c.factC fa_0 12 ia_0 rfl), He.str_ok X G (c.factC fa_0 13 ia_0 rfl), He.str_ok X G (c.factC fa_0 14 ia_0 rfl), He.glo_ok X G (c.factC fa_0 15 ia_0 rfl), (fun H => He.tupB_ok (c.factC fa_0 16 ia_0 rfl) H), He.glo_ok X G (c.factC fa_0 17 ia_0 rfl), (fun H => He.tupB_ok (c.factC fa_0 18 ia_0 rfl) H), He.glo_ok X G (c.factC fa_0 19 ia_0 rfl), He.glo_ok X G (c.factC fa_0 20 ia_0 rfl), He.glo_ok X G (c.factC fa_0 21 ia_0 rfl), He.glo_ok X G (c.factC fa_0 22 ia_0 rfl), He.glo_ok X G (c.factC fa_0 23 ia_0 rfl), He.glo_ok X G (c.factC fa_0 24 ia_0 rfl), He.glo_ok X G (c.factC fa_0 25 ia_0 rfl), He.glo_ok X G (c.factC fa_0 26 ia_0 rfl), He.glo_ok X G (c.factC fa_0 27 ia_0 rfl), He.glo_ok X G (c.factC fa_0 28 ia_0 rfl), He.glo_ok X G (c.factC fa_0 29 ia_0 rfl)⟩
 p1 := ⟨He.glo_ok X G (c.factC fa_1 0 ia_1 rfl), He.glo_ok X G (c.factC fa_1 1 ia_1 rfl), (c.defC fn_0 0 in_0 rfl), ⟨(c.defC fn_0 0 in_0 (d := d_is_integer) rfl).kp, [], FunD.bindsN (c.defC fn_0 0 in_0 (d := d_is_integer) rfl) (fun _ _ _ _ _ _ us hl => match us, hl with | [_, _, _], _ => rfl), .nil⟩, (c.defC fn_0 1 in_0 rfl), ⟨(c.defC fn_0 1 in_0 (d := d_is_word) rfl).kp, [], FunD.bindsN (c.defC fn_0 1 in_0 (d := d_is_word) rfl) (fun _ _ _ _ _ _ us hl => match us, hl with | [_], _ => rfl), .nil⟩, (c.defC fn_0 2 in_0 rfl), ⟨(c.defC fn_0 2 in_0 (d := d_is_name) rfl).kp, [], FunD.bindsN (c.defC fn_0 2 in_0 (d := d_is_name) rfl) (fun _ _ _ _ _ _ us hl => match us, hl with | [_], _ => rfl), .nil⟩, (c.defC fn_0 3 in_0 rfl), ⟨(c.defC fn_0 3 in_0 (d := d_is_line) rfl).kp, [], FunD.bindsN (c.defC fn_0 3 in_0 (d := d_is_line) rfl) (fun _ _ _ _ _ _ us hl => match us, hl with | [_], _ => rfl), .nil⟩, (c.defC fn_0 4 in_0 rfl), ⟨(c.defC fn_0 4 in_0 (d := d_is_work) rfl).kp, [], FunD.bindsN (c.defC fn_0 4 in_0 (d := d_is_work) rfl) (fun _ _ _ _ _ _ us hl => match us, hl with | [_], _ => rfl), .nil⟩, (c.defC fn_0 5 in_0 rfl), ⟨(c.defC fn_0 5 in_0 (d := d_is_step) rfl).kp, [], FunD.bindsN (c.defC fn_0 5 in_0 (d := d_is_step) rfl) (fun _ _ _ _ _ _ us hl => match us, hl with | [_, _, _], _ => rfl), .nil⟩, (c.defC fn_0 6 in_0 rfl), ⟨(c.defC fn_0 6 in_0 (d := d_check_lines) rfl).kp, [], FunD.bindsN (c.defC fn_0 6 in_0 (d := d_check_lines) rfl) (fun _ _ _ _ _ _ us hl => match us, hl with | [_, _], _ => rfl), .nil⟩, (c.defC fn_0 7 in_0 rfl), ⟨(c.defC fn_0 7 in_0 (d := d_check_works) rfl).kp, [], FunD.bindsN (c.defC fn_0 7 in_0 (d := d_check_works) rfl) (fun _ _ _ _ _ _ us hl => match us, hl with | [_, _], _ => rfl), .nil⟩, (c.defC fn_0 8 in_0 rfl), calD (c.defC fn_0 8 in_0 (d := d_Setup_init) rfl) 3 (by simp [d_Setup_init]) rfl (fun _ _ _ _ _ _ _ us its hl hi => match us, its, hl, hi with | [_, _, _], [_], _, _ => ⟨_, rfl, rfl⟩), (c.defC fn_0 9 in_0 rfl), ⟨(c.defC fn_0 9 in_0 (d := d_Setup_parse) rfl).kp, [], FunD.bindsN (c.defC fn_0 9 in_0 (d := d_Setup_parse) rfl) (fun _ _ _ _ _ _ us hl => match us, hl with | [_, _], _ => rfl), .nil⟩, (c.defC fn_0 10 in_0 rfl), ⟨(c.defC fn_0 10 in_0 (d := d_Setup_lines) rfl).kp, [], FunD.bindsN (c.defC fn_0 10 in_0 (d := d_Setup_lines) rfl) (fun _ _ _ _ _ _ us hl => match us, hl with | [_], _ => rfl), .nil⟩, (c.defC fn_0 11 in_0 rfl), ⟨(c.defC fn_0 11 in_0 (d := d_Setup_works) rfl).kp, [], FunD.bindsN (c.defC fn_0 11 in_0 (d := d_Setup_works) rfl) (fun _ _ _ _ _ _ us hl => match us, hl with | [_], _ => rfl), .nil⟩, (c.defC fn_0 12 in_0 rfl), ⟨(c.defC fn_0 12 in_0 (d := d_Setup_text) rfl).kp, [], FunD.bindsN (c.defC fn_0 12 in_0 (d := d_Setup_text) rfl) (fun _ _ _ _ _ _ us hl => match us, hl with | [_], _ => rfl), .nil⟩, (c.defC fn_0 13 in_0 rfl), ⟨(c.defC fn_0 13 in_0 (d := d_Setup_eq) rfl).kp, [], FunD.bindsN (c.defC fn_0 13 in_0 (d := d_Setup_eq) rfl) (fun _ _ _ _ _ _ us hl => match us, hl with | [_, _], _ => rfl), .nil⟩⟩
 p2 := ⟨(c.defC fn_0 14 in_0 rfl), ⟨(c.defC fn_0 14 in_0 (d := d_RowReader_init) rfl).kp, [], FunD.bindsN (c.defC fn_0 14 in_0 (d := d_RowReader_init) rfl) (fun _ _ _ _ _ _ us hl => match us, hl with | [_, _, _], _ => rfl), .nil⟩, (c.defC fn_0 15 in_0 rfl), ⟨(c.defC fn_0 15 in_0 (d := d_RowReader_need) rfl).kp, [], FunD.bindsN (c.defC fn_0 15 in_0 (d := d_RowReader_need) rfl) (fun _ _ _ _ _ _ us hl => match us, hl with | [_, _], _ => rfl), .nil⟩, (c.defC fn_0 16 in_0 rfl), ⟨(c.defC fn_0 16 in_0 (d := d_RowReader_is_over) rfl).kp, [], FunD.bindsN (c.defC fn_0 16 in_0 (d := d_RowReader_is_over) rfl) (fun _ _ _ _ _ _ us hl => match us, hl with | [_], _ => rfl), .nil⟩, (c.defC fn_0 17 in_0 rfl), ⟨(c.defC fn_0 17 in_0 (d := d_RowReader_is_work_row) rfl).kp, [], FunD.bindsN (c.defC fn_0 17 in_0 (d := d_RowReader_is_work_row) rfl) (fun _ _ _ _ _ _ us hl => match us, hl with | [_], _ => rfl), .nil⟩, (c.defC fn_0 18 in_0 rfl), ⟨(c.defC fn_0 18 in_0 (d := d_RowReader_take) rfl).kp, [], FunD.bindsN (c.defC fn_0 18 in_0 (d := d_RowReader_take) rfl) (fun _ _ _ _ _ _ us hl => match us, hl with | [_, _], _ => rfl), .nil⟩, (c.defC fn_0 19 in_0 rfl), ⟨(c.defC fn_0 19 in_0 (d := d_RowReader_read_name) rfl).kp, [], FunD.bindsN (c.defC fn_0 19 in_0 (d := d_RowReader_read_name) rfl) (fun _ _ _ _ _ _ us hl => match us, hl with | [_], _ => rfl), .nil⟩, (c.defC fn_0 20 in_0 rfl), ⟨(c.defC fn_0 20 in_0 (d := d_RowReader_read_integer) rfl).kp, [], FunD.bindsN (c.defC fn_0 20 in_0 (d := d_RowReader_read_integer) rfl) (fun _ _ _ _ _ _ us hl => match us, hl with | [_], _ => rfl), .nil⟩, (c.defC fn_0 21 in_0 rfl), ⟨(c.defC fn_0 21 in_0 (d := d_RowReader_read_step) rfl).kp, [], FunD.bindsN (c.defC fn_0 21 in_0 (d := d_RowReader_read_step) rfl) (fun _ _ _ _ _ _ us hl => match us, hl with | [_], _ => rfl), .nil⟩, (c.defC fn_0 22 in_0 rfl), ⟨(c.defC fn_0 22 in_0 (d := d_RowReader_read_line) rfl).kp, [], FunD.bindsN (c.defC fn_0 22 in_0 (d := d_RowReader_read_line) rfl) (fun _ _ _ _ _ _ us hl => match us, hl with | [_], _ => rfl), .nil⟩, (c.defC fn_0 23 in_0 rfl), ⟨(c.defC fn_0 23 in_0 (d := d_RowReader_read_work) rfl).kp, [], FunD.bindsN (c.defC fn_0 23 in_0 (d := d_RowReader_read_work) rfl) (fun _ _ _ _ _ _ us hl => match us, hl with | [_], _ => rfl), .nil⟩, (c.defC fn_0 24 in_0 rfl), ⟨(c.defC fn_0 24 in_0 (d := d_w_taken) rfl).kp, [], FunD.bindsN (c.defC fn_0 24 in_0 (d := d_w_taken) rfl) (fun _ _ _ _ _ _ us hl => match us, hl with | [_, _], _ => rfl), .nil⟩, (c.defC fn_0 25 in_0 rfl), ⟨(c.defC fn_0 25 in_0 (d := d_w_mixed) rfl).kp, [], FunD.bindsN (c.defC fn_0 25 in_0 (d := d_w_mixed) rfl) (fun _ _ _ _ _ _ us hl => match us, hl with | [_, _], _ => rfl), .nil⟩, (c.defC fn_0 26 in_0 rfl), ⟨(c.defC fn_0 26 in_0 (d := d_w_step) rfl).kp, [], FunD.bindsN (c.defC fn_0 26 in_0 (d := d_w_step) rfl) (fun _ _ _ _ _ _ us hl => match us, hl with | [_, _, _, _], _ => rfl), .nil⟩, (c.defC fn_0 27 in_0 rfl), ⟨(c.defC fn_0 27 in_0 (d := d_w_setup) rfl).kp, [], FunD.bindsN (c.defC fn_0 27 in_0 (d := d_w_setup) rfl) (fun _ _ _ _ _ _ us hl => match us, hl with | [_, _], _ => rfl), .nil⟩, (c.defC fn_0 28 in_0 rfl), ⟨(c.defC fn_0 28 in_0 (d := d_law) rfl).kp, [], FunD.bindsN (c.defC fn_0 28 in_0 (d := d_law) rfl) (fun _ _ _ _ _ _ us hl => match us, hl with | [_], _ => rfl), .nil⟩⟩
 p3 := ⟨He.glo_ok X G (c.factC fa_1 2 ia_1 rfl), He.cls_ok (c.factC fa_1 3 ia_1 rfl), He.mkr_ok (c.factC fa_1 4 ia_1 rfl), He.noat_ok (c.factC fa_1 5 ia_1 rfl), He.noat_ok (c.factC fa_1 6 ia_1 rfl), He.noat_ok (c.factC fa_1 7 ia_1 rfl), He.noat_ok (c.factC fa_1 8 ia_1 rfl), He.meth_ok (c.factC fa_1 9 ia_1 rfl), fCm_ok (c.factC fa_1 10 ia_1 rfl), fProp_ok (c.factC fa_1 11 ia_1 rfl), fProp_ok (c.factC fa_1 12 ia_1 rfl), fProp_ok (c.factC fa_1 13 ia_1 rfl), He.meth_ok (c.factC fa_1 14 ia_1 rfl), fIsO_ok (c.factC fa_1 15 ia_1 rfl), fClsI_ok (c.factC fa_1 16 ia_1 rfl), fClsI_ok (c.factC fa_1 17 ia_1 rfl), fClsI_ok (c.factC fa_1 18 ia_1 rfl), He.glo_ok X G (c.factC fa_1 19 ia_1 rfl), He.cls_ok (c.factC fa_1 20 ia_1 rfl), He.mkr_ok (c.factC fa_1 21 ia_1 rfl), He.noat_ok (c.factC fa_1 22 ia_1 rfl), He.noat_ok (c.factC fa_1 23 ia_1 rfl), He.noat_ok (c.factC fa_1 24 ia_1 rfl), He.meth_ok (c.factC fa_1 25 ia_1 rfl), He.meth_ok (c.factC fa_1 26 ia_1 rfl), He.meth_ok (c.factC fa_1 27 ia_1 rfl), He.meth_ok (c.factC fa_1 28 ia_1 rfl), He.meth_ok (c.factC fa_1 29 ia_1 rfl), He.meth_ok (c.factC fa_2 0 ia_2 rfl), He.meth_ok (c.factC fa_2 1 ia_2 rfl)⟩
 p4 := ⟨He.meth_ok (c.factC fa_2 2 ia_2 rfl), He.meth_ok (c.factC fa_2 3 ia_2 rfl), He.meth_ok (c.factC fa_2 4 ia_2 rfl), He.free_ok X G (c.factC fa_2 5 ia_2 rfl), He.free_ok X G (c.factC fa_2 6 ia_2 rfl), He.free_ok X G (c.factC fa_2 7 ia_2 rfl), He.free_ok X G (c.factC fa_2 8 ia_2 rfl), He.free_ok X G (c.factC fa_2 9 ia_2 rfl), He.free_ok X G (c.factC fa_2 10 ia_2 rfl), He.free_ok X G (c.factC fa_2 11 ia_2 rfl), He.free_ok X G (c.factC fa_2 12 ia_2 rfl), He.free_ok X G (c.factC fa_2 13 ia_2 rfl), He.free_ok X G (c.factC fa_2 14 ia_2 rfl)⟩
def names : List PySem.Str := (["_wall", "BellError", "InvalidSetup", "UnknownLine", "NotationError", "LETTERS", "DIGITS", "MAX_NAME", "MAX_RANK", "MAX_STEPS", "MAX_TICKS", "MAX_FLAG", "MAX_DIGITS", "EDGE", "LEVEL", "RUN", "QUIET", "AWAIT", "BAR", "LATER", "LINE_WORDS", "FLAG_WORDS", "is_integer", "is_word", "is_name", "is_line", "is_work", "is_step", "check_lines", "check_works"] : List PySem.Str) ++ (["Setup", "lines_without", "setup_of", "RowReader", "_law_taken", "_law_mixed", "_law_step", "_law_setup"] : List PySem.Str)
end T
set_option maxHeartbeats 0
namespace T
open PySem PySem.Spec PyProof.Rows L2 Z
open He (ga ma)
abbrev R : PySem.W.OpenRow := PySem.W.OpenLaw.row PySem.Challenge.rw_callbells_k03_texts_of_set_ups
abbrev hk : PySem.W.Hook := hookR 1400 fa fn
def ob (s : PySem.W.SharedT) : Z.Seen := seeR 1400 fa fn (HandSHeadRun.getT s)
theorem ob_eq (s : PySem.W.SharedT) : ob s = hk.obs s.abs := seeR_eq (HandSHeadRun.getT_eq s)
theorem run (w : World) : HandSHeadRun.RunEq R (PySem.W.view R.prog [41]) hk ob 9000 names w := by
 intro os
 kernel_rfl
end T
set_option maxHeartbeats 1000000
namespace Z
open PySem PySem.Spec PyProof.Rows L2
def runs (l : List (Str × Key)) : Int := ((l.filter fun s => decide (s.1 = ("run" : Str))).map fun s => kI s.2).sum
def prog (P : Pl) (f : Frm) : Int := f.tk + runs ((P.ln f.ln).st.take f.st)
def progs (P : Pl) (fs : List Frm) : Int := (fs.map (prog P)).sum
def jobsum (js : List (Str × Nat)) : Int := (js.map fun j => (j.2 : Int)).sum
def evEnd (P : Pl) (es : List Ev) : Int := ((es.filter fun e => decide (e.1 = ("end" : Str))).map fun e => ticksOf (P.ln e.2)).sum
def evDone (P : Pl) (es : List Ev) : Int := ((es.filter fun e => decide (e.1 = ("done" : Str))).map fun e => (P.wk e.2).tk).sum
structure Acc (P : Pl) (C : Cr) : Prop where
 fr : ∀ f ∈ C.frames, ∃ n : Int, (P.ln f.ln).st[f.st]? = some (("run" : Str), (Sum.inl n : Key)) ∧ (f.tk : Int) < n
 jb : ∀ j ∈ C.jobs, (j.2 : Int) < (P.wk j.1).tk
structure Acct (P : Pl) (G : Sg) (es : List Ev) : Prop where
 cok : COk P G.C G.B
 ac : Acc P G.C
 su : ∃ c k d : Int, G.sums = ([("call", c), ("spun", 0), ("work", k), ("idle", d)] : List (Str × Int)) ∧ c = evEnd P es + progs P G.C.frames ∧ k = evDone P es + jobsum G.C.jobs ∧ c + k + d = G.time
theorem ring_taken {P : Pl} {B : Bd} {z : Str} : (B.ring P z).1.taken = B.taken := by
 unfold Bd.ring
 repeat (first | rfl | split)
theorem Acct.ring {P : Pl} {G : Sg} {es : List Ev} (h : Acct P G es) {z : Str} (hz : z ∈ P.names) : Acct P (G.ring P z) es := ⟨⟨h.cok.bok.ring hz, h.cok.jok, h.cok.fok.taken ring_taken⟩, h.ac, h.su⟩
end Z
set_option maxHeartbeats 1000000
namespace Z
open PySem PySem.Spec PyProof.Rows L2
theorem lc_rel {K : Fg} {J : It} {n : Nat} {G : Hp → Prop} {Y : Nat → Hp → V → Hp → Prop} {g : TG} {tt : TT} {te : TE} {vs : List Nat} {σ : L2.St} {H1 : Hp} {D : Addr} {Qd : Hp → Prop} {α : Type} (w : Walk J n G Y) (R : Nat → α → Prop) (f : α → PyData) (A : List Addr) (I : Hp → Prop)
  (hD : H1 D = none) (hn : n ≤ 40000) (hf : ∀ x, tupd (f x) = true) (hA : ∀ a ∈ A, H1 a ≠ none) (hI1 : I H1) (hI : ∀ H H', Fr [D] H H' → I H → I H') (hIs : ∀ H H', Same H H' → I H → I H')
  (hG : ∀ H, Fr A H1 H → I H → G H) (hY : ∀ i H x H', Y i H x H' → Same H H')
  (hs : ∀ (i : Nat) (x : V) (H H' : Hp) (Yes : VK) (No : Hp → Prop), i < n → Fr A H1 H → I H → Y i H x H' → (∀ y H4 a, Fr A H' H4 → I H4 → R i a → Dp K H4 y (f a) → Yes y H4) →
   g x (wipe σ vs) H' fun σ2 H2 => wipe σ2 vs = wipe σ vs ∧ tt σ2 H2 fun b H3 => if b = true then te σ2 H3 Yes else No H3)
  (hd : ∀ H' ys (l : List α), Fr A H1 H' → I H' → H' D = some (.lst ys) → l.length = n → (∀ k x, l[k]? = some x → R k x) → DpAll K H' ys (l.map f) → Qd H') :
  ∃ W : Nat → Nat → Hp → Prop, (∃ m, W 0 m (upd H1 D (.lst []))) ∧ ∀ i m H, W i m H →
   (J.stop i H ∧ Qd H) ∨ (J.go i H ∧ ∃ Nx : Hp → Prop, (∀ H', Nx H' → ∃ m', m' < m ∧ W (i + 1) m' H') ∧ ∀ x H', J.yld i H x H' → g x (wipe σ vs) H' fun σ2 H2 => wipe σ2 vs = wipe σ vs ∧ tt σ2 H2 fun b H3 =>
    if b = true then te σ2 H3 fun y H4 => ∃ acc, H4 D = some (.lst acc) ∧ acc.length < sizeLine ∧ Nx (upd H4 D (.lst (acc ++ [y]))) else Nx H3) := by
 have hDA : D ∉ A := fun z => hA D z hD
 refine lc_it w (fun i H => Fr A H1 H ∧ I H ∧ ∃ (l : List α) (ys : List V), l.length = i ∧ (∀ k x, l[k]? = some x → R k x) ∧ H D = some (.lst ys) ∧ DpAll K H ys (l.map f)) ⟨Fr.new hD, hI _ _ (Fr.new hD) hI1, [], [], rfl, by simp, upd_same, .nil⟩ (fun i H _ p => hG H p.1 p.2.1) (fun i x H H' hi p y => ?_) (fun H p => ?_)
 ·obtain ⟨f1, i1, l, ys, hl, hr, e1, a1⟩ := p
  have s2 := hY i H x H' y
  refine hs i x H H' _ _ hi f1 i1 y fun y4 H4 a f4 i4 r4 d4 => ⟨ys, f4.at (s2 _ _ e1) hDA, ?_, ?_, ?_, l ++ [a], ys ++ [y4], ?_, fun k x hk => ?_, upd_same, ?_⟩
  ·rw [a1.len, List.length_map, hl, sizeLine_eq]
   omega
  ·have f5 : Fr [D] H4 (upd H4 D (.lst (ys ++ [y4]))) := Fr.upd (by simp) (f4.at (s2 _ _ e1) hDA) rfl
   exact (f1.trans (s2.fr.trans f4)).seq f5 (by simp [hD])
  ·exact hI _ _ (Fr.upd (by simp) (f4.at (s2 _ _ e1) hDA) rfl) i4
  ·rw [List.length_append, hl]
   rfl
  ·rcases Nat.lt_or_ge k l.length with h | h
   ·rw [List.getElem?_append_left h] at hk
    exact hr k x hk
   ·rw [List.getElem?_append_right h] at hk
    have : k - l.length = 0 := by
     cases e : k - l.length with
     | zero => rfl
     | succ m => rw [e] at hk; simp at hk
    rw [this] at hk
    simp at hk
    subst hk
    have : k = i := by omega
    rw [this]
    exact r4
  ·have t5 := tk_upd (o := .lst (ys ++ [y4])) (f4.at (s2 _ _ e1) hDA)
   rw [List.map_append]
   exact (((a1.same s2).tk f4.tk (tupds_map hf _)).tk t5 (tupds_map hf _)).app (.cons (d4.tk t5 (hf a)) .nil)
 ·obtain ⟨f1, i1, l, ys, hl, hr, e1, a1⟩ := p
  exact hd H ys l f1 i1 e1 hl hr a1
theorem s_for {wi : TI} {g : TG} {tb : TS} {D : Ends} {σ : L2.St} {H : Hp} (q : wi σ H fun J H1 => ∃ W : Nat → Nat → L2.St → Hp → Prop, (∃ m, W 0 m σ H1) ∧ ∀ i m σ H, W i m σ H →
 (J.stop i H ∧ D.nx σ H) ∨ (J.go i H ∧ ∃ N : L2.St → Hp → Prop, (∀ σ' H', N σ' H' → ∃ m', m' < m ∧ W (i + 1) m' σ' H') ∧ ∀ x H', J.yld i H x H' → g x σ H' fun σ2 H2 => tb { D with nx := N, ct := N, bk := D.nx } σ2 H2)) : tFor wi g tb D σ H := q
theorem s_rng1 {ta : TA} {σ : L2.St} {H : Hp} {R : It → Hp → Prop} (q : ta σ H fun vs H1 => ∃ j : Int, vs = [.int j] ∧ -(2 ^ 62) ≤ j ∧ j < 2 ^ 62 ∧ R (Itr 0 j.toNat) H1) : iRng1 ta σ H R := q
theorem s_iT {K : Fg} {tl : TE} {σ : L2.St} {H : Hp} {R : It → Hp → Prop} (q : tl σ H fun x H1 => ∃ a, x = .ref a ∧ (∃ xs, SqT K H1 a xs) ∧ R (Itt K a) H1) : iTup K tl σ H R := q
theorem s_iL {K : Fg} {tl : TE} {σ : L2.St} {H : Hp} {R : It → Hp → Prop} (q : tl σ H fun x H1 => ∃ a, x = .ref a ∧ (∃ xs, SqL K H1 a xs) ∧ R (Itl K a) H1) : iList K tl σ H R := q
theorem s_lc {wi : TI} {g : TG} {tt : TT} {te : TE} {vs : List Nat} {σ : L2.St} {H : Hp} {Q : VK} (q : wi σ H fun J H1 => LcQ J g tt te vs σ Q H1) : tLc wi g tt te vs σ H Q := q
theorem s_slA {K : Fg} {H : Hp} {Q : VK} {a : Addr} {xs : List V} {lo hi : Option Int} (h : SqT K H a xs) (q : ∀ p H', Same H H' → SqT K H' p (cutV xs lo hi) → Q (.ref p) H') : rSlA K (.ref a) lo hi H Q := by
 refine ⟨a, xs, rfl, h, fun ⟨h1, h2⟩ => q a H (Same.refl H) ?_, fun _ p hp => q p _ (Same.new hp) (SqT.of upd_same)⟩
 have e : cutV xs lo hi = xs := by
  unfold cutV
  rw [h1, h2, List.drop_zero, Nat.sub_zero, List.take_length]
 rw [e]
 exact h
def nmW : List Str := ["flush", "sweep"]
theorem stepX_run {kvs : List (Key × V)} {ws : List V} {n : Int} (h1 : 1 ≤ n) (h2 : n ≤ 99) : isStepX kvs ws "run" (.int n) = true := by
 unfold isStepX
 rw [if_neg (by decide), if_neg (by decide), if_neg (by decide)]
 have : isIntD 1 99 (.int n) = true := decide_eq_true ⟨h1, h2⟩
 rw [this]
 rfl
theorem stepX_later {kvs : List (Key × V)} {ws : List V} {z : Str} (h : inV (.str z) ws = true) : isStepX kvs ws "later" (.str z) = true := by
 unfold isStepX
 rw [if_neg (by decide), if_pos (by decide)]
 exact h
end Z
set_option maxHeartbeats 1000000
namespace Z
open PySem PySem.Spec PyProof.Rows L2
def EvOk (P : Pl) (es : List Ev) : Prop := ∀ e ∈ es, (e.1 = ("end" : Str) → e.2 ∈ P.names) ∧ (e.1 = ("done" : Str) → e.2 ∈ P.wnames)
theorem EvOk.nil {P : Pl} : EvOk P [] := by intro e h; simp at h
theorem EvOk.app {P : Pl} {a b : List Ev} (h : EvOk P a) (k : EvOk P b) : EvOk P (a ++ b) := fun e he => by
 rcases List.mem_append.mp he with he | he
 ·exact h e he
 ·exact k e he
end Z
set_option maxHeartbeats 1000000
namespace Z
open PySem PySem.Spec PyProof.Rows L2
abbrev Lg := Int × Str × Str
structure Md where
 shut : List Str
 edge : List Str
 high : List Str
 up : List Int
 bar : Int
 calls : List Frm
 jobs : List (Str × Nat)
 now : Int
 log : List Lg
 spent : List Int
 joined : List Str
def putM {α : Type} [DecidableEq α] (l : List α) (x : α) (b : Bool) : List α := (l.filter fun y => !decide (y = x)) ++ (if b = true then [x] else [])
def Md.ring (P : Pl) (M : Md) (z : Str) : Md × Bool :=
 if (P.ln z).kd = "level" then ({ M with joined := M.joined ++ (if z ∈ M.high then [z] else []), high := putM M.high z true }, !decide (z ∈ M.high))
 else ({ M with joined := M.joined ++ (if z ∈ M.edge then [z] else []), edge := putM M.edge z true }, !decide (z ∈ M.edge))
def Md.does (P : Pl) (M : Md) (s : Str × Key) : Md × Bool :=
 if s.1 = "bar" then ({ M with bar := kI s.2 }, true)
 else if s.1 = "later" then ({ M with jobs := leave M.jobs (kS s.2) }, true)
 else if s.1 = "await" then (M, true)
 else if s.1 = "ring" then M.ring P (kS s.2)
 else if s.1 = "quiet" then ({ M with high := putM M.high (kS s.2) false }, decide (kS s.2 ∈ M.high))
 else if s.1 = "mask" then ({ M with shut := putM M.shut (kS s.2) true }, !decide (kS s.2 ∈ M.shut))
 else if s.1 = "unmask" then ({ M with shut := putM M.shut (kS s.2) false }, decide (kS s.2 ∈ M.shut))
 else if s.1 = "set" then ({ M with up := putM M.up (kI s.2) true }, !decide (kI s.2 ∈ M.up))
 else ({ M with up := putM M.up (kI s.2) false }, decide (kI s.2 ∈ M.up))
structure Eqs {α : Type} (l m : List α) : Prop where
 n1 : l.Nodup
 n2 : m.Nodup
 eq : ∀ x, x ∈ l ↔ x ∈ m
theorem Eqs.nil {α : Type} : Eqs ([] : List α) [] := ⟨.nil, .nil, fun _ => Iff.rfl⟩
theorem Eqs.dec {α : Type} [DecidableEq α] {l m : List α} (h : Eqs l m) (x : α) : decide (x ∈ l) = decide (x ∈ m) := by
 by_cases k : x ∈ l
 ·rw [decide_eq_true k, decide_eq_true ((h.eq x).mp k)]
 ·rw [decide_eq_false k, decide_eq_false fun z => k ((h.eq x).mpr z)]
theorem putM_mem {α : Type} [DecidableEq α] {l : List α} {x y : α} {b : Bool} : y ∈ putM l x b ↔ (y ∈ l ∧ y ≠ x) ∨ (y = x ∧ b = true) := by
 unfold putM
 rw [List.mem_append, List.mem_filter]
 cases b <;> simp
theorem putM_nodup {α : Type} [DecidableEq α] {l : List α} (h : l.Nodup) (x : α) (b : Bool) : (putM l x b).Nodup := by
 unfold putM
 rw [List.nodup_append]
 refine ⟨h.sublist List.filter_sublist, by cases b <;> simp, fun a ha c hc e => ?_⟩
 cases b with
 | false => simp at hc
 | true =>
  simp at hc
  subst hc
  subst e
  have := (List.mem_filter.mp ha).2
  simp at this
theorem putL_mem {α : Type} [DecidableEq α] {l : List α} (h : l.Nodup) {x y : α} {b : Bool} : y ∈ (putL l x b).1 ↔ (y ∈ l ∧ y ≠ x) ∨ (y = x ∧ b = true) := by
 unfold putL
 by_cases hx : x ∈ l
 ·cases b with
  | true =>
   rw [if_pos (by simp [hx])]
   show y ∈ l ↔ _
   by_cases e : y = x
   ·subst e; simp [hx]
   ·simp [e]
  | false =>
   rw [if_neg (by simp [hx])]
   show y ∈ (if false = true then l ++ [x] else l.erase x) ↔ _
   rw [if_neg (by simp), h.mem_erase_iff]
   simp [And.comm]
 ·cases b with
  | true =>
   rw [if_neg (by simp [hx])]
   show y ∈ (if true = true then l ++ [x] else l.erase x) ↔ _
   rw [if_pos rfl, List.mem_append, List.mem_singleton]
   by_cases e : y = x
   ·subst e; simp
   ·simp [e]
  | false =>
   rw [if_pos (by simp [hx])]
   show y ∈ l ↔ _
   by_cases e : y = x
   ·subst e; simp [hx]
   ·simp [e]
theorem putL_nodup {α : Type} [DecidableEq α] {l : List α} (h : l.Nodup) (x : α) (b : Bool) : (putL l x b).1.Nodup := by
 unfold putL
 split
 ·exact h
 ·rename_i hn
  cases b with
  | true =>
   show (if true = true then l ++ [x] else l.erase x).Nodup
   rw [if_pos rfl, List.nodup_append]
   refine ⟨h, by simp, fun a ha c hc e => ?_⟩
   simp at hc
   subst hc
   subst e
   simp [ha] at hn
  | false =>
   show (if false = true then l ++ [x] else l.erase x).Nodup
   rw [if_neg (by simp)]
   exact h.erase x
theorem Eqs.put {α : Type} [DecidableEq α] {l m : List α} (h : Eqs l m) (x : α) (b : Bool) : Eqs (putM l x b) (putL m x b).1 := ⟨putM_nodup h.n1 x b, putL_nodup h.n2 x b, fun y => by rw [putM_mem, putL_mem h.n2, h.eq y]⟩
theorem putL_res {α : Type} [DecidableEq α] {l : List α} {x : α} {b : Bool} : (putL l x b).2 = !decide (decide (x ∈ l) = b) := by
 unfold putL
 split
 ·rename_i h; simp [h]
 ·rename_i h; simp [h]
theorem Eqs.add {α : Type} [DecidableEq α] {l m : List α} (h : Eqs l m) {x : α} (hx : x ∉ m) : Eqs (putM l x true) (m ++ [x]) := by
 have := h.put x true
 unfold putL at this
 rw [if_neg (by simp [hx])] at this
 exact this
theorem Eqs.stay {α : Type} [DecidableEq α] {l m : List α} (h : Eqs l m) {x : α} (hx : x ∈ m) : Eqs (putM l x true) m := by
 have := h.put x true
 unfold putL at this
 rw [if_pos (by simp [hx])] at this
 exact this
structure RelB (M : Md) (B : Bd) : Prop where
 sh : Eqs M.shut B.shut
 ed : Eqs M.edge B.wanted
 hi : Eqs M.high B.high
 up : Eqs M.up B.raised
theorem isEdge {P : Pl} (ok : P.Ok) {z : Str} (hz : z ∈ P.names) : (P.ln z).kd = "edge" ∨ (P.ln z).kd = "level" := by
 have h := ok.lok _ (ok.ln_mem hz).1
 simp only [isLine, dLn, Bool.and_eq_true] at h
 have h2 := h.2.1
 have h3 : (P.ln z).kd ∈ (["edge", "level"] : List Str) := inV_str (show inV (.str (P.ln z).kd) ((["edge", "level"] : List Str).map V.str) = true from h2)
 simpa using h3
theorem ring_sim {P : Pl} (ok : P.Ok) {M : Md} {B : Bd} (h : RelB M B) {z : Str} (hz : z ∈ P.names) : RelB (M.ring P z).1 (B.ring P z).1 ∧ (M.ring P z).2 = (B.ring P z).2 := by
 unfold Md.ring Bd.ring
 rcases isEdge ok hz with e | e
 ·rw [if_neg (show ¬ (P.ln z).kd = "level" by rw [e]; decide), if_pos e]
  have hd := h.ed.dec z
  by_cases hx : z ∈ B.wanted
  ·rw [if_pos hx]
   exact ⟨⟨h.sh, h.ed.stay hx, h.hi, h.up⟩, by show (!decide (z ∈ M.edge)) = false; rw [hd, decide_eq_true hx]; rfl⟩
  ·rw [if_neg hx]
   exact ⟨⟨h.sh, h.ed.add hx, h.hi, h.up⟩, by show (!decide (z ∈ M.edge)) = true; rw [hd, decide_eq_false hx]; rfl⟩
 ·rw [if_pos e, if_neg (show ¬ (P.ln z).kd = "edge" by rw [e]; decide)]
  have hd := h.hi.dec z
  by_cases hx : z ∈ B.high
  ·rw [if_pos hx]
   exact ⟨⟨h.sh, h.ed, h.hi.stay hx, h.up⟩, by show (!decide (z ∈ M.high)) = false; rw [hd, decide_eq_true hx]; rfl⟩
  ·rw [if_neg hx]
   exact ⟨⟨h.sh, h.ed, h.hi.add hx, h.up⟩, by show (!decide (z ∈ M.high)) = true; rw [hd, decide_eq_false hx]; rfl⟩
theorem carry_sim {P : Pl} (ok : P.Ok) {M : Md} {B : Bd} (h : RelB M B) {s : Str × Key} (hs : CarryIs P s) : RelB (M.does P s).1 (B.carry P s).1 ∧ (M.does P s).2 = (B.carry P s).2 := by
 obtain ⟨w, k⟩ := s
 have q : ∀ {α : Type} [DecidableEq α] {l m : List α} (e : Eqs l m) (x : α), (!decide (x ∈ l)) = (putL m x true).2 ∧ decide (x ∈ l) = (putL m x false).2 := fun {α _ l m} e x => by
  rw [putL_res, putL_res, e.dec x]
  generalize decide (x ∈ m) = b
  constructor <;> (cases b <;> rfl)
 rcases hs with ⟨hw, z, e, hz⟩ | ⟨hw, i, e, h0, h7⟩
 ·simp only at e hw
  subst e
  simp only [List.mem_cons, List.not_mem_nil, or_false] at hw
  rcases hw with rfl | rfl | rfl | rfl
  ·exact ring_sim ok h hz
  ·exact ⟨⟨h.sh, h.ed, h.hi.put z false, h.up⟩, (q h.hi z).2⟩
  ·exact ⟨⟨h.sh.put z true, h.ed, h.hi, h.up⟩, (q h.sh z).1⟩
  ·exact ⟨⟨h.sh.put z false, h.ed, h.hi, h.up⟩, (q h.sh z).2⟩
 ·simp only at e hw
  subst e
  simp only [List.mem_cons, List.not_mem_nil, or_false] at hw
  rcases hw with rfl | rfl
  ·exact ⟨⟨h.sh, h.ed, h.hi, h.up.put i true⟩, (q h.up i).1⟩
  ·exact ⟨⟨h.sh, h.ed, h.hi, h.up.put i false⟩, (q h.up i).2⟩
theorem carry_rest {P : Pl} {M : Md} {s : Str × Key} (h1 : s.1 ≠ "bar") (h2 : s.1 ≠ "later") : (M.does P s).1.bar = M.bar ∧ (M.does P s).1.jobs = M.jobs := by
 unfold Md.does Md.ring
 rw [if_neg h1, if_neg h2]
 constructor <;> (repeat (first | rfl | split))
theorem does_rest {P : Pl} {M : Md} {s : Str × Key} : (M.does P s).1.calls = M.calls ∧ (M.does P s).1.now = M.now ∧ (M.does P s).1.log = M.log ∧ (M.does P s).1.spent = M.spent := by
 unfold Md.does Md.ring
 refine ⟨?_, ?_, ?_, ?_⟩ <;> (repeat (first | rfl | split))
structure RelC (M : Md) (lim : Int) (jobs : List (Str × Nat)) (B : Bd) : Prop where
 b : RelB M B
 lim : M.bar = lim
 jobs : M.jobs = jobs
end Z
set_option maxHeartbeats 1000000
namespace Z
open PySem PySem.Spec PyProof.Rows L2
abbrev leO : Ln → Ln → Bool := PySem.W.dataLe false ordD
theorem leO_total : PySem.W.TotalLe leO := PySem.W.sortLe_total _ _ _
theorem leO_sorted (l : List Ln) : (l.mergeSort leO).Pairwise fun a b => leO a b = true := List.pairwise_mergeSort leO_total.trans (fun a b => Bool.or_eq_true_iff.mpr (leO_total.total a b)) l
theorem str_ext {a b : Str} (h : a.cps.toList = b.cps.toList) : a = b := by
 cases a
 cases b
 simp only at h
 congr
 exact Array.toList_inj.mp h
theorem leO_anti {a b : Ln} (h1 : leO a b = true) (h2 : leO b a = true) : a.nm = b.nm := by
 have e1 : PySem.W.dataLt (ordD b) (ordD a) = false := by
  have : (!PySem.W.dataLt (ordD b) (ordD a)) = true := h1
  simpa using this
 have e2 : PySem.W.dataLt (ordD a) (ordD b) = false := by
  have : (!PySem.W.dataLt (ordD a) (ordD b)) = true := h2
  simpa using this
 unfold ordD at e1 e2
 rw [PySem.W.dataLt_pair (by simp [PySem.W.alike]) (by simp [PySem.W.alike]), PySem.W.dataLt_int, PySem.W.dataLt_str] at e1 e2
 simp only [PyData.eqv, beq_iff_eq] at e1 e2
 by_cases hr : (0 - b.rk) = 0 - a.rk
 ·rw [if_pos hr] at e1
  rw [if_pos hr.symm] at e2
  by_cases hn : b.nm = a.nm
  ·exact hn.symm
  ·rw [if_neg hn] at e1
   rw [if_neg (fun z => hn z.symm)] at e2
   simp only [decide_eq_false_iff_not] at e1 e2
   exact str_ext (List.le_antisymm (List.not_lt.mp e1) (List.not_lt.mp e2))
 ·rw [if_neg hr] at e1
  rw [if_neg (fun z => hr z.symm)] at e2
  simp only [decide_eq_false_iff_not] at e1 e2
  omega
theorem Pl.Ok.inj {P : Pl} (ok : P.Ok) {a b : Ln} (ha : a ∈ P.ls) (hb : b ∈ P.ls) (e : a.nm = b.nm) : a = b := by
 rw [← ok.ln_eq ha, ← ok.ln_eq hb, e]
theorem sorted_one {P : Pl} (ok : P.Ok) {l m : List Ln} (hl : ∀ x ∈ l, x ∈ P.ls) (hm : ∀ x ∈ m, x ∈ P.ls) (p : l.Perm m) (s1 : l.Pairwise fun a b => leO a b = true) (s2 : m.Pairwise fun a b => leO a b = true) : l = m :=
 List.Perm.eq_of_pairwise (fun a b ha hb h1 h2 => ok.inj (hl a ha) (hm b hb) (leO_anti h1 h2)) s1 s2 p
theorem ord_filter {P : Pl} (ok : P.Ok) (p : Ln → Bool) : (P.ls.mergeSort leO).filter p = (P.ls.filter p).mergeSort leO := by
 refine sorted_one ok (fun x hx => ?_) (fun x hx => ?_) ?_ ((leO_sorted _).sublist List.filter_sublist) (leO_sorted _)
 ·exact (List.mergeSort_perm _ _).mem_iff.mp (List.mem_filter.mp hx).1
 ·exact (List.mem_filter.mp ((List.mergeSort_perm _ _).mem_iff.mp hx)).1
 ·exact ((List.mergeSort_perm _ _).filter p).trans (List.mergeSort_perm _ _).symm
theorem order_filter {P : Pl} (ok : P.Ok) (p : Str → Bool) : P.order.filter p = ((P.ls.filter fun l => p l.nm).mergeSort leO).map (·.nm) := by
 unfold Pl.order
 rw [List.filter_map, ← ord_filter ok]
 rfl
theorem order_names {P : Pl} (ok : P.Ok) {l : List Ln} {p : Str → Bool} (hl : ∀ x ∈ l, x ∈ P.ls) (hn : l.Nodup) (he : ∀ x ∈ P.ls, p x.nm = true ↔ x ∈ l) : (l.mergeSort leO).map (·.nm) = P.order.filter p := by
 rw [order_filter ok]
 congr 1
 refine sorted_one ok (fun x hx => hl x ((List.mergeSort_perm _ _).mem_iff.mp hx)) (fun x hx => (List.mem_filter.mp ((List.mergeSort_perm _ _).mem_iff.mp hx)).1) ?_ (leO_sorted _) (leO_sorted _)
 refine (List.mergeSort_perm _ _).trans (List.Perm.trans ?_ (List.mergeSort_perm _ _).symm)
 have hd : P.ls.Nodup := by
  have := ok.lnd
  unfold Pl.names at this
  exact List.Pairwise.of_map _ (fun a b h e => h (by rw [e])) this
 refine (List.perm_ext_iff_of_nodup hn (hd.sublist List.filter_sublist)).mpr fun x => ?_
 rw [List.mem_filter]
 constructor
 ·intro hx
  exact ⟨hl x hx, (he x (hl x hx)).mpr hx⟩
 ·rintro ⟨h1, h2⟩
  exact (he x h1).mp h2
def rkF (P : Pl) (f : Frm) : Int := (P.ln f.ln).rk
def AtOk (P : Pl) (f : Frm) : Prop := ∃ s, (P.ln f.ln).st[f.st]? = some s ∧ ((s.1 = "run" ∧ ∃ n : Int, s.2 = .inl n ∧ (f.tk : Int) < n) ∨ (s.1 = "await" ∧ f.tk = 0))
structure RInv (P : Pl) (C : Cr) (B : Bd) : Prop where
 cok : COk P C B
 tk : ∀ z, z ∈ B.taken ↔ z ∈ C.frames.map (·.ln)
 rk : (C.frames.map (rkF P)).Pairwise (· < ·)
 rt : ∀ f ∈ C.frames, AtOk P f
 jb : ∀ j ∈ C.jobs, (j.2 : Int) < (P.wk j.1).tk
structure Rel (P : Pl) (M : Md) (G : Sg) : Prop where
 calls : M.calls = G.C.frames
 c : RelC M G.C.limit G.C.jobs G.B
 now : M.now = G.time
 sp : ∃ a b c d : Int, M.spent = [a, b, c, d] ∧ G.sums = ([("call", a), ("spun", b), ("work", c), ("idle", d)] : List (Str × Int))
end Z
set_option maxHeartbeats 1000000
namespace Z
open PySem PySem.Spec PyProof.Rows L2
end Z
set_option maxHeartbeats 1000000
namespace Z
open PySem PySem.Spec PyProof.Rows L2
def dFrm (f : Frm) : PyData := .tuple [.str f.ln, .int f.st, .int f.tk, .int f.kp]
def dLg (l : Lg) : PyData := .tuple [.int l.1, .str l.2.1, .str l.2.2]
structure MA where
 m : Addr
 ln : Addr
 wk : Addr
 sh : Addr
 ed : Addr
 hi : Addr
 up : Addr
 ca : Addr
 jo : Addr
 lg : Addr
 sp : Addr
 jn : Addr
def MA.own (D : MA) : List Addr := [D.m, D.sh, D.ed, D.hi, D.up, D.ca, D.jo, D.lg, D.sp, D.jn]
def mdKV (D : MA) (bar now : Int) : List (Key × V) := [(.inr "lines", .ref D.ln), (.inr "works", .ref D.wk), (.inr "shut", .ref D.sh), (.inr "edge", .ref D.ed), (.inr "high", .ref D.hi), (.inr "up", .ref D.up), (.inr "bar", .int bar), (.inr "calls", .ref D.ca), (.inr "jobs", .ref D.jo), (.inr "now", .int now), (.inr "log", .ref D.lg), (.inr "spent", .ref D.sp), (.inr "joined", .ref D.jn)]
section
variable {D : MA} {b n : Int}
theorem mk_ln : valV (mdKV D b n) (.inr "lines") = some (.ref D.ln) := by kernel_rfl
theorem mk_wk : valV (mdKV D b n) (.inr "works") = some (.ref D.wk) := by kernel_rfl
theorem mk_sh : valV (mdKV D b n) (.inr "shut") = some (.ref D.sh) := by kernel_rfl
theorem mk_ed : valV (mdKV D b n) (.inr "edge") = some (.ref D.ed) := by kernel_rfl
theorem mk_hi : valV (mdKV D b n) (.inr "high") = some (.ref D.hi) := by kernel_rfl
theorem mk_up : valV (mdKV D b n) (.inr "up") = some (.ref D.up) := by kernel_rfl
theorem mk_bar : valV (mdKV D b n) (.inr "bar") = some (.int b) := by kernel_rfl
theorem mk_ca : valV (mdKV D b n) (.inr "calls") = some (.ref D.ca) := by kernel_rfl
theorem mk_jo : valV (mdKV D b n) (.inr "jobs") = some (.ref D.jo) := by kernel_rfl
theorem mk_now : valV (mdKV D b n) (.inr "now") = some (.int n) := by kernel_rfl
theorem mk_lg : valV (mdKV D b n) (.inr "log") = some (.ref D.lg) := by kernel_rfl
theorem mk_sp : valV (mdKV D b n) (.inr "spent") = some (.ref D.sp) := by kernel_rfl
theorem mk_jn : valV (mdKV D b n) (.inr "joined") = some (.ref D.jn) := by kernel_rfl
end
def LsAt (K : Fg) (H : Hp) (a : Addr) (ds : List PyData) : Prop := ∃ xs, H a = some (.lst xs) ∧ DpAll K H xs ds
theorem LsAt.keep {K : Fg} {H H' : Hp} {a : Addr} {ds : List PyData} {A : List Addr} (h : LsAt K H a ds) (f : Fr A H H') (n : a ∉ A) (t : tupds ds = true) : LsAt K H' a ds := by
 obtain ⟨xs, h1, h2⟩ := h
 exact ⟨xs, f.at h1 n, h2.tk f.tk t⟩
structure MdL (K : Fg) (H : Hp) (D : MA) (M : Md) : Prop where
 nd : D.own.Nodup
 sh : H D.sh = some (.lst (M.shut.map V.str))
 ed : H D.ed = some (.lst (M.edge.map V.str))
 hi : H D.hi = some (.lst (M.high.map V.str))
 up : H D.up = some (.lst (M.up.map V.int))
 ca : LsAt K H D.ca (M.calls.map dFrm)
 jo : LsAt K H D.jo (M.jobs.map dJob)
 lg : LsAt K H D.lg (M.log.map dLg)
 sp : H D.sp = some (.lst (M.spent.map V.int))
 jn : H D.jn = some (.lst (M.joined.map V.str))
structure MdAt (K : Fg) (H : Hp) (D : MA) (M : Md) : Prop where
 l : MdL K H D M
 md : H D.m = some (.dK (mdKV D M.bar M.now))
section
variable {K : Fg} {H H' : Hp} {D : MA} {M : Md}
theorem tds_frm (l : List Frm) : tupds (l.map dFrm) = true := tupds_map (fun _ => rfl) l
theorem tds_job (l : List (Str × Nat)) : tupds (l.map dJob) = true := tupds_map (fun _ => rfl) l
theorem tds_lg (l : List Lg) : tupds (l.map dLg) = true := tupds_map (fun _ => rfl) l
theorem MdL.keep (h : MdL K H D M) {A : List Addr} (f : Fr A H H') (n : ∀ a ∈ D.own, a ∉ A) : MdL K H' D M := by
 have n' : D.m ∉ A ∧ D.sh ∉ A ∧ D.ed ∉ A ∧ D.hi ∉ A ∧ D.up ∉ A ∧ D.ca ∉ A ∧ D.jo ∉ A ∧ D.lg ∉ A ∧ D.sp ∉ A ∧ D.jn ∉ A := by simpa [MA.own] using n
 obtain ⟨n0, n1, n2, n3, n4, n5, n6, n7, n8, n9⟩ := n'
 exact ⟨h.nd, f.at h.sh n1, f.at h.ed n2, f.at h.hi n3, f.at h.up n4, h.ca.keep f n5 (tds_frm _), h.jo.keep f n6 (tds_job _), h.lg.keep f n7 (tds_lg _), f.at h.sp n8, f.at h.jn n9⟩
theorem MdAt.keep (h : MdAt K H D M) {A : List Addr} (f : Fr A H H') (n : ∀ a ∈ D.own, a ∉ A) : MdAt K H' D M := ⟨h.l.keep f n, f.at h.md (n _ (by simp [MA.own]))⟩
theorem MdAt.same (h : MdAt K H D M) (s : Same H H') : MdAt K H' D M := h.keep (A := []) s.fr (by simp)
theorem md_same (s : Same H H') (h : MdAt K H D M) : MdAt K H' D M := h.same s
theorem MdAt.ex (h : MdAt K H D M) : ∀ a ∈ D.own, H a ≠ none := by
 obtain ⟨_, h1, _⟩ := h.l.ca
 obtain ⟨_, h2, _⟩ := h.l.jo
 obtain ⟨_, h3, _⟩ := h.l.lg
 simp [MA.own, h.md, h.l.sh, h.l.ed, h.l.hi, h.l.up, h1, h2, h3, h.l.sp, h.l.jn]
structure MA.Nes (D : MA) : Prop where
 m : D.m ≠ D.sh ∧ D.m ≠ D.ed ∧ D.m ≠ D.hi ∧ D.m ≠ D.up ∧ D.m ≠ D.ca ∧ D.m ≠ D.jo ∧ D.m ≠ D.lg ∧ D.m ≠ D.sp ∧ D.m ≠ D.jn
 sh : D.sh ≠ D.ed ∧ D.sh ≠ D.hi ∧ D.sh ≠ D.up ∧ D.sh ≠ D.ca ∧ D.sh ≠ D.jo ∧ D.sh ≠ D.lg ∧ D.sh ≠ D.sp ∧ D.sh ≠ D.jn
 ed : D.ed ≠ D.hi ∧ D.ed ≠ D.up ∧ D.ed ≠ D.ca ∧ D.ed ≠ D.jo ∧ D.ed ≠ D.lg ∧ D.ed ≠ D.sp ∧ D.ed ≠ D.jn
 hi : D.hi ≠ D.up ∧ D.hi ≠ D.ca ∧ D.hi ≠ D.jo ∧ D.hi ≠ D.lg ∧ D.hi ≠ D.sp ∧ D.hi ≠ D.jn
 up : D.up ≠ D.ca ∧ D.up ≠ D.jo ∧ D.up ≠ D.lg ∧ D.up ≠ D.sp ∧ D.up ≠ D.jn
 ca : D.ca ≠ D.jo ∧ D.ca ≠ D.lg ∧ D.ca ≠ D.sp ∧ D.ca ≠ D.jn
 jo : D.jo ≠ D.lg ∧ D.jo ≠ D.sp ∧ D.jo ≠ D.jn
 lg : D.lg ≠ D.sp ∧ D.lg ≠ D.jn
 sp : D.sp ≠ D.jn
theorem MA.nes {D : MA} (h : D.own.Nodup) : D.Nes := by
 simp only [MA.own, List.nodup_cons, List.mem_cons, List.not_mem_nil, or_false, not_or, List.nodup_nil, and_true, not_false_eq_true] at h
 obtain ⟨h0, h1, h2, h3, h4, h5, h6, h7, h8⟩ := h
 exact ⟨h0, h1, h2, h3, h4, h5, h6, h7, h8⟩
theorem MdL.put (h : MdL K H D M) {u : HO} (e : H D.m = some u) (t : tupO u = false) : MdAt K (upd H D.m (.dK (mdKV D M.bar M.now))) D M := by
 have f : Fr [D.m] H (upd H D.m (.dK (mdKV D M.bar M.now))) := Fr.upd (by simp) e t
 obtain ⟨⟨n1, n2, n3, n4, n5, n6, n7, n8, n9⟩, _, _, _, _, _, _, _, _⟩ := MA.nes h.nd
 exact ⟨⟨h.nd, f.at h.sh (by simp [Ne.symm n1]), f.at h.ed (by simp [Ne.symm n2]), f.at h.hi (by simp [Ne.symm n3]), f.at h.up (by simp [Ne.symm n4]), h.ca.keep f (by simp [Ne.symm n5]) (tds_frm _), h.jo.keep f (by simp [Ne.symm n6]) (tds_job _), h.lg.keep f (by simp [Ne.symm n7]) (tds_lg _), f.at h.sp (by simp [Ne.symm n8]), f.at h.jn (by simp [Ne.symm n9])⟩, upd_same⟩
end
structure ChM (H : Hp) (D : MA) (H' : Hp) (D' : MA) : Prop where
 fr : Fr D.own H H'
 m : D'.m = D.m
 ln : D'.ln = D.ln
 wk : D'.wk = D.wk
 own : ∀ a ∈ D'.own, a ∈ D.own ∨ H a = none
theorem ChM.refl {H : Hp} {D : MA} : ChM H D H D := ⟨Fr.refl, rfl, rfl, rfl, fun _ h => .inl h⟩
theorem ChM.same {H H' : Hp} {D : MA} (s : Same H H') : ChM H D H' D := ⟨s.fr, rfl, rfl, rfl, fun _ h => .inl h⟩
theorem ChM.trans {H H1 H2 : Hp} {D D1 D2 : MA} (x : ChM H D H1 D1) (y : ChM H1 D1 H2 D2) : ChM H D H2 D2 := by
 refine ⟨x.fr.seq y.fr x.own, y.m.trans x.m, y.ln.trans x.ln, y.wk.trans x.wk, fun a ha => ?_⟩
 rcases y.own a ha with h | h
 ·exact x.own a h
 ·exact .inr (x.fr.back h)
structure PlM (K : Fg) (H : Hp) (D : MA) (P : Pl) : Prop where
 ok : P.Ok
 ln : ∃ vs, H D.ln = some (.dK ((P.ls.map fun l => (Sum.inr l.nm : Key)).zip vs)) ∧ DpAll K H vs (P.ls.map dLn)
 wk : ∃ vs, H D.wk = some (.dK ((P.ws.map fun l => (Sum.inr l.nm : Key)).zip vs)) ∧ DpAll K H vs (P.ws.map dWk)
theorem PlM.keep {K : Fg} {H H' : Hp} {D : MA} {P : Pl} (h : PlM K H D P) {A : List Addr} (f : Fr A H H') (n1 : D.ln ∉ A) (n2 : D.wk ∉ A) : PlM K H' D P := by
 obtain ⟨vs, h1, h2⟩ := h.ln
 obtain ⟨ws, h3, h4⟩ := h.wk
 exact ⟨h.ok, ⟨vs, f.at h1 n1, h2.tk f.tk (tupds_map tupd_dLn _)⟩, ⟨ws, f.at h3 n2, h4.tk f.tk (tupds_map tupd_dWk _)⟩⟩
theorem PlM.same {K : Fg} {H H' : Hp} {D : MA} {P : Pl} (h : PlM K H D P) (s : Same H H') : PlM K H' D P := h.keep (A := []) s.fr (by simp) (by simp)
theorem plm_same {K : Fg} {H H' : Hp} {D : MA} {P : Pl} (s : Same H H') (h : PlM K H D P) : PlM K H' D P := h.same s
theorem PlM.of {K : Fg} {H : Hp} {D D' : MA} {P : Pl} (h : PlM K H D P) (e1 : D'.ln = D.ln) (e2 : D'.wk = D.wk) : PlM K H D' P := ⟨h.ok, by rw [e1]; exact h.ln, by rw [e2]; exact h.wk⟩
end Z
set_option maxHeartbeats 1000000
namespace Z
open PySem PySem.Spec PyProof.Rows L2
section
variable {σ : L2.St} {H : Hp} {a : Addr} {kvs : List (Key × V)} {ea ec ed : L2.St → Hp → Prop} {eb : VK}
theorem s_dputg {td ty tv : TE} (q : tv σ H fun v H1 => td σ H1 fun x H2 => ty σ H2 fun y H3 => ∃ a H4, x = .ref a ∧ DPut H3 a y v H4 ∧ ea σ H4) : sDPut td ty tv (.mk ea eb ec ed) σ H := q
end
structure MSt (K : Fg) (H : Hp) (D : MA) (P : Pl) (M : Md) : Prop where
 md : MdAt K H D M
 pl : PlM K H D P
 n1 : D.ln ∉ D.own
 n2 : D.wk ∉ D.own
theorem MSt.same {K : Fg} {H H' : Hp} {D : MA} {P : Pl} {M : Md} (h : MSt K H D P M) (s : Same H H') : MSt K H' D P M := ⟨h.md.same s, h.pl.same s, h.n1, h.n2⟩
theorem mst_same {K : Fg} {H H' : Hp} {D : MA} {P : Pl} {M : Md} (s : Same H H') (h : MSt K H D P M) : MSt K H' D P M := h.same s
theorem PlM.ex {K : Fg} {H : Hp} {D : MA} {P : Pl} (h : PlM K H D P) : H D.ln ≠ none ∧ H D.wk ≠ none := by
 obtain ⟨vs, h1, h2⟩ := h.ln
 obtain ⟨ws, h3, h4⟩ := h.wk
 simp [h1, h3]
end Z
set_option maxHeartbeats 1000000
namespace Z
open PySem PySem.Spec PyProof.Rows L2
structure MBd (P : Pl) (M : Md) : Prop where
 sh : M.shut.length ≤ 1000
 ed : M.edge.length ≤ 1000
 hi : M.high.length ≤ 1000
 up : M.up.length ≤ 1000
 ca : M.calls.length ≤ 1000
 jo : M.jobs.length ≤ 1000
 jw : ∀ j ∈ M.jobs, j.1 ∈ P.wnames
 sz : M.joined.length + M.log.length ≤ 1000000
end Z
set_option maxHeartbeats 1000000
namespace Z
open PySem PySem.Spec PyProof.Rows L2
structure Gr (P : Pl) (M M' : Md) (n : Nat) : Prop where
 sh : M'.shut.length ≤ M.shut.length + n
 ed : M'.edge.length ≤ M.edge.length + n
 hi : M'.high.length ≤ M.high.length + n
 up : M'.up.length ≤ M.up.length + n
 ca : M'.calls.length ≤ M.calls.length + n
 jo : M'.jobs.length ≤ M.jobs.length + n
 jw : (∀ j ∈ M.jobs, j.1 ∈ P.wnames) → ∀ j ∈ M'.jobs, j.1 ∈ P.wnames
 sz : M'.joined.length + M'.log.length ≤ M.joined.length + M.log.length + n
theorem Gr.refl {P : Pl} {M : Md} : Gr P M M 0 := ⟨Nat.le_refl _, Nat.le_refl _, Nat.le_refl _, Nat.le_refl _, Nat.le_refl _, Nat.le_refl _, id, Nat.le_refl _⟩
theorem Gr.trans {P : Pl} {M M1 M2 : Md} {n k : Nat} (x : Gr P M M1 n) (y : Gr P M1 M2 k) : Gr P M M2 (n + k) := by
 obtain ⟨a1, a2, a3, a4, a5, a6, a7, a8⟩ := x
 obtain ⟨b1, b2, b3, b4, b5, b6, b7, b8⟩ := y
 exact ⟨by omega, by omega, by omega, by omega, by omega, by omega, fun h => b7 (a7 h), by omega⟩
theorem Gr.mono {P : Pl} {M M1 : Md} {n k : Nat} (x : Gr P M M1 n) (h : n ≤ k) : Gr P M M1 k := by
 obtain ⟨a1, a2, a3, a4, a5, a6, a7, a8⟩ := x
 exact ⟨by omega, by omega, by omega, by omega, by omega, by omega, a7, by omega⟩
structure Rm (P : Pl) (M : Md) (n : Nat) : Prop where
 sh : M.shut.length + n ≤ 1000
 ed : M.edge.length + n ≤ 1000
 hi : M.high.length + n ≤ 1000
 up : M.up.length + n ≤ 1000
 ca : M.calls.length + n ≤ 1000
 jo : M.jobs.length + n ≤ 1000
 jw : ∀ j ∈ M.jobs, j.1 ∈ P.wnames
 sz : M.joined.length + M.log.length + n ≤ 1000000
theorem Rm.bd {P : Pl} {M : Md} {n : Nat} (x : Rm P M n) : MBd P M := by
 obtain ⟨a1, a2, a3, a4, a5, a6, a7, a8⟩ := x
 exact ⟨by omega, by omega, by omega, by omega, by omega, by omega, a7, by omega⟩
end Z
set_option maxHeartbeats 1000000
namespace Z
open PySem PySem.Spec PyProof.Rows L2
theorem DpAll.snoc {K : Fg} {H : Hp} {d : PyData} : ∀ {ds : List PyData} {xs : List V}, DpAll K H xs (ds ++ [d]) → ∃ as x, xs = as ++ [x] ∧ DpAll K H as ds ∧ Dp K H x d
 | [], _, .cons h .nil => ⟨[], _, rfl, .nil, h⟩
 | e :: ds, _, .cons h t => by
  obtain ⟨as, x, rfl, h1, h2⟩ := DpAll.snoc t
  exact ⟨_ :: as, x, rfl, .cons h h1, h2⟩
end Z
set_option maxHeartbeats 1000000
namespace Z
open PySem PySem.Spec PyProof.Rows L2
def Ts (K : Fg) (H H' : Hp) : Prop := ∀ a xs, SqT K H a xs → SqT K H' a xs
theorem Ts.trans {K : Fg} {H H1 H2 : Hp} (a : Ts K H H1) (b : Ts K H1 H2) : Ts K H H2 := fun _ _ h => b _ _ (a _ _ h)
theorem ln_self {P : Pl} (ok : P.Ok) {l : Ln} (h : l ∈ P.ls) : P.ln l.nm = l := ok.inj (ok.ln_mem (List.mem_map.mpr ⟨l, h, rfl⟩)).1 h (ok.ln_mem (List.mem_map.mpr ⟨l, h, rfl⟩)).2
end Z
set_option maxHeartbeats 1000000
namespace Z
open PySem PySem.Spec PyProof.Rows L2
end Z
set_option maxHeartbeats 1000000
namespace Z
open PySem PySem.Spec PyProof.Rows L2
end Z
set_option maxHeartbeats 1000000
namespace Z
open PySem PySem.Spec PyProof.Rows L2
end Z
set_option maxHeartbeats 1000000
namespace Z
open PySem PySem.Spec PyProof.Rows L2
end Z
set_option maxHeartbeats 1000000
namespace Z
open PySem PySem.Spec PyProof.Rows L2
structure Al (l : List Addr) (H : Hp) : Prop where
 nd : l.Nodup
 ex : ∀ a ∈ l, H a ≠ none
theorem Al.nil {H : Hp} : Al [] H := ⟨.nil, by simp⟩
theorem Al.fr {l A : List Addr} {H H' : Hp} (h : Al l H) (f : Fr A H H') : Al l H' := ⟨h.nd, fun a ha e => h.ex a ha (f.back e)⟩
theorem Al.same {l : List Addr} {H H' : Hp} (h : Al l H) (s : Same H H') : Al l H' := h.fr (A := []) s.fr
end Z
set_option maxHeartbeats 1000000
namespace Z
open PySem PySem.Spec PyProof.Rows L2
section
variable {K : Fg} {σ : L2.St} {H H1 : Hp} {Q : VK} {g : TG} {tt : TT} {te tk tv tl : TE} {vs : List Nat} {x : V} {a : Addr} {xs : List V} {α : Type} {l : List α}
theorem lcR_d {n : Nat} (p : Nat → Bool) (f : Nat → PyData) (hn : n ≤ 40000) (hf : ∀ i, i < n → tupd (f i) = true)
  (hs : ∀ (i : Nat) (H : Hp) (Yes : VK) (No : Hp → Prop), i < n → Same H1 H → (p i = true → ∀ y H4, Same H H4 → Dp K H4 y (f i) → Yes y H4) → (p i = false → ∀ H3, Same H H3 → No H3) →
   g (.int i) (wipe σ vs) H fun σ2 H2 => wipe σ2 vs = wipe σ vs ∧ tt σ2 H2 fun b H3 => if b = true then te σ2 H3 Yes else No H3)
  (hd : ∀ D H' ys, H1 D = none → Same H1 H' → H' D = some (.lst ys) → DpAll K H' ys (((List.range n).filter p).map f) → Q (.ref D) H') : LcQ (Itr 0 n) g tt te vs σ Q H1 := by
 have hz : (List.range n).length = n := List.length_range
 refine fun D hD => ?_
 refine lc_dat (K := K) (walk_range (lo := 0) (n := n)) (pAt (List.range n) p) (dAt (List.range n) f) hD hn (dAt_tupd (fun x hx => hf x (List.mem_range.mp hx))) (fun H s => trivial) (fun i H x H' y => by rw [y.1]; exact Same.refl H) (fun i x H H' Yes No hi s1 y yes no => ?_) (fun H' ys s1 e1 a1 => ?_)
 ·obtain ⟨rfl, rfl⟩ := y
  have hz : (List.range n)[i]? = some i := List.getElem?_range hi
  rw [pAt_eq hz, dAt_eq hz] at yes
  rw [pAt_eq hz] at no
  have := hs i H' Yes No hi s1 yes no
  dsimp only
  rw [Int.zero_add]
  exact this
 ·have k := keptD_list (l := List.range n) (p := p) (f := f)
  rw [hz] at k
  rw [k] at a1
  exact hd D H' ys hD s1 e1 a1
end
end Z
set_option maxHeartbeats 1000000
namespace Z
open PySem PySem.Spec PyProof.Rows L2
theorem MSt.keep {K : Fg} {H H' : Hp} {D : MA} {P : Pl} {M : Md} (h : MSt K H D P M) {A : List Addr} (f : Fr A H H') (n : ∀ a ∈ D.own, a ∉ A) (n1 : D.ln ∉ A) (n2 : D.wk ∉ A) : MSt K H' D P M := ⟨h.md.keep f n, h.pl.keep f n1 n2, h.n1, h.n2⟩
end Z
set_option maxHeartbeats 1000000
namespace Z
open PySem PySem.Spec PyProof.Rows L2
theorem Eqs.len {α : Type} [DecidableEq α] {l m : List α} (h : Eqs l m) : l.length = m.length := ((List.perm_ext_iff_of_nodup h.n1 h.n2).mpr fun x => h.eq x).length_eq
theorem inOrd_eq {P : Pl} (ok : P.Ok) {zs : List Str} {p : Str → Bool} (hz : ∀ z ∈ zs, z ∈ P.names) (hn : zs.Nodup) (he : ∀ z ∈ P.names, p z = true ↔ z ∈ zs) : ((zs.map P.ln).mergeSort leO).map (·.nm) = P.order.filter p := by
 refine order_names ok (fun x hx => ?_) ?_ (fun x hx => ?_)
 ·obtain ⟨z, h, rfl⟩ := List.mem_map.mp hx
  exact (ok.ln_mem (hz z h)).1
 ·refine List.pairwise_map.mpr (hn.imp_of_mem ?_)
  intro a b ha hb hab e
  apply hab
  rw [← (ok.ln_mem (hz a ha)).2, ← (ok.ln_mem (hz b hb)).2, e]
 ·rw [he x.nm (List.mem_map.mpr ⟨x, hx, rfl⟩)]
  constructor
  ·intro h
   exact List.mem_map.mpr ⟨x.nm, h, ln_self ok hx⟩
  ·intro h
   obtain ⟨z, h1, h2⟩ := List.mem_map.mp h
   rw [← h2, (ok.ln_mem (hz z h1)).2]
   exact h1
structure Both (P : Pl) (M : Md) (G : Sg) : Prop where
 rel : Rel P M G
 inv : RInv P G.C G.B
section
variable {P : Pl} {M : Md} {G : Sg}
theorem Both.shut (ok : P.Ok) (b : Both P M G) : ((M.shut.map P.ln).mergeSort leO).map (·.nm) = P.order.filter fun z => decide (z ∈ G.B.shut) := by
 have e := b.rel.c.b.sh
 refine inOrd_eq ok (fun z hz => b.inv.cok.bok.sh.sub z ((e.eq z).mp hz)) e.n1 (fun z hz => ?_)
 rw [decide_eq_true_iff]
 exact (e.eq z).symm
theorem Both.high (ok : P.Ok) (b : Both P M G) : ((M.high.map P.ln).mergeSort leO).map (·.nm) = P.order.filter fun z => decide (z ∈ G.B.high) := by
 have e := b.rel.c.b.hi
 refine inOrd_eq ok (fun z hz => b.inv.cok.bok.hi.sub z ((e.eq z).mp hz)) e.n1 (fun z hz => ?_)
 rw [decide_eq_true_iff]
 exact (e.eq z).symm
theorem Both.spent (b : Both P M G) : M.spent = G.sums.map (·.2) := by
 obtain ⟨x, y, z, w, e, e2⟩ := b.rel.sp
 rw [e, e2]
 rfl
theorem carry_taken {B : Bd} {s : Str × Key} : (B.carry P s).1.taken = B.taken := by
 unfold Bd.carry Bd.ring
 repeat (first | rfl | split)
theorem Both.deed (ok : P.Ok) (b : Both P M G) {s : Str × Key} (cs : CarryIs P s) : Both P (M.does P s).1 { G with B := (G.B.carry P s).1 } ∧ (M.does P s).2 = (G.B.carry P s).2 := by
 obtain ⟨h1, h2⟩ := carry_sim ok b.rel.c.b cs
 have w1 : s.1 ≠ "bar" := by
  rcases cs with ⟨hw, _⟩ | ⟨hw, _⟩ <;> (intro e; rw [e] at hw; revert hw; decide)
 have w2 : s.1 ≠ "later" := by
  rcases cs with ⟨hw, _⟩ | ⟨hw, _⟩ <;> (intro e; rw [e] at hw; revert hw; decide)
 obtain ⟨c1, c2⟩ := carry_rest (P := P) (M := M) w1 w2
 obtain ⟨d1, d2, d3, d4⟩ := does_rest (P := P) (M := M) (s := s)
 refine ⟨⟨⟨d1.trans b.rel.calls, ⟨h1, c1.trans b.rel.c.lim, c2.trans b.rel.c.jobs⟩, d2.trans b.rel.now, by rw [d4]; exact b.rel.sp⟩, ?_⟩, h2⟩
 have ct := carry_taken (P := P) (B := G.B) (s := s)
 exact ⟨⟨b.inv.cok.bok.carry cs, b.inv.cok.jok, b.inv.cok.fok.taken ct⟩, fun z => by rw [ct]; exact b.inv.tk z, b.inv.rk, b.inv.rt, b.inv.jb⟩
end
end Z
set_option maxHeartbeats 1000000
namespace Z
open PySem PySem.Spec PyProof.Rows L2
theorem Both.sub (ok : P.Ok) {M : Md} {G : Sg} (b : Both P M G) : (∀ z ∈ M.shut, z ∈ P.names) ∧ (∀ z ∈ M.high, z ∈ P.names) := ⟨fun z hz => b.inv.cok.bok.sh.sub z ((b.rel.c.b.sh.eq z).mp hz), fun z hz => b.inv.cok.bok.hi.sub z ((b.rel.c.b.hi.eq z).mp hz)⟩
structure Two (K : Fg) (H0 H : Hp) (A : SA) (D : MA) (P : Pl) (M : Md) (G : Sg) : Prop where
 sg : SgAt K H A P G
 st : MSt K H D P M
 dj : ∀ a ∈ A.own, a ∉ D.own ∧ a ≠ D.ln ∧ a ≠ D.wk
 dp : ∀ a ∈ A.PD.own, a ∉ D.own
 na : ∀ a ∈ A.own, H0 a = none
 nd : ∀ a ∈ D.own, H0 a = none
 np : ∀ a ∈ A.PD.own, H0 a = none
 nl : H0 D.ln = none ∧ H0 D.wk = none
section
variable {K : Fg} {H0 H H' : Hp} {A A' : SA} {D D' : MA} {P : Pl} {M M' : Md} {G G' : Sg}
theorem Two.keep (t : Two K H0 H A D P M G) {N : List Addr} (f : Fr N H H') (n : ∀ a ∈ N, H0 a ≠ none) : Two K H0 H' A D P M G := by
 have z : ∀ {a}, H0 a = none → a ∉ N := fun h q => n _ q h
 exact ⟨t.sg.keep f (fun a ha => z (t.na a ha)) (fun a ha => z (t.np a ha)), t.st.keep f (fun a ha => z (t.nd a ha)) (z t.nl.1) (z t.nl.2), t.dj, t.dp, t.na, t.nd, t.np, t.nl⟩
theorem Two.same (t : Two K H0 H A D P M G) (s : Same H H') : Two K H0 H' A D P M G := t.keep (N := []) s.fr (by simp)
theorem Two.row (t : Two K H0 H A D P M G) {r : Addr} (f : Fr [r] H H') (n : H0 r ≠ none) : Two K H0 H' A D P M G := t.keep f (by simpa using n)
end
end Z
set_option maxHeartbeats 1000000
namespace Z
open PySem PySem.Spec PyProof.Rows L2
def nmA : List Str := ["net", "disk", "heat", "fan", "a", "ab", "b", "c", "d", "flush", "sweep", "x", "idle", "zza", "zzb", "zzc", "zzd", "zze", "zzf"]
theorem nmA_name : ∀ z ∈ nmA, isName (.str z) = true ∧ short (.str z) = true ∧ (PyData.str z).canLay0 = true := by decide +kernel
abbrev NK := List (Str × Str)
inductive FitSt (nk : NK) (ws : List Str) : Str × Key → Prop where
 | run {n : Int} (h1 : 1 ≤ n) (h2 : n ≤ 99) : FitSt nk ws ("run", .inl n)
 | bar {n : Int} (h1 : 0 ≤ n) (h2 : n ≤ 9) : FitSt nk ws ("bar", .inl n)
 | flag {w : Str} {n : Int} (hw : w ∈ (["set", "clear", "await"] : List Str)) (h1 : 0 ≤ n) (h2 : n ≤ 7) : FitSt nk ws (w, .inl n)
 | line {w : Str} {z : Str} (hw : w ∈ (["ring", "mask", "unmask"] : List Str)) (hz : z ∈ nk.map (·.1)) : FitSt nk ws (w, .inr z)
 | quiet {z : Str} (hz : (z, ("level" : Str)) ∈ nk) : FitSt nk ws ("quiet", .inr z)
 | later {z : Str} (hz : z ∈ ws) : FitSt nk ws ("later", .inr z)
structure FitLn (nk : NK) (ws : List Str) (l : Ln) : Prop where
 nm : l.nm ∈ nmA
 kd : l.kd = "edge" ∨ l.kd = "level"
 r1 : 1 ≤ l.rk
 r9 : l.rk ≤ 9
 ne : l.st ≠ []
 s8 : l.st.length ≤ 8
 st : ∀ s ∈ l.st, FitSt nk ws s
structure FitWk (w : Wk) : Prop where
 nm : w.nm ∈ nmA
 r1 : 1 ≤ w.rk
 r9 : w.rk ≤ 9
 t1 : 1 ≤ w.tk
 t9 : w.tk ≤ 99
def nkOf (ls : List Ln) : NK := ls.map fun l => (l.nm, l.kd)
theorem nk_names (ls : List Ln) : (nkOf ls).map (·.1) = ls.map (·.nm) := by
 unfold nkOf
 rw [List.map_map]
 rfl
theorem kinds_mem : ∀ {ls : List Ln}, (ls.map (·.nm)).Nodup → ∀ {z k : Str}, (z, k) ∈ nkOf ls → valV (ls.map fun l => ((.inr l.nm : Key), V.str l.kd)) (.inr z) = some (.str k)
 | [], _, _, _, h => by cases h
 | l :: ls, hn, z, k, h => by
  rw [List.map_cons, List.nodup_cons] at hn
  rcases List.mem_cons.mp h with e | h
  ·cases e
   exact valV_pos rfl
  ·have hne : ¬ l.nm = z := fun e => hn.1 (by
    rw [e]
    obtain ⟨y, hy, e2⟩ := List.mem_map.mp h
    cases e2
    exact List.mem_map_of_mem hy)
   rw [List.map_cons, valV_neg (fun q => hne (Sum.inr.inj q))]
   exact kinds_mem hn.2 h
theorem flatw {l : List Str} {z : Str} (h : z ∈ l) : inV (.str z) (l.map V.str) = true := by
 rw [inV_strs]
 exact decide_eq_true h
theorem stepX_fit {ls : List Ln} (hn : (ls.map (·.nm)).Nodup) {ws : List Str} {s : Str × Key} (h : FitSt (nkOf ls) ws s) : isStepX (ls.map fun l => ((.inr l.nm : Key), V.str l.kd)) (ws.map V.str) s.1 (kD s.2) = true := by
 have hmem : ∀ {z : Str}, z ∈ (nkOf ls).map (·.1) → (valV (ls.map fun l => ((.inr l.nm : Key), V.str l.kd)) (.inr z)).isSome = true := fun {z} hz => by
  obtain ⟨y, hy, rfl⟩ := List.mem_map.mp hz
  rw [kinds_mem hn (z := y.1) (k := y.2) hy]
  rfl
 cases h with
 | run h1 h2 => exact stepX_run h1 h2
 | bar h1 h2 =>
  rename_i n
  show isStepX _ _ "bar" (.int n) = true
  unfold isStepX
  rw [if_neg (by decide), if_neg (by decide), if_neg (by decide)]
  have : isIntD 0 9 (.int n) = true := decide_eq_true ⟨h1, h2⟩
  rw [this, decide_eq_true (show V.str "bar" = V.str "bar" from rfl), Bool.true_and, Bool.or_true]
 | flag hw h1 h2 =>
  rename_i w n
  have : isIntD 0 7 (.int n) = true := decide_eq_true ⟨h1, h2⟩
  simp only [List.mem_cons, List.not_mem_nil, or_false] at hw
  show isStepX _ _ w (.int n) = true
  rcases hw with rfl | rfl | rfl
  all_goals
   unfold isStepX
   rw [if_neg (by decide), if_neg (by decide), if_pos (by decide)]
   exact this
 | line hw hz =>
  rename_i w z
  have hz := hmem hz
  simp only [List.mem_cons, List.not_mem_nil, or_false] at hw
  show isStepX _ _ w (.str z) = true
  rcases hw with rfl | rfl | rfl
  all_goals
   unfold isStepX
   rw [if_pos (by decide)]
   dsimp only
   rw [hz, decide_eq_false (show ¬ V.str _ = V.str "quiet" by decide)]
   rfl
 | quiet hz =>
  rename_i z
  have e := kinds_mem hn hz
  show isStepX _ _ "quiet" (.str z) = true
  unfold isStepX
  rw [if_pos (by decide)]
  dsimp only
  rw [e]
  simp
 | later hz => exact stepX_later (flatw hz)
theorem short_key {nk : NK} {ws : List Str} {s : Str × Key} (h : FitSt nk ws s) (hk : ∀ z ∈ nk.map (·.1), z ∈ nmA) (hw : ∀ z ∈ ws, z ∈ nmA) : short (dSt s) = true := by
 have st : ∀ {w : Str} {z : Str}, short (.str w) = true → z ∈ nmA → short (dSt (w, (.inr z : Key))) = true := fun {w z} h1 hz => by
  show (short (.str w) && (short (.str z) && true)) = true
  rw [h1, (nmA_name z hz).2.1]
  rfl
 cases h with
 | run _ _ => exact (show (short (.str "run") && (true && true)) = true by decide +kernel)
 | bar _ _ => exact (show (short (.str "bar") && (true && true)) = true by decide +kernel)
 | flag hw _ _ =>
  simp only [List.mem_cons, List.not_mem_nil, or_false] at hw
  rcases hw with rfl | rfl | rfl
  ·exact (show (short (.str "set") && (true && true)) = true by decide +kernel)
  ·exact (show (short (.str "clear") && (true && true)) = true by decide +kernel)
  ·exact (show (short (.str "await") && (true && true)) = true by decide +kernel)
 | line hw hz =>
  have hz := hk _ hz
  simp only [List.mem_cons, List.not_mem_nil, or_false] at hw
  rcases hw with rfl | rfl | rfl
  ·exact st (by decide +kernel) hz
  ·exact st (by decide +kernel) hz
  ·exact st (by decide +kernel) hz
 | quiet hz => exact st (by decide +kernel) (hk _ (List.mem_map.mpr ⟨_, hz, rfl⟩))
 | later hz => exact st (by decide +kernel) (hw _ hz)
theorem plan_fit {ls : List Ln} {ws : List Wk} (hl : ∀ l ∈ ls, FitLn (nkOf ls) (ws.map (·.nm)) l) (hn : (ls.map (·.nm)).Nodup) (hne : ls ≠ []) (h12 : ls.length ≤ 12) (hwn : (ws.map (·.nm)).Nodup) (hw8 : ws.length ≤ 8) (hwk : ∀ w ∈ ws, FitWk w) : Pl.Ok ⟨ls, ws⟩ := by
 have hk : ∀ z ∈ (nkOf ls).map (·.1), z ∈ nmA := fun z hz => by
  rw [nk_names] at hz
  obtain ⟨l, h, rfl⟩ := List.mem_map.mp hz
  exact (hl l h).nm
 have hw : ∀ z ∈ ws.map (·.nm), z ∈ nmA := fun z hz => by
  obtain ⟨l, h, rfl⟩ := List.mem_map.mp hz
  exact (hwk l h).nm
 refine ⟨hne, h12, hw8, fun l h => ?_, fun w h => ?_, hn, hwn, fun l h s hs => ?_, fun l h => ?_, fun w h => ?_⟩
 ·have g := hl l h
  have h1 := (nmA_name _ g.nm).1
  show (isName (.str l.nm) && (isKind (.str l.kd) && (isIntD 1 9 (.int l.rk) && isSteps 8 (.tuple (l.st.map dSt))))) = true
  have h2 : isKind (.str l.kd) = true := by rcases g.kd with e | e <;> (rw [e]; decide)
  have h3 : isIntD 1 9 (.int l.rk) = true := decide_eq_true ⟨g.r1, g.r9⟩
  have h4 : isSteps 8 (.tuple (l.st.map dSt)) = true := by
   have p1 : 0 < l.st.length := List.length_pos_iff.mpr g.ne
   have p2 := g.s8
   simp only [isSteps, List.length_map, Bool.and_eq_true, decide_eq_true_eq]
   omega
  rw [h1, h2, h3, h4]
  rfl
 ·have g := hwk w h
  have h1 := (nmA_name _ g.nm).1
  show (isName (.str w.nm) && (isIntD 1 9 (.int w.rk) && isIntD 1 99 (.int w.tk))) = true
  have h2 : isIntD 1 9 (.int w.rk) = true := decide_eq_true ⟨g.r1, g.r9⟩
  have h3 : isIntD 1 99 (.int w.tk) = true := decide_eq_true ⟨g.t1, g.t9⟩
  rw [h1, h2, h3]
  rfl
 ·exact stepX_fit hn ((hl l h).st s hs)
 ·have g := hl l h
  show (short (.str l.nm) && (short (.str l.kd) && (true && (shorts (l.st.map dSt) && true)))) = true
  have h1 := (nmA_name _ g.nm).2.1
  have h2 : short (.str l.kd) = true := by rcases g.kd with e | e <;> (rw [e]; decide +kernel)
  have h3 : shorts (l.st.map dSt) = true := shorts_map fun s hs => short_key (g.st s hs) hk hw
  rw [h1, h2, h3]
  rfl
 ·have g := hwk w h
  obtain ⟨_, h1, h2⟩ := nmA_name _ g.nm
  refine ⟨?_, h2⟩
  show (short (.str w.nm) && (true && (true && true))) = true
  rw [h1]
  rfl
end Z
set_option maxHeartbeats 1000000
namespace Z
open PySem PySem.Spec PyProof.Rows L2
def nm6 : List Str := ["net", "disk", "heat", "fan", "a", "ab"]
structure Drawn (P : Pl) : Prop where
 fit : ∀ l ∈ P.ls, FitLn (nkOf P.ls) P.wnames l
 nd : P.names.Nodup
 ne : P.ls ≠ []
 six : ∀ z ∈ P.names, z ∈ nm6
 wf : ∀ w ∈ P.ws, FitWk w
 wn : ∃ k, P.wnames = nmW.take k
theorem Drawn.l6 {P : Pl} (d : Drawn P) : P.ls.length ≤ 6 := by
 have h : Sub P.names nm6 := ⟨d.nd, d.six⟩
 have := h.len
 unfold Pl.names at this
 rw [List.length_map] at this
 exact this
theorem Drawn.w2 {P : Pl} (d : Drawn P) : P.ws.length ≤ 2 := by
 obtain ⟨k, e⟩ := d.wn
 have h := congrArg List.length e
 unfold Pl.wnames at h
 rw [List.length_map, List.length_take] at h
 have : nmW.length = 2 := rfl
 omega
theorem Drawn.ok {P : Pl} (d : Drawn P) : P.Ok := by
 have h6 := d.l6
 have h2 := d.w2
 refine plan_fit (ls := P.ls) (ws := P.ws) d.fit d.nd d.ne (by omega) ?_ (by omega) d.wf
 obtain ⟨k, e⟩ := d.wn
 show P.wnames.Nodup
 rw [e]
 exact List.Nodup.sublist (List.take_sublist _ _) (by decide)
theorem nm6_A : ∀ z ∈ nm6, z ∈ nmA := by decide
theorem perm_strs {ys : List V} {l : List Str} (h : ys.Perm (l.map V.str)) : ∃ m : List Str, ys = m.map V.str ∧ m.Perm l := by
 have h1 : ∀ y ∈ ys, ∃ z, y = V.str z := fun y hy => by
  obtain ⟨z, _, e⟩ := List.mem_map.mp (h.mem_iff.mp hy)
  exact ⟨z, e.symm⟩
 obtain ⟨m, rfl⟩ : ∃ m : List Str, ys = m.map V.str := by
  clear h
  induction ys with
  | nil => exact ⟨[], rfl⟩
  | cons y ys ih =>
   obtain ⟨z, rfl⟩ := h1 y (by simp)
   obtain ⟨m, rfl⟩ := ih fun y hy => h1 y (by simp [hy])
   exact ⟨z :: m, rfl⟩
 refine ⟨m, rfl, ?_⟩
 have h2 := h.map (fun v : V => match v with | .str z => z | _ => "")
 rw [List.map_map, List.map_map] at h2
 have e : ∀ l : List Str, l.map ((fun v : V => match v with | .str z => z | _ => "") ∘ V.str) = l := fun l => by
  rw [show ((fun v : V => match v with | .str z => z | _ => "") ∘ V.str) = (id : Str → Str) from rfl, List.map_id]
 rw [e, e] at h2
 exact h2
end Z
set_option maxHeartbeats 1000000
namespace Z
open PySem PySem.Spec PyProof.Rows L2
theorem strOk_name {z : Str} (h : isName (.str z) = true) : (PyData.str z).canLay0 = true := by
 unfold isName at h
 have h1 := (Bool.and_eq_true_iff.mp h).1
 unfold isWord at h1
 have h2 := List.all_eq_true.mp (Bool.and_eq_true_iff.mp h1).2
 have h3 : ∀ x ∈ letters, decide (x < 1114112) = true := by decide +kernel
 show (z.cps.all fun x => decide (x < 1114112)) = true
 rw [← Array.all_toList]
 exact List.all_eq_true.mpr fun x hx => h3 x (of_decide_eq_true (h2 x hx))
theorem Pl.Ok.lay {P : Pl} (ok : P.Ok) {z : Str} (h : z ∈ P.names ∨ z ∈ P.wnames) : (PyData.str z).canLay0 = true := by
 rcases h with h | h
 ·have h2 := ok.lok _ (ok.ln_mem h).1
  rw [← (ok.ln_mem h).2]
  exact strOk_name (Bool.and_eq_true_iff.mp (show (isName (.str (P.ln z).nm) && _) = true from h2)).1
 ·have h2 := (ok.shw _ (ok.wk_mem h).1).2
  rw [(ok.wk_mem h).2] at h2
  exact h2
theorem RowAt.kept {K : Fg} {H H1 H2 : Hp} {r sc : Addr} {ns : List Int} {N : List Addr} (h0 : RowAt K H r sc ns) (h : RowAt K H1 r sc ns) (f : Fr N H1 H2) (hN : ∀ a ∈ N, H a = none) : RowAt K H2 r sc ns := by
 refine h.keep f (fun z => h0.ex (hN _ z)) ?_
 rcases h0.scr with (k | ⟨o, k⟩) | k
 ·exact .inl fun z => by rw [hN _ z] at k; cases k
 ·exact .inl fun z => by rw [hN _ z] at k; cases k
 ·exact .inr fun _ => .inr k
theorem perm_erase {α : Type} : ∀ {l : List α} {j : Nat} {y : α}, l[j]? = some y → (y :: l.eraseIdx j).Perm l
 | [], _, _, h => by simp at h
 | x :: l, 0, y, h => by
  simp only [List.getElem?_cons_zero, Option.some.injEq] at h
  subst h
  exact .refl _
 | x :: l, j + 1, y, h => by
  rw [List.getElem?_cons_succ] at h
  rw [List.eraseIdx_cons_succ]
  exact (List.Perm.swap x y _).trans ((perm_erase h).cons x)
def evW : List Str := ["begin", "end", "done"]
def EvW (P : Pl) (es : List Ev) : Prop := ∀ e ∈ es, e.1 ∈ evW ∧ (e.2 ∈ P.names ∨ e.2 ∈ P.wnames)
theorem EvW.nil {P : Pl} : EvW P [] := by intro e h; simp at h
theorem EvW.app {P : Pl} {a b : List Ev} (h : EvW P a) (k : EvW P b) : EvW P (a ++ b) := fun e he => by
 rcases List.mem_append.mp he with he | he
 ·exact h e he
 ·exact k e he
end Z
set_option maxHeartbeats 1000000
namespace Z
open PySem PySem.Spec PyProof.Rows L2
section
variable {K : Fg} {σ : L2.St} {H1 : Hp} {Q : VK} {g : TG} {tt : TT} {te : TE} {vs : List Nat} {a r sc : Addr} {ns : List Int} {zs : List V} {α : Type}
theorem lcL_row (e : H1 a = some (.lst zs)) (ar : a ≠ r) (row1 : RowAt K H1 r sc ns) (hl : zs.length ≤ 40000) (R : Nat → α → Prop) (f : α → PyData) (hf : ∀ x, tupd (f x) = true)
  (hs : ∀ (i : Nat) (x : V) (Ha : Hp) (Yes : VK) (No : Hp → Prop), zs[i]? = some x → Fr [r] H1 Ha → RowAt K Ha r sc ns → (∀ y H4 b, Fr [r] Ha H4 → RowAt K H4 r sc ns → R i b → Dp K H4 y (f b) → Yes y H4) →
   g x (wipe σ vs) Ha fun σ2 H2 => wipe σ2 vs = wipe σ vs ∧ tt σ2 H2 fun b H3 => if b = true then te σ2 H3 Yes else No H3)
  (hd : ∀ D H' ys (l : List α), H1 D = none → Fr [r] H1 H' → RowAt K H' r sc ns → H' D = some (.lst ys) → l.length = zs.length → (∀ k x, l[k]? = some x → R k x) → DpAll K H' ys (l.map f) → Q (.ref D) H') : LcL K g tt te vs σ Q (.ref a) H1 := by
 refine ⟨a, rfl, ⟨_, SqL.of e⟩, fun D hD => lc_rel (K := K) (walk_list (xs := zs)) R f [r] (fun Ha => RowAt K Ha r sc ns) hD hl hf (fun b hb => by rw [List.mem_singleton.mp hb]; exact row1.ex) row1 (fun Ha Hb fr h => row1.kept h fr (by simpa using hD)) (fun Ha Hb s h => h.same s) (fun Ha fr h => fr.sqL (SqL.of e) (by simp [ar])) (fun i Ha x Hb y => by rw [y.1]; exact Same.refl _) (fun i x Ha Hb Yes No hi fa rowa y yes => ?_) (fun H4 ys l f4 row4 e4 hl4 hr4 a4 => hd D H4 ys l hD f4 row4 e4 hl4 hr4 a4)⟩
 obtain ⟨rfl, hx⟩ := y
 exact hs i x Hb Yes No hx fa rowa yes
theorem lcR_row {n : Nat} (row1 : RowAt K H1 r sc ns) (hl : n ≤ 40000) (R : Nat → α → Prop) (f : α → PyData) (hf : ∀ x, tupd (f x) = true)
  (hs : ∀ (i : Nat) (Ha : Hp) (Yes : VK) (No : Hp → Prop), i < n → Fr [r] H1 Ha → RowAt K Ha r sc ns → (∀ y H4 b, Fr [r] Ha H4 → RowAt K H4 r sc ns → R i b → Dp K H4 y (f b) → Yes y H4) →
   g (.int i) (wipe σ vs) Ha fun σ2 H2 => wipe σ2 vs = wipe σ vs ∧ tt σ2 H2 fun b H3 => if b = true then te σ2 H3 Yes else No H3)
  (hd : ∀ D H' ys (l : List α), H1 D = none → Fr [r] H1 H' → RowAt K H' r sc ns → H' D = some (.lst ys) → l.length = n → (∀ k x, l[k]? = some x → R k x) → DpAll K H' ys (l.map f) → Q (.ref D) H') : LcQ (Itr 0 n) g tt te vs σ Q H1 := by
 refine fun D hD => lc_rel (K := K) (walk_range (lo := 0) (n := n)) R f [r] (fun Ha => RowAt K Ha r sc ns) hD hl hf (fun b hb => by rw [List.mem_singleton.mp hb]; exact row1.ex) row1 (fun Ha Hb fr h => row1.kept h fr (by simpa using hD)) (fun Ha Hb s h => h.same s) (fun _ _ _ => True.intro) (fun i Ha x Hb y => by rw [y.1]; exact Same.refl _) (fun i x Ha Hb Yes No hi fa rowa y yes => ?_) (fun H4 ys l f4 row4 e4 hl4 hr4 a4 => hd D H4 ys l hD f4 row4 e4 hl4 hr4 a4)
 obtain ⟨rfl, rfl⟩ := y
 have := hs i Hb Yes No hi fa rowa yes
 dsimp only
 rw [Int.zero_add]
 exact this
end
def gS (l : List Str) (k : Nat) : Str := (l[k]?).getD ""
theorem gS_eq {l : List Str} {k : Nat} (h : k < l.length) : l[k]? = some (gS l k) := by
 unfold gS
 rw [List.getElem?_eq_getElem h]
 rfl
theorem gS_map {l : List Str} {k : Nat} (h : k < l.length) : (l.map V.str)[k]? = some (V.str (gS l k)) := by
 rw [List.getElem?_map, gS_eq h]
 rfl
theorem rel_all {α : Type} {R : Nat → α → Prop} {l : List α} (h : ∀ k x, l[k]? = some x → R k x) : ∀ x ∈ l, ∃ k, R k x := fun x hx => by
 obtain ⟨i, hi⟩ := List.mem_iff_getElem?.mp hx
 exact ⟨i, h i x hi⟩
end Z
set_option maxHeartbeats 1000000
namespace Z
open PySem PySem.Spec PyProof.Rows L2
structure PlainP (P : Pl) : Prop where
 ws : P.ws = []
 fit : ∀ l ∈ P.ls, FitLn (nkOf P.ls) [] l
 nd : P.names.Nodup
 ne : P.ls ≠ []
 six : ∀ z ∈ P.names, z ∈ nm6
 rks : (P.ls.map (·.rk)).Nodup
 edge : ∀ l ∈ P.ls, l.kd = "edge"
 run : ∀ l ∈ P.ls, ∀ s ∈ l.st, s.1 = "run"
theorem PlainP.l6 {P : Pl} (d : PlainP P) : P.ls.length ≤ 6 := by
 have h : Sub P.names nm6 := ⟨d.nd, d.six⟩
 have := h.len
 unfold Pl.names at this
 rw [List.length_map] at this
 exact this
theorem PlainP.ok {P : Pl} (d : PlainP P) : P.Ok := by
 have h6 := d.l6
 have e := d.ws
 refine plan_fit (ls := P.ls) (ws := P.ws) (fun l hl => ?_) d.nd d.ne (by omega) (by rw [e]; exact .nil) (by rw [e]; decide) (fun w hw => by rw [e] at hw; cases hw)
 rw [e]
 exact d.fit l hl
end Z
set_option maxHeartbeats 1000000
namespace Z
open PySem PySem.Spec PyProof.Rows L2
theorem row_new {K : Fg} {H H1 : Hp} {r sc : Addr} {ns : List Int} (hsc : SqL K H sc (ns.map V.int)) (hr : H r = none) (s1 : Same H H1) (e1 : H1 r = some (.lst [.ref sc, .int 0, .int 0, .int 0])) : RowAt K H1 r sc ns := by
 have hS0 : H sc ≠ none ∨ ∀ H, SqL K H sc (ns.map V.int) := by
  rcases hsc with (h | ⟨o, h⟩) | h
  ·exact .inl (by rw [h]; simp)
  ·exact .inl (by rw [h]; simp)
  ·exact .inr fun H => .inr h
 exact ⟨⟨0, 0, 0, e1, by omega, by omega, by omega⟩, s1.seq hsc, hS0.imp (fun h e => h (by rw [e]; exact hr)) id⟩
end Z
set_option maxHeartbeats 1000000
namespace Z
open PySem PySem.Spec PyProof.Rows L2
end Z
set_option maxHeartbeats 1000000
namespace Z
open PySem PySem.Spec PyProof.Rows L2
structure Pln (P : Pl) : Prop where
 ok : P.Ok
 edge : ∀ l ∈ P.ls, l.kd = "edge"
 run : ∀ l ∈ P.ls, ∀ s ∈ l.st, s.1 = "run"
 jobs : P.ws = []
section
variable {P : Pl}
theorem Pln.st (pn : Pln P) {z : Str} (hz : z ∈ P.names) {i : Nat} {s : Str × Key} (h : (P.ln z).st[i]? = some s) : s.1 = "run" := pn.run _ (pn.ok.ln_mem hz).1 s (List.mem_of_getElem? h)
structure PIn (P : Pl) (G : Sg) : Prop where
 lim : G.C.limit = 0
 kp : ∀ f ∈ G.C.frames, f.kp = 0
 jobs : G.C.jobs = []
 shut : G.B.shut = []
 high : G.B.high = []
 mod : ∃ M, Both P M G
theorem PIn.ring (pn : Pln P) {G : Sg} (h : PIn P G) {z : Str} (hz : z ∈ P.names) : PIn P (G.ring P z) ∧ (G.ring P z).C = G.C ∧ (G.ring P z).sums = G.sums ∧ (G.ring P z).time = G.time ∧ ((G.B.ring P z).2 = !decide (z ∈ G.B.wanted)) ∧ ∀ y, y ∈ (G.ring P z).B.wanted ↔ y ∈ G.B.wanted ∨ y = z := by
 obtain ⟨M, b⟩ := h.mod
 have ke : (P.ln z).kd = "edge" := pn.edge _ (pn.ok.ln_mem hz).1
 have bd := (b.deed pn.ok (s := ("ring", .inr z)) (.inl ⟨by simp, z, rfl, hz⟩)).1
 have eb : (G.B.carry P (("ring" : Str), (Sum.inr z : Key))).1 = (G.B.ring P z).1 := by
  unfold Bd.carry
  rw [if_pos rfl]
  rfl
 rw [eb] at bd
 have er : G.B.ring P z = if z ∈ G.B.wanted then ({ G.B with joined := bump G.B.joined z }, false) else ({ G.B with wanted := G.B.wanted ++ [z] }, true) := by
  unfold Bd.ring
  rw [if_pos ke]
 by_cases hw : z ∈ G.B.wanted
 ·rw [if_pos hw] at er
  refine ⟨⟨h.lim, h.kp, h.jobs, ?_, ?_, _, bd⟩, rfl, rfl, rfl, ?_, fun y => ?_⟩
  ·show (G.B.ring P z).1.shut = []
   rw [er]; exact h.shut
  ·show (G.B.ring P z).1.high = []
   rw [er]; exact h.high
  ·rw [er, decide_eq_true hw]; rfl
  ·show y ∈ (G.B.ring P z).1.wanted ↔ _
   rw [er]
   constructor
   ·exact .inl
   ·rintro (h | rfl)
    ·exact h
    ·exact hw
 ·rw [if_neg hw] at er
  refine ⟨⟨h.lim, h.kp, h.jobs, ?_, ?_, _, bd⟩, rfl, rfl, rfl, ?_, fun y => ?_⟩
  ·show (G.B.ring P z).1.shut = []
   rw [er]; exact h.shut
  ·show (G.B.ring P z).1.high = []
   rw [er]; exact h.high
  ·rw [er, decide_eq_false hw]; rfl
  ·show y ∈ (G.B.ring P z).1.wanted ↔ _
   rw [er]
   show y ∈ G.B.wanted ++ [z] ↔ _
   rw [List.mem_append, List.mem_singleton]
end
end Z
set_option maxHeartbeats 1000000
namespace Z
open PySem PySem.Spec PyProof.Rows L2
end Z
set_option maxHeartbeats 1000000
namespace Z
open PySem PySem.Spec PyProof.Rows L2
structure TwoS (K : Fg) (H0 H : Hp) (A A' : SA) (P P' : Pl) (G G' : Sg) : Prop where
 s1 : SgAt K H A P G
 s2 : SgAt K H A' P' G'
 d : ∀ a ∈ A.own, a ∉ A'.own
 e1 : ∀ a ∈ A.PD.own, a ∉ A'.own
 e2 : ∀ a ∈ A'.PD.own, a ∉ A.own
 n1 : ∀ a ∈ A.own, H0 a = none
 n2 : ∀ a ∈ A'.own, H0 a = none
 p1 : ∀ a ∈ A.PD.own, H0 a = none
 p2 : ∀ a ∈ A'.PD.own, H0 a = none
section
variable {K : Fg} {H0 H H' : Hp} {A A' B : SA} {P P' : Pl} {G G' G2 : Sg}
theorem TwoS.keep (t : TwoS K H0 H A A' P P' G G') {N : List Addr} (f : Fr N H H') (n : ∀ a ∈ N, H0 a ≠ none) : TwoS K H0 H' A A' P P' G G' := by
 have z : ∀ {a}, H0 a = none → a ∉ N := fun h q => n _ q h
 exact ⟨t.s1.keep f (fun a ha => z (t.n1 a ha)) (fun a ha => z (t.p1 a ha)), t.s2.keep f (fun a ha => z (t.n2 a ha)) (fun a ha => z (t.p2 a ha)), t.d, t.e1, t.e2, t.n1, t.n2, t.p1, t.p2⟩
theorem TwoS.same (t : TwoS K H0 H A A' P P' G G') (s : Same H H') : TwoS K H0 H' A A' P P' G G' := t.keep (N := []) s.fr (by simp)
theorem TwoS.row (t : TwoS K H0 H A A' P P' G G') {r : Addr} (f : Fr [r] H H') (n : H0 r ≠ none) : TwoS K H0 H' A A' P P' G G' := t.keep f (by simpa using n)
theorem TwoS.swap (t : TwoS K H0 H A A' P P' G G') : TwoS K H0 H A' A P' P G' G := ⟨t.s2, t.s1, fun a ha z => t.d a z ha, t.e2, t.e1, t.n2, t.n1, t.p2, t.p1⟩
end
end Z
set_option maxHeartbeats 1000000
namespace Z
open PySem PySem.Spec PyProof.Rows L2
end Z
set_option maxHeartbeats 1000000
namespace Z
open PySem PySem.Spec PyProof.Rows L2
end Z
set_option maxHeartbeats 1000000
namespace Z
open PySem PySem.Spec PyProof.Rows L2
def planD (P : Pl) : PyData := .tuple [.tuple (P.ls.map dLn), .tuple (P.ws.map dWk)]
theorem lay_map {α : Type} {g : α → PyData} {n : Nat} : ∀ {l : List α}, (∀ x ∈ l, (g x).canLay0 = true ∧ (g x).depth ≤ n) → PyData.canLayAll0 (l.map g) = true ∧ PyData.depthAll (l.map g) ≤ n
 | [], _ => ⟨rfl, Nat.zero_le _⟩
 | x :: l, h => by
  obtain ⟨h1, h2⟩ := h x (by simp)
  obtain ⟨h3, h4⟩ := lay_map (l := l) fun y hy => h y (by simp [hy])
  refine ⟨?_, ?_⟩
  ·show ((g x).canLay0 && PyData.canLayAll0 (l.map g)) = true
   rw [h1, h3]
   rfl
  ·show max (g x).depth (PyData.depthAll (l.map g)) ≤ n
   omega
theorem lay_st {P : Pl} (ok : P.Ok) {s : Str × Key} (h : StepIs P s) : (dSt s).canLay0 = true ∧ (dSt s).depth ≤ 1 := by
 have lt : ∀ w : Str, w ∈ (["run", "bar", "later", "set", "clear", "await", "ring", "mask", "unmask", "quiet"] : List Str) → (PyData.str w).canLay0 = true := by decide +kernel
 have fin : ∀ {w : Str} {k : Key}, (PyData.str w).canLay0 = true → (kD k).canLay0 = true → (dSt (w, k)).canLay0 = true ∧ (dSt (w, k)).depth ≤ 1 := fun {w k} h1 h2 => by
  refine ⟨?_, ?_⟩
  ·show ((PyData.str w).canLay0 && ((kD k).canLay0 && true)) = true
   rw [h1, h2]
   rfl
  ·show max 0 (max (kD k).depth 0) + 1 ≤ 1
   cases k <;> exact Nat.le_refl _
 cases h with
 | run i _ _ => exact fin (lt _ (by simp)) rfl
 | bar i _ _ => exact fin (lt _ (by simp)) rfl
 | later z hz => exact fin (lt _ (by simp)) (ok.lay (.inr hz))
 | flag w i hw _ _ =>
  refine fin (lt _ ?_) rfl
  simp only [List.mem_cons, List.not_mem_nil, or_false] at hw ⊢
  rcases hw with rfl | rfl | rfl <;> simp
 | line w z hw hz _ =>
  refine fin (lt _ ?_) (ok.lay (.inl hz))
  simp only [List.mem_cons, List.not_mem_nil, or_false] at hw ⊢
  rcases hw with rfl | rfl | rfl | rfl <;> simp
theorem lay_ln {P : Pl} (ok : P.Ok) {l : Ln} (hl : l ∈ P.ls) : (dLn l).canLay0 = true ∧ (dLn l).depth ≤ 3 := by
 obtain ⟨h1, h2⟩ := lay_map (g := dSt) (n := 1) fun s hs => lay_st ok (ok.step hl hs)
 have hn := ok.lay (.inl (List.mem_map.mpr ⟨l, hl, rfl⟩) : l.nm ∈ P.names ∨ l.nm ∈ P.wnames)
 have hk : (PyData.str l.kd).canLay0 = true := by
  have h := isEdge ok (z := l.nm) (List.mem_map.mpr ⟨l, hl, rfl⟩)
  rw [ok.ln_eq hl] at h
  rcases h with e | e <;> (rw [e]; decide +kernel)
 refine ⟨?_, ?_⟩
 ·show ((PyData.str l.nm).canLay0 && ((PyData.str l.kd).canLay0 && (true && (PyData.canLayAll0 (l.st.map dSt) && true)))) = true
  rw [hn, hk, h1]
  rfl
 ·show max 0 (max 0 (max 0 (max (PyData.depthAll (l.st.map dSt) + 1) 0))) + 1 ≤ 3
  omega
theorem shaped_plan {P : Pl} (ok : P.Ok) : SeqAt.shaped (planD P) = true := by
 obtain ⟨h1, h2⟩ := lay_map (l := P.ls) (g := dLn) (n := 3) fun l hl => lay_ln ok hl
 obtain ⟨h3, h4⟩ := lay_map (l := P.ws) (g := dWk) (n := 1) fun w hw => by
  have hn := ok.lay (.inr (List.mem_map.mpr ⟨w, hw, rfl⟩) : w.nm ∈ P.names ∨ w.nm ∈ P.wnames)
  refine ⟨?_, Nat.le_refl _⟩
  show ((PyData.str w.nm).canLay0 && (true && (true && true))) = true
  rw [hn]
  rfl
 have c : (planD P).canLay0 = true := by
  show (PyData.canLayAll0 (P.ls.map dLn) && (PyData.canLayAll0 (P.ws.map dWk) && true)) = true
  rw [h1, h3]
  rfl
 have d : (planD P).depth ≤ 64 := by
  show max (PyData.depthAll (P.ls.map dLn) + 1) (max (PyData.depthAll (P.ws.map dWk) + 1) 0) + 1 ≤ 64
  omega
 show ((planD P).canLay0 && decide ((planD P).depth ≤ 64)) = true
 rw [c, decide_eq_true d]
 rfl
theorem plan_refl {P : Pl} (ok : P.Ok) : PyData.eqv (planD P) (planD P) = true := SeqAt.eqv_refl _ (Bool.and_eq_true_iff.mp (shaped_plan ok)).1
theorem eqvAll_len : ∀ {a b : List PyData}, PyData.eqvAll a b = true → a.length = b.length
 | [], [], _ => rfl
 | x :: a, y :: b, h => by
  have h2 : (PyData.eqv x y && PyData.eqvAll a b) = true := h
  rw [List.length_cons, List.length_cons, eqvAll_len (Bool.and_eq_true_iff.mp h2).2]
theorem plan_len {P P' : Pl} (h : P.ls.length ≠ P'.ls.length) : PyData.eqv (planD P) (planD P') = false := by
 refine Bool.eq_false_iff.mpr fun e => h ?_
 have e2 : (PyData.eqvAll (P.ls.map dLn) (P'.ls.map dLn) && (PyData.eqvAll (P.ws.map dWk) (P'.ws.map dWk) && true)) = true := e
 have := eqvAll_len (Bool.and_eq_true_iff.mp e2).1
 rw [List.length_map, List.length_map] at this
 exact this
end Z
set_option maxHeartbeats 1000000
namespace Z
open PySem PySem.Spec PyProof.Rows L2
open TL (tl joinL)
def txI (i : Int) : Str := Str.ofString (toString i)
def kT : Key → Str
 | .inl i => txI i
 | .inr z => z
def stW (s : Str × Key) : List Str := [s.1, kT s.2]
def lnW (l : Ln) : List Str := [("line" : Str), l.nm, l.kd, txI l.rk] ++ l.st.flatMap stW
def wkW (w : Wk) : List Str := [("work" : Str), w.nm, txI w.rk, txI w.tk]
def rowW (P : Pl) : List (List Str) := P.ls.map lnW ++ P.ws.map wkW
def rowsT (P : Pl) : List Str := (rowW P).map fun r => Txt.join " " r
def planT (P : Pl) : Str := Txt.join "\n" (rowsT P)
theorem join_more (S : List Nat) : ∀ (p : List Nat) (ps : List (List Nat)), joinL S (p :: ps) = p ++ ps.flatMap fun q => S ++ q
 | p, [] => by simp [joinL]
 | p, q :: r => by
  show p ++ (S ++ joinL S (q :: r)) = _
  rw [join_more S q r, List.flatMap_cons, List.append_assoc]
theorem tl_joinT (y : Str) (parts : List Str) : tl (Txt.join y parts) = joinL (tl y) (parts.map tl) := by rw [TL.join_eq, TL.tl_join]
def addS (t : Str) (s : Str × Key) : Str := t ++ " " ++ s.1 ++ " " ++ kT s.2
def addL (t : Str) (l : Ln) : Str := l.st.foldl addS (t ++ "\nline " ++ l.nm ++ " " ++ l.kd ++ " " ++ txI l.rk)
def addW (t : Str) (w : Wk) : Str := t ++ "\nwork " ++ w.nm ++ " " ++ txI w.rk ++ " " ++ txI w.tk
def lawT (P : Pl) : Str := P.ws.foldl addW (P.ls.foldl addL "")
theorem tl_app (a b : Str) : tl (a ++ b) = tl a ++ tl b := TL.tl_append a b
theorem tl_steps : ∀ (ss : List (Str × Key)) (t : Str), tl (ss.foldl addS t) = tl t ++ (ss.flatMap stW).flatMap fun w => tl " " ++ tl w
 | [], t => by simp
 | s :: ss, t => by
  rw [List.foldl_cons, tl_steps ss, List.flatMap_cons, List.flatMap_append]
  unfold addS stW
  simp only [tl_app, List.flatMap_cons, List.flatMap_nil, List.append_nil, List.append_assoc]
theorem sp1 : tl ("\nline " : Str) = tl "\n" ++ (tl "line" ++ tl " ") := by decide +kernel
theorem sp2 : tl ("\nwork " : Str) = tl "\n" ++ (tl "work" ++ tl " ") := by decide +kernel
theorem tl_row {w : Str} {ws : List Str} : tl (Txt.join " " (w :: ws)) = tl w ++ ws.flatMap fun q => tl " " ++ tl q := by
 rw [tl_joinT, List.map_cons, join_more, List.flatMap_map]
theorem tl_addL (t : Str) (l : Ln) : tl (addL t l) = tl t ++ (tl "\n" ++ tl (Txt.join " " (lnW l))) := by
 unfold addL lnW
 rw [tl_steps, List.cons_append, tl_row]
 simp only [tl_app, sp1, List.cons_append, List.nil_append, List.flatMap_cons, List.append_assoc]
theorem tl_addW (t : Str) (w : Wk) : tl (addW t w) = tl t ++ (tl "\n" ++ tl (Txt.join " " (wkW w))) := by
 unfold addW wkW
 rw [tl_row]
 simp only [tl_app, sp2, List.flatMap_cons, List.flatMap_nil, List.append_nil, List.append_assoc]
theorem tl_fold {α : Type} {f : Str → α → Str} {g : α → Str} (h : ∀ t x, tl (f t x) = tl t ++ (tl "\n" ++ tl (g x))) : ∀ (xs : List α) (t : Str), tl (xs.foldl f t) = tl t ++ (xs.map g).flatMap fun q => tl "\n" ++ tl q
 | [], t => by simp
 | x :: xs, t => by rw [List.foldl_cons, tl_fold h xs, h, List.map_cons, List.flatMap_cons, List.append_assoc]
theorem tl_law (P : Pl) : tl (lawT P) = (rowsT P).flatMap fun q => tl "\n" ++ tl q := by
 unfold lawT rowsT rowW
 rw [tl_fold tl_addW, tl_fold tl_addL, List.map_append, List.flatMap_append, List.map_map, List.map_map]
 rfl
theorem law_text {P : Pl} (h : P.ls ≠ []) : lawT P = ("\n" : Str) ++ planT P := TL.ext_tl (by
 rw [tl_law, tl_app]
 unfold planT
 rw [tl_joinT]
 cases e : rowsT P with
 | nil =>
  unfold rowsT rowW at e
  have e := List.map_eq_nil_iff.mp e
  exact absurd (List.map_eq_nil_iff.mp (List.append_eq_nil_iff.mp e).1) h
 | cons r rs => rw [List.map_cons, join_more, List.flatMap_cons, List.flatMap_map, List.append_assoc])
def rdF (p : Addr) (n s : Int) : List (Str × V) := [("parts", .ref p), ("number", .int n), ("spot", .int s)]
theorem rdF_p {p : Addr} {n s : Int} : (rdF p n s).lookup ("parts" : Str) = some (.ref p) := by kernel_rfl
theorem rdF_n {p : Addr} {n s : Int} : (rdF p n s).lookup ("number" : Str) = some (.int n) := by kernel_rfl
theorem rdF_s {p : Addr} {n s : Int} : (rdF p n s).lookup ("spot" : Str) = some (.int s) := by kernel_rfl
theorem rd1 {p : Addr} : putF ("parts" : Str) (.ref p) [] = [(("parts" : Str), V.ref p)] := by kernel_rfl
theorem rd2 {p : Addr} {n : Int} : putF ("number" : Str) (.int n) [(("parts" : Str), V.ref p)] = [(("parts" : Str), V.ref p), (("number" : Str), V.int n)] := by kernel_rfl
theorem rd3 {p : Addr} {n : Int} : putF ("spot" : Str) (.int 0) [(("parts" : Str), V.ref p), (("number" : Str), V.int n)] = rdF p n 0 := by kernel_rfl
theorem rd4 {p : Addr} {n s s' : Int} : putF ("spot" : Str) (.int s') (rdF p n s) = rdF p n s' := by kernel_rfl
theorem s_m1 {r : V → List V → Hp → VK → Prop} {to te : TE} {σ : L2.St} {H : Hp} {Q : VK} (q : to σ H fun x H1 => (∃ a, x = .str a) ∧ te σ H1 fun y H2 => r x [y] H2 Q) : tM1 r to te σ H Q := q
theorem at_str {ws : List Str} {s : Nat} {z : Str} (h : ws[s]? = some z) : (ws.map V.str)[s]? = some (.str z) := by rw [List.getElem?_map, h]; rfl
theorem flat_strsW (ys : List Str) : (ys.map V.str).all flatV = true := by
 rw [List.all_map]
 exact List.all_eq_true.mpr fun _ _ => rfl
def clean (z : Str) : Prop := 32 ∉ tl z ∧ 10 ∉ tl z
theorem clean_word {z : Str} (h : isWord (.str z) = true) : clean z := by
 have h2 : z.cps.toList.all (fun c => decide (c ∈ letters)) = true := (Bool.and_eq_true_iff.mp (show (!decide (V.str z = V.str "") && z.cps.toList.all fun c => decide (c ∈ letters)) = true from h)).2
 have no : ∀ c : Nat, c ∉ letters → c ∉ tl z := fun c hc hm => hc (of_decide_eq_true (List.all_eq_true.mp h2 c hm))
 exact ⟨no 32 (by decide +kernel), no 10 (by decide +kernel)⟩
theorem nums100 : ∀ n : Fin 100, (32 ∉ tl (txI ((n : Nat) : Int)) ∧ 10 ∉ tl (txI ((n : Nat) : Int))) ∧ (1 ≤ (txI ((n : Nat) : Int)).length ∧ (txI ((n : Nat) : Int)).length ≤ 3) ∧ (tl (txI ((n : Nat) : Int))).all (fun c => decide (c ∈ tl ("0123456789" : Str))) = true ∧ (txI ((n : Nat) : Int) = ("0" : Str) ∨ (tl (txI ((n : Nat) : Int)))[0]? ≠ some 48) ∧ PySem.intText? (txI ((n : Nat) : Int)) = some ((n : Nat) : Int) := by
 decide +kernel
theorem num_ok {i : Int} (h0 : 0 ≤ i) (h1 : i < 100) : clean (txI i) ∧ 1 ≤ (txI i).length ∧ (txI i).length ≤ 3 ∧ ((txI i).cps.toList.all fun c => decide (c ∈ ("0123456789" : Str).cps.toList)) = true ∧ (txI i = ("0" : Str) ∨ (txI i).cps.toList[0]? ≠ some 48) ∧ PySem.intText? (txI i) = some i := by
 obtain ⟨n, rfl⟩ : ∃ n : Nat, i = (n : Int) := ⟨i.toNat, by omega⟩
 obtain ⟨a, b, c, d, e⟩ := nums100 ⟨n, by omega⟩
 exact ⟨a, b.1, b.2, c, d, e⟩
theorem cut1 (z : Str) : cutS (("\n" : Str) ++ z) (some 1) none = z := TL.ext_tl (by
 have e : tl (("\n" : Str) ++ z) = 10 :: tl z := by rw [tl_app, show tl ("\n" : Str) = [10] from by decide +kernel]; rfl
 have l : (("\n" : Str) ++ z).length = (tl z).length + 1 := (TL.len_tl _).symm.trans (congrArg List.length e)
 show ((tl (("\n" : Str) ++ z)).drop (HT.sIx _ 0 (some 1))).take (HT.sIx _ _ none - HT.sIx _ 0 (some 1)) = tl z
 rw [e, show (some (1 : Int)) = some ((1 : Nat) : Int) from rfl, HT.sIx_nat, l]
 have : min 1 ((tl z).length + 1) = 1 := by omega
 rw [this]
 show (tl z).take _ = tl z
 refine List.take_of_length_le ?_
 show _ ≤ ((tl z).length + 1) - 1
 omega)
end Z
set_option maxHeartbeats 1000000
namespace Z
open PySem PySem.Spec PyProof.Rows L2
open He (ga ma)
theorem flat_preT {α β : Type} {l : List α} {k : α → List β} {i : Nat} {x : α} (h : l[i]? = some x) : l.flatMap k = (l.take i).flatMap k ++ (k x ++ (l.drop (i + 1)).flatMap k) := by
 obtain ⟨hi, e⟩ := List.getElem?_eq_some_iff.mp h
 conv => lhs; rw [← List.take_append_drop i l, List.drop_eq_getElem_cons hi, e]
 rw [List.flatMap_append, List.flatMap_cons]
theorem s_lc2T {K : Fg} {α β : Type} {l : List α} {da : α → PyData} {a : Addr} {xs : List V} {j0 : Nat} {t0 : TE} {g g1 : TG} {te : TE} {vs vs1 : List Nat} {σ : L2.St} {H1 : Hp} {Q : VK} (h0 : ∀ R : VK, R (.ref a) H1 → t0 σ H1 R) (hT : SqT K H1 a xs) (hA : DpAll K H1 xs (l.map da))
  (k : α → List β) (db f : β → PyData) (tb : ∀ y, tupd (db y) = true) (tf : ∀ y, tupd (f y) = true) (hn : (l.flatMap k).length ≤ 40000)
  (hs : ∀ x v H (R : L2.St → Hp → Prop), x ∈ l → Same H1 H → Dp K H v (da x) → (∀ σ2 b zs, wipe σ2 vs = wipe σ vs → σ2[j0]? = some (some (.ref b)) → SqT K H b zs → DpAll K H zs ((k x).map db) →
   (∀ y w H3 (Yes : VK) (No : Hp → Prop), y ∈ k x → Same H1 H3 → Dp K H3 w (db y) → (∀ u H4, Same H3 H4 → Dp K H4 u (f y) → Yes u H4) → g1 w (wipe σ2 vs1) H3 fun σ3 H5 => wipe σ3 vs1 = wipe σ2 vs1 ∧ tYes σ3 H5 fun c H6 => if c = true then te σ3 H6 Yes else No H6) → R σ2 H) → g v (wipe σ vs) H R)
  (hd : ∀ D H' ys, H1 D = none → Same H1 H' → H' D = some (.lst ys) → DpAll K H' ys ((l.flatMap k).map f) → Q (.ref D) H') :
  tLc2 (iTup K t0) g tYes (iTup K (tVar j0)) g1 tYes te vs vs1 σ H1 Q := by
 have hlen : xs.length = l.length := by rw [hA.len, List.length_map]
 have tfs : ∀ m : List β, tupds (m.map f) = true := fun m => tupds_map tf m
 have tbs : ∀ m : List β, tupds (m.map db) = true := fun m => tupds_map tb m
 refine h0 _ ⟨a, rfl, ⟨xs, hT⟩, fun D hD => ?_⟩
 have put : ∀ {H ys y}, Same H1 H → H D = some (.lst ys) → Same H1 (upd H D (.lst (ys ++ [y]))) := fun {H ys y} s e b o q => by
  rw [upd_ne (ne_of_none q hD)]
  exact s b o q
 refine ⟨fun i m H => m = l.length - i ∧ i ≤ l.length ∧ Same H1 H ∧ ∃ ys, H D = some (.lst ys) ∧ DpAll K H ys (((l.take i).flatMap k).map f), ⟨l.length, rfl, Nat.zero_le _, Same.new hD, [], upd_same, .nil⟩, ?_⟩
 rintro i m H ⟨rfl, hi, s1, ys, e1, a1⟩
 have hTH := s1.sqT hT
 by_cases hlt : i < l.length
 ·refine .inr ⟨⟨xs, xs[i]'(by omega), hTH, by simp [show i < xs.length by omega]⟩, fun H' => i + 1 ≤ l.length ∧ Same H1 H' ∧ ∃ ys, H' D = some (.lst ys) ∧ DpAll K H' ys (((l.take (i + 1)).flatMap k).map f), fun H' ⟨q1, q2⟩ => ⟨l.length - (i + 1), by omega, rfl, q1, q2⟩, fun v H' y => ?_⟩
  obtain ⟨rfl, hv⟩ := y
  have hv' := hv xs hTH
  have hx : l[i]? = some l[i] := List.getElem?_eq_getElem hlt
  obtain ⟨d, hd', dd⟩ := (hA.same s1).getv hv'
  rw [List.getElem?_map, hx] at hd'
  cases hd'
  have fl := flat_preT (k := k) hx
  have tk1 : (l.take (i + 1)).flatMap k = (l.take i).flatMap k ++ k l[i] := by
   rw [List.take_add_one, hx, List.flatMap_append]
   show _ ++ List.flatMap k [l[i]] = _
   rw [List.flatMap_singleton]
  refine hs l[i] v H' _ (List.getElem_mem hlt) s1 dd fun σ2 b zs w2 hb hz hzA inn => ⟨w2, ?_⟩
  have lz : zs.length = (k l[i]).length := by rw [hzA.len, List.length_map]
  refine s_yes (ite_t rfl ?_)
  refine ⟨.ref b, hb, b, rfl, ⟨zs, hz⟩, ?_⟩
  refine ⟨fun j m H => m = zs.length - j ∧ j ≤ zs.length ∧ Same H1 H ∧ SqT K H b zs ∧ DpAll K H zs ((k l[i]).map db) ∧ ∃ ys, H D = some (.lst ys) ∧ DpAll K H ys (((l.take i).flatMap k ++ (k l[i]).take j).map f), ⟨zs.length, rfl, Nat.zero_le _, s1, hz, hzA, ys, e1, by rw [List.take_zero, List.append_nil]; exact a1⟩, ?_⟩
  rintro j m2 H2 ⟨rfl, hj, s2, hz2, hzA2, ys2, e2, a2⟩
  by_cases hjl : j < zs.length
  ·refine .inr ⟨⟨zs, zs[j], hz2, by simp [hjl]⟩, fun H3 => j + 1 ≤ zs.length ∧ Same H1 H3 ∧ SqT K H3 b zs ∧ DpAll K H3 zs ((k l[i]).map db) ∧ ∃ ys, H3 D = some (.lst ys) ∧ DpAll K H3 ys (((l.take i).flatMap k ++ (k l[i]).take (j + 1)).map f), fun H3 ⟨q1, q2⟩ => ⟨zs.length - (j + 1), by omega, rfl, q1, q2⟩, fun w H3 y => ?_⟩
   obtain ⟨rfl, hw⟩ := y
   have hw' := hw zs hz2
   have hjk : j < (k l[i]).length := by omega
   have hy : (k l[i])[j]? = some (k l[i])[j] := List.getElem?_eq_getElem hjk
   obtain ⟨d, hd', dw⟩ := hzA2.getv hw'
   rw [List.getElem?_map, hy] at hd'
   cases hd'
   refine inn (k l[i])[j] w H3 _ _ (List.getElem_mem hjk) s2 dw fun u H4 s4 du => by
    have e4 := s4 _ _ e2
    have t := tk_upd (o := .lst (ys2 ++ [u])) e4
    have la : ys2.length = ((l.take i).flatMap k ++ (k l[i]).take j).length := by rw [a2.len, List.length_map]
    refine ⟨ys2, e4, ?_, ?_, put (s2.trans s4) e4, t.sqT (s4.sqT hz2), (hzA2.same s4).tk t (tbs _), _, upd_same, ?_⟩
    ·rw [la, sizeLine_eq]
     have := congrArg List.length fl
     rw [List.length_append, List.length_append] at this
     rw [List.length_append, List.length_take]
     omega
    ·omega
    ·rw [List.take_add_one, hy]
     show DpAll K _ _ (((l.take i).flatMap k ++ ((k l[i]).take j ++ [(k l[i])[j]])).map f)
     rw [← List.append_assoc, List.map_append]
     exact ((a2.same s4).tk t (tfs _)).app (.cons (du.tk t (tf _)) .nil)
  ·have ej : j = zs.length := by omega
   refine .inl ⟨⟨zs, hz2, by omega⟩, by omega, s2, ys2, e2, ?_⟩
   rw [tk1]
   rw [ej, lz, List.take_length] at a2
   exact a2
 ·have ei : i = l.length := by omega
  refine .inl ⟨⟨xs, hTH, by omega⟩, ?_⟩
  rw [ei, List.take_length] at a1
  exact hd D H ys hD s1 e1 a1
section
variable {K : Fg} {g : TG} {tt : TT} {te : TE} {vs : List Nat} {σ : L2.St} {Q : VK} {a : Addr} {xs : List V} {H1 : Hp} {yss : List (List V)}
theorem lcT_newL (hT : SqT K H1 a xs) (hl : yss.length = xs.length) (hn : xs.length ≤ 40000)
  (hs : ∀ (i : Nat) (ys : List V) (v : V) (H : Hp) (Yes : VK) (No : Hp → Prop), xs[i]? = some v → yss[i]? = some ys → Same H1 H → (∀ l H4, Same H H4 → H l = none → H4 l = some (.lst ys) → Yes (.ref l) H4) →
   g v (wipe σ vs) H fun σ2 H2 => wipe σ2 vs = wipe σ vs ∧ tt σ2 H2 fun b H3 => if b = true then te σ2 H3 Yes else No H3)
  (hd : ∀ (D : Addr) (H' : Hp) (ls : List Addr), H1 D = none → Same H1 H' → H' D = some (.lst (ls.map V.ref)) → ls.Nodup → D ∉ ls → (∀ l ∈ ls, H1 l = none) → Lsts H' ls yss → Q (.ref D) H') : LcT K g tt te vs σ Q (.ref a) H1 := by
 refine ⟨a, rfl, ⟨xs, hT⟩, fun D hD => ?_⟩
 refine lc_it (walk_tup (K := K) (a := a) (xs := xs)) (fun i H => Fr [] H1 H ∧ ∃ ls, H D = some (.lst (ls.map V.ref)) ∧ ls.length = i ∧ ls.Nodup ∧ D ∉ ls ∧ (∀ l ∈ ls, H1 l = none) ∧ Lsts H ls (yss.take i))
  ⟨Fr.new hD, [], upd_same, rfl, .nil, by simp, by simp, .nil⟩ (fun i H _ p => p.1.same.sqT hT) (fun i x H H' hi p y => ?_) (fun H p => ?_)
 ·obtain ⟨f, ls, eD, h1, h2, h3, h4, h5⟩ := p
  obtain ⟨rfl, hx⟩ := y
  have hi2 : i < yss.length := by omega
  have hz : yss[i]? = some yss[i] := List.getElem?_eq_getElem hi2
  refine hs i _ x _ _ _ hx hz f.same fun l H4 s4 hl4 e4 => ⟨ls.map V.ref, s4 _ _ eD, by rw [List.length_map, h1, sizeLine_eq]; omega, ?_⟩
  have lD : l ≠ D := fun e => by rw [e, eD] at hl4; cases hl4
  have fD : Fr [D] H4 (upd H4 D (.lst (ls.map V.ref ++ [.ref l]))) := Fr.upd (by simp) (s4 _ _ eD) rfl
  refine ⟨(f.trans s4.fr).seq fD fun b hb => .inr (by rw [List.mem_singleton.mp hb]; exact hD), ls ++ [l], by rw [upd_same, List.map_append]; rfl, by simp [h1], ?_, ?_, fun b hb => ?_, ?_⟩
  ·rw [List.nodup_append]
   refine ⟨h2, by simp, fun b hb c hc e => ?_⟩
   rw [List.mem_singleton.mp hc] at e
   subst e
   obtain ⟨k, hk⟩ := List.mem_iff_getElem?.mp hb
   obtain ⟨zs, _, hz⟩ := h5.get hk
   rw [hz] at hl4
   cases hl4
  ·rw [List.mem_append]
   rintro (h | h)
   ·exact h3 h
   ·exact lD (List.mem_singleton.mp h).symm
  ·rcases List.mem_append.mp hb with hb | hb
   ·exact h4 b hb
   ·rw [List.mem_singleton.mp hb]
    exact f.back hl4
  ·rw [List.take_add_one, hz]
   refine Lsts.app ((h5.keep (A := []) s4.fr (by simp)).keep fD fun b hb => ?_) (.cons (fD.at e4 (by simp [lD])) .nil)
   simp only [List.mem_singleton]
   exact fun e => h3 (e ▸ hb)
 ·obtain ⟨f, ls, eD, h1, h2, h3, h4, h5⟩ := p
  rw [← hl, List.take_length] at h5
  exact hd D H ls hD f.same eD h2 h3 h4 h5
end
theorem lcLX_t {K : Fg} {σ : L2.St} {H1 : Hp} {Q : VK} {g : TG} {tt : TT} {te : TE} {vs : List Nat} {a : Addr} {xs : List V} (hT : SqL K H1 a xs) (f : Nat → PyData) (hn : xs.length ≤ 40000) (hf : ∀ i, i < xs.length → tupd (f i) = true)
  (hs : ∀ (i : Nat) (v : V) (H : Hp) (Yes : VK) (No : Hp → Prop), xs[i]? = some v → Same H1 H → (∀ y H4, Same H H4 → Dp K H4 y (f i) → Yes y H4) →
   g v (wipe σ vs) H fun σ2 H2 => wipe σ2 vs = wipe σ vs ∧ tt σ2 H2 fun b H3 => if b = true then te σ2 H3 Yes else No H3)
  (hd : ∀ D H' ys, H1 D = none → Same H1 H' → H' D = some (.lst ys) → DpAll K H' ys ((List.range xs.length).map f) → Q (.ref D) H') : LcL K g tt te vs σ Q (.ref a) H1 := by
 refine ⟨a, rfl, ⟨xs, hT⟩, fun D hD => ?_⟩
 have hz : ∀ {i : Nat}, i < xs.length → (List.range xs.length)[i]? = some i := fun {i} h => List.getElem?_range h
 refine lc_dat (K := K) walk_list (pAt (List.range xs.length) fun _ => true) (dAt (List.range xs.length) f) hD hn (dAt_tupd fun x hx => hf x (List.mem_range.mp hx)) (fun H s => s.seq hT) (fun i H x H' y => by rw [y.1]; exact Same.refl H) (fun i x H H' Yes No hi s1 y yes no => ?_) (fun H' ys s1 e1 a1 => ?_)
 ·obtain ⟨rfl, hx⟩ := y
  rw [pAt_eq (hz hi), dAt_eq (hz hi)] at yes
  exact hs i x H' Yes No hx s1 fun y H4 s d => yes rfl y H4 s d
 ·have k := keptD_list (l := List.range xs.length) (p := fun _ => true) (f := f)
  rw [List.length_range] at k
  rw [k, List.filter_eq_self.mpr (fun _ _ => rfl)] at a1
  exact hd D H' ys hD s1 e1 a1
theorem range_map {α β : Type} (xs : List α) (f : α → β) (d : α) : (List.range xs.length).map (fun i => f (xs.getD i d)) = xs.map f := by
 apply List.ext_getElem?
 intro i
 rw [List.getElem?_map, List.getElem?_map]
 by_cases hi : i < xs.length
 ·rw [List.getElem?_range hi, List.getElem?_eq_getElem hi]
  show some (f (xs.getD i d)) = some (f xs[i])
  rw [List.getD_eq_getElem?_getD, List.getElem?_eq_getElem hi]
  rfl
 ·rw [List.getElem?_eq_none (by rw [List.length_range]; omega), List.getElem?_eq_none (Nat.le_of_not_lt hi)]
  rfl
theorem sum_len {k : Nat} : ∀ {ws : List Str}, (∀ w ∈ ws, w.length ≤ k) → (ws.map (·.length)).sum ≤ ws.length * k
 | [], _ => Nat.zero_le _
 | w :: ws, h => by
  rw [List.map_cons, List.sum_cons, List.length_cons, Nat.add_mul, Nat.one_mul]
  have := sum_len (ws := ws) fun w hw => h w (List.mem_cons_of_mem _ hw)
  have := h w List.mem_cons_self
  omega
def rJoinK (K : Fg) : V → List V → Hp → VK → Prop := fun x xs H Q => ∃ a p, ∃ ys : List Str, x = .str a ∧ xs = [.ref p] ∧ (SqL K H p (ys.map V.str) ∨ SqT K H p (ys.map V.str)) ∧ (ys.map (·.length)).sum + ys.length * a.length ≤ 16777216 ∧ Q (.str (Txt.join a ys)) H
theorem pe_joinK {X : Cx} (K : Fg) {o e : Expr} {to te : TE} {apos pos : Pos} (ho : PE X o to) (he : PE X e te) (hK : X.K = K := by rfl) (hs : starEach [e] X.env = [(false, eval e X.env)] := by rfl) (hbase : attributeBase o "join" X.env (eval o X.env) = eval o X.env := by rfl) (hline : (apos.endLine == pos.line) = true := by rfl) :
  PE X (.Call (.Attribute o "join" apos) [e] [] pos) (tM1 (rJoinK K) to te) := by
 subst hK
 exact pe_join ho he hs hbase hline
def lnV (l : Ln) : List V := [.str ("line" : Str), .str l.nm, .str l.kd, .int l.rk] ++ (l.st.flatMap fun s => [(.inr s.1 : Key), s.2]).map kV
def wkV (x : Wk) : List V := [.str ("work" : Str), .str x.nm, .int x.rk, .int x.tk]
theorem dp_keys {K : Fg} {H : Hp} : ∀ {ks : List Key} {ys : List V}, DpAll K H ys (ks.map kD) → ys = ks.map kV
 | [], _, .nil => rfl
 | .inl i :: ks, _, .cons h t => by
  cases h
  rw [List.map_cons, dp_keys t]
  rfl
 | .inr z :: ks, _, .cons h t => by
  cases h
  rw [List.map_cons, dp_keys t]
  rfl
def txV : V → Str
 | .int i => txI i
 | .str z => z
 | _ => ""
theorem tx_keys (ks : List Key) : (ks.map kV).map txV = ks.map kT := by
 rw [List.map_map]
 refine List.map_congr_left fun k _ => ?_
 cases k <;> rfl
theorem tx_line (l : Ln) : (lnV l).map txV = lnW l := by
 unfold lnV lnW
 rw [List.map_append, tx_keys, List.map_flatMap]
 rfl
end Z
set_option maxHeartbeats 1000000
namespace T
open PySem PySem.Spec PyProof.Rows L2 Z
open He (ga ma)
local macro_rules | `(tactic| walk_at "z") => `(tactic| with_reducible first | refine ⟨_, _, rfl, rfl, ?_⟩ | refine ⟨_, rfl, ?_⟩)
local macro_rules | `(tactic| walk_at "z") => `(tactic| ((with_reducible refine s_isi (d := ?d1) ?h1 ?h2 ?q1); (case h1 => first | assumption | constructor); (case h2 => decide)))
local macro_rules | `(tactic| walk_at "z") => `(tactic| with_reducible first | refine s_tup ?_ | refine s_lst ?_)
local macro_rules | `(tactic| walk_at "z") => `(tactic| ((with_reducible refine s_ne ?h1 ?q1); (case h1 => exact rfl)))
local macro_rules | `(tactic| walk_at "z") => `(tactic| ((with_reducible refine s_eq ?h1 ?q1); (case h1 => exact rfl)))
local macro_rules | `(tactic| walk_at "z") => `(tactic| with_reducible first | refine s_cvalg ?_ | refine s_fldS ?_ | refine s_I0 ?_ | refine s_U ?_)
local macro_rules | `(tactic| walk_at "z") => `(tactic| with_reducible first | refine s_fldaug ?_ | refine s_add ?_ | refine s_ipI ?_ | refine s_ixO ?_ | refine s_lcL ?_ | refine s_dcT ?_)
local macro_rules | `(tactic| walk_at "z") => `(tactic| with_reducible first | refine s_daugg ?_ | refine s_disp ?_ | refine s_pcons ?_ | refine s_pnil ?_ | refine s_gsub ?_ | refine s_augS ?_)
local macro_rules | `(tactic| walk_at "z") => `(tactic| with_reducible first | refine s_bm ?_ | refine s_bm0 ?_ | refine s_fldg ?_ | refine s_meth ?_ | refine s_prop ?_ | refine s_lcT ?_)
local macro_rules | `(tactic| walk_at "z") => `(tactic| with_reducible first | refine s_yes ?_ | refine s_gcons ?_ | refine s_gnil ?_ | refine s_din ?_ | refine s_dnin ?_ | refine s_dget ?_)
local macro_rules | `(tactic| walk_at "z") => `(tactic| with_reducible first | refine s_orV ?_ | refine s_notV ?_ | refine s_if ?_ | refine s_chain ?_ | refine s_call ?_ | refine s_bl ?_)
local macro_rules | `(tactic| walk_at "z") => `(tactic| with_reducible first | refine s_test ?_ | refine s_B ?_ | refine s_and ?_ | refine s_or ?_ | refine s_not ?_ | refine s_andV ?_)
local macro_rules | `(tactic| walk_at "z") => `(tactic| with_reducible first | refine s_op ?_ | refine s_un ?_ | refine s_cb ?_ | refine s_cons ?_ | refine s_nil ?_ | refine s_star ?_)
local macro_rules | `(tactic| walk_at "z") => `(tactic| ((with_reducible refine s_var (v := ?v1) ?h1 ?q1); (case h1 => exact rfl)))
local macro_rules | `(tactic| walk_at "z") => `(tactic| with_reducible refine s_c ?_)
local macro_rules | `(tactic| walk_at "z") => `(tactic| with_reducible first | refine s_drop ?_ | refine s_next ?_ | refine s_cont ?_ | refine s_break ?_ | refine s_par ?_ | refine s_par2 ?_)
local macro_rules | `(tactic| walk_at "z") => `(tactic| with_reducible first | refine s_seq ?_ | refine s_asg ?_ | refine s_gname ?_ | refine s_ret ?_ | refine s_retN ?_ | refine s_ifS ?_)
local macro_rules | `(tactic| walk_at "zi") => `(tactic| ((with_reducible refine ite_t ?h1 ?q1); (case h1 => rfl)))
local macro_rules | `(tactic| walk_at "zi") => `(tactic| ((with_reducible refine ite_f ?h1 ?q1); (case h1 => rfl)))
local macro_rules | `(tactic| walk_at "zi") => `(tactic| walk_at "z")
local macro_rules | `(tactic| walk_at "ori") => `(tactic| ((with_reducible apply ite_t); (· rfl)))
local macro_rules | `(tactic| walk_at "ori") => `(tactic| ((with_reducible apply ite_f); (· rfl)))
local macro_rules | `(tactic| walk_at "ori") => `(tactic| with_reducible first | refine ⟨_, _, rfl, rfl, ?_⟩ | refine ⟨_, rfl, ?_⟩)
local macro_rules | `(tactic| walk_at "ori") => `(tactic| ((with_reducible apply s_isi); (· assumption); (· decide)))
local macro_rules | `(tactic| walk_at "ori") => `(tactic| with_reducible first | refine s_tup ?_ | refine s_lst ?_)
local macro_rules | `(tactic| walk_at "ori") => `(tactic| ((with_reducible apply s_ne); (· exact rfl)))
local macro_rules | `(tactic| walk_at "ori") => `(tactic| ((with_reducible apply s_eq); (· exact rfl)))
local macro_rules | `(tactic| walk_at "ori") => `(tactic| with_reducible first | refine s_lcL ?_ | refine s_dcT ?_ | refine s_cvalg ?_ | refine s_I0 ?_ | refine s_U ?_)
local macro_rules | `(tactic| walk_at "ori") => `(tactic| with_reducible first | refine s_daugg ?_ | refine s_disp ?_ | refine s_gsub ?_ | refine s_fldaug ?_ | refine s_ipI ?_ | refine s_ixO ?_)
local macro_rules | `(tactic| walk_at "ori") => `(tactic| with_reducible first | refine s_chain ?_ | refine s_yes ?_ | refine s_din ?_ | refine s_dnin ?_ | refine s_bm0 ?_ | refine s_lcT ?_)
local macro_rules | `(tactic| walk_at "ori") => `(tactic| with_reducible first | refine s_un ?_ | refine s_star ?_ | refine s_and ?_ | refine s_or ?_ | refine s_orV ?_ | refine s_notV ?_)
local macro_rules | `(tactic| walk_at "ori") => `(tactic| with_reducible first | refine s_augS ?_ | refine s_retN ?_ | refine s_cont ?_ | refine s_break ?_ | refine s_par ?_ | refine s_par2 ?_)
local macro_rules | `(tactic| walk_at "ori") => `(tactic| with_reducible first | refine s_andV ?_ | refine s_add ?_ | refine s_prop ?_ | refine s_pnil ?_ | refine s_cb ?_ | refine s_not ?_)
local macro_rules | `(tactic| walk_at "ori") => `(tactic| with_reducible first | refine s_call ?_ | refine s_pcons ?_ | refine s_bm ?_ | refine s_if ?_ | refine s_gcons ?_ | refine s_gnil ?_)
local macro_rules | `(tactic| walk_at "ori") => `(tactic| with_reducible first | refine s_next ?_ | refine s_gname ?_ | refine s_drop ?_ | refine s_meth ?_ | refine s_fldS ?_ | refine s_asg ?_)
local macro_rules | `(tactic| walk_at "ori") => `(tactic| with_reducible first | refine s_fldg ?_ | refine s_ifS ?_ | refine s_dget ?_ | refine s_ret ?_ | refine s_B ?_ | refine s_test ?_)
local macro_rules | `(tactic| walk_at "ori") => `(tactic| with_reducible first | refine s_cons ?_ | refine s_c ?_ | refine s_nil ?_ | refine s_seq ?_ | refine s_op ?_ | refine s_bl ?_)
local macro_rules | `(tactic| walk_at "ori") => `(tactic| ((with_reducible apply s_var); (· exact rfl)))
local macro_rules | `(tactic| walk_at "ri") => `(tactic| repeat walk_at "ori")
local macro_rules | `(tactic| walk_at "zn") => `(tactic| (intro p hp; generalize eH : upd _ p _ = H2; have s2 := newS hp eH; have e2 := newE eH; clear eH))
local macro_rules | `(tactic| walk_at "zt") => `(tactic| (refine ⟨Nat.le_of_ble_eq_true rfl, ?_⟩; intro p hp; generalize eH : upd _ p _ = H2; have s2 := newS hp eH; have e2 := newE eH; clear eH))
def spIsInt (K : Fg) : Sp := fun vs H Q _ => ∃ v d lo hi, vs = [v, .int lo, .int hi] ∧ Dp K H v d ∧ Q (.bl (isIntD lo hi d)) H
section
variable {P : Program} {w : World} {K : Fg} {mg : Str → Option Value} {base : Heap}
theorem ok_is_integer (T : Txt K mg) : FnOk P w K mg base (L2.CX P w) 1 (ga K "is_integer") (fdOf K (ga K "is_integer")) ["value", "low", "high"] (spIsInt K) := by
 refine FunD.ok T.F_is_integer sc_is_integer (fun vs H Q E h => ?_) (fun cdv A outer s H vs Q E hr h => ⟨_, PSs.nox (pss_one (ps_ret (pe_and (pe_callB (call_isiDK K) (by rfl) T.u_isinstance (by decide +kernel) (pa_cons (pv 0) (pa_cons (z_ty (n := "int") T.u_int) pa_nil))) (pe_and (pe_not (pe_callB (call_isiDK K) (by rfl) T.u_isinstance (by decide +kernel) (pa_cons (pv 0) (pa_cons (z_ty (n := "bool") T.u_bool) pa_nil)))) (pe_one (pe_chain op_le op_le (pv 1) (pv 0) (pv 2))))))), ?_⟩)
 ·obtain ⟨v, d, lo, hi, rfl, _⟩ := h
  rfl
 obtain ⟨v, d, lo, hi, rfl, hd, q⟩ := h
 show (_ : TS) _ [some v, some (.int lo), some (.int hi)] H
 try dsimp only [cxOf]
 have hd0 := hd
 cases hd <;> (walk_at "ri") <;> try exact q
 rename_i i
 by_cases h1 : lo ≤ i
 ·refine ite_t (decide_eq_true h1) ?_
  walk_at "ri"
  have e : isIntD lo hi (.int i) = decide (i ≤ hi) := by simp [isIntD, h1]
  rw [e] at q
  exact q
 ·refine ite_f (decide_eq_false h1) ?_
  have e : isIntD lo hi (.int i) = false := by simp [isIntD, h1]
  rw [e] at q
  exact q
def spIsWord (K : Fg) : Sp := fun vs H Q _ => ∃ v d, vs = [v] ∧ Dp K H v d ∧ short d = true ∧ ∀ H', Same H H' → Q (.bl (isWord d)) H'
theorem ok_is_word (T : Txt K mg) : FnOk P w K mg base (L2.CX P w) 1 (ga K "is_word") (fdOf K (ga K "is_word")) ["value"] (spIsWord K) := by
 refine FunD.ok T.F_is_word sc_is_word (fun vs H Q E h => ?_) (fun cdv A outer s H vs Q E hr h => ⟨_, PSs.nox (pss_one (ps_ret (pe_and (pe_callB (call_isiDK K) (by rfl) T.u_isinstance (by decide +kernel) (pa_cons (pv 0) (pa_cons (z_ty (n := "str") T.u_str) pa_nil))) (pe_and (pe_cmpR op_ne (pv 0) pe_str (nomark _)) (pe_one (pe_callB (cr_allK K rfl) (by rfl) T.u_all (by decide +kernel) (pa_cons (pe_lc (own := [("letter", 1)]) rfl sc_is_word.nd (pi_str (pv 0)) (blkOk_by (own := [("letter", 1)]) (N := n_is_word) (sc := defScope s_is_word) (by decide +kernel)) (fun _ _ _ _ _ => (zg 1 sc_is_word.nd)) (fun _ _ _ _ _ => pts_nil) (fun _ _ _ _ _ => (pe_cmpR op_in_sign (pv 1) (z_str T.i_LETTERS) (by rfl)))) pa_nil))))))), ?_⟩)
 ·obtain ⟨v, d, rfl, _⟩ := h
  rfl
 obtain ⟨v, d, rfl, hd, hz, q⟩ := h
 show (_ : TS) _ [some v, none] H
 try dsimp only [cxOf]
 have hd0 := hd
 cases hd <;> (walk_at "ri") <;> try exact q _ (Same.refl H)
 rename_i z
 refine ite_b (fun h1 => ?_) (fun h1 => ?_)
 ·walk_at "ri"
  refine ⟨_, rfl, z, rfl, fun D hD => lc_dat (K := K) walk_str (fun _ => true) (dAt z.cps.toList fun c => .bool (decide (c ∈ letters))) hD (short_str hz) (dAt_tupd fun _ _ => rfl) (fun _ _ => True.intro) (fun i H x H' y => by rw [y.1]; exact Same.refl H) (fun i x H H' Yes No hi s1 y yes no => ?_) (fun H' ys s1 e1 a1 => ?_)⟩
  ·obtain ⟨rfl, c, hc, rfl⟩ := y
   refine ⟨rfl, ?_⟩
   walk_at "ri"
   refine yes rfl _ _ (Same.refl _) ?_
   rw [dAt_eq (by simpa using hc)]
   exact .bl _
  ·have e := keptD_map z.cps.toList fun c => PyData.bool (decide (c ∈ letters))
   rw [Array.length_toList] at e
   rw [e, map_bool] at a1
   rw [dp_bools a1] at e1
   refine s_all (SqL.of e1) ?_
   have e2 : isWord (.str z) = ((z.cps.toList.map fun c => decide (c ∈ letters)).all id) := by
    simp only [isWord, h1, Bool.true_and, List.all_map]
    rfl
   rw [← e2]
   exact q _ s1
 ·walk_at "ri"
  have e2 : isWord (.str z) = false := by simp only [isWord, h1, Bool.false_and]
  rw [e2] at q
  exact q _ (Same.refl H)
def spIsName (K : Fg) : Sp := fun vs H Q _ => ∃ v d, vs = [v] ∧ Dp K H v d ∧ short d = true ∧ ∀ H', Same H H' → Q (.bl (isName d)) H'
theorem ok_is_name (T : Txt K mg) : FnOk P w K mg base (L2.CX P w) 2 (ga K "is_name") (fdOf K (ga K "is_name")) ["value"] (spIsName K) := by
 refine FunD.ok T.F_is_name sc_is_name (fun vs H Q E h => ?_) (fun cdv A outer s H vs Q E hr h => ⟨_, PSs.nox (pss_one (ps_ret (pe_and (z_call (ok_is_word T) T.c_is_word (hr.mono (by decide)) rfl T.g_is_word passL (pa_cons (pv 0) pa_nil)) (pe_one (pe_cmpR op_le (pe_callB (call_lenK K) (by rfl) T.u_len (by decide +kernel) (pa_cons (pv 0) pa_nil)) (z_int T.i_MAX_NAME) (nomark _)))))), ?_⟩)
 ·obtain ⟨v, d, rfl, _⟩ := h
  rfl
 obtain ⟨v, d, rfl, hd, hz, q⟩ := h
 show (_ : TS) _ [some v] H
 try dsimp only [cxOf]
 walk_at "ri"
 refine ⟨v, d, rfl, hd, hz, fun H' s1 => ?_⟩
 walk_at "ri"
 refine ite_b (fun h1 => ?_) (fun h1 => ?_)
 ·cases hd <;> try (simp [isWord] at h1; done)
  rename_i z
  walk_at "ri"
  refine s_lenS (by have := short_str hz; show z.cps.size ≤ sizeLine; rw [sizeLine_eq]; omega) ?_
  walk_at "ri"
  have e2 : isName (.str z) = decide ((z.length : Int) ≤ 8) := by simp only [isName, h1, Bool.true_and]
  rw [e2] at q
  exact q _ s1
 ·walk_at "ri"
  have e2 : isName d = false := by simp only [isName, h1, Bool.false_and]
  rw [e2] at q
  exact q _ s1
def spIsLine (K : Fg) : Sp := fun vs H Q _ => ∃ v d, vs = [v] ∧ Dp K H v d ∧ short d = true ∧ ∀ H', Same H H' → Q (.bl (isLine d)) H'
theorem ok_is_line (T : Txt K mg) : FnOk P w K mg base (L2.CX P w) 3 (ga K "is_line") (fdOf K (ga K "is_line")) ["line"] (spIsLine K) := by
 refine FunD.ok T.F_is_line sc_is_line (fun vs H Q E h => ?_) (fun cdv A outer s H vs Q E hr h => ⟨_, PSs.nox (pss_cons (ps_if (PW.pt (pw_or (pt_not (pt_val (pe_callB (call_isiDK K) (by rfl) T.u_isinstance (by decide +kernel) (pa_cons (pv 0) (pa_cons (z_ty (n := "tuple") T.u_tuple) pa_nil))))) (pw_or (pt_cmpR op_ne (pe_callB (call_lenK K) (by rfl) T.u_len (by decide +kernel) (pa_cons (pv 0) pa_nil)) pe_int (nomark _)) (pw_or1 (pt_not (pt_val (z_call (ok_is_name T) T.c_is_name (hr.mono (by decide)) rfl T.g_is_name passL (pa_cons (pe_ix (ix_tupK K) (pv 0) pe_int (fun _ _ => rfl)) pa_nil)))))))) (pss_one (ps_ret pe_bl)) pss_nil)
   (pss_cons (ps_if (PW.pt (pw_or (pt_not (pt_val (pe_callB (call_isiDK K) (by rfl) T.u_isinstance (by decide +kernel) (pa_cons (pe_ix (ix_tupK K) (pv 0) pe_int (fun _ _ => rfl)) (pa_cons (z_ty (n := "str") T.u_str) pa_nil))))) (pw_or (pt_cmpR (op_notIn_seqK K) (pe_ix (ix_tupK K) (pv 0) pe_int (fun _ _ => rfl)) (pe_tup (pa_cons (z_str T.i_EDGE) (pa_cons (z_str T.i_LEVEL) pa_nil))) (by rfl)) (pw_or1 (pt_not (pt_val (z_call (ok_is_integer T) T.c_is_integer (hr.mono (by decide)) rfl T.g_is_integer passL (pa_cons (pe_ix (ix_tupK K) (pv 0) pe_int (fun _ _ => rfl)) (pa_cons pe_int (pa_cons (z_int T.i_MAX_RANK) pa_nil)))))))))) (pss_one (ps_ret pe_bl)) pss_nil)
   (pss_one (ps_ret (pe_and (pe_callB (call_isiDK K) (by rfl) T.u_isinstance (by decide +kernel) (pa_cons (pe_ix (ix_tupK K) (pv 0) pe_int (fun _ _ => rfl)) (pa_cons (z_ty (n := "tuple") T.u_tuple) pa_nil))) (pe_one (pe_chain op_le op_le pe_int (pe_callB (call_lenK K) (by rfl) T.u_len (by decide +kernel) (pa_cons (pe_ix (ix_tupK K) (pv 0) pe_int (fun _ _ => rfl)) pa_nil)) (z_int T.i_MAX_STEPS)))))))), ?_⟩)
 ·obtain ⟨v, d, rfl, _⟩ := h
  rfl
 obtain ⟨v, d, rfl, hd, hz, q⟩ := h
 show (_ : TS) _ [some v] H
 try dsimp only [cxOf]
 have hd0 := hd
 cases hd <;> (walk_at "ri") <;> try exact q _ (Same.refl H)
 rename_i a xs ds hT hA
 refine s_lenT hT ?_
 walk_at "ri"
 by_cases h4 : ds.length = 4
 ·have hl : xs.length = 4 := hA.len.trans h4
  refine ite_f (by rw [hl]; rfl) ?_
  obtain ⟨da, db, dc, de, rfl⟩ : ∃ da db dc de, ds = [da, db, dc, de] := by
   match ds, h4 with
   | [a, b, c, e], _ => exact ⟨a, b, c, e, rfl⟩
  cases hA with | cons h1 hA => ?_
  cases hA with | cons h2 hA => ?_
  cases hA with | cons h3 hA => ?_
  cases hA with | cons h5 hA => ?_
  cases hA
  walk_at "ri"
  refine s_ixT hT rfl ?_
  walk_at "ri"
  have sz := short_tup hz
  refine ⟨_, _, rfl, h1, shorts_at sz (by simp), fun H1 s1 => ?_⟩
  walk_at "ri"
  refine ite_b (fun n1 => ?_) (fun n1 => ?_)
  ·walk_at "ri"
   have e : isLine (.tuple [da, db, dc, de]) = false := by simp [isLine, bnt n1]
   rw [e] at q
   exact q _ s1
  have m1 : isName da = true := by simpa using n1
  replace hT := s1.sqT hT
  replace h2 := h2.same s1
  replace h3 := h3.same s1
  replace h5 := h5.same s1
  walk_at "ri"
  refine s_ixT hT rfl ?_
  walk_at "ri"
  have h20 := h2
  cases h2 <;> (walk_at "ri") <;> try (
   refine (?_ : _ → _) (q _ s1)
   rw [show isLine (.tuple [da, _, dc, de]) = false from by simp [isLine, isKind]]
   exact fun z => z)
  rename_i z
  refine s_ixT hT rfl ?_
  walk_at "ri"
  refine ⟨by show 2 ≤ sizeLine; decide, ?_⟩
  walk_at "zn"
  rename_i p hp H2 s2 e2
  refine s_in (.inr (SqT.of e2)) rfl rfl ?_
  walk_at "ri"
  refine ite_b (fun n2 => ?_) (fun n2 => ?_)
  ·walk_at "ri"
   have e : isLine (.tuple [da, .str z, dc, de]) = false := by
    have n3 : inV (.str z) [.str "edge", .str "level"] = false := by simpa using n2
    simp [isLine, isKind, n3]
   rw [e] at q
   exact q _ (s1.trans s2)
  have m2 : isKind (.str z) = true := by simpa [isKind] using n2
  replace hT := s2.sqT hT
  replace h3 := h3.same s2
  replace h5 := h5.same s2
  walk_at "ri"
  refine s_ixT hT rfl ?_
  walk_at "ri"
  refine ⟨_, _, _, _, rfl, h3, ?_⟩
  walk_at "ri"
  refine ite_b (fun n2 => ?_) (fun n2 => ?_)
  ·walk_at "ri"
   have e : isLine (.tuple [da, .str z, dc, de]) = false := by simp [isLine, bnt n2]
   rw [e] at q
   exact q _ (s1.trans s2)
  have m3 : isIntD 1 9 dc = true := by simpa using n2
  have e : isLine (.tuple [da, .str z, dc, de]) = isSteps 8 de := by simp [isLine, m1, m2, m3]
  rw [e] at q
  walk_at "ri"
  refine s_ixT hT rfl ?_
  walk_at "ri"
  have h50 := h5
  cases h5 <;> (walk_at "ri") <;> try exact q _ (s1.trans s2)
  rename_i a' xs' ds' hT' hA'
  refine s_ixT hT rfl ?_
  walk_at "ri"
  refine s_lenT hT' ?_
  walk_at "ri"
  have el := hA'.len
  refine ite_b (fun n5 => ?_) (fun n5 => ?_)
  ·walk_at "ri"
   have e6 : isSteps 8 (.tuple ds') = decide ((xs'.length : Int) ≤ 8) := by
    rw [el] at n5
    show (decide ((1 : Int) ≤ ds'.length) && decide ((ds'.length : Int) ≤ (8 : Nat))) = _
    rw [n5, ← el]
    rfl
   rw [e6] at q
   exact q _ (s1.trans s2)
  ·walk_at "ri"
   have e6 : isSteps 8 (.tuple ds') = false := by
    rw [el] at n5
    show (decide ((1 : Int) ≤ ds'.length) && decide ((ds'.length : Int) ≤ (8 : Nat))) = _
    rw [n5]
    rfl
   rw [e6] at q
   exact q _ (s1.trans s2)
 ·refine ite_t ?_ ?_
  ·have hl : xs.length ≠ 4 := by rw [hA.len]; exact h4
   simp
   omega
  ·walk_at "ri"
   rw [isLine_no h4] at q
   exact q _ (Same.refl H)
def spIsWork (K : Fg) : Sp := fun vs H Q _ => ∃ v d, vs = [v] ∧ Dp K H v d ∧ short d = true ∧ ∀ H', Same H H' → Q (.bl (isWork d)) H'
theorem ok_is_work (T : Txt K mg) : FnOk P w K mg base (L2.CX P w) 3 (ga K "is_work") (fdOf K (ga K "is_work")) ["work"] (spIsWork K) := by
 refine FunD.ok T.F_is_work sc_is_work (fun vs H Q E h => ?_) (fun cdv A outer s H vs Q E hr h => ⟨_, PSs.nox (pss_cons (ps_if (PW.pt (pw_or (pt_not (pt_val (pe_callB (call_isiDK K) (by rfl) T.u_isinstance (by decide +kernel) (pa_cons (pv 0) (pa_cons (z_ty (n := "tuple") T.u_tuple) pa_nil))))) (pw_or (pt_cmpR op_ne (pe_callB (call_lenK K) (by rfl) T.u_len (by decide +kernel) (pa_cons (pv 0) pa_nil)) pe_int (nomark _)) (pw_or1 (pt_not (pt_val (z_call (ok_is_name T) T.c_is_name (hr.mono (by decide)) rfl T.g_is_name passL (pa_cons (pe_ix (ix_tupK K) (pv 0) pe_int (fun _ _ => rfl)) pa_nil)))))))) (pss_one (ps_ret pe_bl)) pss_nil)
   (pss_one (ps_ret (pe_and (z_call (ok_is_integer T) T.c_is_integer (hr.mono (by decide)) rfl T.g_is_integer passL (pa_cons (pe_ix (ix_tupK K) (pv 0) pe_int (fun _ _ => rfl)) (pa_cons pe_int (pa_cons (z_int T.i_MAX_RANK) pa_nil)))) (pe_one (z_call (ok_is_integer T) T.c_is_integer (hr.mono (by decide)) rfl T.g_is_integer passL (pa_cons (pe_ix (ix_tupK K) (pv 0) pe_int (fun _ _ => rfl)) (pa_cons pe_int (pa_cons (z_int T.i_MAX_TICKS) pa_nil))))))))), ?_⟩)
 ·obtain ⟨v, d, rfl, _⟩ := h
  rfl
 obtain ⟨v, d, rfl, hd, hz, q⟩ := h
 show (_ : TS) _ [some v] H
 try dsimp only [cxOf]
 have hd0 := hd
 cases hd <;> (walk_at "ri") <;> try exact q _ (Same.refl H)
 rename_i a xs ds hT hA
 refine s_lenT hT ?_
 walk_at "ri"
 by_cases h4 : ds.length = 3
 ·have hl : xs.length = 3 := hA.len.trans h4
  refine ite_f (by rw [hl]; rfl) ?_
  obtain ⟨da, db, dc, rfl⟩ : ∃ da db dc, ds = [da, db, dc] := by
   match ds, h4 with
   | [a, b, c], _ => exact ⟨a, b, c, rfl⟩
  cases hA with | cons h1 hA => ?_
  cases hA with | cons h2 hA => ?_
  cases hA with | cons h3 hA => ?_
  cases hA
  walk_at "ri"
  refine s_ixT hT rfl ?_
  walk_at "ri"
  have sz := short_tup hz
  refine ⟨_, _, rfl, h1, shorts_at sz (by simp), fun H1 s1 => ?_⟩
  walk_at "ri"
  refine ite_b (fun n1 => ?_) (fun n1 => ?_)
  ·walk_at "ri"
   have e : isWork (.tuple [da, db, dc]) = false := by simp [isWork, bnt n1]
   rw [e] at q
   exact q _ s1
  have e : isWork (.tuple [da, db, dc]) = (isIntD 1 9 db && isIntD 1 99 dc) := by simp [isWork, bnf n1]
  rw [e] at q
  replace hT := s1.sqT hT
  replace h2 := h2.same s1
  replace h3 := h3.same s1
  walk_at "ri"
  refine s_ixT hT rfl ?_
  walk_at "ri"
  refine ⟨_, _, _, _, rfl, h2, ?_⟩
  walk_at "ri"
  refine ite_b (fun n2 => ?_) (fun n2 => ?_)
  ·walk_at "ri"
   refine s_ixT hT rfl ?_
   walk_at "ri"
   refine ⟨_, _, _, _, rfl, h3, ?_⟩
   rw [n2] at q
   exact q _ s1
  ·rw [n2] at q
   exact q _ s1
 ·refine ite_t ?_ ?_
  ·have hl : xs.length ≠ 3 := by rw [hA.len]; exact h4
   simp
   omega
  ·walk_at "ri"
   rw [isWork_no h4] at q
   exact q _ (Same.refl H)
end
set_option maxHeartbeats 1000000
open PySem PySem.Spec PyProof.Rows L2 Z
open He (ga ma)
def spIsStep (K : Fg) : Sp := fun vs H Q _ => ∃ v d dk kvs wl ws, vs = [v, .ref dk, .ref wl] ∧ Dp K H v d ∧ H dk = some (.dK kvs) ∧ strVals kvs ∧ SqL K H wl ws ∧ ws.all flatV = true ∧ Q (.bl (isStep kvs ws d)) H
section
variable {P : Program} {w : World} {K : Fg} {mg : Str → Option Value} {base : Heap}
theorem ok_is_step (T : Txt K mg) : FnOk P w K mg base (L2.CX P w) 2 (ga K "is_step") (fdOf K (ga K "is_step")) ["step", "kinds", "works"] (spIsStep K) := by
 refine FunD.ok T.F_is_step sc_is_step (fun vs H Q E h => ?_) (fun cdv A outer s H vs Q E hr h => ⟨_, PSs.nox (pss_cons (ps_if (PW.pt (pw_or (pt_not (pt_val (pe_callB (call_isiDK K) (by rfl) T.u_isinstance (by decide +kernel) (pa_cons (pv 0) (pa_cons (z_ty (n := "tuple") T.u_tuple) pa_nil))))) (pw_or (pt_cmpR op_ne (pe_callB (call_lenK K) (by rfl) T.u_len (by decide +kernel) (pa_cons (pv 0) pa_nil)) pe_int (nomark _)) (pw_or1 (pt_not (pt_val (pe_callB (call_isiDK K) (by rfl) T.u_isinstance (by decide +kernel) (pa_cons (pe_ix (ix_tupK K) (pv 0) pe_int (fun _ _ => rfl)) (pa_cons (z_ty (n := "str") T.u_str) pa_nil))))))))) (pss_one (ps_ret pe_bl)) pss_nil)
   (pss_cons (ps_asg (pv 0) (kGT K (pg_tup (n := 2) rfl (pgs_cons (zg 3 sc_is_step.nd) (pgs_cons (zg 4 sc_is_step.nd) pgs_nil)))))
   (pss_cons (ps_if (pt_cmpR (op_in_seqK K) (pv 3) (z_ref T.g_LINE_WORDS) (by rfl)) (pss_one (ps_ret (pe_and (pe_callB (call_isiDK K) (by rfl) T.u_isinstance (by decide +kernel) (pa_cons (pv 4) (pa_cons (z_ty (n := "str") T.u_str) pa_nil))) (pe_and (pe_cmp (pc_din (hu_of hr) (pv 4) (pv 1))) (pe_one (pe_or (pe_cmpR op_ne (pv 3) (z_str T.i_QUIET) (nomark _)) (pe_one (pe_cmpR op_eq (pe_dget (hu_of hr) (pv 1) (pv 4) (fun _ _ => rfl)) (z_str T.i_LEVEL) (nomark _))))))))) pss_nil)
   (pss_cons (ps_if (pt_cmpR op_eq (pv 3) (z_str T.i_LATER) (nomark _)) (pss_one (ps_ret (pe_and (pe_callB (call_isiDK K) (by rfl) T.u_isinstance (by decide +kernel) (pa_cons (pv 4) (pa_cons (z_ty (n := "str") T.u_str) pa_nil))) (pe_one (pe_cmpR (op_in_seqK K) (pv 4) (pv 2) (by rfl)))))) pss_nil)
   (pss_cons (ps_if (pt_cmpR (op_in_seqK K) (pv 3) (z_ref T.g_FLAG_WORDS) (by rfl)) (pss_one (ps_ret (z_call (ok_is_integer T) T.c_is_integer (hr.mono (by decide)) rfl T.g_is_integer passL (pa_cons (pv 4) (pa_cons pe_int (pa_cons (z_int T.i_MAX_FLAG) pa_nil)))))) pss_nil)
   (pss_one (ps_ret (pe_or (pe_and (pe_cmpR op_eq (pv 3) (z_str T.i_RUN) (nomark _)) (pe_one (z_call (ok_is_integer T) T.c_is_integer (hr.mono (by decide)) rfl T.g_is_integer passL (pa_cons (pv 4) (pa_cons pe_int (pa_cons (z_int T.i_MAX_TICKS) pa_nil)))))) (pe_one (pe_and (pe_cmpR op_eq (pv 3) (z_str T.i_BAR) (nomark _)) (pe_one (z_call (ok_is_integer T) T.c_is_integer (hr.mono (by decide)) rfl T.g_is_integer passL (pa_cons (pv 4) (pa_cons pe_int (pa_cons (z_int T.i_MAX_RANK) pa_nil))))))))))))))), ?_⟩)
 ·obtain ⟨v, d, dk, kvs, wl, ws, rfl, _⟩ := h
  rfl
 obtain ⟨v, d, dk, kvs, wl, ws, rfl, hd, hK, hkv, hW, hws, q⟩ := h
 show (_ : TS) _ [some v, some (.ref dk), some (.ref wl), none, none] H
 try dsimp only [cxOf]
 have hd0 := hd
 cases hd <;> (walk_at "ri") <;> try exact q
 rename_i a xs ds hT hA
 refine s_lenT hT ?_
 walk_at "ri"
 by_cases h4 : ds.length = 2
 ·have hl : xs.length = 2 := hA.len.trans h4
  refine ite_f (by rw [hl]; rfl) ?_
  obtain ⟨da, db, rfl⟩ : ∃ da db, ds = [da, db] := by
   match ds, h4 with
   | [a, b], _ => exact ⟨a, b, rfl⟩
  cases hA with | cons h1 hA => ?_
  cases hA with | cons h2 hA => ?_
  cases hA
  walk_at "ri"
  refine s_ixT hT rfl ?_
  walk_at "ri"
  have h10 := h1
  cases h1 <;> (walk_at "ri") <;> try exact q
  rename_i y w
  refine s_gtup hT rfl ?_
  walk_at "ri"
  have q' : Q (.bl (isStepX kvs ws w db)) H := q
  unfold isStepX at q'
  refine s_in (.inr (T.t_LINE_WORDS H)) rfl rfl ?_
  walk_at "ri"
  refine ite_b (fun n1 => ?_) (fun n1 => ?_)
  ·have n1' : inV (.str w) lineWords = true := n1
   have h20 := h2
   cases h2 <;> (walk_at "ri") <;> try (rw [if_pos n1'] at q'; exact q')
   rename_i y
   rw [if_pos n1'] at q'
   dsimp only at q'
   refine s_dS hK ?_
   walk_at "ri"
   refine ite_b (fun n2 => ?_) (fun n2 => ?_)
   ·rw [n2, Bool.true_and] at q'
    walk_at "ri"
    refine ite_b (fun n3 => ?_) (fun n3 => ?_)
    ·rw [n3] at q'
     exact q'
    ·rw [n3, Bool.false_or] at q'
     obtain ⟨u, hu⟩ := Option.isSome_iff_exists.mp n2
     obtain ⟨z, rfl⟩ := hkv _ _ hu
     walk_at "ri"
     refine s_dgS hK hu ?_
     walk_at "ri"
     rw [hu] at q'
     have e : decide ((some (V.str z) : Option V) = some (.str "level")) = decide (V.str z = V.str "level") := by simp
     rw [e] at q'
     exact q'
   ·rw [n2, Bool.false_and] at q'
    exact q'
  have n1' : ¬ inV (.str w) lineWords = true := by rw [show inV (.str w) lineWords = false from n1]; decide
  rw [if_neg n1'] at q'
  walk_at "ri"
  refine ite_b (fun n2 => ?_) (fun n2 => ?_)
  ·rw [if_pos n2] at q'
   walk_at "ri"
   have h20 := h2
   cases h2 <;> (walk_at "ri") <;> try exact q'
   refine s_in (.inl hW) rfl hws ?_
   exact q'
  rw [if_neg (by rw [n2]; decide)] at q'
  walk_at "ri"
  refine s_in (.inr (T.t_FLAG_WORDS H)) rfl rfl ?_
  walk_at "ri"
  refine ite_b (fun n3 => ?_) (fun n3 => ?_)
  ·rw [if_pos (show inV (.str w) flagWords = true from n3)] at q'
   walk_at "ri"
   exact ⟨_, _, _, _, rfl, h2, q'⟩
  rw [if_neg (show ¬ inV (.str w) flagWords = true by rw [show inV (.str w) flagWords = false from n3]; decide)] at q'
  walk_at "ri"
  refine ite_b (fun n4 => ?_) (fun n4 => ?_)
  ·rw [n4, Bool.true_and] at q'
   walk_at "ri"
   refine ⟨_, _, _, _, rfl, h2, ?_⟩
   walk_at "ri"
   refine ite_b (fun n5 => ?_) (fun n5 => ?_)
   ·rw [n5] at q'
    exact q'
   ·rw [n5, Bool.false_or] at q'
    walk_at "ri"
    refine ite_b (fun n6 => ?_) (fun n6 => ?_)
    ·rw [n6, Bool.true_and] at q'
     walk_at "ri"
     exact ⟨_, _, _, _, rfl, h2, q'⟩
    ·rw [n6, Bool.false_and] at q'
     exact q'
  ·rw [n4, Bool.false_and, Bool.false_or] at q'
   walk_at "ri"
   refine ite_b (fun n6 => ?_) (fun n6 => ?_)
   ·rw [n6, Bool.true_and] at q'
    walk_at "ri"
    exact ⟨_, _, _, _, rfl, h2, q'⟩
   ·rw [n6, Bool.false_and] at q'
    exact q'
 ·refine ite_t ?_ ?_
  ·have hl : xs.length ≠ 2 := by rw [hA.len]; exact h4
   simp
   omega
  ·walk_at "ri"
   rw [isStep_no h4] at q
   exact q
end
set_option maxHeartbeats 1000000
open PySem PySem.Spec PyProof.Rows L2 Z
open He (ga ma)
def spCheckLines (K : Fg) (ok : PyData → Bool) : Sp := fun vs H Q _ => ∃ v ls, ∃ most : Int, vs = [v, .int most] ∧ Dp K H v (.tuple ls) ∧ shorts ls = true ∧ (∀ d ∈ ls, ok d = true) ∧ (ls.map nameD).Nodup ∧ (ls.length : Int) ≤ most ∧ ls.length ≤ 10000 ∧ ∀ H', Same H H' → Q .non H'
section
variable {P : Program} {w : World} {K : Fg} {mg : Str → Option Value} {base : Heap}
theorem ok_check_lines (T : Txt K mg) : FnOk P w K mg base (L2.CX P w) 4 (ga K "check_lines") (fdOf K (ga K "check_lines")) ["lines", "most"] (spCheckLines K isLine) := by
 refine FunD.ok T.F_check_lines sc_check_lines (fun vs H Q E h => ?_) (fun cdv A outer s H vs Q E hr h => ⟨_, PSs.nox (pss_cons (zset 2 sc_check_lines.nd (pe_lst pa_nil))
   (pss_one (ps_for PassesOwn.never rfl (kIET K (pi_enumT (by rfl) T.u_enumerate (pa_cons (pv 0) pa_nil))) (kGT K (pg_tup (n := 2) rfl (pgs_cons (zg 3 sc_check_lines.nd) (pgs_cons (zg 4 sc_check_lines.nd) pgs_nil))))
   (pss_cons (ps_if (PW.pt (pw_or (pt_cmpR op_eq (pv 3) (pv 1) (nomark _)) (pw_or (pt_not (pt_val (z_call (ok_is_line T) T.c_is_line (hr.mono (by decide)) rfl T.g_is_line passL (pa_cons (pv 4) pa_nil)))) (pw_or1 (pt_cmpR (op_in_seqK K) (pe_ix (ix_tupK K) (pv 4) pe_int (fun _ _ => rfl)) (pv 2) (by rfl)))))) (pss_one ps_never) pss_nil)
   (pss_one (ps_expr (kBM K (pe_bm PySem.F.plainAttrs_list PySem.F.slot_list_append PySem.F.type_list_append mt_append (pv 2) (pa_cons (pe_ix (ix_tupK K) (pv 4) pe_int (fun _ _ => rfl)) pa_nil))))))))), ?_⟩)
 ·obtain ⟨v, ls, most, rfl, _⟩ := h
  rfl
 obtain ⟨v, ls, most, rfl, hd, hz, hok, hnd, hm, hn, q⟩ := h
 obtain ⟨a, xs, rfl, hT, hA⟩ := hd.tupI
 show (_ : TS) _ [some (.ref a), some (.int most), none, none, none] H
 try dsimp only [cxOf]
 walk_at "ri"
 refine ⟨by decide, ?_⟩
 walk_at "zn"
 rename_i l hl H1 s1 e1
 walk_at "ri"
 refine ⟨_, rfl, a, xs, rfl, s1.sqT hT, for_it walk_enumT (fun i σ H' => ∃ v3 v4, σ = [some (.ref a), some (.int most), some (.ref l), v3, v4] ∧ Same H H' ∧ H' l = some (.lst (((ls.map nameD).take i).map V.str))) ⟨none, none, rfl, s1, e1⟩ (fun i σ H' _ ⟨_, _, _, s2, _⟩ => s2.sqT hT) (fun i x σ H2 H3 hi p y => ?_) (fun σ H' ⟨_, _, _, s2, _⟩ => q _ s2)⟩
 obtain ⟨v3, v4, rfl, s2, e2⟩ := p
 obtain ⟨t, y1, y2, rfl, ht, rfl, h1, h2⟩ := y
 cases h1
 generalize eH : upd H2 t _ = H3
 have s3 := newS ht eH
 have e3 := newE eH
 clear eH
 refine s_gtup (SqT.of e3) rfl ?_
 walk_at "ri"
 have hix : i < ls.length := by rw [← hA.len]; exact hi
 have hx2 : xs[i]? = some y2 := h2
 obtain ⟨d, hdi, hdd⟩ := hA.getv hx2
 have hmem : d ∈ ls := List.mem_of_getElem? hdi
 refine ite_f (decide_eq_false fun z => by cases z; omega) ?_
 walk_at "ri"
 refine ⟨y2, d, rfl, (hdd.same s2).same s3, shorts_at hz hmem, fun H4 s4 => ?_⟩
 rw [hok d hmem]
 walk_at "ri"
 obtain ⟨nm, rest, hd5⟩ := isLine_name2 (hok d hmem)
 subst hd5
 have s24 := (s2.trans s3).trans s4
 obtain ⟨b, zs, rfl, hTb, hAb⟩ := (hdd.same s24).tupI
 cases hAb with | cons b1 hAb => ?_
 cases b1
 refine s_ixT hTb (at_of (j := 0) rfl rfl) ?_
 walk_at "ri"
 have e4 : H4 l = some (.lst (((ls.map nameD).take i).map V.str)) := s4 _ _ (s3 _ _ e2)
 have hnm : (ls.map nameD)[i]? = some nm := by
  rw [List.getElem?_map, hdi]
  rfl
 refine s_in (.inl (SqL.of e4)) rfl flat_strs ?_
 walk_at "ri"
 refine ite_f (by rw [if_neg (by decide), inV_strs]; exact decide_eq_false (nodup_take hnd hnm)) ?_
 walk_at "ri"
 refine s_tyL e4 ?_
 walk_at "ri"
 refine s_ixT hTb (at_of (j := 0) rfl rfl) ?_
 walk_at "ri"
 refine s_append e4 ?_ ?_
 ·rw [List.length_map, List.length_take, List.length_map, sizeLine_eq]
  omega
 refine ⟨_, _, rfl, fun c o h => ?_, ?_⟩
 ·rw [upd_ne (ne_of_none h hl)]
  exact s24 _ _ h
 ·rw [upd_same, List.take_add_one, hnm, List.map_append]
  rfl
theorem ok_check_works (T : Txt K mg) : FnOk P w K mg base (L2.CX P w) 4 (ga K "check_works") (fdOf K (ga K "check_works")) ["works", "most"] (spCheckLines K isWork) := by
 refine FunD.ok T.F_check_works sc_check_works (fun vs H Q E h => ?_) (fun cdv A outer s H vs Q E hr h => ⟨_, PSs.nox (pss_cons (zset 2 sc_check_works.nd (pe_lst pa_nil))
   (pss_one (ps_for PassesOwn.never rfl (kIET K (pi_enumT (by rfl) T.u_enumerate (pa_cons (pv 0) pa_nil))) (kGT K (pg_tup (n := 2) rfl (pgs_cons (zg 3 sc_check_works.nd) (pgs_cons (zg 4 sc_check_works.nd) pgs_nil))))
   (pss_cons (ps_if (PW.pt (pw_or (pt_cmpR op_eq (pv 3) (pv 1) (nomark _)) (pw_or (pt_not (pt_val (z_call (ok_is_work T) T.c_is_work (hr.mono (by decide)) rfl T.g_is_work passL (pa_cons (pv 4) pa_nil)))) (pw_or1 (pt_cmpR (op_in_seqK K) (pe_ix (ix_tupK K) (pv 4) pe_int (fun _ _ => rfl)) (pv 2) (by rfl)))))) (pss_one ps_never) pss_nil)
   (pss_one (ps_expr (kBM K (pe_bm PySem.F.plainAttrs_list PySem.F.slot_list_append PySem.F.type_list_append mt_append (pv 2) (pa_cons (pe_ix (ix_tupK K) (pv 4) pe_int (fun _ _ => rfl)) pa_nil))))))))), ?_⟩)
 ·obtain ⟨v, ls, most, rfl, _⟩ := h
  rfl
 obtain ⟨v, ls, most, rfl, hd, hz, hok, hnd, hm, hn, q⟩ := h
 obtain ⟨a, xs, rfl, hT, hA⟩ := hd.tupI
 show (_ : TS) _ [some (.ref a), some (.int most), none, none, none] H
 try dsimp only [cxOf]
 walk_at "ri"
 refine ⟨by decide, ?_⟩
 walk_at "zn"
 rename_i l hl H1 s1 e1
 walk_at "ri"
 refine ⟨_, rfl, a, xs, rfl, s1.sqT hT, for_it walk_enumT (fun i σ H' => ∃ v3 v4, σ = [some (.ref a), some (.int most), some (.ref l), v3, v4] ∧ Same H H' ∧ H' l = some (.lst (((ls.map nameD).take i).map V.str))) ⟨none, none, rfl, s1, e1⟩ (fun i σ H' _ ⟨_, _, _, s2, _⟩ => s2.sqT hT) (fun i x σ H2 H3 hi p y => ?_) (fun σ H' ⟨_, _, _, s2, _⟩ => q _ s2)⟩
 obtain ⟨v3, v4, rfl, s2, e2⟩ := p
 obtain ⟨t, y1, y2, rfl, ht, rfl, h1, h2⟩ := y
 cases h1
 generalize eH : upd H2 t _ = H3
 have s3 := newS ht eH
 have e3 := newE eH
 clear eH
 refine s_gtup (SqT.of e3) rfl ?_
 walk_at "ri"
 have hix : i < ls.length := by rw [← hA.len]; exact hi
 have hx2 : xs[i]? = some y2 := h2
 obtain ⟨d, hdi, hdd⟩ := hA.getv hx2
 have hmem : d ∈ ls := List.mem_of_getElem? hdi
 refine ite_f (decide_eq_false fun z => by cases z; omega) ?_
 walk_at "ri"
 refine ⟨y2, d, rfl, (hdd.same s2).same s3, shorts_at hz hmem, fun H4 s4 => ?_⟩
 rw [hok d hmem]
 walk_at "ri"
 obtain ⟨nm, rest, hd5⟩ := isWork_name2 (hok d hmem)
 subst hd5
 have s24 := (s2.trans s3).trans s4
 obtain ⟨b, zs, rfl, hTb, hAb⟩ := (hdd.same s24).tupI
 cases hAb with | cons b1 hAb => ?_
 cases b1
 refine s_ixT hTb (at_of (j := 0) rfl rfl) ?_
 walk_at "ri"
 have e4 : H4 l = some (.lst (((ls.map nameD).take i).map V.str)) := s4 _ _ (s3 _ _ e2)
 have hnm : (ls.map nameD)[i]? = some nm := by
  rw [List.getElem?_map, hdi]
  rfl
 refine s_in (.inl (SqL.of e4)) rfl flat_strs ?_
 walk_at "ri"
 refine ite_f (by rw [if_neg (by decide), inV_strs]; exact decide_eq_false (nodup_take hnd hnm)) ?_
 walk_at "ri"
 refine s_tyL e4 ?_
 walk_at "ri"
 refine s_ixT hTb (at_of (j := 0) rfl rfl) ?_
 walk_at "ri"
 refine s_append e4 ?_ ?_
 ·rw [List.length_map, List.length_take, List.length_map, sizeLine_eq]
  omega
 refine ⟨_, _, rfl, fun c o h => ?_, ?_⟩
 ·rw [upd_ne (ne_of_none h hl)]
  exact s24 _ _ h
 ·rw [upd_same, List.take_add_one, hnm, List.map_append]
  rfl
end
set_option maxHeartbeats 1000000
open PySem PySem.Spec PyProof.Rows L2 Z
open He (ga ma)
def spSetupInit (K : Fg) : Sp := fun vs H Q _ => ∃ x a b dx P, vs = [.ref x, .ref a, .ref b] ∧ H x = some (.ins (ga K "Setup") dx []) ∧ Dp K H (.ref a) (.tuple (P.ls.map dLn)) ∧ Dp K H (.ref b) (.tuple (P.ws.map dWk)) ∧ P.Ok ∧
 ∀ H' rd wd, H rd = none → H wd = none → rd ≠ wd → Fr [x] H H' → PlanAt K H' ⟨x, rd, wd⟩ P → Q .non H'
section
variable {P : Program} {w : World} {K : Fg} {mg : Str → Option Value} {base : Heap}
theorem ok_Setup_init (T : Txt K mg) : FnOk P w K mg base (L2.CX P w) 5 (ma K (ga K "Setup") "__init__") (fdOf K (ma K (ga K "Setup") "__init__")) ["self", "lines", "works"] (spSetupInit K) := by
 refine FunD.ok T.F_Setup_init sc_Setup_init (fun vs H Q E h => ?_) (fun cdv A outer s H vs Q E hr h => ⟨_, PSs.nox (pss_cons (ps_if (PW.pt (pw_or (pt_not (pt_val (pe_callB (call_isiDK K) (by rfl) T.u_isinstance (by decide +kernel) (pa_cons (pv 1) (pa_cons (z_ty (n := "tuple") T.u_tuple) pa_nil))))) (pw_or1 (pt_cmpR (op_eq0K K hr.units) (pv 1) (pe_tup pa_nil) (nomark _))))) (pss_one ps_never) pss_nil)
   (pss_cons (ps_expr (z_call (ok_check_lines T) T.c_check_lines (hr.mono (by decide)) rfl T.g_check_lines passL (pa_cons (pv 1) (pa_cons (ClX.pe_cval (z_ref T.g_Setup)) pa_nil))))
   (pss_cons (ps_if (pt_not (pt_val (pe_callB (call_isiDK K) (by rfl) T.u_isinstance (by decide +kernel) (pa_cons (pv 2) (pa_cons (z_ty (n := "tuple") T.u_tuple) pa_nil))))) (pss_one ps_never) pss_nil)
   (pss_cons (ps_expr (z_call (ok_check_works T) T.c_check_works (hr.mono (by decide)) rfl T.g_check_works passL (pa_cons (pv 2) (pa_cons (ClX.pe_cval (z_ref T.g_Setup)) pa_nil))))
   (pss_cons (zset 3 sc_Setup_init.nd (pe_dc (own := [("line", 6)]) rfl sc_Setup_init.nd (kIT K (pi_tup (pv 1))) (blkOk_by (own := [("line", 6)]) (N := n_Setup_init) (sc := defScope s_Setup_init) (by decide +kernel)) (fun _ _ _ _ _ => (zg 6 sc_Setup_init.nd)) (fun _ _ _ _ _ => pts_nil) (fun _ _ _ _ _ => (pe_ix (ix_tupK K) (pv 6) pe_int (fun _ _ => rfl))) (fun _ _ _ _ _ => (pe_ix (ix_tupK K) (pv 6) pe_int (fun _ _ => rfl)))))
   (pss_cons (zset 4 sc_Setup_init.nd (pe_lc (own := [("work", 7)]) rfl sc_Setup_init.nd (kIT K (pi_tup (pv 2))) (blkOk_by (own := [("work", 7)]) (N := n_Setup_init) (sc := defScope s_Setup_init) (by decide +kernel)) (fun _ _ _ _ _ => (zg 7 sc_Setup_init.nd)) (fun _ _ _ _ _ => pts_nil) (fun _ _ _ _ _ => (pe_ix (ix_tupK K) (pv 7) pe_int (fun _ _ => rfl)))))
   (pss_cons (ps_for PassesOwn.never rfl (kIET K (pi_enumT (by rfl) T.u_enumerate (pa_cons (pv 1) pa_nil))) (kGT K (pg_tup (n := 2) rfl (pgs_cons (zg 5 sc_Setup_init.nd) (pgs_cons (zg 6 sc_Setup_init.nd) pgs_nil))))
   (pss_one (ps_if (pt_not (pt_val (pe_callB (cr_allK K rfl) (by rfl) T.u_all (by decide +kernel) (pa_cons (pe_lc (own := [("step", 8)]) rfl sc_Setup_init.nd (kIT K (pi_tup (pe_ix (ix_tupK K) (pv 6) pe_int (fun _ _ => rfl)))) (blkOk_by (own := [("step", 8)]) (N := n_Setup_init) (sc := defScope s_Setup_init) (by decide +kernel)) (fun _ _ _ _ _ => (zg 8 sc_Setup_init.nd)) (fun _ _ _ _ _ => pts_nil) (fun _ _ _ _ _ => (z_call (ok_is_step T) T.c_is_step (hr.mono (by decide)) rfl T.g_is_step passL (pa_cons (pv 8) (pa_cons (pv 3) (pa_cons (pv 4) pa_nil)))))) pa_nil)))) (pss_one ps_never) pss_nil)))
   (pss_cons (ps_fld (pv 0) (pv 1) rfl)
   (pss_cons (ps_fld (pv 0) (pv 2) rfl)
   (pss_cons (ps_fld (pv 0) (pe_dc (own := [("line", 6)]) rfl sc_Setup_init.nd (kIT K (pi_tup (pv 1))) (blkOk_by (own := [("line", 6)]) (N := n_Setup_init) (sc := defScope s_Setup_init) (by decide +kernel)) (fun _ _ _ _ _ => (zg 6 sc_Setup_init.nd)) (fun _ _ _ _ _ => pts_nil) (fun _ _ _ _ _ => (pe_ix (ix_tupK K) (pv 6) pe_int (fun _ _ => rfl))) (fun _ _ _ _ _ => (pv 6))) rfl)
   (pss_one (ps_fld (pv 0) (pe_dc (own := [("work", 7)]) rfl sc_Setup_init.nd (kIT K (pi_tup (pv 2))) (blkOk_by (own := [("work", 7)]) (N := n_Setup_init) (sc := defScope s_Setup_init) (by decide +kernel)) (fun _ _ _ _ _ => (zg 7 sc_Setup_init.nd)) (fun _ _ _ _ _ => pts_nil) (fun _ _ _ _ _ => (pe_ix (ix_tupK K) (pv 7) pe_int (fun _ _ => rfl))) (fun _ _ _ _ _ => (pv 7))) rfl)))))))))))), ?_⟩)
 ·obtain ⟨x, a, b, dx, P, rfl, _⟩ := h
  rfl
 obtain ⟨x, a, b, dx, P, rfl, hx, hda, hdb, ok, q⟩ := h
 show (_ : TS) _ [some (.ref x), some (.ref a), some (.ref b), none, none, none, none, none, none] H
 try dsimp only [cxOf]
 walk_at "ri"
 refine ⟨by decide, ?_⟩
 walk_at "zn"
 rename_i p hp H1 s1 e1
 obtain ⟨_, xs, e, hT, hA⟩ := hda.tupI
 cases e
 obtain ⟨_, ys, e, hTb, hAb⟩ := hdb.tupI
 cases e
 have hxl : xs.length = P.ls.length := by rw [hA.len, List.length_map]
 refine s_eq0T (s1.sqT hT) (SqT.of e1) ?_
 walk_at "ri"
 refine ite_f ?_ ?_
 ·cases xs with
  | nil => exact absurd (List.length_eq_zero_iff.mp hxl.symm) ok.ne
  | cons _ _ => rfl
 walk_at "ri"
 refine s_cval T.k_Setup_MAX_LINES ?_
 walk_at "ri"
 have hnm : (P.ls.map dLn).map nameD = P.names := by rw [List.map_map]; rfl
 have hnw : (P.ws.map dWk).map nameD = P.wnames := by rw [List.map_map]; rfl
 have l12 := ok.l12
 have w8 := ok.w8
 refine ⟨_, P.ls.map dLn, 12, rfl, hda.same s1, shorts_map ok.shl, fun d hd => ?_, by rw [hnm]; exact ok.lnd, by rw [List.length_map]; omega, by rw [List.length_map]; omega, fun H2 s2 => ?_⟩
 ·obtain ⟨l, hl, rfl⟩ := List.mem_map.mp hd
  exact ok.lok l hl
 have s12 := s1.trans s2
 have hdb2 := hdb.same s12
 walk_at "ri"
 refine s_cval T.k_Setup_MAX_WORKS ?_
 walk_at "ri"
 refine ⟨_, P.ws.map dWk, 8, rfl, hdb.same s12, shorts_map fun w hw => (ok.shw w hw).1, fun d hd => ?_, by rw [hnw]; exact ok.wnd, by rw [List.length_map]; omega, by rw [List.length_map]; omega, fun H3 s3 => ?_⟩
 ·obtain ⟨l, hl, rfl⟩ := List.mem_map.mp hd
  exact ok.wok l hl
 walk_at "ri"
 have s13 := s12.trans s3
 have hkk : (P.ls.map fun l => (Sum.inr l.nm : Key)) = P.names.map Sum.inr := by rw [Pl.names, List.map_map]; rfl
 have hkn : (P.ls.map fun l => (Sum.inr l.nm : Key)).Nodup := by
  rw [hkk]
  exact List.Pairwise.map Sum.inr (fun a b h e => h (Sum.inr.inj e)) ok.lnd
 have hkw : (P.ws.map fun l => (Sum.inr l.nm : Key)).Nodup := by
  rw [show (P.ws.map fun l => (Sum.inr l.nm : Key)) = P.wnames.map Sum.inr by rw [Pl.wnames, List.map_map]; rfl]
  exact List.Pairwise.map Sum.inr (fun a b h e => h (Sum.inr.inj e)) ok.wnd
 refine dcT_d (l := P.ls) (da := dLn) (s13.sqT hT) (hA.same s13) (fun l => .inr l.nm) (P.ls.map fun l => .str l.kd) (by rw [List.length_map]) hkn (by omega) (fun i l y v H4 Z N hl hi hy hv s4 hd z => ?_) (fun kd H4 hkd s4 e4 => ?_)
 ·obtain ⟨t, zs, rfl, ht, ha⟩ := hd.tupI
  walk_at "ri"
  refine ⟨rfl, ?_⟩
  walk_at "ri"
  cases ha with | cons h1 ha => ?_
  cases ha with | cons h2 ha => ?_
  cases h1
  cases h2
  refine s_ixT ht (at_of (j := 0) rfl rfl) ?_
  walk_at "ri"
  refine s_ixT ht (at_of (j := 1) rfl rfl) ?_
  rw [List.getElem?_map, hi] at hv
  cases hv
  exact z _ (Same.refl _)
 have hkz : (P.ls.map fun l => (Sum.inr l.nm : Key)).zip (P.ls.map fun l => V.str l.kd) = P.kinds := by
  rw [List.zip_map']
  rfl
 rw [hkz] at e4
 walk_at "ri"
 have s14 := s13.trans s4
 refine lcT_d (l := P.ws) (da := dWk) (s14.sqT hTb) (hAb.same s14) (fun _ => true) (fun w => .str w.nm) (by omega) (fun _ _ => rfl) (fun l v H5 Yes No hl s5 hd yes no => ?_) (fun nl H5 ns hnl s5 e5 a5 => ?_)
 ·obtain ⟨t, zs, rfl, ht, ha⟩ := hd.tupI
  walk_at "ri"
  refine ⟨rfl, ?_⟩
  walk_at "ri"
  cases ha with | cons h1 ha => ?_
  cases h1
  refine s_ixT ht (at_of (j := 0) rfl rfl) ?_
  exact yes rfl _ _ (Same.refl _) (.str _)
 rw [List.filter_eq_self.mpr (fun _ _ => rfl), map_str] at a5
 have e5' := dp_strs a5
 subst e5'
 have s15 := s14.trans s5
 rw [show (P.ws.map fun w => w.nm) = P.wnames from rfl] at e5
 have hkv : strVals P.kinds := fun k v h => by
  unfold valV at h
  obtain ⟨kv, h1, h2⟩ := Option.map_eq_some_iff.mp h
  obtain ⟨l, hl, rfl⟩ := List.mem_map.mp (List.mem_of_find?_eq_some h1)
  exact ⟨l.kd, h2.symm⟩
 walk_at "ri"
 refine ⟨_, rfl, a, xs, rfl, s15.sqT hT, for_it walk_enumT (fun i σ H' => ∃ v5 v6, σ = [some (.ref x), some (.ref a), some (.ref b), some (.ref kd), some (.ref nl), v5, v6, none, none] ∧ Same H5 H') ⟨none, none, rfl, Same.refl _⟩ (fun i σ H' _ ⟨_, _, _, s6⟩ => s6.sqT (s15.sqT hT)) (fun i x' σ H6 H7 hi p y => ?_) (fun σ H6 ⟨v5, v6, hσ, s6⟩ => ?_)⟩
 ·obtain ⟨v5, v6, rfl, s6⟩ := p
  obtain ⟨t, y1, y2, rfl, ht, rfl, h1, h2⟩ := y
  cases h1
  generalize eH : upd H6 t _ = H7
  have s7 := newS ht eH
  have e7 := newE eH
  clear eH
  refine s_gtup (SqT.of e7) rfl ?_
  walk_at "ri"
  have s57 := s6.trans s7
  have s17 := s15.trans s57
  obtain ⟨d, hdi, hdd⟩ := hA.getv h2
  rw [List.getElem?_map] at hdi
  obtain ⟨l, hl, rfl⟩ := Option.map_eq_some_iff.mp hdi
  obtain ⟨c, zs, rfl, hTc, hAc⟩ := (hdd.same s17).tupI
  cases hAc with | cons h1 hAc => ?_
  cases hAc with | cons h2 hAc => ?_
  cases hAc with | cons h3 hAc => ?_
  cases hAc with | cons h4 hAc => ?_
  cases hAc
  refine s_ixT hTc (at_of (j := 3) rfl rfl) ?_
  obtain ⟨st, ss, rfl, hTs, hAs⟩ := h4.tupI
  have hlm := List.mem_of_getElem? hl
  have hst : l.st.length ≤ 8 := by
   have hk := ok.lok l hlm
   simp only [isLine, dLn, isSteps, Bool.and_eq_true, decide_eq_true_eq, List.length_map] at hk
   omega
  refine lcT_d (l := l.st) (da := dSt) hTs hAs (fun _ => true) (fun s => .bool (isStep P.kinds (P.wnames.map V.str) (dSt s))) (by omega) (fun _ _ => rfl) (fun s v H8 Yes No hs s8 hd yes no => ?_) (fun bl H8 bs hbl s8 e8 a8 => ?_)
  ·walk_at "ri"
   refine ⟨rfl, ?_⟩
   walk_at "ri"
   refine ⟨_, _, _, _, _, _, rfl, hd, s8 _ _ (s57 _ _ (s5 _ _ e4)), hkv, SqL.of (s8 _ _ (s57 _ _ e5)), flat_strs, ?_⟩
   exact yes rfl _ _ (Same.refl _) (.bl _)
  rw [List.filter_eq_self.mpr (fun _ _ => rfl), map_bool] at a8
  have e8' := dp_bools a8
  subst e8'
  walk_at "ri"
  refine s_all (SqL.of e8) ?_
  walk_at "ri"
  refine ite_f ?_ ?_
  ·rw [List.all_map]
   exact congrArg Bool.not (List.all_eq_true.mpr fun s hs => ok.sok l hlm s hs)
  walk_at "ri"
  exact ⟨_, _, rfl, s57.trans s8⟩
 subst hσ
 have s16 := s15.trans s6
 walk_at "ri"
 refine s_fldput (s16 _ _ hx) T.cl_Setup T.n_Setup_line_rows (of_decide_eq_true (by kernel_rfl)) ?_
 walk_at "ri"
 refine s_fldput upd_same T.cl_Setup T.n_Setup_work_rows (of_decide_eq_true (by kernel_rfl)) ?_
 generalize eH : upd (upd H6 x _) x _ = H8
 have e8 : H8 x = some (.ins (ga K "Setup") dx (putF "work_rows" (.ref b) (putF "line_rows" (.ref a) []))) := by rw [← eH, upd_same]
 have f8 : Fr [x] H H8 := by
  rw [← eH]
  exact s16.fr.trans ((Fr.upd (by simp) (s16 _ _ hx) rfl).trans (Fr.upd (by simp) upd_same rfl))
 clear eH
 have hrow : ∀ {H9 : Hp}, Fr [x] H H9 → SqT K H9 a xs ∧ DpAll K H9 xs (P.ls.map dLn) ∧ SqT K H9 b ys ∧ DpAll K H9 ys (P.ws.map dWk) := fun f => ⟨f.tk.sqT hT, hA.tk f.tk (tupds_map tupd_dLn _), f.tk.sqT hTb, hAb.tk f.tk (tupds_map tupd_dWk _)⟩
 walk_at "ri"
 refine dcT_d (l := P.ls) (da := dLn) (hrow f8).1 (hrow f8).2.1 (fun l => .inr l.nm) xs hxl.symm hkn (by omega) (fun i l y v H9 Z N hl hi hy hv s9 hd z => ?_) (fun rd H9 hrd s9 e9 => ?_)
 ·obtain ⟨t, zs, rfl, ht, ha⟩ := hd.tupI
  walk_at "ri"
  refine ⟨rfl, ?_⟩
  walk_at "ri"
  cases ha with | cons h1 ha => ?_
  cases h1
  refine s_ixT ht (at_of (j := 0) rfl rfl) ?_
  walk_at "ri"
  rw [hy] at hv
  cases hv
  exact z _ (Same.refl _)
 walk_at "ri"
 refine s_fldput (s9 _ _ e8) T.cl_Setup T.n_Setup_rows_by_name (of_decide_eq_true (by kernel_rfl)) ?_
 generalize eH : upd H9 x _ = H10
 have e10 : H10 x = some (.ins (ga K "Setup") dx (putF "rows_by_name" (.ref rd) (putF "work_rows" (.ref b) (putF "line_rows" (.ref a) [])))) := by rw [← eH, upd_same]
 have f9 : Fr [x] H9 H10 := by rw [← eH]; exact Fr.upd (by simp) (s9 _ _ e8) rfl
 have f10 : Fr [x] H H10 := (f8.trans s9.fr).trans f9
 have hxrd : rd ≠ x := fun z => by rw [z, e8] at hrd; cases hrd
 have d10 : H10 rd = some (.dK ((P.ls.map fun l => (Sum.inr l.nm : Key)).zip xs)) := f9.at e9 (by simp [hxrd])
 clear eH
 have hyl : ys.length = P.ws.length := by rw [hAb.len, List.length_map]
 walk_at "ri"
 refine dcT_d (l := P.ws) (da := dWk) (hrow f10).2.2.1 (hrow f10).2.2.2 (fun l => .inr l.nm) ys hyl.symm hkw (by omega) (fun i l y v H9 Z N hl hi hy hv s9 hd z => ?_) (fun wd H11 hwd s11 e11 => ?_)
 ·obtain ⟨t, zs, rfl, ht, ha⟩ := hd.tupI
  walk_at "ri"
  refine ⟨rfl, ?_⟩
  walk_at "ri"
  cases ha with | cons h1 ha => ?_
  cases h1
  refine s_ixT ht (at_of (j := 0) rfl rfl) ?_
  walk_at "ri"
  rw [hy] at hv
  cases hv
  exact z _ (Same.refl _)
 walk_at "ri"
 refine s_fldput (s11 _ _ e10) T.cl_Setup T.n_Setup_works_by_name (of_decide_eq_true (by kernel_rfl)) ?_
 generalize eH : upd H11 x _ = H12
 have f12 : Fr [x] H11 H12 := by rw [← eH]; exact Fr.upd (by simp) (s11 _ _ e10) rfl
 have e12 : H12 x = some (.ins (ga K "Setup") dx (planF a b rd wd)) := by
  rw [← eH, upd_same]
  kernel_rfl
 clear eH
 have f := (f10.trans s11.fr).trans f12
 have hxwd : wd ≠ x := fun z => by rw [z, e10] at hwd; cases hwd
 have new : ∀ {a : Addr} {H9 : Hp}, Fr [x] H H9 → a ≠ x → H9 a = none → H a = none := fun {a H9} f n h => by
  cases e : H a with
  | none => rfl
  | some o => rw [f.at e (by simp [n])] at h; cases h
 refine q H12 rd wd (new f8 hxrd hrd) (new f10 hxwd hwd) (fun z => by rw [← z, d10] at hwd; cases hwd) f ⟨ok, ⟨dx, a, b, e12, hda.tk f.tk (tupds_map tupd_dLn _), hdb.tk f.tk (tupds_map tupd_dWk _)⟩, dictOf_zip (nm := Ln.nm) (f12.at (s11 _ _ d10) (by simp [hxrd])) ok.lnd (hrow f).2.1, dictOf_zip (nm := Wk.nm) (f12.at e11 (by simp [hxwd])) ok.wnd (hrow f).2.2.2⟩
end
end T
set_option maxHeartbeats 1000000
namespace T
open PySem PySem.Spec PyProof.Rows L2 Z
open He (ga ma)
local macro_rules | `(tactic| walk_at "z") => `(tactic| with_reducible first | refine ⟨_, _, rfl, rfl, ?_⟩ | refine ⟨_, rfl, ?_⟩)
local macro_rules | `(tactic| walk_at "z") => `(tactic| ((with_reducible refine s_isi (d := ?d1) ?h1 ?h2 ?q1); (case h1 => first | assumption | constructor); (case h2 => decide)))
local macro_rules | `(tactic| walk_at "z") => `(tactic| with_reducible first | refine s_tup ?_ | refine s_lst ?_)
local macro_rules | `(tactic| walk_at "z") => `(tactic| ((with_reducible refine s_ne ?h1 ?q1); (case h1 => exact rfl)))
local macro_rules | `(tactic| walk_at "z") => `(tactic| ((with_reducible refine s_eq ?h1 ?q1); (case h1 => exact rfl)))
local macro_rules | `(tactic| walk_at "z") => `(tactic| with_reducible first | refine s_dcT ?_ | refine s_cvalg ?_ | refine s_fldS ?_ | refine s_I0 ?_ | refine s_U ?_)
local macro_rules | `(tactic| walk_at "z") => `(tactic| with_reducible first | refine s_make ?_ | refine s_sl ?_ | refine s_nop ?_ | refine s_part ?_ | refine s_lcE ?_ | refine s_lc ?_)
local macro_rules | `(tactic| walk_at "z") => `(tactic| with_reducible first | refine s_for ?_ | refine s_rng1 ?_ | refine s_iT ?_ | refine s_iL ?_ | refine Or.inl (Exists.intro _ (And.intro rfl ?_)) | refine Or.inr (Exists.intro _ (And.intro rfl ?_)))
local macro_rules | `(tactic| walk_at "z") => `(tactic| with_reducible first | refine s_fldaug ?_ | refine s_add ?_ | refine s_ipI ?_ | refine s_ixO ?_ | refine s_lcL ?_ | refine s_dputg ?_)
local macro_rules | `(tactic| walk_at "z") => `(tactic| with_reducible first | refine s_daugg ?_ | refine s_disp ?_ | refine s_pcons ?_ | refine s_pnil ?_ | refine s_gsub ?_ | refine s_augS ?_)
local macro_rules | `(tactic| walk_at "z") => `(tactic| with_reducible first | refine s_bm ?_ | refine s_bm0 ?_ | refine s_fldg ?_ | refine s_meth ?_ | refine s_prop ?_ | refine s_lcT ?_)
local macro_rules | `(tactic| walk_at "z") => `(tactic| with_reducible first | refine s_yes ?_ | refine s_gcons ?_ | refine s_gnil ?_ | refine s_din ?_ | refine s_dnin ?_ | refine s_dget ?_)
local macro_rules | `(tactic| walk_at "z") => `(tactic| with_reducible first | refine s_orV ?_ | refine s_notV ?_ | refine s_if ?_ | refine s_chain ?_ | refine s_call ?_ | refine s_bl ?_)
local macro_rules | `(tactic| walk_at "z") => `(tactic| with_reducible first | refine s_test ?_ | refine s_B ?_ | refine s_and ?_ | refine s_or ?_ | refine s_not ?_ | refine s_andV ?_)
local macro_rules | `(tactic| walk_at "z") => `(tactic| with_reducible first | refine s_op ?_ | refine s_un ?_ | refine s_cb ?_ | refine s_cons ?_ | refine s_nil ?_ | refine s_star ?_)
local macro_rules | `(tactic| walk_at "z") => `(tactic| ((with_reducible refine s_var (v := ?v1) ?h1 ?q1); (case h1 => exact rfl)))
local macro_rules | `(tactic| walk_at "z") => `(tactic| with_reducible refine s_c ?_)
local macro_rules | `(tactic| walk_at "z") => `(tactic| with_reducible first | refine s_drop ?_ | refine s_next ?_ | refine s_cont ?_ | refine s_break ?_ | refine s_par ?_ | refine s_par2 ?_)
local macro_rules | `(tactic| walk_at "z") => `(tactic| with_reducible first | refine s_seq ?_ | refine s_asg ?_ | refine s_gname ?_ | refine s_ret ?_ | refine s_retN ?_ | refine s_ifS ?_)
local macro_rules | `(tactic| walk_at "zi") => `(tactic| ((with_reducible refine ite_t ?h1 ?q1); (case h1 => rfl)))
local macro_rules | `(tactic| walk_at "zi") => `(tactic| ((with_reducible refine ite_f ?h1 ?q1); (case h1 => rfl)))
local macro_rules | `(tactic| walk_at "zi") => `(tactic| walk_at "z")
local macro_rules | `(tactic| walk_at "zn") => `(tactic| (intro p hp; generalize eH : upd _ p _ = H2; have s2 := newS hp eH; have e2 := newE eH; clear eH))
local macro_rules | `(tactic| walk_at "zt") => `(tactic| ((with_reducible refine And.intro ?h1 ?_); (case h1 => exact Nat.le_of_ble_eq_true rfl); intro p hp; generalize eH : upd _ p _ = H2; have s2 := newS hp eH; have e2 := newE eH; clear eH))
local macro_rules | `(tactic| walk_at "hl") => `(tactic| ((with_reducible apply ev_same); (· assumption); · walk_at "hl"))
local macro_rules | `(tactic| walk_at "hl") => `(tactic| ((with_reducible apply mst_same); (· assumption); · walk_at "hl"))
local macro_rules | `(tactic| walk_at "hl") => `(tactic| ((with_reducible apply plm_same); (· assumption); · walk_at "hl"))
local macro_rules | `(tactic| walk_at "hl") => `(tactic| ((with_reducible apply md_same); (· assumption); · walk_at "hl"))
local macro_rules | `(tactic| walk_at "hl") => `(tactic| ((with_reducible apply row_same); (· assumption); · walk_at "hl"))
local macro_rules | `(tactic| walk_at "hl") => `(tactic| ((with_reducible apply sg_same); (· assumption); · walk_at "hl"))
local macro_rules | `(tactic| walk_at "hl") => `(tactic| ((with_reducible apply cst_same); (· assumption); · walk_at "hl"))
local macro_rules | `(tactic| walk_at "hl") => `(tactic| ((with_reducible apply co_same); (· assumption); · walk_at "hl"))
local macro_rules | `(tactic| walk_at "hl") => `(tactic| ((with_reducible apply bd_same); (· assumption); · walk_at "hl"))
local macro_rules | `(tactic| walk_at "hl") => `(tactic| ((with_reducible apply pl_same); (· assumption); · walk_at "hl"))
local macro_rules | `(tactic| walk_at "hl") => `(tactic| ((with_reducible apply dpA_same); (· assumption); · walk_at "hl"))
local macro_rules | `(tactic| walk_at "hl") => `(tactic| ((with_reducible apply dp_same); (· assumption); · walk_at "hl"))
local macro_rules | `(tactic| walk_at "hl") => `(tactic| ((with_reducible apply SqL.of); · walk_at "hl"))
local macro_rules | `(tactic| walk_at "hl") => `(tactic| ((with_reducible apply SqT.of); · walk_at "hl"))
local macro_rules | `(tactic| walk_at "hl") => `(tactic| ((with_reducible apply sqL_same); (· assumption); · walk_at "hl"))
local macro_rules | `(tactic| walk_at "hl") => `(tactic| ((with_reducible apply sqT_same); (· assumption); · walk_at "hl"))
local macro_rules | `(tactic| walk_at "hl") => `(tactic| ((with_reducible apply at_same); (· assumption); · walk_at "hl"))
local macro_rules | `(tactic| walk_at "hl") => `(tactic| assumption)
local macro_rules | `(tactic| walk_at "lk") => `(tactic| with_reducible first | exact bdF_jo | exact sgF_plan | exact sgF_board | exact sgF_core | exact sgF_time | exact sgF_sums | exact coF_plan | exact coF_fr | exact coF_lim | exact coF_jo)
local macro_rules | `(tactic| walk_at "lk") => `(tactic| with_reducible first | exact plF_lr | exact plF_wr | exact plF_rn | exact plF_wn | exact bdF_plan | exact bdF_sh | exact bdF_wa | exact bdF_hi | exact bdF_ta | exact bdF_ra)
local macro_rules | `(tactic| walk_at "mk") => `(tactic| with_reducible first | exact mk_jn | exact mk_ln | exact mk_wk)
local macro_rules | `(tactic| walk_at "mk") => `(tactic| with_reducible first | exact mk_ca | exact mk_ed | exact mk_hi | exact mk_up | exact mk_sh | exact mk_bar | exact mk_jo | exact mk_now | exact mk_lg | exact mk_sp)
local macro_rules | `(tactic| walk_at "cl") => `(tactic| with_reducible first | exact Txt.cl_Setup (by assumption) | exact Txt.cl_RowReader (by assumption))
local macro_rules | `(tactic| walk_at "na") => `(tactic| with_reducible first | exact Txt.n_Setup_line_rows (by assumption) | exact Txt.n_Setup_work_rows (by assumption) | exact Txt.n_Setup_rows_by_name (by assumption) | exact Txt.n_Setup_works_by_name (by assumption) | exact Txt.n_RowReader_parts (by assumption) | exact Txt.n_RowReader_number (by assumption) | exact Txt.n_RowReader_spot (by assumption))
local macro_rules | `(tactic| walk_at "zz") => `(tactic| walk_at "zt")
local macro_rules | `(tactic| walk_at "zz") => `(tactic| ((with_reducible apply s_dgS); (· walk_at "hl"); (· walk_at "mk")))
local macro_rules | `(tactic| walk_at "zz") => `(tactic| ((with_reducible apply s_ixL); (· walk_at "hl"); (· with_reducible first | exact at0 | exact at1 | exact at2 | exact at3 | exact at4)))
local macro_rules | `(tactic| walk_at "zz") => `(tactic| ((with_reducible apply s_ixT); (· walk_at "hl"); (· with_reducible first | exact at0 | exact at1 | exact at2 | exact at3 | exact at4)))
local macro_rules | `(tactic| walk_at "zz") => `(tactic| ((with_reducible apply s_propat); (· walk_at "hl")))
local macro_rules | `(tactic| walk_at "zz") => `(tactic| ((with_reducible apply s_methat); (· walk_at "hl"); (· kernel_rfl)))
local macro_rules | `(tactic| walk_at "zz") => `(tactic| ((with_reducible apply s_fldat); (· walk_at "hl"); (· walk_at "cl"); (· walk_at "na"); (· walk_at "lk")))
local macro_rules | `(tactic| walk_at "zz") => `(tactic| walk_at "zi")
local macro_rules | `(tactic| walk_at "orz") => `(tactic| walk_at "zt")
local macro_rules | `(tactic| walk_at "orz") => `(tactic| ((with_reducible apply s_dgS); (· walk_at "hl"); (· walk_at "mk")))
local macro_rules | `(tactic| walk_at "orz") => `(tactic| ((with_reducible apply s_ixL); (· walk_at "hl"); (· with_reducible first | exact at0 | exact at1 | exact at2 | exact at3 | exact at4)))
local macro_rules | `(tactic| walk_at "orz") => `(tactic| ((with_reducible apply s_ixT); (· walk_at "hl"); (· with_reducible first | exact at0 | exact at1 | exact at2 | exact at3 | exact at4)))
local macro_rules | `(tactic| walk_at "orz") => `(tactic| ((with_reducible apply s_propat); (· walk_at "hl")))
local macro_rules | `(tactic| walk_at "orz") => `(tactic| ((with_reducible apply s_methat); (· walk_at "hl"); (· kernel_rfl)))
local macro_rules | `(tactic| walk_at "orz") => `(tactic| ((with_reducible apply s_fldat); (· walk_at "hl"); (· walk_at "cl"); (· walk_at "na"); (· walk_at "lk")))
local macro_rules | `(tactic| walk_at "orz") => `(tactic| ((with_reducible apply ite_t); (· rfl)))
local macro_rules | `(tactic| walk_at "orz") => `(tactic| ((with_reducible apply ite_f); (· rfl)))
local macro_rules | `(tactic| walk_at "orz") => `(tactic| with_reducible first | refine ⟨_, _, rfl, rfl, ?_⟩ | refine ⟨_, rfl, ?_⟩)
local macro_rules | `(tactic| walk_at "orz") => `(tactic| ((with_reducible apply s_isi); (· assumption); (· decide)))
local macro_rules | `(tactic| walk_at "orz") => `(tactic| with_reducible first | refine s_tup ?_ | refine s_lst ?_)
local macro_rules | `(tactic| walk_at "orz") => `(tactic| ((with_reducible apply s_ne); (· exact rfl)))
local macro_rules | `(tactic| walk_at "orz") => `(tactic| ((with_reducible apply s_eq); (· exact rfl)))
local macro_rules | `(tactic| walk_at "orz") => `(tactic| with_reducible first | refine s_lcE ?_ | refine s_lc ?_ | refine s_dcT ?_ | refine s_cvalg ?_ | refine s_I0 ?_ | refine s_U ?_)
local macro_rules | `(tactic| walk_at "orz") => `(tactic| with_reducible first | refine Or.inl (Exists.intro _ (And.intro rfl ?_)) | refine Or.inr (Exists.intro _ (And.intro rfl ?_)) | refine s_make ?_ | refine s_sl ?_ | refine s_nop ?_ | refine s_part ?_)
local macro_rules | `(tactic| walk_at "orz") => `(tactic| with_reducible first | refine s_lcL ?_ | refine s_dputg ?_ | refine s_for ?_ | refine s_rng1 ?_ | refine s_iT ?_ | refine s_iL ?_)
local macro_rules | `(tactic| walk_at "orz") => `(tactic| with_reducible first | refine s_daugg ?_ | refine s_disp ?_ | refine s_gsub ?_ | refine s_fldaug ?_ | refine s_ipI ?_ | refine s_ixO ?_)
local macro_rules | `(tactic| walk_at "orz") => `(tactic| with_reducible first | refine s_chain ?_ | refine s_yes ?_ | refine s_din ?_ | refine s_dnin ?_ | refine s_bm0 ?_ | refine s_lcT ?_)
local macro_rules | `(tactic| walk_at "orz") => `(tactic| with_reducible first | refine s_un ?_ | refine s_star ?_ | refine s_and ?_ | refine s_or ?_ | refine s_orV ?_ | refine s_notV ?_)
local macro_rules | `(tactic| walk_at "orz") => `(tactic| with_reducible first | refine s_augS ?_ | refine s_retN ?_ | refine s_cont ?_ | refine s_break ?_ | refine s_par ?_ | refine s_par2 ?_)
local macro_rules | `(tactic| walk_at "orz") => `(tactic| with_reducible first | refine s_andV ?_ | refine s_add ?_ | refine s_prop ?_ | refine s_pnil ?_ | refine s_cb ?_ | refine s_not ?_)
local macro_rules | `(tactic| walk_at "orz") => `(tactic| with_reducible first | refine s_call ?_ | refine s_pcons ?_ | refine s_bm ?_ | refine s_if ?_ | refine s_gcons ?_ | refine s_gnil ?_)
local macro_rules | `(tactic| walk_at "orz") => `(tactic| with_reducible first | refine s_next ?_ | refine s_gname ?_ | refine s_drop ?_ | refine s_meth ?_ | refine s_fldS ?_ | refine s_asg ?_)
local macro_rules | `(tactic| walk_at "orz") => `(tactic| with_reducible first | refine s_fldg ?_ | refine s_ifS ?_ | refine s_dget ?_ | refine s_ret ?_ | refine s_B ?_ | refine s_test ?_)
local macro_rules | `(tactic| walk_at "orz") => `(tactic| with_reducible first | refine s_cons ?_ | refine s_c ?_ | refine s_nil ?_ | refine s_seq ?_ | refine s_op ?_ | refine s_bl ?_)
local macro_rules | `(tactic| walk_at "orz") => `(tactic| ((with_reducible apply s_var); (· exact rfl)))
local macro_rules | `(tactic| walk_at "rz") => `(tactic| repeat walk_at "orz")
local macro_rules | `(tactic| walk_at "zm") => `(tactic| (intro x dx hx hdx hne; generalize eH : upd (upd _ dx _) x _ = H2; have s2 := mkS hx hdx eH; have e2 := mkE eH; clear eH hdx hne))
local macro_rules | `(tactic| walk_at "zb") => `(tactic| with_reducible first | refine s_gcons ?_ | refine s_gnil ?_ | refine s_gname ?_ | refine s_seq ?_ | refine s_ifS ?_ | refine s_if ?_ | refine s_next ?_ | refine s_drop ?_ | refine s_ret ?_ | refine s_asg ?_)
def spTaken (K : Fg) : Sp := fun vs H Q _ => ∃ r sc ns many, vs = [.ref r, .int many] ∧ RowAt K H r sc ns ∧ 0 < many ∧ many < 1000000 ∧ ∀ n H', 0 ≤ n → n < many → Fr [r] H H' → RowAt K H' r sc ns → Q (.int n) H'
section
variable {P : Program} {w : World} {K : Fg} {mg : Str → Option Value} {base : Heap}
theorem ok_w_taken (T : Txt K mg) : FnOk P w K mg base (L2.CX P w) 1 (ga K "_law_taken") (fdOf K (ga K "_law_taken")) ["_law_row", "_law_many"] (spTaken K) := by
 refine FunD.ok T.F_w_taken sc_w_taken (fun vs H Q E h => ?_) (fun cdv A outer s H vs Q E hr h => ⟨_, PSs.nox (pss_cons (ps_if (pt_cmpR op_gt (pe_ix (ix_listK K) (pv 0) pe_int (fun _ _ => rfl)) pe_int (nomark _)) (pss_cons (zset 2 sc_w_taken.nd (pe_op op_mod (pe_callTy call_int1 (by rfl) T.u_int (by decide +kernel) (pa_cons (pe_ix (ix_listK K) (pv 0) pe_int (fun _ _ => rfl)) pa_nil)) (pv 1)))
   (pss_cons (ps_asg (pe_op op_fdiv (pe_ix (ix_listK K) (pv 0) pe_int (fun _ _ => rfl)) (pv 1)) (pg_sub (pv 0) pe_int set_list))
   (pss_one (ps_ret (pv 2))))) pss_nil)
   (pss_cons (ps_asg (pe_op op_add (pe_ix (ix_listK K) (pv 0) pe_int (fun _ _ => rfl)) pe_int) (pg_sub (pv 0) pe_int set_list))
   (pss_cons (ps_if (pt_cmpR op_gt (pe_ix (ix_listK K) (pv 0) pe_int (fun _ _ => rfl)) (pe_callB (call_lenK K) (by rfl) T.u_len (by decide +kernel) (pa_cons (pe_ix (ix_listK K) (pv 0) pe_int (fun _ _ => rfl)) pa_nil)) (nomark _)) (pss_cons (ps_asg (pe_op op_mod (pe_callTy call_int1 (by rfl) T.u_int (by decide +kernel) (pa_cons (pe_op op_add (pe_op op_mul (pe_ix (ix_listK K) (pv 0) pe_int (fun _ _ => rfl)) pe_int) pe_int) pa_nil)) pe_int) (pg_sub (pv 0) pe_int set_list))
   (pss_one (ps_ret (pe_op op_mod (pe_callTy call_int1 (by rfl) T.u_int (by decide +kernel) (pa_cons (pe_op op_fdiv (pe_ix (ix_listK K) (pv 0) pe_int (fun _ _ => rfl)) pe_int) pa_nil)) (pv 1))))) pss_nil)
   (pss_cons (zset 3 sc_w_taken.nd (pe_ix (ix_listK K) (pe_ix (ix_listK K) (pv 0) pe_int (fun _ _ => rfl)) (pe_op op_sub (pe_ix (ix_listK K) (pv 0) pe_int (fun _ _ => rfl)) pe_int) (fun _ _ => rfl)))
   (pss_cons (ps_asg (pe_op op_mod (pe_callTy call_int1 (by rfl) T.u_int (by decide +kernel) (pa_cons (pe_op op_add (pe_op op_add (pe_op op_mul (pe_ix (ix_listK K) (pv 0) pe_int (fun _ _ => rfl)) pe_int) (pv 3)) pe_int) pa_nil)) pe_int) (pg_sub (pv 0) pe_int set_list))
   (pss_cons (ps_if (pt_cmpR op_ge (pv 3) (pe_op op_pow pe_int pe_int) (nomark _)) (pss_one (ps_asg (pe_op op_fdiv (pv 3) (pv 1)) (pg_sub (pv 0) pe_int set_list))) pss_nil)
   (pss_one (ps_ret (pe_op op_mod (pe_callTy call_int1 (by rfl) T.u_int (by decide +kernel) (pa_cons (pv 3) pa_nil)) (pv 1)))))))))), ?_⟩)
 ·obtain ⟨r, sc, ns, many, rfl, _⟩ := h
  rfl
 obtain ⟨r, sc, ns, many, rfl, hrow, hm0, hm1, q⟩ := h
 show (_ : TS) _ [some (.ref r), some (.int many), none, none] H
 try dsimp only [cxOf]
 obtain ⟨i, seed, rest, er, hi, hs0, hs1⟩ := hrow.row
 have hL : SqL K H r [.ref sc, .int i, .int seed, .int rest] := SqL.of er
 have hsc := hrow.scr
 have hne := hrow.ne
 walk_at "rz"
 refine ite_b (fun h => ?_) (fun h => ?_)
 ·walk_at "rz"
  refine s_I hm0 ?_
  walk_at "rz"
  refine s_I ⟨hm0, by omega⟩ ?_
  walk_at "rz"
  refine s_setL er (j := 3) rfl ?_
  walk_at "rz"
  refine q _ _ (Int.emod_nonneg _ (by omega)) (Int.emod_lt_of_pos _ hm0) (Fr.upd (by simp) er rfl) ⟨⟨i, seed, rest / many, upd_same, hi, hs0, hs1⟩, (Fr.upd (A := [r]) (by simp) er rfl).scr hsc hne, hne⟩
 ·have f1 : ∀ o, Fr [r] H (upd H r o) := fun o => Fr.upd (by simp) er rfl
  walk_at "rz"
  refine s_setL er (j := 1) rfl ?_
  show (_ : L2.St → Hp → Prop) _ (upd H r (.lst [.ref sc, .int (i + 1), .int seed, .int rest]))
  have f1 : Fr [r] H (upd H r (.lst [.ref sc, .int (i + 1), .int seed, .int rest])) := Fr.upd (by simp) er rfl
  have er1 : upd H r (.lst [.ref sc, .int (i + 1), .int seed, .int rest]) r = some (.lst [.ref sc, .int (i + 1), .int seed, .int rest]) := upd_same
  generalize upd H r (.lst [.ref sc, .int (i + 1), .int seed, .int rest]) = H1 at *
  have hL1 : SqL K H1 r [.ref sc, .int (i + 1), .int seed, .int rest] := SqL.of er1
  have hsc1 := f1.scr hsc hne
  walk_at "rz"
  refine s_lenL hsc1 ?_
  rw [List.length_map]
  walk_at "rz"
  refine ite_b (fun h => ?_) (fun h => ?_)
  ·walk_at "rz"
   refine s_I (.inl ⟨by omega, by omega⟩) ?_
   walk_at "rz"
   refine s_I (by decide) ?_
   walk_at "rz"
   refine s_setL er1 (j := 2) rfl ?_
   show (_ : L2.St → Hp → Prop) _ (upd H1 r (.lst [.ref sc, .int (i + 1), .int ((seed * 48271 + 11) % 2147483647), .int rest]))
   have f2 : Fr [r] H1 (upd H1 r (.lst [.ref sc, .int (i + 1), .int ((seed * 48271 + 11) % 2147483647), .int rest])) := Fr.upd (by simp) er1 rfl
   have er2 : upd H1 r (.lst [.ref sc, .int (i + 1), .int ((seed * 48271 + 11) % 2147483647), .int rest]) r = some (.lst [.ref sc, .int (i + 1), .int ((seed * 48271 + 11) % 2147483647), .int rest]) := upd_same
   generalize upd H1 r (.lst [.ref sc, .int (i + 1), .int ((seed * 48271 + 11) % 2147483647), .int rest]) = H2 at *
   have hL2 : SqL K H2 r [.ref sc, .int (i + 1), .int ((seed * 48271 + 11) % 2147483647), .int rest] := SqL.of er2
   walk_at "rz"
   refine s_I ⟨by decide, by decide⟩ ?_
   walk_at "rz"
   refine s_I hm0 ?_
   exact q _ _ (Int.emod_nonneg _ (by omega)) (Int.emod_lt_of_pos _ hm0) (f1.trans f2) ⟨⟨_, _, _, er2, by omega, Int.emod_nonneg _ (by omega), Int.emod_lt_of_pos _ (by omega)⟩, f2.scr hsc1 hne, hne⟩
  ·have hlt : i.toNat < ns.length := by
    have := of_decide_eq_false h
    omega
   obtain ⟨cell, hcell⟩ : ∃ c, ns[i.toNat]? = some c := ⟨_, List.getElem?_eq_getElem hlt⟩
   walk_at "rz"
   refine s_ixL hsc1 (v := .int cell) (at_of (j := i.toNat) (by omega) (by rw [List.getElem?_map, hcell]; rfl)) ?_
   walk_at "rz"
   refine s_I (.inl ⟨by omega, by omega⟩) ?_
   walk_at "rz"
   refine s_I (by decide) ?_
   walk_at "rz"
   refine s_setL er1 (j := 2) rfl ?_
   show (_ : L2.St → Hp → Prop) _ (upd H1 r (.lst [.ref sc, .int (i + 1), .int ((seed * 48271 + cell + 11) % 2147483647), .int rest]))
   have f2 : Fr [r] H1 (upd H1 r (.lst [.ref sc, .int (i + 1), .int ((seed * 48271 + cell + 11) % 2147483647), .int rest])) := Fr.upd (by simp) er1 rfl
   have er2 : upd H1 r (.lst [.ref sc, .int (i + 1), .int ((seed * 48271 + cell + 11) % 2147483647), .int rest]) r = some (.lst [.ref sc, .int (i + 1), .int ((seed * 48271 + cell + 11) % 2147483647), .int rest]) := upd_same
   generalize upd H1 r (.lst [.ref sc, .int (i + 1), .int ((seed * 48271 + cell + 11) % 2147483647), .int rest]) = H2 at *
   have f12 := f1.trans f2
   have hsc2 := f2.scr hsc1 hne
   have fin : ∀ (H3 : Hp) (x y z : Int), Fr [r] H H3 → SqL K H3 sc (ns.map V.int) → H3 r = some (.lst [.ref sc, .int x, .int y, .int z]) → 0 ≤ x → 0 ≤ y → y < 2147483647 → Q (.int (cell % many)) H3 := fun H3 x y z f hs he h1 h2 h3 =>
    q _ _ (Int.emod_nonneg _ (by omega)) (Int.emod_lt_of_pos _ hm0) f ⟨⟨_, _, _, he, h1, h2, h3⟩, hs, hne⟩
   walk_at "rz"
   refine s_I ⟨by decide, by decide, by decide⟩ ?_
   walk_at "rz"
   refine ite_b (fun h => ?_) (fun h => ?_)
   ·walk_at "rz"
    refine s_I ⟨hm0, by omega⟩ ?_
    walk_at "rz"
    refine s_setL er2 (j := 3) rfl ?_
    walk_at "rz"
    refine s_I hm0 ?_
    have f3 : ∀ o, Fr [r] H2 (upd H2 r o) := fun o => Fr.upd (by simp) er2 rfl
    exact fin _ (i + 1) ((seed * 48271 + cell + 11) % 2147483647) (cell / many) (f12.trans (f3 _)) ((f3 _).scr hsc2 hne) upd_same (by omega) (Int.emod_nonneg _ (by omega)) (Int.emod_lt_of_pos _ (by omega))
   ·walk_at "rz"
    refine s_I hm0 ?_
    exact fin H2 _ _ _ f12 hsc2 er2 (by omega) (Int.emod_nonneg _ (by omega)) (Int.emod_lt_of_pos _ (by omega))
end
set_option maxHeartbeats 4000000
open PySem PySem.Spec PyProof.Rows L2 Z
open He (ga ma)
def spMixed (K : Fg) : Sp := fun vs H Q _ => ∃ r sc ns a, ∃ xs : List V, vs = [.ref r, .ref a] ∧ RowAt K H r sc ns ∧ (SqL K H a xs ∨ SqT K H a xs) ∧ xs.length ≤ 100 ∧ ∀ H' p ys, Fr [r] H H' → RowAt K H' r sc ns → H p = none → H' p = some (.lst ys) → ys.Perm xs → Q (.ref p) H'
section
variable {P : Program} {w : World} {K : Fg} {mg : Str → Option Value} {base : Heap}
theorem ok_w_mixed (T : Txt K mg) : FnOk P w K mg base (L2.CX P w) 4 (ga K "_law_mixed") (fdOf K (ga K "_law_mixed")) ["_law_row", "_law_things"] (spMixed K) := by
 refine FunD.ok T.F_w_mixed sc_w_mixed (fun vs H Q E h => ?_) (fun cdv A outer s H vs Q E hr h => ⟨_, PSs.nox (pss_cons (ps_par (by rfl) sc_w_mixed.nd (i := 2) (j := 3) rfl rfl (by decide) rfl rfl (pa_cons (pe_callTy call_list_of (by rfl) T.u_list (by decide +kernel) (pa_cons (pv 1) pa_nil)) (pa_cons (pe_lst pa_nil) pa_nil)) (by rfl))
   (pss_cons (ps_while PassesOwn.never (pt_cmpR (op_ne0K K hr.units) (pv 2) (pe_lst pa_nil) (nomark _))
   (pss_one (ps_expr (kBM K (pe_bm PySem.F.plainAttrs_list PySem.F.slot_list_append PySem.F.type_list_append mt_append (pv 3) (pa_cons (kBM K (pe_bm PySem.F.plainAttrs_list PySem.F.slot_list_pop PySem.F.type_list_pop mt_popAt (pv 2) (pa_cons (z_call (ok_w_taken T) T.c_w_taken (hr.mono (by decide)) rfl T.g_w_taken passL (pa_cons (pv 0) (pa_cons (pe_callB (call_lenK K) (by rfl) T.u_len (by decide +kernel) (pa_cons (pv 2) pa_nil)) pa_nil))) pa_nil))) pa_nil))))))
   (pss_one (ps_ret (pv 3))))), ?_⟩)
 ·obtain ⟨r, sc, ns, a, xs, rfl, _⟩ := h
  rfl
 obtain ⟨r, sc, ns, a, xs, rfl, hrow, ha, l100, q⟩ := h
 show (_ : TS) _ [some (.ref r), some (.ref a), none, none] H
 try dsimp only [cxOf]
 walk_at "rz"
 refine ⟨a, xs, rfl, ha, fun l hl => ?_⟩
 generalize eH : upd H l _ = H1
 have s1 := newS hl eH
 have e1 := newE eH
 clear eH
 walk_at "rz"
 rename_i f hf H2 s2 e2
 have row2 := (hrow.same s1).same s2
 have hlr : l ≠ r := fun e => hrow.ex (by rw [← e]; exact hl)
 have hfr : f ≠ r := fun e => hrow.ex (by rw [← e]; exact s1.fr.back (A := []) hf)
 have hfl : f ≠ l := fun e => by rw [e, e1] at hf; cases hf
 have hf0 : H f = none := s1.fr.back (A := []) hf
 refine while_e (fun σ H3 => ∃ ys, σ = [some (.ref r), some (.ref a), some (.ref l), some (.ref f)] ∧ Fr [r] H H3 ∧ RowAt K H3 r sc ns ∧ H3 f = some (.lst ys) ∧ ys.Perm xs) ?rest (fun hx => ?loop)
 case rest =>
  rintro σ H3 ⟨ys, rfl, f3, row3, e3, p3⟩
  walk_at "rz"
  exact q _ _ _ f3 row3 hf0 e3 p3
 refine ⟨fun m σ H3 => ∃ zs ys, σ = [some (.ref r), some (.ref a), some (.ref l), some (.ref f)] ∧ Fr [r] H H3 ∧ RowAt K H3 r sc ns ∧ H3 l = some (.lst zs) ∧ H3 f = some (.lst ys) ∧ (ys ++ zs).Perm xs ∧ m = zs.length,
  ⟨_, xs, [], rfl, s1.fr.trans s2.fr, row2, s2 _ _ e1, e2, .refl _, rfl⟩, ?_⟩
 rintro m σ H3 ⟨zs, ys, rfl, f3, row3, el, ef, pm, rfl⟩
 have plen := pm.length_eq
 rw [List.length_append] at plen
 walk_at "rz"
 rename_i p4 hp4 H4 s4 e4
 refine s_eq0L (SqL.of (s4 _ _ el)) (SqL.of e4) ?_
 have row4 := row3.same s4
 have f4 : Fr [r] H H4 := f3.trans s4.fr
 have el4 := s4 _ _ el
 have ef4 := s4 _ _ ef
 clear e4
 cases zs with
 | nil =>
  refine ⟨false, rfl, ?_⟩
  rw [if_neg (by simp)]
  rw [List.append_nil] at pm
  exact hx _ _ ⟨ys, rfl, f4, row4, ef4, pm⟩
 | cons z zs =>
  refine ⟨true, rfl, ?_⟩
  rw [if_pos rfl]
  refine ⟨_, fun σ' H' n => n, ?_⟩
  walk_at "rz"
  refine s_tyL ef4 ?_
  walk_at "rz"
  refine s_tyL el4 ?_
  walk_at "rz"
  refine s_lenL (SqL.of el4) ?_
  walk_at "rz"
  refine ⟨r, sc, ns, _, rfl, row4, by simp only [List.length_cons]; omega, by simp only [List.length_cons] at plen ⊢; omega, fun n H5 n0 n1 f5 row5 => ?_⟩
  have el5 := f5.at el4 (by simp [hlr])
  have ef5 := f5.at ef4 (by simp [hfr])
  obtain ⟨k, rfl⟩ := Int.eq_ofNat_of_zero_le n0
  have hk : k < (z :: zs).length := by omega
  obtain ⟨j, h1, h2, h3⟩ := atI_get (atI_nat (xs := z :: zs) (List.getElem?_eq_getElem hk))
  walk_at "rz"
  refine ⟨l, z :: zs, k, j, _, rfl, rfl, el5, by omega, by simp only [List.length_cons] at plen hk; omega, h1, h2, ?_⟩
  generalize (z :: zs)[k] = y at h2
  generalize eH : upd H5 l _ = H6
  have f6 : Fr [l] H5 H6 := by rw [← eH]; exact Fr.upd (by simp) el5 rfl
  have el6 := newE eH
  clear eH
  have ef6 := f6.at ef5 (by simp [hfl])
  walk_at "rz"
  refine s_append ef6 (by rw [sizeLine_eq]; omega) ?_
  generalize eH : upd H6 f _ = H7
  have f7 : Fr [f] H6 H7 := by rw [← eH]; exact Fr.upd (by simp) ef6 rfl
  have ef7 := newE eH
  clear eH
  have el7 := f7.at el6 (by simp [Ne.symm hfl])
  walk_at "rz"
  refine ⟨_, ?_, (z :: zs).eraseIdx j, ys ++ [y], rfl, ((f4.trans f5).seq f6 (by simp [hl])).seq f7 (by simp [hf0]), hrow.kept (hrow.kept row5 f6 (by simp [hl])) f7 (by simp [hf0]), el7, ef7, ?_, rfl⟩
  ·rw [List.length_eraseIdx_of_lt h3.1]
   omega
  ·refine List.Perm.trans ?_ pm
   rw [List.append_assoc]
   refine List.Perm.append_left ys ?_
   exact perm_erase h2
end
set_option maxHeartbeats 4000000
open PySem PySem.Spec PyProof.Rows L2 Z
open He (ga ma)
def spMStep (K : Fg) : Sp := fun vs H Q _ => ∃ r sc ns nl ll wl, ∃ names levels works : List Str, ∃ nk : NK, vs = [.ref r, .ref nl, .ref ll, .ref wl] ∧ RowAt K H r sc ns ∧ H nl = some (.lst (names.map V.str)) ∧ H ll = some (.lst (levels.map V.str)) ∧ H wl = some (.lst (works.map V.str)) ∧ nl ≠ r ∧ ll ≠ r ∧ wl ≠ r ∧ names ≠ [] ∧ names.length ≤ 12 ∧ levels.length ≤ 12 ∧ works.length ≤ 12 ∧ (∀ z ∈ names, z ∈ nk.map (·.1)) ∧ (∀ z ∈ levels, (z, ("level" : Str)) ∈ nk) ∧ ∀ t s H', Fr [r] H H' → RowAt K H' r sc ns → FitSt nk works s → Dp K H' (.ref t) (dSt s) → Q (.ref t) H'
section
variable {P : Program} {w : World} {K : Fg} {mg : Str → Option Value} {base : Heap}
theorem ok_w_step (T : Txt K mg) : FnOk P w K mg base (L2.CX P w) 4 (ga K "_law_step") (fdOf K (ga K "_law_step")) ["_law_row", "_law_names", "_law_levels", "_law_works"] (spMStep K) := by
 refine FunD.ok T.F_w_step sc_w_step (fun vs H Q E h => ?_) (fun cdv A outer s H vs Q E hr h => ⟨_, PSs.nox (pss_cons (zset 4 sc_w_step.nd (pe_lst (pa_cons pe_str (pa_cons pe_str (pa_cons pe_str (pa_cons pe_str (pa_cons pe_str (pa_cons pe_str (pa_cons pe_str (pa_cons pe_str (pa_cons pe_str (pa_cons pe_str (pa_cons pe_str (pa_cons pe_str pa_nil))))))))))))))
   (pss_cons (zset 4 sc_w_step.nd (pe_ix (ix_listK K) (pv 4) (z_call (ok_w_taken T) T.c_w_taken (hr.mono (by decide)) rfl T.g_w_taken passL (pa_cons (pv 0) (pa_cons pe_int pa_nil))) (fun _ _ => rfl)))
   (pss_cons (ps_if (PW.pt (pw_and (pt_cmpR op_eq (pv 4) pe_str (nomark _)) (pw_and1 (pt_cmpR (op_ne0K K hr.units) (pv 3) (pe_lst pa_nil) (nomark _))))) (pss_one (ps_ret (pe_tup (pa_cons (pv 4) (pa_cons (pe_ix (ix_listK K) (pv 3) (z_call (ok_w_taken T) T.c_w_taken (hr.mono (by decide)) rfl T.g_w_taken passL (pa_cons (pv 0) (pa_cons (pe_callB (call_lenK K) (by rfl) T.u_len (by decide +kernel) (pa_cons (pv 3) pa_nil)) pa_nil))) (fun _ _ => rfl)) pa_nil))))) pss_nil)
   (pss_cons (ps_if (PW.pt (pw_and (pt_cmpR op_eq (pv 4) pe_str (nomark _)) (pw_and1 (pt_cmpR (op_ne0K K hr.units) (pv 2) (pe_lst pa_nil) (nomark _))))) (pss_one (ps_ret (pe_tup (pa_cons (pv 4) (pa_cons (pe_ix (ix_listK K) (pv 2) (z_call (ok_w_taken T) T.c_w_taken (hr.mono (by decide)) rfl T.g_w_taken passL (pa_cons (pv 0) (pa_cons (pe_callB (call_lenK K) (by rfl) T.u_len (by decide +kernel) (pa_cons (pv 2) pa_nil)) pa_nil))) (fun _ _ => rfl)) pa_nil))))) pss_nil)
   (pss_cons (ps_if (pt_cmpR (op_in_seqK K) (pv 4) (pe_tup (pa_cons pe_str (pa_cons pe_str (pa_cons pe_str pa_nil)))) (by rfl)) (pss_one (ps_ret (pe_tup (pa_cons (pv 4) (pa_cons (pe_ix (ix_listK K) (pv 1) (z_call (ok_w_taken T) T.c_w_taken (hr.mono (by decide)) rfl T.g_w_taken passL (pa_cons (pv 0) (pa_cons (pe_callB (call_lenK K) (by rfl) T.u_len (by decide +kernel) (pa_cons (pv 1) pa_nil)) pa_nil))) (fun _ _ => rfl)) pa_nil))))) pss_nil)
   (pss_cons (ps_if (pt_cmpR (op_in_seqK K) (pv 4) (pe_tup (pa_cons pe_str (pa_cons pe_str (pa_cons pe_str pa_nil)))) (by rfl)) (pss_one (ps_ret (pe_tup (pa_cons (pv 4) (pa_cons (z_call (ok_w_taken T) T.c_w_taken (hr.mono (by decide)) rfl T.g_w_taken passL (pa_cons (pv 0) (pa_cons pe_int pa_nil))) pa_nil))))) pss_nil)
   (pss_one (ps_ret (pe_ifExp (pt_cmpR op_eq (pv 4) pe_str (nomark _)) (pe_tup (pa_cons pe_str (pa_cons (z_call (ok_w_taken T) T.c_w_taken (hr.mono (by decide)) rfl T.g_w_taken passL (pa_cons (pv 0) (pa_cons pe_int pa_nil))) pa_nil))) (pe_tup (pa_cons pe_str (pa_cons (pe_op op_add pe_int (z_call (ok_w_taken T) T.c_w_taken (hr.mono (by decide)) rfl T.g_w_taken passL (pa_cons (pv 0) (pa_cons pe_int pa_nil)))) pa_nil)))))))))))), ?_⟩)
 ·obtain ⟨r, sc, ns, nl, ll, wl, names, levels, works, nk, rfl, _⟩ := h
  rfl
 obtain ⟨r, sc, ns, nl, ll, wl, names, levels, works, nk, rfl, hrow, hn, hl, hw, nr, lr, wr, nne, n12, l12, w12, nin, lin, q⟩ := h
 show (_ : TS) _ [some (.ref r), some (.ref nl), some (.ref ll), some (.ref wl), none] H
 try dsimp only [cxOf]
 have nr' : nl ∉ [r] := by simpa using nr
 have lr' : ll ∉ [r] := by simpa using lr
 have wr' : wl ∉ [r] := by simpa using wr
 walk_at "rz"
 rename_i p3 hp3 H3 s3 e3
 have row3 := hrow.same s3
 have p3r : p3 ∉ [r] := fun z => hrow.ex (by rw [← List.mem_singleton.mp z]; exact hp3)
 refine ⟨r, sc, ns, 12, rfl, row3, by omega, by omega, fun n H0 h0 h12 f4 row0 => ?_⟩
 have e4 := f4.at e3 p3r
 have n0 := f4.at (s3 _ _ hn) nr'
 have l0 := f4.at (s3 _ _ hl) lr'
 have w0 := f4.at (s3 _ _ hw) wr'
 have f0 : Fr [r] H H0 := s3.fr.trans f4
 obtain ⟨k, rfl⟩ := Int.eq_ofNat_of_zero_le h0
 have hk : k < 12 := by omega
 obtain ⟨wd, hwd, hwm⟩ : ∃ wd : Str, ((["run", "run", "run", "ring", "mask", "unmask", "set", "clear", "await", "bar", "later", "quiet"] : List Str).map V.str)[k]? = some (V.str wd) ∧ wd ∈ (["run", "ring", "mask", "unmask", "set", "clear", "await", "bar", "later", "quiet"] : List Str) := by
  have hk2 : k < (["run", "run", "run", "ring", "mask", "unmask", "set", "clear", "await", "bar", "later", "quiet"] : List Str).length := hk
  refine ⟨_, by rw [List.getElem?_map, List.getElem?_eq_getElem hk2]; rfl, ?_⟩
  have hm := List.getElem_mem hk2
  generalize (["run", "run", "run", "ring", "mask", "unmask", "set", "clear", "await", "bar", "later", "quiet"] : List Str)[k] = wd at hm
  simp only [List.mem_cons, List.not_mem_nil, or_false] at hm ⊢
  rcases hm with h | h | h | h | h | h | h | h | h | h | h | h <;> simp [h]
 refine s_ixL (SqL.of e4) (v := .str wd) (atI_nat hwd) ?_
 clear e3 e4 hwd row3 f4 s3 hn hl hw h0 h12
 have pick : ∀ {H5 : Hp} {R : VK} {a : Addr} {l : List Str}, RowAt K H5 r sc ns → a ∉ [r] → H5 a = some (.lst (l.map V.str)) → l ≠ [] → l.length ≤ 12 → (∀ z H6, z ∈ l → Fr [r] H5 H6 → RowAt K H6 r sc ns → R (.str z) H6) → spTaken K [.ref r, .int l.length] H5 (fun y H6 => rIxL K (.ref a) y H6 R) E0 := fun {H5 R a l} row ar ea lne l12 h => by
  have l0 : 0 < l.length := List.length_pos_iff.mpr lne
  refine ⟨r, sc, ns, l.length, rfl, row, by omega, by omega, fun n H6 h0 h1 f6 row6 => ?_⟩
  obtain ⟨k, rfl⟩ := Int.eq_ofNat_of_zero_le h0
  have hk : k < l.length := by omega
  exact s_ixL (SqL.of (f6.at ea ar)) (v := .str l[k]) (atI_nat (by rw [List.getElem?_map, List.getElem?_eq_getElem hk]; rfl)) (h _ _ (List.getElem_mem hk) f6 row6)
 simp only [List.mem_cons, List.not_mem_nil, or_false] at hwm
 rcases hwm with rfl | rfl | rfl | rfl | rfl | rfl | rfl | rfl | rfl | rfl
 ·walk_at "rz"
  rename_i p1 hp1 H1 s1 e1
  refine s_in (.inr (SqT.of e1)) rfl rfl ?_
  rw [show (if false = true then !inV (V.str "run") _ else inV (V.str "run") _) = false by kernel_rfl]
  have row1 := row0.same s1
  have n1 := s1 _ _ n0
  have l1 := s1 _ _ l0
  have w1 := s1 _ _ w0
  have f1 : Fr [r] H H1 := f0.trans s1.fr
  walk_at "rz"
  rename_i p2 hp2 H2 s2 e2
  refine s_in (.inr (SqT.of e2)) rfl rfl ?_
  rw [show (if false = true then !inV (V.str "run") _ else inV (V.str "run") _) = false by kernel_rfl]
  have row2 := row1.same s2
  have n2 := s2 _ _ n1
  have l2 := s2 _ _ l1
  have w2 := s2 _ _ w1
  have f2 : Fr [r] H H2 := f1.trans s2.fr
  walk_at "rz"
  refine ⟨r, sc, ns, 3, rfl, row2, by omega, by omega, fun m H3 m0 m1 g3 row3 => ?_⟩
  have f3 : Fr [r] H H3 := f2.trans g3
  walk_at "rz"
  rename_i p4 hp4 H4 s4 e4
  exact q p4 (("run" : Str), (Sum.inl (1 + m) : Key)) H4 (f3.trans s4.fr) (row3.same s4) (.run (by omega) (by omega)) (.tup (SqT.of e4) (.cons (.str _) (.cons (.int _) .nil)))
 ·walk_at "rz"
  rename_i p1 hp1 H1 s1 e1
  refine s_in (.inr (SqT.of e1)) rfl rfl ?_
  rw [show (if false = true then !inV (V.str "ring") _ else inV (V.str "ring") _) = true by kernel_rfl]
  have row1 := row0.same s1
  have n1 := s1 _ _ n0
  have l1 := s1 _ _ l0
  have w1 := s1 _ _ w0
  have f1 : Fr [r] H H1 := f0.trans s1.fr
  walk_at "rz"
  refine s_lenL (SqL.of n1) ?_
  rw [List.length_map]
  walk_at "rz"
  refine pick row1 nr' n1 nne n12 fun z H2 hz g2 row2 => ?_
  have f2 : Fr [r] H H2 := f1.trans g2
  walk_at "rz"
  rename_i p3 hp3 H3 s3 e3
  exact q p3 (("ring" : Str), (Sum.inr z : Key)) H3 (f2.trans s3.fr) (row2.same s3) (.line (by simp) (nin z hz)) (.tup (SqT.of e3) (.cons (.str _) (.cons (.str _) .nil)))
 ·walk_at "rz"
  rename_i p1 hp1 H1 s1 e1
  refine s_in (.inr (SqT.of e1)) rfl rfl ?_
  rw [show (if false = true then !inV (V.str "mask") _ else inV (V.str "mask") _) = true by kernel_rfl]
  have row1 := row0.same s1
  have n1 := s1 _ _ n0
  have l1 := s1 _ _ l0
  have w1 := s1 _ _ w0
  have f1 : Fr [r] H H1 := f0.trans s1.fr
  walk_at "rz"
  refine s_lenL (SqL.of n1) ?_
  rw [List.length_map]
  walk_at "rz"
  refine pick row1 nr' n1 nne n12 fun z H2 hz g2 row2 => ?_
  have f2 : Fr [r] H H2 := f1.trans g2
  walk_at "rz"
  rename_i p3 hp3 H3 s3 e3
  exact q p3 (("mask" : Str), (Sum.inr z : Key)) H3 (f2.trans s3.fr) (row2.same s3) (.line (by simp) (nin z hz)) (.tup (SqT.of e3) (.cons (.str _) (.cons (.str _) .nil)))
 ·walk_at "rz"
  rename_i p1 hp1 H1 s1 e1
  refine s_in (.inr (SqT.of e1)) rfl rfl ?_
  rw [show (if false = true then !inV (V.str "unmask") _ else inV (V.str "unmask") _) = true by kernel_rfl]
  have row1 := row0.same s1
  have n1 := s1 _ _ n0
  have l1 := s1 _ _ l0
  have w1 := s1 _ _ w0
  have f1 : Fr [r] H H1 := f0.trans s1.fr
  walk_at "rz"
  refine s_lenL (SqL.of n1) ?_
  rw [List.length_map]
  walk_at "rz"
  refine pick row1 nr' n1 nne n12 fun z H2 hz g2 row2 => ?_
  have f2 : Fr [r] H H2 := f1.trans g2
  walk_at "rz"
  rename_i p3 hp3 H3 s3 e3
  exact q p3 (("unmask" : Str), (Sum.inr z : Key)) H3 (f2.trans s3.fr) (row2.same s3) (.line (by simp) (nin z hz)) (.tup (SqT.of e3) (.cons (.str _) (.cons (.str _) .nil)))
 ·walk_at "rz"
  rename_i p1 hp1 H1 s1 e1
  refine s_in (.inr (SqT.of e1)) rfl rfl ?_
  rw [show (if false = true then !inV (V.str "set") _ else inV (V.str "set") _) = false by kernel_rfl]
  have row1 := row0.same s1
  have n1 := s1 _ _ n0
  have l1 := s1 _ _ l0
  have w1 := s1 _ _ w0
  have f1 : Fr [r] H H1 := f0.trans s1.fr
  walk_at "rz"
  rename_i p2 hp2 H2 s2 e2
  refine s_in (.inr (SqT.of e2)) rfl rfl ?_
  rw [show (if false = true then !inV (V.str "set") _ else inV (V.str "set") _) = true by kernel_rfl]
  have row2 := row1.same s2
  have n2 := s2 _ _ n1
  have l2 := s2 _ _ l1
  have w2 := s2 _ _ w1
  have f2 : Fr [r] H H2 := f1.trans s2.fr
  walk_at "rz"
  refine ⟨r, sc, ns, 2, rfl, row2, by omega, by omega, fun m H3 m0 m1 g3 row3 => ?_⟩
  have f3 : Fr [r] H H3 := f2.trans g3
  walk_at "rz"
  rename_i p4 hp4 H4 s4 e4
  exact q p4 (("set" : Str), (Sum.inl m : Key)) H4 (f3.trans s4.fr) (row3.same s4) (.flag (by simp) (by omega) (by omega)) (.tup (SqT.of e4) (.cons (.str _) (.cons (.int _) .nil)))
 ·walk_at "rz"
  rename_i p1 hp1 H1 s1 e1
  refine s_in (.inr (SqT.of e1)) rfl rfl ?_
  rw [show (if false = true then !inV (V.str "clear") _ else inV (V.str "clear") _) = false by kernel_rfl]
  have row1 := row0.same s1
  have n1 := s1 _ _ n0
  have l1 := s1 _ _ l0
  have w1 := s1 _ _ w0
  have f1 : Fr [r] H H1 := f0.trans s1.fr
  walk_at "rz"
  rename_i p2 hp2 H2 s2 e2
  refine s_in (.inr (SqT.of e2)) rfl rfl ?_
  rw [show (if false = true then !inV (V.str "clear") _ else inV (V.str "clear") _) = true by kernel_rfl]
  have row2 := row1.same s2
  have n2 := s2 _ _ n1
  have l2 := s2 _ _ l1
  have w2 := s2 _ _ w1
  have f2 : Fr [r] H H2 := f1.trans s2.fr
  walk_at "rz"
  refine ⟨r, sc, ns, 2, rfl, row2, by omega, by omega, fun m H3 m0 m1 g3 row3 => ?_⟩
  have f3 : Fr [r] H H3 := f2.trans g3
  walk_at "rz"
  rename_i p4 hp4 H4 s4 e4
  exact q p4 (("clear" : Str), (Sum.inl m : Key)) H4 (f3.trans s4.fr) (row3.same s4) (.flag (by simp) (by omega) (by omega)) (.tup (SqT.of e4) (.cons (.str _) (.cons (.int _) .nil)))
 ·walk_at "rz"
  rename_i p1 hp1 H1 s1 e1
  refine s_in (.inr (SqT.of e1)) rfl rfl ?_
  rw [show (if false = true then !inV (V.str "await") _ else inV (V.str "await") _) = false by kernel_rfl]
  have row1 := row0.same s1
  have n1 := s1 _ _ n0
  have l1 := s1 _ _ l0
  have w1 := s1 _ _ w0
  have f1 : Fr [r] H H1 := f0.trans s1.fr
  walk_at "rz"
  rename_i p2 hp2 H2 s2 e2
  refine s_in (.inr (SqT.of e2)) rfl rfl ?_
  rw [show (if false = true then !inV (V.str "await") _ else inV (V.str "await") _) = true by kernel_rfl]
  have row2 := row1.same s2
  have n2 := s2 _ _ n1
  have l2 := s2 _ _ l1
  have w2 := s2 _ _ w1
  have f2 : Fr [r] H H2 := f1.trans s2.fr
  walk_at "rz"
  refine ⟨r, sc, ns, 2, rfl, row2, by omega, by omega, fun m H3 m0 m1 g3 row3 => ?_⟩
  have f3 : Fr [r] H H3 := f2.trans g3
  walk_at "rz"
  rename_i p4 hp4 H4 s4 e4
  exact q p4 (("await" : Str), (Sum.inl m : Key)) H4 (f3.trans s4.fr) (row3.same s4) (.flag (by simp) (by omega) (by omega)) (.tup (SqT.of e4) (.cons (.str _) (.cons (.int _) .nil)))
 ·walk_at "rz"
  rename_i p1 hp1 H1 s1 e1
  refine s_in (.inr (SqT.of e1)) rfl rfl ?_
  rw [show (if false = true then !inV (V.str "bar") _ else inV (V.str "bar") _) = false by kernel_rfl]
  have row1 := row0.same s1
  have n1 := s1 _ _ n0
  have l1 := s1 _ _ l0
  have w1 := s1 _ _ w0
  have f1 : Fr [r] H H1 := f0.trans s1.fr
  walk_at "rz"
  rename_i p2 hp2 H2 s2 e2
  refine s_in (.inr (SqT.of e2)) rfl rfl ?_
  rw [show (if false = true then !inV (V.str "bar") _ else inV (V.str "bar") _) = false by kernel_rfl]
  have row2 := row1.same s2
  have n2 := s2 _ _ n1
  have l2 := s2 _ _ l1
  have w2 := s2 _ _ w1
  have f2 : Fr [r] H H2 := f1.trans s2.fr
  walk_at "rz"
  refine ⟨r, sc, ns, 10, rfl, row2, by omega, by omega, fun m H3 m0 m1 g3 row3 => ?_⟩
  have f3 : Fr [r] H H3 := f2.trans g3
  walk_at "rz"
  rename_i p4 hp4 H4 s4 e4
  exact q p4 (("bar" : Str), (Sum.inl m : Key)) H4 (f3.trans s4.fr) (row3.same s4) (.bar (by omega) (by omega)) (.tup (SqT.of e4) (.cons (.str _) (.cons (.int _) .nil)))
 ·walk_at "rz"
  rename_i p1 hp1 H1 s1 e1
  refine s_eq0L (SqL.of (s1 _ _ w0)) (SqL.of e1) ?_
  rw [if_pos rfl]
  have row1 := row0.same s1
  have n1 := s1 _ _ n0
  have l1 := s1 _ _ l0
  have w1 := s1 _ _ w0
  have f1 : Fr [r] H H1 := f0.trans s1.fr
  walk_at "rz"
  by_cases hne : works = []
  ·subst hne
   refine ite_f rfl ?_
   walk_at "rz"
   rename_i p2 hp2 H2 s2 e2
   refine s_in (.inr (SqT.of e2)) rfl rfl ?_
   rw [show (if false = true then !inV (V.str "later") _ else inV (V.str "later") _) = false by kernel_rfl]
   have row2 := row1.same s2
   have n2 := s2 _ _ n1
   have l2 := s2 _ _ l1
   have w2 := s2 _ _ w1
   have f2 : Fr [r] H H2 := f1.trans s2.fr
   walk_at "rz"
   rename_i p3 hp3 H3 s3 e3
   refine s_in (.inr (SqT.of e3)) rfl rfl ?_
   rw [show (if false = true then !inV (V.str "later") _ else inV (V.str "later") _) = false by kernel_rfl]
   have row3 := row2.same s3
   have n3 := s3 _ _ n2
   have l3 := s3 _ _ l2
   have w3 := s3 _ _ w2
   have f3 : Fr [r] H H3 := f2.trans s3.fr
   walk_at "rz"
   refine ⟨r, sc, ns, 3, rfl, row3, by omega, by omega, fun m H4 m0 m1 g4 row4 => ?_⟩
   have f4 : Fr [r] H H4 := f3.trans g4
   walk_at "rz"
   rename_i p5 hp5 H5 s5 e5
   exact q p5 (("run" : Str), (Sum.inl (1 + m) : Key)) H5 (f4.trans s5.fr) (row4.same s5) (.run (by omega) (by omega)) (.tup (SqT.of e5) (.cons (.str _) (.cons (.int _) .nil)))
  ·refine ite_t (by cases works with | nil => exact absurd rfl hne | cons _ _ => rfl) ?_
   walk_at "rz"
   refine s_lenL (SqL.of w1) ?_
   rw [List.length_map]
   walk_at "rz"
   refine pick row1 wr' w1 hne w12 fun z H2 hz g2 row2 => ?_
   have f2 : Fr [r] H H2 := f1.trans g2
   walk_at "rz"
   rename_i p3 hp3 H3 s3 e3
   exact q p3 (("later" : Str), (Sum.inr z : Key)) H3 (f2.trans s3.fr) (row2.same s3) (.later hz) (.tup (SqT.of e3) (.cons (.str _) (.cons (.str _) .nil)))
 ·walk_at "rz"
  rename_i p1 hp1 H1 s1 e1
  refine s_eq0L (SqL.of (s1 _ _ l0)) (SqL.of e1) ?_
  rw [if_pos rfl]
  have row1 := row0.same s1
  have n1 := s1 _ _ n0
  have l1 := s1 _ _ l0
  have w1 := s1 _ _ w0
  have f1 : Fr [r] H H1 := f0.trans s1.fr
  walk_at "rz"
  by_cases hne : levels = []
  ·subst hne
   refine ite_f rfl ?_
   walk_at "rz"
   rename_i p2 hp2 H2 s2 e2
   refine s_in (.inr (SqT.of e2)) rfl rfl ?_
   rw [show (if false = true then !inV (V.str "quiet") _ else inV (V.str "quiet") _) = false by kernel_rfl]
   have row2 := row1.same s2
   have n2 := s2 _ _ n1
   have l2 := s2 _ _ l1
   have w2 := s2 _ _ w1
   have f2 : Fr [r] H H2 := f1.trans s2.fr
   walk_at "rz"
   rename_i p3 hp3 H3 s3 e3
   refine s_in (.inr (SqT.of e3)) rfl rfl ?_
   rw [show (if false = true then !inV (V.str "quiet") _ else inV (V.str "quiet") _) = false by kernel_rfl]
   have row3 := row2.same s3
   have n3 := s3 _ _ n2
   have l3 := s3 _ _ l2
   have w3 := s3 _ _ w2
   have f3 : Fr [r] H H3 := f2.trans s3.fr
   walk_at "rz"
   refine ⟨r, sc, ns, 3, rfl, row3, by omega, by omega, fun m H4 m0 m1 g4 row4 => ?_⟩
   have f4 : Fr [r] H H4 := f3.trans g4
   walk_at "rz"
   rename_i p5 hp5 H5 s5 e5
   exact q p5 (("run" : Str), (Sum.inl (1 + m) : Key)) H5 (f4.trans s5.fr) (row4.same s5) (.run (by omega) (by omega)) (.tup (SqT.of e5) (.cons (.str _) (.cons (.int _) .nil)))
  ·refine ite_t (by cases levels with | nil => exact absurd rfl hne | cons _ _ => rfl) ?_
   walk_at "rz"
   refine s_lenL (SqL.of l1) ?_
   rw [List.length_map]
   walk_at "rz"
   refine pick row1 lr' l1 hne l12 fun z H2 hz g2 row2 => ?_
   have f2 : Fr [r] H H2 := f1.trans g2
   walk_at "rz"
   rename_i p3 hp3 H3 s3 e3
   exact q p3 (("quiet" : Str), (Sum.inr z : Key)) H3 (f2.trans s3.fr) (row2.same s3) (.quiet (lin z hz)) (.tup (SqT.of e3) (.cons (.str _) (.cons (.str _) .nil)))
end
set_option maxHeartbeats 8000000
open PySem PySem.Spec PyProof.Rows L2 Z
open He (ga ma)
def spMSetup (K : Fg) : Sp := fun vs H Q _ => ∃ r sc ns, ∃ most : Int, vs = [.ref r, .int most] ∧ RowAt K H r sc ns ∧ 1 ≤ most ∧ most ≤ 6 ∧ ∀ t a b P H', Fr [r] H H' → RowAt K H' r sc ns → Drawn P → SqT K H' t [.ref a, .ref b] → Dp K H' (.ref a) (.tuple (P.ls.map dLn)) → Dp K H' (.ref b) (.tuple (P.ws.map dWk)) → Q (.ref t) H'
theorem s_take {K : Fg} {H : Hp} {r sc : Addr} {ns : List Int} {many : Int} {Q : VK} {E : XK} (h : RowAt K H r sc ns) (h0 : 0 < many) (h1 : many < 1000000) (q : ∀ n H', 0 ≤ n → n < many → Fr [r] H H' → RowAt K H' r sc ns → Q (.int n) H') : spTaken K [.ref r, .int many] H Q E := ⟨r, sc, ns, many, rfl, h, h0, h1, q⟩
section
variable {P : Program} {w : World} {K : Fg} {mg : Str → Option Value} {base : Heap}
theorem ok_w_setup (T : Txt K mg) : FnOk P w K mg base (L2.CX P w) 6 (ga K "_law_setup") (fdOf K (ga K "_law_setup")) ["_law_row", "_law_most"] (spMSetup K) := by
 refine FunD.ok T.F_w_setup sc_w_setup (fun vs H Q E h => ?_) (fun cdv A outer s H vs Q E hr h => ⟨_, PSs.nox (pss_cons (zset 2 sc_w_setup.nd (pe_slice (sl_listK K) (z_call (ok_w_mixed T) T.c_w_mixed (hr.mono (by decide)) rfl T.g_w_mixed passL (pa_cons (pv 0) (pa_cons (pe_lst (pa_cons pe_str (pa_cons pe_str (pa_cons pe_str (pa_cons pe_str (pa_cons pe_str (pa_cons pe_str pa_nil))))))) pa_nil))) po_none (po_some (pe_op op_add pe_int (z_call (ok_w_taken T) T.c_w_taken (hr.mono (by decide)) rfl T.g_w_taken passL (pa_cons (pv 0) (pa_cons (pv 1) pa_nil)))))))
   (pss_cons (zset 3 sc_w_setup.nd (pe_lc (own := [("_law_name", 10)]) rfl sc_w_setup.nd (kIL K (pi_list (pv 2))) (blkOk_by (own := [("_law_name", 10)]) (N := n_w_setup) (sc := defScope s_w_setup) (by decide +kernel)) (fun _ _ _ _ _ => (zg 10 sc_w_setup.nd)) (fun _ _ _ _ _ => pts_nil) (fun _ _ _ _ _ => (pe_ix (ix_listK K) (pe_lst (pa_cons pe_str (pa_cons pe_str (pa_cons pe_str pa_nil)))) (z_call (ok_w_taken T) T.c_w_taken (hr.mono (by decide)) rfl T.g_w_taken passL (pa_cons (pv 0) (pa_cons pe_int pa_nil))) (fun _ _ => rfl)))))
   (pss_cons (zset 4 sc_w_setup.nd (pe_lc (own := [("_law_k", 7)]) rfl sc_w_setup.nd (pi_range1 rfl T.u_range (pa_cons (pe_callB (call_lenK K) (by rfl) T.u_len (by decide +kernel) (pa_cons (pv 2) pa_nil)) pa_nil)) (blkOk_by (own := [("_law_k", 7)]) (N := n_w_setup) (sc := defScope s_w_setup) (by decide +kernel)) (fun _ _ _ _ _ => (zg 7 sc_w_setup.nd)) (fun _ _ _ _ _ => (pts_one (pt_cmpR op_eq (pe_ix (ix_listK K) (pv 3) (pv 7) (fun _ _ => rfl)) pe_str (nomark _)))) (fun _ _ _ _ _ => (pe_ix (ix_listK K) (pv 2) (pv 7) (fun _ _ => rfl)))))
   (pss_cons (zset 5 sc_w_setup.nd (pe_slice (sl_listK K) (pe_lst (pa_cons pe_str (pa_cons pe_str pa_nil))) po_none (po_some (z_call (ok_w_taken T) T.c_w_taken (hr.mono (by decide)) rfl T.g_w_taken passL (pa_cons (pv 0) (pa_cons pe_int pa_nil))))))
   (pss_cons (zset 6 sc_w_setup.nd (pe_lst pa_nil))
   (pss_cons (ps_for PassesOwn.never rfl (pi_range1 rfl T.u_range (pa_cons (pe_callB (call_lenK K) (by rfl) T.u_len (by decide +kernel) (pa_cons (pv 2) pa_nil)) pa_nil)) (zg 7 sc_w_setup.nd)
   (pss_cons (ps_setLc (i := 8) (own := [("_law_turn", 11)]) rfl sc_w_setup.nd rfl rfl (sw_true rfl rfl rfl (by decide +kernel)) (pi_range1 rfl T.u_range (pa_cons (pe_op op_add pe_int (z_call (ok_w_taken T) T.c_w_taken (hr.mono (by decide)) rfl T.g_w_taken passL (pa_cons (pv 0) (pa_cons pe_int pa_nil)))) pa_nil)) (blkOk_by (own := [("_law_turn", 11)]) (N := n_w_setup) (sc := defScope s_w_setup) (by decide +kernel)) (fun _ _ _ _ _ => (zg 11 sc_w_setup.nd)) (fun _ _ _ _ _ => pts_nil) (fun _ _ _ _ _ => (z_call (ok_w_step T) T.c_w_step (hr.mono (by decide)) rfl T.g_w_step passL (pa_cons (pv 0) (pa_cons (pv 2) (pa_cons (pv 4) (pa_cons (pv 5) pa_nil)))))))
   (pss_one (ps_expr (kBM K (pe_bm PySem.F.plainAttrs_list PySem.F.slot_list_append PySem.F.type_list_append mt_append (pv 6) (pa_cons (pe_tup (pa_cons (pe_ix (ix_listK K) (pv 2) (pv 7) (fun _ _ => rfl)) (pa_cons (pe_ix (ix_listK K) (pv 3) (pv 7) (fun _ _ => rfl)) (pa_cons (pe_op op_add pe_int (z_call (ok_w_taken T) T.c_w_taken (hr.mono (by decide)) rfl T.g_w_taken passL (pa_cons (pv 0) (pa_cons pe_int pa_nil)))) (pa_cons (pe_callTy (call_tuple_ofK K) (by rfl) T.u_tuple (by decide +kernel) (pa_cons (pv 8) pa_nil)) pa_nil))))) pa_nil)))))))
   (pss_cons (ps_setLc (i := 9) (own := [("_law_work", 12)]) rfl sc_w_setup.nd rfl rfl (sw_true rfl rfl rfl (by decide +kernel)) (kIL K (pi_list (pv 5))) (blkOk_by (own := [("_law_work", 12)]) (N := n_w_setup) (sc := defScope s_w_setup) (by decide +kernel)) (fun _ _ _ _ _ => (zg 12 sc_w_setup.nd)) (fun _ _ _ _ _ => pts_nil) (fun _ _ _ _ _ => (pe_tup (pa_cons (pv 12) (pa_cons (pe_op op_add pe_int (z_call (ok_w_taken T) T.c_w_taken (hr.mono (by decide)) rfl T.g_w_taken passL (pa_cons (pv 0) (pa_cons pe_int pa_nil)))) (pa_cons (pe_op op_add pe_int (z_call (ok_w_taken T) T.c_w_taken (hr.mono (by decide)) rfl T.g_w_taken passL (pa_cons (pv 0) (pa_cons pe_int pa_nil)))) pa_nil))))))
   (pss_one (ps_ret (pe_tup (pa_cons (pe_callTy (call_tuple_ofK K) (by rfl) T.u_tuple (by decide +kernel) (pa_cons (pv 6) pa_nil)) (pa_cons (pe_callTy (call_tuple_ofK K) (by rfl) T.u_tuple (by decide +kernel) (pa_cons (pv 9) pa_nil)) pa_nil)))))))))))), ?_⟩)
 ·obtain ⟨r, sc, ns, most, rfl, _⟩ := h
  rfl
 obtain ⟨r, sc, ns, most, rfl, hrow, m1, m6, q⟩ := h
 show (_ : TS) _ [some (.ref r), some (.int most), none, none, none, none, none, none, none, none, none, none, none] H
 try dsimp only [cxOf]
 have hr0 := hrow.ex
 -- names
 walk_at "rz"
 rename_i l1 hl1 H1 s1 e1
 refine ⟨r, sc, ns, l1, nm6.map V.str, rfl, hrow.same s1, .inl (SqL.of e1), by decide, fun H2 l2 ys f2 row2 hl2 e2 pm => ?_⟩
 obtain ⟨nms, rfl, pn⟩ := perm_strs pm
 have hl2r : l2 ≠ r := fun e => hr0 (by rw [← e]; exact s1.fr.back (A := []) hl2)
 walk_at "rz"
 refine s_take row2 (by omega) (by omega) fun nn H3 nn0 nn1 f3 row3 => ?_
 have e3 := f3.at e2 (by simp [hl2r])
 walk_at "rz"
 refine s_slL (SqL.of e3) fun l4 hl4 => ?_
 rw [show 1 + nn = (((1 + nn).toNat : Nat) : Int) by omega, cut_take, ← List.map_take]
 generalize eH : upd H3 l4 _ = H4
 have s4 := newS hl4 eH
 have e4 := newE eH
 clear eH
 have n6 : nms.length = 6 := pn.length_eq
 have pnd : nms.Nodup := pn.nodup_iff.mpr (by decide)
 have pin : ∀ z ∈ nms, z ∈ nm6 := fun z hz => pn.mem_iff.mp hz
 generalize hN : nms.take (1 + nn).toNat = N at e4
 have hN6 : 1 ≤ N.length ∧ N.length ≤ 6 := by rw [← hN, List.length_take]; omega
 have hNd : N.Nodup := by rw [← hN]; exact pnd.sublist (List.take_sublist _ _)
 have hNi : ∀ z ∈ N, z ∈ nm6 := fun z hz => pin z (by rw [← hN] at hz; exact List.mem_of_mem_take hz)
 have row4 := row3.same s4
 have f14 : Fr [r] H H4 := (s1.fr.trans f2).trans (f3.trans s4.fr)
 have hl40 : H l4 = none := ((s1.fr.trans f2).trans f3 : Fr [r] H H3).back hl4
 have hl4r : l4 ≠ r := fun e => hr0 (by rw [← e]; exact hl40)
 clear e1 e2 e3 pm s1 s4 f2 f3 row2 row3 hl1 hl2 hl2r hl4 hN pn
 -- kinds
 walk_at "rz"
 refine lcL_row e4 hl4r row4 (by rw [List.length_map]; omega) (fun _ (k : Str) => k = "edge" ∨ k = "level") PyData.str (fun _ => rfl) (fun i x Ha Yes No hx fa rowa yes => ?_) (fun l5 H5 ys kd hl5 f5 row5 e5 kl hk a5 => ?_)
 ·walk_at "rz"
  refine ⟨rfl, ?_⟩
  walk_at "rz"
  rename_i p6 hp6 H6 s6 e6
  have p6r : p6 ≠ r := fun e => rowa.ex (by rw [← e]; exact hp6)
  refine s_take (rowa.same s6) (by omega) (by omega) fun n1 H7 h1 h2 f7 row7 => ?_
  have e7 := f7.at e6 (by simp [p6r])
  obtain ⟨zk, hzk, hzm⟩ : ∃ zk, ([V.str "edge", V.str "edge", V.str "level"] : List V)[n1.toNat]? = some (.str zk) ∧ (zk = "edge" ∨ zk = "level") := by
   have : n1 = 0 ∨ n1 = 1 ∨ n1 = 2 := by omega
   rcases this with rfl | rfl | rfl
   ·exact ⟨"edge", rfl, .inl rfl⟩
   ·exact ⟨"edge", rfl, .inl rfl⟩
   ·exact ⟨"level", rfl, .inr rfl⟩
  refine s_ixL (SqL.of e7) (v := .str zk) (at_of (j := n1.toNat) (by omega) hzk) ?_
  exact yes _ _ zk (s6.fr.trans f7) row7 hzm (.str _)
 rw [List.length_map] at kl
 cases dp_strs a5
 have hkd : ∀ k ∈ kd, k = "edge" ∨ k = "level" := fun k h => by
  obtain ⟨_, h⟩ := rel_all hk k h
  exact h
 have f15 := f14.trans f5
 have hl50 : H l5 = none := f14.back hl5
 have hl5r : l5 ≠ r := fun e => hr0 (by rw [← e]; exact hl50)
 have en5 := f5.at e4 (by simp [hl4r])
 clear e4 row4 a5 f5 hl5 hk
 -- levels
 walk_at "rz"
 refine s_lenL (SqL.of en5) ?_
 rw [List.length_map]
 walk_at "rz"
 refine ⟨by omega, by omega, ?_⟩
 rw [Int.toNat_natCast]
 refine lcR_d (K := K) (fun k => decide (gS kd k = "level")) (fun k => .str (gS N k)) (by omega) (fun _ _ => rfl) (fun k Ha Yes No hk sa yes no => ?_) (fun l6 H6 ys hl6 s6 e6 a6 => ?_)
 ·have hk2 : k < kd.length := by omega
  have ekd := gS_map hk2
  have eN := gS_map hk
  walk_at "rz"
  refine ⟨rfl, ?_⟩
  walk_at "rz"
  refine s_ixL (SqL.of (sa _ _ e5)) (atI_nat ekd) ?_
  walk_at "rz"
  refine ite_b (fun h => ?_) (fun h => ?_)
  ·walk_at "rz"
   refine s_ixL (SqL.of (sa _ _ en5)) (atI_nat eN) ?_
   exact yes (by simpa using h) _ _ (Same.refl _) (.str _)
  ·exact no (by simpa using h) _ (Same.refl _)
 obtain ⟨L, eL⟩ : ∃ L : List Str, ((List.range N.length).filter fun k => decide (gS kd k = "level")).map (fun k => gS N k) = L := ⟨_, rfl⟩
 have eL2 : ((List.range N.length).filter fun k => decide (gS kd k = "level")).map (fun k => PyData.str (gS N k)) = L.map PyData.str := by rw [← eL, List.map_map]; rfl
 rw [eL2] at a6
 cases dp_strs a6
 have hLl : L.length ≤ 12 := by
  rw [← eL, List.length_map]
  have := List.length_filter_le (fun k => decide (gS kd k = "level")) (List.range N.length)
  rw [List.length_range] at this
  omega
 have hLin : ∀ z ∈ L, (z, ("level" : Str)) ∈ N.zip kd := fun z hz => by
  rw [← eL] at hz
  obtain ⟨k, hk, rfl⟩ := List.mem_map.mp hz
  obtain ⟨h1, h2⟩ := List.mem_filter.mp hk
  have h1 := List.mem_range.mp h1
  have hk2 : k < kd.length := by omega
  have h2 := of_decide_eq_true h2
  refine List.mem_of_getElem? (i := k) (List.getElem?_zip_eq_some.mpr ⟨gS_eq h1, ?_⟩)
  rw [gS_eq hk2, h2]
 have f16 : Fr [r] H H6 := f15.trans s6.fr
 have hl60 : H l6 = none := f15.back hl6
 have hl6r : l6 ≠ r := fun e => hr0 (by rw [← e]; exact hl60)
 have en6 := s6 _ _ en5
 have ek6 := s6 _ _ e5
 have row6 := row5.same s6
 clear en5 e5 row5 a6 s6 hl6 eL eL2
 -- works
 walk_at "rz"
 rename_i p7 hp7 H7 s7 e7
 have p7r : p7 ≠ r := fun e => row6.ex (by rw [← e]; exact hp7)
 refine s_take (row6.same s7) (by omega) (by omega) fun nw H8 nw0 nw1 f8 row8 => ?_
 have e8 := f8.at e7 (by simp [p7r])
 walk_at "rz"
 refine s_slL (SqL.of e8) fun l9 hl9 => ?_
 obtain ⟨kw, rfl⟩ := Int.eq_ofNat_of_zero_le nw0
 rw [cut_take]
 generalize eH : upd H8 l9 _ = H9
 have s9 := newS hl9 eH
 have e9 := newE eH
 clear eH
 have f68 : Fr [r] H6 H8 := s7.fr.trans f8
 have f69 : Fr [r] H6 H9 := f68.trans s9.fr
 have en9 := f69.at en6 (by simp [hl4r])
 have ek9 := f69.at ek6 (by simp [hl5r])
 have el9 := f69.at e6 (by simp [hl6r])
 have row9 := row8.same s9
 have hl90 : H l9 = none := f16.back (f68.back hl9)
 have hl9r : l9 ≠ r := fun e => hr0 (by rw [← e]; exact hl90)
 have f19 := f16.trans f69
 replace e9 : H9 l9 = some (.lst (((nmW.take kw)).map V.str)) := by rw [e9, List.map_take]; rfl
 generalize hW : nmW.take kw = W at e9
 have hW2 : W.length ≤ 2 := by rw [← hW, List.length_take]; show min kw 2 ≤ 2; omega
 clear e7 e8 s7 f8 row8 s9 hl9 f68 f69 en6 ek6 e6 row6
 walk_at "rz"
 rename_i l10 hl10 H10 s10 e10
 have en10 := s10 _ _ en9
 have row10 := row9.same s10
 have f110 : Fr [r] H H10 := f19.trans s10.fr
 have hl100 : H l10 = none := f19.back hl10
 have hl10r : l10 ≠ r := fun e => hr0 (by rw [← e]; exact hl100)
 have ek10 := s10 _ _ ek9
 have el10 := s10 _ _ el9
 have ew10 := s10 _ _ e9
 have n104 : l10 ≠ l4 := fun e => by rw [e, en9] at hl10; cases hl10
 have n105 : l10 ≠ l5 := fun e => by rw [e, ek9] at hl10; cases hl10
 have n106 : l10 ≠ l6 := fun e => by rw [e, el9] at hl10; cases hl10
 have n109 : l10 ≠ l9 := fun e => by rw [e, e9] at hl10; cases hl10
 clear en9 ek9 el9 e9 row9 s10 hl10
 refine s_lenL (SqL.of en10) ?_
 rw [List.length_map]
 walk_at "rz"
 have hzl : (N.zip kd).length = N.length := by rw [List.length_zip]; omega
 have hz1 : (N.zip kd).map (·.1) = N := List.map_fst_zip (by omega)
 refine ⟨by omega, by omega, for_range (lo := 0) (n := ((N.length : Nat) : Int).toNat) (fun i σ Ha => ∃ y7 y8, σ = [some (.ref r), some (.int most), some (.ref l4), some (.ref l5), some (.ref l6), some (.ref l9), some (.ref l10), y7, y8, none, none, none, none] ∧ Fr [r, l10] H10 Ha ∧ RowAt K Ha r sc ns ∧
  ∃ ls xs, Ha l10 = some (.lst xs) ∧ DpAll K Ha xs (ls.map dLn) ∧ nkOf ls = (N.zip kd).take i ∧ ∀ l ∈ ls, FitLn (N.zip kd) W l) ⟨_, _, rfl, Fr.refl, row10, [], [], e10, .nil, by simp [nkOf], by simp⟩ (fun i σ Ha hi hPv => ?_) (fun σ Ha hPv => ?_)⟩
 case _ =>
  obtain ⟨y7, y8, rfl, fa, rowa, ls, xs, ea, da, hnk, hfit⟩ := hPv
  rw [Int.toNat_natCast] at hi
  have hi2 : i < kd.length := by omega
  have e0 : (0 + ((i : Nat) : Int)) = i := by omega
  rw [e0]
  walk_at "rz"
  refine s_take rowa (by omega) (by omega) fun nst Hb hst0 hst4 fb rowb => ?_
  have en10b := fb.at (fa.at en10 (by simp [hl4r, Ne.symm n104])) (by simp [hl4r])
  have el10b := fb.at (fa.at el10 (by simp [hl6r, Ne.symm n106])) (by simp [hl6r])
  have ew10b := fb.at (fa.at ew10 (by simp [hl9r, Ne.symm n109])) (by simp [hl9r])
  have ek10b := fb.at (fa.at ek10 (by simp [hl5r, Ne.symm n105])) (by simp [hl5r])
  have eab := fb.at ea (by simp [hl10r])
  have tl : tupds (ls.map dLn) = true := tupds_map tupd_dLn _
  have ts : ∀ l : List (Str × Key), tupds (l.map dSt) = true := fun l => tupds_map tupd_dSt l
  have dab := da.tk fb.tk tl
  walk_at "rz"
  refine ⟨by omega, by omega, lcR_row rowb (by omega) (fun _ s => FitSt (N.zip kd) W s) dSt tupd_dSt (fun j Hc Yes No hj fc rowc yes => ?_) (fun l11 Hd ys st hl11 fd rowd ed hsl hst dd => ?_)⟩
  ·walk_at "rz"
   refine ⟨rfl, ?_⟩
   walk_at "rz"
   refine ⟨r, sc, ns, l4, l6, l9, N, L, W, N.zip kd, rfl, rowc, fc.at en10b (by simp [hl4r]), fc.at el10b (by simp [hl6r]), fc.at ew10b (by simp [hl9r]), hl4r, hl6r, hl9r, fun e => by rw [e] at hN6; simp at hN6, by omega, hLl, by omega, fun z hz => by rw [hz1]; exact hz, hLin, fun t s He fe rowe fit ds => ?_⟩
   exact yes _ _ s fe rowe fit ds
  have hst : ∀ s ∈ st, FitSt (N.zip kd) W s := fun s hs => by
   obtain ⟨_, h⟩ := rel_all hst s hs
   exact h
  have hl11r : l11 ≠ r := fun e => rowb.ex (by rw [← e]; exact hl11)
  have n1110 : l11 ≠ l10 := fun e => by rw [e, eab] at hl11; cases hl11
  have ead := fd.at eab (by simp [hl10r])
  have dad := dab.tk fd.tk tl
  have end_ := fd.at en10b (by simp [hl4r])
  have ekd := fd.at ek10b (by simp [hl5r])
  walk_at "rz"
  refine s_tyL ead ?_
  walk_at "rz"
  refine s_ixL (SqL.of end_) (atI_nat (gS_map hi)) ?_
  walk_at "rz"
  refine s_ixL (SqL.of ekd) (atI_nat (gS_map hi2)) ?_
  walk_at "rz"
  refine s_take rowd (by omega) (by omega) fun nr He hr0' hr9 fe rowe => ?_
  have ede := fe.at ed (by simp [hl11r])
  walk_at "rz"
  refine ⟨l11, ys, rfl, .inl ⟨SqL.of ede, fun t12 ht12 => ?_⟩⟩
  generalize eH : upd He t12 _ = Hf
  have sf := newS ht12 eH
  have ef := newE eH
  clear eH
  walk_at "rz"
  rename_i t13 ht13 Hg sg eg
  have eag := sg _ _ (sf _ _ (fe.at ead (by simp [hl10r])))
  have hxl : xs.length = i := by
   have h1 := da.len
   have h2 := congrArg List.length hnk
   unfold nkOf at h2
   rw [List.length_map] at h1
   rw [List.length_map, List.length_take, hzl] at h2
   omega
  refine s_append eag (by rw [sizeLine_eq]; omega) ?_
  generalize eH : upd Hg l10 _ = Hh
  have fh : Fr [l10] Hg Hh := by rw [← eH]; exact Fr.upd (by simp) eag rfl
  have eh := newE eH
  clear eH
  walk_at "rz"
  have fdg : Fr [r] Hd Hg := fe.trans (sf.fr.trans sg.fr)
  have fag : Fr [r] Ha Hg := (fb.trans fd).trans fdg
  have dst := ((dd.tk fe.tk (ts st)).same sf).same sg
  have d13 : Dp K Hg (.ref t13) (dLn ⟨gS N i, gS kd i, 1 + nr, st⟩) := .tup (SqT.of eg) (.cons (.str _) (.cons (.str _) (.cons (.int _) (.cons (.tup (sg.sqT (SqT.of ef)) dst) .nil))))
  have stl : st.length = (1 + nst).toNat := hsl
  refine ⟨_, _, rfl, (fa.trans (fag.mono (by simp))).trans (fh.mono (by simp)), hrow.kept ((rowe.same sf).same sg) fh (by simp [hl100]), ls ++ [⟨gS N i, gS kd i, 1 + nr, st⟩], _, eh, ?_, ?_, fun l hl => ?_⟩
  ·rw [List.map_append]
   exact ((dad.tk fdg.tk tl).tk fh.tk tl).app (.cons (d13.tk fh.tk (tupd_dLn _)) .nil)
  ·unfold nkOf at hnk ⊢
   rw [List.map_append, hnk, List.take_add_one, List.getElem?_zip_eq_some (z := (gS N i, gS kd i)) |>.mpr ⟨gS_eq hi, gS_eq hi2⟩]
   rfl
  ·rcases List.mem_append.mp hl with hl | hl
   ·exact hfit l hl
   ·rw [List.mem_singleton.mp hl]
    refine ⟨nm6_A _ (hNi _ (List.mem_of_getElem? (gS_eq hi))), hkd _ (List.mem_of_getElem? (gS_eq hi2)), by show 1 ≤ 1 + nr; omega, by show 1 + nr ≤ 9; omega, fun e => ?_, by show st.length ≤ 8; omega, hst⟩
    have e : st = [] := e
    rw [e] at stl
    simp only [List.length_nil] at stl
    omega
 case _ =>
  obtain ⟨y7, y8, rfl, fa, rowa, ls, xs, ea, da, hnk, hfit⟩ := hPv
  rw [Int.toNat_natCast, ← hzl, List.take_length] at hnk
  have ewa := fa.at ew10 (by simp [hl9r, Ne.symm n109])
  have tl : tupds (ls.map dLn) = true := tupds_map tupd_dLn _
  have fra : Fr [r] H Ha := f110.seq fa (fun a ha => by
   simp only [List.mem_cons, List.not_mem_nil, or_false] at ha
   rcases ha with rfl | rfl
   ·exact .inl (by simp)
   ·exact .inr hl100)
  walk_at "rz"
  refine lcL_row ewa hl9r rowa (by rw [List.length_map]; omega) (fun k w => W[k]? = some w.nm ∧ FitWk w) dWk tupd_dWk (fun i x Hb Yes No hx fb rowb yes => ?_) (fun l11 Hb ys ws hl11 fb rowb eb wl hw db => ?_)
  ·obtain ⟨z, hz, rfl⟩ : ∃ z, W[i]? = some z ∧ x = .str z := by
    rw [List.getElem?_map] at hx
    obtain ⟨z, h1, h2⟩ := Option.map_eq_some_iff.mp hx
    exact ⟨z, h1, h2.symm⟩
   walk_at "rz"
   refine ⟨rfl, ?_⟩
   walk_at "rz"
   refine s_take rowb (by omega) (by omega) fun n1 H5 h1 h2 f5 row5 => ?_
   walk_at "rz"
   refine s_take row5 (by omega) (by omega) fun n2 H6 h3 h4 f6 row6 => ?_
   walk_at "rz"
   rename_i p7 hp7 H7 s7 e7
   have hzA : z ∈ nmA := by
    have h := List.mem_of_getElem? hz
    rw [← hW] at h
    have h := List.mem_of_mem_take h
    revert h
    have : ∀ z ∈ nmW, z ∈ nmA := by decide
    exact this z
   exact yes _ _ ⟨z, 1 + n1, 1 + n2⟩ ((f5.trans f6).trans s7.fr) (row6.same s7) ⟨hz, hzA, by show 1 ≤ 1 + n1; omega, by show 1 + n1 ≤ 9; omega, by show 1 ≤ 1 + n2; omega, by show 1 + n2 ≤ 99; omega⟩ (.tup (SqT.of e7) (.cons (.str _) (.cons (.int _) (.cons (.int _) .nil))))
  rw [List.length_map] at wl
  have hwn : ws.map (·.nm) = W := by
   refine List.ext_getElem? fun i => ?_
   rw [List.getElem?_map]
   cases e : ws[i]? with
   | some w => exact (hw i w e).1.symm
   | none =>
    have := List.getElem?_eq_none_iff.mp e
    exact (List.getElem?_eq_none (show W.length ≤ i by omega)).symm
  have eab := fb.at ea (by simp [hl10r])
  have dab := da.tk fb.tk tl
  walk_at "rz"
  refine ⟨l10, xs, rfl, .inl ⟨SqL.of eab, fun t12 ht12 => ?_⟩⟩
  generalize eH : upd Hb t12 _ = Hc
  have sc1 := newS ht12 eH
  have ec := newE eH
  clear eH
  walk_at "rz"
  refine ⟨l11, ys, rfl, .inl ⟨SqL.of (sc1 _ _ eb), fun t13 ht13 => ?_⟩⟩
  generalize eH : upd Hc t13 _ = Hd
  have sd := newS ht13 eH
  have ed := newE eH
  clear eH
  walk_at "rz"
  rename_i t14 ht14 He se ee
  have s3 := sc1.trans (sd.trans se)
  have hnm : ls.map (·.nm) = N := by rw [← nk_names, hnk, hz1]
  refine q t14 t12 t13 ⟨ls, ws⟩ He ((fra.trans fb).trans s3.fr) (rowb.same s3) ⟨fun l hl => ?_, ?_, ?_, ?_, fun w hw' => ?_, kw, ?_⟩ (SqT.of ee) (.tup ((sd.trans se).sqT (SqT.of ec)) (dab.same s3)) (.tup (se.sqT (SqT.of ed)) ((db.same sc1).same (sd.trans se)))
  ·show FitLn (nkOf ls) (ws.map (·.nm)) l
   rw [hnk, hwn]
   exact hfit l hl
  ·show (ls.map (·.nm)).Nodup
   rw [hnm]
   exact hNd
  ·show ls ≠ []
   rintro rfl
   rw [← hnm] at hN6
   simp at hN6
  ·show ∀ z ∈ ls.map (·.nm), z ∈ nm6
   rw [hnm]
   exact hNi
  ·obtain ⟨_, h⟩ := rel_all hw w hw'
   exact h.2
  ·show ws.map (·.nm) = nmW.take kw
   rw [hwn, hW]
end
end T
set_option maxHeartbeats 4000000
namespace T
open PySem PySem.Spec PyProof.Rows L2 Z
open He (ga ma)
open TL (tl)
local macro_rules | `(tactic| walk_at "z") => `(tactic| with_reducible first | refine ⟨_, _, rfl, rfl, ?_⟩ | refine ⟨_, rfl, ?_⟩)
local macro_rules | `(tactic| walk_at "z") => `(tactic| ((with_reducible refine s_isi (d := ?d1) ?h1 ?h2 ?q1); (case h1 => first | assumption | constructor); (case h2 => decide)))
local macro_rules | `(tactic| walk_at "z") => `(tactic| with_reducible first | refine s_tup ?_ | refine s_lst ?_)
local macro_rules | `(tactic| walk_at "z") => `(tactic| ((with_reducible refine s_ne ?h1 ?q1); (case h1 => exact rfl)))
local macro_rules | `(tactic| walk_at "z") => `(tactic| ((with_reducible refine s_eq ?h1 ?q1); (case h1 => exact rfl)))
local macro_rules | `(tactic| walk_at "z") => `(tactic| with_reducible first | refine s_dcT ?_ | refine s_cvalg ?_ | refine s_fldS ?_ | refine s_I0 ?_ | refine s_U ?_)
local macro_rules | `(tactic| walk_at "z") => `(tactic| with_reducible first | refine s_make ?_ | refine s_sl ?_ | refine s_nop ?_ | refine s_part ?_ | refine s_lcE ?_ | refine s_lc ?_)
local macro_rules | `(tactic| walk_at "z") => `(tactic| with_reducible first | refine s_for ?_ | refine s_rng1 ?_ | refine s_iT ?_ | refine s_iL ?_ | refine Or.inl (Exists.intro _ (And.intro rfl ?_)) | refine Or.inr (Exists.intro _ (And.intro rfl ?_)))
local macro_rules | `(tactic| walk_at "z") => `(tactic| with_reducible first | refine s_tupRg ?_ | refine s_lstRg ?_ | refine s_rg1 ?_ | refine s_items ?_ | refine s_get2 ?_ | refine s_callI ?_)
local macro_rules | `(tactic| walk_at "z") => `(tactic| with_reducible first | refine s_fldaug ?_ | refine s_add ?_ | refine s_ipI ?_ | refine s_ixO ?_ | refine s_lcL ?_ | refine s_dputg ?_)
local macro_rules | `(tactic| walk_at "z") => `(tactic| with_reducible first | refine s_daugg ?_ | refine s_disp ?_ | refine s_pcons ?_ | refine s_pnil ?_ | refine s_gsub ?_ | refine s_augS ?_)
local macro_rules | `(tactic| walk_at "z") => `(tactic| with_reducible first | refine s_bm ?_ | refine s_bm0 ?_ | refine s_fldg ?_ | refine s_meth ?_ | refine s_prop ?_ | refine s_lcT ?_)
local macro_rules | `(tactic| walk_at "z") => `(tactic| with_reducible first | refine s_yes ?_ | refine s_gcons ?_ | refine s_gnil ?_ | refine s_din ?_ | refine s_dnin ?_ | refine s_dget ?_)
local macro_rules | `(tactic| walk_at "z") => `(tactic| with_reducible first | refine s_orV ?_ | refine s_notV ?_ | refine s_if ?_ | refine s_chain ?_ | refine s_call ?_ | refine s_bl ?_)
local macro_rules | `(tactic| walk_at "z") => `(tactic| with_reducible first | refine s_test ?_ | refine s_B ?_ | refine s_and ?_ | refine s_or ?_ | refine s_not ?_ | refine s_andV ?_)
local macro_rules | `(tactic| walk_at "z") => `(tactic| with_reducible first | refine s_op ?_ | refine s_un ?_ | refine s_cb ?_ | refine s_cons ?_ | refine s_nil ?_ | refine s_star ?_)
local macro_rules | `(tactic| walk_at "z") => `(tactic| ((with_reducible refine s_var (v := ?v1) ?h1 ?q1); (case h1 => exact rfl)))
local macro_rules | `(tactic| walk_at "z") => `(tactic| with_reducible refine s_c ?_)
local macro_rules | `(tactic| walk_at "z") => `(tactic| with_reducible first | refine s_drop ?_ | refine s_next ?_ | refine s_cont ?_ | refine s_break ?_ | refine s_par ?_ | refine s_par2 ?_)
local macro_rules | `(tactic| walk_at "z") => `(tactic| with_reducible first | refine s_seq ?_ | refine s_asg ?_ | refine s_gname ?_ | refine s_ret ?_ | refine s_retN ?_ | refine s_ifS ?_)
local macro_rules | `(tactic| walk_at "zi") => `(tactic| ((with_reducible refine ite_t ?h1 ?q1); (case h1 => rfl)))
local macro_rules | `(tactic| walk_at "zi") => `(tactic| ((with_reducible refine ite_f ?h1 ?q1); (case h1 => rfl)))
local macro_rules | `(tactic| walk_at "zi") => `(tactic| walk_at "z")
local macro_rules | `(tactic| walk_at "zn") => `(tactic| (intro p hp; generalize eH : upd _ p _ = H2; have s2 := newS hp eH; have e2 := newE eH; clear eH))
local macro_rules | `(tactic| walk_at "zt") => `(tactic| ((with_reducible refine And.intro ?h1 ?_); (case h1 => exact Nat.le_of_ble_eq_true rfl); intro p hp; generalize eH : upd _ p _ = H2; have s2 := newS hp eH; have e2 := newE eH; clear eH))
local macro_rules | `(tactic| walk_at "hl") => `(tactic| ((with_reducible apply ev_same); (· assumption); · walk_at "hl"))
local macro_rules | `(tactic| walk_at "hl") => `(tactic| ((with_reducible apply mh_same); (· assumption); · walk_at "hl"))
local macro_rules | `(tactic| walk_at "hl") => `(tactic| ((with_reducible apply hs_same); (· assumption); · walk_at "hl"))
local macro_rules | `(tactic| walk_at "hl") => `(tactic| ((with_reducible apply mst_same); (· assumption); · walk_at "hl"))
local macro_rules | `(tactic| walk_at "hl") => `(tactic| ((with_reducible apply plm_same); (· assumption); · walk_at "hl"))
local macro_rules | `(tactic| walk_at "hl") => `(tactic| ((with_reducible apply md_same); (· assumption); · walk_at "hl"))
local macro_rules | `(tactic| walk_at "hl") => `(tactic| ((with_reducible apply row_same); (· assumption); · walk_at "hl"))
local macro_rules | `(tactic| walk_at "hl") => `(tactic| ((with_reducible apply sg_same); (· assumption); · walk_at "hl"))
local macro_rules | `(tactic| walk_at "hl") => `(tactic| ((with_reducible apply cst_same); (· assumption); · walk_at "hl"))
local macro_rules | `(tactic| walk_at "hl") => `(tactic| ((with_reducible apply co_same); (· assumption); · walk_at "hl"))
local macro_rules | `(tactic| walk_at "hl") => `(tactic| ((with_reducible apply bd_same); (· assumption); · walk_at "hl"))
local macro_rules | `(tactic| walk_at "hl") => `(tactic| ((with_reducible apply pl_same); (· assumption); · walk_at "hl"))
local macro_rules | `(tactic| walk_at "hl") => `(tactic| ((with_reducible apply dpA_same); (· assumption); · walk_at "hl"))
local macro_rules | `(tactic| walk_at "hl") => `(tactic| ((with_reducible apply dp_same); (· assumption); · walk_at "hl"))
local macro_rules | `(tactic| walk_at "hl") => `(tactic| ((with_reducible apply SqL.of); · walk_at "hl"))
local macro_rules | `(tactic| walk_at "hl") => `(tactic| ((with_reducible apply SqT.of); · walk_at "hl"))
local macro_rules | `(tactic| walk_at "hl") => `(tactic| ((with_reducible apply sqL_same); (· assumption); · walk_at "hl"))
local macro_rules | `(tactic| walk_at "hl") => `(tactic| ((with_reducible apply sqT_same); (· assumption); · walk_at "hl"))
local macro_rules | `(tactic| walk_at "hl") => `(tactic| ((with_reducible apply at_same); (· assumption); · walk_at "hl"))
local macro_rules | `(tactic| walk_at "hl") => `(tactic| assumption)
local macro_rules | `(tactic| walk_at "lk") => `(tactic| with_reducible first | exact sgF_time | exact sgF_sums | exact coF_plan | exact coF_fr | exact coF_lim | exact coF_jo)
local macro_rules | `(tactic| walk_at "lk") => `(tactic| with_reducible first | exact bdF_plan | exact bdF_sh | exact bdF_wa | exact bdF_hi | exact bdF_ta | exact bdF_ra | exact bdF_jo | exact sgF_plan | exact sgF_board | exact sgF_core)
local macro_rules | `(tactic| walk_at "lk") => `(tactic| with_reducible first | exact hsF_li | exact hsF_bd | exact hsF_co | exact hsF_mo | exact hsF_tu | exact hsF_rc | exact hsF_ho | exact hsF_bs | exact hsF_ds | exact hsF_ev)
local macro_rules | `(tactic| walk_at "lk") => `(tactic| with_reducible first | exact bdF_hr | exact bdF_sp | exact bdF_ru | exact bdF_re | exact bdF_wt | exact hsF_plan | exact hsF_size | exact hsF_rr | exact hsF_sr | exact hsF_wy)
local macro_rules | `(tactic| walk_at "lk") => `(tactic| with_reducible first | exact wvF_plan | exact wvF_size | exact rdF_p | exact rdF_n | exact rdF_s | exact plF_lr | exact plF_wr | exact plF_rn | exact plF_wn | exact bdF_tm)
local macro_rules | `(tactic| walk_at "mk") => `(tactic| with_reducible first | exact mk_bar | exact mk_jo | exact mk_now | exact mk_lg | exact mk_sp | exact mk_jn | exact mk_ln | exact mk_wk)
local macro_rules | `(tactic| walk_at "mk") => `(tactic| with_reducible first | exact mh_times | exact mh_done | exact mc_ca | exact mc_bar | exact mc_jo | exact mk_ca | exact mk_ed | exact mk_hi | exact mk_up | exact mk_sh)
local macro_rules | `(tactic| walk_at "mk") => `(tactic| with_reducible first | exact mh_fates | exact mh_lines | exact mh_works | exact mh_routes | exact mh_storms | exact mh_spots | exact mh_turns | exact mh_holds | exact mh_last | exact mh_begun)
local macro_rules | `(tactic| walk_at "mk") => `(tactic| with_reducible first | exact mh_modes | exact mh_cores | exact mh_now | exact mh_order | exact mh_shut | exact mh_wanted | exact mh_high | exact mh_flags | exact mh_log | exact mh_rings)
local macro_rules | `(tactic| walk_at "cl") => `(tactic| with_reducible first | exact Txt.cl_Setup (by assumption) | exact Txt.cl_RowReader (by assumption))
local macro_rules | `(tactic| walk_at "na") => `(tactic| with_reducible first | exact Txt.n_Setup_line_rows (by assumption) | exact Txt.n_Setup_work_rows (by assumption) | exact Txt.n_Setup_rows_by_name (by assumption) | exact Txt.n_Setup_works_by_name (by assumption) | exact Txt.n_RowReader_parts (by assumption) | exact Txt.n_RowReader_number (by assumption) | exact Txt.n_RowReader_spot (by assumption))
local macro_rules | `(tactic| walk_at "zz") => `(tactic| walk_at "zt")
local macro_rules | `(tactic| walk_at "zz") => `(tactic| ((with_reducible apply s_dgS); (· walk_at "hl"); (· walk_at "mk")))
local macro_rules | `(tactic| walk_at "zz") => `(tactic| ((with_reducible apply s_ixL); (· walk_at "hl"); (· with_reducible first | exact at0 | exact at1 | exact at2 | exact at3 | exact at4)))
local macro_rules | `(tactic| walk_at "zz") => `(tactic| ((with_reducible apply s_ixT); (· walk_at "hl"); (· with_reducible first | exact at0 | exact at1 | exact at2 | exact at3 | exact at4)))
local macro_rules | `(tactic| walk_at "zz") => `(tactic| ((with_reducible apply s_propat); (· walk_at "hl")))
local macro_rules | `(tactic| walk_at "zz") => `(tactic| ((with_reducible apply s_methat); (· walk_at "hl"); (· kernel_rfl)))
local macro_rules | `(tactic| walk_at "zz") => `(tactic| ((with_reducible apply s_fldat); (· walk_at "hl"); (· walk_at "cl"); (· walk_at "na"); (· walk_at "lk")))
local macro_rules | `(tactic| walk_at "zz") => `(tactic| walk_at "zi")
local macro_rules | `(tactic| walk_at "orz") => `(tactic| walk_at "zt")
local macro_rules | `(tactic| walk_at "orz") => `(tactic| ((with_reducible apply s_dgS); (· walk_at "hl"); (· walk_at "mk")))
local macro_rules | `(tactic| walk_at "orz") => `(tactic| ((with_reducible apply s_ixL); (· walk_at "hl"); (· with_reducible first | exact at0 | exact at1 | exact at2 | exact at3 | exact at4)))
local macro_rules | `(tactic| walk_at "orz") => `(tactic| ((with_reducible apply s_ixT); (· walk_at "hl"); (· with_reducible first | exact at0 | exact at1 | exact at2 | exact at3 | exact at4)))
local macro_rules | `(tactic| walk_at "orz") => `(tactic| ((with_reducible apply s_propat); (· walk_at "hl")))
local macro_rules | `(tactic| walk_at "orz") => `(tactic| ((with_reducible apply s_methat); (· walk_at "hl"); (· kernel_rfl)))
local macro_rules | `(tactic| walk_at "orz") => `(tactic| ((with_reducible apply s_fldat); (· walk_at "hl"); (· walk_at "cl"); (· walk_at "na"); (· walk_at "lk")))
local macro_rules | `(tactic| walk_at "orz") => `(tactic| ((with_reducible apply ite_t); (· rfl)))
local macro_rules | `(tactic| walk_at "orz") => `(tactic| ((with_reducible apply ite_f); (· rfl)))
local macro_rules | `(tactic| walk_at "orz") => `(tactic| with_reducible first | refine ⟨_, _, rfl, rfl, ?_⟩ | refine ⟨_, rfl, ?_⟩)
local macro_rules | `(tactic| walk_at "orz") => `(tactic| ((with_reducible apply s_isi); (· assumption); (· decide)))
local macro_rules | `(tactic| walk_at "orz") => `(tactic| with_reducible first | refine s_tup ?_ | refine s_lst ?_)
local macro_rules | `(tactic| walk_at "orz") => `(tactic| ((with_reducible apply s_ne); (· exact rfl)))
local macro_rules | `(tactic| walk_at "orz") => `(tactic| ((with_reducible apply s_eq); (· exact rfl)))
local macro_rules | `(tactic| walk_at "orz") => `(tactic| with_reducible first | refine s_lcE ?_ | refine s_lc ?_ | refine s_dcT ?_ | refine s_cvalg ?_ | refine s_I0 ?_ | refine s_U ?_)
local macro_rules | `(tactic| walk_at "orz") => `(tactic| with_reducible first | refine Or.inl (Exists.intro _ (And.intro rfl ?_)) | refine Or.inr (Exists.intro _ (And.intro rfl ?_)) | refine s_make ?_ | refine s_sl ?_ | refine s_nop ?_ | refine s_part ?_)
local macro_rules | `(tactic| walk_at "orz") => `(tactic| with_reducible first | refine s_get2 ?_ | refine s_callI ?_ | refine s_for ?_ | refine s_rng1 ?_ | refine s_iT ?_ | refine s_iL ?_)
local macro_rules | `(tactic| walk_at "orz") => `(tactic| with_reducible first | refine s_lcL ?_ | refine s_dputg ?_ | refine s_tupRg ?_ | refine s_lstRg ?_ | refine s_rg1 ?_ | refine s_items ?_)
local macro_rules | `(tactic| walk_at "orz") => `(tactic| with_reducible first | refine s_daugg ?_ | refine s_disp ?_ | refine s_gsub ?_ | refine s_fldaug ?_ | refine s_ipI ?_ | refine s_ixO ?_)
local macro_rules | `(tactic| walk_at "orz") => `(tactic| with_reducible first | refine s_chain ?_ | refine s_yes ?_ | refine s_din ?_ | refine s_dnin ?_ | refine s_bm0 ?_ | refine s_lcT ?_)
local macro_rules | `(tactic| walk_at "orz") => `(tactic| with_reducible first | refine s_un ?_ | refine s_star ?_ | refine s_and ?_ | refine s_or ?_ | refine s_orV ?_ | refine s_notV ?_)
local macro_rules | `(tactic| walk_at "orz") => `(tactic| with_reducible first | refine s_augS ?_ | refine s_retN ?_ | refine s_cont ?_ | refine s_break ?_ | refine s_par ?_ | refine s_par2 ?_)
local macro_rules | `(tactic| walk_at "orz") => `(tactic| with_reducible first | refine s_andV ?_ | refine s_add ?_ | refine s_prop ?_ | refine s_pnil ?_ | refine s_cb ?_ | refine s_not ?_)
local macro_rules | `(tactic| walk_at "orz") => `(tactic| with_reducible first | refine s_call ?_ | refine s_pcons ?_ | refine s_bm ?_ | refine s_if ?_ | refine s_gcons ?_ | refine s_gnil ?_)
local macro_rules | `(tactic| walk_at "orz") => `(tactic| with_reducible first | refine s_next ?_ | refine s_gname ?_ | refine s_drop ?_ | refine s_meth ?_ | refine s_fldS ?_ | refine s_asg ?_)
local macro_rules | `(tactic| walk_at "orz") => `(tactic| with_reducible first | refine s_fldg ?_ | refine s_ifS ?_ | refine s_dget ?_ | refine s_ret ?_ | refine s_B ?_ | refine s_test ?_)
local macro_rules | `(tactic| walk_at "orz") => `(tactic| with_reducible first | refine s_cons ?_ | refine s_c ?_ | refine s_nil ?_ | refine s_seq ?_ | refine s_op ?_ | refine s_bl ?_)
local macro_rules | `(tactic| walk_at "orz") => `(tactic| ((with_reducible apply s_var); (· exact rfl)))
local macro_rules | `(tactic| walk_at "rz") => `(tactic| repeat walk_at "orz")
local macro_rules | `(tactic| walk_at "zm") => `(tactic| (intro x dx hx hdx hne; generalize eH : upd (upd _ dx _) x _ = H2; have s2 := mkS hx hdx eH; have e2 := mkE eH; clear eH hdx hne))
local macro_rules | `(tactic| walk_at "zb") => `(tactic| with_reducible first | refine s_gcons ?_ | refine s_gnil ?_ | refine s_gname ?_ | refine s_seq ?_ | refine s_ifS ?_ | refine s_if ?_ | refine s_next ?_ | refine s_drop ?_ | refine s_ret ?_ | refine s_asg ?_)
structure RdAt (K : Fg) (H : Hp) (a p : Addr) (ws : List Str) (n : Int) (s : Nat) : Prop where
 ins : ∃ dx, H a = some (.ins (ga K "RowReader") dx (rdF p n s))
 lst : H p = some (.lst (ws.map V.str))
 len : ws.length ≤ 1000
theorem RdAt.ne {K : Fg} {H : Hp} {a p : Addr} {ws : List Str} {n : Int} {s : Nat} (h : RdAt K H a p ws n s) : p ≠ a := fun e => by
 obtain ⟨dx, k⟩ := h.ins
 rw [← e, h.lst] at k
 cases k
theorem RdAt.keep {K : Fg} {H H' : Hp} {a p : Addr} {ws : List Str} {n : Int} {s : Nat} {N : List Addr} (h : RdAt K H a p ws n s) (f : Fr N H H') (h1 : a ∉ N) (h2 : p ∉ N) : RdAt K H' a p ws n s := ⟨h.ins.imp fun _ k => f.at k h1, f.at h.lst h2, h.len⟩
theorem RdAt.same {K : Fg} {H H' : Hp} {a p : Addr} {ws : List Str} {n : Int} {s : Nat} (h : RdAt K H a p ws n s) (f : Same H H') : RdAt K H' a p ws n s := h.keep (N := []) f.fr (by simp) (by simp)
def spRNew (K : Fg) : Sp := fun vs H Q _ => ∃ a z dx, ∃ n : Int, ∃ ws, vs = [.ref a, .str z, .int n] ∧ H a = some (.ins (ga K "RowReader") dx []) ∧ Txt.split z " " = ws ∧ z.length + 2 ≤ sizeLine ∧ ws.length ≤ 1000 ∧ ∀ H' p, Fr [a] H H' → H p = none → RdAt K H' a p ws n 0 → Q .non H'
def spRNeed (K : Fg) : Sp := fun vs H Q _ => ∃ a, vs = [.ref a, .bl true] ∧ Q .non H
def spROver (K : Fg) : Sp := fun vs H Q _ => ∃ a p ws, ∃ n : Int, ∃ s : Nat, vs = [.ref a] ∧ RdAt K H a p ws n s ∧ Q (.bl (decide (s = ws.length))) H
def spRWork (K : Fg) : Sp := fun vs H Q _ => ∃ a p ws, ∃ n : Int, ∃ s : Nat, ∃ w0, vs = [.ref a] ∧ RdAt K H a p ws n s ∧ ws[0]? = some w0 ∧ Q (.bl (decide (V.str w0 = V.str "work"))) H
def spRTake (K : Fg) : Sp := fun vs H Q _ => ∃ a p ws, ∃ n : Int, ∃ (s : Nat) (t : Addr) (zs : List Str) (w0 : Str), vs = [.ref a, .ref t] ∧ RdAt K H a p ws n s ∧ SqT K H t (zs.map V.str) ∧ ws[s]? = some w0 ∧ w0 ∈ zs ∧ ∀ H', Fr [a] H H' → RdAt K H' a p ws n (s + 1) → Q (.str w0) H'
def spRName (K : Fg) : Sp := fun vs H Q _ => ∃ a p ws, ∃ n : Int, ∃ (s : Nat) (w0 : Str), vs = [.ref a] ∧ RdAt K H a p ws n s ∧ ws[s]? = some w0 ∧ isWord (.str w0) = true ∧ short (.str w0) = true ∧ ∀ H', Fr [a] H H' → RdAt K H' a p ws n (s + 1) → Q (.str w0) H'
def spRInt (K : Fg) : Sp := fun vs H Q _ => ∃ a p ws, ∃ n : Int, ∃ (s : Nat) (i : Int), vs = [.ref a] ∧ RdAt K H a p ws n s ∧ ws[s]? = some (txI i) ∧ 0 ≤ i ∧ i < 100 ∧ ∀ H', Fr [a] H H' → RdAt K H' a p ws n (s + 1) → Q (.int i) H'
section
variable {P : Program} {w : World} {K : Fg} {mg : Str → Option Value} {base : Heap}
theorem ok_RowReader_init (T : Txt K mg) : FnOk P w K mg base (L2.CX P w) 1 (ma K (ga K "RowReader") "__init__") (fdOf K (ma K (ga K "RowReader") "__init__")) ["self", "line", "number"] (spRNew K) := by
 refine FunD.ok T.F_RowReader_init sc_RowReader_init (fun vs H Q E h => ?_) (fun cdv A outer s H vs Q E hr h => ⟨_, PSs.nox (pss_cons (ps_fld (pv 0) (pe_split (pv 1) pe_str) rfl)
   (pss_cons (ps_fld (pv 0) (pv 2) rfl)
   (pss_one (ps_fld (pv 0) pe_int rfl)))), ?_⟩)
 ·obtain ⟨a, z, dx, n, ws, rfl, _⟩ := h
  rfl
 obtain ⟨a, z, dx, n, ws, rfl, ha, hws, hz, hw, q⟩ := h
 show (_ : TS) _ [some (.ref a), some (.str z), some (.int n)] H
 try dsimp only [cxOf]
 walk_at "rz"
 refine s_m1 ?_
 walk_at "rz"
 refine ⟨⟨z, rfl⟩, ?_⟩
 walk_at "rz"
 refine ⟨by decide +kernel, hz, fun p hp => ?_⟩
 generalize eH : upd H p _ = H1
 have s1 := newS hp eH
 have e1 := newE eH
 clear eH
 have ha1 := s1 _ _ ha
 have pa : p ≠ a := fun e => by rw [e, ha] at hp; cases hp
 walk_at "rz"
 refine ⟨a, _, dx, [], rfl, ha1, T.cl_RowReader, T.n_RowReader_parts, by decide, ?_⟩
 rw [rd1]
 generalize eH : upd H1 a _ = H2
 have e2 : H2 a = some (.ins (ga K "RowReader") dx [(("parts" : Str), V.ref p)]) := by rw [← eH, upd_same]
 have f2 : Fr [a] H1 H2 := by rw [← eH]; exact Fr.upd (by simp) ha1 rfl
 clear eH
 walk_at "rz"
 refine ⟨a, _, dx, _, rfl, e2, T.cl_RowReader, T.n_RowReader_number, by simp, ?_⟩
 rw [rd2]
 generalize eH : upd H2 a _ = H3
 have e3 : H3 a = some (.ins (ga K "RowReader") dx [(("parts" : Str), V.ref p), (("number" : Str), V.int n)]) := by rw [← eH, upd_same]
 have f3 : Fr [a] H2 H3 := by rw [← eH]; exact Fr.upd (by simp) e2 rfl
 clear eH
 walk_at "rz"
 refine ⟨a, _, dx, _, rfl, e3, T.cl_RowReader, T.n_RowReader_spot, by simp, ?_⟩
 rw [rd3]
 generalize eH : upd H3 a _ = H4
 have e4 : H4 a = some (.ins (ga K "RowReader") dx (rdF p n 0)) := by rw [← eH, upd_same]
 have f4 : Fr [a] H3 H4 := by rw [← eH]; exact Fr.upd (by simp) e3 rfl
 have f14 : Fr [a] H1 H4 := (f2.trans f3).trans f4
 exact q _ p ((s1.fr).trans f14) hp ⟨⟨dx, e4⟩, f14.at (by rw [e1, hws]) (by simp [pa]), hw⟩
theorem ok_RowReader_need (T : Txt K mg) : FnOk P w K mg base (L2.CX P w) 1 (ma K (ga K "RowReader") "need") (fdOf K (ma K (ga K "RowReader") "need")) ["self", "is_right"] (spRNeed K) := by
 refine FunD.ok T.F_RowReader_need sc_RowReader_need (fun vs H Q E h => ?_) (fun cdv A outer s H vs Q E hr h => ⟨_, PSs.nox (pss_one (ps_if (pt_not (pt_val (pv 1))) (pss_one ps_never) pss_nil)), ?_⟩)
 ·obtain ⟨a, rfl, _⟩ := h
  rfl
 obtain ⟨a, rfl, q⟩ := h
 show (_ : TS) _ [some (.ref a), some (.bl true)] H
 try dsimp only [cxOf]
 walk_at "rz"
 exact q
theorem ok_RowReader_is_over (T : Txt K mg) : FnOk P w K mg base (L2.CX P w) 1 (ma K (ga K "RowReader") "is_over") (fdOf K (ma K (ga K "RowReader") "is_over")) ["self"] (spROver K) := by
 refine FunD.ok T.F_RowReader_is_over sc_RowReader_is_over (fun vs H Q E h => ?_) (fun cdv A outer s H vs Q E hr h => ⟨_, PSs.nox (pss_one (ps_ret (pe_cmpR op_eq (kFld K (pe_fld (pv 0) rfl)) (pe_callB (call_lenK K) (by rfl) T.u_len (by decide +kernel) (pa_cons (kFld K (pe_fld (pv 0) rfl)) pa_nil)) (nomark _)))), ?_⟩)
 ·obtain ⟨a, p, ws, n, s, rfl, _⟩ := h
  rfl
 obtain ⟨a, p, ws, n, s, rfl, rd, q⟩ := h
 show (_ : TS) _ [some (.ref a)] H
 try dsimp only [cxOf]
 obtain ⟨dx, ha⟩ := rd.ins
 have hp := rd.lst
 walk_at "rz"
 refine s_lenL (SqL.of hp) ?_
 refine s_eq rfl ?_
 rw [List.length_map]
 have e : decide (V.int ((s : Nat) : Int) = V.int ((ws.length : Nat) : Int)) = decide (s = ws.length) := decide_eq_decide.mpr ⟨fun h => by injection h; omega, fun h => by rw [h]⟩
 rw [e]
 exact q
theorem ok_RowReader_is_work_row (T : Txt K mg) : FnOk P w K mg base (L2.CX P w) 1 (ma K (ga K "RowReader") "is_work_row") (fdOf K (ma K (ga K "RowReader") "is_work_row")) ["self"] (spRWork K) := by
 refine FunD.ok T.F_RowReader_is_work_row sc_RowReader_is_work_row (fun vs H Q E h => ?_) (fun cdv A outer s H vs Q E hr h => ⟨_, PSs.nox (pss_one (ps_ret (pe_cmpR op_eq (pe_ix (ix_listK K) (kFld K (pe_fld (pv 0) rfl)) pe_int (fun _ _ => rfl)) pe_str (nomark _)))), ?_⟩)
 ·obtain ⟨a, p, ws, n, s, w0, rfl, _⟩ := h
  rfl
 obtain ⟨a, p, ws, n, s, w0, rfl, rd, h0, q⟩ := h
 show (_ : TS) _ [some (.ref a)] H
 try dsimp only [cxOf]
 obtain ⟨dx, ha⟩ := rd.ins
 have hp := rd.lst
 walk_at "rz"
 refine s_ixL (SqL.of hp) (at_of (j := 0) rfl (at_str h0)) ?_
 walk_at "rz"
 exact q
theorem ok_RowReader_take (T : Txt K mg) : FnOk P w K mg base (L2.CX P w) 4 (ma K (ga K "RowReader") "take") (fdOf K (ma K (ga K "RowReader") "take")) ["self", "words"] (spRTake K) := by
 refine FunD.ok T.F_RowReader_take sc_RowReader_take (fun vs H Q E h => ?_) (fun cdv A outer s H vs Q E hr h => ⟨_, PSs.nox (pss_cons (ps_expr (z_meth (pv 0) T.cl_RowReader T.m_RowReader_need (ok_RowReader_need T) T.c_RowReader_need (hr.mono (by decide)) passL (pa_cons (pe_and (pe_not (z_meth0 (pv 0) T.cl_RowReader T.m_RowReader_is_over (ok_RowReader_is_over T) T.c_RowReader_is_over (hr.mono (by decide)) passL)) (pe_one (pe_cmpR (op_in_seqK K) (pe_ix (ix_listK K) (kFld K (pe_fld (pv 0) rfl)) (kFld K (pe_fld (pv 0) rfl)) (fun _ _ => rfl)) (pv 1) (by rfl)))) pa_nil)))
   (pss_cons (ps_fldaug (pv 0) pe_int in_add)
   (pss_one (ps_ret (pe_ix (ix_listK K) (kFld K (pe_fld (pv 0) rfl)) (pe_op op_sub (kFld K (pe_fld (pv 0) rfl)) pe_int) (fun _ _ => rfl)))))), ?_⟩)
 ·obtain ⟨a, p, ws, n, s, t, zs, w0, rfl, _⟩ := h
  rfl
 obtain ⟨a, p, ws, n, s, t, zs, w0, rfl, rd, hT, h0, hm, q⟩ := h
 show (_ : TS) _ [some (.ref a), some (.ref t)] H
 try dsimp only [cxOf]
 obtain ⟨dx, ha⟩ := rd.ins
 have hp := rd.lst
 have hs : s < ws.length := (List.getElem?_eq_some_iff.mp h0).1
 walk_at "rz"
 refine ⟨a, p, ws, n, s, rfl, rd, ?_⟩
 rw [decide_eq_false (by omega)]
 walk_at "rz"
 refine s_ixL (SqL.of hp) (atI_nat (at_str h0)) ?_
 walk_at "rz"
 refine s_in (.inr hT) rfl (flat_strsW _) ?_
 rw [inV_strs, decide_eq_true hm]
 walk_at "rz"
 refine ⟨a, rfl, ?_⟩
 walk_at "rz"
 refine ⟨a, _, dx, _, .int s, rfl, ha, T.cl_RowReader, T.n_RowReader_spot, rdF_s, ?_⟩
 walk_at "rz"
 refine ⟨dx, _, ha, by show 3 < 1000; decide, ?_⟩
 rw [rd4]
 generalize eH : upd H a _ = H2
 have e2 : H2 a = some (.ins (ga K "RowReader") dx (rdF p n ((s : Nat) + 1))) := by rw [← eH, upd_same]
 have f2 : Fr [a] H H2 := by rw [← eH]; exact Fr.upd (by simp) ha rfl
 clear eH
 have hp2 := f2.at hp (by simp [rd.ne])
 have rd2 : RdAt K H2 a p ws n (s + 1) := ⟨⟨dx, e2⟩, hp2, rd.len⟩
 walk_at "rz"
 rw [show ((s : Nat) : Int) + 1 - 1 = ((s : Nat) : Int) by omega]
 refine s_ixL (SqL.of hp2) (atI_nat (at_str h0)) ?_
 exact q _ f2 rd2
theorem ok_RowReader_read_name (T : Txt K mg) : FnOk P w K mg base (L2.CX P w) 4 (ma K (ga K "RowReader") "read_name") (fdOf K (ma K (ga K "RowReader") "read_name")) ["self"] (spRName K) := by
 refine FunD.ok T.F_RowReader_read_name sc_RowReader_read_name (fun vs H Q E h => ?_) (fun cdv A outer s H vs Q E hr h => ⟨_, PSs.nox (pss_cons (ps_expr (z_meth (pv 0) T.cl_RowReader T.m_RowReader_need (ok_RowReader_need T) T.c_RowReader_need (hr.mono (by decide)) passL (pa_cons (pe_and (pe_not (z_meth0 (pv 0) T.cl_RowReader T.m_RowReader_is_over (ok_RowReader_is_over T) T.c_RowReader_is_over (hr.mono (by decide)) passL)) (pe_one (z_call (ok_is_word T) T.c_is_word (hr.mono (by decide)) rfl T.g_is_word passL (pa_cons (pe_ix (ix_listK K) (kFld K (pe_fld (pv 0) rfl)) (kFld K (pe_fld (pv 0) rfl)) (fun _ _ => rfl)) pa_nil)))) pa_nil)))
   (pss_cons (ps_fldaug (pv 0) pe_int in_add)
   (pss_one (ps_ret (pe_ix (ix_listK K) (kFld K (pe_fld (pv 0) rfl)) (pe_op op_sub (kFld K (pe_fld (pv 0) rfl)) pe_int) (fun _ _ => rfl)))))), ?_⟩)
 ·obtain ⟨a, p, ws, n, s, w0, rfl, _⟩ := h
  rfl
 obtain ⟨a, p, ws, n, s, w0, rfl, rd, h0, hm, hsh, q⟩ := h
 show (_ : TS) _ [some (.ref a)] H
 try dsimp only [cxOf]
 obtain ⟨dx, ha⟩ := rd.ins
 have hp := rd.lst
 have hs : s < ws.length := (List.getElem?_eq_some_iff.mp h0).1
 walk_at "rz"
 refine ⟨a, p, ws, n, s, rfl, rd, ?_⟩
 rw [decide_eq_false (by omega)]
 walk_at "rz"
 refine s_ixL (SqL.of hp) (atI_nat (at_str h0)) ?_
 walk_at "rz"
 refine ⟨.str w0, .str w0, rfl, .str _, hsh, fun H1 s1 => ?_⟩
 rw [hm]
 replace rd := rd.same s1
 replace ha := s1 _ _ ha
 replace hp := s1 _ _ hp
 have q : ∀ (H' : Hp), Fr [a] H1 H' → RdAt K H' a p ws n (s + 1) → Q (V.str w0) H' := fun H' f => q H' ((s1.fr).trans f)
 clear s1
 walk_at "rz"
 refine ⟨a, rfl, ?_⟩
 walk_at "rz"
 refine ⟨a, _, dx, _, .int s, rfl, ha, T.cl_RowReader, T.n_RowReader_spot, rdF_s, ?_⟩
 walk_at "rz"
 refine ⟨dx, _, ha, by show 3 < 1000; decide, ?_⟩
 rw [rd4]
 generalize eH : upd H1 a _ = H2
 have e2 : H2 a = some (.ins (ga K "RowReader") dx (rdF p n ((s : Nat) + 1))) := by rw [← eH, upd_same]
 have f2 : Fr [a] H1 H2 := by rw [← eH]; exact Fr.upd (by simp) ha rfl
 clear eH
 have hp2 := f2.at hp (by simp [rd.ne])
 have rd2 : RdAt K H2 a p ws n (s + 1) := ⟨⟨dx, e2⟩, hp2, rd.len⟩
 walk_at "rz"
 rw [show ((s : Nat) : Int) + 1 - 1 = ((s : Nat) : Int) by omega]
 refine s_ixL (SqL.of hp2) (atI_nat (at_str h0)) ?_
 exact q _ f2 rd2
theorem ok_RowReader_read_integer (T : Txt K mg) : FnOk P w K mg base (L2.CX P w) 4 (ma K (ga K "RowReader") "read_integer") (fdOf K (ma K (ga K "RowReader") "read_integer")) ["self"] (spRInt K) := by
 refine FunD.ok T.F_RowReader_read_integer sc_RowReader_read_integer (fun vs H Q E h => ?_) (fun cdv A outer s H vs Q E hr h => ⟨_, PSs.nox (pss_cons (ps_expr (z_meth (pv 0) T.cl_RowReader T.m_RowReader_need (ok_RowReader_need T) T.c_RowReader_need (hr.mono (by decide)) passL (pa_cons (pe_not (z_meth0 (pv 0) T.cl_RowReader T.m_RowReader_is_over (ok_RowReader_is_over T) T.c_RowReader_is_over (hr.mono (by decide)) passL)) pa_nil)))
   (pss_cons (zset 1 sc_RowReader_read_integer.nd (pe_ix (ix_listK K) (kFld K (pe_fld (pv 0) rfl)) (kFld K (pe_fld (pv 0) rfl)) (fun _ _ => rfl)))
   (pss_cons (ps_expr (z_meth (pv 0) T.cl_RowReader T.m_RowReader_need (ok_RowReader_need T) T.c_RowReader_need (hr.mono (by decide)) passL (pa_cons (pe_and (pe_chain op_le op_le pe_int (pe_callB (call_lenK K) (by rfl) T.u_len (by decide +kernel) (pa_cons (pv 1) pa_nil)) (z_int T.i_MAX_DIGITS)) (pe_one (pe_callB (cr_allK K rfl) (by rfl) T.u_all (by decide +kernel) (pa_cons (pe_lc (own := [("digit", 2)]) rfl sc_RowReader_read_integer.nd (pi_str (pv 1)) (blkOk_by (own := [("digit", 2)]) (N := n_RowReader_read_integer) (sc := defScope s_RowReader_read_integer) (by decide +kernel)) (fun _ _ _ _ _ => (zg 2 sc_RowReader_read_integer.nd)) (fun _ _ _ _ _ => pts_nil) (fun _ _ _ _ _ => (pe_cmpR op_in_sign (pv 2) (z_str T.i_DIGITS) (by rfl)))) pa_nil)))) pa_nil)))
   (pss_cons (ps_expr (z_meth (pv 0) T.cl_RowReader T.m_RowReader_need (ok_RowReader_need T) T.c_RowReader_need (hr.mono (by decide)) passL (pa_cons (pe_or (pe_cmpR op_eq (pv 1) pe_str (nomark _)) (pe_one (pe_cmpR op_ne (pe_ix ix_str (pv 1) pe_int (fun _ _ => rfl)) pe_str (nomark _)))) pa_nil)))
   (pss_cons (ps_fldaug (pv 0) pe_int in_add)
   (pss_one (ps_ret (pe_callTy call_int_str (by rfl) T.u_int (by decide +kernel) (pa_cons (pv 1) pa_nil))))))))), ?_⟩)
 ·obtain ⟨a, p, ws, n, s, i, rfl, _⟩ := h
  rfl
 obtain ⟨a, p, ws, n, s, i, rfl, rd, h0, i0, i1, q⟩ := h
 show (_ : TS) _ (some (.ref a) :: List.replicate 2 none) H
 try dsimp only [cxOf]
 dsimp only [List.replicate]
 obtain ⟨dx, ha⟩ := rd.ins
 have hp := rd.lst
 have hs : s < ws.length := (List.getElem?_eq_some_iff.mp h0).1
 walk_at "rz"
 refine ⟨a, p, ws, n, s, rfl, rd, ?_⟩
 rw [decide_eq_false (by omega)]
 walk_at "rz"
 refine ⟨a, rfl, ?_⟩
 walk_at "rz"
 refine s_ixL (SqL.of hp) (atI_nat (at_str h0)) ?_
 walk_at "rz"
 obtain ⟨_, n1, n3, ndg, nz, nint⟩ := num_ok i0 i1
 refine s_lenS (by rw [sizeLine_eq]; omega) ?_
 walk_at "rz"
 refine ite_t (decide_eq_true (by omega)) ?_
 walk_at "rz"
 refine ite_t (decide_eq_true (by omega)) ?_
 walk_at "rz"
 refine ⟨_, rfl, txI i, rfl, fun D hD => lc_dat (K := K) walk_str (fun _ => true) (dAt (txI i).cps.toList fun c => .bool (decide (c ∈ ("0123456789" : Str).cps.toList))) hD (by show (txI i).length ≤ _; omega) (dAt_tupd fun _ _ => rfl) (fun _ _ => True.intro) (fun i H x H' y => by rw [y.1]; exact Same.refl H) (fun j x H H' Yes No hi s1 y yes no => ?_) (fun H' ys s1 e1 a1 => ?_)⟩
 ·obtain ⟨rfl, c, hc, rfl⟩ := y
  refine ⟨rfl, ?_⟩
  walk_at "rz"
  refine yes rfl _ _ (Same.refl _) ?_
  rw [dAt_eq (by simpa using hc)]
  exact .bl _
 have e := keptD_map (txI i).cps.toList fun c => PyData.bool (decide (c ∈ ("0123456789" : Str).cps.toList))
 rw [Array.length_toList] at e
 rw [e, map_bool] at a1
 rw [dp_bools a1] at e1
 walk_at "rz"
 refine s_all (SqL.of e1) ?_
 rw [show ((txI i).cps.toList.map fun c => decide (c ∈ ("0123456789" : Str).cps.toList)).all id = true by rw [List.all_map]; exact ndg]
 walk_at "rz"
 refine ⟨a, rfl, ?_⟩
 replace rd := rd.same s1
 replace ha := s1 _ _ ha
 replace hp := s1 _ _ hp
 have q : ∀ (H2 : Hp), Fr [a] H' H2 → RdAt K H2 a p ws n (s + 1) → Q (V.int i) H2 := fun H2 f => q H2 ((s1.fr).trans f)
 clear s1 e1 a1 e hD
 walk_at "rz"
 rcases nz with nz | nz
 ·refine ite_t (decide_eq_true (congrArg V.str nz)) ?_
  walk_at "rz"
  refine ⟨a, rfl, ?_⟩
  walk_at "rz"
  refine ⟨a, _, dx, _, .int s, rfl, ha, T.cl_RowReader, T.n_RowReader_spot, rdF_s, ?_⟩
  walk_at "rz"
  refine ⟨dx, _, ha, by show 3 < 1000; decide, ?_⟩
  rw [rd4]
  generalize eH : upd H' a _ = H2
  have e2 : H2 a = some (.ins (ga K "RowReader") dx (rdF p n ((s : Nat) + 1))) := by rw [← eH, upd_same]
  have f2 : Fr [a] H' H2 := by rw [← eH]; exact Fr.upd (by simp) ha rfl
  clear eH
  have hp2 := f2.at hp (by simp [rd.ne])
  have rd2 : RdAt K H2 a p ws n (s + 1) := ⟨⟨dx, e2⟩, hp2, rd.len⟩
  walk_at "rz"
  refine ⟨txI i, i, rfl, nint, by omega, ?_⟩
  exact q _ f2 rd2
 by_cases h0s : txI i = ("0" : Str)
 ·refine ite_t (decide_eq_true (congrArg V.str h0s)) ?_
  walk_at "rz"
  refine ⟨a, rfl, ?_⟩
  walk_at "rz"
  refine ⟨a, _, dx, _, .int s, rfl, ha, T.cl_RowReader, T.n_RowReader_spot, rdF_s, ?_⟩
  walk_at "rz"
  refine ⟨dx, _, ha, by show 3 < 1000; decide, ?_⟩
  rw [rd4]
  generalize eH : upd H' a _ = H2
  have e2 : H2 a = some (.ins (ga K "RowReader") dx (rdF p n ((s : Nat) + 1))) := by rw [← eH, upd_same]
  have f2 : Fr [a] H' H2 := by rw [← eH]; exact Fr.upd (by simp) ha rfl
  clear eH
  have hp2 := f2.at hp (by simp [rd.ne])
  have rd2 : RdAt K H2 a p ws n (s + 1) := ⟨⟨dx, e2⟩, hp2, rd.len⟩
  walk_at "rz"
  refine ⟨txI i, i, rfl, nint, by omega, ?_⟩
  exact q _ f2 rd2
 ·refine ite_f (decide_eq_false (fun e => h0s (by injection e))) ?_
  obtain ⟨c, hc⟩ : ∃ c, (txI i).cps.toList[0]? = some c := ⟨_, List.getElem?_eq_getElem (by show 0 < (txI i).cps.toList.length; rw [Array.length_toList]; exact n1)⟩
  walk_at "rz"
  refine ⟨txI i, 0, c, rfl, rfl, by rw [sizeLine_eq]; omega, (show atI (txI i).cps.toList ((0 : Nat) : Int) = some c from atI_nat hc), ?_⟩
  have hne : (V.str (⟨#[c]⟩ : Str) = V.str ("0" : Str)) = False := eq_false fun e => nz (by
   injection e with e
   have e2 : #[c] = ("0" : Str).cps := congrArg Str.cps e
   rw [hc, show c = 48 from by
    have := congrArg (fun x : Array Nat => x.toList[0]?) e2
    have h2 : ("0" : Str).cps.toList[0]? = some 48 := by decide +kernel
    simp only at this
    rw [h2] at this
    simpa using this])
  have hnf : (!decide (V.str (⟨#[c]⟩ : Str) = V.str ("0" : Str))) = true := by rw [decide_eq_false (fun e => by rw [hne] at e; exact e)]; rfl
  walk_at "rz"
  rw [hnf]
  walk_at "rz"
  refine ⟨a, rfl, ?_⟩
  walk_at "rz"
  refine ⟨a, _, dx, _, .int s, rfl, ha, T.cl_RowReader, T.n_RowReader_spot, rdF_s, ?_⟩
  walk_at "rz"
  refine ⟨dx, _, ha, by show 3 < 1000; decide, ?_⟩
  rw [rd4]
  generalize eH : upd H' a _ = H2
  have e2 : H2 a = some (.ins (ga K "RowReader") dx (rdF p n ((s : Nat) + 1))) := by rw [← eH, upd_same]
  have f2 : Fr [a] H' H2 := by rw [← eH]; exact Fr.upd (by simp) ha rfl
  clear eH
  have hp2 := f2.at hp (by simp [rd.ne])
  have rd2 : RdAt K H2 a p ws n (s + 1) := ⟨⟨dx, e2⟩, hp2, rd.len⟩
  walk_at "rz"
  refine ⟨txI i, i, rfl, nint, by omega, ?_⟩
  exact q _ f2 rd2
end
set_option maxHeartbeats 4000000
open PySem PySem.Spec PyProof.Rows L2 Z
open He (ga ma)
open TL (tl)
def numW : List Str := ["run", "bar", "set", "clear", "await"]
def namW : List Str := ["later", "ring", "quiet", "mask", "unmask"]
def allW : List Str := ["run", "bar", "later", "ring", "quiet", "mask", "unmask", "set", "clear", "await"]
theorem num_w : ∀ w ∈ numW, decide (V.str w = V.str "later") = false ∧ inV (.str w) lineWords = false ∧ w ∈ allW := by decide +kernel
theorem nam_w : ∀ w ∈ namW, (decide (V.str w = V.str "later") = true ∨ inV (.str w) lineWords = true) ∧ w ∈ allW := by decide +kernel
inductive GS : Str × Key → Prop
 | num (w : Str) (i : Int) : w ∈ numW → 0 ≤ i → i < 100 → GS (w, .inl i)
 | nam (w z : Str) : w ∈ namW → isWord (.str z) = true → short (.str z) = true → GS (w, .inr z)
structure GL (l : Ln) : Prop where
 nm : isWord (.str l.nm) = true
 sh : short (.str l.nm) = true
 kd : l.kd ∈ (["edge", "level"] : List Str)
 r0 : 0 ≤ l.rk
 r1 : l.rk < 100
 st : ∀ s ∈ l.st, GS s
 l8 : l.st.length ≤ 8
structure GW (x : Wk) : Prop where
 nm : isWord (.str x.nm) = true
 sh : short (.str x.nm) = true
 r0 : 0 ≤ x.rk
 r1 : x.rk < 100
 t0 : 0 ≤ x.tk
 t1 : x.tk < 100
theorem fm_len (l : List (Str × Key)) : (l.flatMap stW).length = 2 * l.length := by
 induction l with
 | nil => rfl
 | cons s l ih => rw [List.flatMap_cons, List.length_append, ih, List.length_cons]; show 2 + _ = _; omega
theorem fm_at : ∀ (l : List (Str × Key)) (j : Nat) (s : Str × Key), l[j]? = some s → (l.flatMap stW)[2 * j]? = some s.1 ∧ (l.flatMap stW)[2 * j + 1]? = some (kT s.2)
 | s0 :: l, 0, s, h => by
  cases h
  exact ⟨rfl, rfl⟩
 | s0 :: l, j + 1, s, h => by
  obtain ⟨h1, h2⟩ := fm_at l j s h
  constructor
  ·rw [List.flatMap_cons, List.getElem?_append_right (by show 2 ≤ _; omega)]
   show (l.flatMap stW)[2 * (j + 1) - 2]? = _
   rw [show 2 * (j + 1) - 2 = 2 * j by omega]
   exact h1
  ·rw [List.flatMap_cons, List.getElem?_append_right (by show 2 ≤ _; omega)]
   show (l.flatMap stW)[2 * (j + 1) + 1 - 2]? = _
   rw [show 2 * (j + 1) + 1 - 2 = 2 * j + 1 by omega]
   exact h2
theorem lnW_at {l : Ln} {j : Nat} {s : Str × Key} (h : l.st[j]? = some s) : (lnW l)[4 + 2 * j]? = some s.1 ∧ (lnW l)[4 + 2 * j + 1]? = some (kT s.2) := by
 obtain ⟨h1, h2⟩ := fm_at l.st j s h
 unfold lnW
 constructor
 ·rw [List.getElem?_append_right (by show 4 ≤ _; omega)]
  show (l.st.flatMap stW)[4 + 2 * j - 4]? = _
  rw [show 4 + 2 * j - 4 = 2 * j by omega]
  exact h1
 ·rw [List.getElem?_append_right (by show 4 ≤ _; omega)]
  show (l.st.flatMap stW)[4 + 2 * j + 1 - 4]? = _
  rw [show 4 + 2 * j + 1 - 4 = 2 * j + 1 by omega]
  exact h2
theorem lnW_len (l : Ln) : (lnW l).length = 4 + 2 * l.st.length := by
 unfold lnW
 rw [List.length_append, fm_len]
 rfl
def spRStep (K : Fg) : Sp := fun vs H Q _ => ∃ a p ws, ∃ n : Int, ∃ (s : Nat) (st : Str × Key), vs = [.ref a] ∧ RdAt K H a p ws n s ∧ ws[s]? = some st.1 ∧ ws[s + 1]? = some (kT st.2) ∧ GS st ∧ ∀ H' t, Fr [a] H H' → RdAt K H' a p ws n (s + 2) → Dp K H' (.ref t) (dSt st) → Q (.ref t) H'
def spRLine (K : Fg) : Sp := fun vs H Q _ => ∃ a p, ∃ n : Int, ∃ l : Ln, vs = [.ref a] ∧ RdAt K H a p (lnW l) n 0 ∧ GL l ∧ ∀ H' t, Fr [a] H H' → Dp K H' (.ref t) (dLn l) → Q (.ref t) H'
def spRWk (K : Fg) : Sp := fun vs H Q _ => ∃ a p, ∃ n : Int, ∃ x : Wk, vs = [.ref a] ∧ RdAt K H a p (wkW x) n 0 ∧ GW x ∧ ∀ H' t, Fr [a] H H' → Dp K H' (.ref t) (dWk x) → Q (.ref t) H'
section
variable {P : Program} {w : World} {K : Fg} {mg : Str → Option Value} {base : Heap}
theorem ok_RowReader_read_step (T : Txt K mg) : FnOk P w K mg base (L2.CX P w) 6 (ma K (ga K "RowReader") "read_step") (fdOf K (ma K (ga K "RowReader") "read_step")) ["self"] (spRStep K) := by
 refine FunD.ok T.F_RowReader_read_step sc_RowReader_read_step (fun vs H Q E h => ?_) (fun cdv A outer s H vs Q E hr h => ⟨_, PSs.nox (pss_cons (zset 1 sc_RowReader_read_step.nd (z_meth (pv 0) T.cl_RowReader T.m_RowReader_take (ok_RowReader_take T) T.c_RowReader_take (hr.mono (by decide)) passL (pa_cons (pe_op (op_catAK K) (pe_op (op_catAK K) (pe_tup (pa_cons (z_str T.i_RUN) (pa_cons (z_str T.i_BAR) (pa_cons (z_str T.i_LATER) pa_nil)))) (z_ref T.g_LINE_WORDS)) (z_ref T.g_FLAG_WORDS)) pa_nil)))
   (pss_one (ps_ret (pe_tup (pa_cons (pv 1) (pa_cons (pe_ifExp (PW.pt (pw_or (pt_cmpR op_eq (pv 1) (z_str T.i_LATER) (nomark _)) (pw_or1 (pt_cmpR (op_in_seqK K) (pv 1) (z_ref T.g_LINE_WORDS) (by rfl))))) (z_meth0 (pv 0) T.cl_RowReader T.m_RowReader_read_name (ok_RowReader_read_name T) T.c_RowReader_read_name (hr.mono (by decide)) passL) (z_meth0 (pv 0) T.cl_RowReader T.m_RowReader_read_integer (ok_RowReader_read_integer T) T.c_RowReader_read_integer (hr.mono (by decide)) passL)) pa_nil)))))), ?_⟩)
 ·obtain ⟨a, p, ws, n, s, st, rfl, _⟩ := h
  rfl
 obtain ⟨a, p, ws, n, s, st, rfl, rd, h0, h1, gs, q⟩ := h
 show (_ : TS) _ [some (.ref a), none] H
 try dsimp only [cxOf]
 obtain ⟨dx, ha⟩ := rd.ins
 have hall : st.1 ∈ allW := by
  cases gs with
  | num w i hw _ _ => exact (num_w w hw).2.2
  | nam w z hw _ _ => exact (nam_w w hw).2
 walk_at "rz"
 rename_i t1 ht1 H1 s1 e1
 refine s_catW (SqT.of e1) (T.t_LINE_WORDS _) (by rw [sizeLine_eq]; simp) fun t2 H2 s2 e2 => ?_
 walk_at "rz"
 refine s_catW e2 (T.t_FLAG_WORDS _) (by rw [sizeLine_eq]; simp) fun t3 H3 s3 e3 => ?_
 have s13 := (s1.trans s2).trans s3
 walk_at "rz"
 refine ⟨a, p, ws, n, s, t3, allW, st.1, rfl, rd.same s13, e3, h0, hall, fun H4 f4 rd4 => ?_⟩
 have f04 : Fr [a] H H4 := (s13.fr).trans f4
 obtain ⟨dx4, ha4⟩ := rd4.ins
 walk_at "rz"
 cases gs with
 | num w i hw i0 i1 =>
  obtain ⟨n1, n2, _⟩ := num_w w hw
  refine ite_f n1 ?_
  walk_at "rz"
  refine s_in (.inr (T.t_LINE_WORDS _)) rfl rfl ?_
  refine ⟨_, rfl, ?_⟩
  rw [if_neg Bool.false_ne_true, n2]
  walk_at "rz"
  refine ⟨a, p, ws, n, s + 1, i, rfl, rd4, h1, i0, i1, fun H5 f5 rd5 => ?_⟩
  walk_at "rz"
  rename_i t6 ht6 H6 s6 e6
  exact q _ _ (f04.trans (f5.trans s6.fr)) (rd5.same s6) (.tup (SqT.of e6) (.cons (.str _) (.cons (.int _) .nil)))
 | nam w z hm hw hsh =>
  rcases Bool.eq_false_or_eq_true (decide (V.str w = V.str "later")) with n1 | n1
  ·refine ite_t n1 ?_
   walk_at "rz"
   refine ⟨a, p, ws, n, s + 1, _, rfl, rd4, h1, hw, hsh, fun H5 f5 rd5 => ?_⟩
   walk_at "rz"
   rename_i t6 ht6 H6 s6 e6
   exact q _ _ (f04.trans (f5.trans s6.fr)) (rd5.same s6) (.tup (SqT.of e6) (.cons (.str _) (.cons (.str _) .nil)))
  ·refine ite_f n1 ?_
   have n2 : inV (.str w) lineWords = true := by
    rcases (nam_w w hm).1 with h | h
    ·rw [n1] at h; cases h
    ·exact h
   walk_at "rz"
   refine s_in (.inr (T.t_LINE_WORDS _)) rfl rfl ?_
   refine ⟨_, rfl, ?_⟩
   rw [if_neg Bool.false_ne_true, n2]
   walk_at "rz"
   refine ⟨a, p, ws, n, s + 1, _, rfl, rd4, h1, hw, hsh, fun H5 f5 rd5 => ?_⟩
   walk_at "rz"
   rename_i t6 ht6 H6 s6 e6
   exact q _ _ (f04.trans (f5.trans s6.fr)) (rd5.same s6) (.tup (SqT.of e6) (.cons (.str _) (.cons (.str _) .nil)))
theorem ok_RowReader_read_work (T : Txt K mg) : FnOk P w K mg base (L2.CX P w) 6 (ma K (ga K "RowReader") "read_work") (fdOf K (ma K (ga K "RowReader") "read_work")) ["self"] (spRWk K) := by
 refine FunD.ok T.F_RowReader_read_work sc_RowReader_read_work (fun vs H Q E h => ?_) (fun cdv A outer s H vs Q E hr h => ⟨_, PSs.nox (pss_cons (ps_expr (z_meth (pv 0) T.cl_RowReader T.m_RowReader_take (ok_RowReader_take T) T.c_RowReader_take (hr.mono (by decide)) passL (pa_cons (pe_tup (pa_cons pe_str pa_nil)) pa_nil)))
   (pss_cons (zset 1 sc_RowReader_read_work.nd (pe_tup (pa_cons (z_meth0 (pv 0) T.cl_RowReader T.m_RowReader_read_name (ok_RowReader_read_name T) T.c_RowReader_read_name (hr.mono (by decide)) passL) (pa_cons (z_meth0 (pv 0) T.cl_RowReader T.m_RowReader_read_integer (ok_RowReader_read_integer T) T.c_RowReader_read_integer (hr.mono (by decide)) passL) (pa_cons (z_meth0 (pv 0) T.cl_RowReader T.m_RowReader_read_integer (ok_RowReader_read_integer T) T.c_RowReader_read_integer (hr.mono (by decide)) passL) pa_nil)))))
   (pss_cons (ps_expr (z_meth (pv 0) T.cl_RowReader T.m_RowReader_need (ok_RowReader_need T) T.c_RowReader_need (hr.mono (by decide)) passL (pa_cons (z_meth0 (pv 0) T.cl_RowReader T.m_RowReader_is_over (ok_RowReader_is_over T) T.c_RowReader_is_over (hr.mono (by decide)) passL) pa_nil)))
   (pss_one (ps_ret (pv 1)))))), ?_⟩)
 ·obtain ⟨a, p, n, x, rfl, _⟩ := h
  rfl
 obtain ⟨a, p, n, x, rfl, rd, g, q⟩ := h
 show (_ : TS) _ [some (.ref a), none] H
 try dsimp only [cxOf]
 obtain ⟨dx, ha⟩ := rd.ins
 walk_at "rz"
 rename_i t1 ht1 H1 s1 e1
 refine ⟨a, p, wkW x, n, 0, t1, ["work"], "work", rfl, rd.same s1, SqT.of e1, rfl, by simp, fun H2 f2 rd2 => ?_⟩
 obtain ⟨dx2, ha2⟩ := rd2.ins
 walk_at "rz"
 refine ⟨a, p, wkW x, n, 1, x.nm, rfl, rd2, rfl, g.nm, g.sh, fun H3 f3 rd3 => ?_⟩
 obtain ⟨dx3, ha3⟩ := rd3.ins
 walk_at "rz"
 refine ⟨a, p, wkW x, n, 2, x.rk, rfl, rd3, rfl, g.r0, g.r1, fun H4 f4 rd4 => ?_⟩
 obtain ⟨dx4, ha4⟩ := rd4.ins
 walk_at "rz"
 refine ⟨a, p, wkW x, n, 3, x.tk, rfl, rd4, rfl, g.t0, g.t1, fun H5 f5 rd5 => ?_⟩
 obtain ⟨dx5, ha5⟩ := rd5.ins
 walk_at "rz"
 rename_i t6 ht6 H6 s6 e6
 have rd6 := rd5.same s6
 obtain ⟨dx6, ha6⟩ := rd6.ins
 walk_at "rz"
 refine ⟨a, p, wkW x, n, 4, rfl, rd6, ?_⟩
 rw [show decide (4 = (wkW x).length) = true from rfl]
 walk_at "rz"
 refine ⟨a, rfl, ?_⟩
 walk_at "rz"
 exact q _ _ ((s1.fr).trans (f2.trans (f3.trans (f4.trans (f5.trans s6.fr))))) (.tup (SqT.of e6) (.cons (.str _) (.cons (.int _) (.cons (.int _) .nil))))
theorem ok_RowReader_read_line (T : Txt K mg) : FnOk P w K mg base (L2.CX P w) 8 (ma K (ga K "RowReader") "read_line") (fdOf K (ma K (ga K "RowReader") "read_line")) ["self"] (spRLine K) := by
 refine FunD.ok T.F_RowReader_read_line sc_RowReader_read_line (fun vs H Q E h => ?_) (fun cdv A outer s H vs Q E hr h => ⟨_, PSs.nox (pss_cons (ps_expr (z_meth (pv 0) T.cl_RowReader T.m_RowReader_take (ok_RowReader_take T) T.c_RowReader_take (hr.mono (by decide)) passL (pa_cons (pe_tup (pa_cons pe_str pa_nil)) pa_nil)))
   (pss_cons (ps_asg (pe_tup (pa_cons (z_meth0 (pv 0) T.cl_RowReader T.m_RowReader_read_name (ok_RowReader_read_name T) T.c_RowReader_read_name (hr.mono (by decide)) passL) (pa_cons (z_meth (pv 0) T.cl_RowReader T.m_RowReader_take (ok_RowReader_take T) T.c_RowReader_take (hr.mono (by decide)) passL (pa_cons (pe_tup (pa_cons (z_str T.i_EDGE) (pa_cons (z_str T.i_LEVEL) pa_nil))) pa_nil)) (pa_cons (z_meth0 (pv 0) T.cl_RowReader T.m_RowReader_read_integer (ok_RowReader_read_integer T) T.c_RowReader_read_integer (hr.mono (by decide)) passL) (pa_cons (pe_lst pa_nil) pa_nil))))) (kGT K (pg_tup (n := 4) rfl (pgs_cons (zg 1 sc_RowReader_read_line.nd) (pgs_cons (zg 2 sc_RowReader_read_line.nd) (pgs_cons (zg 3 sc_RowReader_read_line.nd) (pgs_cons (zg 4 sc_RowReader_read_line.nd) pgs_nil)))))))
   (pss_cons (ps_while PassesOwn.never (pt_not (pt_val (z_meth0 (pv 0) T.cl_RowReader T.m_RowReader_is_over (ok_RowReader_is_over T) T.c_RowReader_is_over (hr.mono (by decide)) passL)))
   (pss_one (ps_expr (kBM K (pe_bm PySem.F.plainAttrs_list PySem.F.slot_list_append PySem.F.type_list_append mt_append (pv 4) (pa_cons (z_meth0 (pv 0) T.cl_RowReader T.m_RowReader_read_step (ok_RowReader_read_step T) T.c_RowReader_read_step (hr.mono (by decide)) passL) pa_nil))))))
   (pss_one (ps_ret (pe_tup (pa_cons (pv 1) (pa_cons (pv 2) (pa_cons (pv 3) (pa_cons (pe_callTy (call_tuple_ofK K) (by rfl) T.u_tuple (by decide +kernel) (pa_cons (pv 4) pa_nil)) pa_nil)))))))))), ?_⟩)
 ·obtain ⟨a, p, n, l, rfl, _⟩ := h
  rfl
 obtain ⟨a, p, n, l, rfl, rd, g, q⟩ := h
 show (_ : TS) _ [some (.ref a), none, none, none, none] H
 try dsimp only [cxOf]
 obtain ⟨dx, ha⟩ := rd.ins
 walk_at "rz"
 rename_i t1 ht1 H1 s1 e1
 refine ⟨a, p, lnW l, n, 0, t1, ["line"], "line", rfl, rd.same s1, SqT.of e1, rfl, by simp, fun H2 f2 rd2 => ?_⟩
 obtain ⟨dx2, ha2⟩ := rd2.ins
 walk_at "rz"
 refine ⟨a, p, lnW l, n, 1, l.nm, rfl, rd2, rfl, g.nm, g.sh, fun H3 f3 rd3 => ?_⟩
 obtain ⟨dx3, ha3⟩ := rd3.ins
 walk_at "rz"
 rename_i t4 ht4 H4 s4 e4
 refine ⟨a, p, lnW l, n, 2, t4, ["edge", "level"], l.kd, rfl, rd3.same s4, SqT.of e4, rfl, g.kd, fun H5 f5 rd5 => ?_⟩
 obtain ⟨dx5, ha5⟩ := rd5.ins
 walk_at "rz"
 refine ⟨a, p, lnW l, n, 3, l.rk, rfl, rd5, rfl, g.r0, g.r1, fun H6 f6 rd6 => ?_⟩
 have f06 : Fr [a] H H6 := (s1.fr).trans (f2.trans (f3.trans ((s4.fr).trans (f5.trans f6))))
 clear f2 f3 f5 f6 s1 s4 rd2 rd3 rd5 ha2 ha3 ha5 e1 e4 ht1 ht4
 walk_at "rz"
 rename_i L hL H7 s7 e7 t8 ht8 H8 s8 e8
 have hL0 : H L = none := f06.back hL
 have La : L ≠ a := fun e => by rw [e, ha] at hL0; cases hL0
 have rd8 := (rd6.same s7).same s8
 have f08 : Fr [a] H H8 := f06.trans ((s7.trans s8).fr)
 have eL8 := s8 _ _ e7
 have hLp : L ≠ p := fun e => by
  have := rd6.lst
  rw [← e, hL] at this
  cases this
 refine s_gtup (SqT.of e8) rfl ?_
 refine s_gcons (s_gname (s_gcons (s_gname (s_gcons (s_gname (s_gcons (s_gname (s_gnil (s_seq ?_)))))))))
 clear e7 e8 s7 s8 rd6 f06 ht8 hL
 have ll := lnW_len l
 have hl8 := g.l8
 refine while_e (fun σ H3 => ∃ vs, σ = [some (.ref a), some (.str l.nm), some (.str l.kd), some (.int l.rk), some (.ref L)] ∧ Fr [a] H H3 ∧ H3 L = some (.lst vs) ∧ DpAll K H3 vs (l.st.map dSt)) ?rest (fun hx => ?loop)
 case rest =>
  rintro σ H3 ⟨vs, rfl, f3, e3, d3⟩
  walk_at "rz"
  refine ⟨L, vs, rfl, .inl ⟨SqL.of e3, fun t4 ht4 => ?_⟩⟩
  generalize eH : upd H3 t4 _ = H4
  have s4 := newS ht4 eH
  have e4 := newE eH
  clear eH
  walk_at "rz"
  rename_i t5 ht5 H5 s5 e5
  exact q _ _ (f3.trans ((s4.trans s5).fr)) (.tup (SqT.of e5) (.cons (.str _) (.cons (.str _) (.cons (.int _) (.cons (.tup (SqT.of (s5 _ _ e4)) ((d3.same s4).same s5)) .nil)))))
 refine ⟨fun m σ H3 => ∃ j vs, σ = [some (.ref a), some (.str l.nm), some (.str l.kd), some (.int l.rk), some (.ref L)] ∧ Fr [a] H H3 ∧ RdAt K H3 a p (lnW l) n (4 + 2 * j) ∧ H3 L = some (.lst vs) ∧ DpAll K H3 vs ((l.st.take j).map dSt) ∧ j ≤ l.st.length ∧ m = l.st.length - j,
  ⟨_, 0, [], rfl, f08, rd8, eL8, .nil, Nat.zero_le _, rfl⟩, ?_⟩
 rintro m σ H3 ⟨j, vs, rfl, f3, rd3, e3, d3, hj, rfl⟩
 clear rd8 f08 eL8
 obtain ⟨dx3, ha3⟩ := rd3.ins
 walk_at "rz"
 refine ⟨a, p, lnW l, n, 4 + 2 * j, rfl, rd3, ?_⟩
 by_cases hjl : j = l.st.length
 ·rw [decide_eq_true (by omega)]
  refine ⟨true, rfl, ?_⟩
  rw [if_neg (by decide)]
  rw [hjl, List.take_length] at d3
  exact hx _ _ ⟨vs, rfl, f3, e3, d3⟩
 ·rw [decide_eq_false (by omega)]
  refine ⟨false, rfl, ?_⟩
  rw [if_pos (by decide)]
  refine ⟨_, fun σ' H' n => n, ?_⟩
  obtain ⟨st, hst⟩ : ∃ st, l.st[j]? = some st := ⟨_, List.getElem?_eq_getElem (by omega)⟩
  obtain ⟨w1, w2⟩ := lnW_at hst
  walk_at "rz"
  refine s_tyL e3 ?_
  walk_at "rz"
  refine ⟨a, p, lnW l, n, 4 + 2 * j, st, rfl, rd3, w1, w2, g.st _ (List.mem_of_getElem? hst), fun H4 t4 f4 rd4 d4 => ?_⟩
  have e4 := f4.at e3 (by simp [La])
  have lvs : vs.length = j := by rw [d3.len, List.length_map, List.length_take]; omega
  walk_at "rz"
  refine s_append e4 (by rw [sizeLine_eq]; omega) ?_
  have f5 : Fr [L] H4 (upd H4 L (.lst (vs ++ [.ref t4]))) := Fr.upd (by simp) e4 rfl
  refine ⟨l.st.length - (j + 1), by omega, j + 1, vs ++ [.ref t4], rfl, (f3.trans f4).seq f5 (fun x hx => .inr (by rw [List.mem_singleton.mp hx]; exact hL0)), rd4.keep f5 (by simp [Ne.symm La]) (by simp [Ne.symm hLp]), upd_same, ?_, by omega, rfl⟩
  rw [List.take_add_one, hst, List.map_append]
  exact ((d3.tk f4.tk (tupds_map tupd_dSt _)).tk f5.tk (tupds_map tupd_dSt _)).app (.cons (d4.tk f5.tk (tupd_dSt _)) .nil)
end
set_option maxHeartbeats 4000000
open PySem PySem.Spec PyProof.Rows L2 Z
open He (ga ma)
open TL (tl)
theorem gs_of {P : Pl} (ok : P.Ok) {s : Str × Key} (h : StepIs P s) : GS s := by
 have wd : ∀ {z : Str}, isName (.str z) = true → isWord (.str z) = true := fun h => (Bool.and_eq_true_iff.mp (show (isWord _ && _) = true from h)).1
 cases h with
 | run i h1 h2 => exact .num _ i (by decide +kernel) (by omega) (by omega)
 | bar i h1 h2 => exact .num _ i (by decide +kernel) (by omega) (by omega)
 | later z hz =>
  obtain ⟨x, hx, rfl⟩ := List.mem_map.mp hz
  have g : (isName (.str x.nm) && _) = true := ok.wok x hx
  have s : (short (.str x.nm) && _) = true := (ok.shw x hx).1
  exact .nam _ _ (by decide +kernel) (wd (Bool.and_eq_true_iff.mp g).1) (Bool.and_eq_true_iff.mp s).1
 | flag w i hw h1 h2 =>
  refine .num _ i ?_ (by omega) (by omega)
  simp only [List.mem_cons, List.not_mem_nil, or_false] at hw
  rcases hw with rfl | rfl | rfl <;> decide +kernel
 | line w z hw hz _ =>
  obtain ⟨l, hl, rfl⟩ := List.mem_map.mp hz
  have g : (isName (.str l.nm) && _) = true := ok.lok l hl
  have s : (short (.str l.nm) && _) = true := ok.shl l hl
  refine .nam _ _ ?_ (wd (Bool.and_eq_true_iff.mp g).1) (Bool.and_eq_true_iff.mp s).1
  simp only [List.mem_cons, List.not_mem_nil, or_false] at hw
  rcases hw with rfl | rfl | rfl | rfl <;> decide +kernel
theorem gl_of {P : Pl} (ok : P.Ok) {l : Ln} (hl : l ∈ P.ls) : GL l := by
 have g : (isName (.str l.nm) && (isKind (.str l.kd) && (isIntD 1 9 (.int l.rk) && isSteps 8 (.tuple (l.st.map dSt))))) = true := ok.lok l hl
 have s : (short (.str l.nm) && _) = true := ok.shl l hl
 simp only [Bool.and_eq_true] at g
 obtain ⟨g1, g2, g3, g4⟩ := g
 have g3 : 1 ≤ l.rk ∧ l.rk ≤ 9 := of_decide_eq_true g3
 refine ⟨(Bool.and_eq_true_iff.mp (show (isWord _ && _) = true from g1)).1, (Bool.and_eq_true_iff.mp s).1, ?_, by omega, by omega, fun s hs => gs_of ok (ok.step hl hs), ok.steps8 hl⟩
 exact inV_str (show inV (.str l.kd) ((["edge", "level"] : List Str).map V.str) = true from g2)
theorem gw_of {P : Pl} (ok : P.Ok) {x : Wk} (hx : x ∈ P.ws) : GW x := by
 have g : (isName (.str x.nm) && (isIntD 1 9 (.int x.rk) && isIntD 1 99 (.int x.tk))) = true := ok.wok x hx
 have s : (short (.str x.nm) && _) = true := (ok.shw x hx).1
 simp only [Bool.and_eq_true] at g
 obtain ⟨g1, g2, g3⟩ := g
 have g2 : 1 ≤ x.rk ∧ x.rk ≤ 9 := of_decide_eq_true g2
 have g3 : 1 ≤ x.tk ∧ x.tk ≤ 99 := of_decide_eq_true g3
 exact ⟨(Bool.and_eq_true_iff.mp (show (isWord _ && _) = true from g1)).1, (Bool.and_eq_true_iff.mp s).1, by omega, by omega, by omega, by omega⟩
theorem all_clean : ∀ w ∈ (["line", "work", "edge", "level", "run", "bar", "later", "ring", "quiet", "mask", "unmask", "set", "clear", "await"] : List Str), 32 ∉ tl w ∧ 10 ∉ tl w := by decide +kernel
theorem clean_step {s : Str × Key} (g : GS s) : ∀ w ∈ stW s, clean w := by
 intro w hw
 have aw : ∀ w ∈ allW, w ∈ (["line", "work", "edge", "level", "run", "bar", "later", "ring", "quiet", "mask", "unmask", "set", "clear", "await"] : List Str) := by decide +kernel
 cases g with
 | num v i hv h0 h1 =>
  rcases List.mem_cons.mp hw with rfl | hw
  ·exact all_clean _ (aw _ (num_w _ hv).2.2)
  ·rw [List.mem_singleton.mp hw]; exact (num_ok h0 h1).1
 | nam v z hv h0 h1 =>
  rcases List.mem_cons.mp hw with rfl | hw
  ·exact all_clean _ (aw _ (nam_w _ hv).2)
  ·rw [List.mem_singleton.mp hw]; exact clean_word h0
theorem clean_line {l : Ln} (g : GL l) : ∀ w ∈ lnW l, clean w := by
 intro w hw
 unfold lnW at hw
 rcases List.mem_append.mp hw with hw | hw
 ·simp only [List.mem_cons, List.not_mem_nil, or_false] at hw
  rcases hw with rfl | rfl | rfl | rfl
  ·exact all_clean _ (by decide +kernel)
  ·exact clean_word g.nm
  ·have := g.kd
   simp only [List.mem_cons, List.not_mem_nil, or_false] at this
   rcases this with e | e <;> rw [e] <;> exact all_clean _ (by decide +kernel)
  ·exact (num_ok g.r0 g.r1).1
 ·obtain ⟨s, hs, hw⟩ := List.mem_flatMap.mp hw
  exact clean_step (g.st s hs) w hw
theorem clean_work {x : Wk} (g : GW x) : ∀ w ∈ wkW x, clean w := by
 intro w hw
 unfold wkW at hw
 simp only [List.mem_cons, List.not_mem_nil, or_false] at hw
 rcases hw with rfl | rfl | rfl | rfl
 ·exact all_clean _ (by decide +kernel)
 ·exact clean_word g.nm
 ·exact (num_ok g.r0 g.r1).1
 ·exact (num_ok g.t0 g.t1).1
theorem row_clean {P : Pl} (ok : P.Ok) : ∀ r ∈ rowW P, r ≠ [] ∧ ∀ w ∈ r, clean w := by
 intro r hr
 unfold rowW at hr
 rcases List.mem_append.mp hr with hr | hr
 ·obtain ⟨l, hl, rfl⟩ := List.mem_map.mp hr
  exact ⟨by unfold lnW; simp, clean_line (gl_of ok hl)⟩
 ·obtain ⟨x, hx, rfl⟩ := List.mem_map.mp hr
  exact ⟨by unfold wkW; simp, clean_work (gw_of ok hx)⟩
theorem split_row {r : List Str} (h : r ≠ []) (c : ∀ w ∈ r, clean w) : Txt.split (Txt.join " " r) " " = r := TL.split_join (s := 32) (S := []) (by decide +kernel) (by decide +kernel) h fun w hw => (c w hw).1
theorem nl_row {r : List Str} (c : ∀ w ∈ r, clean w) : 10 ∉ tl (Txt.join " " r) := by
 cases r with
 | nil =>
  show 10 ∉ tl (Txt.join " " [])
  decide +kernel
 | cons w ws =>
  rw [tl_row, List.mem_append, List.mem_flatMap]
  rintro (h | ⟨q, hq, h⟩)
  ·exact (c w List.mem_cons_self).2 h
  ·rcases List.mem_append.mp h with h | h
   ·exact absurd h (by decide +kernel)
   ·exact (c q (List.mem_cons_of_mem _ hq)).2 h
theorem split_plan {P : Pl} (ok : P.Ok) : Txt.split (planT P) "\n" = rowsT P := TL.split_join (s := 10) (S := []) (by decide +kernel) (by decide +kernel) (fun e => by
 unfold rowsT rowW at e
 exact ok.ne (List.map_eq_nil_iff.mp (List.append_eq_nil_iff.mp (List.map_eq_nil_iff.mp e)).1)) fun p hp => by
 obtain ⟨r, hr, rfl⟩ := List.mem_map.mp hp
 exact nl_row (row_clean ok r hr).2
theorem len_tlW (z : Str) : z.length = (tl z).length := (TL.len_tl z).symm
theorem join_len {y : Str} {k : Nat} : ∀ {ws : List Str}, (∀ w ∈ ws, w.length ≤ k) → (Txt.join y ws).length ≤ ws.length * (k + y.length)
 | [], _ => by
  rw [len_tlW, tl_joinT]
  exact Nat.zero_le _
 | w :: ws, h => by
  rw [len_tlW, tl_joinT, List.map_cons, join_more, List.length_append, List.flatMap_map]
  have h1 := h w List.mem_cons_self
  rw [len_tlW] at h1
  have h2 : ∀ vs : List Str, (∀ w ∈ vs, w.length ≤ k) → (vs.flatMap fun q => tl y ++ tl q).length ≤ vs.length * (k + y.length) := fun vs => by
   induction vs with
   | nil => intro _; exact Nat.zero_le _
   | cons v vs ih =>
    intro h
    have e := ih fun w hw => h w (List.mem_cons_of_mem _ hw)
    have e1 := h v List.mem_cons_self
    rw [len_tlW] at e1
    rw [List.flatMap_cons, List.length_append, List.length_append, List.length_cons, Nat.add_mul, Nat.one_mul]
    have := len_tlW y
    omega
  have h3 := h2 ws fun w hw => h w (List.mem_cons_of_mem _ hw)
  rw [List.length_cons, Nat.add_mul, Nat.one_mul]
  omega
theorem word_len {P : Pl} (ok : P.Ok) {r : List Str} (hr : r ∈ rowW P) : r.length ≤ 20 ∧ ∀ w ∈ r, w.length ≤ 40000 := by
 have six : ∀ w ∈ (["line", "work", "edge", "level", "run", "bar", "later", "ring", "quiet", "mask", "unmask", "set", "clear", "await"] : List Str), w.length ≤ 40000 := by decide +kernel
 have nl : ∀ {i : Int}, 0 ≤ i → i < 100 → (txI i).length ≤ 40000 := fun h0 h1 => Nat.le_trans (num_ok h0 h1).2.2.1 (by decide)
 have sl : ∀ {z : Str}, short (.str z) = true → z.length ≤ 40000 := fun h => short_str h
 have aw : ∀ w ∈ allW, w ∈ (["line", "work", "edge", "level", "run", "bar", "later", "ring", "quiet", "mask", "unmask", "set", "clear", "await"] : List Str) := by decide +kernel
 unfold rowW at hr
 rcases List.mem_append.mp hr with hr | hr
 ·obtain ⟨l, hl, rfl⟩ := List.mem_map.mp hr
  have g := gl_of ok hl
  refine ⟨by rw [lnW_len]; have := g.l8; omega, fun w hw => ?_⟩
  unfold lnW at hw
  rcases List.mem_append.mp hw with hw | hw
  ·simp only [List.mem_cons, List.not_mem_nil, or_false] at hw
   rcases hw with rfl | rfl | rfl | rfl
   ·exact six _ (by decide +kernel)
   ·exact sl g.sh
   ·have := g.kd
    simp only [List.mem_cons, List.not_mem_nil, or_false] at this
    rcases this with e | e <;> rw [e] <;> exact six _ (by decide +kernel)
   ·exact nl g.r0 g.r1
  ·obtain ⟨s, hs, hw⟩ := List.mem_flatMap.mp hw
   have gs := g.st s hs
   cases gs with
   | num v i hv h0 h1 =>
    rcases List.mem_cons.mp hw with rfl | hw
    ·exact six _ (aw _ (num_w _ hv).2.2)
    ·rw [List.mem_singleton.mp hw]; exact nl h0 h1
   | nam v z hv h0 h1 =>
    rcases List.mem_cons.mp hw with rfl | hw
    ·exact six _ (aw _ (nam_w _ hv).2)
    ·rw [List.mem_singleton.mp hw]; exact sl h1
 ·obtain ⟨x, hx, rfl⟩ := List.mem_map.mp hr
  have g := gw_of ok hx
  refine ⟨by show 4 ≤ 20; decide, fun w hw => ?_⟩
  unfold wkW at hw
  simp only [List.mem_cons, List.not_mem_nil, or_false] at hw
  rcases hw with rfl | rfl | rfl | rfl
  ·exact six _ (by decide +kernel)
  ·exact sl g.sh
  ·exact nl g.r0 g.r1
  ·exact nl g.t0 g.t1
theorem row_len {P : Pl} (ok : P.Ok) {r : List Str} (hr : r ∈ rowW P) : (Txt.join " " r).length ≤ 800020 := by
 obtain ⟨h1, h2⟩ := word_len ok hr
 have := join_len (y := " ") h2
 have e : (" " : Str).length = 1 := by decide +kernel
 rw [e] at this
 have h3 : r.length * (40000 + 1) ≤ 20 * (40000 + 1) := Nat.mul_le_mul_right _ h1
 omega
theorem rows_len {P : Pl} (ok : P.Ok) : (rowsT P).length ≤ 20 := by
 unfold rowsT rowW
 rw [List.length_map, List.length_append, List.length_map, List.length_map]
 have := ok.l12
 have := ok.w8
 omega
theorem plan_len {P : Pl} (ok : P.Ok) : (planT P).length ≤ 16000420 := by
 have h : ∀ w ∈ rowsT P, w.length ≤ 800020 := fun w hw => by
  obtain ⟨r, hr, rfl⟩ := List.mem_map.mp hw
  exact row_len ok hr
 have := join_len (y := "\n") h
 have e : ("\n" : Str).length = 1 := by decide +kernel
 rw [e] at this
 have h3 : (rowsT P).length * (800020 + 1) ≤ 20 * (800020 + 1) := Nat.mul_le_mul_right _ (rows_len ok)
 show (Txt.join "\n" (rowsT P)).length ≤ _
 omega
def spParse (K : Fg) : Sp := fun vs H Q _ => ∃ P : Pl, vs = [.ref (ga K "Setup"), .str (planT P)] ∧ P.Ok ∧ ∀ H' D, Same H H' → (∀ a ∈ D.own, H a = none) → PlanAt K H' D P → Q (.ref D.p) H'
section
variable {P : Program} {w : World} {K : Fg} {mg : Str → Option Value} {base : Heap}
theorem ok_Setup_parse (T : Txt K mg) : FnOk P w K mg base (L2.CX P w) 12 (cga K (ga K "Setup") "parse") (fdOf K (cga K (ga K "Setup") "parse")) ["cls", "text"] (spParse K) := by
 refine FunD.ok T.F_Setup_parse sc_Setup_parse (fun vs H Q E h => ?_) (fun cdv A outer s H vs Q E hr h => ⟨_, PSs.nox (pss_cons (ps_par (by rfl) sc_Setup_parse.nd (i := 2) (j := 3) rfl rfl (by decide) rfl rfl (pa_cons (pe_lst pa_nil) (pa_cons (pe_lst pa_nil) pa_nil)) (by rfl))
   (pss_cons (ps_for PassesOwn.never rfl (kIE K (pi_enum (by rfl) T.u_enumerate (pa_cons (pe_split (pv 1) pe_str) pa_nil))) (kGT K (pg_tup (n := 2) rfl (pgs_cons (zg 4 sc_Setup_parse.nd) (pgs_cons (zg 5 sc_Setup_parse.nd) pgs_nil))))
   (pss_cons (zset 6 sc_Setup_parse.nd (z_make T.mk_RowReader (ok_RowReader_init T) T.c_RowReader_init (hr.mono (by decide)) rfl T.g_RowReader passL (pa_cons (pv 5) (pa_cons (pv 4) pa_nil))))
   (pss_one (ps_if (PW.pt (pw_and (pt_val (z_meth0 (pv 6) T.cl_RowReader T.m_RowReader_is_work_row (ok_RowReader_is_work_row T) T.c_RowReader_is_work_row (hr.mono (by decide)) passL)) (pw_and1 (pt_cmpR (op_ne0K K hr.units) (pv 2) (pe_lst pa_nil) (nomark _))))) (pss_one (ps_expr (kBM K (pe_bm PySem.F.plainAttrs_list PySem.F.slot_list_append PySem.F.type_list_append mt_append (pv 3) (pa_cons (z_meth0 (pv 6) T.cl_RowReader T.m_RowReader_read_work (ok_RowReader_read_work T) T.c_RowReader_read_work (hr.mono (by decide)) passL) pa_nil))))) (pss_cons (ps_expr (z_meth (pv 6) T.cl_RowReader T.m_RowReader_need (ok_RowReader_need T) T.c_RowReader_need (hr.mono (by decide)) passL (pa_cons (pe_cmpR (op_eq0K K hr.units) (pv 3) (pe_lst pa_nil) (nomark _)) pa_nil)))
   (pss_one (ps_expr (kBM K (pe_bm PySem.F.plainAttrs_list PySem.F.slot_list_append PySem.F.type_list_append mt_append (pv 2) (pa_cons (z_meth0 (pv 6) T.cl_RowReader T.m_RowReader_read_line (ok_RowReader_read_line T) T.c_RowReader_read_line (hr.mono (by decide)) passL) pa_nil))))))))))
   (pss_one (ps_ret (z_makeV (i := 0) rfl (by first | exact .inl rfl | exact .inr (.inl rfl) | exact .inr (.inr rfl)) T.mk_Setup (ok_Setup_init T) T.c_Setup_init (hr.mono (by decide)) passL (pa_cons (pe_callTy (call_tuple_ofK K) (by rfl) T.u_tuple (by decide +kernel) (pa_cons (pv 2) pa_nil)) (pa_cons (pe_callTy (call_tuple_ofK K) (by rfl) T.u_tuple (by decide +kernel) (pa_cons (pv 3) pa_nil)) pa_nil))))))), ?_⟩)
 ·obtain ⟨P, rfl, _⟩ := h
  rfl
 obtain ⟨P, rfl, ok, q⟩ := h
 have plen := plan_len ok
 show (_ : TS) _ (some (.ref (ga K "Setup")) :: some (.str (planT P)) :: List.replicate 5 none) H
 try dsimp only [cxOf]
 dsimp only [List.replicate]
 walk_at "rz"
 rename_i L hL H1 s1 e1 W hW H2 s2 e2
 have hL0 := hL
 have hW0 : H W = none := s1.fr.back (A := []) hW
 have LW : L ≠ W := fun e => by rw [← e, e1] at hW; cases hW
 have eL2 := s2 _ _ e1
 have s02 := s1.trans s2
 unfold iEnum
 refine s_cons ?_
 refine s_m1 ?_
 walk_at "rz"
 refine ⟨⟨_, rfl⟩, ?_⟩
 walk_at "rz"
 refine ⟨by decide +kernel, by rw [sizeLine_eq]; omega, fun p hp => ?_⟩
 rw [split_plan ok]
 generalize eH : upd H2 p _ = H3
 have s3 := newS hp eH
 have e3 := newE eH
 clear eH
 have pL : p ≠ L := fun e => by rw [e, eL2] at hp; cases hp
 have pW : p ≠ W := fun e => by rw [e, e2] at hp; cases hp
 walk_at "rz"
 have lr : (rowsT P).length = P.ls.length + P.ws.length := by
  unfold rowsT rowW
  rw [List.length_map, List.length_append, List.length_map, List.length_map]
 have eL3 := s3 _ _ eL2
 have eW3 := s3 _ _ e2
 have s03 := s02.trans s3
 refine ⟨p, (rowsT P).map V.str, rfl, SqL.of e3, for_it (walk_enum (K := K) (a := p) (xs := (rowsT P).map V.str)) (fun i σ Hx => (∃ y4 y5 y6, σ = [some (.ref (ga K "Setup")), some (.str (planT P)), some (.ref L), some (.ref W), y4, y5, y6]) ∧ Fr [L, W] H3 Hx ∧ (∃ vs, Hx L = some (.lst vs) ∧ DpAll K Hx vs ((P.ls.take i).map dLn)) ∧ ∃ us, Hx W = some (.lst us) ∧ DpAll K Hx us ((P.ws.take (i - P.ls.length)).map dWk))
  ⟨⟨_, _, _, rfl⟩, Fr.refl, ⟨[], eL3, .nil⟩, [], eW3, by rw [Nat.zero_sub]; exact .nil⟩ (fun i σ Hx _ ⟨_, f, _⟩ => SqL.of (f.at e3 (by simp [pL, pW]))) (fun i x σ Ha Hb hi ⟨⟨y4, y5, y6, es⟩, fx, ⟨vs, eL, dL⟩, us, eW, dW⟩ y => ?_) (fun σ Hx ⟨⟨y4, y5, y6, es⟩, fx, ⟨vs, eL, dL⟩, us, eW, dW⟩ => ?_)⟩
 ·subst es
  obtain ⟨t, _, pv, rfl, ht, rfl, h1, h2⟩ := y
  cases h1
  generalize eH : upd Ha t _ = Hc
  have sc1 := newS ht eH
  have ec := newE eH
  clear eH
  rw [List.length_map] at hi
  have hri : i < (rowW P).length := by
   have : (rowW P).length = (rowsT P).length := by unfold rowsT; rw [List.length_map]
   omega
  obtain ⟨r, hr⟩ : ∃ r, (rowW P)[i]? = some r := ⟨_, List.getElem?_eq_getElem hri⟩
  have hrm := List.mem_of_getElem? hr
  have hpv : pv = .str (Txt.join " " r) := by
   have h2 : ((rowsT P).map V.str)[i]? = some pv := h2
   unfold rowsT at h2
   rw [List.getElem?_map, List.getElem?_map, hr] at h2
   exact (Option.some.inj h2).symm
  subst hpv
  obtain ⟨rne, rcl⟩ := row_clean ok r hrm
  obtain ⟨rl20, _⟩ := word_len ok hrm
  have rlen := row_len ok hrm
  refine s_gtup (SqT.of ec) rfl ?_
  walk_at "rz"
  walk_at "zm"
  rename_i x dx hx Hd sd ed
  refine ⟨x, Txt.join " " r, dx, (i : Nat), r, rfl, ed, split_row rne rcl, by rw [sizeLine_eq]; omega, by omega, fun He p2 fe hp2 rd => ⟨rfl, ?_⟩⟩
  have hx3 : H3 x = none := fx.back ((sc1.fr : Fr [] Ha Hc).back hx)
  have hp23 : H3 p2 = none := fx.back ((sc1.fr : Fr [] Ha Hc).back ((sd.fr : Fr [] Hc Hd).back hp2))
  have xL : x ≠ L := fun e => by rw [e, eL3] at hx3; cases hx3
  have xW : x ≠ W := fun e => by rw [e, eW3] at hx3; cases hx3
  have pL2 : p2 ≠ L := fun e => by rw [e, eL3] at hp23; cases hp23
  have pW2 : p2 ≠ W := fun e => by rw [e, eW3] at hp23; cases hp23
  have fce : Fr [x] Ha He := ((sc1.trans sd).fr).trans fe
  have eLe := fce.at eL (by simp [Ne.symm xL])
  have eWe := fce.at eW (by simp [Ne.symm xW])
  have dLe := dL.tk fce.tk (tupds_map tupd_dLn _)
  have dWe := dW.tk fce.tk (tupds_map tupd_dWk _)
  have fxe : Fr [L, W] H3 He := fx.seq fce fun y hy => .inr (by rw [List.mem_singleton.mp hy]; exact hx3)
  obtain ⟨dxe, hxe⟩ := rd.ins
  clear sd ed fe fce sc1 ec eL eW dL dW fx hx hp2 ht
  by_cases hin : i < P.ls.length
  ·obtain ⟨l, hl⟩ : ∃ l, P.ls[i]? = some l := ⟨_, List.getElem?_eq_getElem hin⟩
   have er : r = lnW l := by
    unfold rowW at hr
    rw [List.getElem?_append_left (by rw [List.length_map]; exact hin), List.getElem?_map, hl] at hr
    exact (Option.some.inj hr).symm
   subst er
   have g := gl_of ok (List.mem_of_getElem? hl)
   walk_at "rz"
   refine ⟨x, p2, lnW l, (i : Nat), 0, "line", rfl, rd, rfl, ?_⟩
   rw [show decide (V.str ("line" : Str) = V.str "work") = false from by decide +kernel]
   walk_at "rz"
   rename_i z hz Hf sf ef
   refine s_eq0L (SqL.of (sf _ _ eWe)) (SqL.of ef) ?_
   have us0 : us = [] := by
    rw [show i - P.ls.length = 0 by omega] at dWe
    cases dWe
    rfl
   subst us0
   walk_at "rz"
   refine ⟨x, rfl, ?_⟩
   have rdf := rd.same sf
   have eLf := sf _ _ eLe
   obtain ⟨dxf, hxf⟩ := rdf.ins
   walk_at "rz"
   refine s_tyL eLf ?_
   walk_at "rz"
   refine ⟨x, p2, (i : Nat), l, rfl, rdf, g, fun Hg t9 fg dg => ?_⟩
   have eLg := fg.at eLf (by simp [Ne.symm xL])
   have eWg := fg.at (sf _ _ eWe) (by simp [Ne.symm xW])
   have lvs : vs.length ≤ 12 := by rw [dLe.len, List.length_map, List.length_take]; have := ok.l12; omega
   walk_at "rz"
   refine s_append eLg (by rw [sizeLine_eq]; omega) ?_
   have fh : Fr [L] Hg (upd Hg L (.lst (vs ++ [.ref t9]))) := Fr.upd (by simp) eLg rfl
   have feg : Fr [x] He Hg := (sf.fr).trans fg
   have tkh := feg.tk.trans fh.tk
   refine ⟨⟨_, _, _, rfl⟩, (fxe.seq feg fun y hy => .inr (by rw [List.mem_singleton.mp hy]; exact hx3)).trans (fh.mono (by simp)), ⟨_, upd_same, ?_⟩, [], fh.at eWg (by simp [Ne.symm LW]), ?_⟩
   ·rw [List.take_add_one, hl, List.map_append]
    exact (dLe.tk tkh (tupds_map tupd_dLn _)).app (.cons (dg.tk fh.tk (tupd_dLn _)) .nil)
   ·rw [show i + 1 - P.ls.length = 0 by omega]
    exact .nil
  ·obtain ⟨y, hy⟩ : ∃ y, P.ws[i - P.ls.length]? = some y := ⟨_, List.getElem?_eq_getElem (by omega)⟩
   have er : r = wkW y := by
    unfold rowW at hr
    rw [List.getElem?_append_right (by rw [List.length_map]; omega), List.length_map, List.getElem?_map, hy] at hr
    exact (Option.some.inj hr).symm
   subst er
   have g := gw_of ok (List.mem_of_getElem? hy)
   walk_at "rz"
   refine ⟨x, p2, wkW y, (i : Nat), 0, "work", rfl, rd, rfl, ?_⟩
   rw [show decide (V.str ("work" : Str) = V.str "work") = true from by decide +kernel]
   walk_at "rz"
   rename_i z hz Hf sf ef
   have vs0 : vs.isEmpty = false := by
    have : vs.length = P.ls.length := by rw [dLe.len, List.length_map, List.length_take]; omega
    cases vs with
    | nil => exact absurd (List.eq_nil_of_length_eq_zero this.symm) ok.ne
    | cons _ _ => rfl
   refine ⟨L, z, vs, rfl, rfl, .inl ⟨SqL.of (sf _ _ eLe), SqL.of ef⟩, ?_⟩
   rw [vs0]
   walk_at "rz"
   have rdf := rd.same sf
   have eWf := sf _ _ eWe
   obtain ⟨dxf, hxf⟩ := rdf.ins
   walk_at "rz"
   refine s_tyL eWf ?_
   walk_at "rz"
   refine ⟨x, p2, (i : Nat), y, rfl, rdf, g, fun Hg t9 fg dg => ?_⟩
   have eWg := fg.at eWf (by simp [Ne.symm xW])
   have eLg := fg.at (sf _ _ eLe) (by simp [Ne.symm xL])
   have lus : us.length ≤ 8 := by rw [dWe.len, List.length_map, List.length_take]; have := ok.w8; omega
   walk_at "rz"
   refine s_append eWg (by rw [sizeLine_eq]; omega) ?_
   have fh : Fr [W] Hg (upd Hg W (.lst (us ++ [.ref t9]))) := Fr.upd (by simp) eWg rfl
   have feg : Fr [x] He Hg := (sf.fr).trans fg
   have tkh := feg.tk.trans fh.tk
   refine ⟨⟨_, _, _, rfl⟩, (fxe.seq feg fun y hy => .inr (by rw [List.mem_singleton.mp hy]; exact hx3)).trans (fh.mono (by simp)), ⟨vs, fh.at eLg (by simp [LW]), ?_⟩, _, upd_same, ?_⟩
   ·rw [List.take_of_length_le (by omega)] at dLe ⊢
    exact dLe.tk tkh (tupds_map tupd_dLn _)
   ·rw [show i + 1 - P.ls.length = (i - P.ls.length) + 1 by omega, List.take_add_one, hy, List.map_append]
    exact (dWe.tk tkh (tupds_map tupd_dWk _)).app (.cons (dg.tk fh.tk (tupd_dWk _)) .nil)
 ·subst es
  rw [List.length_map, lr, List.take_of_length_le (by omega)] at dL
  rw [List.length_map, lr, List.take_of_length_le (by omega)] at dW
  walk_at "rz"
  have s0x : Same H Hx := ((s03.fr : Fr [] H H3).seq fx (fun y hy => by
   simp only [List.mem_cons, List.not_mem_nil, or_false] at hy
   rcases hy with rfl | rfl
   ·exact .inr hL0
   ·exact .inr hW0)).same
  refine s_makeV rfl ?_
  walk_at "rz"
  refine ⟨L, vs, rfl, .inl ⟨SqL.of eL, fun ta hta => ?_⟩⟩
  generalize eH : upd Hx ta _ = Ha
  have sa := newS hta eH
  have ea := newE eH
  clear eH
  walk_at "rz"
  refine ⟨W, us, rfl, .inl ⟨SqL.of (sa _ _ eW), fun tb htb => ?_⟩⟩
  generalize eH : upd Ha tb _ = Hb
  have sb := newS htb eH
  have eb := newE eH
  clear eH
  walk_at "rz"
  intro x dx hx hdx hne
  generalize eH : upd (upd Hb dx _) x _ = Hc
  have sc1 := mkS hx hdx eH
  have ec := mkE eH
  clear eH
  have dA : Dp K Hc (.ref ta) (.tuple (P.ls.map dLn)) := .tup (SqT.of ((sb.trans sc1) _ _ ea)) (dL.same (sa.trans (sb.trans sc1)))
  have dB : Dp K Hc (.ref tb) (.tuple (P.ws.map dWk)) := .tup (SqT.of (sc1 _ _ eb)) (dW.same (sa.trans (sb.trans sc1)))
  refine ⟨x, ta, tb, dx, P, rfl, ec, dA, dB, ok, fun H6 rd wd hrd hwd hrw f6 pl => ⟨rfl, ?_⟩⟩
  have s0b := s0x.trans (sa.trans sb)
  have s0c := s0b.trans sc1
  have s06 : Same H H6 := ((s0b.fr : Fr [] H Hb).trans ((sc1.fr : Fr [] Hb Hc).seq f6 (fun y hy => .inr (by rw [List.mem_singleton.mp hy]; exact hx)))).same
  refine q H6 ⟨x, rd, wd⟩ s06 (fun a ha => ?_) pl
  simp only [Z.PA.own, List.mem_cons, List.not_mem_nil, or_false] at ha
  rcases ha with rfl | rfl | rfl
  ·exact s0b.fr.back (A := []) hx
  ·exact s0c.fr.back (A := []) hrd
  ·exact s0c.fr.back (A := []) hwd
end
set_option maxHeartbeats 4000000
open PySem PySem.Spec PyProof.Rows L2 Z
open He (ga ma)
open TL (tl)
theorem keys_len : ∀ l : List (Str × Key), (l.flatMap fun s => [(.inr s.1 : Key), s.2]).length = 2 * l.length
 | [] => rfl
 | s :: t => by
  rw [List.flatMap_cons, List.length_append, keys_len t]
  simp only [List.length_cons, List.length_nil]
  omega
def rowV (P : Pl) : List (List V) := P.ls.map lnV ++ P.ws.map wkV
theorem row_tx (P : Pl) : (rowV P).map (fun ys => ys.map txV) = rowW P := by
 unfold rowV rowW
 rw [List.map_append, List.map_map, List.map_map]
 congr 1
 exact List.map_congr_left fun l _ => tx_line l
theorem val_ok {P : Pl} (ok : P.Ok) {ys : List V} (h : ys ∈ rowV P) {v : V} (hv : v ∈ ys) : (∃ i, v = .int i ∧ 0 ≤ i ∧ i < 100) ∨ ∃ z, v = .str z := by
 unfold rowV at h
 rcases List.mem_append.mp h with h | h
 ·obtain ⟨l, hl, rfl⟩ := List.mem_map.mp h
  have g := gl_of ok hl
  unfold lnV at hv
  rcases List.mem_append.mp hv with hv | hv
  ·simp only [List.mem_cons, List.not_mem_nil, or_false] at hv
   rcases hv with rfl | rfl | rfl | rfl
   ·exact .inr ⟨_, rfl⟩
   ·exact .inr ⟨_, rfl⟩
   ·exact .inr ⟨_, rfl⟩
   ·exact .inl ⟨_, rfl, g.r0, g.r1⟩
  ·obtain ⟨k, hk, rfl⟩ := List.mem_map.mp hv
   obtain ⟨s, hs, hk⟩ := List.mem_flatMap.mp hk
   rcases List.mem_cons.mp hk with rfl | hk
   ·exact .inr ⟨_, rfl⟩
   ·rw [List.mem_singleton.mp hk]
    have gs := g.st s hs
    cases gs with
    | num w i _ h0 h1 => exact .inl ⟨i, rfl, h0, h1⟩
    | nam w z _ _ _ => exact .inr ⟨z, rfl⟩
 ·obtain ⟨x, hx, rfl⟩ := List.mem_map.mp h
  have g := gw_of ok hx
  unfold wkV at hv
  simp only [List.mem_cons, List.not_mem_nil, or_false] at hv
  rcases hv with rfl | rfl | rfl | rfl
  ·exact .inr ⟨_, rfl⟩
  ·exact .inr ⟨_, rfl⟩
  ·exact .inl ⟨_, rfl, g.r0, g.r1⟩
  ·exact .inl ⟨_, rfl, g.t0, g.t1⟩
def spText (K : Fg) : Sp := fun vs H Q _ => ∃ D P, vs = [.ref D.p] ∧ PlanAt K H D P ∧ ∀ H', Same H H' → Q (.str (planT P)) H'
section
variable {P : Program} {w : World} {K : Fg} {mg : Str → Option Value} {base : Heap}
theorem ok_Setup_text (T : Txt K mg) : FnOk P w K mg base (L2.CX P w) 1 (pga K (ga K "Setup") "text") (fdOf K (pga K (ga K "Setup") "text")) ["self"] (spText K) := by
 refine FunD.ok T.F_Setup_text sc_Setup_text (fun vs H Q E h => ?_) (fun cdv A outer s H vs Q E hr h => ⟨_, PSs.nox (pss_cons (ps_setLc (i := 1) (own := [("line", 2)]) rfl sc_Setup_text.nd rfl rfl (sw_true rfl rfl rfl (by decide +kernel)) (kIT K (pi_tup (kFld K (pe_fld (pv 0) rfl)))) (blkOk_by (own := [("line", 2)]) (N := n_Setup_text) (sc := defScope s_Setup_text) (by decide +kernel)) (fun _ _ _ _ _ => (zg 2 sc_Setup_text.nd)) (fun _ _ _ _ _ => pts_nil) (fun _ _ _ _ _ => (pe_op op_cat (pe_lst (pa_cons pe_str (kSt K (StX.pa_star (pe_slice (sl_tupAK K) (pv 2) po_none (po_some pe_int)) pa_nil)))) (pe_lc2 (own := [("step", 3), ("part", 4)]) (vs1 := [4]) rfl sc_Setup_text.nd (kIT K (pi_tup (pe_ix (ix_tupK K) (pv 2) pe_int (fun _ _ => rfl)))) (blkOk_by (own := [("step", 3), ("part", 4)]) (N := n_Setup_text) (sc := { kind := .function, names := [(".0", .local), ("line", .local)], isGenerator := false, isCoroutine := false }) (by decide +kernel)) (by decide) (fun _ _ _ _ _ => (zg 3 sc_Setup_text.nd)) (fun _ _ _ _ _ => pts_nil) (fun _ _ _ _ _ => (kIT K (pi_tup (pv 3)))) (fun _ _ _ _ _ => (zg 4 sc_Setup_text.nd)) (fun _ _ _ _ _ => pts_nil) (fun _ _ _ _ _ => (pv 4))))))
   (pss_cons (zset 1 sc_Setup_text.nd (pe_op op_cat (pv 1) (pe_lc (own := [("work", 5)]) rfl sc_Setup_text.nd (kIT K (pi_tup (kFld K (pe_fld (pv 0) rfl)))) (blkOk_by (own := [("work", 5)]) (N := n_Setup_text) (sc := defScope s_Setup_text) (by decide +kernel)) (fun _ _ _ _ _ => (zg 5 sc_Setup_text.nd)) (fun _ _ _ _ _ => pts_nil) (fun _ _ _ _ _ => (pe_lst (pa_cons pe_str (kSt K (StX.pa_star (pv 5) pa_nil))))))))
   (pss_one (ps_ret (pe_joinK K pe_str (pe_lc (own := [("row", 6)]) rfl sc_Setup_text.nd (kIL K (pi_list (pv 1))) (blkOk_by (own := [("row", 6)]) (N := n_Setup_text) (sc := defScope s_Setup_text) (by decide +kernel)) (fun _ _ _ _ _ => (zg 6 sc_Setup_text.nd)) (fun _ _ _ _ _ => pts_nil) (fun _ _ _ _ _ => (pe_joinK K pe_str (pe_lc (own := [("word", 7)]) rfl sc_Setup_text.nd (kIL K (pi_list (pv 6))) (blkOk_by (own := [("word", 7)]) (N := n_Setup_text) (sc := { kind := .function, names := [(".0", .local), ("row", .local)], isGenerator := false, isCoroutine := false }) (by decide +kernel)) (fun _ _ _ _ _ => (zg 7 sc_Setup_text.nd)) (fun _ _ _ _ _ => pts_nil) (fun _ _ _ _ _ => (pe_callTy call_strD (by rfl) T.u_str (by decide +kernel) (pa_cons (pv 7) pa_nil)))))))))))), ?_⟩)
 ·obtain ⟨D, P, rfl, _⟩ := h
  rfl
 obtain ⟨D, P, rfl, pl, q⟩ := h
 have ok := pl.ok
 show (_ : TS) _ (some (.ref D.p) :: List.replicate 7 none) H
 try dsimp only [cxOf]
 dsimp only [List.replicate]
 obtain ⟨dx, a, b, hp, da, db⟩ := pl.ins
 obtain ⟨_, las, e, hTl, hAl⟩ := da.tupI
 cases e
 obtain ⟨_, was, e, hTw, hAw⟩ := db.tupI
 cases e
 have l12 := ok.l12
 have w8 := ok.w8
 have lla : las.length = P.ls.length := by rw [hAl.len, List.length_map]
 have lwa : was.length = P.ws.length := by rw [hAw.len, List.length_map]
 walk_at "rz"
 refine lcT_newL (yss := P.ls.map lnV) hTl (by rw [List.length_map, lla]) (by omega) (fun i ys v Ha Yes No hi hy sa yes => ?_) (fun R H1 ls hR s1 eR nd nR fresh hls => ?_)
 ·rw [List.getElem?_map] at hy
  obtain ⟨l, hl, rfl⟩ := Option.map_eq_some_iff.mp hy
  obtain ⟨d, hd, dv⟩ := (hAl.same sa).getv hi
  rw [List.getElem?_map, hl] at hd
  cases hd
  have hlm := List.mem_of_getElem? hl
  have l8 := ok.steps8 hlm
  obtain ⟨t9, zs, rfl, hT9, hA9⟩ := dv.tupI
  cases hA9 with | cons g1 hA9 => ?_
  cases hA9 with | cons g2 hA9 => ?_
  cases hA9 with | cons g3 hA9 => ?_
  cases hA9 with | cons g4 hA9 => ?_
  cases hA9
  cases g1
  cases g2
  cases g3
  obtain ⟨st, ss, rfl, hTs, hAs⟩ := g4.tupI
  walk_at "rz"
  refine ⟨rfl, ?_⟩
  walk_at "rz"
  refine s_slA hT9 fun a1 Hb sb eb => ?_
  rw [show (3 : Int) = ((3 : Nat) : Int) from rfl, cut_take] at eb
  refine ⟨a1, _, rfl, .inl eb, ?_⟩
  refine s_nil ⟨by rw [sizeLine_eq]; simp, fun p1 hp1 => ?_⟩
  generalize eH : upd Hb p1 _ = Hc
  have sc1 := newS hp1 eH
  have ec : Hc p1 = some (.lst [.str "line", .str l.nm, .str l.kd, .int l.rk]) := newE eH
  clear eH
  have sac := sb.trans sc1
  have hT9c := sac.sqT hT9
  have tkD : ∀ y : Key, tupd (kD y) = true := fun y => by cases y <;> rfl
  refine s_lc2T (l := l.st) (da := dSt) (fun R hR => ?_) (sac.sqT hTs) (hAs.same sac) (fun s => [(.inr s.1 : Key), s.2]) kD kD tkD tkD ?_ (fun s v Hd R hs sd dv cont => ?_) (fun L2 He ws hL2 se ee de => ?_)
  ·walk_at "rz"
   exact hR
  ·rw [keys_len]
   omega
  ·obtain ⟨c8, z8, rfl, hT8, hA8⟩ := dv.tupI
   refine s_gname (cont _ c8 z8 rfl rfl hT8 hA8 fun y w Hf Yes2 No2 hy sf dw yes2 => ?_)
   refine s_gname ⟨rfl, s_yes (ite_t rfl ?_)⟩
   walk_at "rz"
   exact yes2 _ _ (Same.refl _) dw
  have ew := dp_keys de
  subst ew
  have lw : ((l.st.flatMap fun s => [(.inr s.1 : Key), s.2]).map kV).length ≤ 100 := by
   rw [List.length_map]
   rw [keys_len]
   omega
  refine s_cat (se _ _ ec) ee (by rw [sizeLine_eq]; simp only [List.length_cons, List.length_nil]; omega) fun D9 hD9 => ?_
  exact yes D9 _ ((sac.trans se).trans (Same.new hD9)) ((sac.trans se).fr.back (A := []) hD9) upd_same
 walk_at "rz"
 refine lcT_newL (yss := P.ws.map wkV) (s1.sqT hTw) (by rw [List.length_map, lwa]) (by omega) (fun i ys v Ha Yes No hi hy sa yes => ?_) (fun R2 H2 ls2 hR2 s2 eR2 nd2 nR2 fresh2 hls2 => ?_)
 ·rw [List.getElem?_map] at hy
  obtain ⟨x, hx, rfl⟩ := Option.map_eq_some_iff.mp hy
  obtain ⟨d, hd, dv⟩ := ((hAw.same s1).same sa).getv hi
  rw [List.getElem?_map, hx] at hd
  cases hd
  obtain ⟨t9, zs, rfl, hT9, hA9⟩ := dv.tupI
  cases hA9 with | cons g1 hA9 => ?_
  cases hA9 with | cons g2 hA9 => ?_
  cases hA9 with | cons g3 hA9 => ?_
  cases hA9
  cases g1
  cases g2
  cases g3
  walk_at "rz"
  refine ⟨rfl, ?_⟩
  walk_at "rz"
  refine ⟨t9, _, rfl, .inl hT9, ?_⟩
  refine s_nil ⟨by rw [sizeLine_eq]; simp, fun p1 hp1 => ?_⟩
  exact yes p1 _ (Same.new hp1) hp1 upd_same
 have ll1 : ls.length = P.ls.length := by rw [hls.len, List.length_map]
 have ll2 : ls2.length = P.ws.length := by rw [hls2.len, List.length_map]
 refine s_cat (s2 _ _ eR) eR2 (by rw [sizeLine_eq, List.length_map, List.length_map]; omega) fun RR hRR => ?_
 rw [← List.map_append]
 generalize eH : upd H2 RR _ = H3
 have s3 := newS hRR eH
 have e3 := newE eH
 clear eH
 have hal : Lsts H3 (ls ++ ls2) (rowV P) := ((hls.keep (A := []) (s2.fr) (by simp)).keep (A := []) (s3.fr) (by simp)).app (hls2.keep (A := []) (s3.fr) (by simp))
 have s03 := (s1.trans s2).trans s3
 have lrr : (ls ++ ls2).length ≤ 20 := by rw [List.length_append]; omega
 clear hls hls2 fresh fresh2 nd nd2 nR nR2 eR eR2 s1 s2 s3 hR hR2 hRR
 walk_at "rz"
 refine s_m1 ?_
 walk_at "rz"
 refine ⟨⟨_, rfl⟩, ?_⟩
 walk_at "rz"
 refine lcLX_t (SqL.of e3) (fun i => .str (Txt.join " " ((rowW P).getD i []))) (by rw [List.length_map]; omega) (fun _ _ => rfl) (fun i v Ha Yes No hi sa yes => ?_) (fun D9 H4 ys hD9 s4 e4 d4 => ?_)
 ·rw [List.getElem?_map] at hi
  obtain ⟨la, hla, rfl⟩ := Option.map_eq_some_iff.mp hi
  obtain ⟨ys, hys, ely⟩ := (hal.keep (A := []) (sa.fr) (by simp)).get hla
  have hm := List.mem_of_getElem? hys
  have hrw : (rowW P)[i]? = some (ys.map txV) := by rw [← row_tx, List.getElem?_map, hys]; rfl
  have hrd : (rowW P).getD i [] = ys.map txV := by rw [List.getD_eq_getElem?_getD, hrw]; rfl
  obtain ⟨wl, wk⟩ := word_len ok (List.mem_of_getElem? hrw)
  rw [hrd] at yes
  rw [List.length_map] at wl
  walk_at "rz"
  refine ⟨rfl, ?_⟩
  walk_at "rz"
  refine s_m1 ?_
  walk_at "rz"
  refine ⟨⟨_, rfl⟩, ?_⟩
  walk_at "rz"
  refine lcLX_t (SqL.of ely) (fun j => .str (txV (ys.getD j .non))) (by omega) (fun _ _ => rfl) (fun j v Hb Yes2 No2 hj sb yes2 => ?_) (fun D8 H5 zs hD8 s5 e5 d5 => ?_)
  ·have hjd : ys.getD j .non = v := by rw [List.getD_eq_getElem?_getD, hj]; rfl
   rw [hjd] at yes2
   walk_at "rz"
   refine ⟨rfl, ?_⟩
   walk_at "rz"
   rcases val_ok ok hm (List.mem_of_getElem? hj) with ⟨n, rfl, n0, n1⟩ | ⟨z, rfl⟩
   ·refine .inl ⟨n, rfl, ?_, yes2 _ _ (Same.refl _) (.str _)⟩
    exact Nat.lt_of_le_of_lt (Nat.log2_le_self _) (by omega)
   ·exact .inr ⟨z, rfl, yes2 _ _ (Same.refl _) (.str _)⟩
  have d5 : DpAll K H5 zs ((ys.map txV).map PyData.str) := by
   have e := range_map ys (fun v => PyData.str (txV v)) .non
   rw [List.map_map, ← show ys.map (fun v => PyData.str (txV v)) = ys.map (PyData.str ∘ txV) from rfl, ← e]
   exact d5
  rw [dp_strs d5] at e5
  walk_at "rz"
  refine ⟨" ", D8, ys.map txV, rfl, rfl, .inl (SqL.of e5), ?_, yes _ _ s5 (.str _)⟩
  have := sum_len wk
  have e1 : (" " : Str).length = 1 := by decide +kernel
  rw [e1, List.length_map] at *
  have : ys.length * 40000 ≤ 20 * 40000 := Nat.mul_le_mul_right _ wl
  omega
 have lrw : (List.map V.ref (ls ++ ls2)).length = (rowW P).length := by
  rw [List.length_map, List.length_append, ll1, ll2]
  unfold rowW
  rw [List.length_append, List.length_map, List.length_map]
 have d4 : DpAll K H4 ys ((rowsT P).map PyData.str) := by
  have e := range_map (rowW P) (fun r => PyData.str (Txt.join " " r)) []
  rw [lrw, e] at d4
  unfold rowsT
  rw [List.map_map]
  exact d4
 rw [dp_strs d4] at e4
 refine ⟨"\n", D9, rowsT P, rfl, rfl, .inl (SqL.of e4), ?_, q _ (s03.trans s4)⟩
 have h : ∀ x ∈ rowsT P, x.length ≤ 800020 := fun x hx => by
  obtain ⟨r, hr, rfl⟩ := List.mem_map.mp hx
  exact row_len ok hr
 have h1 := sum_len h
 have h2 := rows_len ok
 have h3 : (rowsT P).length * 800020 ≤ 20 * 800020 := Nat.mul_le_mul_right _ h2
 have e1 : ("\n" : Str).length = 1 := by decide +kernel
 rw [e1]
 omega
end
set_option maxHeartbeats 8000000
open PySem PySem.Spec PyProof.Rows L2 Z
open He (ga ma)
open TL (tl)
def spSetEq (K : Fg) : Sp := fun vs H Q _ => ∃ D D' P P', vs = [.ref D.p, .ref D'.p] ∧ PlanAt K H D P ∧ PlanAt K H D' P' ∧ ∀ H', Same H H' → Q (.bl (PyData.eqv (planD P) (planD P'))) H'
def spPLines (K : Fg) : Sp := fun vs H Q _ => ∃ PD P, vs = [.ref PD.p] ∧ PlanAt K H PD P ∧ ∀ a, Dp K H (.ref a) (.tuple (P.ls.map dLn)) → Q (.ref a) H
def spPWorks (K : Fg) : Sp := fun vs H Q _ => ∃ PD P, vs = [.ref PD.p] ∧ PlanAt K H PD P ∧ ∀ a, Dp K H (.ref a) (.tuple (P.ws.map dWk)) → Q (.ref a) H
def oneP : Pl := ⟨[⟨"a", "edge", 9, [("run", .inl 99)]⟩], []⟩
theorem one_ok : oneP.Ok := by
 refine ⟨by simp [oneP], by decide, by decide, fun l hl => ?_, fun l hl => ?_, by decide, by decide, fun l hl s hs => ?_, fun l hl => ?_, fun l hl => ?_⟩
 ·rw [List.mem_singleton.mp hl]
  decide +kernel
 ·cases hl
 ·rw [List.mem_singleton.mp hl] at hs
  rw [List.mem_singleton.mp hs]
  decide +kernel
 ·rw [List.mem_singleton.mp hl]
  decide +kernel
 ·cases hl
theorem shaped_parts {P : Pl} (ok : P.Ok) : SeqAt.shaped (.tuple (P.ls.map dLn)) = true ∧ SeqAt.shaped (.tuple (P.ws.map dWk)) = true := by
 have h := shaped_plan ok
 have h : (((PyData.tuple (P.ls.map dLn)).canLay0 && ((PyData.tuple (P.ws.map dWk)).canLay0 && true)) && decide ((planD P).depth ≤ 64)) = true := h
 simp only [Bool.and_eq_true, decide_eq_true_eq] at h
 obtain ⟨⟨h1, h2, _⟩, h3⟩ := h
 have h3 : max (PyData.tuple (P.ls.map dLn)).depth (max (PyData.tuple (P.ws.map dWk)).depth 0) + 1 ≤ 64 := h3
 constructor
 ·show (_ && decide _) = true
  rw [h1, decide_eq_true (by omega)]
  rfl
 ·show (_ && decide _) = true
  rw [h2, decide_eq_true (by omega)]
  rfl
theorem s_neRefl {K : Fg} {H : Hp} {Q : VK} {x y : V} {d : PyData} (h : SeqAt.shaped d = true) (hx : Dp K H x d) (hy : Dp K H y d) (q : Q (.bl false) H) : rNeD K x y H Q := by
 refine ⟨d, d, hx, hy, h, h, ?_⟩
 rw [SeqAt.eqv_refl _ (SeqAt.canLay_of_shaped h)]
 exact q
def spLaw (K : Fg) : Sp := fun vs H Q _ => ∃ (a : Addr) (ns : List Int), vs = [.ref a] ∧ SqL K H a (ns.map V.int) ∧ ∀ H', Q (.bl true) H'
section
variable {P : Program} {w : World} {K : Fg} {mg : Str → Option Value} {base : Heap}
theorem ok_Setup_eq (T : Txt K mg) : FnOk P w K mg base (L2.CX P w) 2 (ma K (ga K "Setup") "__eq__") (fdOf K (ma K (ga K "Setup") "__eq__")) ["self", "other"] (spSetEq K) := by
 refine FunD.ok T.F_Setup_eq sc_Setup_eq (fun vs H Q E h => ?_) (fun cdv A outer s H vs Q E hr h => ⟨_, PSs.nox (pss_one (ps_ret (pe_and (pe_callB (call_isiOK K) (by rfl) T.u_isinstance (by decide +kernel) (pa_cons (pv 1) (pa_cons (z_ref T.g_Setup) pa_nil))) (pe_one (pe_cmpR (op_eqDK K hr.units) (pe_tup (pa_cons (kFld K (pe_fld (pv 0) rfl)) (pa_cons (kFld K (pe_fld (pv 0) rfl)) pa_nil))) (pe_tup (pa_cons (kFld K (pe_fld (pv 1) rfl)) (pa_cons (kFld K (pe_fld (pv 1) rfl)) pa_nil))) (nomark _)))))), ?_⟩)
 ·obtain ⟨D, D', P, P', rfl, _⟩ := h
  rfl
 obtain ⟨D, D', P, P', rfl, pl, pl', q⟩ := h
 show (_ : TS) _ [some (.ref D.p), some (.ref D'.p)] H
 try dsimp only [cxOf]
 obtain ⟨dx, a, b, hp, da, db⟩ := pl.ins
 obtain ⟨dx', a', b', hp', da', db'⟩ := pl'.ins
 walk_at "rz"
 refine s_isiO hp' T.cl_Setup T.is_Setup ?_
 walk_at "rz"
 rename_i t1 ht1 H1 s1 e1 t2 ht2 H2 s2 e2
 have s12 := s1.trans s2
 refine ⟨planD P, planD P', .tup (s2.sqT (SqT.of e1)) (.cons (da.same s12) (.cons (db.same s12) .nil)), .tup (SqT.of e2) (.cons (da'.same s12) (.cons (db'.same s12) .nil)), shaped_plan pl.ok, shaped_plan pl'.ok, ?_⟩
 walk_at "rz"
 exact q _ s12
theorem ok_Setup_lines (T : Txt K mg) : FnOk P w K mg base (L2.CX P w) 1 (pga K (ga K "Setup") "lines") (fdOf K (pga K (ga K "Setup") "lines")) ["self"] (spPLines K) := by
 refine FunD.ok T.F_Setup_lines sc_Setup_lines (fun vs H Q E h => ?_) (fun cdv A outer s H vs Q E hr h => ⟨_, PSs.nox (pss_one (ps_ret (kFld K (pe_fld (pv 0) rfl)))), ?_⟩)
 ·obtain ⟨PD, P, rfl, _⟩ := h
  rfl
 obtain ⟨PD, P, rfl, pl, q⟩ := h
 show (_ : TS) _ [some (.ref PD.p)] H
 try dsimp only [cxOf]
 obtain ⟨dx, a, b, e, h1, h2⟩ := pl.ins
 walk_at "rz"
 exact q a h1
theorem ok_Setup_works (T : Txt K mg) : FnOk P w K mg base (L2.CX P w) 1 (pga K (ga K "Setup") "works") (fdOf K (pga K (ga K "Setup") "works")) ["self"] (spPWorks K) := by
 refine FunD.ok T.F_Setup_works sc_Setup_works (fun vs H Q E h => ?_) (fun cdv A outer s H vs Q E hr h => ⟨_, PSs.nox (pss_one (ps_ret (kFld K (pe_fld (pv 0) rfl)))), ?_⟩)
 ·obtain ⟨PD, P, rfl, _⟩ := h
  rfl
 obtain ⟨PD, P, rfl, pl, q⟩ := h
 show (_ : TS) _ [some (.ref PD.p)] H
 try dsimp only [cxOf]
 obtain ⟨dx, a, b, e, h1, h2⟩ := pl.ins
 walk_at "rz"
 exact q b h2
theorem ok_law (T : Txt K mg) : FnOk P w K mg base (L2.CX P w) 32 (ga K "law") (fdOf K (ga K "law")) ["_law_script"] (spLaw K) := by
 refine FunD.ok T.F_law sc_law (fun vs H Q E h => ?_) (fun cdv A outer s H vs Q E hr h => ⟨_, PSs.nox (pss_cons (zset 1 sc_law.nd (pe_lst (pa_cons (pv 0) (pa_cons pe_int (pa_cons pe_int (pa_cons pe_int pa_nil))))))
   (pss_cons (ps_for PassesOwn.never rfl (pi_range1 rfl T.u_range (pa_cons pe_int pa_nil)) (zg 2 sc_law.nd)
   (pss_cons (ps_asg (z_call (ok_w_setup T) T.c_w_setup (hr.mono (by decide)) rfl T.g_w_setup passL (pa_cons (pv 1) (pa_cons pe_int pa_nil))) (kGT K (pg_tup (n := 2) rfl (pgs_cons (zg 3 sc_law.nd) (pgs_cons (zg 4 sc_law.nd) pgs_nil)))))
   (pss_cons (zset 5 sc_law.nd pe_str)
   (pss_cons (ps_for PassesOwn.never rfl (kIT K (pi_tup (pv 3))) (zg 6 sc_law.nd)
   (pss_cons (zset 5 sc_law.nd (pe_op op_add_str (pe_op op_add_str (pe_op op_add_str (pe_op op_add_str (pe_op op_add_str (pe_op op_add_str (pv 5) pe_str) (pe_ix (ix_tupK K) (pv 6) pe_int (fun _ _ => rfl))) pe_str) (pe_ix (ix_tupK K) (pv 6) pe_int (fun _ _ => rfl))) pe_str) (pe_callTy call_strD (by rfl) T.u_str (by decide +kernel) (pa_cons (pe_ix (ix_tupK K) (pv 6) pe_int (fun _ _ => rfl)) pa_nil))))
   (pss_one (ps_for PassesOwn.never rfl (kIT K (pi_tup (pe_ix (ix_tupK K) (pv 6) pe_int (fun _ _ => rfl)))) (kGT K (pg_tup (n := 2) rfl (pgs_cons (zg 7 sc_law.nd) (pgs_cons (zg 8 sc_law.nd) pgs_nil))))
   (pss_one (zset 5 sc_law.nd (pe_op op_add_str (pe_op op_add_str (pe_op op_add_str (pe_op op_add_str (pv 5) pe_str) (pv 7)) pe_str) (pe_callTy call_strD (by rfl) T.u_str (by decide +kernel) (pa_cons (pv 8) pa_nil)))))))))
   (pss_cons (ps_for PassesOwn.never rfl (kIT K (pi_tup (pv 4))) (zg 9 sc_law.nd)
   (pss_one (zset 5 sc_law.nd (pe_op op_add_str (pe_op op_add_str (pe_op op_add_str (pe_op op_add_str (pe_op op_add_str (pe_op op_add_str (pv 5) pe_str) (pe_ix (ix_tupK K) (pv 9) pe_int (fun _ _ => rfl))) pe_str) (pe_callTy call_strD (by rfl) T.u_str (by decide +kernel) (pa_cons (pe_ix (ix_tupK K) (pv 9) pe_int (fun _ _ => rfl)) pa_nil))) pe_str) (pe_callTy call_strD (by rfl) T.u_str (by decide +kernel) (pa_cons (pe_ix (ix_tupK K) (pv 9) pe_int (fun _ _ => rfl)) pa_nil))))))
   (pss_cons (zset 10 sc_law.nd (z_make T.mk_Setup (ok_Setup_init T) T.c_Setup_init (hr.mono (by decide)) rfl T.g_Setup passL (pa_cons (pv 3) (pa_cons (pv 4) pa_nil))))
   (pss_cons (ps_if (PW.pt (pw_or (pt_cmpR op_ne (z_prop (pv 10) T.cl_Setup T.p_Setup_text (ok_Setup_text T) T.c_Setup_text (hr.mono (by decide)) rfl) (pe_slice sl_str (pv 5) (po_some pe_int) po_none) (nomark _)) (pw_or1 (pt_not (pt_cmpR (op_eqO T.m_Setup_eq.at_ T.m_Setup_eq.fn (ok_Setup_eq T) T.c_Setup_eq (hr.mono (by decide)) passL) (z_cmeth (z_ref T.g_Setup) T.cm_Setup_parse (ok_Setup_parse T) T.c_Setup_parse (hr.mono (by decide)) passL (pa_cons (pe_slice sl_str (pv 5) (po_some pe_int) po_none) pa_nil)) (pv 10) (nomark _)))))) (pss_one (ps_ret pe_bl)) pss_nil)
   (pss_one (ps_if (PW.pt (pw_or (pt_cmpR (op_neDK K hr.units) (z_prop (z_cmeth (z_ref T.g_Setup) T.cm_Setup_parse (ok_Setup_parse T) T.c_Setup_parse (hr.mono (by decide)) passL (pa_cons (z_prop (pv 10) T.cl_Setup T.p_Setup_text (ok_Setup_text T) T.c_Setup_text (hr.mono (by decide)) rfl) pa_nil)) T.cl_Setup T.p_Setup_lines (ok_Setup_lines T) T.c_Setup_lines (hr.mono (by decide)) rfl) (pv 3) (nomark _)) (pw_or1 (pt_cmpR (op_neDK K hr.units) (z_prop (z_cmeth (z_ref T.g_Setup) T.cm_Setup_parse (ok_Setup_parse T) T.c_Setup_parse (hr.mono (by decide)) passL (pa_cons (z_prop (pv 10) T.cl_Setup T.p_Setup_text (ok_Setup_text T) T.c_Setup_text (hr.mono (by decide)) rfl) pa_nil)) T.cl_Setup T.p_Setup_works (ok_Setup_works T) T.c_Setup_works (hr.mono (by decide)) rfl) (pv 4) (nomark _))))) (pss_one (ps_ret pe_bl)) pss_nil)))))))))
   (pss_one (ps_ret (pe_cmpR op_eq (z_prop (z_cmeth (z_ref T.g_Setup) T.cm_Setup_parse (ok_Setup_parse T) T.c_Setup_parse (hr.mono (by decide)) passL (pa_cons pe_str pa_nil)) T.cl_Setup T.p_Setup_text (ok_Setup_text T) T.c_Setup_text (hr.mono (by decide)) rfl) pe_str (nomark _)))))), ?_⟩)
 ·obtain ⟨a, ns, rfl, _⟩ := h
  rfl
 obtain ⟨sc, ns, rfl, hsc, q⟩ := h
 show (_ : TS) _ (some (.ref sc) :: List.replicate 10 none) H
 try dsimp only [cxOf]
 dsimp only [List.replicate]
 walk_at "rz"
 rename_i r hr0 H1 s1 e1
 have row1 := row_new hsc hr0 s1 e1
 clear e1
 walk_at "rz"
 refine ⟨by omega, by omega, for_range (lo := 0) (n := 4) (fun i σ Ha => (∃ y2 y3 y4 y5 y6 y7 y8 y9 y10, σ = [some (.ref sc), some (.ref r), y2, y3, y4, y5, y6, y7, y8, y9, y10]) ∧ RowAt K Ha r sc ns)
  ⟨⟨_, _, _, _, _, _, _, _, _, rfl⟩, row1⟩ (fun i σ Ha _ ⟨⟨y2, y3, y4, y5, y6, y7, y8, y9, y10, es⟩, row⟩ => ?_) (fun σ Ha ⟨⟨y2, y3, y4, y5, y6, y7, y8, y9, y10, es⟩, row⟩ => ?_)⟩
 ·subst es
  clear q
  walk_at "rz"
  refine ⟨r, sc, ns, 5, rfl, row, by omega, by omega, fun t a b P0 H2 f2 row2 dr hT da db => ?_⟩
  have ok := dr.ok
  obtain ⟨_, las, e, hTl, hAl⟩ := da.tupI
  cases e
  obtain ⟨_, was, e, hTw, hAw⟩ := db.tupI
  cases e
  have l12 := ok.l12
  have w8 := ok.w8
  have lla : las.length = P0.ls.length := by rw [hAl.len, List.length_map]
  have lwa : was.length = P0.ws.length := by rw [hAw.len, List.length_map]
  refine s_gtup hT rfl ?_
  walk_at "rz"
  refine ⟨⟨_, hTl⟩, for_tup (xs := las) (fun j σ Hx => (∃ y6 y7 y8 t, σ = [some (.ref sc), some (.ref r), some (.int (0 + (i : Nat))), some (.ref a), some (.ref b), some (.str t), y6, y7, y8, y9, y10] ∧ t = (P0.ls.take j).foldl addL "" ∧ t.length ≤ j * 800021) ∧ Same H2 Hx)
   ⟨⟨_, _, _, _, rfl, rfl, by decide +kernel⟩, Same.refl _⟩ (fun j σ Hx _ ⟨_, s⟩ => s.sqT hTl) (fun j v σ Hx hj ⟨⟨y6, y7, y8, t, es, et, tl⟩, sx⟩ => ?_) (fun σ Hx ⟨⟨y6, y7, y8, t, es, et, tl⟩, sx⟩ => ?_)⟩
  ·subst es
   have hjl : j < las.length := (List.getElem?_eq_some_iff.mp hj).1
   obtain ⟨dd, hdd, dv⟩ := (hAl.same sx).getv hj
   rw [List.getElem?_map] at hdd
   obtain ⟨ln, hln, rfl⟩ := Option.map_eq_some_iff.mp hdd
   have hlm := List.mem_of_getElem? hln
   have g := gl_of ok hlm
   have l8 := ok.steps8 hlm
   obtain ⟨t9, zs, rfl, hT9, hA9⟩ := dv.tupI
   cases hA9 with | cons g1 hA9 => ?_
   cases hA9 with | cons g2 hA9 => ?_
   cases hA9 with | cons g3 hA9 => ?_
   cases hA9 with | cons g4 hA9 => ?_
   cases hA9
   cases g1
   cases g2
   cases g3
   obtain ⟨st, ss, rfl, hTs, hAs⟩ := g4.tupI
   have n1 : ln.nm.length ≤ 40000 := short_str g.sh
   have n2 : ln.kd.length ≤ 5 := by
    have := g.kd
    simp only [List.mem_cons, List.not_mem_nil, or_false] at this
    rcases this with e | e <;> rw [e] <;> decide +kernel
   have n3 : (txI ln.rk).length ≤ 3 := (num_ok g.r0 g.r1).2.2.1
   have c1 : ("\nline " : Str).length = 6 := by decide +kernel
   have c2 : (" " : Str).length = 1 := by decide +kernel
   walk_at "rz"
   refine ⟨by simp only [str_len_app, c1, c2, sizeLine_eq]; omega, ?_⟩
   walk_at "rz"
   refine ⟨by simp only [str_len_app, c1, c2, sizeLine_eq]; omega, ?_⟩
   walk_at "rz"
   refine ⟨by simp only [str_len_app, c1, c2, sizeLine_eq]; omega, ?_⟩
   walk_at "rz"
   refine ⟨by simp only [str_len_app, c1, c2, sizeLine_eq]; omega, ?_⟩
   walk_at "rz"
   refine ⟨by simp only [str_len_app, c1, c2, sizeLine_eq]; omega, ?_⟩
   walk_at "rz"
   refine ⟨Nat.lt_of_le_of_lt (Nat.log2_le_self _) (by have := g.r0; have := g.r1; omega), ?_⟩
   rw [show Str.ofString (toString ln.rk) = txI ln.rk from rfl]
   walk_at "rz"
   refine ⟨by simp only [str_len_app, c1, c2, sizeLine_eq]; omega, ?_⟩
   walk_at "rz"
   obtain ⟨t0, ht0⟩ : ∃ t0, t0 = t ++ "\nline " ++ ln.nm ++ " " ++ ln.kd ++ " " ++ txI ln.rk := ⟨_, rfl⟩
   rw [← ht0]
   have tl0 : t0.length ≤ j * 800021 + 41000 := by rw [ht0]; simp only [str_len_app, c1, c2]; omega
   refine ⟨⟨_, hTs⟩, for_tup (xs := ss) (fun k σ Hy => (∃ y7 y8 u, σ = [some (.ref sc), some (.ref r), some (.int (0 + (i : Nat))), some (.ref a), some (.ref b), some (.str u), some (.ref t9), y7, y8, y9, y10] ∧ u = (ln.st.take k).foldl addS t0 ∧ u.length ≤ j * 800021 + 41000 + k * 80002) ∧ Same Hx Hy)
    ⟨⟨_, _, _, rfl, rfl, by omega⟩, Same.refl _⟩ (fun k σ Hy _ ⟨_, s⟩ => s.sqT hTs) (fun k v σ Hy hk ⟨⟨y7, y8, u, es, eu, ul⟩, sy⟩ => ?_) (fun σ Hy ⟨⟨y7, y8, u, es, eu, ul⟩, sy⟩ => ?_)⟩
   ·subst es
    have hkl : k < ss.length := (List.getElem?_eq_some_iff.mp hk).1
    have lss : ss.length = ln.st.length := by rw [hAs.len, List.length_map]
    obtain ⟨dd, hdd, dv⟩ := (hAs.same sy).getv hk
    rw [List.getElem?_map] at hdd
    obtain ⟨st1, hst1, rfl⟩ := Option.map_eq_some_iff.mp hdd
    have gs := g.st _ (List.mem_of_getElem? hst1)
    have sl : st1.1.length ≤ 40000 ∧ (kT st1.2).length ≤ 40000 := by
     have aw : ∀ w ∈ allW, w.length ≤ 40000 := by decide +kernel
     cases gs with
     | num w i hw h0 h1 => exact ⟨aw _ (num_w _ hw).2.2, Nat.le_trans (num_ok h0 h1).2.2.1 (by decide)⟩
     | nam w z hw _ h1 => exact ⟨aw _ (nam_w _ hw).2, short_str h1⟩
    obtain ⟨w1, k1⟩ := st1
    have sl : w1.length ≤ 40000 ∧ (kT k1).length ≤ 40000 := sl
    obtain ⟨c8, z8, rfl, hT8, hA8⟩ := dv.tupI
    cases hA8 with | cons g1 hA8 => ?_
    cases hA8 with | cons g2 hA8 => ?_
    cases hA8
    cases g1
    refine s_gtup hT8 rfl ?_
    walk_at "rz"
    refine ⟨by simp only [str_len_app, c2, sizeLine_eq]; omega, ?_⟩
    walk_at "rz"
    refine ⟨by simp only [str_len_app, c2, sizeLine_eq]; omega, ?_⟩
    walk_at "rz"
    refine ⟨by simp only [str_len_app, c2, sizeLine_eq]; omega, ?_⟩
    walk_at "rz"
    have step : u ++ " " ++ w1 ++ " " ++ kT k1 = (ln.st.take (k + 1)).foldl addS t0 := by
     rw [List.take_add_one, hst1, List.foldl_append, ← eu]
     rfl
    have ul2 : (u ++ " " ++ w1 ++ " " ++ kT k1).length ≤ j * 800021 + 41000 + (k + 1) * 80002 := by
     have := sl.1
     have := sl.2
     simp only [str_len_app, c2]
     omega
    cases k1 with
    | inl n =>
     cases g2
     have sl2 : (txI n).length ≤ 40000 := sl.2
     obtain ⟨n0, n1⟩ : 0 ≤ n ∧ n < 100 := by
      cases gs with
      | num _ _ _ h0 h1 => exact ⟨h0, h1⟩
     walk_at "rz"
     refine ⟨Nat.lt_of_le_of_lt (Nat.log2_le_self _) (by omega), ?_⟩
     rw [show Str.ofString (toString n) = txI n from rfl]
     walk_at "rz"
     refine ⟨by simp only [str_len_app, c2, sizeLine_eq]; omega, ?_⟩
     walk_at "rz"
     exact ⟨⟨_, _, _, rfl, step, ul2⟩, sy⟩
    | inr z =>
     cases g2
     have sl2 : z.length ≤ 40000 := sl.2
     walk_at "rz"
     refine ⟨by simp only [str_len_app, c2, sizeLine_eq]; omega, ?_⟩
     walk_at "rz"
     exact ⟨⟨_, _, _, rfl, step, ul2⟩, sy⟩
   ·subst es
    have lss : ss.length = ln.st.length := by rw [hAs.len, List.length_map]
    refine ⟨⟨_, _, _, u, rfl, ?_, by omega⟩, sx.trans sy⟩
    rw [eu, lss, List.take_length, List.take_add_one, hln, List.foldl_append, ← et, ht0]
    rfl
  ·subst es
   have tl12 : t.length ≤ 9600252 := by omega
   walk_at "rz"
   refine ⟨⟨_, sx.sqT hTw⟩, for_tup (xs := was) (fun j σ Hy => (∃ y9 u, σ = [some (.ref sc), some (.ref r), some (.int (0 + (i : Nat))), some (.ref a), some (.ref b), some (.str u), y6, y7, y8, y9, y10] ∧ u = (P0.ws.take j).foldl addW t ∧ u.length ≤ 9600252 + j * 121000) ∧ Same Hx Hy)
    ⟨⟨_, _, rfl, rfl, by omega⟩, Same.refl _⟩ (fun j σ Hy _ ⟨_, s⟩ => (sx.trans s).sqT hTw) (fun j v σ Hy hj ⟨⟨y9, u, es, eu, ul⟩, sy⟩ => ?_) (fun σ Hy ⟨⟨y9, u, es, eu, ul⟩, sy⟩ => ?_)⟩
   ·subst es
    have hjl : j < was.length := (List.getElem?_eq_some_iff.mp hj).1
    obtain ⟨dd, hdd, dv⟩ := (hAw.same (sx.trans sy)).getv hj
    rw [List.getElem?_map] at hdd
    obtain ⟨x, hx, rfl⟩ := Option.map_eq_some_iff.mp hdd
    have g := gw_of ok (List.mem_of_getElem? hx)
    obtain ⟨c8, z8, rfl, hT8, hA8⟩ := dv.tupI
    cases hA8 with | cons g1 hA8 => ?_
    cases hA8 with | cons g2 hA8 => ?_
    cases hA8 with | cons g3 hA8 => ?_
    cases hA8
    cases g1
    cases g2
    cases g3
    have n1 : x.nm.length ≤ 40000 := short_str g.sh
    have n2 : (txI x.rk).length ≤ 3 := (num_ok g.r0 g.r1).2.2.1
    have n3 : (txI x.tk).length ≤ 3 := (num_ok g.t0 g.t1).2.2.1
    have c1 : ("\nwork " : Str).length = 6 := by decide +kernel
    have c2 : (" " : Str).length = 1 := by decide +kernel
    walk_at "rz"
    refine ⟨by simp only [str_len_app, c1, c2, sizeLine_eq]; omega, ?_⟩
    walk_at "rz"
    refine ⟨by simp only [str_len_app, c1, c2, sizeLine_eq]; omega, ?_⟩
    walk_at "rz"
    refine ⟨by simp only [str_len_app, c1, c2, sizeLine_eq]; omega, ?_⟩
    walk_at "rz"
    refine ⟨Nat.lt_of_le_of_lt (Nat.log2_le_self _) (by have := g.r0; have := g.r1; have := g.t0; have := g.t1; omega), ?_⟩
    rw [show Str.ofString (toString x.rk) = txI x.rk from rfl]
    walk_at "rz"
    refine ⟨by simp only [str_len_app, c1, c2, sizeLine_eq]; omega, ?_⟩
    walk_at "rz"
    refine ⟨by simp only [str_len_app, c1, c2, sizeLine_eq]; omega, ?_⟩
    walk_at "rz"
    refine ⟨Nat.lt_of_le_of_lt (Nat.log2_le_self _) (by have := g.r0; have := g.r1; have := g.t0; have := g.t1; omega), ?_⟩
    rw [show Str.ofString (toString x.tk) = txI x.tk from rfl]
    walk_at "rz"
    refine ⟨by simp only [str_len_app, c1, c2, sizeLine_eq]; omega, ?_⟩
    walk_at "rz"
    refine ⟨⟨_, _, rfl, ?_, ?_⟩, sy⟩
    ·rw [List.take_add_one, hx, List.foldl_append, ← eu]
     rfl
    ·simp only [str_len_app, c1, c2]
     omega
   ·subst es
    have et2 : u = ("\n" : Str) ++ planT P0 := by
     rw [← law_text ok.ne, eu, et, lwa, lla, List.take_length, List.take_length]
     rfl
    subst et2
    have s2y := sx.trans sy
    have rowy := row2.same s2y
    have day := da.same s2y
    have dby := db.same s2y
    clear et tl tl12 eu ul sx sy hAl hAw hTl hTw
    have lpl : (("\n" : Str) ++ planT P0).length ≤ sizeLine := by
     have := plan_len ok
     have c0 : ("\n" : Str).length = 1 := by decide +kernel
     rw [str_len_app, c0, sizeLine_eq]
     omega
    walk_at "rz"
    walk_at "zm"
    rename_i x dx hx H4 s4 e4
    refine ⟨x, a, b, dx, P0, rfl, e4, day.same s4, dby.same s4, ok, fun H5 rd wd hrd hwd hrw f5 pl => ⟨rfl, ?_⟩⟩
    obtain ⟨D, hD⟩ : ∃ D : Z.PA, D = ⟨x, rd, wd⟩ := ⟨_, rfl⟩
    rw [← hD] at pl
    have hDp : D.p = x := by rw [hD]
    rw [← hDp]
    have sy5 : Same Hy H5 := ((s4.fr : Fr [] Hy H4).seq f5 (fun a ha => .inr (by rw [List.mem_singleton.mp ha]; exact hx))).same
    clear hD hDp e4 s4 f5 hrd hwd hrw hx
    obtain ⟨pdx, pa, pb, hp5, _⟩ := pl.ins
    walk_at "rz"
    refine ⟨D, P0, rfl, pl, fun H6 s6 => ?_⟩
    walk_at "rz"
    refine ⟨_, rfl, lpl, ?_⟩
    rw [cut1]
    walk_at "rz"
    refine ite_f (by rw [decide_eq_true rfl]; rfl) ?_
    walk_at "rz"
    refine s_cmeth ?_
    walk_at "rz"
    refine ⟨rfl, ?_⟩
    walk_at "rz"
    refine ⟨_, rfl, lpl, ?_⟩
    rw [cut1]
    walk_at "rz"
    refine ⟨P0, rfl, ok, fun H7 D7 s7 hown7 pl7 => ?_⟩
    have s57 := s6.trans s7
    have pla := pl.same s57
    obtain ⟨adx, aa, ab, hpa, _⟩ := pla.ins
    obtain ⟨bdx, ba, bb, hpb, _⟩ := pl7.ins
    walk_at "rz"
    refine ⟨D7.p, D.p, bdx, adx, _, _, rfl, rfl, hpb, hpa, D7, D, P0, P0, rfl, pl7, pla, fun H8 s8 => ⟨_, rfl, ?_⟩⟩
    rw [plan_refl ok]
    have s58 := s57.trans s8
    obtain ⟨shl, shw⟩ := shaped_parts ok
    have pl8 := pl.same s58
    obtain ⟨cdx, ca, cb, hpc, _⟩ := pl8.ins
    walk_at "rz"
    refine s_cmeth ?_
    walk_at "rz"
    refine ⟨rfl, ?_⟩
    walk_at "rz"
    refine ⟨D, P0, rfl, pl8, fun H9 s9 => ?_⟩
    walk_at "rz"
    refine ⟨P0, rfl, ok, fun Ha Da sa hownA plA => ?_⟩
    obtain ⟨ddx, d1, d2, hpd, _⟩ := plA.ins
    walk_at "rz"
    refine ⟨Da, P0, rfl, plA, fun ta dta => ?_⟩
    have sya := sy5.trans (s58.trans (s9.trans sa))
    walk_at "rz"
    refine s_neRefl shl dta (day.same sya) ?_
    have plb := pl8.same (s9.trans sa)
    obtain ⟨edx, e1, e2, hpe, _⟩ := plb.ins
    walk_at "rz"
    refine s_cmeth ?_
    walk_at "rz"
    refine ⟨rfl, ?_⟩
    walk_at "rz"
    refine ⟨D, P0, rfl, plb, fun Hb sb => ?_⟩
    walk_at "rz"
    refine ⟨P0, rfl, ok, fun Hc Dc sc1 hownC plC => ?_⟩
    obtain ⟨fdx, f1, f2, hpf, _⟩ := plC.ins
    walk_at "rz"
    refine ⟨Dc, P0, rfl, plC, fun tc dtc => ?_⟩
    have syc := sya.trans (sb.trans sc1)
    walk_at "rz"
    refine s_neRefl shw dtc (dby.same syc) ?_
    walk_at "rz"
    exact ⟨⟨_, _, _, _, _, _, _, _, _, rfl⟩, rowy.same syc⟩
 ·subst es
  walk_at "rz"
  refine s_cmeth ?_
  walk_at "rz"
  refine ⟨rfl, ?_⟩
  walk_at "rz"
  have e1 : planT oneP = ("line a edge 9 run 99" : Str) := by decide +kernel
  rw [← e1]
  refine ⟨oneP, rfl, one_ok, fun H5 D s5 hown pl => ?_⟩
  obtain ⟨pdx, pa, pb, hp5, _⟩ := pl.ins
  refine ⟨D.p, pdx, _, rfl, hp5, D, oneP, rfl, pl, fun H6 s6 => ?_⟩
  walk_at "rz"
  rw [decide_eq_true rfl]
  exact q _
end
end T
set_option maxHeartbeats 0
namespace Z
open PySem PySem.Spec PyProof.Rows L2
theorem walkEX {l : PySem.W.OpenLaw} {n k : Nat} {q : Program} {ls : List Str} {XP : (Str → Option Value) → Heap → Prop} {YP : World → Heap → Prop} {d : DefRec} {x : Str} (hn : l.most = some n) (hz : n ≤ sizeLine) (hdf : d.params.defaults = []) (room : Room k callerA)
  (F : ∀ (w : World) (mg : Str → Option Value) (f : Addr) (h : Heap), YP w h → h.Ns mainGlobals mg → mg d.name = some (.ref f) → ∃ (K : Fg) (fd : FuncData) (sp : Sp), K.In h ∧ (∀ (s : Shared) (u : Value), BindsTo s fd ⟨[u], []⟩ [(x, u)]) ∧
   (∀ (H : Hp) (a : Addr) (ns : List Int), ns.length ≤ n → SqL K H a (ns.map V.int) → sp [.ref a] H (fun v _ => v = .bl true) fun _ _ _ => False) ∧ ∀ base : Heap, K.In base → base.Ns mainGlobals mg → FnOk l.prog w K mg base (L2.CX l.prog w) k f fd [x] sp) :
  PySem.W.WalkO q ls XP YP l.row.toRowW d [] (fun f vs => PySem.call f vs) := by
 refine Att.attach_call hn hdf fun w _ s1 mg _ f _ _ _ _ a _ ns G Y _ _ _ hm ho hi hl hg => ?_
 obtain ⟨K, fd, sp, KX, hb, hsp, hF⟩ := F w mg f _ Y G.T.g hm
 refine law_call KX G.T.g G.T.b G.T.builtins G.T.nolimit hg ho hi (Nat.le_trans hl hz) room hF hb (fun H _ hS => hsp H a ns hl hS) fun H e s' z => ?_
 obtain ⟨_, _, _, _, _, _, _, _, _, _, _, _, z⟩ := z
 exact z
end Z
namespace T
open PySem PySem.Spec PyProof.Rows L2 Z
open He (ga ma)
theorem facts {P : Program} {w : World} {K : Fg} {h : Heap} {mg : Str → Option Value} {f : Addr} (X : K.In h) (G : h.Ns mainGlobals mg) (hfa : mg ("law" : Str) = some (.ref f)) (c : SaysZ fa fn K) :
  ∃ fd : FuncData, (∀ (s : Shared) (v : Value), BindsTo s fd ⟨[v], []⟩ [("_law_script", v)]) ∧ ∀ base : Heap, K.In base → base.Ns mainGlobals mg → FnOk P w K mg base (L2.CX P w) 32 f fd ["_law_script"] (spLaw K) := by
 have T := txt_of X G c
 have e := hfa.symm.trans T.g_law
 cases e
 have b := FunD.bindsA (ps := ["_law_script"]) T.F_law fun _ _ _ _ _ _ us hl => match us, hl with | [_], _ => rfl
 exact ⟨_, fun s v => b s [v] rfl, fun base _ _ => ok_law T⟩
end T
open PySem PySem.W PySem.Calls PyProof.Rows
theorem PySem.Challenge.cw_callbells_k03_texts_of_set_ups_holds : PySem.Challenge.rw_callbells_k03_texts_of_set_ups.Holds := by
 w_on; o_law
 refine HandSHeadRun.head_any (r := OpenLaw.row PySem.Challenge.rw_callbells_k03_texts_of_set_ups) (q := view (OpenLaw.row PySem.Challenge.rw_callbells_k03_texts_of_set_ups).prog [41]) (H := T.hk) (ob := T.ob) (M := 9000) (loose := T.names) (d := HandSHeadRun.topDef (OpenLaw.row PySem.Challenge.rw_callbells_k03_texts_of_set_ups).prog 41) (kwd := []) T.ob_eq
  (by kernel_rfl) (fun s => by kernel_rfl) T.run (by kernel_rfl) (by kernel_rfl) (by kernel_rfl) (by rfl) (by first | assumption | decide +kernel) (by decide +kernel) ⟨rfl, rfl, rfl, rfl, rfl, by decide +kernel⟩ ?hw ?hc
 case hw => w_witness2
 case hc =>
  refine Z.walkEX (l := PySem.Challenge.rw_callbells_k03_texts_of_set_ups) (n := 63) (k := 32) (x := "_law_script") rfl (by decide) (by kernel_rfl) ⟨rfl, by decide, by decide⟩ ?_
  intro w mg f h Y G hm0
  obtain ⟨K, KX, c⟩ := Y
  have hm : mg ("law" : PySem.Str) = some (.ref f) := by
   have e : (HandSHeadRun.topDef (OpenLaw.row PySem.Challenge.rw_callbells_k03_texts_of_set_ups).prog 41).name = ("law" : PySem.Str) := by kernel_rfl
   rw [← e]
   exact hm0
  obtain ⟨fd, hb, hF⟩ := T.facts (P := (PySem.Challenge.rw_callbells_k03_texts_of_set_ups).prog) (w := w) KX G hm c
  exact ⟨K, fd, T.spLaw K, KX, hb, fun H a ns hl hS => ⟨a, ns, rfl, hS, fun _ => rfl⟩, hF⟩
