import PyProof.Rows.All
import Wide.All
import OpenK.AllK
import Wide.FinOn
import KE.KStateDown
import HandS.ForMost
import HandS.Walk
import HandS.Star
import HandS.DictComp
import HandS.Defaults
import HandS.Property
import HandS.ClsMeth
import HandS.IsInst
import HandS.Flow
import HandS.Deep
import HandS.NoneIn
import HandS.Sort
import HandS.SortRule
import HandS.TupAny
import HandS.Wide
import HandS.WordsExc
import HandS.Head2
import HandS.HeadEnd
import HandS.HeadHook2
import KE.GoesEnum
import KE.GoesMore
import KE.DataFind
import KE.SortData
import HandS.SetFor
import HandS.TryOnly
import KE.KTupSum
import HandS.More
import HandS.Dict
import HandS.Style
import HandS.SetTxt0
import HandS.Strs
import HandS.MakeKwOnly
import KE.DataMinMax
import KE.KCallOwn
import HandS.ListItems
import KE.KDictList
import HandS.Lambda
import HandS.HeadHook4
import OpenK.KOps
import HandS.ExcIs
import HandS.ExcField
import HandS.ExcInit
import HandS.ExcOwn
import KE.KExcIs
import HandS.FStr
import KE.KDflt
import PyProof.FString2
import HandS.FStrTup
import HandS.Text
import HandS.RaiseMore
import HandS.EndTab
import KE.SortLaws
import HandS.Conv
import PySem.Challenge.RW_callbells_k04_texts_refused
set_option Elab.async false
set_option linter.all false
set_option maxRecDepth 100000
set_option maxHeartbeats 1000000
namespace Z
open PySem PySem.Spec PyProof.Rows L2
abbrev Fg := PySem.W.Frag
def fd0 : FuncData := PySem.W.fnOf "" "" (defArgs (.Pass ⟨0, 0, 0, 0⟩)) [] (defScope (.Pass ⟨0, 0, 0, 0⟩)) .none .none .none .none none .none .none
def fdOf (K : Fg) (a : Addr) : FuncData := match K.lookup a with
  | some ⟨_, _, .func fd, _⟩ => fd
  | _ => fd0
theorem fdOf_eq {K : Fg} {x q : Str} {pa : Arguments} {bd : List Stmt} {sc : Scope} {dv : List V} {kw : List (Str × V)} {f : Addr} {fd : FuncData} (F : FunD K x q pa bd sc dv kw f fd) : fdOf K f = fd := by
  obtain ⟨⟨oc, od, dV, kV, doc, pm, an, cdv, ct, osl, e, lk, _⟩, _⟩ := F
  unfold fdOf
  rw [lk]
structure Cal (K : Fg) (f : Addr) (ps : List Str) (dvs : List V) : Prop where
  kp : PySem.W.keepIn K (.ref f) = true
  b : ∃ ds, Binds K (fdOf K f) ps ds ∧ Vals dvs ds
section
variable {X : Cx} {k : Nat} {f C p0 : Addr} {ps : List Str} {sp : Sp} {dvs : List V} {x m : Str} {p pos apos : Pos} {e o i : Expr} {es : List Expr} {ta tb : TE} {t : TA} {E : XK}
abbrev FnX (X : Cx) (k : Nat) (f : Addr) (ps : List Str) (sp : Sp) : Prop := FnOk X.prog X.w X.K X.mg X.base (L2.CX X.prog X.w) k f (fdOf X.K f) ps sp
theorem z_call (F : FnX X k f ps sp) (c : Cal X.K f ps dvs) (hr : Room k X.A) (hg : Gl X x) (hm : X.mg x = some (.ref f)) (hx : Passes (L2.CX X.prog X.w) X E) (ha : PA X (e :: es) t) (hdb : (x == ("__debug__" : Str)) = false := by decide)
    (he : starEach (e :: es) X.env = (false, eval e X.env) :: starEach es X.env := by rfl) (hpl : (backTo pos (starEach es X.env)).any (·.1) = false := by rfl) : PE X (.Call (.Name x p) (e :: es) [] pos) (tCall sp dvs E t) := by
  obtain ⟨ds, hb, hd⟩ := c.b
  exact pe_call F hr hg hm c.kp hb hd hx ha hdb he hpl
theorem z_meth {pl : Sem Bool} (he : PE X o ta) (cl : Cls X.K C) (hm : Meth X.K C m f) (F : FnX X k f ps sp) (c : Cal X.K f ps dvs) (hr : Room k X.A) (hx : Passes (L2.CX X.prog X.w) X E) (ha : PA X (e :: es) t)
    (hst : starEach (e :: es) X.env = (false, eval e X.env) :: starEach es X.env := by rfl) (hpl : (backTo pos (starEach es X.env)).any (·.1) = false := by rfl)
    (ht : eval (.Call (.Attribute o m apos) (e :: es) [] pos) X.env = (do
      let ov ← eval o X.env
      standAt apos.atName
      let (f, first) ← holding [ov] (getMethod ov m pl)
      callWith pos f first (backTo pos (starEach (e :: es) X.env)) (backToKw pos (keywordEach [] X.env))) := by rfl) :
    PE X (.Call (.Attribute o m apos) (e :: es) [] pos) (tMeth C m sp dvs E ta t) := by
  obtain ⟨ds, hb, hd⟩ := c.b
  exact pe_meth he cl hm F hr hb hd hx ha hst hpl ht
theorem z_meth0 {pl : Sem Bool} (he : PE X o ta) (cl : Cls X.K C) (hm : Meth X.K C m f) (F : FnX X k f ps sp) (c : Cal X.K f ps dvs) (hr : Room k X.A) (hx : Passes (L2.CX X.prog X.w) X E)
    (ht : eval (.Call (.Attribute o m apos) [] [] pos) X.env = (do
      let ov ← eval o X.env
      standAt apos.atName
      let (f, first) ← holding [ov] (getMethod ov m pl)
      callWith pos f first (backTo pos (starEach [] X.env)) (backToKw pos (keywordEach [] X.env))) := by rfl) :
    PE X (.Call (.Attribute o m apos) [] [] pos) (tMeth C m sp dvs E ta tNil) := by
  obtain ⟨ds, hb, hd⟩ := c.b
  exact pe_meth0 he cl hm F hr hb hd hx ht
theorem z_make (M : Mk X.K C f) (F : FnX X k f ps sp) (c : Cal X.K f ps dvs) (hr : Room (k + 1) X.A) (hg : Gl X x) (hm : X.mg x = some (.ref C)) (hx : Passes (L2.CX X.prog X.w) X E) (ha : PA X (e :: es) t) (hdb : (x == ("__debug__" : Str)) = false := by decide)
    (he : starEach (e :: es) X.env = (false, eval e X.env) :: starEach es X.env := by rfl) (hpl : (backTo pos (starEach es X.env)).any (·.1) = false := by rfl) : PE X (.Call (.Name x p) (e :: es) [] pos) (tMake C sp dvs E t) := by
  obtain ⟨ds, hb, hd⟩ := c.b
  exact pe_make M F hr hg hm hb hd hx ha hdb he hpl
theorem z_prop (he : PE X e ta) (cl : Cls X.K C) (hp : PropOf X.K C m p0 f) (F : FnX X k f ps sp) (c : Cal X.K f ps []) (hr : Room (k + 1) X.A) (hab : attributeBase e m X.env (eval e X.env) = eval e X.env) : PE X (.Attribute e m pos) (tProp C sp [] E0 ta) := by
  obtain ⟨ds, hb, hd⟩ := c.b
  exact pe_prop he cl hp F hr hb hd passL hab
def tIxO (C : Addr) (sp : Sp) (E : XK) (ta tb : TE) : TE := fun σ H Q => ta σ H fun x H1 => tb σ H1 fun y H2 => ∃ a dx fs, x = .ref a ∧ H2 a = some (.ins C dx fs) ∧ sp [.ref a, y] H2 Q E
end
end Z
set_option maxHeartbeats 1000000
namespace L2
open PySem PySem.Spec PyProof.Rows Z
def Kp (A : List Addr) (H H' : Hp) : Prop := ∀ a o, H a = some o → a ∉ A → H' a = some o
theorem Same.kp {H H' : Hp} {A : List Addr} (s : Same H H') : Kp A H H' := fun a o h _ => s a o h
theorem Kp.refl {A : List Addr} {H : Hp} : Kp A H H := fun _ _ h _ => h
theorem Kp.nil {H H' : Hp} (k : Kp [] H H') : Same H H' := fun a o h => k a o h (by simp)
theorem Kp.mono {A B : List Addr} {H H' : Hp} (k : Kp A H H') (s : ∀ a ∈ A, a ∈ B) : Kp B H H' := fun a o h n => k a o h fun z => n (s a z)
theorem Kp.trans {A : List Addr} {H H1 H2 : Hp} (a : Kp A H H1) (b : Kp A H1 H2) : Kp A H H2 := fun c o h n => b c o (a c o h n) n
theorem Same.new {H : Hp} {p : Addr} {o : HO} (h : H p = none) : Same H (upd H p o) := fun a u e => by
  rw [upd_ne (ne_of_none e h)]
  exact e
theorem Same.sqT {K : Fg} {H H' : Hp} {a : Addr} {xs : List V} (e : Same H H') (h : SqT K H a xs) : SqT K H' a xs := by
  rcases h with (h | ⟨o, h⟩) | h
  · exact .inl (.inl (e _ _ h))
  · exact .inl (.inr ⟨o, e _ _ h⟩)
  · exact .inr h
def Tk (H H' : Hp) : Prop := ∀ a, ((∃ xs, H a = some (.tup xs)) ∨ ∃ o u, H a = some (.frz o u)) → H' a = H a
theorem Tk.refl (H : Hp) : Tk H H := fun _ _ => rfl
theorem Tk.trans {H H1 H2 : Hp} (a : Tk H H1) (b : Tk H1 H2) : Tk H H2 := fun c h => by
  have e := a c h
  have h1 : (∃ xs, H1 c = some (.tup xs)) ∨ ∃ o u, H1 c = some (.frz o u) := by
    rw [e]
    exact h
  rw [b c h1, e]
theorem Same.tk {H H' : Hp} (s : Same H H') : Tk H H' := fun a h => by
  rcases h with ⟨xs, h⟩ | ⟨o, u, h⟩ <;> rw [h, s a _ h]
theorem Tk.sqT {K : Fg} {H H' : Hp} {a : Addr} {xs : List V} (e : Tk H H') (h : SqT K H a xs) : SqT K H' a xs := by
  rcases h with (h | ⟨o, h⟩) | h
  · exact .inl (.inl (by rw [e a (.inl ⟨_, h⟩)]; exact h))
  · exact .inl (.inr ⟨o, by rw [e a (.inr ⟨_, _, h⟩)]; exact h⟩)
  · exact .inr h
mutual
theorem Dp.same {K : Fg} {H H' : Hp} (e : Same H H') : ∀ {v : V} {d : PyData}, Dp K H v d → Dp K H' v d
  | _, _, .non => .non
  | _, _, .bl b => .bl b
  | _, _, .int i => .int i
  | _, _, .str x => .str x
  | _, _, .lst s a => .lst (e.seq s) (DpAll.same e a)
  | _, _, .tup s a => .tup (e.sqT s) (DpAll.same e a)
theorem DpAll.same {K : Fg} {H H' : Hp} (e : Same H H') : ∀ {v : List V} {d : List PyData}, DpAll K H v d → DpAll K H' v d
  | _, _, .nil => .nil
  | _, _, .cons a b => .cons (Dp.same e a) (DpAll.same e b)
end
mutual
def tupd : PyData → Bool
  | .none => true
  | .bool _ => true
  | .int _ => true
  | .str _ => true
  | .list _ => false
  | .tuple xs => tupds xs
  | .dict _ => false
def tupds : List PyData → Bool
  | [] => true
  | d :: ds => tupd d && tupds ds
end
mutual
theorem Dp.tk {K : Fg} {H H' : Hp} (e : Tk H H') : ∀ {v : V} {d : PyData}, tupd d = true → Dp K H v d → Dp K H' v d
  | _, _, _, .non => .non
  | _, _, _, .bl b => .bl b
  | _, _, _, .int i => .int i
  | _, _, _, .str x => .str x
  | _, _, h, .lst s a => by unfold tupd at h; cases h
  | _, _, h, .tup s a => .tup (e.sqT s) (DpAll.tk e (by unfold tupd at h; exact h) a)
theorem DpAll.tk {K : Fg} {H H' : Hp} (e : Tk H H') : ∀ {v : List V} {d : List PyData}, tupds d = true → DpAll K H v d → DpAll K H' v d
  | _, _, _, .nil => .nil
  | _, _, h, .cons a b => by
    unfold tupds at h
    obtain ⟨h1, h2⟩ := Bool.and_eq_true_iff.mp h
    exact .cons (Dp.tk e h1 a) (DpAll.tk e h2 b)
end
theorem DpAll.len {K : Fg} {H : Hp} : ∀ {v : List V} {d : List PyData}, DpAll K H v d → v.length = d.length
  | _, _, .nil => rfl
  | _, _, .cons _ b => by rw [List.length_cons, List.length_cons, DpAll.len b]
theorem DpAll.get {K : Fg} {H : Hp} : ∀ {v : List V} {d : List PyData} {i : Nat} {x : PyData}, DpAll K H v d → d[i]? = some x → ∃ y, v[i]? = some y ∧ Dp K H y x
  | _, _, i, _, .nil, h => by simp at h
  | _, _, 0, _, .cons a _, h => by
    simp at h
    subst h
    exact ⟨_, rfl, a⟩
  | _, _, i + 1, _, .cons _ b, h => by
    obtain ⟨y, h1, h2⟩ := DpAll.get (i := i) b (by simpa using h)
    exact ⟨y, by simpa using h1, h2⟩
theorem DpAll.getv {K : Fg} {H : Hp} : ∀ {v : List V} {d : List PyData} {i : Nat} {y : V}, DpAll K H v d → v[i]? = some y → ∃ x, d[i]? = some x ∧ Dp K H y x
  | _, _, i, _, .nil, h => by simp at h
  | _, _, 0, _, .cons a _, h => by
    simp at h
    subst h
    exact ⟨_, rfl, a⟩
  | _, _, i + 1, _, .cons _ b, h => by
    obtain ⟨y, h1, h2⟩ := DpAll.getv (i := i) b (by simpa using h)
    exact ⟨y, by simpa using h1, h2⟩
theorem DpAll.app {K : Fg} {H : Hp} : ∀ {v u : List V} {d e : List PyData}, DpAll K H v d → DpAll K H u e → DpAll K H (v ++ u) (d ++ e)
  | _, _, _, _, .nil, s => s
  | _, _, _, _, .cons a b, s => .cons a (DpAll.app b s)
theorem DpAll.take {K : Fg} {H : Hp} : ∀ {v : List V} {d : List PyData} (n : Nat), DpAll K H v d → DpAll K H (v.take n) (d.take n)
  | _, _, 0, _ => .nil
  | _, _, _ + 1, .nil => .nil
  | _, _, n + 1, .cons a b => .cons a (DpAll.take n b)
theorem DpAll.drop {K : Fg} {H : Hp} : ∀ {v : List V} {d : List PyData} (n : Nat), DpAll K H v d → DpAll K H (v.drop n) (d.drop n)
  | _, _, 0, r => r
  | _, _, _ + 1, .nil => .nil
  | _, _, n + 1, .cons _ b => DpAll.drop n b
theorem Dp.tupI {K : Fg} {H : Hp} {v : V} {ds : List PyData} (h : Dp K H v (.tuple ds)) : ∃ a xs, v = .ref a ∧ SqT K H a xs ∧ DpAll K H xs ds := by
  cases h with
  | tup s a => exact ⟨_, _, rfl, s, a⟩
def tyD : PyData → String
  | .none => "NoneType"
  | .bool _ => "bool"
  | .int _ => "int"
  | .str _ => "str"
  | .list _ => "list"
  | .tuple _ => "tuple"
  | .dict _ => "dict"
theorem Dp.ty {K : Fg} {H : Hp} {v : V} {d : PyData} (h : Dp K H v d) : TyX K H v (.type (tyD d)) := by
  cases h with
  | non => exact .base .non
  | bl b => exact .base (.bl b)
  | int i => exact .base (.int i)
  | str x => exact .base (.str x)
  | lst s a =>
    rcases s with (s | ⟨o, s⟩) | ⟨o, its, n, e, c, _⟩
    · exact .base (.lst s)
    · exact .base (.frz s)
    · exact .kList e c
  | tup s a =>
    rcases s with (s | ⟨o, s⟩) | ⟨o, its, n, e, c, _⟩
    · exact .base (.tup s)
    · exact .fTuple s
    · exact .kTuple e c
def isiT (T t : String) : Bool := T == t || (T == "int" && t == "bool")
def isiB (T : String) (d : PyData) : Bool := isiT T (tyD d)
theorem isi_kit {K : Fg} {T : String} {d : PyData} (hT : T ∈ ["int", "bool", "str", "tuple", "list"]) : PySem.W.kitOne K (.type (tyD d)) (.type T) = some (isiB T d) := by
  have ht : tyD d ∈ ["NoneType", "bool", "int", "str", "list", "tuple", "dict"] := by cases d <;> simp [tyD]
  unfold isiB
  generalize tyD d = t at ht
  have all : ∀ T ∈ ["int", "bool", "str", "tuple", "list"], ∀ t ∈ ["NoneType", "bool", "int", "str", "list", "tuple", "dict"], kitB t T = some (isiT T t) := by decide +kernel
  exact kit_ty (all T hT t ht)
section
variable {X : Cx}
def rIsiD (K : Fg) : List V → Hp → VK → Prop := fun xs H Q => ∃ (x : V) (T : String) (d : PyData), xs = [x, .ty T] ∧ Dp K H x d ∧ T ∈ ["int", "bool", "str", "tuple", "list"] ∧ Q (.bl (isiB T d)) H
theorem call_isiD : CallR X (.builtin "isinstance") (rIsiD X.K) := by
  intro pins s σ H xs us Q I r h
  obtain ⟨x, T, d, e, hd, hT, q⟩ := h
  exact call_isi pins s σ H xs us Q I r ⟨x, .ty T, _, _, _, e, .ty T, hd.ty, isi_kit hT, q⟩
end
end L2
set_option maxHeartbeats 1000000
namespace Z
open PySem PySem.Spec PyProof.Rows L2
def pga (K : Fg) (C : Addr) (f : Str) : Addr := match PySem.W.recIn K (He.ma K C f) "property" with
  | some (.ref g :: _) => g
  | _ => 0
structure DefZ where
  at_ : Fg → Addr
  name : Str
  qual : Str
  st : Stmt
  dfl : List He.Dv := []
def DefZ.see (K : Fg) (a : Addr) : He.FnW := match K.lookup a with
  | some ⟨_, _, .func z, _⟩ => some (z.name, z.qualname, z.params, z.body, z.scope, z.globals, z.closure, z.builtins)
  | _ => none
def DefZ.due (d : DefZ) : He.FnW := some (d.name, d.qual, defArgs d.st, .stmts (defBody d.st), defScope d.st, mainGlobals, [], builtinsNs)
def DefZ.good (K : Fg) (d : DefZ) : Bool := PySem.W.keepIn K (.ref (d.at_ K)) && (match K.lookup (d.at_ K) with
  | some ⟨_, _, .func z, _⟩ => PySem.W.codeIn K z.code d.qual && He.dflB K z.defaults (d.dfl.map (He.Dv.v K))
  | _ => false)
abbrev FunZ (K : Fg) (d : DefZ) : Prop := FunD K d.name d.qual (defArgs d.st) (defBody d.st) (defScope d.st) (d.dfl.map (He.Dv.v K)) [] (d.at_ K) (fdOf K (d.at_ K))
theorem DefZ.fun {K : Fg} {d : DefZ} (e : DefZ.see K (d.at_ K) = d.due) (c : d.good K = true) : FunZ K d := by
  obtain ⟨kp, c2⟩ := He.ba c
  have go : ∃ fd, FunD K d.name d.qual (defArgs d.st) (defBody d.st) (defScope d.st) (d.dfl.map (He.Dv.v K)) [] (d.at_ K) fd := by
    unfold DefZ.see at e
    cases q : K.lookup (d.at_ K) with
    | none =>
      rw [q] at c2
      cases c2
    | some o =>
      obtain ⟨oc, od, dt, osl⟩ := o
      rw [q] at c2 e
      cases dt with
      | func fd =>
        obtain ⟨n1, n2, n3, n4, n5, n6, n7, n8, n9, n10, n11, n12, n13, n14, n15⟩ := fd
        have e2 : (some (n1, n2, n3, n4, n5, n6, n7, n15) : He.FnW) = some (d.name, d.qual, defArgs d.st, .stmts (defBody d.st), defScope d.st, mainGlobals, [], builtinsNs) := e
        simp only [Option.some.injEq, Prod.mk.injEq] at e2
        obtain ⟨h1, h2, h3, h4, h5, h6, h7, h8⟩ := e2
        subst h1 h2 h3 h4 h5 h6 h7 h8
        obtain ⟨k1, k3⟩ := He.ba (show (PySem.W.codeIn K n13 d.qual && He.dflB K n8 (d.dfl.map (He.Dv.v K))) = true from c2)
        exact ⟨_, ⟨oc, od, n8, n9, n10, n11, n12, n13, n14, osl, rfl, q, k1, He.dflB_ok k3, .inl rfl⟩, kp⟩
      | _ => cases c2
  obtain ⟨fd, F⟩ := go
  show FunD K d.name d.qual (defArgs d.st) (defBody d.st) (defScope d.st) (d.dfl.map (He.Dv.v K)) [] (d.at_ K) (fdOf K (d.at_ K))
  rw [fdOf_eq F]
  exact F
abbrev Seen : Type := Bool × List He.FnW
def lookZ (fa : List (Fg → Bool)) (fn : List DefZ) (K : Fg) : Seen := ((fa.all fun f => f K) && fn.all fun d => d.good K, fn.map fun d => DefZ.see K (d.at_ K))
def SaysZ (fa : List (Fg → Bool)) (fn : List DefZ) (K : Fg) : Prop := lookZ fa fn K = (true, fn.map DefZ.due)
theorem SaysZ.fact {fa : List (Fg → Bool)} {fn : List DefZ} {K : Fg} (c : SaysZ fa fn K) (i : Nat) {f : Fg → Bool} (h : fa[i]? = some f) : f K = true := by
  have c1 := (He.ba (show ((fa.all fun f => f K) && fn.all fun d => d.good K) = true from congrArg (fun z : Seen => z.1) c)).1
  exact List.all_eq_true.mp c1 f (List.mem_of_getElem? h)
theorem SaysZ.def_ {fa : List (Fg → Bool)} {fn : List DefZ} {K : Fg} (c : SaysZ fa fn K) (i : Nat) {d : DefZ} (h : fn[i]? = some d) : FunZ K d := by
  have c2 := (He.ba (show ((fa.all fun f => f K) && fn.all fun d => d.good K) = true from congrArg (fun z : Seen => z.1) c)).2
  have e : fn.map (fun d => DefZ.see K (d.at_ K)) = fn.map DefZ.due := congrArg (fun z : Seen => z.2) c
  have e2 : (fn.map fun d => DefZ.see K (d.at_ K))[i]? = (fn.map DefZ.due)[i]? := by rw [e]
  rw [List.getElem?_map, List.getElem?_map, h] at e2
  exact DefZ.fun (Option.some.inj e2) (List.all_eq_true.mp c2 d (List.mem_of_getElem? h))
open He (ga ma)
def fGlo (x : Str) (K : Fg) : Bool := He.Fa.ok K (.glo x)
def fFree (x : Str) (K : Fg) : Bool := He.Fa.ok K (.free x)
def fInt (x : Str) (i : Int) (K : Fg) : Bool := He.Fa.ok K (.int x i)
def fStr (x z : Str) (K : Fg) : Bool := He.Fa.ok K (.str x z)
def fCls (x : Str) (K : Fg) : Bool := He.Fa.ok K (.cls x)
def fNo (x f : Str) (K : Fg) : Bool := He.Fa.ok K (.noat x f)
def fMeth (x m : Str) (K : Fg) : Bool := He.Fa.ok K (.meth x m)
def fMk (x : Str) (K : Fg) : Bool := He.Fa.ok K (.mkr x)
def fTup (x : Str) (vs : List He.Dv) (K : Fg) : Bool := He.tupB K x vs
def fProp (x f : Str) (K : Fg) : Bool := decide (PySem.W.findIn K (.ref (ga K x)) f = some (some (.ref (ma K (ga K x) f)))) && decide (PySem.W.specialIn K (.ref (ma K (ga K x) f)) "__get__" = some (some (.builtin "property.__get__"))) &&
  decide (PySem.W.takesIn K (.ref (ma K (ga K x) f)) = some true) && (match PySem.W.recIn K (ma K (ga K x) f) "property" with
  | some (.ref _ :: _) => true
  | _ => false)
theorem fProp_ok {K : Fg} {x f : Str} (h : fProp x f K = true) : PropOf K (ga K x) f (ma K (ga K x) f) (pga K (ga K x) f) := by
  unfold fProp at h
  simp only [Bool.and_eq_true, decide_eq_true_eq] at h
  obtain ⟨⟨⟨h1, h2⟩, h3⟩, h4⟩ := h
  refine ⟨h1, h2, h3, ?_⟩
  unfold pga
  split at h4
  · rename_i g r e
    rw [e]
    exact ⟨r, rfl⟩
  · cases h4
def dfA (f : Fg → Addr) (i : Nat) (K : Fg) : Addr := match K.lookup (f K) with
  | some ⟨_, _, .func z, _⟩ => (match z.defaults with
    | .ref T => (match K.lookup T with
      | some ⟨_, _, .seq its _, _⟩ => (match its.toList[i]? with
        | some (.ref a) => a
        | _ => 0)
      | _ => 0)
    | _ => 0)
  | _ => 0
theorem calD {K : Fg} {d : DefZ} {ps : List Str} (F : FunZ K d) (n : Nat) (hd : d.dfl.map (He.Dv.v K) ≠ []) (hn : n + 0 = ps.length)
    (h : ∀ (T : Addr) (kV doc pm : Value) (an : Option Addr) (cdv ct : Value) (us its : List Value), us.length = n → its.length = (d.dfl.map (He.Dv.v K)).length →
      ∃ k, bindArgs (PySem.W.fnOf d.name d.qual (defArgs d.st) (defBody d.st) (defScope d.st) (.ref T) kV doc pm an cdv ct) ⟨us, []⟩ = seqItems? (.ref T) >>= k ∧ k (some its.toArray) = pure (ps.zip us)) : Cal K (d.at_ K) ps [] := by
  obtain ⟨ds, hv, hb⟩ := FunD.binds1 (ps := ps) F n (d.dfl.map (He.Dv.v K)).length hd (by rw [Nat.sub_self]; exact hn) (fun T kV doc pm an cdv ct us its h1 h2 => by
    obtain ⟨k, e1, e2⟩ := h T kV doc pm an cdv ct us its h1 h2
    refine ⟨k, e1, ?_⟩
    rw [e2, List.drop_eq_nil_of_le (by omega), List.append_nil])
  rw [List.drop_eq_nil_of_le (Nat.le_refl _)] at hv
  exact ⟨F.kp, ds, hb, hv⟩
def ClsI (K : Fg) (C : Addr) (f : Str) (n : Int) : Prop := ∃ mc u, ClX.CRead K C mc ∧ ClX.CVal K C mc f (.int n) u
def fClsI (x f : Str) (n : Int) (K : Fg) : Bool := PySem.W.readsIn K (ga K x) (.type "type") && decide (PySem.W.specialIn K (.ref (ga K x)) "__getattribute__" = some (some (.builtin "type.__getattribute__"))) && (match PySem.W.findCls K (.ref (ga K x)) (.type "type") f with
  | some (.val (.int m _)) => decide (m = n)
  | _ => false)
theorem fClsI_ok {K : Fg} {x f : Str} {n : Int} (h : fClsI x f n K = true) : ClsI K (ga K x) f n := by
  unfold fClsI at h
  simp only [Bool.and_eq_true, decide_eq_true_eq] at h
  obtain ⟨⟨h1, h2⟩, h3⟩ := h
  split at h3
  · rename_i m t e
    have em : m = n := of_decide_eq_true h3
    subst em
    exact ⟨_, _, ⟨h1, h2⟩, ⟨e, t, rfl⟩⟩
  · cases h3
end Z
set_option maxHeartbeats 1000000
namespace Z
open PySem PySem.Spec PyProof.Rows L2
section
variable {X : Cx} {x : Str} {pos : Pos}
theorem z_int {n : Int} (h : ∃ t, X.mg x = some (.int n t)) (hg : Gl X x := by rfl) (hd : (x == ("__debug__" : Str)) = false := by decide) : PE X (.Name x pos) (tC (.int n)) := by
  obtain ⟨t, h⟩ := h
  exact pe_glob hg h ⟨t, rfl⟩ hd
theorem z_str {n : Str} (h : ∃ t, X.mg x = some (.str n t)) (hg : Gl X x := by rfl) (hd : (x == ("__debug__" : Str)) = false := by decide) : PE X (.Name x pos) (tC (.str n)) := by
  obtain ⟨t, h⟩ := h
  exact pe_glob hg h ⟨t, rfl⟩ hd
theorem z_ref {a : Addr} (h : X.mg x = some (.ref a)) (hg : Gl X x := by rfl) (hd : (x == ("__debug__" : Str)) = false := by decide) : PE X (.Name x pos) (tC (.ref a)) := pe_glob hg h rfl hd
theorem z_ty {n : String} (hm : X.mg x = none) (hv : bootBuiltins x = some (.type n) := by decide +kernel) (hg : Gl X x := by rfl) (hn : x ≠ "__name__" := by decide) (hd : (x == ("__debug__" : Str)) = false := by decide) : PE X (.Name x pos) (tC (.ty n)) := pe_bltn hg hm hv rfl hn hd
theorem zg (i : Nat) (hN : X.N.Nodup) (hi : X.N[i]? = some x := by rfl) (hx : Loc X.env.scope x := by first | exact Or.inl rfl | exact Or.inr rfl) (hf : X.fn x = true ∨ X.env.scope.names.lookup x = some .local := by first | exact Or.inl rfl | exact Or.inr rfl) : PG X (.Name x pos) (gName i) := pg_name hN hi hx hf
theorem zset (i : Nat) {e : Expr} {te : TE} {pos' : Pos} (hN : X.N.Nodup) (he : PE X e te) (hi : X.N[i]? = some x := by rfl) (hx : Loc X.env.scope x := by first | exact Or.inl rfl | exact Or.inr rfl) (hs : swapsWith e (some (.Name x pos')) pos.line X.env = pure false := by rfl)
    (hf : X.fn x = true ∨ X.env.scope.names.lookup x = some .local := by first | exact Or.inl rfl | exact Or.inr rfl) : PS X (.Assign [.Name x pos'] e pos) (tAsg te (gName i)) := ps_set hN hi hx he hs hf
end
section
variable {σ : L2.St} {H : Hp} {Q : VK} {i : Nat} {v x y : V} {ta tb tc : TE} {r r' : R2} {D : Ends}
theorem s_var (h : σ[i]? = some (some v)) (q : Q v H) : tVar i σ H Q := ⟨v, h, q⟩
theorem s_c (q : Q v H) : tC v σ H Q := q
theorem s_op (q : ta σ H fun x H1 => tb σ H1 fun y H2 => r x y H2 Q) : tOp r ta tb σ H Q := q
theorem s_un {r : V → Hp → VK → Prop} (q : ta σ H fun x H1 => r x H1 Q) : tUn r ta σ H Q := q
theorem s_cb {r : List V → Hp → VK → Prop} {t : TA} (q : t σ H fun vs H1 => r vs H1 Q) : tCB r t σ H Q := q
theorem s_nil {Q : List V → Hp → Prop} (q : Q [] H) : tNil σ H Q := q
theorem s_cons {Q : List V → Hp → Prop} {tr : TA} (q : ta σ H fun x H1 => tr σ H1 fun xs H2 => Q (x :: xs) H2) : tCons ta tr σ H Q := q
theorem s_star {K : Fg} {Q : List V → Hp → Prop} {tr : TA} (q : ta σ H fun x H1 => ∃ p xs, x = V.ref p ∧ (SqT K H1 p xs ∨ SqL K H1 p xs) ∧ tr σ H1 fun ys H2 => Q (xs ++ ys) H2) : StX.tStar K ta tr σ H Q := q
theorem s_test {Q : Bool → Hp → Prop} (q : ta σ H fun x H' => ∃ k, x = .bl k ∧ Q k H') : tTest ta σ H Q := q
theorem s_B {Q : Bool → Hp → Prop} (q : ta σ H fun x H' => ∃ k, x = .bl k ∧ Q k H') : tB ta σ H Q := q
theorem s_bl {b : Bool} {R : Bool → Prop} (q : R b) : ∃ k, V.bl b = .bl k ∧ R k := ⟨b, rfl, q⟩
theorem s_and {t u : TT} {Q : Bool → Hp → Prop} (q : t σ H fun c H1 => if c = true then u σ H1 Q else Q false H1) : tAnd t u σ H Q := q
theorem s_or {t u : TT} {Q : Bool → Hp → Prop} (q : t σ H fun c H1 => if c = true then Q true H1 else u σ H1 Q) : tOr t u σ H Q := q
theorem s_not {t : TT} {Q : Bool → Hp → Prop} (q : t σ H fun c H1 => Q (!c) H1) : tNot t σ H Q := q
theorem s_andV (q : ta σ H fun x H1 => ∃ c, x = .bl c ∧ if c = true then tb σ H1 Q else Q (.bl false) H1) : tAndV ta tb σ H Q := q
theorem s_orV (q : ta σ H fun x H1 => ∃ c, x = .bl c ∧ if c = true then Q (.bl true) H1 else tb σ H1 Q) : tOrV ta tb σ H Q := q
theorem s_notV (q : ta σ H fun x H1 => ∃ c, x = .bl c ∧ Q (.bl (!c)) H1) : tNotV ta σ H Q := q
theorem s_if {t : TT} (q : t σ H fun c H1 => if c = true then ta σ H1 Q else tb σ H1 Q) : tIf t ta tb σ H Q := q
theorem s_chain (q : ta σ H fun x H1 => tb σ H1 fun y H2 => r x y H2 fun z H3 => ∃ k, z = .bl k ∧ (if k = true then tc σ H3 fun w' H4 => r' y w' H4 Q else Q (.bl false) H3)) : tChain r r' ta tb tc σ H Q := q
theorem s_tup {t : TA} (q : t σ H fun xs H1 => xs.length ≤ sizeLine ∧ ∀ p, H1 p = none → Q (.ref p) (upd H1 p (.tup xs))) : tTup t σ H Q := q
theorem s_lst {t : TA} (q : t σ H fun xs H1 => xs.length ≤ sizeLine ∧ ∀ p, H1 p = none → Q (.ref p) (upd H1 p (.lst xs))) : tLst t σ H Q := q
theorem s_call {sp : Sp} {dvs : List V} {E : XK} {t : TA} (q : t σ H fun vs H1 => sp (vs ++ dvs) H1 Q E) : tCall sp dvs E t σ H Q := q
variable {ea ec ed : L2.St → Hp → Prop} {eb : VK}
theorem s_seq {t u : TS} (q : t (.mk (u (.mk ea eb ec ed)) eb ec ed) σ H) : tSeq t u (.mk ea eb ec ed) σ H := q
theorem s_asg {g : TG} (q : ta σ H fun x H1 => g x σ H1 ea) : tAsg ta g (.mk ea eb ec ed) σ H := q
theorem s_gname {P : L2.St → Hp → Prop} (q : P (σ.set i (some v)) H) : gName i v σ H P := q
theorem s_ret (q : ta σ H eb) : tRet ta (.mk ea eb ec ed) σ H := q
theorem s_retN (q : eb .non H) : tRetN (.mk ea eb ec ed) σ H := q
theorem s_ifS {t : TT} {u w : TS} (q : t σ H fun b H1 => if b = true then u D σ H1 else w D σ H1) : tIfS t u w D σ H := q
theorem s_drop (q : ta σ H fun _ H1 => ea σ H1) : tDrop ta (.mk ea eb ec ed) σ H := q
theorem s_next (q : ea σ H) : tNext (.mk ea eb ec ed) σ H := q
theorem s_cont (q : ed σ H) : tCont (.mk ea eb ec ed) σ H := q
theorem s_break (q : ec σ H) : tBreak (.mk ea eb ec ed) σ H := q
theorem s_par {j : Nat} {t : TA} (q : t σ H fun vs H1 => ∃ v w, vs = [v, w] ∧ ea ((σ.set i (some v)).set j (some w)) H1) : tPar i j t (.mk ea eb ec ed) σ H := q
theorem s_par2 {R : V → V → Prop} {a b : V} (q : R a b) : ∃ v w, ([a, b] : List V) = [v, w] ∧ R v w := ⟨a, b, rfl, q⟩
theorem s_I0 {g : Int → Int → V} {a b : Int} (q : Q (g a b) H) : rI0 g (.int a) (.int b) H Q := ⟨a, b, rfl, rfl, q⟩
theorem s_I {C : Int → Int → Prop} {g : Int → Int → V} {a b : Int} (c : C a b) (q : Q (g a b) H) : rI C g (.int a) (.int b) H Q := ⟨a, b, rfl, rfl, c, q⟩
theorem s_U {g : Int → V} {a : Int} (q : Q (g a) H) : rU g (.int a) H Q := ⟨a, rfl, q⟩
theorem s_eq (h : scal x y = true) (q : Q (.bl (decide (x = y))) H) : rEq x y H Q := ⟨h, q⟩
theorem s_ne (h : scal x y = true) (q : Q (.bl (!decide (x = y))) H) : rNe x y H Q := ⟨h, q⟩
theorem s_isi {K : Fg} {T : String} {d : PyData} (h : Dp K H x d) (hT : T ∈ ["int", "bool", "str", "tuple", "list"]) (q : Q (.bl (isiB T d)) H) : rIsiD K [x, .ty T] H Q := ⟨x, T, d, rfl, h, hT, q⟩
theorem s_ixT {K : Fg} {p : Addr} {xs : List V} {a : Int} (h : SqT K H p xs) (e : atI xs a = some v) (q : Q v H) : rIxT K (.ref p) (.int a) H Q := ⟨p, xs, a, v, rfl, rfl, h, e, q⟩
theorem s_ixL {K : Fg} {p : Addr} {xs : List V} {a : Int} (h : SqL K H p xs) (e : atI xs a = some v) (q : Q v H) : rIxL K (.ref p) (.int a) H Q := ⟨p, xs, a, v, rfl, rfl, h, e, q⟩
theorem s_in {K : Fg} {neg : Bool} {p : Addr} {xs : List V} (h : SqL K H p xs ∨ SqT K H p xs) (fx : flatV x = true) (fs : xs.all flatV = true) (q : Q (.bl (if neg then !inV x xs else inV x xs)) H) : rIn K neg x (.ref p) H Q := ⟨p, xs, rfl, h, fx, fs, q⟩
end
theorem ite_t {b : Bool} {A B : Prop} (h : b = true) (q : A) : if b = true then A else B := by
  rw [if_pos h]
  exact q
theorem ite_f {b : Bool} {A B : Prop} (h : b = false) (q : B) : if b = true then A else B := by
  subst h
  exact q
theorem ite_b {b : Bool} {A B : Prop} (h : b = true → A) (q : b = false → B) : if b = true then A else B := by
  cases b
  · exact q rfl
  · exact h rfl
theorem tk_upd {H : Hp} {D : Addr} {xs : List V} {o : HO} (h : H D = some (.lst xs)) : Tk H (upd H D o) := fun a ha => by
  rw [upd_ne]
  rintro rfl
  rcases ha with ⟨ys, ha⟩ | ⟨o', u, ha⟩ <;> rw [h] at ha <;> cases ha
def keptD (keep : Nat → Bool) (d : Nat → PyData) (n : Nat) : List PyData := ((List.range n).filter keep).map d
theorem keptD_yes {keep : Nat → Bool} {d : Nat → PyData} {n : Nat} (h : keep n = true) : keptD keep d (n + 1) = keptD keep d n ++ [d n] := by
  unfold keptD
  rw [List.range_succ, List.filter_append, List.map_append]
  simp [h]
theorem keptD_no {keep : Nat → Bool} {d : Nat → PyData} {n : Nat} (h : keep n = false) : keptD keep d (n + 1) = keptD keep d n := by
  unfold keptD
  rw [List.range_succ, List.filter_append, List.map_append]
  simp [h]
theorem keptD_len {keep : Nat → Bool} {d : Nat → PyData} {n : Nat} : (keptD keep d n).length ≤ n := by
  unfold keptD
  rw [List.length_map]
  exact Nat.le_trans (List.length_filter_le _ _) (by rw [List.length_range]; exact Nat.le_refl _)
theorem keptD_tupds {keep : Nat → Bool} {d : Nat → PyData} (h : ∀ i, tupd (d i) = true) : ∀ n, tupds (keptD keep d n) = true
  | 0 => rfl
  | n + 1 => by
    have ap : ∀ (l : List PyData) (x : PyData), tupds l = true → tupd x = true → tupds (l ++ [x]) = true := by
      intro l
      induction l with
      | nil =>
        intro x _ hx
        show (tupd x && true) = true
        rw [hx]
        rfl
      | cons y l ih =>
        intro x hl hx
        obtain ⟨h1, h2⟩ := Bool.and_eq_true_iff.mp (show (tupd y && tupds l) = true from hl)
        show (tupd y && tupds (l ++ [x])) = true
        rw [h1, ih x h2 hx]
        rfl
    cases e : keep n with
    | true =>
      rw [keptD_yes e]
      exact ap _ _ (keptD_tupds h n) (h n)
    | false =>
      rw [keptD_no e]
      exact keptD_tupds h n
theorem lc_dat {K : Fg} {J : It} {n : Nat} {G : Hp → Prop} {Y : Nat → Hp → V → Hp → Prop} {g : TG} {tt : TT} {te : TE} {vs : List Nat} {σ : L2.St} {H1 : Hp} {D : Addr} {Qd : Hp → Prop} (w : Walk J n G Y) (keep : Nat → Bool) (d : Nat → PyData) (hD : H1 D = none) (hn : n ≤ 40000)
    (hdt : ∀ i, tupd (d i) = true) (hG : ∀ H, Same H1 H → G H) (hY : ∀ i H x H', Y i H x H' → Same H H')
    (hs : ∀ (i : Nat) (x : V) (H H' : Hp) (Yes : VK) (No : Hp → Prop), i < n → Same H1 H → Y i H x H' → (keep i = true → ∀ y H4, Same H' H4 → Dp K H4 y (d i) → Yes y H4) → (keep i = false → ∀ H3, Same H' H3 → No H3) →
      g x (wipe σ vs) H' fun σ2 H2 => wipe σ2 vs = wipe σ vs ∧ tt σ2 H2 fun b H3 => if b = true then te σ2 H3 Yes else No H3)
    (hd : ∀ H' ys, Same H1 H' → H' D = some (.lst ys) → DpAll K H' ys (keptD keep d n) → Qd H') :
    ∃ W : Nat → Nat → Hp → Prop, (∃ m, W 0 m (upd H1 D (.lst []))) ∧ ∀ i m H, W i m H →
      (J.stop i H ∧ Qd H) ∨ (J.go i H ∧ ∃ Nx : Hp → Prop, (∀ H', Nx H' → ∃ m', m' < m ∧ W (i + 1) m' H') ∧ ∀ x H', J.yld i H x H' → g x (wipe σ vs) H' fun σ2 H2 => wipe σ2 vs = wipe σ vs ∧ tt σ2 H2 fun b H3 =>
        if b = true then te σ2 H3 fun y H4 => ∃ acc, H4 D = some (.lst acc) ∧ acc.length < sizeLine ∧ Nx (upd H4 D (.lst (acc ++ [y]))) else Nx H3) := by
  refine lc_it w (fun i H => Same H1 H ∧ ∃ ys, H D = some (.lst ys) ∧ DpAll K H ys (keptD keep d i)) ⟨Same.new hD, [], upd_same, .nil⟩ (fun i H _ p => hG H p.1) (fun i x H H' hi p y => ?_) (fun H p => ?_)
  · obtain ⟨s1, ys, e1, a1⟩ := p
    have s2 := hY i H x H' y
    refine hs i x H H' _ _ hi s1 y (fun hk y4 H4 s4 d4 => ⟨ys, s4 _ _ (s2 _ _ e1), ?_, ?_, ?_⟩) fun hk H3 s3 => ⟨(s1.trans s2).trans s3, ys, s3 _ _ (s2 _ _ e1), ?_⟩
    · rw [a1.len]
      exact Nat.lt_of_le_of_lt keptD_len (Nat.lt_of_lt_of_le (Nat.lt_of_lt_of_le hi hn) (by decide))
    · exact fun a o h => by
        rw [upd_ne (ne_of_none h hD)]
        exact s4 _ _ (s2 _ _ (s1 _ _ h))
    · refine ⟨_, upd_same, ?_⟩
      have t := tk_upd (o := .lst (ys ++ [y4])) (s4 _ _ (s2 _ _ e1))
      rw [keptD_yes hk]
      exact ((a1.same (s2.trans s4)).tk t (keptD_tupds hdt i)).app (.cons (d4.tk t (hdt i)) .nil)
    · rw [keptD_no hk]
      exact a1.same (s2.trans s3)
  · obtain ⟨s1, ys, e1, a1⟩ := p
    exact hd H ys s1 e1 a1
theorem dp_bools {K : Fg} {H : Hp} : ∀ {ys : List V} {bs : List Bool}, DpAll K H ys (bs.map PyData.bool) → ys = bs.map V.bl
  | _, [], .nil => rfl
  | _, b :: bs, .cons a r => by
    cases a
    rw [dp_bools r]
    rfl
theorem dp_strs {K : Fg} {H : Hp} : ∀ {ys : List V} {bs : List Str}, DpAll K H ys (bs.map PyData.str) → ys = bs.map V.str
  | _, [], .nil => rfl
  | _, b :: bs, .cons a r => by
    cases a
    rw [dp_strs r]
    rfl
def pAt {α : Type} (l : List α) (p : α → Bool) (i : Nat) : Bool := (l[i]?.map p).getD false
def dAt {α : Type} (l : List α) (f : α → PyData) (i : Nat) : PyData := (l[i]?.map f).getD .none
theorem pAt_eq {α : Type} {l : List α} {p : α → Bool} {i : Nat} {x : α} (h : l[i]? = some x) : pAt l p i = p x := by
  unfold pAt
  rw [h]
  rfl
theorem dAt_eq {α : Type} {l : List α} {f : α → PyData} {i : Nat} {x : α} (h : l[i]? = some x) : dAt l f i = f x := by
  unfold dAt
  rw [h]
  rfl
theorem dAt_tupd {α : Type} {l : List α} {f : α → PyData} (h : ∀ x ∈ l, tupd (f x) = true) (i : Nat) : tupd (dAt l f i) = true := by
  unfold dAt
  cases e : l[i]? with
  | none => rfl
  | some x => exact h x (List.mem_of_getElem? e)
theorem keptD_list {α : Type} (l : List α) (p : α → Bool) (f : α → PyData) : keptD (pAt l p) (dAt l f) l.length = (l.filter p).map f := by
  have go : ∀ n, n ≤ l.length → keptD (pAt l p) (dAt l f) n = ((l.take n).filter p).map f := by
    intro n
    induction n with
    | zero => intro _; simp [keptD]
    | succ n ih =>
      intro hn
      have hx : l[n]? = some l[n] := List.getElem?_eq_getElem (by omega)
      have et : l.take (n + 1) = l.take n ++ [l[n]] := by rw [List.take_add_one, hx]; rfl
      cases e : pAt l p n with
      | true =>
        rw [keptD_yes e, ih (by omega), dAt_eq hx, et, List.filter_append, List.map_append]
        rw [pAt_eq hx] at e
        simp [e]
      | false =>
        rw [keptD_no e, ih (by omega), et, List.filter_append, List.map_append]
        rw [pAt_eq hx] at e
        simp [e]
  rw [go l.length (Nat.le_refl _), List.take_length]
theorem keptD_map {α : Type} (l : List α) (f : α → PyData) : keptD (fun _ => true) (dAt l f) l.length = l.map f := by
  have e := keptD_list l (fun _ => true) f
  have e2 : keptD (pAt l fun _ => true) (dAt l f) l.length = keptD (fun _ => true) (dAt l f) l.length := by
    unfold keptD
    congr 1
    apply List.filter_congr
    intro i hi
    have hi' : i < l.length := List.mem_range.mp hi
    rw [pAt_eq (List.getElem?_eq_getElem hi')]
  rw [← e2, e, List.filter_eq_self.mpr (fun _ _ => rfl)]
theorem map_bool {α : Type} (l : List α) (f : α → Bool) : (l.map fun c => PyData.bool (f c)) = (l.map f).map PyData.bool := by rw [List.map_map]; rfl
theorem map_str {α : Type} (l : List α) (f : α → Str) : (l.map fun c => PyData.str (f c)) = (l.map f).map PyData.str := by rw [List.map_map]; rfl
theorem s_yes {σ : L2.St} {H : Hp} {Q : Bool → Hp → Prop} (q : Q true H) : tYes σ H Q := q
theorem s_all {K : Fg} {H : Hp} {Q : VK} {a : Addr} {bs : List Bool} (h : SqL K H a (bs.map V.bl)) (q : Q (.bl (bs.all id)) H) : rAll K [.ref a] H Q := ⟨a, bs, rfl, h, q⟩
theorem s_lenT {K : Fg} {H : Hp} {p : Addr} {xs : List V} {R : Nat → Prop} (h : SqT K H p xs) (q : R xs.length) : ∃ x n, ([V.ref p] : List V) = [x] ∧ LenV K x H n ∧ R n := ⟨_, _, rfl, .inr ⟨xs, h, rfl⟩, q⟩
theorem s_lenL {K : Fg} {H : Hp} {p : Addr} {xs : List V} {R : Nat → Prop} (h : SqL K H p xs) (q : R xs.length) : ∃ x n, ([V.ref p] : List V) = [x] ∧ LenV K x H n ∧ R n := ⟨_, _, rfl, .inl ⟨xs, h, rfl⟩, q⟩
theorem s_lenS {K : Fg} {H : Hp} {z : Str} {R : Nat → Prop} (h : z.length ≤ sizeLine) (q : R z.length) : ∃ x n, ([V.str z] : List V) = [x] ∧ LenV K x H n ∧ R n := ⟨_, _, rfl, ⟨h, rfl⟩, q⟩
mutual
def short : PyData → Bool
  | .none => true
  | .bool _ => true
  | .int _ => true
  | .str z => decide (z.cps.size ≤ 40000)
  | .list xs => shorts xs
  | .tuple xs => shorts xs
  | .dict _ => true
def shorts : List PyData → Bool
  | [] => true
  | d :: ds => short d && shorts ds
end
theorem shorts_at : ∀ {ds : List PyData} {d : PyData}, shorts ds = true → d ∈ ds → short d = true
  | [], _, _, h => by simp at h
  | x :: ds, d, h, hm => by
    obtain ⟨h1, h2⟩ := Bool.and_eq_true_iff.mp (show (short x && shorts ds) = true from h)
    rcases List.mem_cons.mp hm with rfl | hm
    · exact h1
    · exact shorts_at h2 hm
theorem short_str {z : Str} (h : short (.str z) = true) : z.cps.size ≤ 40000 := by
  unfold short at h
  exact of_decide_eq_true h
theorem short_tup {ds : List PyData} (h : short (.tuple ds) = true) : shorts ds = true := by
  unfold short at h
  exact h
theorem bnt {b : Bool} (h : (!b) = true) : b = false := by
  cases b
  · rfl
  · cases h
theorem bnf {b : Bool} (h : (!b) = false) : b = true := by
  cases b
  · cases h
  · rfl
theorem newS {H H2 : Hp} {p : Addr} {o : HO} (hp : H p = none) (e : upd H p o = H2) : Same H H2 := by
  subst e
  exact Same.new hp
theorem newE {H H2 : Hp} {p : Addr} {o : HO} (e : upd H p o = H2) : H2 p = some o := by
  subst e
  exact upd_same
section
variable {K : Fg} {σ : L2.St} {H : Hp} {P : L2.St → Hp → Prop} {a : Addr} {xs r : List V} {v y : V} {Q : VK} {kvs : List (Key × V)} {k : Key}
theorem s_gtup {n : Nat} {t : TGs} (h : SqT K H a xs) (hl : xs.length = n) (q : t xs σ H P) : gTup K n t (.ref a) σ H P := ⟨a, xs, rfl, h, hl, q⟩
theorem s_gcons {t : TG} {u : TGs} (q : t v σ H fun σ' H' => u r σ' H' P) : gCons t u (v :: r) σ H P := ⟨v, r, rfl, q⟩
theorem s_gnil (q : P σ H) : gNil [] σ H P := ⟨rfl, q⟩
theorem s_din {ty td : TE} (q : ty σ H fun y H1 => td σ H1 fun x H2 => ∃ a o, x = .ref a ∧ DGet H2 a y o ∧ Q (.bl o.isSome) H2) : tDIn ty td σ H Q := q
theorem s_dnin {ty td : TE} (q : ty σ H fun y H1 => td σ H1 fun x H2 => ∃ a o, x = .ref a ∧ DGet H2 a y o ∧ Q (.bl (!o.isSome)) H2) : tDNotIn ty td σ H Q := q
theorem s_dget {ty td : TE} (q : td σ H fun x H1 => ty σ H1 fun y H2 => ∃ a v, x = .ref a ∧ DGet H2 a y (some v) ∧ Q v H2) : tDGet td ty σ H Q := q
theorem s_dS {z : Str} {R : Option V → Prop} (h : H a = some (.dK kvs)) (q : R (valV kvs (.inr z))) : ∃ b o, V.ref a = .ref b ∧ DGet H b (.str z) o ∧ R o := ⟨a, _, rfl, DGet.k (k := Sum.inr z) h, q⟩
theorem s_dgS {z : Str} {R : V → Prop} (h : H a = some (.dK kvs)) (e : valV kvs (.inr z) = some v) (q : R v) : ∃ b u, V.ref a = .ref b ∧ DGet H b (.str z) (some u) ∧ R u := ⟨a, v, rfl, by rw [← e]; exact DGet.k (k := Sum.inr z) h, q⟩
end
section
variable {K : Fg} {σ : L2.St} {H : Hp} {Q : VK} {ta tv : TE} {t : TA} {r : V → List V → Hp → VK → Prop} {l : Addr} {xs : List V} {x y v : V} {f m : Str} {C dx : Addr} {fs : List (Str × V)} {ea ec ed : L2.St → Hp → Prop} {eb : VK}
theorem s_bm {T : String} (q : ta σ H fun x H1 => tyV K T x H1 ∧ t σ H1 fun xs H2 => r x xs H2 Q) : tBM K T r ta t σ H Q := q
theorem s_bm0 {T : String} (q : ta σ H fun x H1 => tyV K T x H1 ∧ r x [] H1 Q) : tBM0 K T r ta σ H Q := q
theorem s_tyL {R : Prop} (h : H l = some (.lst xs)) (q : R) : tyV K "list" (.ref l) H ∧ R := ⟨Or.inl ⟨rfl, xs, SqL.of h⟩, q⟩
theorem s_append (h : H l = some (.lst xs)) (hl : xs.length < sizeLine) (q : Q .non (upd H l (.lst (xs ++ [y])))) : rAppend (.ref l) [y] H Q := ⟨l, xs, y, rfl, rfl, h, hl, q⟩
theorem s_fldg (q : ta σ H fun x H1 => ∃ a C dx fs v, x = .ref a ∧ H1 a = some (.ins C dx fs) ∧ Cls K C ∧ NoAttr K C f ∧ fs.lookup f = some v ∧ Q v H1) : tFld K ta f σ H Q := q
theorem s_fldat {a : Addr} {R : V → Prop} (h : H a = some (.ins C dx fs)) (c : Cls K C) (n : NoAttr K C f) (e : fs.lookup f = some v) (q : R v) : ∃ b C dx fs v, V.ref a = .ref b ∧ H b = some (.ins C dx fs) ∧ Cls K C ∧ NoAttr K C f ∧ fs.lookup f = some v ∧ R v := ⟨a, C, dx, fs, v, rfl, h, c, n, e, q⟩
theorem s_meth {sp : Sp} {dvs : List V} {E : XK} (q : ta σ H fun x H1 => ∃ a dx fs, x = .ref a ∧ H1 a = some (.ins C dx fs) ∧ fs.lookup m = none ∧ t σ H1 fun vs H2 => sp (x :: (vs ++ dvs)) H2 Q E) : tMeth C m sp dvs E ta t σ H Q := q
theorem s_methat {a : Addr} {R : Prop} (h : H a = some (.ins C dx fs)) (e : fs.lookup m = none) (q : R) : ∃ b dx fs, V.ref a = .ref b ∧ H b = some (.ins C dx fs) ∧ fs.lookup m = none ∧ R := ⟨a, dx, fs, rfl, h, e, q⟩
theorem s_prop {sp : Sp} {E : XK} (q : ta σ H fun x H1 => ∃ a dx fs, x = .ref a ∧ H1 a = some (.ins C dx fs) ∧ sp [.ref a] H1 Q E) : tProp C sp [] E ta σ H Q := q
theorem s_propat {a : Addr} {R : Addr → Prop} (h : H a = some (.ins C dx fs)) (q : R a) : ∃ b dx fs, V.ref a = .ref b ∧ H b = some (.ins C dx fs) ∧ R b := ⟨a, dx, fs, rfl, h, q⟩
end
end Z
set_option maxHeartbeats 1000000
namespace Z
open PySem PySem.Spec PyProof.Rows L2
open AutoSeq1 (wpAny_loadPart')
theorem enum_new1 {v : Value} {o : Obj} {G : Heap → Prop} (B : Begins v o G) :
    Meets (Builtin.«enumerate.__new__» ⟨[.type "enumerate", v], []⟩) (fun _ R s => G s.heap ∧
      R (.ok (.ret (.ref (s.heap.push o).objs.size))) { s with heap := (s.heap.push o).push { cls := .type "enumerate", data := .fields #[.none, .bool false, .ref s.heap.objs.size, rawInt 0, .none, .none] } }) :=
  .of_wp fun prog w A R s h => by
    obtain ⟨hp, g, d, tk, os⟩ := s
    obtain ⟨h1, h⟩ := h
    have su := sub_enumerate
    have q1 : ∀ {A' : Around} {E : Value → Shared → Prop} {Q : Value → Shared → Prop}, Q (.ref hp.objs.size) ⟨hp.push o, g, d, tk, os⟩ → wpAny (model prog w) A' (pyIter v) Q E ⟨hp, g, d, tk, os⟩ :=
      fun q => B.iter prog w _ _ ⟨hp, g, d, tk, os⟩ _ h1 q
    wp_walk using q1
    refine wpAny_stack_any fun st => wpAny_pure ?_
    split
    · rename_i c _ _ _ _ _
      cases (c == Value.type "enumerate") <;> (wp_walk using q1; exact ⟨_, rfl, h⟩)
    · wp_walk using q1
      exact ⟨_, rfl, h⟩
theorem call_enumT {prog : Program} {w : World} {A : Around} {E : Value → Shared → Prop} {s : Shared} {v : Value} {o : Obj} {G : Heap → Prop} {Q : Value → Shared → Prop} (B : Begins v o G) (h1 : G s.heap)
    (h : ∀ h', IsEnum h' (s.heap.objs.size + 1) s.heap.objs.size 0 .none → h'.get? s.heap.objs.size = some o → (∀ b o, s.heap.get? b = some o → h'.get? b = some o) → Q (.ref (s.heap.objs.size + 1)) { s with heap := h' }) :
    wpAny (model prog w) A (call (.type "enumerate") [v]) Q E s := by
  refine callType_new F.called_enumerate (by decide) (F.typeCall_enumerate_1 _) (F.newCall_enumerate_1 _) (fun obj => F.args_object_init_2 obj _) F.entry_enumerate_new (enum_new1 B) ⟨h1, ?_⟩
  have hz : (s.heap.push o).objs.size = s.heap.objs.size + 1 := Heap.size_push ..
  show _ ∧ _
  rw [hz]
  have he : IsEnum ((s.heap.push o).push { cls := .type "enumerate", data := .fields #[.none, .bool false, .ref s.heap.objs.size, rawInt 0, .none, .none] }) (s.heap.objs.size + 1) s.heap.objs.size 0 .none := by
    have z := Heap.get?_push_size (s.heap.push o) (o := { cls := .type "enumerate", data := .fields #[.none, .bool false, .ref s.heap.objs.size, rawInt 0, .none, .none] }) rfl
    rw [hz] at z
    exact z
  exact ⟨⟨_, he, rfl⟩, h _ he (Heap.get?_push_of_some _ (Heap.get?_push_size _ B.free)) fun b o x => Heap.get?_push_of_some _ (Heap.get?_push_of_some _ x)⟩
def IteT (K : Fg) (a : Addr) : It :=
  ⟨fun i H => ∃ (xs : List V) (x : V), SqT K H a xs ∧ xs[i]? = some x, fun i H v H' => ∃ T x, v = .ref T ∧ H T = none ∧ H' = upd H T (.tup [.int (i : Nat), x]) ∧ ∀ xs, SqT K H a xs → xs[i]? = some x, fun i H => ∃ xs : List V, SqT K H a xs ∧ xs.length ≤ i⟩
theorem turn_enumT {P : Program} {w : World} {K : Fg} {elts : List Expr} {kk : Nat} {tpos : Pos} (a e it : Addr) (hai : a ≠ it) (hae : a ≠ e) :
    Turn P w K (.Tuple elts kk tpos) (IteT K a) [e, it] e (fun i h => (∃ old, IsEnum h e it ((i : Nat) : Int) old) ∧ h.IsTupleIter it a i ∧ e ≠ it) where
  mem := by simp
  obj := fun i h st b hb => by
    obtain ⟨⟨old, he⟩, ⟨o, ho, hc, hd⟩, _⟩ := st
    have e' : b = e ∨ b = it := by simpa using hb
    rcases e' with z | z
    · rw [z]
      exact ⟨_, he, fun v q => nomatch q⟩
    · rw [z]
      exact ⟨o, ho, fun v q => by rw [hd] at q; cases q⟩
  keep := fun i h h' st k => let ⟨⟨old, he⟩, hi, hne⟩ := st; ⟨⟨old, k e (by simp) _ he⟩, hi.at fun o q => k it (by simp) o q, hne⟩
  item := by
    intro X hP hw hK hc i pins s σ H E I hf st hg
    subst hP hw hK
    obtain ⟨⟨old, he⟩, hit, hne⟩ := st
    obtain ⟨xs, x, hq, hx⟩ := hg
    obtain ⟨its, rv, p, hz⟩ := I.tuple hq
    obtain ⟨u, hu, ru⟩ := rv.get hx
    have hel : e < s.heap.objs.size := Heap.lt_size he
    have hil : it < s.heap.objs.size := by
      obtain ⟨_, q, _⟩ := hit
      exact Heap.lt_size q
    have hlt : i < its.toArray.size := by
      have := (List.getElem?_eq_some_iff.mp hu).1
      simpa using this
    have Dr := Draws.tuple (prog := X.prog) (w := X.w) (A := X.A.in1) (I.ok.hd hc) it a hai its.toArray
    refine wpAny_pyNext_enum_itemD Dr he ⟨hit, p⟩ hlt hne (by simp [hne, Ne.symm hae]) fun x' h' tk hx' ho hst' hT hsz hk => ?_
    have ex : x' = u := by
      have hx2 : its[i]? = some x' := by simpa using hx'
      rw [hu] at hx2
      exact (Option.some.inj hx2).symm
    subst ex
    refine ⟨_, rfl, wpAny_letOwnedTupleGo_enum (s := { s with heap := h', toks := tk + 1 }) ho fun h'' he' sb => ?_⟩
    have hT2 : h''.get? s.heap.objs.size = some { cls := .type "tuple", data := .seq #[.int i tk, x'] } := (sb.2 _ (Nat.ne_of_gt hel)).trans hT
    have new : ObjOk X.prog X.w (upd H s.heap.objs.size (.tup [.int (i : Nat), x])) h'' s.heap.objs.size (.tup [.int (i : Nat), x]) :=
      ⟨by show 2 ≤ sizeLine; decide, [.int i tk, x'], .cons ⟨_, rfl⟩ (.cons ru .nil), ⟨_, hT2, rfl, _, rfl⟩⟩
    have I1 : Inv X pins σ (upd H s.heap.objs.size (.tup [.int (i : Nat), x])) { s with heap := h'', toks := tk + 1 } :=
      I.turnedNew (ch := [e, it]) (fun b ob hb q => (sb.2 b (fun z => hb (by simp [z]))).trans (hk b ob (fun z => hb (by simp [z])) (fun z => hb (by simp [z])) q)) hf (Nat.le_refl _) new
    refine ⟨.ref s.heap.objs.size, _, I1, rfl, ⟨_, x, rfl, I.hok.fresh (Nat.le_refl _), rfl, fun ys hy => by rw [I.tuple_inj hy hq]; exact hx⟩, ⟨⟨x', ?_⟩, hst'.1.at fun o q => (sb.2 it (Ne.symm hne)).trans q, hne⟩, fun b hb => ?_⟩
    · have e1 : ((i + 1 : Nat) : Int) = (i : Int) + 1 := by omega
      rw [e1]
      exact he'
    · have hb' : b < s.heap.objs.size := by
        have e' : b = e ∨ b = it := by simpa using hb
        rcases e' with z | z
        · rw [z]; exact hel
        · rw [z]; exact hil
      rw [upd_ne (Nat.ne_of_lt hb')]
      exact (hf b hb).1
  done := by
    intro X hP hw hK hc i pins s σ H E I hf st hg
    subst hP hw hK
    obtain ⟨⟨old, he⟩, hit, hne⟩ := st
    obtain ⟨xs, hq, hx⟩ := hg
    obtain ⟨its, rv, p, hz⟩ := I.tuple hq
    obtain ⟨f0, f1, f2, f3, f4, f5⟩ := hf it (by simp)
    have hl := rv.length
    have Dr := Draws.tuple (prog := X.prog) (w := X.w) (A := X.A.in1) (I.ok.hd hc) it a hai its.toArray
    have T : s.TypeIs (.ref e) "enumerate" := ⟨_, he, rfl⟩
    unfold pyNext
    refine wpAny_bind (wpAny_attempt (wpAny_callSpecial?_slot (name := Str.ofString "__next__") T F.slot_enumerate_next (wpAny_call_entry F.slot_enumerate_next T F.entry_enumerate_next ?_ (F.args_enumerate_next_1 _))))
    show wpAny _ _ (field (.ref e) 2 >>= _) _ _ _
    refine wpAny_bind (wpAny_field he rfl (x := .ref it) rfl ?_)
    refine wpAny_bind (wpAny_nextOf_tuple_end (I.ok.hd hc) hit p (by simp; omega) fun h' x he' hx' => ?_)
    obtain ⟨o, ho, hcc⟩ := hx'
    refine wpAny_bind (wpAny_isInstance (T := "StopIteration") (b := true) ⟨o, ho, hcc⟩ isSubtype_stop ?_)
    exact wpAny_pure ⟨rfl, I.turned (t' := s.toks) (fun b o hb q => he' b o hb q) f0 f1 f3 f4 f5⟩
  self := fun A i s Q E st h => let ⟨⟨_, he⟩, _⟩ := st; wpAny_pyIter_enum he h
def iEnumT (K : Fg) (ta : TA) : TI := fun σ H R => ta σ H fun vs H1 => ∃ a xs, vs = [.ref a] ∧ SqT K H1 a xs ∧ R (IteT K a) H1
theorem pi_enumT {X : Cx} {e : Expr} {ta : TA} {p pos tpos : Pos} {elts : List Expr} {kk : Nat} (hg : Gl X "enumerate") (hm : X.mg "enumerate" = none) (ha : PA X [e] ta) (hs : starEach [e] X.env = [(false, eval e X.env)] := by rfl) :
    PI X (.Tuple elts kk tpos) (.Call (.Name "enumerate" p) [e] [] pos) (iEnumT X.K ta) := by
  refine ⟨fun pins s σ H R I h => ?_⟩
  refine Call_ (ld_blt I hg hm boot_enumerate (PyProof.Rows.callWith_type1 (thn (ha.run pos pins s σ H _ I h) fun us s1 ⟨vs, H1, I1, r1, q1⟩ => ?_) hs rfl))
  obtain ⟨a, xs, ex, hq, q⟩ := q1
  subst ex
  cases r1 with
  | cons r rr =>
    cases rr
    cases r
    obtain ⟨its, rv, p', hz⟩ := I1.tuple hq
    have la : a < s1.heap.objs.size := p'.lt
    refine call_enumT (begins_tuple a its.toArray) p' fun h' he hit hk => wpAny_pyIter_enum he ?_
    have I2 : Inv X pins σ H1 { s1 with heap := h' } := I1.kept (t' := s1.toks) hk
    refine ⟨s1.heap.objs.size + 1, [s1.heap.objs.size + 1, s1.heap.objs.size], _, _, H1, rfl, I2, turn_enumT a (s1.heap.objs.size + 1) s1.heap.objs.size (Nat.ne_of_lt la) (Nat.ne_of_lt (Nat.lt_succ_of_lt la)), ⟨⟨.none, he⟩, ⟨_, hit, rfl, rfl⟩, Nat.succ_ne_self _⟩, fun b hb => ?_, q⟩
    have e' : b = s1.heap.objs.size + 1 ∨ b = s1.heap.objs.size := by simpa using hb
    have hle : s1.heap.objs.size ≤ b := by
      rcases e' with z | z
      · rw [z]; exact Nat.le_add_right _ _
      · rw [z]; exact Nat.le_refl _
    exact I1.fpOk hle (I1.hok.fresh hle)
theorem walk_enumT {K : Fg} {a : Addr} {xs : List V} : Walk (IteT K a) xs.length (fun H => SqT K H a xs) (YPair (fun i => some (.int (i : Nat))) (fun i => xs[i]?)) := by
  refine ⟨fun i _ hi q => ⟨xs, xs[i], q, by simp [hi]⟩, fun _ q => ⟨xs, q, Nat.le_refl _⟩, fun i H v H' _ q y => ?_⟩
  obtain ⟨T, x, h1, h2, h3, h4⟩ := y
  exact ⟨T, .int (i : Nat), x, h1, h2, h3, rfl, h4 xs q⟩
end Z
set_option maxHeartbeats 1000000
namespace Z
open PySem PySem.Spec PyProof.Rows L2
section
variable {X : Cx}
def rEq0 (K : Fg) (neg : Bool) : R2 := fun x y H Q => ∃ a b xs, x = .ref a ∧ y = .ref b ∧ ((SqL K H a xs ∧ SqL K H b []) ∨ (SqT K H a xs ∧ SqT K H b [])) ∧ Q (.bl (if neg then !xs.isEmpty else xs.isEmpty)) H
theorem vals_nil {us : List Value} (r : Vals [] us) : us = [] := by cases r; rfl
theorem op_eq0 (hu : X.A.units + 64 < cLine) : OpR X (compareOp .Eq) (rEq0 X.K false) := by
  intro pins s σ H x y v u Q I rx ry h
  obtain ⟨a, b, xs, rfl, rfl, hq, q⟩ := h
  obtain rfl : v = Value.ref a := rx
  obtain rfl : u = Value.ref b := ry
  rcases hq with ⟨ha, hb⟩ | ⟨ha, hb⟩
  · obtain ⟨its, r1, p1, _⟩ := I.list ha
    obtain ⟨its2, r2, p2, _⟩ := I.list hb
    cases vals_nil r2
    cases xs with
    | nil =>
      cases vals_nil r1
      exact SeqAt.eq_listAt (e := fun _ => true) p1.isList p2.isList rfl (by omega) (fun j h1 _ => absurd h1 (Nat.not_lt_zero _)) ⟨.bl true, H, I, rfl, q⟩
    | cons z zs =>
      cases r1
      exact SeqAt.eq_list_lengthsAt p1.isList p2.isList (by simp) (by omega) ⟨.bl false, H, I, rfl, q⟩
  · obtain ⟨its, r1, p1, _⟩ := I.tuple ha
    obtain ⟨its2, r2, p2, _⟩ := I.tuple hb
    cases vals_nil r2
    cases xs with
    | nil =>
      cases vals_nil r1
      exact SeqAt.eq_tupleAt (e := fun _ => true) p1 p2 (by omega) (fun j h1 _ => absurd h1 (Nat.not_lt_zero _)) ⟨.bl true, H, I, rfl, q⟩
    | cons z zs =>
      cases r1
      refine SeqAt.eq_tupleAt (e := fun _ => true) p1 p2 (by omega) (fun j _ h1 => absurd h1 (Nat.not_lt_zero _)) ⟨.bl false, H, I, ?_, q⟩
      show Value.bool _ = Value.bool false
      simp
theorem op_ne0 (hu : X.A.units + 64 < cLine) : OpR X (compareOp .NotEq) (rEq0 X.K true) := by
  intro pins s σ H x y v u Q I rx ry h
  obtain ⟨a, b, xs, rfl, rfl, hq, q⟩ := h
  obtain rfl : v = Value.ref a := rx
  obtain rfl : u = Value.ref b := ry
  rcases hq with ⟨ha, hb⟩ | ⟨ha, hb⟩
  · obtain ⟨its, r1, p1, _⟩ := I.list ha
    obtain ⟨its2, r2, p2, _⟩ := I.list hb
    cases vals_nil r2
    cases xs with
    | nil =>
      cases vals_nil r1
      exact SeqAt.RcNeAt.lists (e := fun _ => true) p1.isList p2.isList rfl (by omega) (fun j h1 _ => absurd h1 (Nat.not_lt_zero _)) _ _ _ _ ⟨.bl false, H, I, rfl, q⟩
    | cons z zs =>
      cases r1
      exact SeqAt.RcNeAt.lists_lengths p1.isList p2.isList (by simp) (by omega) _ _ _ _ ⟨.bl true, H, I, rfl, q⟩
  · obtain ⟨its, r1, p1, _⟩ := I.tuple ha
    obtain ⟨its2, r2, p2, _⟩ := I.tuple hb
    cases vals_nil r2
    cases xs with
    | nil =>
      cases vals_nil r1
      exact SeqAt.RcNeAt.tuples (e := fun _ => true) p1 p2 (by omega) (fun j h1 _ => absurd h1 (Nat.not_lt_zero _)) _ _ _ _ ⟨.bl false, H, I, rfl, q⟩
    | cons z zs =>
      cases r1
      refine SeqAt.RcNeAt.tuples (e := fun _ => true) p1 p2 (by omega) (fun j _ h1 => absurd h1 (Nat.not_lt_zero _)) _ _ _ _ ⟨.bl true, H, I, ?_, q⟩
      show Value.bool _ = Value.bool true
      simp
end
end Z
set_option maxHeartbeats 1000000
namespace Z
open PySem PySem.Spec PyProof.Rows L2
section
variable {X : Cx} (K : Fg) {e : Expr} {es : List Expr} {ta : TE} {t : TA} {tg : TGs} {f : Str} {T : String} {r : V → List V → Hp → VK → Prop} {n : Nat} {x y : Expr}
theorem ix_tupK (hK : X.K = K := by rfl) : IxR X (rIxT K) := by subst hK; exact ix_tup
theorem ix_listK (hK : X.K = K := by rfl) : IxR X (rIxL K) := by subst hK; exact ix_list
theorem op_in_seqK (hK : X.K = K := by rfl) : OpR X (compareOp .In) (rIn K false) := by subst hK; exact op_in_seq
theorem op_notIn_seqK (hK : X.K = K := by rfl) : OpR X (compareOp .NotIn) (rIn K true) := by subst hK; exact op_notIn_seq
theorem call_isiDK (hK : X.K = K := by rfl) : CallR X (.builtin "isinstance") (rIsiD K) := by subst hK; exact call_isiD
theorem call_lenK (hK : X.K = K := by rfl) : CallR X (.builtin "len") (fun xs H Q => ∃ x n, xs = [x] ∧ LenV K x H n ∧ Q (.int n) H) := by subst hK; exact call_len
theorem cr_allK (hc : X.calm = true) (hK : X.K = K := by rfl) : CallR X (.builtin "all") (rAll K) := by subst hK; exact cr_all hc
theorem call_tuple_ofK (hK : X.K = K := by rfl) : CallR X (.type "tuple") (fun xs H Q => ∃ p ys, xs = [.ref p] ∧ ((SqL K H p ys ∧ ∀ l, H l = none → Q (.ref l) (upd H l (.tup ys))) ∨ (SqT K H p ys ∧ Q (.ref p) H))) := by subst hK; exact call_tuple_of
theorem op_eq0K (hu : X.A.units + 64 < cLine) (hK : X.K = K := by rfl) : OpR X (compareOp .Eq) (rEq0 K false) := by subst hK; exact op_eq0 hu
theorem op_ne0K (hu : X.A.units + 64 < cLine) (hK : X.K = K := by rfl) : OpR X (compareOp .NotEq) (rEq0 K true) := by subst hK; exact op_ne0 hu
theorem op_eqDK (hu : X.A.units + 64 < cLine) (hK : X.K = K := by rfl) : OpR X (compareOp .Eq) (rEqD K) := by subst hK; exact op_eqD hu
theorem op_neDK (hu : X.A.units + 64 < cLine) (hK : X.K = K := by rfl) : OpR X (compareOp .NotEq) (rNeD K) := by subst hK; exact op_neD hu
theorem sl_listK (hK : X.K = K := by rfl) : SlR X (rSlL K) := by subst hK; exact sl_list
theorem sl_tupAK (hK : X.K = K := by rfl) : SlR X (rSlA K) := by subst hK; exact sl_tupA
theorem op_catAK (hK : X.K = K := by rfl) : OpR X (binaryOp .Add) (rCatA K) := by subst hK; exact op_catA
theorem kFld (h : PE X e (tFld X.K ta f)) (hK : X.K = K := by rfl) : PE X e (tFld K ta f) := by subst hK; exact h
theorem kBM (h : PE X e (tBM X.K T r ta t)) (hK : X.K = K := by rfl) : PE X e (tBM K T r ta t) := by subst hK; exact h
theorem kGT (h : PG X e (gTup X.K n tg)) (hK : X.K = K := by rfl) : PG X e (gTup K n tg) := by subst hK; exact h
theorem kIT (h : PI X x y (iTup X.K ta)) (hK : X.K = K := by rfl) : PI X x y (iTup K ta) := by subst hK; exact h
theorem kIL (h : PI X x y (iList X.K ta)) (hK : X.K = K := by rfl) : PI X x y (iList K ta) := by subst hK; exact h
theorem kIET (h : PI X x y (iEnumT X.K t)) (hK : X.K = K := by rfl) : PI X x y (iEnumT K t) := by subst hK; exact h
theorem kIE (h : PI X x y (iEnum X.K t)) (hK : X.K = K := by rfl) : PI X x y (iEnum K t) := by subst hK; exact h
theorem kSt {te : TE} (h : PA X es (StX.tStar X.K te t)) (hK : X.K = K := by rfl) : PA X es (StX.tStar K te t) := by subst hK; exact h
end
theorem _root_.L2.Room.units5 {k : Nat} {A : Around} (r : Room k A) : A.units + 65 < cLine := by have := r.un; omega
end Z
set_option maxHeartbeats 1000000
namespace Z
open PySem PySem.Spec PyProof.Rows L2
end Z
set_option maxHeartbeats 1000000
namespace Z
open PySem PySem.Spec PyProof.Rows L2
end Z
set_option maxHeartbeats 1000000
namespace Z
open PySem PySem.Spec PyProof.Rows L2
end Z
namespace Z
open PySem PySem.Spec PyProof.Rows L2
end Z
set_option maxHeartbeats 1000000
namespace Z
open PySem PySem.Spec PyProof.Rows L2
end Z
set_option maxHeartbeats 1000000
namespace Z
open PySem PySem.Spec PyProof.Rows L2
end Z
set_option maxHeartbeats 1000000
namespace Z
open PySem PySem.Spec PyProof.Rows L2
end Z
set_option maxHeartbeats 1000000
namespace Z
open PySem PySem.Spec PyProof.Rows L2
end Z
set_option maxHeartbeats 3200000
namespace Z
open PySem PySem.Spec PyProof.Rows L2 PySem.Froz
structure TxR (P : Program) (w : World) (D : SD) (l : List Str) : Prop where
  ok : TxOk P w D l
  nd : l.Nodup
  ris : Ris D.2.2.place.toList
  led : w.params.followText "set-order" = true ∨ D.2.2.led = true
theorem TxR.zero {P : Program} {w : World} : TxR P w (#[], 0, .fresh 0 0 (!w.params.followText "set-order")) [] := by
  refine ⟨TxOk.nil rfl, List.nodup_nil, List.Pairwise.nil, ?_⟩
  show _ ∨ (!w.params.followText "set-order") = true
  cases w.params.followText "set-order"
  · exact .inr rfl
  · exact .inl rfl
theorem off_place (t : SetTable) : (if t.plain = true then { t with plain := false } else t).place = t.place ∧ (if t.plain = true then { t with plain := false } else t).led = t.led := by
  by_cases c : t.plain = true
  · rw [if_pos c]; exact ⟨rfl, rfl⟩
  · rw [if_neg c]; exact ⟨rfl, rfl⟩
theorem tail_place (ep : Nat) (es : Array (Int × Value)) (t : SetTable) (b : Bool) (r : Ris t.place.toList) : Ris (tailTx ep es t b).2.2.place.toList ∧ (tailTx ep es t b).2.2.led = t.led := by
  unfold tailTx
  split
  · exact ⟨relayAll_ris _ _ _, relayAll_led _ _ _⟩
  · exact ⟨r, rfl⟩
theorem TxR.add {P : Program} {w : World} {D : SD} {l : List Str} {k : Str} (F : TxR P w D l) (u : Tok) (hk : k ∉ l) : TxR P w (addTx (hashStr w k) (.str k u) D) (k :: l) := by
  have r1 := layNew_ris D.2.2 D.1 (hashStr w k) (.str k u) F.ris
  have l1 := layNew_led D.2.2 D.1 (hashStr w k) (.str k u)
  obtain ⟨p1, p2⟩ := off_place (layNew D.2.2 D.1 (hashStr w k) (.str k u)).2.1
  obtain ⟨q1, q2⟩ := tail_place D.2.1 (layNew D.2.2 D.1 (hashStr w k) (.str k u)).1 _ (layNew D.2.2 D.1 (hashStr w k) (.str k u)).2.2.1 (by rw [p1]; exact r1)
  exact ⟨add_ok u F.ok, List.nodup_cons.mpr ⟨hk, F.nd⟩, q1, F.led.imp id fun z => q2.trans (p2.trans (l1.trans z))⟩
end Z
set_option maxHeartbeats 3200000
namespace Z
open PySem PySem.Spec PyProof.Rows L2 PySem.Froz
end Z
set_option maxHeartbeats 1000000
namespace Z
open PySem PySem.Spec PyProof.Rows L2
end Z
set_option maxHeartbeats 1000000
namespace Z
open PySem PySem.Spec PyProof.Rows L2
end Z
set_option maxHeartbeats 1000000
namespace Z
open PySem PySem.Spec PyProof.Rows L2
end Z
set_option maxHeartbeats 1000000
namespace Z
open PySem PySem.Spec PyProof.Rows L2
open He (ga ma)
end Z
set_option maxHeartbeats 1000000
namespace Z
open PySem PySem.Spec PyProof.Rows L2
open He (ga ma)
end Z
set_option maxHeartbeats 1000000
namespace Z
open PySem PySem.Spec PyProof.Rows L2
open PySem.W (minD AlikeAll min_list_data)
open He (ga ma)
section
variable {X : Cx}
def tCallI (C : Addr) (sp : Sp) (dvs : List V) (E : XK) (tf : TE) (t : TA) : TE := fun σ H Q => tf σ H fun y H1 => ∃ a, y = V.ref a ∧ t σ H1 fun vs H2 => (∃ dx fs, H2 a = some (.ins C dx fs)) ∧ sp ((V.ref a :: vs) ++ dvs) H2 Q E
variable {k : Nat} {f C : Addr} {ps : List Str} {sp : Sp} {dvs : List V} {pos : Pos} {e fe : Expr} {es : List Expr} {tf : TE} {t : TA} {E : XK}
end
theorem s_callI {σ : L2.St} {H : Hp} {Q : VK} {C : Addr} {sp : Sp} {dvs : List V} {E : XK} {tf : TE} {t : TA} (q : tf σ H fun y H1 => ∃ a, y = V.ref a ∧ t σ H1 fun vs H2 => (∃ dx fs, H2 a = some (.ins C dx fs)) ∧ sp ((V.ref a :: vs) ++ dvs) H2 Q E) : tCallI C sp dvs E tf t σ H Q := q
end Z
set_option maxHeartbeats 1000000
namespace Z
open PySem PySem.Spec PyProof.Rows L2
end Z
set_option maxHeartbeats 2000000
namespace Z
open PySem PySem.Spec PyProof.Rows L2
end Z
set_option maxHeartbeats 2000000
namespace Z
open PySem PySem.Spec PyProof.Rows L2
end Z
set_option maxHeartbeats 1000000
namespace Z
open PySem PySem.Spec PyProof.Rows L2
def isIntD (lo hi : Int) : PyData → Bool
  | .int i => decide (lo ≤ i ∧ i ≤ hi)
  | _ => false
def letters : List Nat := ("abcdefghijklmnopqrstuvwxyz" : Str).cps.toList
def isWord : PyData → Bool
  | .str z => !decide (V.str z = V.str "") && z.cps.toList.all fun c => decide (c ∈ letters)
  | _ => false
def isName (d : PyData) : Bool := isWord d && match d with
  | .str z => decide ((z.length : Int) ≤ 8)
  | _ => false
def isKind : PyData → Bool
  | .str z => inV (.str z) [.str "edge", .str "level"]
  | _ => false
def isSteps (n : Nat) : PyData → Bool
  | .tuple xs => decide ((1 : Int) ≤ xs.length) && decide ((xs.length : Int) ≤ n)
  | _ => false
def isLine : PyData → Bool
  | .tuple [a, b, c, e] => isName a && (isKind b && (isIntD 1 9 c && isSteps 8 e))
  | _ => false
theorem isLine_no {ds : List PyData} (h : ds.length ≠ 4) : isLine (.tuple ds) = false := by
  unfold isLine
  split
  · rename_i e
    cases e
    simp at h
  · rfl
def isWork : PyData → Bool
  | .tuple [a, b, c] => isName a && (isIntD 1 9 b && isIntD 1 99 c)
  | _ => false
theorem isWork_no {ds : List PyData} (h : ds.length ≠ 3) : isWork (.tuple ds) = false := by
  unfold isWork
  split
  · rename_i e
    cases e
    simp at h
  · rfl
abbrev lineWords : List V := [.str "ring", .str "quiet", .str "mask", .str "unmask"]
abbrev flagWords : List V := [.str "set", .str "clear", .str "await"]
def isStepX (kvs : List (Key × V)) (ws : List V) (w : Str) (x : PyData) : Bool :=
  if inV (.str w) lineWords = true then (match x with
    | .str y => (valV kvs (.inr y)).isSome && (!decide (V.str w = V.str "quiet") || decide (valV kvs (.inr y) = some (.str "level")))
    | _ => false)
  else if decide (V.str w = V.str "later") = true then (match x with
    | .str y => inV (.str y) ws
    | _ => false)
  else if inV (.str w) flagWords = true then isIntD 0 7 x
  else (decide (V.str w = V.str "run") && isIntD 1 99 x) || (decide (V.str w = V.str "bar") && isIntD 0 9 x)
def isStep (kvs : List (Key × V)) (ws : List V) : PyData → Bool
  | .tuple [.str w, x] => isStepX kvs ws w x
  | _ => false
def strVals (kvs : List (Key × V)) : Prop := ∀ k v, valV kvs k = some v → ∃ z, v = .str z
theorem isStep_no {kvs : List (Key × V)} {ws : List V} {ds : List PyData} (h : ds.length ≠ 2) : isStep kvs ws (.tuple ds) = false := by
  unfold isStep
  split
  · rename_i e
    cases e
    simp at h
  · rfl
def nameD : PyData → Str
  | .tuple (.str n :: _) => n
  | _ => ""
theorem isLine_name {d : PyData} (h : isLine d = true) : ∃ a b c e, d = .tuple [.str a, b, c, e] := by
  unfold isLine at h
  split at h
  · rename_i a b c e
    obtain ⟨h1, _⟩ := Bool.and_eq_true_iff.mp h
    obtain ⟨h2, _⟩ := Bool.and_eq_true_iff.mp (show (isWord a && _) = true from h1)
    cases a <;> try (cases h2; done)
    exact ⟨_, b, c, e, rfl⟩
  · cases h
theorem isWork_name {d : PyData} (h : isWork d = true) : ∃ a b c, d = .tuple [.str a, b, c] := by
  unfold isWork at h
  split at h
  · rename_i a b c
    obtain ⟨h1, _⟩ := Bool.and_eq_true_iff.mp h
    obtain ⟨h2, _⟩ := Bool.and_eq_true_iff.mp (show (isWord a && _) = true from h1)
    cases a <;> try (cases h2; done)
    exact ⟨_, b, c, rfl⟩
  · cases h
theorem isLine_name2 {d : PyData} (h : isLine d = true) : ∃ n r, d = .tuple (.str n :: r) := by
  obtain ⟨a, b, c, e, rfl⟩ := isLine_name h
  exact ⟨a, _, rfl⟩
theorem isWork_name2 {d : PyData} (h : isWork d = true) : ∃ n r, d = .tuple (.str n :: r) := by
  obtain ⟨a, b, c, rfl⟩ := isWork_name h
  exact ⟨a, _, rfl⟩
theorem inV_strs {x : Str} : ∀ {l : List Str}, inV (.str x) (l.map V.str) = decide (x ∈ l)
  | [] => rfl
  | y :: l => by
    show ((y == x) || inV (.str x) (l.map V.str)) = _
    rw [inV_strs (l := l)]
    by_cases h : x = y
    · subst h
      simp
    · have : (y == x) = false := beq_eq_false_iff_ne.mpr fun z => h z.symm
      simp [this, h]
theorem flat_strs : ∀ {l : List Str}, (l.map V.str).all flatV = true
  | [] => rfl
  | _ :: l => by
    show (true && (l.map V.str).all flatV) = true
    rw [flat_strs (l := l)]
    rfl
theorem nodup_take {α : Type} {l : List α} (h : l.Nodup) {i : Nat} {x : α} (e : l[i]? = some x) : ¬ x ∈ l.take i := fun hm => by
  obtain ⟨j, hj, ej⟩ := List.mem_iff_getElem.mp hm
  have hi : j < i := by rw [List.length_take] at hj; omega
  have e2 : l[j]? = some x := by
    rw [← ej, List.getElem_take]
    exact List.getElem?_eq_getElem _
  have := nd_ix h e2 e
  omega
end Z
set_option maxHeartbeats 1000000
namespace Z
open PySem PySem.Spec PyProof.Rows L2
open He (ga ma)
def tupO : HO → Bool
  | .tup _ => true
  | .frz _ _ => true
  | _ => false
def Fr (A : List Addr) (H H' : Hp) : Prop := (∀ a o, H a = some o → (a ∉ A ∨ tupO o = true) → H' a = some o) ∧ ∀ a, H' a = none → H a = none
section
variable {A B : List Addr} {H H1 H2 : Hp} {a : Addr} {o o' : HO}
theorem Fr.refl : Fr A H H := ⟨fun _ _ h _ => h, fun _ h => h⟩
theorem Fr.trans (x : Fr A H H1) (y : Fr A H1 H2) : Fr A H H2 := ⟨fun a o h n => y.1 a o (x.1 a o h n) n, fun a h => x.2 a (y.2 a h)⟩
theorem Fr.mono (x : Fr A H H1) (s : ∀ a ∈ A, a ∈ B) : Fr B H H1 := ⟨fun a o h n => x.1 a o h (n.imp (fun z z' => z (s a z')) id), x.2⟩
theorem Fr.same (x : Fr [] H H1) : Same H H1 := fun a o h => x.1 a o h (.inl (by simp))
theorem _root_.L2.Same.fr (s : Same H H1) : Fr A H H1 := ⟨fun a o h _ => s a o h, fun a h => by
  cases e : H a with
  | none => rfl
  | some o => rw [s a o e] at h; cases h⟩
theorem Fr.tk (x : Fr A H H1) : Tk H H1 := fun a h => by
  rcases h with ⟨xs, h⟩ | ⟨o, u, h⟩
  · rw [h, x.1 a _ h (.inr rfl)]
  · rw [h, x.1 a _ h (.inr rfl)]
theorem Fr.new (h : H a = none) : Fr A H (upd H a o) := (Same.new h).fr
theorem Fr.upd (hm : a ∈ A) (h : H a = some o) (ht : tupO o = false) : Fr A H (upd H a o') := by
  refine ⟨fun c u e n => ?_, fun c e => ?_⟩
  · by_cases z : c = a
    · subst z
      rw [h] at e
      cases e
      rcases n with n | n
      · exact absurd hm n
      · rw [ht] at n
        cases n
    · rw [upd_ne z]
      exact e
  · by_cases z : c = a
    · subst z
      rw [upd_same] at e
      cases e
    · rw [upd_ne z] at e
      exact e
theorem Fr.at (x : Fr A H H1) (h : H a = some o) (n : a ∉ A) : H1 a = some o := x.1 a o h (.inl n)
theorem Fr.back (x : Fr A H H1) (h : H1 a = none) : H a = none := x.2 a h
end
def kD : Key → PyData
  | .inl i => .int i
  | .inr z => .str z
structure Ln where
  nm : Str
  kd : Str
  rk : Int
  st : List (Str × Key)
structure Wk where
  nm : Str
  rk : Int
  tk : Int
structure Pl where
  ls : List Ln
  ws : List Wk
def dSt (s : Str × Key) : PyData := .tuple [.str s.1, kD s.2]
def dLn (l : Ln) : PyData := .tuple [.str l.nm, .str l.kd, .int l.rk, .tuple (l.st.map dSt)]
def dWk (w : Wk) : PyData := .tuple [.str w.nm, .int w.rk, .int w.tk]
def Pl.kinds (P : Pl) : List (Key × V) := P.ls.map fun l => (.inr l.nm, .str l.kd)
def Pl.names (P : Pl) : List Str := P.ls.map (·.nm)
def Pl.wnames (P : Pl) : List Str := P.ws.map (·.nm)
structure Pl.Ok (P : Pl) : Prop where
  ne : P.ls ≠ []
  l12 : P.ls.length ≤ 12
  w8 : P.ws.length ≤ 8
  lok : ∀ l ∈ P.ls, isLine (dLn l) = true
  wok : ∀ w ∈ P.ws, isWork (dWk w) = true
  lnd : P.names.Nodup
  wnd : P.wnames.Nodup
  sok : ∀ l ∈ P.ls, ∀ s ∈ l.st, isStep P.kinds (P.wnames.map V.str) (dSt s) = true
  shl : ∀ l ∈ P.ls, short (dLn l) = true
  shw : ∀ w ∈ P.ws, short (dWk w) = true ∧ (PyData.str w.nm).canLay0 = true
theorem tupd_kD (k : Key) : tupd (kD k) = true := by cases k <;> rfl
theorem tupds_map {α : Type} {f : α → PyData} (h : ∀ x, tupd (f x) = true) : ∀ l : List α, tupds (l.map f) = true
  | [] => rfl
  | x :: l => by
    show (tupd (f x) && tupds (l.map f)) = true
    rw [h x, tupds_map h l]
    rfl
theorem tupd_dSt (s : Str × Key) : tupd (dSt s) = true := by
  show (true && (tupd (kD s.2) && true)) = true
  rw [tupd_kD]
  rfl
theorem tupd_dLn (l : Ln) : tupd (dLn l) = true := by
  show (true && (true && (true && (tupds (l.st.map dSt) && true)))) = true
  rw [tupds_map tupd_dSt]
  rfl
theorem tupd_dWk (w : Wk) : tupd (dWk w) = true := rfl
theorem shorts_map {α : Type} {f : α → PyData} : ∀ {l : List α}, (∀ x ∈ l, short (f x) = true) → shorts (l.map f) = true
  | [], _ => rfl
  | x :: l, h => by
    show (short (f x) && shorts (l.map f)) = true
    rw [h x (by simp), shorts_map fun y hy => h y (List.mem_cons_of_mem _ hy)]
    rfl
def Pl.ln (P : Pl) (z : Str) : Ln := (P.ls.find? fun l => l.nm == z).getD ⟨z, "", 0, []⟩
def Pl.wk (P : Pl) (z : Str) : Wk := (P.ws.find? fun w => w.nm == z).getD ⟨z, 0, 0⟩
theorem find_nd {α : Type} {f : α → Str} : ∀ {l : List α} {x : α}, (l.map f).Nodup → x ∈ l → (l.find? fun y => f y == f x) = some x
  | y :: l, x, hn, hm => by
    rw [List.map_cons, List.nodup_cons] at hn
    rcases List.mem_cons.mp hm with rfl | hm
    · simp
    · have : (f y == f x) = false := beq_eq_false_iff_ne.mpr fun e => hn.1 (by rw [e]; exact List.mem_map_of_mem hm)
      rw [List.find?_cons, this]
      exact find_nd hn.2 hm
theorem Pl.Ok.ln_eq {P : Pl} (h : P.Ok) {l : Ln} (hl : l ∈ P.ls) : P.ln l.nm = l := by
  unfold Pl.ln
  rw [find_nd (f := Ln.nm) h.lnd hl]
  rfl
theorem Pl.Ok.ln_mem {P : Pl} (h : P.Ok) {z : Str} (hz : z ∈ P.names) : P.ln z ∈ P.ls ∧ (P.ln z).nm = z := by
  obtain ⟨l, hl, rfl⟩ := List.mem_map.mp hz
  rw [h.ln_eq hl]
  exact ⟨hl, rfl⟩
structure DictOf {α : Type} (K : Fg) (H : Hp) (rd : Addr) (nm : α → Str) (d : α → PyData) (l : List α) : Prop where
  at_ : ∃ kvs, H rd = some (.dK kvs) ∧ (∀ z, (valV kvs (.inr z)).isSome = decide (z ∈ l.map nm)) ∧ ∀ x ∈ l, ∃ v, valV kvs (.inr (nm x)) = some v ∧ Dp K H v (d x)
theorem DictOf.keep {α : Type} {K : Fg} {H H' : Hp} {rd : Addr} {nm : α → Str} {d : α → PyData} {l : List α} (h : DictOf K H rd nm d l) (e : H' rd = H rd) (t : Tk H H') (hd : ∀ x, tupd (d x) = true) : DictOf K H' rd nm d l := by
  obtain ⟨kvs, h1, h2, h3⟩ := h.at_
  refine ⟨kvs, by rw [e]; exact h1, h2, fun x hx => ?_⟩
  obtain ⟨v, h4, h5⟩ := h3 x hx
  exact ⟨v, h4, h5.tk t (hd x)⟩
def planF (a b rd wd : Addr) : List (Str × V) := [("line_rows", .ref a), ("work_rows", .ref b), ("rows_by_name", .ref rd), ("works_by_name", .ref wd)]
structure PA where
  p : Addr
  rd : Addr
  wd : Addr
def PA.own (D : PA) : List Addr := [D.p, D.rd, D.wd]
structure PlanAt (K : Fg) (H : Hp) (D : PA) (P : Pl) : Prop where
  ok : P.Ok
  ins : ∃ dx a b, H D.p = some (.ins (ga K "Setup") dx (planF a b D.rd D.wd)) ∧ Dp K H (.ref a) (.tuple (P.ls.map dLn)) ∧ Dp K H (.ref b) (.tuple (P.ws.map dWk))
  rows : DictOf K H D.rd (·.nm) dLn P.ls
  works : DictOf K H D.wd (·.nm) dWk P.ws
theorem PlanAt.keep {K : Fg} {H H' : Hp} {D : PA} {P : Pl} (h : PlanAt K H D P) {A : List Addr} (f : Fr A H H') (n : ∀ a ∈ D.own, a ∉ A) : PlanAt K H' D P := by
  obtain ⟨dx, a, b, h1, h2, h3⟩ := h.ins
  have e1 := f.at h1 (n _ (by simp [PA.own]))
  have e2 : H' D.rd = H D.rd := by
    obtain ⟨kvs, h1, _⟩ := h.rows.at_
    rw [h1, f.at h1 (n _ (by simp [PA.own]))]
  have e3 : H' D.wd = H D.wd := by
    obtain ⟨kvs, h1, _⟩ := h.works.at_
    rw [h1, f.at h1 (n _ (by simp [PA.own]))]
  refine ⟨h.ok, ⟨dx, a, b, e1, h2.tk f.tk (tupds_map tupd_dLn _), h3.tk f.tk (tupds_map tupd_dWk _)⟩, h.rows.keep e2 f.tk tupd_dLn, h.works.keep e3 f.tk tupd_dWk⟩
theorem PlanAt.same {K : Fg} {H H' : Hp} {D : PA} {P : Pl} (h : PlanAt K H D P) (f : Same H H') : PlanAt K H' D P := h.keep (A := []) f.fr (by simp)
theorem valV_notin {kvs : List (Key × V)} {k : Key} (h : k ∉ kvs.map (·.1)) : valV kvs k = none := by
  unfold valV
  rw [List.find?_eq_none.mpr fun x hx => ?_]
  · rfl
  · simp only [decide_eq_true_eq]
    intro e
    exact h (by rw [← e]; exact List.mem_map_of_mem hx)
theorem zip_fst {α β : Type} : ∀ {l : List α} {m : List β}, l.length = m.length → (l.zip m).map (·.1) = l
  | [], [], _ => rfl
  | _ :: l, _ :: m, h => by
    simp only [List.zip_cons_cons, List.map_cons]
    rw [zip_fst (by simpa using h)]
theorem dc_dat {K : Fg} {a : Addr} {xs : List V} {g : TG} {tt : TT} {tk tv : TE} {vs : List Nat} {σ : L2.St} {H1 : Hp} {D : Addr} {Qd : Hp → Prop} (ks : List Key) (vv : List V) (h1 : ks.length = xs.length) (h2 : ks.length = vv.length) (hnd : ks.Nodup) (hD : H1 D = none) (hT : SqT K H1 a xs) (hn : xs.length ≤ 40000)
    (hs : ∀ (i : Nat) (x : V) (k : Key) (v : V) (H : Hp) (Z : V → V → Hp → Prop) (N : Hp → Prop), xs[i]? = some x → ks[i]? = some k → vv[i]? = some v → Same H1 H → (∀ H5, Same H H5 → Z (kV k) v H5) →
      g x (wipe σ vs) H fun σ2 H2 => wipe σ2 vs = wipe σ vs ∧ tt σ2 H2 fun b H3 => if b = true then tk σ2 H3 fun y H4 => tv σ2 H4 fun z H5 => Z y z H5 else N H3)
    (hd : ∀ H', Same H1 H' → H' D = some (.dK (ks.zip vv)) → Qd H') :
    ∃ W : Nat → Nat → Hp → Prop, (∃ m, W 0 m (upd H1 D (.dK []))) ∧ ∀ i m H, W i m H →
      ((Itt K a).stop i H ∧ Qd H) ∨ ((Itt K a).go i H ∧ ∃ Nx : Hp → Prop, (∀ H', Nx H' → ∃ m', m' < m ∧ W (i + 1) m' H') ∧ ∀ x H', (Itt K a).yld i H x H' → g x (wipe σ vs) H' fun σ2 H2 => wipe σ2 vs = wipe σ vs ∧ tt σ2 H2 fun b H3 =>
        if b = true then tk σ2 H3 fun y H4 => tv σ2 H4 fun z H5 => ∃ kvs k, y = kV k ∧ H5 D = some (.dK kvs) ∧ kvs.length < sizeLine ∧ Nx (upd H5 D (.dK (putK kvs k z))) else Nx H3) := by
  have hz : (ks.zip vv).length = xs.length := by rw [List.length_zip]; omega
  refine dc_tup (fun i H => Same H1 H ∧ H D = some (.dK ((ks.zip vv).take i))) ⟨Same.new hD, upd_same⟩ (fun i H _ p => p.1.sqT hT) (fun i x H hx p => ?_) (fun H p => ?_)
  · obtain ⟨s1, e1⟩ := p
    have hi : i < xs.length := (List.getElem?_eq_some_iff.mp hx).1
    have hk : ks[i]? = some ks[i] := List.getElem?_eq_getElem (by omega)
    have hv : vv[i]? = some vv[i] := List.getElem?_eq_getElem (by omega)
    refine hs i x _ _ H (fun y z H5 => ∃ kvs k, y = kV k ∧ H5 D = some (.dK kvs) ∧ kvs.length < sizeLine ∧ (Same H1 (upd H5 D (.dK (putK kvs k z))) ∧ upd H5 D (.dK (putK kvs k z)) D = some (.dK ((ks.zip vv).take (i + 1))))) _ hx hk hv s1 fun H5 s5 => ?_
    refine ⟨_, _, rfl, s5 _ _ e1, ?_, fun c o h => ?_, ?_⟩
    · rw [List.length_take, sizeLine_eq]
      omega
    · rw [upd_ne (ne_of_none h hD)]
      exact s5 _ _ (s1 _ _ h)
    · have hzi : (ks.zip vv)[i]? = some (ks[i], vv[i]) := by
        rw [List.getElem?_eq_getElem (by omega), List.getElem_zip]
      have hno : valV ((ks.zip vv).take i) ks[i] = none := by
        refine valV_notin ?_
        rw [List.map_take, zip_fst h2]
        exact fun hm => by
          obtain ⟨j, hj, ej⟩ := List.mem_iff_getElem.mp hm
          have hji : j < i := by rw [List.length_take] at hj; omega
          have e2 : ks[j]? = some ks[i] := by
            rw [← ej, List.getElem_take]
            exact List.getElem?_eq_getElem _
          have := nd_ix hnd e2 hk
          omega
      rw [upd_same, putK_new _ hno, List.take_add_one, hzi]
      rfl
  · obtain ⟨s1, e1⟩ := p
    rw [← hz, List.take_length] at e1
    exact hd H s1 e1
theorem valV_zip {ks : List Key} {vv : List V} (hnd : ks.Nodup) {i : Nat} {k : Key} {v : V} (hk : ks[i]? = some k) (hv : vv[i]? = some v) : valV (ks.zip vv) k = some v := by
  induction ks generalizing vv i with
  | nil => simp at hk
  | cons a l ih =>
    cases vv with
    | nil => simp at hv
    | cons b m =>
      rw [List.nodup_cons] at hnd
      cases i with
      | zero =>
        simp at hk hv
        subst hk hv
        exact valV_pos rfl
      | succ i =>
        have hk2 : l[i]? = some k := by simpa using hk
        have hne : ¬ a = k := fun e => hnd.1 (by rw [e]; exact List.mem_of_getElem? hk2)
        rw [List.zip_cons_cons, valV_neg hne]
        exact ih hnd.2 hk2 (by simpa using hv)
theorem dictOf_zip {α : Type} {K : Fg} {H : Hp} {rd : Addr} {nm : α → Str} {d : α → PyData} {l : List α} {vv : List V} (h : H rd = some (.dK ((l.map fun x => (Sum.inr (nm x) : Key)).zip vv))) (hnd : (l.map nm).Nodup) (ha : DpAll K H vv (l.map d)) : DictOf K H rd nm d l := by
  have hl : vv.length = l.length := by rw [ha.len, List.length_map]
  have hk : (l.map fun x => (Sum.inr (nm x) : Key)) = (l.map nm).map Sum.inr := by rw [List.map_map]; rfl
  have hn2 : (l.map fun x => (Sum.inr (nm x) : Key)).Nodup := by
    rw [hk]
    exact List.Pairwise.map Sum.inr (fun a b h e => h (Sum.inr.inj e)) hnd
  refine ⟨_, h, fun z => ?_, fun x hx => ?_⟩
  · by_cases hz : z ∈ l.map nm
    · obtain ⟨i, hi⟩ := List.mem_iff_getElem?.mp hz
      have hil : i < l.length := by have := (List.getElem?_eq_some_iff.mp hi).1; rwa [List.length_map] at this
      have h1 : (l.map fun x => (Sum.inr (nm x) : Key))[i]? = some (.inr z) := by rw [hk, List.getElem?_map, hi]; rfl
      have h2 : vv[i]? = some vv[i] := List.getElem?_eq_getElem (by omega)
      rw [valV_zip hn2 h1 h2, decide_eq_true hz]
      rfl
    · rw [valV_notin, decide_eq_false hz]
      · rfl
      · rw [zip_fst (by rw [List.length_map, hl]), hk]
        intro hm
        obtain ⟨y, hy, e⟩ := List.mem_map.mp hm
        cases e
        exact hz hy
  · obtain ⟨i, hi⟩ := List.mem_iff_getElem?.mp hx
    have h1 : (l.map fun x => (Sum.inr (nm x) : Key))[i]? = some (.inr (nm x)) := by rw [List.getElem?_map, hi]; rfl
    have h3 : (l.map d)[i]? = some (d x) := by rw [List.getElem?_map, hi]; rfl
    obtain ⟨v, hv, hd⟩ := ha.get h3
    exact ⟨v, valV_zip hn2 h1 hv, hd⟩
end Z
set_option maxHeartbeats 1000000
namespace Z
open PySem PySem.Spec PyProof.Rows L2
open LamX (lamCx lamEnv inv_table run_ofS CodeO codeO_ne TabB TabS among_app)
section
variable {X : Cx} {pins : List (Addr × Obj)} {σ : L2.St} {H : Hp} {s : Shared}
theorem lamMake {c P : Addr} {params : Arguments} {body : Expr} {scope : Scope} {pos : Pos} {E Q : Value → Shared → Prop} (I : Inv X pins σ H s) (TB : TabB X.base X.mg c P) (hcode : X.env.code = .ref c) (hT : TabS H P (X.env.qual ++ "<lambda>")) (hdef : defaultsOf params X.env = ([], []))
    (hfree : ∀ y ∈ scope.names, y.2 = .free → ∃ c, X.env.cells.lookup y.1 = some c)
    (h : ∀ (f c' : Addr) (pm ctv : Value) (H1 : Hp) (s' : Shared), Inv X pins σ H1 s' → Fr [P] H H1 → TabS H1 P (X.env.qual ++ "<lambda>") → s'.heap.get? f = some (PySem.W.kla_obj "<lambda>" (X.env.qual ++ "<lambda>") params body scope (cloFrom X.env.cells scope.names []) pm c' ctv) → H1 f = none → f ∉ frs X.stack →
      H1 c' = some (CodeO c' (X.env.qual ++ "<lambda>")) → Q (.ref f) s') : wpAny (model X.prog X.w) X.A (eval (.Lambda params body scope pos) X.env) Q E s := by
  obtain ⟨ps, hP, ht, ha⟩ := hT
  refine PySem.W.kla_eval hdef ?_
  have pB : s.heap.BuiltinsAt X.mg P := TB.bm.keeps I.bk
  have pO : s.heap.get? P = some { cls := .none, data := .fields ps } := I.hok P _ hP
  have away : ∀ f, s.heap.objs.size ≤ f → f ∉ frs X.stack := fun f hf z => (List.mem_cons.mp (I.stkSub _ z)).elim (fun e => absurd (Nat.lt_of_lt_of_le (e ▸ I.lt) hf) (Nat.lt_irrefl _)) (I.nofs hf)
  cases hc : codeAmong pos ps.toList with
  | some cv =>
    obtain ⟨c', rfl, hco⟩ := ha pos cv hc
    refine PySem.W.kla_makeFunctionHit (mg := X.mg) (c := c) (P := P) (ps := ps) (closure_ok hfree) I.ok.glob (I.mod.glob.keeps I.bk) hcode (TB.code.keeps I.bk) pO ht hc pB fun ctv h' tk hx hz => ?_
    exact h h'.objs.size c' ((X.mg "__name__").getD .none) ctv H _ (I.kept fun b o e => Heap.get?_push_of_some _ (hx b o e)) Fr.refl ⟨ps, hP, ht, ha⟩ (Heap.get?_push_size _ rfl) (I.hok.fresh hz) (away _ hz) hco
  | none =>
    refine PySem.W.kla_makeFunction (mg := X.mg) (c := c) (P := P) (ps := ps) (closure_ok hfree) I.ok.glob (I.mod.glob.keeps I.bk) hcode (TB.code.keeps I.bk) pO ht hc TB.gP pB fun c' ctv h' tk hx hge hlt hrec htb => ?_
    obtain ⟨_, oc, vs, t, e2, ho, hd, hv⟩ := hrec
    cases e2
    have hz : s.heap.objs.size ≤ h'.objs.size := Nat.le_trans hge (Nat.le_of_lt hlt)
    have nc : H c' = none := I.hok.fresh hge
    have I1 := inv_table (t' := tk) (more := #[rawInt pos.line, rawInt pos.col, .ref c']) (h' := h'.push (PySem.W.kla_obj "<lambda>" (X.env.qual ++ "<lambda>") params body scope (cloFrom X.env.cells scope.names []) ((X.mg "__name__").getD .none) c' ctv)) I hP
      (fun b o hb e => Heap.get?_push_of_some _ (hx b o hb e)) (Heap.get?_push_of_some _ htb) hge ⟨oc, vs, t, Heap.get?_push_of_some _ ho, hd, hv⟩
    have nPc : P ≠ c' := ne_of_none hP nc
    have f1 : Fr [P] H (upd H P (.tbl (ps ++ #[rawInt pos.line, rawInt pos.col, .ref c']))) := Fr.upd (by simp) hP rfl
    have nc1 : (upd H P (.tbl (ps ++ #[rawInt pos.line, rawInt pos.col, .ref c']))) c' = none := by rw [upd_ne (Ne.symm nPc)]; exact nc
    have f2 := f1.trans (Fr.new (o := CodeO c' (X.env.qual ++ "<lambda>")) nc1)
    refine h h'.objs.size c' ((X.mg "__name__").getD .none) ctv _ _ I1 f2 ⟨ps ++ #[rawInt pos.line, rawInt pos.col, .ref c'], by rw [upd_ne nPc, upd_same], ?_, fun p' cv k => ?_⟩ (Heap.get?_push_size _ rfl) ?_ (away _ hz) upd_same
    · rw [Array.toList_append]
      exact PySem.TriplesOk_snoc _ _ _ _ ht
    · rw [Array.toList_append] at k
      rcases among_app _ ht k with k | k
      · obtain ⟨c0, e1, e2⟩ := ha p' cv k
        refine ⟨c0, e1, ?_⟩
        have n1 : c0 ≠ P := fun e => by
          rw [e, hP] at e2
          exact codeO_ne ps (Option.some.inj e2).symm
        rw [upd_ne (ne_of_none e2 nc), upd_ne n1]
        exact e2
      · exact ⟨c', k, upd_same⟩
    · rw [upd_ne (Nat.ne_of_gt hlt), upd_ne (Nat.ne_of_gt (Nat.lt_of_lt_of_le (Heap.lt_size pO) hz))]
      exact I.hok.fresh hz
end
section
variable {X : Cx} {pins : List (Addr × Obj)} {σ : L2.St} {H HZ : Hp} {s s1 : Shared}
abbrev inCx (X : Cx) (Ng : List Str) (qg : Str) (sg : Scope) (g : Addr) (cdg : Value) (s : Shared) (H : Hp) (E : XK) : Cx := cxOf (L2.CX X.prog X.w) X.prog X.w X.K X.mg X.base Ng qg sg g cdg X.A X.stack s H E
end
section
variable {X : Cx}
def codA (K : Fg) (f : Addr) : Addr := match (fdOf K f).code with
  | .ref c => c
  | _ => 0
def tabA (K : Fg) (f : Addr) : Addr := He.tabOf K (codA K f)
theorem okC {P : Program} {w : World} {K : Fg} {mg : Str → Option Value} {base : Heap} {x qual : Str} {params : Arguments} {body : List Stmt} {scope : Scope} {dvs : List V} {kws : List (Str × V)} {f : Addr} {CX : CXT} {N ps : List Str} {k : Nat} {sp : Sp} (F : FunD K x qual params body scope dvs kws f (fdOf K f)) (S : FnScope N ps scope)
    (len : ∀ vs H Q E, sp vs H Q E → vs.length = ps.length)
    (hbody : ∀ (A : Around) (outer : List Env) (s : Shared) (H : Hp) (vs : List V) (Q : VK) (E : XK), Room k (A.deeper (envOfC qual scope s.heap.objs.size f (.ref (codA K f)))) → sp vs H Q E →
      ∃ t, PSs (cxOf CX P w K mg base N qual scope f (.ref (codA K f)) A outer s H E) body t ∧ t { nx := fun _ H' => Q .non H', rt := Q } (L2.start N vs) H) : FnOk P w K mg base CX (k + 1) f (fdOf K f) ps sp := by
  obtain ⟨oc, od, dV, kV, doc, pm, an, cdv, ct, osl, e, lk, hcd, _, _⟩ := F.ex
  obtain ⟨c, rfl⟩ := He.codeIn_ref hcd
  have ec : codA K f = c := by
    unfold codA
    rw [e]
  rw [ec] at hbody
  rw [e] at lk ⊢
  exact fn_of lk hcd S len fun A outer s H vs Q E hr hsp => hbody A outer s H vs Q E hr hsp
end
end Z
set_option maxHeartbeats 1000000
namespace Z
open PySem PySem.Spec PyProof.Rows L2
open He (ga ma)
section
variable {K : Fg} {σ : L2.St} {H H1 : Hp} {Q : VK} {g : TG} {tt : TT} {te tk tv tl : TE} {vs : List Nat} {x : V} {a : Addr} {xs : List V} {α : Type} {l : List α} {da : α → PyData}
def LcQ (J : It) (g : TG) (tt : TT) (te : TE) (vs : List Nat) (σ : L2.St) (Q : VK) (H1 : Hp) : Prop := ∀ D, H1 D = none → ∃ W : Nat → Nat → Hp → Prop, (∃ m, W 0 m (upd H1 D (.lst []))) ∧ ∀ i m H, W i m H →
  (J.stop i H ∧ Q (.ref D) H) ∨ (J.go i H ∧ ∃ Nx : Hp → Prop, (∀ H', Nx H' → ∃ m', m' < m ∧ W (i + 1) m' H') ∧ ∀ x H', J.yld i H x H' → g x (wipe σ vs) H' fun σ2 H2 => wipe σ2 vs = wipe σ vs ∧ tt σ2 H2 fun b H3 =>
    if b = true then te σ2 H3 fun y H4 => ∃ acc, H4 D = some (.lst acc) ∧ acc.length < sizeLine ∧ Nx (upd H4 D (.lst (acc ++ [y]))) else Nx H3)
def LcT (K : Fg) (g : TG) (tt : TT) (te : TE) (vs : List Nat) (σ : L2.St) (Q : VK) (x : V) (H1 : Hp) : Prop := ∃ a, x = .ref a ∧ (∃ xs, SqT K H1 a xs) ∧ LcQ (Itt K a) g tt te vs σ Q H1
def LcL (K : Fg) (g : TG) (tt : TT) (te : TE) (vs : List Nat) (σ : L2.St) (Q : VK) (x : V) (H1 : Hp) : Prop := ∃ a, x = .ref a ∧ (∃ xs, SqL K H1 a xs) ∧ LcQ (Itl K a) g tt te vs σ Q H1
theorem s_lcT (q : tl σ H fun x H1 => LcT K g tt te vs σ Q x H1) : tLc (iTup K tl) g tt te vs σ H Q := q
theorem s_lcL (q : tl σ H fun x H1 => LcL K g tt te vs σ Q x H1) : tLc (iList K tl) g tt te vs σ H Q := q
theorem lcT_d (hT : SqT K H1 a xs) (hA : DpAll K H1 xs (l.map da)) (p : α → Bool) (f : α → PyData) (hn : l.length ≤ 40000) (hf : ∀ x ∈ l, tupd (f x) = true)
    (hs : ∀ (x : α) (v : V) (H : Hp) (Yes : VK) (No : Hp → Prop), x ∈ l → Same H1 H → Dp K H v (da x) → (p x = true → ∀ y H4, Same H H4 → Dp K H4 y (f x) → Yes y H4) → (p x = false → ∀ H3, Same H H3 → No H3) →
      g v (wipe σ vs) H fun σ2 H2 => wipe σ2 vs = wipe σ vs ∧ tt σ2 H2 fun b H3 => if b = true then te σ2 H3 Yes else No H3)
    (hd : ∀ D H' ys, H1 D = none → Same H1 H' → H' D = some (.lst ys) → DpAll K H' ys ((l.filter p).map f) → Q (.ref D) H') : LcT K g tt te vs σ Q (.ref a) H1 := by
  have hlen : xs.length = l.length := by rw [hA.len, List.length_map]
  refine ⟨a, rfl, ⟨xs, hT⟩, fun D hD => ?_⟩
  refine lc_dat (K := K) walk_tup (pAt l p) (dAt l f) hD (by rw [hlen]; exact hn) (dAt_tupd hf) (fun H s => s.sqT hT) (fun i H x H' y => by rw [y.1]; exact Same.refl H) (fun i x H H' Yes No hi s1 y yes no => ?_) (fun H' ys s1 e1 a1 => ?_)
  · obtain ⟨rfl, hx⟩ := y
    obtain ⟨d, hd', dd⟩ := hA.getv hx
    rw [List.getElem?_map] at hd'
    obtain ⟨z, hz, rfl⟩ := Option.map_eq_some_iff.mp hd'
    rw [pAt_eq hz, dAt_eq hz] at yes
    rw [pAt_eq hz] at no
    exact hs z x H' Yes No (List.mem_of_getElem? hz) s1 (dd.same s1) yes no
  · rw [hlen, keptD_list] at a1
    exact hd D H' ys hD s1 e1 a1
def DcT (K : Fg) (g : TG) (tt : TT) (tk tv : TE) (vs : List Nat) (σ : L2.St) (Q : VK) (x : V) (H1 : Hp) : Prop := ∃ a, x = .ref a ∧ (∃ xs, SqT K H1 a xs) ∧ ∀ D, H1 D = none → ∃ W : Nat → Nat → Hp → Prop, (∃ m, W 0 m (upd H1 D (.dK []))) ∧ ∀ i m H, W i m H →
  ((Itt K a).stop i H ∧ Q (.ref D) H) ∨ ((Itt K a).go i H ∧ ∃ Nx : Hp → Prop, (∀ H', Nx H' → ∃ m', m' < m ∧ W (i + 1) m' H') ∧ ∀ x H', (Itt K a).yld i H x H' → g x (wipe σ vs) H' fun σ2 H2 => wipe σ2 vs = wipe σ vs ∧ tt σ2 H2 fun b H3 =>
    if b = true then tk σ2 H3 fun y H4 => tv σ2 H4 fun z H5 => ∃ kvs k, y = kV k ∧ H5 D = some (.dK kvs) ∧ kvs.length < sizeLine ∧ Nx (upd H5 D (.dK (putK kvs k z))) else Nx H3)
theorem s_dcT (q : tl σ H fun x H1 => DcT K g tt tk tv vs σ Q x H1) : tDc (iTup K tl) g tt tk tv vs σ H Q := q
theorem dcT_d (hT : SqT K H1 a xs) (hA : DpAll K H1 xs (l.map da)) (kf : α → Key) (vv : List V) (h2 : l.length = vv.length) (hnd : (l.map kf).Nodup) (hn : l.length ≤ 40000)
    (hs : ∀ (i : Nat) (x : α) (y v : V) (H : Hp) (Z : V → V → Hp → Prop) (N : Hp → Prop), x ∈ l → l[i]? = some x → xs[i]? = some y → vv[i]? = some v → Same H1 H → Dp K H y (da x) → (∀ H5, Same H H5 → Z (kV (kf x)) v H5) →
      g y (wipe σ vs) H fun σ2 H2 => wipe σ2 vs = wipe σ vs ∧ tt σ2 H2 fun b H3 => if b = true then tk σ2 H3 fun y H4 => tv σ2 H4 fun z H5 => Z y z H5 else N H3)
    (hd : ∀ D H', H1 D = none → Same H1 H' → H' D = some (.dK ((l.map kf).zip vv)) → Q (.ref D) H') : DcT K g tt tk tv vs σ Q (.ref a) H1 := by
  have hlen : xs.length = l.length := by rw [hA.len, List.length_map]
  refine ⟨a, rfl, ⟨xs, hT⟩, fun D hD => ?_⟩
  refine dc_dat (l.map kf) vv (by rw [List.length_map, hlen]) (by rw [List.length_map, h2]) hnd hD hT (by rw [hlen]; exact hn) (fun i x k v H Z N hx hk hv s1 z => ?_) (fun H' s1 e1 => hd D H' hD s1 e1)
  obtain ⟨d, hd', dd⟩ := hA.getv hx
  rw [List.getElem?_map] at hd' hk
  obtain ⟨w, hw, rfl⟩ := Option.map_eq_some_iff.mp hd'
  rw [hw] at hk
  cases hk
  exact hs i w x v H Z N (List.mem_of_getElem? hw) hw hx hv s1 (dd.same s1) z
theorem s_cval {C : Addr} {f : Str} {n : Int} {R : V → Prop} (h : ClsI K C f n) (q : R (.int n)) : ∃ C' mc v u, V.ref C = .ref C' ∧ ClX.CRead K C' mc ∧ ClX.CVal K C' mc f v u ∧ R v := by
  obtain ⟨mc, u, h1, h2⟩ := h
  exact ⟨C, mc, _, u, rfl, h1, h2, q⟩
theorem s_cvalg {ta : TE} {f : Str} (q : ta σ H fun x H1 => ∃ C mc v u, x = .ref C ∧ ClX.CRead K C mc ∧ ClX.CVal K C mc f v u ∧ Q v H1) : ClX.tCVal K ta f σ H Q := q
theorem s_eq0T {b : Addr} {neg : Bool} {xs : List V} (h1 : SqT K H a xs) (h2 : SqT K H b []) (q : Q (.bl (if neg then !xs.isEmpty else xs.isEmpty)) H) : rEq0 K neg (.ref a) (.ref b) H Q := ⟨a, b, xs, rfl, rfl, .inr ⟨h1, h2⟩, q⟩
theorem s_eq0L {b : Addr} {neg : Bool} {xs : List V} (h1 : SqL K H a xs) (h2 : SqL K H b []) (q : Q (.bl (if neg then !xs.isEmpty else xs.isEmpty)) H) : rEq0 K neg (.ref a) (.ref b) H Q := ⟨a, b, xs, rfl, rfl, .inl ⟨h1, h2⟩, q⟩
theorem s_ixO {C : Addr} {sp : Sp} {E : XK} {ta tb : TE} (q : ta σ H fun x H1 => tb σ H1 fun y H2 => ∃ a dx fs, x = .ref a ∧ H2 a = some (.ins C dx fs) ∧ sp [.ref a, y] H2 Q E) : tIxO C sp E ta tb σ H Q := q
variable {ea ec ed : L2.St → Hp → Prop} {eb : VK}
theorem s_fldS {ta tv : TE} {f : Str} (q : tv σ H fun y H1 => ta σ H1 fun x H2 => ∃ a C dx fs, x = .ref a ∧ H2 a = some (.ins C dx fs) ∧ Cls K C ∧ NoAttr K C f ∧ fs.length < 1000 ∧ ea σ (upd H2 a (.ins C dx (putF f y fs)))) : sFld K ta tv f (.mk ea eb ec ed) σ H := q
theorem s_fldput {C dx : Addr} {fs : List (Str × V)} {f : Str} {y : V} {R : Hp → Prop} (h : H a = some (.ins C dx fs)) (c : Cls K C) (n : NoAttr K C f) (hl : fs.length < 1000) (q : R (upd H a (.ins C dx (putF f y fs)))) :
    ∃ b C dx fs, V.ref a = .ref b ∧ H b = some (.ins C dx fs) ∧ Cls K C ∧ NoAttr K C f ∧ fs.length < 1000 ∧ R (upd H b (.ins C dx (putF f y fs))) := ⟨a, C, dx, fs, rfl, h, c, n, hl, q⟩
end
end Z
set_option maxHeartbeats 1000000
namespace Z
open PySem PySem.Spec PyProof.Rows L2
open He (ga ma)
def kI : Key → Int
  | .inl i => i
  | .inr _ => 0
def ordD (l : Ln) : PyData := .tuple [.int (0 - l.rk), .str l.nm]
def Pl.order (P : Pl) : List Str := (P.ls.mergeSort (PySem.W.dataLe false ordD)).map (·.nm)
def ticksOf (l : Ln) : Int := ((l.st.filter fun s => decide (s.1 = ("run" : Str))).map fun s => kI s.2).sum
theorem inV_str {w : Str} {l : List Str} (h : inV (.str w) (l.map V.str) = true) : w ∈ l := by
  rw [inV_strs] at h
  exact of_decide_eq_true h
theorem kinds_val {P : Pl} {z : Str} {v : V} (h : valV P.kinds (.inr z) = some v) : ∃ l ∈ P.ls, l.nm = z ∧ v = .str l.kd := by
  unfold valV at h
  obtain ⟨kv, h1, h2⟩ := Option.map_eq_some_iff.mp h
  obtain ⟨l, hl, rfl⟩ := List.mem_map.mp (List.mem_of_find?_eq_some h1)
  have h3 := List.find?_some h1
  exact ⟨l, hl, Sum.inr.inj (of_decide_eq_true h3), h2.symm⟩
theorem Pl.Ok.steps8 {P : Pl} (ok : P.Ok) {l : Ln} (hl : l ∈ P.ls) : l.st.length ≤ 8 := by
  have hk := ok.lok l hl
  simp only [isLine, dLn, isSteps, Bool.and_eq_true, decide_eq_true_eq, List.length_map] at hk
  omega
inductive StepIs (P : Pl) : Str × Key → Prop
  | run (i : Int) : 1 ≤ i → i ≤ 99 → StepIs P ("run", .inl i)
  | bar (i : Int) : 0 ≤ i → i ≤ 9 → StepIs P ("bar", .inl i)
  | later (z : Str) : z ∈ P.wnames → StepIs P ("later", .inr z)
  | flag (w : Str) (i : Int) : w ∈ (["set", "clear", "await"] : List Str) → 0 ≤ i → i ≤ 7 → StepIs P (w, .inl i)
  | line (w z : Str) : w ∈ (["ring", "quiet", "mask", "unmask"] : List Str) → z ∈ P.names → (w = "quiet" → (P.ln z).kd = "level") → StepIs P (w, .inr z)
theorem isInt_k {lo hi : Int} {k : Key} (h : isIntD lo hi (kD k) = true) : ∃ i, k = .inl i ∧ lo ≤ i ∧ i ≤ hi := by
  cases k with
  | inl i => exact ⟨i, rfl, of_decide_eq_true (show decide (lo ≤ i ∧ i ≤ hi) = true from h)⟩
  | inr z => cases h
theorem Pl.Ok.step {P : Pl} (ok : P.Ok) {l : Ln} (hl : l ∈ P.ls) {s : Str × Key} (hs : s ∈ l.st) : StepIs P s := by
  obtain ⟨w, k⟩ := s
  have h := ok.sok l hl _ hs
  have h' : isStepX P.kinds (P.wnames.map V.str) w (kD k) = true := h
  unfold isStepX at h'
  split at h'
  · rename_i hw
    have hw' : w ∈ (["ring", "quiet", "mask", "unmask"] : List Str) := inV_str (show inV (.str w) ((["ring", "quiet", "mask", "unmask"] : List Str).map V.str) = true from hw)
    cases k with
    | inl i => cases h'
    | inr z =>
      have h2 : ((valV P.kinds (.inr z)).isSome && (!decide (V.str w = V.str "quiet") || decide (valV P.kinds (.inr z) = some (.str "level")))) = true := h'
      obtain ⟨h3, h4⟩ := Bool.and_eq_true_iff.mp h2
      obtain ⟨v, hv⟩ := Option.isSome_iff_exists.mp h3
      obtain ⟨m, hm, rfl, rfl⟩ := kinds_val hv
      refine .line w _ hw' (List.mem_map_of_mem hm) fun e => ?_
      rw [ok.ln_eq hm]
      subst e
      rw [hv] at h4
      simpa using h4
  · split at h'
    · rename_i hw
      have hw' : w = "later" := by simpa using hw
      subst hw'
      cases k with
      | inl i => cases h'
      | inr z => exact .later z (inV_str h')
    · split at h'
      · rename_i hw
        have hw' : w ∈ (["set", "clear", "await"] : List Str) := inV_str (show inV (.str w) ((["set", "clear", "await"] : List Str).map V.str) = true from hw)
        obtain ⟨i, rfl, h1, h2⟩ := isInt_k h'
        exact .flag w i hw' h1 h2
      · rcases Bool.or_eq_true_iff.mp h' with h' | h'
        · obtain ⟨h1, h2⟩ := Bool.and_eq_true_iff.mp h'
          obtain ⟨i, rfl, h3, h4⟩ := isInt_k h2
          have hw' : w = "run" := by simpa using h1
          subst hw'
          exact .run i h3 h4
        · obtain ⟨h1, h2⟩ := Bool.and_eq_true_iff.mp h'
          obtain ⟨i, rfl, h3, h4⟩ := isInt_k h2
          have hw' : w = "bar" := by simpa using h1
          subst hw'
          exact .bar i h3 h4
theorem plF_lr {a b rd wd : Addr} : (planF a b rd wd).lookup ("line_rows" : Str) = some (.ref a) := by kernel_rfl
theorem plF_wr {a b rd wd : Addr} : (planF a b rd wd).lookup ("work_rows" : Str) = some (.ref b) := by kernel_rfl
theorem plF_rn {a b rd wd : Addr} : (planF a b rd wd).lookup ("rows_by_name" : Str) = some (.ref rd) := by kernel_rfl
theorem plF_wn {a b rd wd : Addr} : (planF a b rd wd).lookup ("works_by_name" : Str) = some (.ref wd) := by kernel_rfl
end Z
set_option maxHeartbeats 1000000
namespace Z
open PySem PySem.Spec PyProof.Rows L2
open He (ga ma)
structure Bd where
  shut : List Str
  wanted : List Str
  high : List Str
  taken : List Str
  raised : List Int
  joined : List (Str × Int)
def putL {α : Type} [DecidableEq α] (l : List α) (x : α) (b : Bool) : List α × Bool := if decide (x ∈ l) = b then (l, false) else (if b = true then l ++ [x] else l.erase x, true)
def bump (l : List (Str × Int)) (z : Str) : List (Str × Int) := l.map fun x => if x.1 = z then (x.1, x.2 + 1) else x
def Bd.ring (P : Pl) (B : Bd) (z : Str) : Bd × Bool :=
  if (P.ln z).kd = "edge" then (if z ∈ B.wanted then ({ B with joined := bump B.joined z }, false) else ({ B with wanted := B.wanted ++ [z] }, true))
  else (if z ∈ B.high then ({ B with joined := bump B.joined z }, false) else ({ B with high := B.high ++ [z] }, true))
def Bd.ended (B : Bd) (z : Str) : Bd := { B with taken := B.taken.erase z }
def kS : Key → Str
  | .inl _ => ""
  | .inr z => z
def Bd.carry (P : Pl) (B : Bd) (s : Str × Key) : Bd × Bool :=
  if s.1 = "ring" then B.ring P (kS s.2)
  else if s.1 = "quiet" then ({ B with high := (putL B.high (kS s.2) false).1 }, (putL B.high (kS s.2) false).2)
  else if s.1 = "mask" then ({ B with shut := (putL B.shut (kS s.2) true).1 }, (putL B.shut (kS s.2) true).2)
  else if s.1 = "unmask" then ({ B with shut := (putL B.shut (kS s.2) false).1 }, (putL B.shut (kS s.2) false).2)
  else if s.1 = "set" then ({ B with raised := (putL B.raised (kI s.2) true).1 }, (putL B.raised (kI s.2) true).2)
  else ({ B with raised := (putL B.raised (kI s.2) false).1 }, (putL B.raised (kI s.2) false).2)
structure Sub {α : Type} (l m : List α) : Prop where
  nd : l.Nodup
  sub : ∀ x ∈ l, x ∈ m
theorem Sub.nil {α : Type} {m : List α} : Sub [] m := ⟨.nil, by simp⟩
theorem Sub.add {α : Type} {l m : List α} {x : α} (h : Sub l m) (hn : x ∉ l) (hx : x ∈ m) : Sub (l ++ [x]) m := by
  refine ⟨?_, fun y hy => ?_⟩
  · rw [List.nodup_append]
    exact ⟨h.nd, by simp, fun a ha b hb e => by simp at hb; subst hb; subst e; exact hn ha⟩
  · rcases List.mem_append.mp hy with hy | hy
    · exact h.sub y hy
    · simp at hy
      subst hy
      exact hx
theorem Sub.erase {α : Type} [BEq α] [LawfulBEq α] {l m : List α} (x : α) (h : Sub l m) : Sub (l.erase x) m := ⟨h.nd.erase x, fun y hy => h.sub y (List.mem_of_mem_erase hy)⟩
theorem Sub.len {α : Type} [BEq α] [LawfulBEq α] : ∀ {l m : List α}, Sub l m → l.length ≤ m.length
  | [], _, _ => Nat.zero_le _
  | x :: l, m, h => by
    have hx := h.sub x (by simp)
    have hn := List.nodup_cons.mp h.nd
    have : Sub l (m.erase x) := ⟨hn.2, fun y hy => (List.mem_erase_of_ne fun e => hn.1 (by rw [← e]; exact hy)).mpr (h.sub y (List.mem_cons_of_mem _ hy))⟩
    have := this.len
    rw [List.length_erase_of_mem hx] at this
    have : 0 < m.length := List.length_pos_of_mem hx
    rw [List.length_cons]
    omega
theorem Sub.put {α : Type} [DecidableEq α] {l m : List α} {x : α} {b : Bool} (h : Sub l m) (hx : x ∈ m) : Sub (putL l x b).1 m := by
  unfold putL
  split
  · exact h
  · rename_i hn
    split
    · rename_i hb
      subst hb
      exact h.add (by simpa using hn) hx
    · exact h.erase x
def flagL : List Int := [0, 1, 2, 3, 4, 5, 6, 7]
theorem flagL_mem {i : Int} (h0 : 0 ≤ i) (h7 : i ≤ 7) : i ∈ flagL := by
  have : i = 0 ∨ i = 1 ∨ i = 2 ∨ i = 3 ∨ i = 4 ∨ i = 5 ∨ i = 6 ∨ i = 7 := by omega
  simp [flagL, this]
structure Bd.Ok (P : Pl) (B : Bd) : Prop where
  sh : Sub B.shut P.names
  wa : Sub B.wanted P.names
  hi : Sub B.high P.names
  ta : Sub B.taken P.names
  ra : Sub B.raised flagL
  jk : B.joined.map (·.1) = P.order
theorem bump_fst (l : List (Str × Int)) (z : Str) : (bump l z).map (·.1) = l.map (·.1) := by
  unfold bump
  rw [List.map_map]
  apply List.map_congr_left
  intro x _
  show (if x.1 = z then (x.1, x.2 + 1) else x).1 = x.1
  split <;> rfl
theorem Bd.Ok.ring {P : Pl} {B : Bd} (h : B.Ok P) {z : Str} (hz : z ∈ P.names) : (B.ring P z).1.Ok P := by
  unfold Bd.ring
  split
  · split
    · exact ⟨h.sh, h.wa, h.hi, h.ta, h.ra, by show (bump B.joined z).map (·.1) = _; rw [bump_fst]; exact h.jk⟩
    · rename_i hn
      exact ⟨h.sh, h.wa.add hn hz, h.hi, h.ta, h.ra, h.jk⟩
  · split
    · exact ⟨h.sh, h.wa, h.hi, h.ta, h.ra, by show (bump B.joined z).map (·.1) = _; rw [bump_fst]; exact h.jk⟩
    · rename_i hn
      exact ⟨h.sh, h.wa, h.hi.add hn hz, h.ta, h.ra, h.jk⟩
theorem Bd.Ok.ended {P : Pl} {B : Bd} (h : B.Ok P) (z : Str) : (B.ended z).Ok P := ⟨h.sh, h.wa, h.hi, h.ta.erase z, h.ra, h.jk⟩
def CarryIs (P : Pl) (s : Str × Key) : Prop := (s.1 ∈ (["ring", "quiet", "mask", "unmask"] : List Str) ∧ ∃ z, s.2 = .inr z ∧ z ∈ P.names) ∨ (s.1 ∈ (["set", "clear"] : List Str) ∧ ∃ i, s.2 = .inl i ∧ 0 ≤ i ∧ i ≤ 7)
theorem Bd.Ok.carry {P : Pl} {B : Bd} (h : B.Ok P) {s : Str × Key} (hs : CarryIs P s) : (B.carry P s).1.Ok P := by
  obtain ⟨w, k⟩ := s
  rcases hs with ⟨hw, z, e, hz⟩ | ⟨hw, i, e, h0, h7⟩
  · simp only at e hw
    subst e
    simp only [List.mem_cons, List.not_mem_nil, or_false] at hw
    rcases hw with rfl | rfl | rfl | rfl
    · exact h.ring hz
    · exact ⟨h.sh, h.wa, h.hi.put hz, h.ta, h.ra, h.jk⟩
    · exact ⟨h.sh.put hz, h.wa, h.hi, h.ta, h.ra, h.jk⟩
    · exact ⟨h.sh.put hz, h.wa, h.hi, h.ta, h.ra, h.jk⟩
  · simp only at e hw
    subst e
    simp only [List.mem_cons, List.not_mem_nil, or_false] at hw
    rcases hw with rfl | rfl
    · exact ⟨h.sh, h.wa, h.hi, h.ta, h.ra.put (flagL_mem h0 h7), h.jk⟩
    · exact ⟨h.sh, h.wa, h.hi, h.ta, h.ra.put (flagL_mem h0 h7), h.jk⟩
theorem Pl.Ok.len {P : Pl} (ok : P.Ok) : P.names.length ≤ 12 := by
  unfold Pl.names
  rw [List.length_map]
  exact ok.l12
theorem Sub.len12 {P : Pl} (ok : P.Ok) {l : List Str} (h : Sub l P.names) : l.length ≤ 12 := Nat.le_trans h.len ok.len
structure BA where
  b : Addr
  sh : Addr
  wa : Addr
  hi : Addr
  ta : Addr
  ra : Addr
  jo : Addr
def BA.own (D : BA) : List Addr := [D.b, D.sh, D.wa, D.hi, D.ta, D.ra, D.jo]
def boardF (p : Addr) (D : BA) : List (Str × V) := [("plan", .ref p), ("shut", .ref D.sh), ("wanted", .ref D.wa), ("high", .ref D.hi), ("taken", .ref D.ta), ("raised", .ref D.ra), ("joined", .ref D.jo)]
theorem bdF_plan {p : Addr} {D : BA} : (boardF p D).lookup ("plan" : Str) = some (.ref p) := by kernel_rfl
theorem bdF_sh {p : Addr} {D : BA} : (boardF p D).lookup ("shut" : Str) = some (.ref D.sh) := by kernel_rfl
theorem bdF_wa {p : Addr} {D : BA} : (boardF p D).lookup ("wanted" : Str) = some (.ref D.wa) := by kernel_rfl
theorem bdF_hi {p : Addr} {D : BA} : (boardF p D).lookup ("high" : Str) = some (.ref D.hi) := by kernel_rfl
theorem bdF_ta {p : Addr} {D : BA} : (boardF p D).lookup ("taken" : Str) = some (.ref D.ta) := by kernel_rfl
theorem bdF_ra {p : Addr} {D : BA} : (boardF p D).lookup ("raised" : Str) = some (.ref D.ra) := by kernel_rfl
theorem bdF_jo {p : Addr} {D : BA} : (boardF p D).lookup ("joined" : Str) = some (.ref D.jo) := by kernel_rfl
def joinK (l : List (Str × Int)) : List (Key × V) := l.map fun x => (.inr x.1, .int x.2)
structure BoardAt (K : Fg) (H : Hp) (p : Addr) (D : BA) (B : Bd) : Prop where
  nd : D.own.Nodup
  ins : ∃ dx, H D.b = some (.ins (ga K "Board") dx (boardF p D))
  sh : H D.sh = some (.lst (B.shut.map V.str))
  wa : H D.wa = some (.lst (B.wanted.map V.str))
  hi : H D.hi = some (.lst (B.high.map V.str))
  ta : H D.ta = some (.lst (B.taken.map V.str))
  ra : H D.ra = some (.lst (B.raised.map V.int))
  jo : H D.jo = some (.dK (joinK B.joined))
section
variable {K : Fg} {H H' : Hp} {p : Addr} {D : BA} {B : Bd}
theorem BoardAt.keep (h : BoardAt K H p D B) {A : List Addr} (f : Fr A H H') (n : ∀ a ∈ D.own, a ∉ A) : BoardAt K H' p D B := by
  have n' : D.b ∉ A ∧ D.sh ∉ A ∧ D.wa ∉ A ∧ D.hi ∉ A ∧ D.ta ∉ A ∧ D.ra ∉ A ∧ D.jo ∉ A := by simpa [BA.own] using n
  obtain ⟨n1, n2, n3, n4, n5, n6, n7⟩ := n'
  obtain ⟨dx, e⟩ := h.ins
  exact ⟨h.nd, ⟨dx, f.at e n1⟩, f.at h.sh n2, f.at h.wa n3, f.at h.hi n4, f.at h.ta n5, f.at h.ra n6, f.at h.jo n7⟩
theorem BoardAt.same (h : BoardAt K H p D B) (s : Same H H') : BoardAt K H' p D B := h.keep (A := []) s.fr (by simp)
local macro_rules | `(tactic| walk_at "bd") => `(tactic| (rw [upd_ne (by first | assumption | (apply Ne.symm; assumption))]; assumption))
local macro_rules | `(tactic| walk_at "bd") => `(tactic| exact upd_same)
end
end Z
set_option maxHeartbeats 2000000
namespace Z
open PySem PySem.Spec PyProof.Rows L2
end Z
set_option maxHeartbeats 1000000
namespace Z
open PySem PySem.Spec PyProof.Rows L2
open LamX (lamCx lamEnv run_ofS CodeO TabB TabS LamS pe_act)
open He (ga ma)
def oexB (x : Str) (K : Fg) : Bool := (match K.lookup (ga K x) with
  | some ⟨.type "type", _, .cls cd, sl⟩ => (match cd.mro, sl.toList with
    | .ref c :: bm, [_, _, _, _, some (.builtin n), _] => decide (c = ga K x) && (decide (n = "ValueError.__new__") && (cd.hasDict && (!cd.hasDel && PySem.HandSPX.refsVE bm)))
    | _, _ => false)
  | _ => false) && (decide (PySem.W.findIn K (.ref (ga K x)) "__setattr__" = some (some (.builtin "object.__setattr__"))) && (decide (PySem.W.subIn K (.ref (ga K x)) (.type "BaseException") = some true) && (decide (PySem.W.typeIn K (.ref (ga K x)) = some (.type "type")) && PySem.W.keepIn K (.ref (ga K x)))))
theorem oexB_ok {x : Str} {K : Fg} (h : oexB x K = true) : OexC K (ga K x) := by
  unfold oexB at h
  simp only [Bool.and_eq_true, decide_eq_true_eq] at h
  obtain ⟨h1, h2, h3, h4, h5⟩ := h
  refine ⟨?_, h2, h3, h4, h5⟩
  split at h1
  · rename_i dd cd sl e
    split at h1
    · rename_i c bm a0 a1 a2 a3 n a5 em es
      simp only [Bool.and_eq_true, decide_eq_true_eq, Bool.not_eq_true'] at h1
      obtain ⟨rfl, rfl, hd, hl, hr⟩ := h1
      obtain ⟨nm, bs, mro, ns, qn, hdc, sn, sb, ab, col, del⟩ := cd
      dsimp only at em hd hl
      subst em hd hl
      obtain ⟨l⟩ := sl
      have es : l = _ := es
      subst es
      exact ⟨_, _, _, _, _, _, _, _, _, _, _, _, _, _, _, e, hr⟩
    · cases h1
  · cases h1
structure OexI (K : Fg) (C f : Addr) : Prop where
  i : PySem.W.findIn K (.ref C) "__init__" = some (some (.ref f))
  t : PySem.W.typeIn K (.ref f) = some (.type "function")
def fOexI (x : Str) (K : Fg) : Bool := decide (PySem.W.findIn K (.ref (ga K x)) "__init__" = some (some (.ref (ma K (ga K x) "__init__")))) && decide (PySem.W.typeIn K (.ref (ma K (ga K x) "__init__")) = some (.type "function"))
theorem fOexI_ok {x : Str} {K : Fg} (h : fOexI x K = true) : OexI K (ga K x) (ma K (ga K x) "__init__") := by
  unfold fOexI at h
  simp only [Bool.and_eq_true, decide_eq_true_eq] at h
  exact ⟨h.1, h.2⟩
def excCB (x : Str) (K : Fg) : Bool := decide (PySem.W.findIn K (.ref (ga K x)) "__getattribute__" = some (some (.builtin "BaseException.__getattribute__"))) && (decide (PySem.W.findIn K (.ref (ga K x)) "__getattr__" = some none) && (decide (PySem.W.subIn K (.ref (ga K x)) (.type "BaseException") = some true) &&
  (PySem.W.hasDictIn K (ga K x) && (decide (PySem.W.findIn K (.ref (ga K x)) "__class__" = some (some (.builtin "object.__class__"))) && (decide (PySem.W.specialIn K (.builtin "object.__class__") "__get__" = some (some (.builtin "getset_descriptor.__get__"))) &&
  (decide (PySem.W.takesIn K (.builtin "object.__class__") = some true) && decide (PySem.W.mroIn K (ga K x) (.type "object") = some true)))))))
theorem excCB_ok {x : Str} {K : Fg} (h : excCB x K = true) : ExcC K (ga K x) := by
  unfold excCB at h
  simp only [Bool.and_eq_true, decide_eq_true_eq] at h
  obtain ⟨h1, h2, h3, h4, h5, h6, h7, h8⟩ := h
  exact ⟨h1, h2, h3, h4, h5, h6, h7, h8⟩
theorem ExcC.xf {K : Fg} {C : Addr} (h : ExcC K C) : XfC K C := ⟨h.hg, h.hk, h.hs, h.hd⟩
structure VeIn (K : Fg) (B : Addr) : Prop where
  r : ClX.CRead K B (.type "type")
  v : PySem.W.findCls K (.ref B) (.type "type") "__init__" = some (.val (.builtin "ValueError.__init__"))
def fVeIn (x : Str) (K : Fg) : Bool := PySem.W.readsIn K (ga K x) (.type "type") && (decide (PySem.W.specialIn K (.ref (ga K x)) "__getattribute__" = some (some (.builtin "type.__getattribute__"))) && (match PySem.W.findCls K (.ref (ga K x)) (.type "type") "__init__" with
  | some (.val (.builtin n)) => decide (n = "ValueError.__init__")
  | _ => false))
theorem fVeIn_ok {x : Str} {K : Fg} (h : fVeIn x K = true) : VeIn K (ga K x) := by
  unfold fVeIn at h
  simp only [Bool.and_eq_true, decide_eq_true_eq] at h
  obtain ⟨h1, h2, h3⟩ := h
  refine ⟨⟨h1, h2⟩, ?_⟩
  split at h3
  · rename_i n e
    rw [e, of_decide_eq_true h3]
  · cases h3
section
variable {X : Cx} {B : Addr} {o e : Expr} {es : List Expr} {to : TE} {ta : TA} {pos apos : Pos}
def tBin (B : Addr) (to t : TE) : TE := fun σ H Q => to σ H fun x H1 => x = .ref B ∧ t σ H1 Q
theorem z_veinit {pl : Sem Bool} (ho : PE X o to) (hB : VeIn X.K B) (ha : L2.PA X (e :: es) ta)
    (hst : starEach (e :: es) X.env = (false, eval e X.env) :: starEach es X.env := by rfl) (hpl : (backTo pos (starEach es X.env)).any (·.1) = false := by rfl)
    (ht : eval (.Call (.Attribute o "__init__" apos) (e :: es) [] pos) X.env = (do
      let ov ← eval o X.env
      standAt apos.atName
      let (f, first) ← holding [ov] (getMethod ov "__init__" pl)
      callWith pos f first (backTo pos (starEach (e :: es) X.env)) (backToKw pos (keywordEach [] X.env))) := by rfl) :
    PE X (.Call (.Attribute o "__init__" apos) (e :: es) [] pos) (tBin B to (tVeI X.K ta)) := by
  refine ⟨fun pins s σ H Q I h => ?_⟩
  refine PySem.W.methodCall_KW (pl := pl) (thn (ho.run pins s σ H _ I h) fun u s1 ⟨x, H1, I1, rx, ex, q⟩ => ?_) ht
  subst ex
  obtain rfl : u = Value.ref B := rx
  refine PySem.W.method_cls I1.kIn hB.r.ga (PySem.W.cls_value I1.kIn hB.r.rd hB.v (by rfl) ?_)
  have I2 := I1.tok (s1.toks + 1)
  refine PyProof.Rows.callWith_method1 (thn (ha.run pos pins _ σ H1 _ I2 q) fun us s2 ⟨vs, H2, I3, r2, a, C, ws, ev, hl, T, ea, q2⟩ => ?_) hst hpl
  subst ev
  cases r2 with
  | @cons _ u0 _ ur ra rw' =>
    obtain rfl : u0 = Value.ref a := ra
    have hn : ur.length ≤ sizeLine := by
      rw [← Paired.length rw', sizeLine_eq]
      omega
    exact oinit_ok T I3 ea hn fun s' J => ⟨.non, H2, J, rfl, q2⟩
end
def rIsX (K : Fg) (a : Addr) (cls : Value) (d : Option Addr) : List V → Hp → VK → Prop := fun xs H Q => ∃ (D : Addr) (c : V) (cv : Value) (b : Bool), xs = [.ref a, c] ∧ cls = .ref D ∧ ExcC K D ∧ (∀ u, RelV c u → u = cv) ∧ PySem.W.kitOne K cls cv = some b ∧ (∀ dd, d = some dd → ∃ fs, H dd = some (.xd fs)) ∧ Q (.bl b) H
theorem cr_isX {X : Cx} {a : Addr} {cls : Value} {d : Option Addr} {oe : Obj} {pn : List (Addr × Obj)} (hz : Zc cls d oe) (hf : ∃ vs, oe.data = .fields vs) : CallR (X.suite a ((a, oe) :: pn)) (.builtin "isinstance") (rIsX X.K a cls d) := by
  intro pins s σ H xs us Q I r h
  obtain ⟨D, c, cv, b, rfl, rfl, C, hcv, e, hdd, q⟩ := h
  cases r with | cons rx rr => ?_
  cases rr with | cons rt rr => ?_
  cases rr
  cases rx
  obtain rfl := hcv _ rt
  have hcl : (PySem.W.clsIn X.K D).isSome = true := by
    obtain ⟨cd, hc, _⟩ := PySem.W.any_some C.hd
    rw [hc]
    rfl
  obtain ⟨hget, _⟩ := I.pin (a, oe) (List.mem_append.mpr (.inl List.mem_cons_self))
  obtain ⟨vs, hv⟩ := hf
  obtain ⟨oc, od, oda, osl⟩ := oe
  obtain ⟨h1, h2⟩ := hz
  dsimp only at h1 h2 hv
  subst h1 h2 hv
  cases od with
  | none =>
    have J : PySem.W.InstAt s.heap a ⟨.ref D, none, .fields vs, osl⟩ D none := ⟨hget, rfl, rfl, trivial⟩
    exact PySem.W.kia_one (PySem.W.kitx_exc hcl C.hg C.hk C.hs C.ha C.hn C.ht C.hm) I.kIn J e (fun z => nomatch z) fun tk => ⟨.bl b, H, I.kept (t' := tk) fun _ _ z => z, rfl, q⟩
  | some dd =>
    obtain ⟨fs, hx⟩ := hdd dd rfl
    have ox : ObjOk X.prog X.w H s.heap dd (.xd fs) := I.hok dd _ hx
    obtain ⟨mA, hns, _⟩ := ox
    obtain ⟨od, ho, _⟩ := lookIn_ns hns
    have J : PySem.W.InstAt s.heap a ⟨.ref D, some dd, .fields vs, osl⟩ D (some od) := ⟨hget, rfl, rfl, ho⟩
    exact PySem.W.kia_one (PySem.W.kitx_exc hcl C.hg C.hk C.hs C.ha C.hn C.ht C.hm) I.kIn J e (fun z => nomatch z) fun tk => ⟨.bl b, H, I.kept (t' := tk) fun _ _ z => z, rfl, q⟩
theorem takes_len {X : Cx} {W : WX} (tk : Takes X W) : Takes X (fun cls d σ H => σ.length = X.N.length → W cls d σ H) := fun u s' ⟨a, B, sI, pins, σ, H, cls, d, e, I, nb, up, sky, na, os, ag, w⟩ => tk u s' ⟨a, B, sI, pins, σ, H, cls, d, e, I, nb, up, sky, na, os, ag, w I.len⟩
def GivesR (X : Cx) (Ng : List Str) (x : Str) (sg : Scope) (g : Addr) (cdg : Value) (bg : List Stmt) (a q : Str) (TT : (XK → Hp → VK → Prop) → Hp → VK → Prop) : Prop :=
  ∀ (f c' : Addr) (s : Shared) (H : Hp) (Q : VK) (tl : XK → Hp → VK → Prop), Room 2 (X.A.deeper (envOfC x sg s.heap.objs.size g cdg)) →
    (∀ (W : WX) (pn : List (Addr × Obj)) (xe : Value → Shared → Prop) (E : XK) (p1 p2 : Pos), Takes ((inCx X Ng x sg g cdg s H E0).tr pn xe) W → (∀ cls d (σ' : L2.St) H', σ'.length = Ng.length → E cls d H' → W cls d σ' H') →
      PE ((inCx X Ng x sg g cdg s H E0).tr pn xe) (.Call (.Name a p1) [] [] p2) (fun σZ HZ Q => σZ[0]? = some (some (.ref f)) ∧ HZ c' = some (CodeO c' q) ∧ tl E HZ Q)) →
    H c' = some (CodeO c' q) → TT tl H Q →
    ∃ t, PSs (inCx X Ng x sg g cdg s H E0) bg t ∧ t { nx := fun _ H' => Q .non H', rt := Q } (L2.start Ng [.ref f]) H
def tLamR (P : Addr) (q : Str) (TT : (XK → Hp → VK → Prop) → Hp → VK → Prop) (t : XK → TE) : TE := fun σ H Q => TabS H P q ∧ ∀ H3, Fr [P] H H3 → TabS H3 P q → TT (fun E H' Q' => t E σ H' Q') H3 Q
theorem z_lamR {X : Cx} {TT : (XK → Hp → VK → Prop) → Hp → VK → Prop} {x a : Str} {g c P : Addr} {k : Nat} {pg : Arguments} {bg : List Stmt} {sg : Scope} {Ng : List Str}
    {params : Arguments} {body : Expr} {scope : Scope} {t : XK → TE} {p lpos pos : Pos} (F : FunD X.K x x pg bg sg [] [] g (fdOf X.K g)) (cal : Cal X.K g [a] []) (hg : Gl X x) (hm : X.mg x = some (.ref g)) (Sg : FnScope Ng [a] sg) (hNg : Ng[0]? = some a) (hva : Vis sg a)
    (hG : ∀ cdv, GivesR X Ng x sg g cdv bg a (X.env.qual ++ "<lambda>") TT)
    (TB : TabB X.base X.mg c P) (hcode : X.env.code = .ref c) (hr : Room (k + 3) X.A) {sc : Scope} (hsc : X.env.scope = sc) (L : LamS sc scope) (hdef : defaultsOf params X.env = ([], []))
    (hbind : ∀ (q : Str) (cl : List (Str × Addr)) (pm cv ctv : Value), bindArgs (PySem.W.kla_fn "<lambda>" q params body scope cl pm cv ctv) ⟨[], []⟩ = pure [])
    (hbody : ∀ (A : Around) (outer : List Env) (s : Shared) (H : Hp) (E : XK) (f c' : Addr), Room k (A.deeper (lamEnv X scope s.heap.objs.size f c')) → PE (lamCx X A outer s H E scope f c') body (t E))
    (hdb : (x == ("__debug__" : Str)) = false := by decide) (hd : (a == ("__debug__" : Str)) = false := by decide) (hcd : (a == ("__classdict__" : Str)) = false := by decide) :
    PE X (.Call (.Name x p) [.Lambda params body scope lpos] [] pos) (tLamR P (X.env.qual ++ "<lambda>") TT t) := by
  subst hsc
  obtain ⟨oc, od, dV, kV, doc, pm, an, cdv, ct, osl, e, lk, hcg, _, _⟩ := F.ex
  obtain ⟨ds, hb, hds⟩ := cal.b
  cases hds
  rw [e] at lk hb
  refine ⟨fun pins s σ H Q I h => ?_⟩
  obtain ⟨hT, h⟩ := h
  refine wpAny_Call_Name_kw (ld_glob I hg hm ?_ hdb)
  refine PySem.W.callWith_K (h₀ := X.base) I.ok.mod.kin F.kp ?_ (by rfl) (by rfl)
  show wpAny _ _ (spliced ((false, eval (.Lambda params body scope lpos) X.env) :: backTo pos (starEach [] X.env))) _ _ s
  refine Calls.spliced_cons (lamMake I TB hcode hT hdef (L.has I.ok) fun f c' pm' ctv H3 s3 I3 eN T3 hf hfn hfr hco => ?_)
  refine Calls.spliced_nil ⟨I3.kIn, ?_⟩
  have rc : codeAny (model X.prog X.w) X.A (.call (.ref g) ⟨[.ref f], []⟩) (CR (L2.CX X.prog X.w) X.stack X.prog X.w H3 s3 Q E0) s3 := by
    refine run_ofS (N := Ng) (ps := [a]) (us := [.ref f]) (vs := [.ref f]) lk hcg Sg (k := k + 2) hr I3.env0 (by
      have := hb s3 [.ref f] I3.kIn rfl
      simpa using this) (.cons rfl .nil) rfl fun hr' => ?_
    exact hG cdv f c' s3 H3 Q (fun E H' Q' => t E σ H' Q') (hr'.mono (by omega)) (fun W pn xe E p1 p2 tk hW => pe_act (CXg := L2.CX X.prog X.w) (i := 0) (k := k) I3 L hf hfn hfr (hbind _ _ _ _ _) (takes_len tk) (fun cls d σ' H' h l => hW cls d σ' H' l h) (hr'.mono (by omega)) (fun A outer s H hr2 => hbody A outer s H E f c' hr2) hNg hva hd hcd) hco (h H3 eN T3)
  refine wpAny_call (codeAny_mono rc fun r s' hq => ?_)
  cases r with
  | error e => exact passL (X := X) pins σ H3 s3 e s' I3 hq
  | ok fl =>
    cases fl with
    | ret u => exact I3.after hq
    | next => exact False.elim hq
    | brk => exact False.elim hq
    | cont => exact False.elim hq
def tActR (W : WX) (n : Nat) (R : XK → TE) : TS := fun D σ H => ∃ E : XK, (∀ cls d (σ' : L2.St) H', σ'.length = n → E cls d H' → W cls d σ' H') ∧ R E σ H fun _ H' => D.nx σ H'
theorem z_actR {X : Cx} {e : Expr} {W : WX} {n : Nat} {R : XK → TE} {pos : Pos} (h : ∀ E : XK, (∀ cls d (σ' : L2.St) H', σ'.length = n → E cls d H' → W cls d σ' H') → PE X e (R E)) (hs : swapsWith e none pos.line X.env = pure false := by rfl) : PS X (.Expr e pos) (tActR W n R) := by
  refine ⟨fun pins s σ H D I h' => ?_⟩
  obtain ⟨E, hW, q⟩ := h'
  exact (ps_expr (pos := pos) (h E hW) hs).run pins s σ H D I q
theorem z_mkX {X : Cx} {x : Str} {C f : Addr} {k : Nat} {ps : List Str} {sp : Sp} {dvs : List V} {e : Expr} {es : List Expr} {ta : TA} {p pos : Pos} (T : OexC X.K C) (i : OexI X.K C f) (F1 : FnX X k f ps sp) (c : Cal X.K f ps dvs) (hr : Room (k + 1) X.A) (hg : Gl X x) (hm : X.mg x = some (.ref C)) (ha : L2.PA X (e :: es) ta)
    (hdb : (x == ("__debug__" : Str)) = false := by decide) (he : starEach (e :: es) X.env = (false, eval e X.env) :: starEach es X.env := by rfl) (hpl : (backTo pos (starEach es X.env)).any (·.1) = false := by rfl) : PMk X (.Call (.Name x p) (e :: es) [] pos) (tMkO C sp dvs ta) := by
  obtain ⟨ds, hb, hd⟩ := c.b
  exact pmk_oex T i.i i.t F1 hr hb hd passL hg hm ha hdb he hpl
end Z
set_option maxHeartbeats 1000000
namespace Z
open PySem PySem.Spec PyProof.Rows L2
open He (ga ma)
theorem _root_.L2.ExcC.xf {K : Fg} {C : Addr} (h : L2.ExcC K C) : XfC K C := ⟨h.hg, h.hk, h.hs, h.hd⟩
theorem s_bin {σ : L2.St} {H : Hp} {B : Addr} {to t : TE} {Q : VK} (q : to σ H fun x H1 => x = .ref B ∧ t σ H1 Q) : tBin B to t σ H Q := q
theorem same_xd {H : Hp} {a d : Addr} {o o2 u : HO} {fs : List (Str × V)} (ha : H a = none) (hd : H d = none) (n : d ≠ a) : Same H (upd (del (upd (upd (upd H a o) d u) a o2) a) d (.xd fs)) := fun b v e => by
  have b1 : b ≠ a := fun z => by
    rw [z, ha] at e
    cases e
  have b2 : b ≠ d := fun z => by
    rw [z, hd] at e
    cases e
  rw [upd_ne b2, del_ne b1, upd_ne b1, upd_ne b2, upd_ne b1]
  exact e
theorem str_len_app (a b : Str) : (a ++ b).length = a.length + b.length := by
  show (a.cps ++ b.cps).size = a.cps.size + b.cps.size
  exact Array.size_append
theorem mt_indexK {X : Cx} (K : Fg) (hK : X.K = K := by rfl) : MtR X "list.index" (rIndex K) := by subst hK; exact mt_index
end Z
set_option maxHeartbeats 2000000
namespace Z
open PySem PySem.Spec PyProof.Rows L2
def rCntD (K : Fg) : V → List V → Hp → VK → Prop := fun x xs H Q => ∃ (a : Addr) (y : V) (d : PyData) (ds : List PyData), x = V.ref a ∧ xs = [y] ∧ Dp K H (V.ref a) (.list ds) ∧ Dp K H y d ∧
  SeqAt.shaped (.list ds) = true ∧ SeqAt.shaped d = true ∧ Q (.int (ds.countP fun z => PyData.eqv z d : Nat)) H
section
variable {X : Cx}
theorem mt_countD (hu : X.A.units + 65 < cLine) : MtR X "list.count" (rCntD X.K) := by
  intro pins s σ H x xs v us Q I rx rxs h
  obtain ⟨a, y, d, ds, rfl, rfl, hl, hy, sl, sd, q⟩ := h
  cases rx
  cases rxs with
  | cons ry rt =>
    rename_i uy ut
    cases rt
    obtain ⟨bs, r1⟩ := Dp.reads I d y uy hy ry
    have hxs : PyData.canLayAll0 ds = true := SeqAt.canLay_of_shaped sl
    have hroom : X.A.units + 1 + min (PyData.depthAll ds) d.depth < cLine := room_in_shaped sd hu
    cases hl with
    | lst hs ha =>
      obtain ⟨its, rv, ⟨⟨cls, dd, data, sls⟩, n, ho, hc, hdn, hdt⟩, hlen⟩ := I.list hs
      simp only at hc hdt
      subst hc hdt
      obtain ⟨as, h4⟩ := Dp.readsAll I ds _ its ha rv
      have hmap : its.map (SeqAt.readOf s.heap) = ds := SeqAt.readsAll_map ds its as hxs h4
      refine call_meets PySem.F.slot_list_count ⟨_, ho, rfl⟩ PySem.F.entry_list_count (PySem.F.args_list_count_2 _ _)
        (SeqAt.list_countAt a its.toArray n dd sls uy (fun u => PyData.eqv (SeqAt.readOf s.heap u) d)) ⟨ho, SeqAt.items_eqAt (vs := its.toArray) (show ReadsAll s.heap its.toArray.toList ds as from h4) r1 hxs (SeqAt.canLay_of_shaped sd) hroom, ?_⟩
      have ec : its.toArray.toList.countP (fun u => PyData.eqv (SeqAt.readOf s.heap u) d) = ds.countP fun z => PyData.eqv z d := by
        rw [← hmap, List.countP_map]
        rfl
      refine ⟨.int (ds.countP fun z => PyData.eqv z d : Nat), H, I.tok _, ⟨s.toks, ?_⟩, q⟩
      show Value.int ((its.toArray.toList.countP (fun u => PyData.eqv (SeqAt.readOf s.heap u) d) : Nat) : Int) s.toks = Value.int ((ds.countP fun z => PyData.eqv z d : Nat) : Int) s.toks
      rw [ec]
theorem mt_countDK (K : Fg) (hu : X.A.units + 65 < cLine) (hK : X.K = K := by rfl) : MtR X "list.count" (rCntD K) := by subst hK; exact mt_countD hu
end
end Z
set_option maxHeartbeats 3200000
namespace Z
open PySem PySem.Spec PyProof.Rows L2 PySem.Froz
end Z
set_option maxHeartbeats 1000000
namespace Z
open PySem PySem.Spec PyProof.Rows L2
open LamX (lamCx lamEnv inv_table run_ofS CodeO codeO_ne TabB TabS among_app)
structure Lm where
  ps : Arguments
  body : Expr
  scope : Scope
  own : Option (Nat × Str × V)
def FnO (env : Env) (d : Lm) (dV : Value) (c' f : Addr) : HO := .ext fun h => ∃ doc pm ctv, h.get? f = some (PySem.W.kdv_obj "<lambda>" (env.qual ++ "<lambda>") d.ps (.expr d.body) d.scope (cloFrom env.cells d.scope.names []) dV doc pm c' ctv)
def DfltAt (d : Lm) (dV : Value) (H : Hp) : Prop := match d.own with
  | none => dV = .none
  | some (_, _, v) => ∃ t, dV = .ref t ∧ H t = some (.tup [v])
def Kept (env : Env) (d : Lm) (f : Addr) (H : Hp) : Prop := ∃ (c' : Addr) (dV : Value), H c' = some (CodeO c' (env.qual ++ "<lambda>")) ∧ H f = some (FnO env d dV c' f) ∧ DfltAt d dV H
theorem DfltAt.ext {d : Lm} {dV : Value} {H H' : Hp} (h : DfltAt d dV H) (e : ∀ t xs, H t = some (.tup xs) → H' t = some (.tup xs)) : DfltAt d dV H' := by
  unfold DfltAt at h ⊢
  split at h
  · exact h
  · obtain ⟨t, e1, e2⟩ := h
    exact ⟨t, e1, e _ _ e2⟩
theorem Kept.same {env : Env} {d : Lm} {f : Addr} {H H' : Hp} (h : Kept env d f H) (s : Same H H') : Kept env d f H' := by
  obtain ⟨c', dV, h1, h2, h3⟩ := h
  exact ⟨c', dV, s _ _ h1, s _ _ h2, h3.ext fun t xs e => s _ _ e⟩
def NoE (H : Hp) (a : Addr) : Prop := ∀ φ, H a ≠ some (.ext φ)
theorem Kept.fr {env : Env} {d : Lm} {f : Addr} {N : List Addr} {H H' : Hp} (h : Kept env d f H) (s : Fr N H H') (n : ∀ a ∈ N, NoE H a) : Kept env d f H' := by
  obtain ⟨c', dV, h1, h2, h3⟩ := h
  refine ⟨c', dV, s.at h1 fun z => n _ z _ h1, s.at h2 fun z => n _ z _ h2, h3.ext fun t xs e => ?_⟩
  exact s.1 t _ e (.inr rfl)
end Z
set_option maxHeartbeats 1000000
namespace Z
open PySem PySem.Spec PyProof.Rows L2
open LamX (lamCx lamEnv run_ofS CodeO TabB TabS)
end Z
set_option maxHeartbeats 1000000
namespace Z
open PySem PySem.Spec PyProof.Rows L2
open LamX (lamCx lamEnv run_ofS CodeO TabB TabS)
end Z
set_option maxHeartbeats 1000000
namespace Z
open PySem PySem.Spec PyProof.Rows L2
open LamX (TabB TabS CodeO)
end Z
set_option maxHeartbeats 1000000
namespace Z
open PySem PySem.Spec PyProof.Rows L2
open He (ga ma)
def fmtV : V → Option Str
  | .str y => if y.length ≤ 1000 then some y else none
  | .int i => if i.natAbs.log2 < 1920 then some (toString i) else none
  | .non => some "None"
  | .bl b => some (if b then "True" else "False")
  | _ => none
end Z
set_option maxHeartbeats 1000000
namespace Z
open PySem PySem.Spec PyProof.Rows L2
def FmtOk (K : Fg) (H : Hp) (v : V) : Prop := (∃ y, fmtV v = some y ∧ y.length ≤ 1000) ∨ ∃ a l, v = .ref a ∧ SqT K H a (l.map V.str) ∧ (∀ y ∈ l, ∀ c ∈ y.cps.toList, c < 16 ^ 8) ∧ fmtCost l + 7 ≤ 1000
theorem FmtOk.same {K : Fg} {H H' : Hp} {v : V} (h : FmtOk K H v) (s : Same H H') : FmtOk K H' v := by
  rcases h with h | ⟨a, l, e, h1, h2, h3⟩
  · exact .inl h
  · exact .inr ⟨a, l, e, s.sqT h1, h2, h3⟩
theorem FmtOk.tk {K : Fg} {H H' : Hp} {v : V} (h : FmtOk K H v) (s : Tk H H') : FmtOk K H' v := by
  rcases h with h | ⟨a, l, e, h1, h2, h3⟩
  · exact .inl h
  · exact .inr ⟨a, l, e, s.sqT h1, h2, h3⟩
end Z
set_option maxHeartbeats 1000000
namespace Z
open PySem PySem.Spec PyProof.Rows L2
end Z
set_option maxHeartbeats 1000000
namespace Z
open PySem PySem.Spec PyProof.Rows L2
open He (ga ma)
section
variable {K : Fg} {σ : L2.St} {H H1 : Hp} {Q : VK} {te tk tv tl td ty : TE} {a : Addr} {xs : List V} {kvs : List (Key × V)} {ea ec ed : L2.St → Hp → Prop} {eb : VK}
theorem s_daugg {rd : V → V → Hp → VK → Prop} (q : td σ H fun x H1 => ty σ H1 fun y H2 => ∃ a v, x = .ref a ∧ DGet H2 a y (some v) ∧ tv σ H2 fun y2 H3 => rd v y2 H3 fun z H4 => ∃ H5, DPut H4 a y z H5 ∧ ea σ H5) : sDAug td ty tv rd (.mk ea eb ec ed) σ H := q
theorem s_add {i j : Int} (q : Q (.int (i + j)) H) : rAdd (.int i) (.int j) H Q := ⟨i, j, rfl, rfl, q⟩
theorem s_disp {trs : List (TE × TE)} (q : ∀ p, H p = none → tPairs trs σ (upd H p (.dK [])) fun ps H2 => H2 p = some (.dK []) ∧ ∃ kvs : List (Key × V), ps = kvs.map (fun kv => (kV kv.1, kv.2)) ∧ kvs.length ≤ 15 ∧ Q (.ref p) (upd H2 p (.dK (mergeK [] kvs)))) : tDisp trs σ H Q := q
theorem s_pnil {R : List (V × V) → Hp → Prop} (q : R [] H) : tPairs [] σ H R := q
theorem s_pcons {R : List (V × V) → Hp → Prop} {trs : List (TE × TE)} (q : tk σ H fun x H1 => tv σ H1 fun y H2 => tPairs trs σ H2 fun ps H3 => R ((x, y) :: ps) H3) : tPairs ((tk, tv) :: trs) σ H R := q
theorem s_setL {p : Addr} {k : Int} {v : V} {j : Nat} {R : Hp → Prop} (h : H p = some (.lst xs)) (e : ixN xs.length k = some j) (q : R (upd H p (.lst (xs.set j v)))) : rSetL (.ref p) (.int k) v H R := ⟨p, xs, k, j, rfl, rfl, h, e, q⟩
theorem s_gsub {to ti : TE} {t : TSet} {v : V} {R : L2.St → Hp → Prop} (q : to σ H fun o H1 => ti σ H1 fun i H2 => t o i v H2 fun H3 => R σ H3) : gSub to ti t v σ H R := q
theorem s_augS {to ti : TE} {tget : V → V → Hp → VK → Prop} {tip : TIp} {tset : TSet} (q : to σ H fun o H1 => ti σ H1 fun i H2 => tget o i H2 fun x H3 => te σ H3 fun y H4 => tip x y H4 fun z H5 => tset o i z H5 fun H6 => ea σ H6) : tAugS to ti te tget tip tset (.mk ea eb ec ed) σ H := q
theorem s_ipI {f : Int → Int → Int} {i j : Int} (q : Q (.int (f i j)) H) : ipI f (.int i) (.int j) H Q := ⟨i, j, rfl, rfl, q⟩
theorem s_cat {b : Addr} {zs : List V} (h : H a = some (.lst xs)) (h2 : H b = some (.lst zs)) (hl : xs.length + zs.length ≤ sizeLine) (q : ∀ p, H p = none → Q (.ref p) (upd H p (.lst (xs ++ zs)))) : rCat (.ref a) (.ref b) H Q := ⟨a, b, xs, zs, rfl, rfl, h, h2, hl, q⟩
theorem s_fldaug {ta : TE} {rd : V → V → Hp → VK → Prop} {f : Str} (q : ta σ H fun x H1 => ∃ a C dx fs v, x = .ref a ∧ H1 a = some (.ins C dx fs) ∧ Cls K C ∧ NoAttr K C f ∧ fs.lookup f = some v ∧
  tv σ H1 fun y H2 => rd v y H2 fun z H3 => ∃ dx' fs', H3 a = some (.ins C dx' fs') ∧ fs'.length < 1000 ∧ ea σ (upd H3 a (.ins C dx' (putF f z fs')))) : sFldAug K ta tv rd f (.mk ea eb ec ed) σ H := q
end
theorem Fr.fresh {A : List Addr} {H H' : Hp} {a : Addr} (f : Fr A H H') (hn : a ∉ A) (h : H' a = none) : H a = none := f.back h
end Z
set_option maxHeartbeats 1000000
namespace Z
open PySem PySem.Spec PyProof.Rows L2
open He (ga ma)
structure Frm where
  ln : Str
  st : Nat
  tk : Nat
  kp : Int
structure Cr where
  frames : List Frm
  limit : Int
  jobs : List (Str × Nat)
abbrev Ev := Str × Str
def dEv (e : Ev) : PyData := .tuple [.str e.1, .str e.2]
def frV (f : Frm) : List V := [.str f.ln, .int f.st, .int f.tk, .int f.kp]
def jbV (j : Str × Nat) : List V := [.str j.1, .int j.2]
def leave (jobs : List (Str × Nat)) (z : Str) : List (Str × Nat) := if (z, 0) ∈ jobs then jobs else jobs ++ [(z, 0)]
def stepFx (P : Pl) (lim : Int) (jobs : List (Str × Nat)) (B : Bd) (s : Str × Key) : Int × List (Str × Nat) × Bd :=
  if s.1 = "bar" then (kI s.2, jobs, B) else if s.1 = "later" then (lim, leave jobs (kS s.2), B) else if s.1 ≠ "await" then (lim, jobs, (B.carry P s).1) else (lim, jobs, B)
def stops (B : Bd) (s : Str × Key) : Bool := decide (s.1 = ("run" : Str)) || (decide (s.1 = ("await" : Str)) && !decide (kI s.2 ∈ B.raised))
def passL (P : Pl) (fs : List Frm) (f : Frm) (lim : Int) (jobs : List (Str × Nat)) (B : Bd) : List (Str × Key) → Cr × Bd × List Ev
  | [] => (⟨fs, f.kp, jobs⟩, B.ended f.ln, [("end", f.ln)])
  | s :: r => if stops B s = true then (⟨fs ++ [f], lim, jobs⟩, B, []) else
    passL P fs { f with st := f.st + 1 } (stepFx P lim jobs B s).1 (stepFx P lim jobs B s).2.1 (stepFx P lim jobs B s).2.2 r
inductive Lsts (H : Hp) : List Addr → List (List V) → Prop
  | nil : Lsts H [] []
  | cons {a : Addr} {xs : List V} {as : List Addr} {xss : List (List V)} : H a = some (.lst xs) → Lsts H as xss → Lsts H (a :: as) (xs :: xss)
section
variable {H H' : Hp}
theorem Lsts.len : ∀ {as : List Addr} {xss : List (List V)}, Lsts H as xss → as.length = xss.length
  | _, _, .nil => rfl
  | _, _, .cons _ t => by rw [List.length_cons, List.length_cons, t.len]
theorem Lsts.keep {A : List Addr} (f : Fr A H H') : ∀ {as : List Addr} {xss : List (List V)}, Lsts H as xss → (∀ a ∈ as, a ∉ A) → Lsts H' as xss
  | _, _, .nil, _ => .nil
  | _, _, .cons h t, n => .cons (f.at h (n _ (by simp))) (t.keep f fun a ha => n a (List.mem_cons_of_mem _ ha))
theorem Lsts.get : ∀ {as : List Addr} {xss : List (List V)} {i : Nat} {a : Addr}, Lsts H as xss → as[i]? = some a → ∃ xs, xss[i]? = some xs ∧ H a = some (.lst xs)
  | _, _, _, _, .nil, h => by simp at h
  | _, _, 0, _, .cons h _, e => by
    simp at e
    subst e
    exact ⟨_, rfl, h⟩
  | _, _, i + 1, _, .cons _ t, e => by
    obtain ⟨xs, h1, h2⟩ := t.get (i := i) (by simpa using e)
    exact ⟨xs, by simpa using h1, h2⟩
theorem Lsts.app : ∀ {as bs : List Addr} {xss yss : List (List V)}, Lsts H as xss → Lsts H bs yss → Lsts H (as ++ bs) (xss ++ yss)
  | _, _, _, _, .nil, s => s
  | _, _, _, _, .cons h t, s => .cons h (t.app s)
theorem Lsts.snoc {as : List Addr} {xss : List (List V)} {x : List V} (h : Lsts H as (xss ++ [x])) : ∃ bs a, as = bs ++ [a] ∧ Lsts H bs xss ∧ H a = some (.lst x) := by
  induction xss generalizing as with
  | nil =>
    cases h with
    | cons h t =>
      cases t
      exact ⟨[], _, rfl, .nil, h⟩
  | cons y yss ih =>
    cases h with
    | cons h t =>
      obtain ⟨bs, a, rfl, h1, h2⟩ := ih t
      exact ⟨_ :: bs, a, rfl, .cons h h1, h2⟩
theorem Lsts.set : ∀ {as : List Addr} {xss : List (List V)} {a : Addr} {xs : List V} (i : Nat), Lsts H as xss → H a = some (.lst xs) → Lsts H (as.set i a) (xss.set i xs)
  | _, _, _, _, _, .nil, _ => .nil
  | _, _, _, _, 0, .cons h t, e => .cons e t
  | _, _, _, _, i + 1, .cons h t, e => .cons h (t.set i e)
theorem Lsts.take : ∀ {as : List Addr} {xss : List (List V)} (n : Nat), Lsts H as xss → Lsts H (as.take n) (xss.take n)
  | _, _, 0, _ => .nil
  | _, _, _ + 1, .nil => .nil
  | _, _, n + 1, .cons h t => .cons h (t.take n)
theorem Lsts.drop : ∀ {as : List Addr} {xss : List (List V)} (n : Nat), Lsts H as xss → Lsts H (as.drop n) (xss.drop n)
  | _, _, 0, h => h
  | _, _, _ + 1, .nil => .nil
  | _, _, n + 1, .cons _ t => t.drop n
theorem Lsts.dp {K : Fg} {α : Type} {f : α → List V} {d : α → List PyData} (hd : ∀ x, DpAll K H (f x) (d x)) : ∀ {as : List Addr} {l : List α}, Lsts H as (l.map f) → DpAll K H (as.map V.ref) (l.map fun x => .list (d x))
  | _, [], .nil => .nil
  | _, _ :: _, .cons h t => .cons (.lst (SqL.of h) (hd _)) (Lsts.dp hd t)
end
structure CA where
  c : Addr
  fr : Addr
  jo : Addr
  fs : List Addr
  js : List Addr
def CA.own (D : CA) : List Addr := D.c :: D.fr :: D.jo :: (D.fs ++ D.js)
def coreF (p fr jo : Addr) (lim : Int) : List (Str × V) := [("plan", .ref p), ("frames", .ref fr), ("limit", .int lim), ("jobs", .ref jo)]
theorem coF_plan {p fr jo : Addr} {lim : Int} : (coreF p fr jo lim).lookup ("plan" : Str) = some (.ref p) := by kernel_rfl
theorem coF_fr {p fr jo : Addr} {lim : Int} : (coreF p fr jo lim).lookup ("frames" : Str) = some (.ref fr) := by kernel_rfl
theorem coF_lim {p fr jo : Addr} {lim : Int} : (coreF p fr jo lim).lookup ("limit" : Str) = some (.int lim) := by kernel_rfl
theorem coF_jo {p fr jo : Addr} {lim : Int} : (coreF p fr jo lim).lookup ("jobs" : Str) = some (.ref jo) := by kernel_rfl
structure CoreAt (K : Fg) (H : Hp) (p : Addr) (D : CA) (C : Cr) : Prop where
  nd : D.own.Nodup
  ins : ∃ dx, H D.c = some (.ins (ga K "Core") dx (coreF p D.fr D.jo C.limit))
  fr : H D.fr = some (.lst (D.fs.map V.ref))
  jo : H D.jo = some (.lst (D.js.map V.ref))
  fs : Lsts H D.fs (C.frames.map frV)
  js : Lsts H D.js (C.jobs.map jbV)
section
variable {K : Fg} {H H' : Hp} {p : Addr} {D : CA} {C : Cr}
theorem CoreAt.keep (h : CoreAt K H p D C) {A : List Addr} (f : Fr A H H') (n : ∀ a ∈ D.own, a ∉ A) : CoreAt K H' p D C := by
  obtain ⟨dx, e⟩ := h.ins
  refine ⟨h.nd, ⟨dx, f.at e (n _ (by simp [CA.own]))⟩, f.at h.fr (n _ (by simp [CA.own])), f.at h.jo (n _ (by simp [CA.own])), h.fs.keep f fun a ha => n a (by simp [CA.own, ha]), h.js.keep f fun a ha => n a (by simp [CA.own, ha])⟩
theorem CoreAt.same (h : CoreAt K H p D C) (s : Same H H') : CoreAt K H' p D C := h.keep (A := []) s.fr (by simp)
structure CA.Sep (D : CA) : Prop where
  cfr : D.c ≠ D.fr
  cjo : D.c ≠ D.jo
  frjo : D.fr ≠ D.jo
  cfs : D.c ∉ D.fs
  cjs : D.c ∉ D.js
  frfs : D.fr ∉ D.fs
  frjs : D.fr ∉ D.js
  jofs : D.jo ∉ D.fs
  jojs : D.jo ∉ D.js
  fsn : D.fs.Nodup
  jsn : D.js.Nodup
  fj : ∀ a ∈ D.fs, a ∉ D.js
theorem CA.Sep.own {D : CA} (h : D.Sep) : D.own.Nodup := by
  simp only [CA.own, List.nodup_cons, List.mem_cons, List.mem_append, not_or]
  exact ⟨⟨h.cfr, h.cjo, h.cfs, h.cjs⟩, ⟨h.frjo, h.frfs, h.frjs⟩, ⟨h.jofs, h.jojs⟩, List.nodup_append.mpr ⟨h.fsn, h.jsn, fun a ha b hb e => h.fj a ha (by rw [e]; exact hb)⟩⟩
end
def EvAt (K : Fg) (H : Hp) (l : Addr) (es : List Ev) : Prop := ∃ xs, H l = some (.lst xs) ∧ DpAll K H xs (es.map dEv)
theorem tupd_dEv (e : Ev) : tupd (dEv e) = true := rfl
theorem EvAt.keep {K : Fg} {H H' : Hp} {l : Addr} {es : List Ev} {A : List Addr} (h : EvAt K H l es) (f : Fr A H H') (n : l ∉ A) : EvAt K H' l es := by
  obtain ⟨xs, h1, h2⟩ := h
  exact ⟨xs, f.at h1 n, h2.tk f.tk (tupds_map tupd_dEv _)⟩
end Z
set_option maxHeartbeats 1000000
namespace Z
open PySem PySem.Spec PyProof.Rows L2
open He (ga ma)
structure JOk (P : Pl) (jobs : List (Str × Nat)) : Prop where
  sub : ∀ j ∈ jobs, j.1 ∈ P.wnames
  pw : jobs.Pairwise fun a b => a.1 = b.1 → a.2 ≠ 0 ∧ b.2 = 0
theorem JOk.nil {P : Pl} : JOk P [] := ⟨by simp, .nil⟩
theorem pw_half {jobs : List (Str × Nat)} (h : jobs.Pairwise fun a b => a.1 = b.1 → a.2 ≠ 0 ∧ b.2 = 0) (p : Str × Nat → Bool) (hp : ∀ a b, p a = true → p b = true → ¬ (a.2 ≠ 0 ∧ b.2 = 0)) : ((jobs.filter p).map (·.1)).Nodup := by
  refine List.Pairwise.map (R := fun a b => p a = true ∧ p b = true ∧ (a.1 = b.1 → a.2 ≠ 0 ∧ b.2 = 0)) _ (fun a b hab e => hp a b hab.1 hab.2.1 (hab.2.2 e)) ?_
  have h1 := List.Pairwise.filter p h
  have h2 : ∀ a ∈ jobs.filter p, p a = true := fun a ha => (List.mem_filter.mp ha).2
  clear h
  generalize jobs.filter p = l at h1 h2
  induction h1 with
  | nil => exact .nil
  | cons hx ht ih =>
    refine .cons (fun b hb => ⟨h2 _ (by simp), h2 b (List.mem_cons_of_mem _ hb), hx b hb⟩) (ih fun a ha => h2 a (List.mem_cons_of_mem _ ha))
theorem JOk.len {P : Pl} (ok : P.Ok) {jobs : List (Str × Nat)} (h : JOk P jobs) : jobs.length ≤ 16 := by
  have w8 : P.wnames.length ≤ 8 := by unfold Pl.wnames; rw [List.length_map]; exact ok.w8
  have k1 : Sub ((jobs.filter fun a => decide (a.2 = 0)).map (·.1)) P.wnames := ⟨pw_half h.pw _ fun a b ha hb => by simp at ha; simp [ha], fun x hx => by
    obtain ⟨j, hj, rfl⟩ := List.mem_map.mp hx
    exact h.sub j (List.mem_filter.mp hj).1⟩
  have k2 : Sub ((jobs.filter fun a => !decide (a.2 = 0)).map (·.1)) P.wnames := ⟨pw_half h.pw _ fun a b ha hb => by simp at hb; simp [hb], fun x hx => by
    obtain ⟨j, hj, rfl⟩ := List.mem_map.mp hx
    exact h.sub j (List.mem_filter.mp hj).1⟩
  have l1 := k1.len
  have l2 := k2.len
  rw [List.length_map] at l1 l2
  have e : jobs.length = (jobs.filter fun a => decide (a.2 = 0)).length + (jobs.filter fun a => !decide (a.2 = 0)).length := by
    have e2 := List.length_eq_countP_add_countP (p := fun a : Str × Nat => decide (a.2 = 0)) (l := jobs)
    rw [← List.countP_eq_length_filter, ← List.countP_eq_length_filter]
    have e3 : (fun a : Str × Nat => decide (¬ (decide (a.2 = 0)) = true)) = fun a => !decide (a.2 = 0) := by
      funext a
      simp
    rw [e3] at e2
    exact e2
  omega
def Stands (P : Pl) (f : Frm) : Prop := ∃ s, (P.ln f.ln).st[f.st]? = some s ∧ (s.1 = "run" ∨ s.1 = "await")
structure FOk (P : Pl) (fs : List Frm) (B : Bd) : Prop where
  nm : ∀ f ∈ fs, f.ln ∈ P.names
  tk : ∀ f ∈ fs, f.ln ∈ B.taken
  nd : (fs.map (·.ln)).Nodup
  st : ∀ f ∈ fs, Stands P f
theorem FOk.len {P : Pl} (ok : P.Ok) {fs : List Frm} {B : Bd} (h : FOk P fs B) : fs.length ≤ 12 := by
  have : Sub (fs.map (·.ln)) P.names := ⟨h.nd, fun x hx => by
    obtain ⟨f, hf, rfl⟩ := List.mem_map.mp hx
    exact h.nm f hf⟩
  have := this.len12 ok
  rwa [List.length_map] at this
structure CSt (K : Fg) (H : Hp) (PD : PA) (P : Pl) (D : CA) (C : Cr) (E : BA) (B : Bd) : Prop where
  pl : PlanAt K H PD P
  co : CoreAt K H PD.p D C
  bd : BoardAt K H PD.p E B
  pd : ∀ a ∈ PD.own, a ∉ D.own ∧ a ∉ E.own
  de : ∀ a ∈ D.own, a ∉ E.own
  bok : B.Ok P
  jok : JOk P C.jobs
structure Chg (H : Hp) (D : CA) (E : BA) (H' : Hp) (D' : CA) : Prop where
  fr : Fr (D.own ++ E.own) H H'
  c : D'.c = D.c
  own : ∀ a ∈ D'.own, a ∈ D.own ∨ H a = none
theorem Chg.refl {H : Hp} {D : CA} {E : BA} : Chg H D E H D := ⟨Fr.refl, rfl, fun _ h => .inl h⟩
theorem Chg.trans {H H1 H2 : Hp} {D D1 D2 : CA} {E : BA} (x : Chg H D E H1 D1) (y : Chg H1 D1 E H2 D2) : Chg H D E H2 D2 := by
  refine ⟨⟨fun a o h n => ?_, fun a h => x.fr.back (y.fr.back h)⟩, y.c.trans x.c, fun a ha => ?_⟩
  · refine y.fr.1 a o (x.fr.1 a o h n) ?_
    rcases n with n | n
    · refine .inl fun z => n ?_
      rcases List.mem_append.mp z with z | z
      · rcases x.own a z with z | z
        · exact List.mem_append_left _ z
        · rw [h] at z
          cases z
      · exact List.mem_append_right _ z
    · exact .inr n
  · rcases y.own a ha with h | h
    · exact x.own a h
    · exact .inr (x.fr.back h)
theorem PlanAt.ex {K : Fg} {H : Hp} {D : PA} {P : Pl} (h : PlanAt K H D P) : ∀ a ∈ D.own, H a ≠ none := by
  obtain ⟨_, _, _, h1, _⟩ := h.ins
  obtain ⟨_, h2, _⟩ := h.rows.at_
  obtain ⟨_, h3, _⟩ := h.works.at_
  simp [PA.own, h1, h2, h3]
theorem BoardAt.ex {K : Fg} {H : Hp} {p : Addr} {D : BA} {B : Bd} (h : BoardAt K H p D B) : ∀ a ∈ D.own, H a ≠ none := by
  obtain ⟨_, h1⟩ := h.ins
  simp [BA.own, h1, h.sh, h.wa, h.hi, h.ta, h.ra, h.jo]
theorem Lsts.ex {H : Hp} : ∀ {as : List Addr} {xss : List (List V)}, Lsts H as xss → ∀ a ∈ as, H a ≠ none
  | _, _, .nil, _, h => by simp at h
  | _, _, .cons e t, a, h => by
    rcases List.mem_cons.mp h with rfl | h
    · simp [e]
    · exact t.ex a h
theorem CoreAt.ex {K : Fg} {H : Hp} {p : Addr} {D : CA} {C : Cr} (h : CoreAt K H p D C) : ∀ a ∈ D.own, H a ≠ none := by
  obtain ⟨_, h1⟩ := h.ins
  intro a ha
  simp only [CA.own, List.mem_cons, List.mem_append] at ha
  rcases ha with rfl | rfl | rfl | ha | ha
  · simp [h1]
  · simp [h.fr]
  · simp [h.jo]
  · exact h.fs.ex a ha
  · exact h.js.ex a ha
section
variable {K : Fg} {H H' : Hp} {PD : PA} {P : Pl} {D D' : CA} {C C' : Cr} {E : BA} {B B' : Bd}
theorem CSt.same (h : CSt K H PD P D C E B) (s : Same H H') : CSt K H' PD P D C E B := ⟨h.pl.same s, h.co.same s, h.bd.same s, h.pd, h.de, h.bok, h.jok⟩
theorem Chg.same (s : Same H H') : Chg H D E H' D := ⟨s.fr, rfl, fun _ h => .inl h⟩
end
end Z
set_option maxHeartbeats 1000000
namespace Z
open PySem PySem.Spec PyProof.Rows L2
open He (ga ma)
theorem StepIs.carry {P : Pl} {s : Str × Key} (h : StepIs P s) (h1 : s.1 ≠ "run") (h2 : s.1 ≠ "bar") (h3 : s.1 ≠ "later") (h4 : s.1 ≠ "await") : CarryIs P s := by
  cases h with
  | run i _ _ => exact absurd rfl h1
  | bar i _ _ => exact absurd rfl h2
  | later z _ => exact absurd rfl h3
  | flag w i hm h0 h7 =>
    refine .inr ⟨?_, i, rfl, h0, h7⟩
    simp only [List.mem_cons, List.not_mem_nil, or_false] at hm ⊢
    rcases hm with rfl | rfl | rfl
    · exact .inl rfl
    · exact .inr rfl
    · exact absurd rfl h4
  | line w z hm hz _ => exact .inl ⟨hm, z, rfl, hz⟩
structure PassOk (P : Pl) (r : Cr × Bd × List Ev) : Prop where
  bok : r.2.1.Ok P
  jok : JOk P r.1.jobs
  fok : FOk P r.1.frames r.2.1
theorem FOk.taken {P : Pl} {fs : List Frm} {B B' : Bd} (h : FOk P fs B) (e : B'.taken = B.taken) : FOk P fs B' := ⟨h.nm, fun f hf => by rw [e]; exact h.tk f hf, h.nd, h.st⟩
theorem FOk.snoc {P : Pl} {fs : List Frm} {f : Frm} {B : Bd} (h : FOk P fs B) (h1 : f.ln ∈ P.names) (h2 : f.ln ∈ B.taken) (h3 : f.ln ∉ fs.map (·.ln)) (h4 : Stands P f) : FOk P (fs ++ [f]) B := by
  refine ⟨fun g hg => ?_, fun g hg => ?_, ?_, fun g hg => ?_⟩
  · rcases List.mem_append.mp hg with hg | hg
    · exact h.nm g hg
    · rw [List.mem_singleton.mp hg]; exact h1
  · rcases List.mem_append.mp hg with hg | hg
    · exact h.tk g hg
    · rw [List.mem_singleton.mp hg]; exact h2
  · rw [List.map_append, List.nodup_append]
    refine ⟨h.nd, by simp, fun a ha b hb e => ?_⟩
    rw [List.map_singleton, List.mem_singleton] at hb
    subst hb
    subst e
    exact h3 ha
  · rcases List.mem_append.mp hg with hg | hg
    · exact h.st g hg
    · rw [List.mem_singleton.mp hg]; exact h4
theorem FOk.init {P : Pl} {fs : List Frm} {f : Frm} {B : Bd} (h : FOk P (fs ++ [f]) B) : FOk P fs B ∧ f.ln ∈ P.names ∧ f.ln ∈ B.taken ∧ f.ln ∉ fs.map (·.ln) ∧ Stands P f := by
  have hn := h.nd
  rw [List.map_append, List.nodup_append] at hn
  refine ⟨⟨fun g hg => h.nm g (List.mem_append_left _ hg), fun g hg => h.tk g (List.mem_append_left _ hg), hn.1, fun g hg => h.st g (List.mem_append_left _ hg)⟩, h.nm f (by simp), h.tk f (by simp), fun hm => ?_, h.st f (by simp)⟩
  exact hn.2.2 _ hm f.ln (by simp) rfl
def left1 (P : Pl) (f : Frm) : Nat := (P.ln f.ln).st.length - f.st + 1
def left (P : Pl) (fs : List Frm) : Nat := (fs.map (left1 P)).sum
def passing (P : Pl) (B : Bd) (f : Frm) : Bool := match (P.ln f.ln).st[f.st]? with
  | some s => decide (s.1 = ("await" : Str)) && decide (kI s.2 ∈ B.raised)
  | none => false
end Z
set_option maxHeartbeats 1000000
namespace Z
open PySem PySem.Spec PyProof.Rows L2
open He (ga ma)
section
variable {K : Fg} {H H' : Hp} {a p : Addr} {o : HO} {xs : List V} {v : V} {d : PyData} {ds : List PyData}
theorem at_same (s : Same H H') (h : H a = some o) : H' a = some o := s a o h
theorem sqT_same (s : Same H H') (h : SqT K H a xs) : SqT K H' a xs := s.sqT h
theorem sqL_same (s : Same H H') (h : SqL K H a xs) : SqL K H' a xs := s.seq h
theorem dp_same (s : Same H H') (h : Dp K H v d) : Dp K H' v d := h.same s
theorem dpA_same (s : Same H H') (h : DpAll K H xs ds) : DpAll K H' xs ds := h.same s
theorem pl_same {D : PA} {P : Pl} (s : Same H H') (h : PlanAt K H D P) : PlanAt K H' D P := h.same s
theorem bd_same {D : BA} {B : Bd} (s : Same H H') (h : BoardAt K H p D B) : BoardAt K H' p D B := h.same s
theorem co_same {D : CA} {C : Cr} (s : Same H H') (h : CoreAt K H p D C) : CoreAt K H' p D C := h.same s
theorem cst_same {PD : PA} {P : Pl} {D : CA} {C : Cr} {E : BA} {B : Bd} (s : Same H H') (h : CSt K H PD P D C E B) : CSt K H' PD P D C E B := h.same s
theorem ev_same {l : Addr} {es : List Ev} (s : Same H H') (h : EvAt K H l es) : EvAt K H' l es := h.keep (A := []) s.fr (by simp)
end
theorem at0 {a : V} {r : List V} : atI (a :: r) 0 = some a := at_of (j := 0) rfl rfl
theorem at1 {a b : V} {r : List V} : atI (a :: b :: r) 1 = some b := at_of (j := 1) rfl rfl
theorem at2 {a b c : V} {r : List V} : atI (a :: b :: c :: r) 2 = some c := at_of (j := 2) rfl rfl
theorem at3 {a b c d : V} {r : List V} : atI (a :: b :: c :: d :: r) 3 = some d := at_of (j := 3) rfl rfl
theorem at4 {a b c d e : V} {r : List V} : atI (a :: b :: c :: d :: e :: r) 4 = some e := at_of (j := 4) rfl rfl
end Z
set_option maxHeartbeats 1000000
namespace Z
open PySem PySem.Spec PyProof.Rows L2
open He (ga ma)
structure COk (P : Pl) (C : Cr) (B : Bd) : Prop where
  bok : B.Ok P
  jok : JOk P C.jobs
  fok : FOk P C.frames B
theorem PassOk.cok {P : Pl} {r : Cr × Bd × List Ev} (h : PassOk P r) : COk P r.1 r.2.1 := ⟨h.bok, h.jok, h.fok⟩
theorem FOk.inj {P : Pl} {fs : List Frm} {f g : Frm} {B : Bd} (h : FOk P (fs ++ [f]) B) (e : g.ln = f.ln) (hs : Stands P g) : FOk P (fs ++ [g]) B := by
  obtain ⟨h1, h2, h3, h4, h5⟩ := h.init
  exact h1.snoc (by rw [e]; exact h2) (by rw [e]; exact h3) (by rw [e]; exact h4) hs
theorem left_le {P : Pl} (ok : P.Ok) {fs : List Frm} (h : ∀ f ∈ fs, f.ln ∈ P.names) : left P fs ≤ 9 * fs.length := by
  unfold left
  induction fs with
  | nil => exact Nat.le_refl _
  | cons f fs ih =>
    have h1 := ok.steps8 (ok.ln_mem (h f (by simp))).1
    have h2 := ih fun g hg => h g (List.mem_cons_of_mem _ hg)
    rw [List.map_cons, List.sum_cons, List.length_cons]
    have : left1 P f ≤ 9 := by unfold left1; omega
    omega
section
variable {K : Fg} {σ : L2.St} {H H1 : Hp} {Q : VK} {g : TG} {tt : TT} {te : TE} {vs : List Nat} {a : Addr} {xs : List V} {α : Type} {l : List α} {da : α → PyData}
def LcE (K : Fg) (g : TG) (tt : TT) (te : TE) (vs : List Nat) (σ : L2.St) (Q : VK) (us : List V) (H1 : Hp) : Prop := ∃ a xs, us = [.ref a] ∧ SqL K H1 a xs ∧ LcQ (Ite K a) g tt te vs σ Q H1
theorem s_lcE {ta : TA} (q : ta σ H fun us H1 => LcE K g tt te vs σ Q us H1) : tLc (iEnum K ta) g tt te vs σ H Q := q
end
section
variable {K : Fg} {σ : L2.St} {H : Hp} {Q : VK} {a : Addr} {xs : List V}
theorem s_sl {r : V → Option Int → Option Int → Hp → VK → Prop} {te : TE} {tl th : TO} (q : te σ H fun x H1 => tl σ H1 fun l H2 => th σ H2 fun u H3 => r x l u H3 Q) : L2.tSl r te tl th σ H Q := q
theorem s_nop {R : Option Int → Hp → Prop} (q : R none H) : tNoPart σ H R := q
theorem s_part {R : Option Int → Hp → Prop} {t : TE} (q : t σ H fun x H1 => ∃ i, x = .int i ∧ R (some i) H1) : tPart t σ H R := q
theorem s_slL {lo hi : Option Int} (h : SqL K H a xs) (q : ∀ p, H p = none → Q (.ref p) (upd H p (.lst (cutV xs lo hi)))) : rSlL K (.ref a) lo hi H Q := ⟨a, xs, rfl, h, q⟩
theorem cut_take (xs : List V) (k : Nat) : cutV xs none (some (k : Int)) = xs.take k := by
  unfold cutV
  rw [HT.sIx_none, HT.sIx_nat, List.drop_zero, Nat.sub_zero]
  by_cases h : k ≤ xs.length
  · rw [Nat.min_eq_left h]
  · rw [Nat.min_eq_right (by omega), List.take_of_length_le (by omega), List.take_of_length_le (by omega)]
theorem cut_drop (xs : List V) (k : Nat) : cutV xs (some (k : Int)) none = xs.drop k := by
  unfold cutV
  rw [HT.sIx_none, HT.sIx_nat]
  by_cases h : k ≤ xs.length
  · rw [Nat.min_eq_left h, List.take_of_length_le (by rw [List.length_drop]; omega)]
  · rw [Nat.min_eq_right (by omega), List.drop_of_length_le (by omega), List.drop_of_length_le (by omega), List.take_nil]
end
theorem ixN_n {n j : Nat} (hj : j < n) : ixN n (j : Int) = some j := by
  unfold ixN
  rw [if_pos (by omega), if_pos (by omega)]
  rfl
end Z
set_option maxHeartbeats 1000000
namespace Z
open PySem PySem.Spec PyProof.Rows L2
open He (ga ma)
theorem while_e {c : TT} {tb : TS} {D : Ends} {σ : L2.St} {H : Hp} (Ex : L2.St → Hp → Prop) (hx : ∀ σ H, Ex σ H → D.nx σ H) (h : (∀ σ H, Ex σ H → D.nx σ H) → tWhile c tb D σ H) : tWhile c tb D σ H := h hx
theorem EvAt.ne {K : Fg} {H : Hp} {l : Addr} {es : List Ev} (h : EvAt K H l es) : H l ≠ none := by
  obtain ⟨xs, e, _⟩ := h
  rw [e]
  simp
theorem EvAt.len {K : Fg} {H : Hp} {l : Addr} {es : List Ev} (h : EvAt K H l es) : ∃ xs, H l = some (.lst xs) ∧ xs.length = es.length ∧ DpAll K H xs (es.map dEv) := by
  obtain ⟨xs, e, d⟩ := h
  exact ⟨xs, e, by rw [d.len, List.length_map], d⟩
theorem COk.len {P : Pl} (ok : P.Ok) {C : Cr} {B : Bd} (h : COk P C B) : left P C.frames ≤ 108 := by
  have h1 := left_le ok h.fok.nm
  have h2 := h.fok.len ok
  omega
end Z
set_option maxHeartbeats 1000000
namespace Z
open PySem PySem.Spec PyProof.Rows L2
open He (ga ma)
structure Sg where
  B : Bd
  C : Cr
  time : Int
  sums : List (Str × Int)
def sumKeys : List Str := ["call", "spun", "work", "idle"]
def Sg.start (P : Pl) : Sg := ⟨⟨[], [], [], [], [], P.order.map fun z => (z, 0)⟩, ⟨[], 0, []⟩, 0, sumKeys.map fun k => (k, 0)⟩
def Sg.ring (P : Pl) (G : Sg) (z : Str) : Sg := { G with B := (G.B.ring P z).1 }
structure SA where
  s : Addr
  su : Addr
  PD : PA
  D : CA
  E : BA
def SA.own (A : SA) : List Addr := A.s :: A.su :: (A.D.own ++ A.E.own)
def singF (A : SA) (time : Int) : List (Str × V) := [("plan", .ref A.PD.p), ("board", .ref A.E.b), ("core", .ref A.D.c), ("time", .int time), ("sums", .ref A.su)]
theorem sgF_plan {A : SA} {t : Int} : (singF A t).lookup ("plan" : Str) = some (.ref A.PD.p) := by kernel_rfl
theorem sgF_board {A : SA} {t : Int} : (singF A t).lookup ("board" : Str) = some (.ref A.E.b) := by kernel_rfl
theorem sgF_core {A : SA} {t : Int} : (singF A t).lookup ("core" : Str) = some (.ref A.D.c) := by kernel_rfl
theorem sgF_time {A : SA} {t : Int} : (singF A t).lookup ("time" : Str) = some (.int t) := by kernel_rfl
theorem sgF_sums {A : SA} {t : Int} : (singF A t).lookup ("sums" : Str) = some (.ref A.su) := by kernel_rfl
structure SgAt (K : Fg) (H : Hp) (A : SA) (P : Pl) (G : Sg) : Prop where
  cst : CSt K H A.PD P A.D G.C A.E G.B
  fok : FOk P G.C.frames G.B
  ins : ∃ dx, H A.s = some (.ins (ga K "Single") dx (singF A G.time))
  su : H A.su = some (.dK (joinK G.sums))
  sk : G.sums.map (·.1) = sumKeys
  ssu : A.s ≠ A.su
  sn : A.s ∉ A.PD.own ∧ A.s ∉ A.D.own ∧ A.s ∉ A.E.own
  sun : A.su ∉ A.PD.own ∧ A.su ∉ A.D.own ∧ A.su ∉ A.E.own
structure ChS (H : Hp) (A : SA) (H' : Hp) (A' : SA) : Prop where
  fr : Fr A.own H H'
  s : A'.s = A.s
  su : A'.su = A.su
  PD : A'.PD = A.PD
  E : A'.E = A.E
  c : A'.D.c = A.D.c
  own : ∀ a ∈ A'.own, a ∈ A.own ∨ H a = none
theorem ChS.refl {H : Hp} {A : SA} : ChS H A H A := ⟨Fr.refl, rfl, rfl, rfl, rfl, rfl, fun _ h => .inl h⟩
theorem ChS.same {H H' : Hp} {A : SA} (s : Same H H') : ChS H A H' A := ⟨s.fr, rfl, rfl, rfl, rfl, rfl, fun _ h => .inl h⟩
theorem Fr.seq {M N : List Addr} {H H1 H2 : Hp} (x : Fr M H H1) (y : Fr N H1 H2) (h : ∀ a ∈ N, a ∈ M ∨ H a = none) : Fr M H H2 := by
  refine ⟨fun a o e n => y.1 a o (x.1 a o e n) ?_, fun a e => x.back (y.back e)⟩
  rcases n with n | n
  · refine .inl fun z => ?_
    rcases h a z with z | z
    · exact n z
    · rw [e] at z
      cases z
  · exact .inr n
theorem ChS.trans {H H1 H2 : Hp} {A A1 A2 : SA} (x : ChS H A H1 A1) (y : ChS H1 A1 H2 A2) : ChS H A H2 A2 := by
  refine ⟨x.fr.seq y.fr x.own, y.s.trans x.s, y.su.trans x.su, y.PD.trans x.PD, y.E.trans x.E, y.c.trans x.c, fun a ha => ?_⟩
  rcases y.own a ha with h | h
  · exact x.own a h
  · exact .inr (x.fr.back h)
section
variable {K : Fg} {H H' : Hp} {A : SA} {P : Pl} {G : Sg}
theorem SgAt.keep (h : SgAt K H A P G) {N : List Addr} (f : Fr N H H') (n : ∀ a ∈ A.own, a ∉ N) (n2 : ∀ a ∈ A.PD.own, a ∉ N) : SgAt K H' A P G := by
  obtain ⟨dx, e⟩ := h.ins
  have hD : ∀ a ∈ A.D.own, a ∉ N := fun a ha => n a (by simp [SA.own, ha])
  have hE : ∀ a ∈ A.E.own, a ∉ N := fun a ha => n a (by simp [SA.own, ha])
  exact ⟨⟨h.cst.pl.keep f n2, h.cst.co.keep f hD, h.cst.bd.keep f hE, h.cst.pd, h.cst.de, h.cst.bok, h.cst.jok⟩, h.fok, ⟨dx, f.at e (n _ (by simp [SA.own]))⟩, f.at h.su (n _ (by simp [SA.own])), h.sk, h.ssu, h.sn, h.sun⟩
theorem SgAt.same (h : SgAt K H A P G) (s : Same H H') : SgAt K H' A P G := h.keep (N := []) s.fr (by simp) (by simp)
theorem SgAt.ex (h : SgAt K H A P G) : ∀ a ∈ A.own, H a ≠ none := by
  obtain ⟨dx, e⟩ := h.ins
  intro a ha
  simp only [SA.own, List.mem_cons, List.mem_append] at ha
  rcases ha with rfl | rfl | ha | ha
  · simp [e]
  · simp [h.su]
  · exact h.cst.co.ex a ha
  · exact h.cst.bd.ex a ha
theorem sg_same (s : Same H H') (h : SgAt K H A P G) : SgAt K H' A P G := h.same s
end
theorem s_make {C : Addr} {sp : Sp} {dvs : List V} {E : XK} {t : TA} {σ : L2.St} {H : Hp} {Q : VK} (q : t σ H fun vs H1 => ∀ x dx, H1 x = none → H1 dx = none → dx ≠ x →
  sp (.ref x :: (vs ++ dvs)) (upd (upd H1 dx (.own x)) x (.ins C dx [])) (fun v H2 => v = .non ∧ Q (.ref x) H2) E) : tMake C sp dvs E t σ H Q := q
theorem mkS {H H2 : Hp} {x dx : Addr} {o u : HO} (hx : H x = none) (hd : H dx = none) (e : upd (upd H dx o) x u = H2) : Same H H2 := by
  subst e
  intro a v h
  rw [upd_ne (ne_of_none h hx), upd_ne (ne_of_none h hd)]
  exact h
theorem mkE {H H2 : Hp} {x dx : Addr} {o u : HO} (e : upd (upd H dx o) x u = H2) : H2 x = some u := by
  subst e
  exact upd_same
end Z
set_option maxHeartbeats 1000000
namespace Z
open PySem PySem.Spec PyProof.Rows L2
open He (ga ma)
def dJob (j : Str × Nat) : PyData := .tuple [.str j.1, .int j.2]
theorem Fr.sqL {K : Fg} {N : List Addr} {H H' : Hp} {a : Addr} {xs : List V} (f : Fr N H H') (h : SqL K H a xs) (n : a ∉ N) : SqL K H' a xs := by
  rcases h with (h | ⟨o, h⟩) | h
  · exact .inl (.inl (f.at h n))
  · exact .inl (.inr ⟨o, f.at h n⟩)
  · exact .inr h
theorem Fr.scr {K : Fg} {H H' : Hp} {r a : Addr} {xs : List V} (f : Fr [r] H H') (h : SqL K H a xs) (n : a ≠ r ∨ ∀ H, SqL K H a xs) : SqL K H' a xs := n.elim (fun n => f.sqL h (by simp [n])) fun z => z H'
structure RowAt (K : Fg) (H : Hp) (r sc : Addr) (ns : List Int) : Prop where
  row : ∃ i seed rest : Int, H r = some (.lst [.ref sc, .int i, .int seed, .int rest]) ∧ 0 ≤ i ∧ 0 ≤ seed ∧ seed < 2147483647
  scr : SqL K H sc (ns.map V.int)
  ne : sc ≠ r ∨ ∀ H, SqL K H sc (ns.map V.int)
theorem RowAt.keep {K : Fg} {H H' : Hp} {r sc : Addr} {ns : List Int} {N : List Addr} (h : RowAt K H r sc ns) (f : Fr N H H') (n1 : r ∉ N) (n2 : sc ∉ N ∨ ∀ H, SqL K H sc (ns.map V.int)) : RowAt K H' r sc ns := by
  obtain ⟨i, seed, rest, e, h1⟩ := h.row
  exact ⟨⟨i, seed, rest, f.at e n1, h1⟩, n2.elim (f.sqL h.scr) fun z => z H', h.ne⟩
theorem RowAt.same {K : Fg} {H H' : Hp} {r sc : Addr} {ns : List Int} (h : RowAt K H r sc ns) (s : Same H H') : RowAt K H' r sc ns := h.keep (N := []) s.fr (by simp) (.inl (by simp))
theorem RowAt.ex {K : Fg} {H : Hp} {r sc : Addr} {ns : List Int} (h : RowAt K H r sc ns) : H r ≠ none := by
  obtain ⟨i, seed, rest, e, _⟩ := h.row
  rw [e]
  simp
theorem row_same {K : Fg} {H H' : Hp} {r sc : Addr} {ns : List Int} (s : Same H H') (h : RowAt K H r sc ns) : RowAt K H' r sc ns := h.same s
end Z
set_option maxHeartbeats 1000000
namespace Z
open PySem PySem.Spec PyProof.Rows L2
open He (ga ma)
def plainW : HO → Bool
  | .tbl _ => false
  | .ext _ => false
  | _ => true
def NoW (H : Hp) (a : Addr) : Prop := ∀ o, H a = some o → plainW o = true
theorem NoW.of {H : Hp} {a : Addr} {o : HO} (h : H a = some o) (k : plainW o = true) : NoW H a := fun o2 h2 => by
  rw [h] at h2
  cases h2
  exact k
theorem NoW.none {H : Hp} {a : Addr} (h : H a = none) : NoW H a := fun o2 h2 => by
  rw [h] at h2
  cases h2
theorem tabs_kW {H H' : Hp} {N : List Addr} {t : Addr} {q : Str} (h : LamX.TabS H t q) (f : Fr N H H') (n : ∀ a ∈ N, NoW H a) : LamX.TabS H' t q := by
  obtain ⟨ps, e, h2, h3⟩ := h
  refine ⟨ps, f.at e fun z => ?_, h2, fun pos cv k => ?_⟩
  · exact absurd (n _ z _ e) (by simp [plainW])
  · obtain ⟨c, e1, e2⟩ := h3 pos cv k
    refine ⟨c, e1, f.at e2 fun z => ?_⟩
    exact absurd (n _ z _ e2) (by simp [plainW, LamX.CodeO])
theorem RowAt.noW {K : Fg} {H : Hp} {r sc : Addr} {ns : List Int} (h : RowAt K H r sc ns) : NoW H r := by
  obtain ⟨_, _, _, e, _⟩ := h.row
  exact NoW.of e rfl
theorem RowAt.tabW {K : Fg} {H H' : Hp} {r sc t : Addr} {ns : List Int} {q : Str} (h : RowAt K H r sc ns) (x : LamX.TabS H t q) (f : Fr [t] H H') : RowAt K H' r sc ns := by
  obtain ⟨ps, e, _⟩ := x
  refine h.keep f (fun z => ?_) ?_
  · have := h.noW _ (by rw [List.mem_singleton.mp z]; exact e)
    simp [plainW] at this
  · rcases h.scr with (k | ⟨o, k⟩) | k
    · exact .inl fun z => by rw [List.mem_singleton.mp z, e] at k; cases k
    · exact .inl fun z => by rw [List.mem_singleton.mp z, e] at k; cases k
    · exact .inr fun _ => .inr k
end Z
set_option maxHeartbeats 1000000
namespace Z
open PySem PySem.Spec PyProof.Rows L2
open LamX (lamCx lamEnv run_ofS CodeO TabB TabS)
def KeptC (d : Lm) (f : Addr) (H : Hp) : Prop := ∃ env, Kept env d f H
theorem KeptC.same {d : Lm} {f : Addr} {H H' : Hp} (h : KeptC d f H) (s : Same H H') : KeptC d f H' := h.elim fun env k => ⟨env, k.same s⟩
theorem KeptC.fr {d : Lm} {f : Addr} {N : List Addr} {H H' : Hp} (h : KeptC d f H) (s : Fr N H H') (n : ∀ a ∈ N, NoE H a) : KeptC d f H' := h.elim fun env k => ⟨env, k.fr s n⟩
end Z
set_option maxHeartbeats 1000000
namespace Z
open PySem PySem.Spec PyProof.Rows L2
end Z
set_option maxHeartbeats 1000000
namespace Z
open PySem PySem.Spec PyProof.Rows L2
open He (ga ma)
def cga (K : Fg) (C : Addr) (m : Str) : Addr := match PySem.W.recIn K (ma K C m) "classmethod" with
  | some (.ref g :: _) => g
  | _ => 0
structure CMZ (K : Fg) (C : Addr) (m : Str) : Prop where
  rd : ClX.CRead K C (.type "type")
  met : ClX.CMet K C (.type "type") m (ma K C m) (cga K C m)
def fCm (x m : Str) (K : Fg) : Bool := PySem.W.readsIn K (ga K x) (.type "type") && decide (PySem.W.specialIn K (.ref (ga K x)) "__getattribute__" = some (some (.builtin "type.__getattribute__"))) &&
  (match PySem.W.findCls K (.ref (ga K x)) (.type "type") m with
  | some (.get (.builtin b) (.ref p) .none (.ref c)) => decide (b = "classmethod.__get__") && decide (p = ma K (ga K x) m) && decide (c = ga K x)
  | _ => false) && (match PySem.W.recIn K (ma K (ga K x) m) "classmethod" with
  | some (.ref _ :: _) => true
  | _ => false) && PySem.W.fnIn K (cga K (ga K x) m)
theorem fCm_ok {K : Fg} {x m : Str} (h : fCm x m K = true) : CMZ K (ga K x) m := by
  unfold fCm at h
  simp only [Bool.and_eq_true, decide_eq_true_eq] at h
  obtain ⟨⟨⟨⟨h1, h2⟩, h3⟩, h4⟩, h5⟩ := h
  refine ⟨⟨h1, h2⟩, ?_, ?_, h5⟩
  · split at h3
    · rename_i b p c e
      simp only [Bool.and_eq_true, decide_eq_true_eq] at h3
      obtain ⟨⟨rfl, rfl⟩, rfl⟩ := h3
      exact e
    · cases h3
  · unfold cga
    split at h4
    · rename_i g r e
      rw [e]
      exact ⟨r, rfl⟩
    · cases h4
section
variable {X : Cx} {k : Nat} {C g : Addr} {sp : Sp} {E : XK} {o e : Expr} {es : List Expr} {m x : Str} {p pos apos : Pos} {ta : TE} {t : TA} {pl : Sem Bool} {ps : List Str} {f : Addr} {i : Nat}
theorem z_cmeth (he : PE X o ta) (z : CMZ X.K C m) (F : FnX X k (cga X.K C m) ps sp) (c : Cal X.K (cga X.K C m) ps []) (hr : Room k X.A) (hx : Passes (L2.CX X.prog X.w) X E) (ha : L2.PA X (e :: es) t)
    (hst : starEach (e :: es) X.env = (false, eval e X.env) :: starEach es X.env := by rfl) (hpl : (backTo pos (starEach es X.env)).any (·.1) = false := by rfl)
    (ht : eval (.Call (.Attribute o m apos) (e :: es) [] pos) X.env = (do
      let ov ← eval o X.env; standAt apos.atName
      let (f, first) ← holding [ov] (getMethod ov m pl); callWith pos f first (backTo pos (starEach (e :: es) X.env)) (backToKw pos (keywordEach [] X.env))) := by rfl) :
    PE X (.Call (.Attribute o m apos) (e :: es) [] pos) (ClX.tCMeth C sp E ta t) := by
  obtain ⟨ds, hb, hd⟩ := c.b
  cases hd
  have G := (F.raw hb .nil).imp (sp' := sp) fun vs H Q E h => by rw [List.append_nil]; exact h
  exact ClX.pe_cmeth he z.rd z.met G hr hx ha hst hpl ht
def tMakeV (i : Nat) (C : Addr) (sp : Sp) (E : XK) (t : TA) : TE := fun σ H Q => σ[i]? = some (some (.ref C)) ∧ tMake C sp [] E t σ H Q
theorem z_makeV (hN : X.N[i]? = some x) (hv : Vis X.env.scope x) (M : Mk X.K C f) (F : FnX X k f ps sp) (c : Cal X.K f ps []) (hr : Room (k + 1) X.A) (hx : Passes (L2.CX X.prog X.w) X E) (ha : L2.PA X (e :: es) t)
    (hd : (x == ("__debug__" : Str)) = false := by decide) (hcd : (x == ("__classdict__" : Str)) = false := by decide)
    (he : starEach (e :: es) X.env = (false, eval e X.env) :: starEach es X.env := by rfl) (hpl : (backTo pos (starEach es X.env)).any (·.1) = false := by rfl) :
    PE X (.Call (.Name x p) (e :: es) [] pos) (tMakeV i C sp E t) := by
  obtain ⟨ds, hb, hds⟩ := c.b
  refine ⟨fun pins s σ H Q I h => ?_⟩
  obtain ⟨hs, q⟩ := h
  refine wpAny_Call_Name_kw (thn ((pe_var (pos := p) (i := i) hN hv hd hcd).run pins s σ H (fun v' H1 => v' = .ref C ∧ H1 = H) I ⟨.ref C, hs, rfl, rfl⟩) fun u s1 ⟨v', H1, I1, r1, q1⟩ => ?_)
  obtain ⟨ev, eH⟩ := q1
  subst ev
  rw [eH] at I1
  obtain rfl : u = Value.ref C := r1
  refine PySem.W.callWith_K (h₀ := X.base) I1.ok.mod.kin M.kp (thn (ha.run pos pins s1 σ H _ I1 q) fun us s2 ⟨vs, H2, I2, r, q2⟩ => ⟨I2.kIn, ?_⟩) he hpl
  exact run_make M F hr hb hds hx I2 r q2
theorem call_strD : CallR X (.type "str") (fun xs H Q => (∃ i, xs = [.int i] ∧ i.natAbs.log2 < 1920 ∧ Q (.str (toString i)) H) ∨ ∃ a, xs = [.str a] ∧ Q (.str a) H) := by
  intro pins s σ H xs us Q I r h
  rcases h with h | h
  · exact call_str_int pins s σ H xs us Q I r h
  · exact SkE.call_str_str pins s σ H xs us Q I r h
end
theorem s_makeV {i : Nat} {C : Addr} {sp : Sp} {E : XK} {t : TA} {σ : L2.St} {H : Hp} {Q : VK} (h : σ[i]? = some (some (.ref C))) (q : tMake C sp [] E t σ H Q) : tMakeV i C sp E t σ H Q := ⟨h, q⟩
theorem s_cmeth {C : Addr} {sp : Sp} {E : XK} {ta : TE} {t : TA} {σ : L2.St} {H : Hp} {Q : VK} (q : ta σ H fun x H1 => x = .ref C ∧ t σ H1 fun vs H2 => sp (.ref C :: vs) H2 Q E) : ClX.tCMeth C sp E ta t σ H Q := q
end Z
set_option maxHeartbeats 1000000
namespace Z
open PySem PySem.Spec PyProof.Rows L2
section
variable {K : Fg} {H : Hp}
theorem s_catW {Q : VK} {a b : Addr} {xs ys : List V} (ha : SqT K H a xs) (hb : SqT K H b ys) (hz : xs.length + ys.length ≤ sizeLine) (q : ∀ c H', Same H H' → SqT K H' c (xs ++ ys) → Q (.ref c) H') : rCatA K (.ref a) (.ref b) H Q := by
  refine ⟨a, b, xs, ys, rfl, rfl, ha, hb, hz, fun e => ?_, fun _ e => ?_, fun _ _ p hp => q p _ (Same.new hp) (SqT.of upd_same)⟩
  · subst e
    exact q b H (Same.refl H) hb
  · subst e
    exact q a H (Same.refl H) (by rw [List.append_nil]; exact ha)
end
end Z
set_option maxHeartbeats 1000000
namespace Z
open PySem PySem.Spec PyProof.Rows L2
abbrev SeenT : Type := Seen × Bool
def tabGood (g : Addr → Option Obj) (tf : List (Fg → Addr)) (K : Fg) : Bool := tf.all fun d =>
  PySem.W.codeHdIn K (codA K (d K)) (tabA K (d K)) && (match g (tabA K (d K)) with
    | none => false
    | some u => He.emptyTab u)
def seeE (as : List Addr) (fa : List (Fg → Bool)) (fn : List DefZ) (tf : List (Fg → Addr)) (g : Addr → Option Obj) : SeenT :=
  (lookZ fa fn (He.frT g as), tabGood g tf (He.frT g as))
structure TabIn (K : Fg) (h : Heap) (f : Addr) : Prop where
  cd : PySem.W.codeHdIn K (codA K f) (tabA K f) = true
  out : K.lookup (tabA K f) = none
  emp : h.get? (tabA K f) = some { cls := .none, data := .fields #[] }
theorem tabIn_of {as : List Addr} {tf : List (Fg → Addr)} {h : Heap} (e : tabGood h.get? tf (He.frT h.get? as) = true) : ∀ d ∈ tf, TabIn (He.frT h.get? as) h (d (He.frT h.get? as)) := fun d hd => by
  obtain ⟨k1, k2⟩ := He.ba (List.all_eq_true.mp e d hd)
  cases q : h.get? (tabA (He.frT h.get? as) (d (He.frT h.get? as))) with
  | none =>
    rw [q] at k2
    cases k2
  | some u =>
    rw [q] at k2
    have k2 : He.emptyTab u = true := k2
    exact ⟨k1, He.frT_none q k2, by rw [q, He.emptyTab_eq k2]⟩
def hookE (as : List Addr) (fa : List (Fg → Bool)) (fn : List DefZ) (tf : List (Fg → Addr)) : PySem.W.Hook where
  α := SeenT
  obs := fun s => seeE as fa fn tf s.heap.get?
  val := fun _ => ((true, fn.map DefZ.due), true)
  says := fun _ h => ∃ K : Fg, K.In h ∧ SaysZ fa fn K ∧ ∀ d ∈ tf, TabIn K h (d K)
  of := fun _ _ e => ⟨_, He.frT_in, congrArg (fun z : SeenT => z.1) e, tabIn_of (congrArg (fun z : SeenT => z.2) e)⟩
  keeps := fun _ _ _ ⟨K, hK, c, t⟩ k => ⟨K, PySem.W.Frag.In.keeps hK k, c, fun d hd => ⟨(t d hd).cd, (t d hd).out, k _ _ (t d hd).emp⟩⟩
theorem seeE_eq {as : List Addr} {fa : List (Fg → Bool)} {fn : List DefZ} {tf : List (Fg → Addr)} {g : Addr → Option Obj} {s : Shared} (h : ∀ a, g a = s.heap.get? a) : seeE as fa fn tf g = (hookE as fa fn tf).obs s := by
  obtain rfl : g = s.heap.get? := funext h
  rfl
theorem walkET {l : PySem.W.OpenLaw} {n k : Nat} {q : Program} {ls : List Str} {XP : (Str → Option Value) → Heap → Prop} {YP : World → Heap → Prop} {d : DefRec} {x : Str} (hn : l.most = some n) (hz : n ≤ sizeLine) (hdf : d.params.defaults = []) (room : Room k callerA)
    (F : ∀ (w : World) (mg : Str → Option Value) (f : Addr) (h : Heap), YP w h → h.Ns mainGlobals mg → mg d.name = some (.ref f) → ∃ (K : Fg) (fd : FuncData) (sp : Sp) (tf : List Addr), K.In h ∧ (∀ u ∈ tf, TabIn K h u) ∧ (∀ (s : Shared) (u : Value), BindsTo s fd ⟨[u], []⟩ [(x, u)]) ∧
      (∀ (H : Hp) (a : Addr) (ns : List Int), ns.length ≤ n → (∀ u ∈ tf, H (tabA K u) = some (.tbl #[])) → SqL K H a (ns.map V.int) → sp [.ref a] H (fun v _ => v = .bl true) fun _ _ _ => False) ∧
      ∀ base : Heap, K.In base → base.Ns mainGlobals mg → (∀ u ∈ tf, LamX.TabB base mg (codA K u) (tabA K u)) → FnOk l.prog w K mg base (L2.CX l.prog w) k f fd [x] sp) :
    PySem.W.WalkO q ls XP YP l.row.toRowW d [] (fun f vs => PySem.call f vs) := by
  refine Att.attach_callB hn hdf fun w _ s1 mg _ f _ _ _ _ a _ ns G Y _ _ _ hm ho hi hl _ hg => ?_
  obtain ⟨K, fd, sp, tf, KX, ht, hb, hsp, hF⟩ := F w mg f _ Y G.T.g hm
  have all : ∀ {R : Addr × Addr → Prop}, (∀ u ∈ tf, R (codA K u, tabA K u)) → ∀ p ∈ tf.map (fun u => (codA K u, tabA K u)), R p := fun {R} h p hp => by
    obtain ⟨u, hu, rfl⟩ := List.mem_map.mp hp
    exact h u hu
  have back : ∀ {R : Addr × Addr → Prop}, (∀ p ∈ tf.map (fun u => (codA K u, tabA K u)), R p) → ∀ u ∈ tf, R (codA K u, tabA K u) := fun {R} h u hu => h _ (List.mem_map_of_mem hu)
  refine LamX.law_callTs (cs := tf.map fun u => (codA K u, tabA K u)) KX G.T.g G.T.b G.T.builtins G.T.nolimit hg (all (R := fun p => s1.heap.get? p.2 = some { cls := .none, data := .fields #[] }) fun u hu => (ht u hu).emp) (all (R := fun p => K.lookup p.2 = none) fun u hu => (ht u hu).out)
    (all (R := fun p => PySem.W.CodeHd s1.heap p.1 p.2) fun u hu => PySem.W.codeHd_of_K KX (ht u hu).cd) G.T.bmain ho hi (Nat.le_trans hl hz) room (fun base h1 h2 h3 => hF base h1 h2 (back (R := fun p => LamX.TabB base mg p.1 p.2) h3)) hb
    (fun H h3 hS => hsp H a ns hl (back (R := fun p => H p.2 = some (.tbl #[])) h3) hS) fun H e s' z => ?_
  obtain ⟨_, _, _, _, _, _, _, _, _, _, _, _, z⟩ := z
  exact z
theorem seeE_parts {as : List Addr} {fa : List (Fg → Bool)} {fn : List DefZ} {tf : List (Fg → Addr)} {g : Addr → Option Obj} (n : Nat) (hA : tabGood g tf (He.frT g as) = true) (hB : (fa.all fun f => f (He.frT g as)) = true)
    (hC : (((fn.take n).all fun d => d.good (He.frT g as)), (fn.take n).map fun d => DefZ.see (He.frT g as) (d.at_ (He.frT g as))) = (true, (fn.take n).map DefZ.due))
    (hD : (((fn.drop n).all fun d => d.good (He.frT g as)), (fn.drop n).map fun d => DefZ.see (He.frT g as) (d.at_ (He.frT g as))) = (true, (fn.drop n).map DefZ.due)) : seeE as fa fn tf g = ((true, fn.map DefZ.due), true) := by
  have e := (List.take_append_drop n fn).symm
  generalize fn.take n = u at *
  generalize fn.drop n = v at *
  subst e
  obtain ⟨c1, c2⟩ := Prod.mk.inj hC
  obtain ⟨d1, d2⟩ := Prod.mk.inj hD
  unfold seeE lookZ
  rw [hA, hB, List.all_append, c1, d1, List.map_append, c2, d2, List.map_append]
  rfl
theorem map_some {S A : Type} {m : Option S} {f : S → A} {a : A} (h : m.map f = some a) : ∃ s, m = some s ∧ f s = a := Option.map_eq_some_iff.mp h
end Z
set_option maxHeartbeats 1000000
namespace T
open PySem PySem.Spec PyProof.Rows L2 Z
open He (ga ma)
def top (i : Nat) : Stmt := PySem.Challenge.pw_callbells_k04_texts_refused.main.body.getD i (.Pass ⟨0, 0, 0, 0⟩)
abbrev s_InvalidSetup_init : Stmt := inClass (top 3) 0
def d_InvalidSetup_init : DefZ := ⟨fun K => ma K (ga K "InvalidSetup") "__init__", "__init__", "InvalidSetup.__init__", s_InvalidSetup_init, []⟩
abbrev n_InvalidSetup_init : List Str := ["self", "part", "index"]
theorem sc_InvalidSetup_init : FnScope n_InvalidSetup_init ["self", "part", "index"] (defScope s_InvalidSetup_init) := ⟨rfl, rfl, rfl, by decide +kernel, rfl, by decide +kernel, by decide +kernel⟩
abbrev s_NotationError_init : Stmt := inClass (top 13) 0
def d_NotationError_init : DefZ := ⟨fun K => ma K (ga K "NotationError") "__init__", "__init__", "NotationError.__init__", s_NotationError_init, []⟩
abbrev n_NotationError_init : List Str := ["self", "row", "word"]
theorem sc_NotationError_init : FnScope n_NotationError_init ["self", "row", "word"] (defScope s_NotationError_init) := ⟨rfl, rfl, rfl, by decide +kernel, rfl, by decide +kernel, by decide +kernel⟩
abbrev s_is_integer : Stmt := top 32
def d_is_integer : DefZ := ⟨fun K => ga K "is_integer", "is_integer", "is_integer", s_is_integer, []⟩
abbrev n_is_integer : List Str := ["value", "low", "high"]
theorem sc_is_integer : FnScope n_is_integer ["value", "low", "high"] (defScope s_is_integer) := ⟨rfl, rfl, rfl, by decide +kernel, rfl, by decide +kernel, by decide +kernel⟩
abbrev s_is_word : Stmt := top 33
def d_is_word : DefZ := ⟨fun K => ga K "is_word", "is_word", "is_word", s_is_word, []⟩
abbrev n_is_word : List Str := ["value", "letter"]
theorem sc_is_word : FnScope n_is_word ["value"] (defScope s_is_word) := ⟨rfl, rfl, rfl, by decide +kernel, rfl, by decide +kernel, by decide +kernel⟩
abbrev s_is_name : Stmt := top 34
def d_is_name : DefZ := ⟨fun K => ga K "is_name", "is_name", "is_name", s_is_name, []⟩
abbrev n_is_name : List Str := ["value"]
theorem sc_is_name : FnScope n_is_name ["value"] (defScope s_is_name) := ⟨rfl, rfl, rfl, by decide +kernel, rfl, by decide +kernel, by decide +kernel⟩
abbrev s_is_line : Stmt := top 35
def d_is_line : DefZ := ⟨fun K => ga K "is_line", "is_line", "is_line", s_is_line, []⟩
abbrev n_is_line : List Str := ["line"]
theorem sc_is_line : FnScope n_is_line ["line"] (defScope s_is_line) := ⟨rfl, rfl, rfl, by decide +kernel, rfl, by decide +kernel, by decide +kernel⟩
abbrev s_is_work : Stmt := top 36
def d_is_work : DefZ := ⟨fun K => ga K "is_work", "is_work", "is_work", s_is_work, []⟩
abbrev n_is_work : List Str := ["work"]
theorem sc_is_work : FnScope n_is_work ["work"] (defScope s_is_work) := ⟨rfl, rfl, rfl, by decide +kernel, rfl, by decide +kernel, by decide +kernel⟩
abbrev s_is_step : Stmt := top 37
def d_is_step : DefZ := ⟨fun K => ga K "is_step", "is_step", "is_step", s_is_step, []⟩
abbrev n_is_step : List Str := ["step", "kinds", "works", "word", "value"]
theorem sc_is_step : FnScope n_is_step ["step", "kinds", "works"] (defScope s_is_step) := ⟨rfl, rfl, rfl, by decide +kernel, rfl, by decide +kernel, by decide +kernel⟩
abbrev s_check_lines : Stmt := top 38
def d_check_lines : DefZ := ⟨fun K => ga K "check_lines", "check_lines", "check_lines", s_check_lines, []⟩
abbrev n_check_lines : List Str := ["lines", "most", "names", "index", "line"]
theorem sc_check_lines : FnScope n_check_lines ["lines", "most"] (defScope s_check_lines) := ⟨rfl, rfl, rfl, by decide +kernel, rfl, by decide +kernel, by decide +kernel⟩
abbrev s_check_works : Stmt := top 39
def d_check_works : DefZ := ⟨fun K => ga K "check_works", "check_works", "check_works", s_check_works, []⟩
abbrev n_check_works : List Str := ["works", "most", "names", "index", "work"]
theorem sc_check_works : FnScope n_check_works ["works", "most"] (defScope s_check_works) := ⟨rfl, rfl, rfl, by decide +kernel, rfl, by decide +kernel, by decide +kernel⟩
abbrev s_Setup_init : Stmt := inClass (top 40) 3
def d_Setup_init : DefZ := ⟨fun K => ma K (ga K "Setup") "__init__", "__init__", "Setup.__init__", s_Setup_init, [.adr (dfA (fun K => ma K (ga K "Setup") "__init__") 0)]⟩
abbrev n_Setup_init : List Str := ["self", "lines", "works", "kinds", "names", "index", "line", "work", "step"]
theorem sc_Setup_init : FnScope n_Setup_init ["self", "lines", "works"] (defScope s_Setup_init) := ⟨rfl, rfl, rfl, by decide +kernel, rfl, by decide +kernel, by decide +kernel⟩
abbrev s_Setup_parse : Stmt := inClass (top 40) 4
def d_Setup_parse : DefZ := ⟨fun K => cga K (ga K "Setup") "parse", "parse", "Setup.parse", s_Setup_parse, []⟩
abbrev n_Setup_parse : List Str := ["cls", "text", "lines", "works", "row", "line", "reader"]
theorem sc_Setup_parse : FnScope n_Setup_parse ["cls", "text"] (defScope s_Setup_parse) := ⟨rfl, rfl, rfl, by decide +kernel, rfl, by decide +kernel, by decide +kernel⟩
abbrev s_Setup_text : Stmt := inClass (top 40) 9
def d_Setup_text : DefZ := ⟨fun K => pga K (ga K "Setup") "text", "text", "Setup.text", s_Setup_text, []⟩
abbrev n_Setup_text : List Str := ["self", "rows", "line", "step", "part", "work", "row", "word"]
theorem sc_Setup_text : FnScope n_Setup_text ["self"] (defScope s_Setup_text) := ⟨rfl, rfl, rfl, by decide +kernel, rfl, by decide +kernel, by decide +kernel⟩
abbrev s_RowReader_init : Stmt := inClass (top 43) 0
def d_RowReader_init : DefZ := ⟨fun K => ma K (ga K "RowReader") "__init__", "__init__", "RowReader.__init__", s_RowReader_init, []⟩
abbrev n_RowReader_init : List Str := ["self", "line", "number"]
theorem sc_RowReader_init : FnScope n_RowReader_init ["self", "line", "number"] (defScope s_RowReader_init) := ⟨rfl, rfl, rfl, by decide +kernel, rfl, by decide +kernel, by decide +kernel⟩
abbrev s_RowReader_need : Stmt := inClass (top 43) 1
def d_RowReader_need : DefZ := ⟨fun K => ma K (ga K "RowReader") "need", "need", "RowReader.need", s_RowReader_need, []⟩
abbrev n_RowReader_need : List Str := ["self", "is_right"]
theorem sc_RowReader_need : FnScope n_RowReader_need ["self", "is_right"] (defScope s_RowReader_need) := ⟨rfl, rfl, rfl, by decide +kernel, rfl, by decide +kernel, by decide +kernel⟩
abbrev s_RowReader_is_over : Stmt := inClass (top 43) 2
def d_RowReader_is_over : DefZ := ⟨fun K => ma K (ga K "RowReader") "is_over", "is_over", "RowReader.is_over", s_RowReader_is_over, []⟩
abbrev n_RowReader_is_over : List Str := ["self"]
theorem sc_RowReader_is_over : FnScope n_RowReader_is_over ["self"] (defScope s_RowReader_is_over) := ⟨rfl, rfl, rfl, by decide +kernel, rfl, by decide +kernel, by decide +kernel⟩
abbrev s_RowReader_is_work_row : Stmt := inClass (top 43) 3
def d_RowReader_is_work_row : DefZ := ⟨fun K => ma K (ga K "RowReader") "is_work_row", "is_work_row", "RowReader.is_work_row", s_RowReader_is_work_row, []⟩
abbrev n_RowReader_is_work_row : List Str := ["self"]
theorem sc_RowReader_is_work_row : FnScope n_RowReader_is_work_row ["self"] (defScope s_RowReader_is_work_row) := ⟨rfl, rfl, rfl, by decide +kernel, rfl, by decide +kernel, by decide +kernel⟩
abbrev s_RowReader_take : Stmt := inClass (top 43) 4
def d_RowReader_take : DefZ := ⟨fun K => ma K (ga K "RowReader") "take", "take", "RowReader.take", s_RowReader_take, []⟩
abbrev n_RowReader_take : List Str := ["self", "words"]
theorem sc_RowReader_take : FnScope n_RowReader_take ["self", "words"] (defScope s_RowReader_take) := ⟨rfl, rfl, rfl, by decide +kernel, rfl, by decide +kernel, by decide +kernel⟩
abbrev s_RowReader_read_name : Stmt := inClass (top 43) 5
def d_RowReader_read_name : DefZ := ⟨fun K => ma K (ga K "RowReader") "read_name", "read_name", "RowReader.read_name", s_RowReader_read_name, []⟩
abbrev n_RowReader_read_name : List Str := ["self"]
theorem sc_RowReader_read_name : FnScope n_RowReader_read_name ["self"] (defScope s_RowReader_read_name) := ⟨rfl, rfl, rfl, by decide +kernel, rfl, by decide +kernel, by decide +kernel⟩
abbrev s_RowReader_read_integer : Stmt := inClass (top 43) 6
def d_RowReader_read_integer : DefZ := ⟨fun K => ma K (ga K "RowReader") "read_integer", "read_integer", "RowReader.read_integer", s_RowReader_read_integer, []⟩
abbrev n_RowReader_read_integer : List Str := ["self", "word", "digit"]
theorem sc_RowReader_read_integer : FnScope n_RowReader_read_integer ["self"] (defScope s_RowReader_read_integer) := ⟨rfl, rfl, rfl, by decide +kernel, rfl, by decide +kernel, by decide +kernel⟩
abbrev s_RowReader_read_step : Stmt := inClass (top 43) 7
def d_RowReader_read_step : DefZ := ⟨fun K => ma K (ga K "RowReader") "read_step", "read_step", "RowReader.read_step", s_RowReader_read_step, []⟩
abbrev n_RowReader_read_step : List Str := ["self", "word"]
theorem sc_RowReader_read_step : FnScope n_RowReader_read_step ["self"] (defScope s_RowReader_read_step) := ⟨rfl, rfl, rfl, by decide +kernel, rfl, by decide +kernel, by decide +kernel⟩
abbrev s_RowReader_read_line : Stmt := inClass (top 43) 8
def d_RowReader_read_line : DefZ := ⟨fun K => ma K (ga K "RowReader") "read_line", "read_line", "RowReader.read_line", s_RowReader_read_line, []⟩
abbrev n_RowReader_read_line : List Str := ["self", "name", "kind", "rank", "steps"]
theorem sc_RowReader_read_line : FnScope n_RowReader_read_line ["self"] (defScope s_RowReader_read_line) := ⟨rfl, rfl, rfl, by decide +kernel, rfl, by decide +kernel, by decide +kernel⟩
abbrev s_RowReader_read_work : Stmt := inClass (top 43) 9
def d_RowReader_read_work : DefZ := ⟨fun K => ma K (ga K "RowReader") "read_work", "read_work", "RowReader.read_work", s_RowReader_read_work, []⟩
abbrev n_RowReader_read_work : List Str := ["self", "found"]
theorem sc_RowReader_read_work : FnScope n_RowReader_read_work ["self"] (defScope s_RowReader_read_work) := ⟨rfl, rfl, rfl, by decide +kernel, rfl, by decide +kernel, by decide +kernel⟩
abbrev s_w_taken : Stmt := top 45
def d_w_taken : DefZ := ⟨fun K => ga K "_law_taken", "_law_taken", "_law_taken", s_w_taken, []⟩
abbrev n_w_taken : List Str := ["_law_row", "_law_many", "_law_found", "_law_cell"]
theorem sc_w_taken : FnScope n_w_taken ["_law_row", "_law_many"] (defScope s_w_taken) := ⟨rfl, rfl, rfl, by decide +kernel, rfl, by decide +kernel, by decide +kernel⟩
abbrev s_w_mixed : Stmt := top 46
def d_w_mixed : DefZ := ⟨fun K => ga K "_law_mixed", "_law_mixed", "_law_mixed", s_w_mixed, []⟩
abbrev n_w_mixed : List Str := ["_law_row", "_law_things", "_law_left", "_law_found"]
theorem sc_w_mixed : FnScope n_w_mixed ["_law_row", "_law_things"] (defScope s_w_mixed) := ⟨rfl, rfl, rfl, by decide +kernel, rfl, by decide +kernel, by decide +kernel⟩
abbrev s_w_step : Stmt := top 47
def d_w_step : DefZ := ⟨fun K => ga K "_law_step", "_law_step", "_law_step", s_w_step, []⟩
abbrev n_w_step : List Str := ["_law_row", "_law_names", "_law_levels", "_law_works", "_law_word"]
theorem sc_w_step : FnScope n_w_step ["_law_row", "_law_names", "_law_levels", "_law_works"] (defScope s_w_step) := ⟨rfl, rfl, rfl, by decide +kernel, rfl, by decide +kernel, by decide +kernel⟩
abbrev s_w_setup : Stmt := top 48
def d_w_setup : DefZ := ⟨fun K => ga K "_law_setup", "_law_setup", "_law_setup", s_w_setup, []⟩
abbrev n_w_setup : List Str := ["_law_row", "_law_most", "_law_names", "_law_kinds", "_law_levels", "_law_works", "_law_lines", "_law_k", "_law_steps", "_law_rows", "_law_name", "_law_turn", "_law_work"]
theorem sc_w_setup : FnScope n_w_setup ["_law_row", "_law_most"] (defScope s_w_setup) := ⟨rfl, rfl, rfl, by decide +kernel, rfl, by decide +kernel, by decide +kernel⟩
abbrev s_w_raised : Stmt := top 49
def d_w_raised : DefZ := ⟨fun K => ga K "_law_raised", "_law_raised", "_law_raised", s_w_raised, []⟩
abbrev n_w_raised : List Str := ["_law_work", "e", "_law_kinds", "_law_at"]
theorem sc_w_raised : FnScope n_w_raised ["_law_work"] (defScope s_w_raised) := ⟨rfl, rfl, rfl, by decide +kernel, rfl, by decide +kernel, by decide +kernel⟩
abbrev s_w_is_number : Stmt := top 50
def d_w_is_number : DefZ := ⟨fun K => ga K "_law_is_number", "_law_is_number", "_law_is_number", s_w_is_number, []⟩
abbrev n_w_is_number : List Str := ["_law_word", "_law_digits", "_law_sign"]
theorem sc_w_is_number : FnScope n_w_is_number ["_law_word"] (defScope s_w_is_number) := ⟨rfl, rfl, rfl, by decide +kernel, rfl, by decide +kernel, by decide +kernel⟩
abbrev s_w_is_name : Stmt := top 51
def d_w_is_name : DefZ := ⟨fun K => ga K "_law_is_name", "_law_is_name", "_law_is_name", s_w_is_name, []⟩
abbrev n_w_is_name : List Str := ["_law_word", "_law_sign"]
theorem sc_w_is_name : FnScope n_w_is_name ["_law_word"] (defScope s_w_is_name) := ⟨rfl, rfl, rfl, by decide +kernel, rfl, by decide +kernel, by decide +kernel⟩
abbrev s_w_wrong : Stmt := top 52
def d_w_wrong : DefZ := ⟨fun K => ga K "_law_wrong", "_law_wrong", "_law_wrong", s_w_wrong, []⟩
abbrev n_w_wrong : List Str := ["_law_words", "_law_is_behind", "_law_wanted", "_law_at", "_law_want", "_law_word", "_law_steps", "_law_good"]
theorem sc_w_wrong : FnScope n_w_wrong ["_law_words", "_law_is_behind"] (defScope s_w_wrong) := ⟨rfl, rfl, rfl, by decide +kernel, rfl, by decide +kernel, by decide +kernel⟩
abbrev s_w_first_wrong : Stmt := top 53
def d_w_first_wrong : DefZ := ⟨fun K => ga K "_law_first_wrong", "_law_first_wrong", "_law_first_wrong", s_w_first_wrong, []⟩
abbrev n_w_first_wrong : List Str := ["_law_text", "_law_rows", "_law_is_behind", "_law_k", "_law_wrong_here", "_law_row"]
theorem sc_w_first_wrong : FnScope n_w_first_wrong ["_law_text"] (defScope s_w_first_wrong) := ⟨rfl, rfl, rfl, by decide +kernel, rfl, by decide +kernel, by decide +kernel⟩
abbrev s_w_spoilt : Stmt := top 54
def d_w_spoilt : DefZ := ⟨fun K => ga K "_law_spoilt", "_law_spoilt", "_law_spoilt", s_w_spoilt, []⟩
abbrev n_w_spoilt : List Str := ["_law_row", "_law_text", "_law_turn", "_law_rows", "_law_k", "_law_words", "_law_at", "_law_way", "_law_some", "_law_word", "_law_new"]
theorem sc_w_spoilt : FnScope n_w_spoilt ["_law_row", "_law_text"] (defScope s_w_spoilt) := ⟨rfl, rfl, rfl, by decide +kernel, rfl, by decide +kernel, by decide +kernel⟩
abbrev s_law : Stmt := top 55
def d_law : DefZ := ⟨fun K => ga K "law", "law", "law", s_law, []⟩
abbrev n_law : List Str := ["_law_script", "_law_row", "_law_turn", "_law_lines", "_law_works", "_law_text", "_law_due", "_law_told"]
theorem sc_law : FnScope n_law ["_law_script"] (defScope s_law) := ⟨rfl, rfl, rfl, by decide +kernel, rfl, by decide +kernel, by decide +kernel⟩
structure Txt0 (K : Fg) (mg : Str → Option Value) : Prop where
  i_LETTERS : ∃ t, mg "LETTERS" = some (.str "abcdefghijklmnopqrstuvwxyz" t)
  i_DIGITS : ∃ t, mg "DIGITS" = some (.str "0123456789" t)
  i_MAX_NAME : ∃ t, mg "MAX_NAME" = some (.int 8 t)
  i_MAX_RANK : ∃ t, mg "MAX_RANK" = some (.int 9 t)
  i_MAX_STEPS : ∃ t, mg "MAX_STEPS" = some (.int 8 t)
  i_MAX_TICKS : ∃ t, mg "MAX_TICKS" = some (.int 99 t)
  i_MAX_FLAG : ∃ t, mg "MAX_FLAG" = some (.int 7 t)
  i_MAX_DIGITS : ∃ t, mg "MAX_DIGITS" = some (.int 3 t)
  i_EDGE : ∃ t, mg "EDGE" = some (.str "edge" t)
  i_LEVEL : ∃ t, mg "LEVEL" = some (.str "level" t)
  i_RUN : ∃ t, mg "RUN" = some (.str "run" t)
  i_QUIET : ∃ t, mg "QUIET" = some (.str "quiet" t)
  i_AWAIT : ∃ t, mg "AWAIT" = some (.str "await" t)
  i_BAR : ∃ t, mg "BAR" = some (.str "bar" t)
  i_LATER : ∃ t, mg "LATER" = some (.str "later" t)
  g_LINE_WORDS : mg "LINE_WORDS" = some (.ref (ga K "LINE_WORDS"))
  t_LINE_WORDS : ∀ H, SqT K H (ga K "LINE_WORDS") ([.str "ring", .str "quiet", .str "mask", .str "unmask"] : List V)
  g_FLAG_WORDS : mg "FLAG_WORDS" = some (.ref (ga K "FLAG_WORDS"))
  t_FLAG_WORDS : ∀ H, SqT K H (ga K "FLAG_WORDS") ([.str "set", .str "clear", .str "await"] : List V)
  g_is_integer : mg "is_integer" = some (.ref (ga K "is_integer"))
  g_is_word : mg "is_word" = some (.ref (ga K "is_word"))
  g_is_name : mg "is_name" = some (.ref (ga K "is_name"))
  g_is_line : mg "is_line" = some (.ref (ga K "is_line"))
  g_is_work : mg "is_work" = some (.ref (ga K "is_work"))
  g_is_step : mg "is_step" = some (.ref (ga K "is_step"))
  g_check_lines : mg "check_lines" = some (.ref (ga K "check_lines"))
  g_check_works : mg "check_works" = some (.ref (ga K "check_works"))
  g_w_taken : mg "_law_taken" = some (.ref (ga K "_law_taken"))
  g_w_mixed : mg "_law_mixed" = some (.ref (ga K "_law_mixed"))
  g_w_step : mg "_law_step" = some (.ref (ga K "_law_step"))
structure Txt1 (K : Fg) (mg : Str → Option Value) : Prop where
  g_w_setup : mg "_law_setup" = some (.ref (ga K "_law_setup"))
  g_w_raised : mg "_law_raised" = some (.ref (ga K "_law_raised"))
  g_w_is_number : mg "_law_is_number" = some (.ref (ga K "_law_is_number"))
  g_w_is_name : mg "_law_is_name" = some (.ref (ga K "_law_is_name"))
  g_w_wrong : mg "_law_wrong" = some (.ref (ga K "_law_wrong"))
  g_w_first_wrong : mg "_law_first_wrong" = some (.ref (ga K "_law_first_wrong"))
  g_w_spoilt : mg "_law_spoilt" = some (.ref (ga K "_law_spoilt"))
  g_law : mg "law" = some (.ref (ga K "law"))
  F_InvalidSetup_init : FunZ K d_InvalidSetup_init
  c_InvalidSetup_init : Cal K (ma K (ga K "InvalidSetup") "__init__") ["self", "part", "index"] []
  F_NotationError_init : FunZ K d_NotationError_init
  c_NotationError_init : Cal K (ma K (ga K "NotationError") "__init__") ["self", "row", "word"] []
  F_is_integer : FunZ K d_is_integer
  c_is_integer : Cal K (ga K "is_integer") ["value", "low", "high"] []
  F_is_word : FunZ K d_is_word
  c_is_word : Cal K (ga K "is_word") ["value"] []
  F_is_name : FunZ K d_is_name
  c_is_name : Cal K (ga K "is_name") ["value"] []
  F_is_line : FunZ K d_is_line
  c_is_line : Cal K (ga K "is_line") ["line"] []
  F_is_work : FunZ K d_is_work
  c_is_work : Cal K (ga K "is_work") ["work"] []
  F_is_step : FunZ K d_is_step
  c_is_step : Cal K (ga K "is_step") ["step", "kinds", "works"] []
  F_check_lines : FunZ K d_check_lines
  c_check_lines : Cal K (ga K "check_lines") ["lines", "most"] []
  F_check_works : FunZ K d_check_works
  c_check_works : Cal K (ga K "check_works") ["works", "most"] []
  F_Setup_init : FunZ K d_Setup_init
  c_Setup_init : Cal K (ma K (ga K "Setup") "__init__") ["self", "lines", "works"] []
structure Txt2 (K : Fg) (mg : Str → Option Value) : Prop where
  F_Setup_parse : FunZ K d_Setup_parse
  c_Setup_parse : Cal K (cga K (ga K "Setup") "parse") ["cls", "text"] []
  F_Setup_text : FunZ K d_Setup_text
  c_Setup_text : Cal K (pga K (ga K "Setup") "text") ["self"] []
  F_RowReader_init : FunZ K d_RowReader_init
  c_RowReader_init : Cal K (ma K (ga K "RowReader") "__init__") ["self", "line", "number"] []
  F_RowReader_need : FunZ K d_RowReader_need
  c_RowReader_need : Cal K (ma K (ga K "RowReader") "need") ["self", "is_right"] []
  F_RowReader_is_over : FunZ K d_RowReader_is_over
  c_RowReader_is_over : Cal K (ma K (ga K "RowReader") "is_over") ["self"] []
  F_RowReader_is_work_row : FunZ K d_RowReader_is_work_row
  c_RowReader_is_work_row : Cal K (ma K (ga K "RowReader") "is_work_row") ["self"] []
  F_RowReader_take : FunZ K d_RowReader_take
  c_RowReader_take : Cal K (ma K (ga K "RowReader") "take") ["self", "words"] []
  F_RowReader_read_name : FunZ K d_RowReader_read_name
  c_RowReader_read_name : Cal K (ma K (ga K "RowReader") "read_name") ["self"] []
  F_RowReader_read_integer : FunZ K d_RowReader_read_integer
  c_RowReader_read_integer : Cal K (ma K (ga K "RowReader") "read_integer") ["self"] []
  F_RowReader_read_step : FunZ K d_RowReader_read_step
  c_RowReader_read_step : Cal K (ma K (ga K "RowReader") "read_step") ["self"] []
  F_RowReader_read_line : FunZ K d_RowReader_read_line
  c_RowReader_read_line : Cal K (ma K (ga K "RowReader") "read_line") ["self"] []
  F_RowReader_read_work : FunZ K d_RowReader_read_work
  c_RowReader_read_work : Cal K (ma K (ga K "RowReader") "read_work") ["self"] []
  F_w_taken : FunZ K d_w_taken
  c_w_taken : Cal K (ga K "_law_taken") ["_law_row", "_law_many"] []
  F_w_mixed : FunZ K d_w_mixed
  c_w_mixed : Cal K (ga K "_law_mixed") ["_law_row", "_law_things"] []
  F_w_step : FunZ K d_w_step
  c_w_step : Cal K (ga K "_law_step") ["_law_row", "_law_names", "_law_levels", "_law_works"] []
structure Txt3 (K : Fg) (mg : Str → Option Value) : Prop where
  F_w_setup : FunZ K d_w_setup
  c_w_setup : Cal K (ga K "_law_setup") ["_law_row", "_law_most"] []
  F_w_raised : FunZ K d_w_raised
  c_w_raised : Cal K (ga K "_law_raised") ["_law_work"] []
  F_w_is_number : FunZ K d_w_is_number
  c_w_is_number : Cal K (ga K "_law_is_number") ["_law_word"] []
  F_w_is_name : FunZ K d_w_is_name
  c_w_is_name : Cal K (ga K "_law_is_name") ["_law_word"] []
  F_w_wrong : FunZ K d_w_wrong
  c_w_wrong : Cal K (ga K "_law_wrong") ["_law_words", "_law_is_behind"] []
  F_w_first_wrong : FunZ K d_w_first_wrong
  c_w_first_wrong : Cal K (ga K "_law_first_wrong") ["_law_text"] []
  F_w_spoilt : FunZ K d_w_spoilt
  c_w_spoilt : Cal K (ga K "_law_spoilt") ["_law_row", "_law_text"] []
  F_law : FunZ K d_law
  c_law : Cal K (ga K "law") ["_law_script"] []
  g_Setup : mg "Setup" = some (.ref (ga K "Setup"))
  cl_Setup : Cls K (ga K "Setup")
  mk_Setup : Mk K (ga K "Setup") (ma K (ga K "Setup") "__init__")
  n_Setup_line_rows : NoAttr K (ga K "Setup") "line_rows"
  n_Setup_work_rows : NoAttr K (ga K "Setup") "work_rows"
  n_Setup_rows_by_name : NoAttr K (ga K "Setup") "rows_by_name"
  n_Setup_works_by_name : NoAttr K (ga K "Setup") "works_by_name"
  m_Setup_init : Meth K (ga K "Setup") "__init__" (ma K (ga K "Setup") "__init__")
  cm_Setup_parse : CMZ K (ga K "Setup") "parse"
  p_Setup_text : PropOf K (ga K "Setup") "text" (ma K (ga K "Setup") "text") (pga K (ga K "Setup") "text")
  k_Setup_MAX_LINES : ClsI K (ga K "Setup") "MAX_LINES" 12
  k_Setup_MAX_WORKS : ClsI K (ga K "Setup") "MAX_WORKS" 8
  k_Setup_MAX_FLAG : ClsI K (ga K "Setup") "MAX_FLAG" 7
  g_RowReader : mg "RowReader" = some (.ref (ga K "RowReader"))
structure Txt4 (K : Fg) (mg : Str → Option Value) : Prop where
  cl_RowReader : Cls K (ga K "RowReader")
  mk_RowReader : Mk K (ga K "RowReader") (ma K (ga K "RowReader") "__init__")
  n_RowReader_parts : NoAttr K (ga K "RowReader") "parts"
  n_RowReader_number : NoAttr K (ga K "RowReader") "number"
  n_RowReader_spot : NoAttr K (ga K "RowReader") "spot"
  m_RowReader_init : Meth K (ga K "RowReader") "__init__" (ma K (ga K "RowReader") "__init__")
  m_RowReader_need : Meth K (ga K "RowReader") "need" (ma K (ga K "RowReader") "need")
  m_RowReader_is_over : Meth K (ga K "RowReader") "is_over" (ma K (ga K "RowReader") "is_over")
  m_RowReader_is_work_row : Meth K (ga K "RowReader") "is_work_row" (ma K (ga K "RowReader") "is_work_row")
  m_RowReader_take : Meth K (ga K "RowReader") "take" (ma K (ga K "RowReader") "take")
  m_RowReader_read_name : Meth K (ga K "RowReader") "read_name" (ma K (ga K "RowReader") "read_name")
  m_RowReader_read_integer : Meth K (ga K "RowReader") "read_integer" (ma K (ga K "RowReader") "read_integer")
  m_RowReader_read_step : Meth K (ga K "RowReader") "read_step" (ma K (ga K "RowReader") "read_step")
  m_RowReader_read_line : Meth K (ga K "RowReader") "read_line" (ma K (ga K "RowReader") "read_line")
  m_RowReader_read_work : Meth K (ga K "RowReader") "read_work" (ma K (ga K "RowReader") "read_work")
  g_BellError : mg "BellError" = some (.ref (ga K "BellError"))
  vi_BellError : VeIn K (ga K "BellError")
  g_InvalidBell : mg "InvalidBell" = some (.ref (ga K "InvalidBell"))
  xc_InvalidBell : ExcC K (ga K "InvalidBell")
  xn_InvalidBell_index : NoAttr K (ga K "InvalidBell") "index"
  g_InvalidFlag : mg "InvalidFlag" = some (.ref (ga K "InvalidFlag"))
  xc_InvalidFlag : ExcC K (ga K "InvalidFlag")
  g_InvalidLog : mg "InvalidLog" = some (.ref (ga K "InvalidLog"))
  xc_InvalidLog : ExcC K (ga K "InvalidLog")
  xn_InvalidLog_index : NoAttr K (ga K "InvalidLog") "index"
  g_InvalidNumber : mg "InvalidNumber" = some (.ref (ga K "InvalidNumber"))
  xc_InvalidNumber : ExcC K (ga K "InvalidNumber")
  g_InvalidSetup : mg "InvalidSetup" = some (.ref (ga K "InvalidSetup"))
  xc_InvalidSetup : ExcC K (ga K "InvalidSetup")
  xn_InvalidSetup_part : NoAttr K (ga K "InvalidSetup") "part"
structure Txt5 (K : Fg) (mg : Str → Option Value) : Prop where
  xn_InvalidSetup_index : NoAttr K (ga K "InvalidSetup") "index"
  g_NotLevel : mg "NotLevel" = some (.ref (ga K "NotLevel"))
  xc_NotLevel : ExcC K (ga K "NotLevel")
  xn_NotLevel_line : NoAttr K (ga K "NotLevel") "line"
  g_NotPlain : mg "NotPlain" = some (.ref (ga K "NotPlain"))
  xc_NotPlain : ExcC K (ga K "NotPlain")
  g_NotationError : mg "NotationError" = some (.ref (ga K "NotationError"))
  xc_NotationError : ExcC K (ga K "NotationError")
  xn_NotationError_row : NoAttr K (ga K "NotationError") "row"
  xn_NotationError_word : NoAttr K (ga K "NotationError") "word"
  g_TooDense : mg "TooDense" = some (.ref (ga K "TooDense"))
  xc_TooDense : ExcC K (ga K "TooDense")
  xn_TooDense_line : NoAttr K (ga K "TooDense") "line"
  g_TooMany : mg "TooMany" = some (.ref (ga K "TooMany"))
  xc_TooMany : ExcC K (ga K "TooMany")
  g_UnknownLine : mg "UnknownLine" = some (.ref (ga K "UnknownLine"))
  xc_UnknownLine : ExcC K (ga K "UnknownLine")
  xn_UnknownLine_line : NoAttr K (ga K "UnknownLine") "line"
  xo_InvalidSetup : OexC K (ga K "InvalidSetup")
  xi_InvalidSetup : OexI K (ga K "InvalidSetup") (ma K (ga K "InvalidSetup") "__init__")
  xm_InvalidSetup : PySem.W.exmOne K (.ref (ga K "InvalidSetup")) (.ref (ga K "BellError")) = some true
  xv_InvalidSetup : PySem.W.kitOne K (.ref (ga K "InvalidSetup")) (.type "ValueError") = some true
  xk_InvalidSetup_InvalidSetup : PySem.W.kitOne K (.ref (ga K "InvalidSetup")) (.ref (ga K "InvalidSetup")) = some true
  xk_InvalidSetup_UnknownLine : PySem.W.kitOne K (.ref (ga K "InvalidSetup")) (.ref (ga K "UnknownLine")) = some false
  xk_InvalidSetup_NotLevel : PySem.W.kitOne K (.ref (ga K "InvalidSetup")) (.ref (ga K "NotLevel")) = some false
  xk_InvalidSetup_InvalidNumber : PySem.W.kitOne K (.ref (ga K "InvalidSetup")) (.ref (ga K "InvalidNumber")) = some false
  xk_InvalidSetup_InvalidFlag : PySem.W.kitOne K (.ref (ga K "InvalidSetup")) (.ref (ga K "InvalidFlag")) = some false
  xk_InvalidSetup_InvalidBell : PySem.W.kitOne K (.ref (ga K "InvalidSetup")) (.ref (ga K "InvalidBell")) = some false
  xk_InvalidSetup_TooMany : PySem.W.kitOne K (.ref (ga K "InvalidSetup")) (.ref (ga K "TooMany")) = some false
  xk_InvalidSetup_NotPlain : PySem.W.kitOne K (.ref (ga K "InvalidSetup")) (.ref (ga K "NotPlain")) = some false
structure Txt6 (K : Fg) (mg : Str → Option Value) : Prop where
  xk_InvalidSetup_TooDense : PySem.W.kitOne K (.ref (ga K "InvalidSetup")) (.ref (ga K "TooDense")) = some false
  xk_InvalidSetup_InvalidLog : PySem.W.kitOne K (.ref (ga K "InvalidSetup")) (.ref (ga K "InvalidLog")) = some false
  xk_InvalidSetup_NotationError : PySem.W.kitOne K (.ref (ga K "InvalidSetup")) (.ref (ga K "NotationError")) = some false
  xo_NotationError : OexC K (ga K "NotationError")
  xi_NotationError : OexI K (ga K "NotationError") (ma K (ga K "NotationError") "__init__")
  xm_NotationError : PySem.W.exmOne K (.ref (ga K "NotationError")) (.ref (ga K "BellError")) = some true
  xv_NotationError : PySem.W.kitOne K (.ref (ga K "NotationError")) (.type "ValueError") = some true
  xk_NotationError_InvalidSetup : PySem.W.kitOne K (.ref (ga K "NotationError")) (.ref (ga K "InvalidSetup")) = some false
  xk_NotationError_UnknownLine : PySem.W.kitOne K (.ref (ga K "NotationError")) (.ref (ga K "UnknownLine")) = some false
  xk_NotationError_NotLevel : PySem.W.kitOne K (.ref (ga K "NotationError")) (.ref (ga K "NotLevel")) = some false
  xk_NotationError_InvalidNumber : PySem.W.kitOne K (.ref (ga K "NotationError")) (.ref (ga K "InvalidNumber")) = some false
  xk_NotationError_InvalidFlag : PySem.W.kitOne K (.ref (ga K "NotationError")) (.ref (ga K "InvalidFlag")) = some false
  xk_NotationError_InvalidBell : PySem.W.kitOne K (.ref (ga K "NotationError")) (.ref (ga K "InvalidBell")) = some false
  xk_NotationError_TooMany : PySem.W.kitOne K (.ref (ga K "NotationError")) (.ref (ga K "TooMany")) = some false
  xk_NotationError_NotPlain : PySem.W.kitOne K (.ref (ga K "NotationError")) (.ref (ga K "NotPlain")) = some false
  xk_NotationError_TooDense : PySem.W.kitOne K (.ref (ga K "NotationError")) (.ref (ga K "TooDense")) = some false
  xk_NotationError_InvalidLog : PySem.W.kitOne K (.ref (ga K "NotationError")) (.ref (ga K "InvalidLog")) = some false
  xk_NotationError_NotationError : PySem.W.kitOne K (.ref (ga K "NotationError")) (.ref (ga K "NotationError")) = some true
  u_isinstance : mg "isinstance" = none
  u_bool : mg "bool" = none
  u_int : mg "int" = none
  u_all : mg "all" = none
  u_str : mg "str" = none
  u_len : mg "len" = none
  u_tuple : mg "tuple" = none
  u_enumerate : mg "enumerate" = none
  u_list : mg "list" = none
  u_range : mg "range" = none
  u_ValueError : mg "ValueError" = none
structure Txt (K : Fg) (mg : Str → Option Value) : Prop where
  p0 : Txt0 K mg
  p1 : Txt1 K mg
  p2 : Txt2 K mg
  p3 : Txt3 K mg
  p4 : Txt4 K mg
  p5 : Txt5 K mg
  p6 : Txt6 K mg
section
variable {K : Fg} {mg : Str → Option Value} (T : Txt K mg) 
include T
theorem Txt.i_LETTERS : ∃ t, mg "LETTERS" = some (.str "abcdefghijklmnopqrstuvwxyz" t) := T.p0.i_LETTERS
theorem Txt.i_DIGITS : ∃ t, mg "DIGITS" = some (.str "0123456789" t) := T.p0.i_DIGITS
theorem Txt.i_MAX_NAME : ∃ t, mg "MAX_NAME" = some (.int 8 t) := T.p0.i_MAX_NAME
theorem Txt.i_MAX_RANK : ∃ t, mg "MAX_RANK" = some (.int 9 t) := T.p0.i_MAX_RANK
theorem Txt.i_MAX_STEPS : ∃ t, mg "MAX_STEPS" = some (.int 8 t) := T.p0.i_MAX_STEPS
theorem Txt.i_MAX_TICKS : ∃ t, mg "MAX_TICKS" = some (.int 99 t) := T.p0.i_MAX_TICKS
theorem Txt.i_MAX_FLAG : ∃ t, mg "MAX_FLAG" = some (.int 7 t) := T.p0.i_MAX_FLAG
theorem Txt.i_MAX_DIGITS : ∃ t, mg "MAX_DIGITS" = some (.int 3 t) := T.p0.i_MAX_DIGITS
theorem Txt.i_EDGE : ∃ t, mg "EDGE" = some (.str "edge" t) := T.p0.i_EDGE
theorem Txt.i_LEVEL : ∃ t, mg "LEVEL" = some (.str "level" t) := T.p0.i_LEVEL
theorem Txt.i_RUN : ∃ t, mg "RUN" = some (.str "run" t) := T.p0.i_RUN
theorem Txt.i_QUIET : ∃ t, mg "QUIET" = some (.str "quiet" t) := T.p0.i_QUIET
theorem Txt.i_BAR : ∃ t, mg "BAR" = some (.str "bar" t) := T.p0.i_BAR
theorem Txt.i_LATER : ∃ t, mg "LATER" = some (.str "later" t) := T.p0.i_LATER
theorem Txt.g_LINE_WORDS : mg "LINE_WORDS" = some (.ref (ga K "LINE_WORDS")) := T.p0.g_LINE_WORDS
theorem Txt.t_LINE_WORDS : ∀ H, SqT K H (ga K "LINE_WORDS") ([.str "ring", .str "quiet", .str "mask", .str "unmask"] : List V) := T.p0.t_LINE_WORDS
theorem Txt.g_FLAG_WORDS : mg "FLAG_WORDS" = some (.ref (ga K "FLAG_WORDS")) := T.p0.g_FLAG_WORDS
theorem Txt.t_FLAG_WORDS : ∀ H, SqT K H (ga K "FLAG_WORDS") ([.str "set", .str "clear", .str "await"] : List V) := T.p0.t_FLAG_WORDS
theorem Txt.g_is_integer : mg "is_integer" = some (.ref (ga K "is_integer")) := T.p0.g_is_integer
theorem Txt.g_is_word : mg "is_word" = some (.ref (ga K "is_word")) := T.p0.g_is_word
theorem Txt.g_is_name : mg "is_name" = some (.ref (ga K "is_name")) := T.p0.g_is_name
theorem Txt.g_is_line : mg "is_line" = some (.ref (ga K "is_line")) := T.p0.g_is_line
theorem Txt.g_is_work : mg "is_work" = some (.ref (ga K "is_work")) := T.p0.g_is_work
theorem Txt.g_is_step : mg "is_step" = some (.ref (ga K "is_step")) := T.p0.g_is_step
theorem Txt.g_check_lines : mg "check_lines" = some (.ref (ga K "check_lines")) := T.p0.g_check_lines
theorem Txt.g_check_works : mg "check_works" = some (.ref (ga K "check_works")) := T.p0.g_check_works
theorem Txt.g_w_taken : mg "_law_taken" = some (.ref (ga K "_law_taken")) := T.p0.g_w_taken
theorem Txt.g_w_mixed : mg "_law_mixed" = some (.ref (ga K "_law_mixed")) := T.p0.g_w_mixed
theorem Txt.g_w_step : mg "_law_step" = some (.ref (ga K "_law_step")) := T.p0.g_w_step
theorem Txt.g_w_setup : mg "_law_setup" = some (.ref (ga K "_law_setup")) := T.p1.g_w_setup
theorem Txt.g_w_raised : mg "_law_raised" = some (.ref (ga K "_law_raised")) := T.p1.g_w_raised
theorem Txt.g_w_is_number : mg "_law_is_number" = some (.ref (ga K "_law_is_number")) := T.p1.g_w_is_number
theorem Txt.g_w_is_name : mg "_law_is_name" = some (.ref (ga K "_law_is_name")) := T.p1.g_w_is_name
theorem Txt.g_w_wrong : mg "_law_wrong" = some (.ref (ga K "_law_wrong")) := T.p1.g_w_wrong
theorem Txt.g_w_first_wrong : mg "_law_first_wrong" = some (.ref (ga K "_law_first_wrong")) := T.p1.g_w_first_wrong
theorem Txt.g_w_spoilt : mg "_law_spoilt" = some (.ref (ga K "_law_spoilt")) := T.p1.g_w_spoilt
theorem Txt.g_law : mg "law" = some (.ref (ga K "law")) := T.p1.g_law
theorem Txt.F_InvalidSetup_init : FunZ K d_InvalidSetup_init := T.p1.F_InvalidSetup_init
theorem Txt.c_InvalidSetup_init : Cal K (ma K (ga K "InvalidSetup") "__init__") ["self", "part", "index"] [] := T.p1.c_InvalidSetup_init
theorem Txt.F_NotationError_init : FunZ K d_NotationError_init := T.p1.F_NotationError_init
theorem Txt.c_NotationError_init : Cal K (ma K (ga K "NotationError") "__init__") ["self", "row", "word"] [] := T.p1.c_NotationError_init
theorem Txt.F_is_integer : FunZ K d_is_integer := T.p1.F_is_integer
theorem Txt.c_is_integer : Cal K (ga K "is_integer") ["value", "low", "high"] [] := T.p1.c_is_integer
theorem Txt.F_is_word : FunZ K d_is_word := T.p1.F_is_word
theorem Txt.c_is_word : Cal K (ga K "is_word") ["value"] [] := T.p1.c_is_word
theorem Txt.F_is_name : FunZ K d_is_name := T.p1.F_is_name
theorem Txt.c_is_name : Cal K (ga K "is_name") ["value"] [] := T.p1.c_is_name
theorem Txt.F_is_line : FunZ K d_is_line := T.p1.F_is_line
theorem Txt.c_is_line : Cal K (ga K "is_line") ["line"] [] := T.p1.c_is_line
theorem Txt.F_is_work : FunZ K d_is_work := T.p1.F_is_work
theorem Txt.c_is_work : Cal K (ga K "is_work") ["work"] [] := T.p1.c_is_work
theorem Txt.F_is_step : FunZ K d_is_step := T.p1.F_is_step
theorem Txt.c_is_step : Cal K (ga K "is_step") ["step", "kinds", "works"] [] := T.p1.c_is_step
theorem Txt.F_check_lines : FunZ K d_check_lines := T.p1.F_check_lines
theorem Txt.c_check_lines : Cal K (ga K "check_lines") ["lines", "most"] [] := T.p1.c_check_lines
theorem Txt.F_check_works : FunZ K d_check_works := T.p1.F_check_works
theorem Txt.c_check_works : Cal K (ga K "check_works") ["works", "most"] [] := T.p1.c_check_works
theorem Txt.F_Setup_init : FunZ K d_Setup_init := T.p1.F_Setup_init
theorem Txt.c_Setup_init : Cal K (ma K (ga K "Setup") "__init__") ["self", "lines", "works"] [] := T.p1.c_Setup_init
theorem Txt.F_Setup_parse : FunZ K d_Setup_parse := T.p2.F_Setup_parse
theorem Txt.c_Setup_parse : Cal K (cga K (ga K "Setup") "parse") ["cls", "text"] [] := T.p2.c_Setup_parse
theorem Txt.F_Setup_text : FunZ K d_Setup_text := T.p2.F_Setup_text
theorem Txt.c_Setup_text : Cal K (pga K (ga K "Setup") "text") ["self"] [] := T.p2.c_Setup_text
theorem Txt.F_RowReader_init : FunZ K d_RowReader_init := T.p2.F_RowReader_init
theorem Txt.c_RowReader_init : Cal K (ma K (ga K "RowReader") "__init__") ["self", "line", "number"] [] := T.p2.c_RowReader_init
theorem Txt.F_RowReader_need : FunZ K d_RowReader_need := T.p2.F_RowReader_need
theorem Txt.c_RowReader_need : Cal K (ma K (ga K "RowReader") "need") ["self", "is_right"] [] := T.p2.c_RowReader_need
theorem Txt.F_RowReader_is_over : FunZ K d_RowReader_is_over := T.p2.F_RowReader_is_over
theorem Txt.c_RowReader_is_over : Cal K (ma K (ga K "RowReader") "is_over") ["self"] [] := T.p2.c_RowReader_is_over
theorem Txt.F_RowReader_is_work_row : FunZ K d_RowReader_is_work_row := T.p2.F_RowReader_is_work_row
theorem Txt.c_RowReader_is_work_row : Cal K (ma K (ga K "RowReader") "is_work_row") ["self"] [] := T.p2.c_RowReader_is_work_row
theorem Txt.F_RowReader_take : FunZ K d_RowReader_take := T.p2.F_RowReader_take
theorem Txt.c_RowReader_take : Cal K (ma K (ga K "RowReader") "take") ["self", "words"] [] := T.p2.c_RowReader_take
theorem Txt.F_RowReader_read_name : FunZ K d_RowReader_read_name := T.p2.F_RowReader_read_name
theorem Txt.c_RowReader_read_name : Cal K (ma K (ga K "RowReader") "read_name") ["self"] [] := T.p2.c_RowReader_read_name
theorem Txt.F_RowReader_read_integer : FunZ K d_RowReader_read_integer := T.p2.F_RowReader_read_integer
theorem Txt.c_RowReader_read_integer : Cal K (ma K (ga K "RowReader") "read_integer") ["self"] [] := T.p2.c_RowReader_read_integer
theorem Txt.F_RowReader_read_step : FunZ K d_RowReader_read_step := T.p2.F_RowReader_read_step
theorem Txt.c_RowReader_read_step : Cal K (ma K (ga K "RowReader") "read_step") ["self"] [] := T.p2.c_RowReader_read_step
theorem Txt.F_RowReader_read_line : FunZ K d_RowReader_read_line := T.p2.F_RowReader_read_line
theorem Txt.c_RowReader_read_line : Cal K (ma K (ga K "RowReader") "read_line") ["self"] [] := T.p2.c_RowReader_read_line
theorem Txt.F_RowReader_read_work : FunZ K d_RowReader_read_work := T.p2.F_RowReader_read_work
theorem Txt.c_RowReader_read_work : Cal K (ma K (ga K "RowReader") "read_work") ["self"] [] := T.p2.c_RowReader_read_work
theorem Txt.F_w_taken : FunZ K d_w_taken := T.p2.F_w_taken
theorem Txt.c_w_taken : Cal K (ga K "_law_taken") ["_law_row", "_law_many"] [] := T.p2.c_w_taken
theorem Txt.F_w_mixed : FunZ K d_w_mixed := T.p2.F_w_mixed
theorem Txt.c_w_mixed : Cal K (ga K "_law_mixed") ["_law_row", "_law_things"] [] := T.p2.c_w_mixed
theorem Txt.F_w_step : FunZ K d_w_step := T.p2.F_w_step
theorem Txt.c_w_step : Cal K (ga K "_law_step") ["_law_row", "_law_names", "_law_levels", "_law_works"] [] := T.p2.c_w_step
theorem Txt.F_w_setup : FunZ K d_w_setup := T.p3.F_w_setup
theorem Txt.c_w_setup : Cal K (ga K "_law_setup") ["_law_row", "_law_most"] [] := T.p3.c_w_setup
theorem Txt.F_w_raised : FunZ K d_w_raised := T.p3.F_w_raised
theorem Txt.c_w_raised : Cal K (ga K "_law_raised") ["_law_work"] [] := T.p3.c_w_raised
theorem Txt.F_w_is_number : FunZ K d_w_is_number := T.p3.F_w_is_number
theorem Txt.c_w_is_number : Cal K (ga K "_law_is_number") ["_law_word"] [] := T.p3.c_w_is_number
theorem Txt.F_w_is_name : FunZ K d_w_is_name := T.p3.F_w_is_name
theorem Txt.c_w_is_name : Cal K (ga K "_law_is_name") ["_law_word"] [] := T.p3.c_w_is_name
theorem Txt.F_w_wrong : FunZ K d_w_wrong := T.p3.F_w_wrong
theorem Txt.c_w_wrong : Cal K (ga K "_law_wrong") ["_law_words", "_law_is_behind"] [] := T.p3.c_w_wrong
theorem Txt.F_w_first_wrong : FunZ K d_w_first_wrong := T.p3.F_w_first_wrong
theorem Txt.c_w_first_wrong : Cal K (ga K "_law_first_wrong") ["_law_text"] [] := T.p3.c_w_first_wrong
theorem Txt.F_w_spoilt : FunZ K d_w_spoilt := T.p3.F_w_spoilt
theorem Txt.c_w_spoilt : Cal K (ga K "_law_spoilt") ["_law_row", "_law_text"] [] := T.p3.c_w_spoilt
theorem Txt.F_law : FunZ K d_law := T.p3.F_law
theorem Txt.g_Setup : mg "Setup" = some (.ref (ga K "Setup")) := T.p3.g_Setup
theorem Txt.cl_Setup : Cls K (ga K "Setup") := T.p3.cl_Setup
theorem Txt.mk_Setup : Mk K (ga K "Setup") (ma K (ga K "Setup") "__init__") := T.p3.mk_Setup
theorem Txt.n_Setup_line_rows : NoAttr K (ga K "Setup") "line_rows" := T.p3.n_Setup_line_rows
theorem Txt.n_Setup_work_rows : NoAttr K (ga K "Setup") "work_rows" := T.p3.n_Setup_work_rows
theorem Txt.n_Setup_rows_by_name : NoAttr K (ga K "Setup") "rows_by_name" := T.p3.n_Setup_rows_by_name
theorem Txt.n_Setup_works_by_name : NoAttr K (ga K "Setup") "works_by_name" := T.p3.n_Setup_works_by_name
theorem Txt.cm_Setup_parse : CMZ K (ga K "Setup") "parse" := T.p3.cm_Setup_parse
theorem Txt.p_Setup_text : PropOf K (ga K "Setup") "text" (ma K (ga K "Setup") "text") (pga K (ga K "Setup") "text") := T.p3.p_Setup_text
theorem Txt.k_Setup_MAX_LINES : ClsI K (ga K "Setup") "MAX_LINES" 12 := T.p3.k_Setup_MAX_LINES
theorem Txt.k_Setup_MAX_WORKS : ClsI K (ga K "Setup") "MAX_WORKS" 8 := T.p3.k_Setup_MAX_WORKS
theorem Txt.g_RowReader : mg "RowReader" = some (.ref (ga K "RowReader")) := T.p3.g_RowReader
theorem Txt.cl_RowReader : Cls K (ga K "RowReader") := T.p4.cl_RowReader
theorem Txt.mk_RowReader : Mk K (ga K "RowReader") (ma K (ga K "RowReader") "__init__") := T.p4.mk_RowReader
theorem Txt.n_RowReader_parts : NoAttr K (ga K "RowReader") "parts" := T.p4.n_RowReader_parts
theorem Txt.n_RowReader_number : NoAttr K (ga K "RowReader") "number" := T.p4.n_RowReader_number
theorem Txt.n_RowReader_spot : NoAttr K (ga K "RowReader") "spot" := T.p4.n_RowReader_spot
theorem Txt.m_RowReader_need : Meth K (ga K "RowReader") "need" (ma K (ga K "RowReader") "need") := T.p4.m_RowReader_need
theorem Txt.m_RowReader_is_over : Meth K (ga K "RowReader") "is_over" (ma K (ga K "RowReader") "is_over") := T.p4.m_RowReader_is_over
theorem Txt.m_RowReader_is_work_row : Meth K (ga K "RowReader") "is_work_row" (ma K (ga K "RowReader") "is_work_row") := T.p4.m_RowReader_is_work_row
theorem Txt.m_RowReader_take : Meth K (ga K "RowReader") "take" (ma K (ga K "RowReader") "take") := T.p4.m_RowReader_take
theorem Txt.m_RowReader_read_name : Meth K (ga K "RowReader") "read_name" (ma K (ga K "RowReader") "read_name") := T.p4.m_RowReader_read_name
theorem Txt.m_RowReader_read_integer : Meth K (ga K "RowReader") "read_integer" (ma K (ga K "RowReader") "read_integer") := T.p4.m_RowReader_read_integer
theorem Txt.m_RowReader_read_step : Meth K (ga K "RowReader") "read_step" (ma K (ga K "RowReader") "read_step") := T.p4.m_RowReader_read_step
theorem Txt.m_RowReader_read_line : Meth K (ga K "RowReader") "read_line" (ma K (ga K "RowReader") "read_line") := T.p4.m_RowReader_read_line
theorem Txt.m_RowReader_read_work : Meth K (ga K "RowReader") "read_work" (ma K (ga K "RowReader") "read_work") := T.p4.m_RowReader_read_work
theorem Txt.g_BellError : mg "BellError" = some (.ref (ga K "BellError")) := T.p4.g_BellError
theorem Txt.vi_BellError : VeIn K (ga K "BellError") := T.p4.vi_BellError
theorem Txt.g_InvalidBell : mg "InvalidBell" = some (.ref (ga K "InvalidBell")) := T.p4.g_InvalidBell
theorem Txt.xc_InvalidBell : ExcC K (ga K "InvalidBell") := T.p4.xc_InvalidBell
theorem Txt.xn_InvalidBell_index : NoAttr K (ga K "InvalidBell") "index" := T.p4.xn_InvalidBell_index
theorem Txt.g_InvalidFlag : mg "InvalidFlag" = some (.ref (ga K "InvalidFlag")) := T.p4.g_InvalidFlag
theorem Txt.g_InvalidLog : mg "InvalidLog" = some (.ref (ga K "InvalidLog")) := T.p4.g_InvalidLog
theorem Txt.g_InvalidNumber : mg "InvalidNumber" = some (.ref (ga K "InvalidNumber")) := T.p4.g_InvalidNumber
theorem Txt.g_InvalidSetup : mg "InvalidSetup" = some (.ref (ga K "InvalidSetup")) := T.p4.g_InvalidSetup
theorem Txt.xc_InvalidSetup : ExcC K (ga K "InvalidSetup") := T.p4.xc_InvalidSetup
theorem Txt.xn_InvalidSetup_part : NoAttr K (ga K "InvalidSetup") "part" := T.p4.xn_InvalidSetup_part
theorem Txt.xn_InvalidSetup_index : NoAttr K (ga K "InvalidSetup") "index" := T.p5.xn_InvalidSetup_index
theorem Txt.g_NotLevel : mg "NotLevel" = some (.ref (ga K "NotLevel")) := T.p5.g_NotLevel
theorem Txt.g_NotPlain : mg "NotPlain" = some (.ref (ga K "NotPlain")) := T.p5.g_NotPlain
theorem Txt.g_NotationError : mg "NotationError" = some (.ref (ga K "NotationError")) := T.p5.g_NotationError
theorem Txt.xc_NotationError : ExcC K (ga K "NotationError") := T.p5.xc_NotationError
theorem Txt.xn_NotationError_row : NoAttr K (ga K "NotationError") "row" := T.p5.xn_NotationError_row
theorem Txt.xn_NotationError_word : NoAttr K (ga K "NotationError") "word" := T.p5.xn_NotationError_word
theorem Txt.g_TooDense : mg "TooDense" = some (.ref (ga K "TooDense")) := T.p5.g_TooDense
theorem Txt.g_TooMany : mg "TooMany" = some (.ref (ga K "TooMany")) := T.p5.g_TooMany
theorem Txt.g_UnknownLine : mg "UnknownLine" = some (.ref (ga K "UnknownLine")) := T.p5.g_UnknownLine
theorem Txt.xc_UnknownLine : ExcC K (ga K "UnknownLine") := T.p5.xc_UnknownLine
theorem Txt.xn_UnknownLine_line : NoAttr K (ga K "UnknownLine") "line" := T.p5.xn_UnknownLine_line
theorem Txt.xo_InvalidSetup : OexC K (ga K "InvalidSetup") := T.p5.xo_InvalidSetup
theorem Txt.xi_InvalidSetup : OexI K (ga K "InvalidSetup") (ma K (ga K "InvalidSetup") "__init__") := T.p5.xi_InvalidSetup
theorem Txt.xm_InvalidSetup : PySem.W.exmOne K (.ref (ga K "InvalidSetup")) (.ref (ga K "BellError")) = some true := T.p5.xm_InvalidSetup
theorem Txt.xv_InvalidSetup : PySem.W.kitOne K (.ref (ga K "InvalidSetup")) (.type "ValueError") = some true := T.p5.xv_InvalidSetup
theorem Txt.xk_InvalidSetup_InvalidSetup : PySem.W.kitOne K (.ref (ga K "InvalidSetup")) (.ref (ga K "InvalidSetup")) = some true := T.p5.xk_InvalidSetup_InvalidSetup
theorem Txt.xk_InvalidSetup_UnknownLine : PySem.W.kitOne K (.ref (ga K "InvalidSetup")) (.ref (ga K "UnknownLine")) = some false := T.p5.xk_InvalidSetup_UnknownLine
theorem Txt.xk_InvalidSetup_NotLevel : PySem.W.kitOne K (.ref (ga K "InvalidSetup")) (.ref (ga K "NotLevel")) = some false := T.p5.xk_InvalidSetup_NotLevel
theorem Txt.xk_InvalidSetup_InvalidNumber : PySem.W.kitOne K (.ref (ga K "InvalidSetup")) (.ref (ga K "InvalidNumber")) = some false := T.p5.xk_InvalidSetup_InvalidNumber
theorem Txt.xk_InvalidSetup_InvalidFlag : PySem.W.kitOne K (.ref (ga K "InvalidSetup")) (.ref (ga K "InvalidFlag")) = some false := T.p5.xk_InvalidSetup_InvalidFlag
theorem Txt.xk_InvalidSetup_InvalidBell : PySem.W.kitOne K (.ref (ga K "InvalidSetup")) (.ref (ga K "InvalidBell")) = some false := T.p5.xk_InvalidSetup_InvalidBell
theorem Txt.xk_InvalidSetup_TooMany : PySem.W.kitOne K (.ref (ga K "InvalidSetup")) (.ref (ga K "TooMany")) = some false := T.p5.xk_InvalidSetup_TooMany
theorem Txt.xk_InvalidSetup_NotPlain : PySem.W.kitOne K (.ref (ga K "InvalidSetup")) (.ref (ga K "NotPlain")) = some false := T.p5.xk_InvalidSetup_NotPlain
theorem Txt.xk_InvalidSetup_TooDense : PySem.W.kitOne K (.ref (ga K "InvalidSetup")) (.ref (ga K "TooDense")) = some false := T.p6.xk_InvalidSetup_TooDense
theorem Txt.xk_InvalidSetup_InvalidLog : PySem.W.kitOne K (.ref (ga K "InvalidSetup")) (.ref (ga K "InvalidLog")) = some false := T.p6.xk_InvalidSetup_InvalidLog
theorem Txt.xk_InvalidSetup_NotationError : PySem.W.kitOne K (.ref (ga K "InvalidSetup")) (.ref (ga K "NotationError")) = some false := T.p6.xk_InvalidSetup_NotationError
theorem Txt.xo_NotationError : OexC K (ga K "NotationError") := T.p6.xo_NotationError
theorem Txt.xi_NotationError : OexI K (ga K "NotationError") (ma K (ga K "NotationError") "__init__") := T.p6.xi_NotationError
theorem Txt.xm_NotationError : PySem.W.exmOne K (.ref (ga K "NotationError")) (.ref (ga K "BellError")) = some true := T.p6.xm_NotationError
theorem Txt.xv_NotationError : PySem.W.kitOne K (.ref (ga K "NotationError")) (.type "ValueError") = some true := T.p6.xv_NotationError
theorem Txt.xk_NotationError_InvalidSetup : PySem.W.kitOne K (.ref (ga K "NotationError")) (.ref (ga K "InvalidSetup")) = some false := T.p6.xk_NotationError_InvalidSetup
theorem Txt.xk_NotationError_UnknownLine : PySem.W.kitOne K (.ref (ga K "NotationError")) (.ref (ga K "UnknownLine")) = some false := T.p6.xk_NotationError_UnknownLine
theorem Txt.xk_NotationError_NotLevel : PySem.W.kitOne K (.ref (ga K "NotationError")) (.ref (ga K "NotLevel")) = some false := T.p6.xk_NotationError_NotLevel
theorem Txt.xk_NotationError_InvalidNumber : PySem.W.kitOne K (.ref (ga K "NotationError")) (.ref (ga K "InvalidNumber")) = some false := T.p6.xk_NotationError_InvalidNumber
theorem Txt.xk_NotationError_InvalidFlag : PySem.W.kitOne K (.ref (ga K "NotationError")) (.ref (ga K "InvalidFlag")) = some false := T.p6.xk_NotationError_InvalidFlag
theorem Txt.xk_NotationError_InvalidBell : PySem.W.kitOne K (.ref (ga K "NotationError")) (.ref (ga K "InvalidBell")) = some false := T.p6.xk_NotationError_InvalidBell
theorem Txt.xk_NotationError_TooMany : PySem.W.kitOne K (.ref (ga K "NotationError")) (.ref (ga K "TooMany")) = some false := T.p6.xk_NotationError_TooMany
theorem Txt.xk_NotationError_NotPlain : PySem.W.kitOne K (.ref (ga K "NotationError")) (.ref (ga K "NotPlain")) = some false := T.p6.xk_NotationError_NotPlain
theorem Txt.xk_NotationError_TooDense : PySem.W.kitOne K (.ref (ga K "NotationError")) (.ref (ga K "TooDense")) = some false := T.p6.xk_NotationError_TooDense
theorem Txt.xk_NotationError_InvalidLog : PySem.W.kitOne K (.ref (ga K "NotationError")) (.ref (ga K "InvalidLog")) = some false := T.p6.xk_NotationError_InvalidLog
theorem Txt.xk_NotationError_NotationError : PySem.W.kitOne K (.ref (ga K "NotationError")) (.ref (ga K "NotationError")) = some true := T.p6.xk_NotationError_NotationError
theorem Txt.u_isinstance : mg "isinstance" = none := T.p6.u_isinstance
theorem Txt.u_bool : mg "bool" = none := T.p6.u_bool
theorem Txt.u_int : mg "int" = none := T.p6.u_int
theorem Txt.u_all : mg "all" = none := T.p6.u_all
theorem Txt.u_str : mg "str" = none := T.p6.u_str
theorem Txt.u_len : mg "len" = none := T.p6.u_len
theorem Txt.u_tuple : mg "tuple" = none := T.p6.u_tuple
theorem Txt.u_enumerate : mg "enumerate" = none := T.p6.u_enumerate
theorem Txt.u_list : mg "list" = none := T.p6.u_list
theorem Txt.u_range : mg "range" = none := T.p6.u_range
theorem Txt.u_ValueError : mg "ValueError" = none := T.p6.u_ValueError
end
theorem _root_.Z.SaysZ.factC {fa : List (Fg → Bool)} {fn : List DefZ} {K : Fg} (c : SaysZ fa fn K) (l : List (Fg → Bool)) (i : Nat) (s : ∀ f, f ∈ l → f ∈ fa) {f : Fg → Bool} (h : l[i]? = some f) : f K = true := by
  obtain ⟨j, hj, e⟩ := List.mem_iff_getElem.mp (s f (List.mem_of_getElem? h))
  exact c.fact j (by rw [List.getElem?_eq_getElem hj, e])
theorem _root_.Z.SaysZ.defC {fa : List (Fg → Bool)} {fn : List DefZ} {K : Fg} (c : SaysZ fa fn K) (l : List DefZ) (i : Nat) (s : ∀ f, f ∈ l → f ∈ fn) {d : DefZ} (h : l[i]? = some d) : FunZ K d := by
  obtain ⟨j, hj, e⟩ := List.mem_iff_getElem.mp (s d (List.mem_of_getElem? h))
  exact c.def_ j (by rw [List.getElem?_eq_getElem hj, e])
def fa_0 : List (Fg → Bool) := [fStr "LETTERS" "abcdefghijklmnopqrstuvwxyz", fStr "DIGITS" "0123456789", fInt "MAX_NAME" 8, fInt "MAX_RANK" 9, fInt "MAX_STEPS" 8, fInt "MAX_TICKS" 99, fInt "MAX_FLAG" 7, fInt "MAX_DIGITS" 3, fStr "EDGE" "edge", fStr "LEVEL" "level", fStr "RUN" "run", fStr "QUIET" "quiet", fStr "AWAIT" "await", fStr "BAR" "bar", fStr "LATER" "later", fGlo "LINE_WORDS", fTup "LINE_WORDS" [.str "ring", .str "quiet", .str "mask", .str "unmask"], fGlo "FLAG_WORDS", fTup "FLAG_WORDS" [.str "set", .str "clear", .str "await"], fGlo "is_integer", fGlo "is_word", fGlo "is_name", fGlo "is_line", fGlo "is_work", fGlo "is_step", fGlo "check_lines", fGlo "check_works", fGlo "_law_taken", fGlo "_law_mixed", fGlo "_law_step"]
def fa_1 : List (Fg → Bool) := [fGlo "_law_setup", fGlo "_law_raised", fGlo "_law_is_number", fGlo "_law_is_name", fGlo "_law_wrong", fGlo "_law_first_wrong", fGlo "_law_spoilt", fGlo "law", fGlo "Setup", fCls "Setup", fMk "Setup", fNo "Setup" "line_rows", fNo "Setup" "work_rows", fNo "Setup" "rows_by_name", fNo "Setup" "works_by_name", fMeth "Setup" "__init__", fCm "Setup" "parse", fProp "Setup" "text", fClsI "Setup" "MAX_LINES" 12, fClsI "Setup" "MAX_WORKS" 8, fClsI "Setup" "MAX_FLAG" 7, fGlo "RowReader", fCls "RowReader", fMk "RowReader", fNo "RowReader" "parts", fNo "RowReader" "number", fNo "RowReader" "spot", fMeth "RowReader" "__init__", fMeth "RowReader" "need", fMeth "RowReader" "is_over"]
def fa_2 : List (Fg → Bool) := [fMeth "RowReader" "is_work_row", fMeth "RowReader" "take", fMeth "RowReader" "read_name", fMeth "RowReader" "read_integer", fMeth "RowReader" "read_step", fMeth "RowReader" "read_line", fMeth "RowReader" "read_work", fGlo "BellError", fVeIn "BellError", fGlo "InvalidBell", excCB "InvalidBell", fNo "InvalidBell" "index", fGlo "InvalidFlag", excCB "InvalidFlag", fGlo "InvalidLog", excCB "InvalidLog", fNo "InvalidLog" "index", fGlo "InvalidNumber", excCB "InvalidNumber", fGlo "InvalidSetup", excCB "InvalidSetup", fNo "InvalidSetup" "part", fNo "InvalidSetup" "index", fGlo "NotLevel", excCB "NotLevel", fNo "NotLevel" "line", fGlo "NotPlain", excCB "NotPlain", fGlo "NotationError", excCB "NotationError"]
def fa_3 : List (Fg → Bool) := [fNo "NotationError" "row", fNo "NotationError" "word", fGlo "TooDense", excCB "TooDense", fNo "TooDense" "line", fGlo "TooMany", excCB "TooMany", fGlo "UnknownLine", excCB "UnknownLine", fNo "UnknownLine" "line", oexB "InvalidSetup", fOexI "InvalidSetup", (fun K => (He.Fa.exm "InvalidSetup" "BellError" true).ok K), (fun K => PySem.W.kitOne K (.ref (ga K "InvalidSetup")) (.type "ValueError") == some true), (fun K => PySem.W.kitOne K (.ref (ga K "InvalidSetup")) (.ref (ga K "InvalidSetup")) == some true), (fun K => PySem.W.kitOne K (.ref (ga K "InvalidSetup")) (.ref (ga K "UnknownLine")) == some false), (fun K => PySem.W.kitOne K (.ref (ga K "InvalidSetup")) (.ref (ga K "NotLevel")) == some false), (fun K => PySem.W.kitOne K (.ref (ga K "InvalidSetup")) (.ref (ga K "InvalidNumber")) == some false), (fun K => PySem.W.kitOne K (.ref (ga K "InvalidSetup")) (.ref (ga K "InvalidFlag")) == some false), (fun K => PySem.W.kitOne K (.ref (ga K "InvalidSetup")) (.ref (ga K "InvalidBell")) == some false), (fun K => PySem.W.kitOne K (.ref (ga K "InvalidSetup")) (.ref (ga K "TooMany")) == some false), (fun K => PySem.W.kitOne K (.ref (ga K "InvalidSetup")) (.ref (ga K "NotPlain")) == some false), (fun K => PySem.W.kitOne K (.ref (ga K "InvalidSetup")) (.ref (ga K "TooDense")) == some false), (fun K => PySem.W.kitOne K (.ref (ga K "InvalidSetup")) (.ref (ga K "InvalidLog")) == some false), (fun K => PySem.W.kitOne K (.ref (ga K "InvalidSetup")) (.ref (ga K "NotationError")) == some false), oexB "NotationError", fOexI "NotationError", (fun K => (He.Fa.exm "NotationError" "BellError" true).ok K), (fun K => PySem.W.kitOne K (.ref (ga K "NotationError")) (.type "ValueError") == some true), (fun K => PySem.W.kitOne K (.ref (ga K "NotationError")) (.ref (ga K "InvalidSetup")) == some false)]
def fa_4 : List (Fg → Bool) := [(fun K => PySem.W.kitOne K (.ref (ga K "NotationError")) (.ref (ga K "UnknownLine")) == some false), (fun K => PySem.W.kitOne K (.ref (ga K "NotationError")) (.ref (ga K "NotLevel")) == some false), (fun K => PySem.W.kitOne K (.ref (ga K "NotationError")) (.ref (ga K "InvalidNumber")) == some false), (fun K => PySem.W.kitOne K (.ref (ga K "NotationError")) (.ref (ga K "InvalidFlag")) == some false), (fun K => PySem.W.kitOne K (.ref (ga K "NotationError")) (.ref (ga K "InvalidBell")) == some false), (fun K => PySem.W.kitOne K (.ref (ga K "NotationError")) (.ref (ga K "TooMany")) == some false), (fun K => PySem.W.kitOne K (.ref (ga K "NotationError")) (.ref (ga K "NotPlain")) == some false), (fun K => PySem.W.kitOne K (.ref (ga K "NotationError")) (.ref (ga K "TooDense")) == some false), (fun K => PySem.W.kitOne K (.ref (ga K "NotationError")) (.ref (ga K "InvalidLog")) == some false), (fun K => PySem.W.kitOne K (.ref (ga K "NotationError")) (.ref (ga K "NotationError")) == some true), fFree "isinstance", fFree "bool", fFree "int", fFree "all", fFree "str", fFree "len", fFree "tuple", fFree "enumerate", fFree "list", fFree "range", fFree "ValueError"]
def fa : List (Fg → Bool) := fa_0 ++ (fa_1 ++ (fa_2 ++ (fa_3 ++ (fa_4))))
def fn_0 : List DefZ := [d_InvalidSetup_init, d_NotationError_init, d_is_integer, d_is_word, d_is_name, d_is_line, d_is_work, d_is_step, d_check_lines, d_check_works, d_Setup_init, d_Setup_parse, d_Setup_text, d_RowReader_init, d_RowReader_need, d_RowReader_is_over, d_RowReader_is_work_row, d_RowReader_take, d_RowReader_read_name, d_RowReader_read_integer, d_RowReader_read_step, d_RowReader_read_line, d_RowReader_read_work, d_w_taken, d_w_mixed, d_w_step, d_w_setup, d_w_raised, d_w_is_number, d_w_is_name]
def fn_1 : List DefZ := [d_w_wrong, d_w_first_wrong, d_w_spoilt, d_law]
def fn : List DefZ := fn_0 ++ (fn_1)
theorem ia_0 : ∀ f, f ∈ fa_0 → f ∈ fa := fun f h => List.mem_append_left _ h
theorem ia_1 : ∀ f, f ∈ fa_1 → f ∈ fa := fun f h => List.mem_append_right _ (List.mem_append_left _ h)
theorem ia_2 : ∀ f, f ∈ fa_2 → f ∈ fa := fun f h => List.mem_append_right _ (List.mem_append_right _ (List.mem_append_left _ h))
theorem ia_3 : ∀ f, f ∈ fa_3 → f ∈ fa := fun f h => List.mem_append_right _ (List.mem_append_right _ (List.mem_append_right _ (List.mem_append_left _ h)))
theorem ia_4 : ∀ f, f ∈ fa_4 → f ∈ fa := fun f h => List.mem_append_right _ (List.mem_append_right _ (List.mem_append_right _ (List.mem_append_right _ (h))))
theorem in_0 : ∀ f, f ∈ fn_0 → f ∈ fn := fun f h => List.mem_append_left _ h
theorem in_1 : ∀ f, f ∈ fn_1 → f ∈ fn := fun f h => List.mem_append_right _ (h)
theorem txt_of {K : Fg} {h : Heap} {mg : Str → Option Value} (X : K.In h) (G : h.Ns mainGlobals mg) (c : SaysZ fa fn K) : Txt K mg where
  p0 := ⟨He.str_ok X G (c.factC fa_0 0 ia_0 rfl), He.str_ok X G (c.factC fa_0 1 ia_0 rfl), He.int_ok X G (c.factC fa_0 2 ia_0 rfl), He.int_ok X G (c.factC fa_0 3 ia_0 rfl), He.int_ok X G (c.factC fa_0 4 ia_0 rfl), He.int_ok X G (c.factC fa_0 5 ia_0 rfl), He.int_ok X G (c.factC fa_0 6 ia_0 rfl), He.int_ok X G (c.factC fa_0 7 ia_0 rfl), He.str_ok X G (c.factC fa_0 8 ia_0 rfl), He.str_ok X G (c.factC fa_0 9 ia_0 rfl), He.str_ok X G (c.factC fa_0 10 ia_0 rfl), He.str_ok X G (c.factC fa_0 11 ia_0 rfl), He.str_ok X G (c.factC fa_0 12 ia_0 rfl), He.str_ok X G (c.factC fa_0 13 ia_0 rfl), He.str_ok X G (c.factC fa_0 14 ia_0 rfl), He.glo_ok X G (c.factC fa_0 15 ia_0 rfl), (fun H => He.tupB_ok (c.factC fa_0 16 ia_0 rfl) H), He.glo_ok X G (c.factC fa_0 17 ia_0 rfl), (fun H => He.tupB_ok (c.factC fa_0 18 ia_0 rfl) H), He.glo_ok X G (c.factC fa_0 19 ia_0 rfl), He.glo_ok X G (c.factC fa_0 20 ia_0 rfl), He.glo_ok X G (c.factC fa_0 21 ia_0 rfl), He.glo_ok X G (c.factC fa_0 22 ia_0 rfl), He.glo_ok X G (c.factC fa_0 23 ia_0 rfl), He.glo_ok X G (c.factC fa_0 24 ia_0 rfl), He.glo_ok X G (c.factC fa_0 25 ia_0 rfl), He.glo_ok X G (c.factC fa_0 26 ia_0 rfl), He.glo_ok X G (c.factC fa_0 27 ia_0 rfl), He.glo_ok X G (c.factC fa_0 28 ia_0 rfl), He.glo_ok X G (c.factC fa_0 29 ia_0 rfl)⟩
  p1 := ⟨He.glo_ok X G (c.factC fa_1 0 ia_1 rfl), He.glo_ok X G (c.factC fa_1 1 ia_1 rfl), He.glo_ok X G (c.factC fa_1 2 ia_1 rfl), He.glo_ok X G (c.factC fa_1 3 ia_1 rfl), He.glo_ok X G (c.factC fa_1 4 ia_1 rfl), He.glo_ok X G (c.factC fa_1 5 ia_1 rfl), He.glo_ok X G (c.factC fa_1 6 ia_1 rfl), He.glo_ok X G (c.factC fa_1 7 ia_1 rfl), (c.defC fn_0 0 in_0 rfl), ⟨(c.defC fn_0 0 in_0 (d := d_InvalidSetup_init) rfl).kp, [], FunD.bindsN (c.defC fn_0 0 in_0 (d := d_InvalidSetup_init) rfl) (fun _ _ _ _ _ _ us hl => match us, hl with | [_, _, _], _ => rfl), .nil⟩, (c.defC fn_0 1 in_0 rfl), ⟨(c.defC fn_0 1 in_0 (d := d_NotationError_init) rfl).kp, [], FunD.bindsN (c.defC fn_0 1 in_0 (d := d_NotationError_init) rfl) (fun _ _ _ _ _ _ us hl => match us, hl with | [_, _, _], _ => rfl), .nil⟩, (c.defC fn_0 2 in_0 rfl), ⟨(c.defC fn_0 2 in_0 (d := d_is_integer) rfl).kp, [], FunD.bindsN (c.defC fn_0 2 in_0 (d := d_is_integer) rfl) (fun _ _ _ _ _ _ us hl => match us, hl with | [_, _, _], _ => rfl), .nil⟩, (c.defC fn_0 3 in_0 rfl), ⟨(c.defC fn_0 3 in_0 (d := d_is_word) rfl).kp, [], FunD.bindsN (c.defC fn_0 3 in_0 (d := d_is_word) rfl) (fun _ _ _ _ _ _ us hl => match us, hl with | [_], _ => rfl), .nil⟩, (c.defC fn_0 4 in_0 rfl), ⟨(c.defC fn_0 4 in_0 (d := d_is_name) rfl).kp, [], FunD.bindsN (c.defC fn_0 4 in_0 (d := d_is_name) rfl) (fun _ _ _ _ _ _ us hl => match us, hl with | [_], _ => rfl), .nil⟩, (c.defC fn_0 5 in_0 rfl), ⟨(c.defC fn_0 5 in_0 (d := d_is_line) rfl).kp, [], FunD.bindsN (c.defC fn_0 5 in_0 (d := d_is_line) rfl) (fun _ _ _ _ _ _ us hl => match us, hl with | [_], _ => rfl), .nil⟩, (c.defC fn_0 6 in_0 rfl), ⟨(c.defC fn_0 6 in_0 (d := d_is_work) rfl).kp, [], FunD.bindsN (c.defC fn_0 6 in_0 (d := d_is_work) rfl) (fun _ _ _ _ _ _ us hl => match us, hl with | [_], _ => rfl), .nil⟩, (c.defC fn_0 7 in_0 rfl), ⟨(c.defC fn_0 7 in_0 (d := d_is_step) rfl).kp, [], FunD.bindsN (c.defC fn_0 7 in_0 (d := d_is_step) rfl) (fun _ _ _ _ _ _ us hl => match us, hl with | [_, _, _], _ => rfl), .nil⟩, (c.defC fn_0 8 in_0 rfl), ⟨(c.defC fn_0 8 in_0 (d := d_check_lines) rfl).kp, [], FunD.bindsN (c.defC fn_0 8 in_0 (d := d_check_lines) rfl) (fun _ _ _ _ _ _ us hl => match us, hl with | [_, _], _ => rfl), .nil⟩, (c.defC fn_0 9 in_0 rfl), ⟨(c.defC fn_0 9 in_0 (d := d_check_works) rfl).kp, [], FunD.bindsN (c.defC fn_0 9 in_0 (d := d_check_works) rfl) (fun _ _ _ _ _ _ us hl => match us, hl with | [_, _], _ => rfl), .nil⟩, (c.defC fn_0 10 in_0 rfl), calD (c.defC fn_0 10 in_0 (d := d_Setup_init) rfl) 3 (by simp [d_Setup_init]) rfl (fun _ _ _ _ _ _ _ us its hl hi => match us, its, hl, hi with | [_, _, _], [_], _, _ => ⟨_, rfl, rfl⟩)⟩
  p2 := ⟨(c.defC fn_0 11 in_0 rfl), ⟨(c.defC fn_0 11 in_0 (d := d_Setup_parse) rfl).kp, [], FunD.bindsN (c.defC fn_0 11 in_0 (d := d_Setup_parse) rfl) (fun _ _ _ _ _ _ us hl => match us, hl with | [_, _], _ => rfl), .nil⟩, (c.defC fn_0 12 in_0 rfl), ⟨(c.defC fn_0 12 in_0 (d := d_Setup_text) rfl).kp, [], FunD.bindsN (c.defC fn_0 12 in_0 (d := d_Setup_text) rfl) (fun _ _ _ _ _ _ us hl => match us, hl with | [_], _ => rfl), .nil⟩, (c.defC fn_0 13 in_0 rfl), ⟨(c.defC fn_0 13 in_0 (d := d_RowReader_init) rfl).kp, [], FunD.bindsN (c.defC fn_0 13 in_0 (d := d_RowReader_init) rfl) (fun _ _ _ _ _ _ us hl => match us, hl with | [_, _, _], _ => rfl), .nil⟩, (c.defC fn_0 14 in_0 rfl), ⟨(c.defC fn_0 14 in_0 (d := d_RowReader_need) rfl).kp, [], FunD.bindsN (c.defC fn_0 14 in_0 (d := d_RowReader_need) rfl) (fun _ _ _ _ _ _ us hl => match us, hl with | [_, _], _ => rfl), .nil⟩, (c.defC fn_0 15 in_0 rfl), ⟨(c.defC fn_0 15 in_0 (d := d_RowReader_is_over) rfl).kp, [], FunD.bindsN (c.defC fn_0 15 in_0 (d := d_RowReader_is_over) rfl) (fun _ _ _ _ _ _ us hl => match us, hl with | [_], _ => rfl), .nil⟩, (c.defC fn_0 16 in_0 rfl), ⟨(c.defC fn_0 16 in_0 (d := d_RowReader_is_work_row) rfl).kp, [], FunD.bindsN (c.defC fn_0 16 in_0 (d := d_RowReader_is_work_row) rfl) (fun _ _ _ _ _ _ us hl => match us, hl with | [_], _ => rfl), .nil⟩, (c.defC fn_0 17 in_0 rfl), ⟨(c.defC fn_0 17 in_0 (d := d_RowReader_take) rfl).kp, [], FunD.bindsN (c.defC fn_0 17 in_0 (d := d_RowReader_take) rfl) (fun _ _ _ _ _ _ us hl => match us, hl with | [_, _], _ => rfl), .nil⟩, (c.defC fn_0 18 in_0 rfl), ⟨(c.defC fn_0 18 in_0 (d := d_RowReader_read_name) rfl).kp, [], FunD.bindsN (c.defC fn_0 18 in_0 (d := d_RowReader_read_name) rfl) (fun _ _ _ _ _ _ us hl => match us, hl with | [_], _ => rfl), .nil⟩, (c.defC fn_0 19 in_0 rfl), ⟨(c.defC fn_0 19 in_0 (d := d_RowReader_read_integer) rfl).kp, [], FunD.bindsN (c.defC fn_0 19 in_0 (d := d_RowReader_read_integer) rfl) (fun _ _ _ _ _ _ us hl => match us, hl with | [_], _ => rfl), .nil⟩, (c.defC fn_0 20 in_0 rfl), ⟨(c.defC fn_0 20 in_0 (d := d_RowReader_read_step) rfl).kp, [], FunD.bindsN (c.defC fn_0 20 in_0 (d := d_RowReader_read_step) rfl) (fun _ _ _ _ _ _ us hl => match us, hl with | [_], _ => rfl), .nil⟩, (c.defC fn_0 21 in_0 rfl), ⟨(c.defC fn_0 21 in_0 (d := d_RowReader_read_line) rfl).kp, [], FunD.bindsN (c.defC fn_0 21 in_0 (d := d_RowReader_read_line) rfl) (fun _ _ _ _ _ _ us hl => match us, hl with | [_], _ => rfl), .nil⟩, (c.defC fn_0 22 in_0 rfl), ⟨(c.defC fn_0 22 in_0 (d := d_RowReader_read_work) rfl).kp, [], FunD.bindsN (c.defC fn_0 22 in_0 (d := d_RowReader_read_work) rfl) (fun _ _ _ _ _ _ us hl => match us, hl with | [_], _ => rfl), .nil⟩, (c.defC fn_0 23 in_0 rfl), ⟨(c.defC fn_0 23 in_0 (d := d_w_taken) rfl).kp, [], FunD.bindsN (c.defC fn_0 23 in_0 (d := d_w_taken) rfl) (fun _ _ _ _ _ _ us hl => match us, hl with | [_, _], _ => rfl), .nil⟩, (c.defC fn_0 24 in_0 rfl), ⟨(c.defC fn_0 24 in_0 (d := d_w_mixed) rfl).kp, [], FunD.bindsN (c.defC fn_0 24 in_0 (d := d_w_mixed) rfl) (fun _ _ _ _ _ _ us hl => match us, hl with | [_, _], _ => rfl), .nil⟩, (c.defC fn_0 25 in_0 rfl), ⟨(c.defC fn_0 25 in_0 (d := d_w_step) rfl).kp, [], FunD.bindsN (c.defC fn_0 25 in_0 (d := d_w_step) rfl) (fun _ _ _ _ _ _ us hl => match us, hl with | [_, _, _, _], _ => rfl), .nil⟩⟩
  p3 := ⟨(c.defC fn_0 26 in_0 rfl), ⟨(c.defC fn_0 26 in_0 (d := d_w_setup) rfl).kp, [], FunD.bindsN (c.defC fn_0 26 in_0 (d := d_w_setup) rfl) (fun _ _ _ _ _ _ us hl => match us, hl with | [_, _], _ => rfl), .nil⟩, (c.defC fn_0 27 in_0 rfl), ⟨(c.defC fn_0 27 in_0 (d := d_w_raised) rfl).kp, [], FunD.bindsN (c.defC fn_0 27 in_0 (d := d_w_raised) rfl) (fun _ _ _ _ _ _ us hl => match us, hl with | [_], _ => rfl), .nil⟩, (c.defC fn_0 28 in_0 rfl), ⟨(c.defC fn_0 28 in_0 (d := d_w_is_number) rfl).kp, [], FunD.bindsN (c.defC fn_0 28 in_0 (d := d_w_is_number) rfl) (fun _ _ _ _ _ _ us hl => match us, hl with | [_], _ => rfl), .nil⟩, (c.defC fn_0 29 in_0 rfl), ⟨(c.defC fn_0 29 in_0 (d := d_w_is_name) rfl).kp, [], FunD.bindsN (c.defC fn_0 29 in_0 (d := d_w_is_name) rfl) (fun _ _ _ _ _ _ us hl => match us, hl with | [_], _ => rfl), .nil⟩, (c.defC fn_1 0 in_1 rfl), ⟨(c.defC fn_1 0 in_1 (d := d_w_wrong) rfl).kp, [], FunD.bindsN (c.defC fn_1 0 in_1 (d := d_w_wrong) rfl) (fun _ _ _ _ _ _ us hl => match us, hl with | [_, _], _ => rfl), .nil⟩, (c.defC fn_1 1 in_1 rfl), ⟨(c.defC fn_1 1 in_1 (d := d_w_first_wrong) rfl).kp, [], FunD.bindsN (c.defC fn_1 1 in_1 (d := d_w_first_wrong) rfl) (fun _ _ _ _ _ _ us hl => match us, hl with | [_], _ => rfl), .nil⟩, (c.defC fn_1 2 in_1 rfl), ⟨(c.defC fn_1 2 in_1 (d := d_w_spoilt) rfl).kp, [], FunD.bindsN (c.defC fn_1 2 in_1 (d := d_w_spoilt) rfl) (fun _ _ _ _ _ _ us hl => match us, hl with | [_, _], _ => rfl), .nil⟩, (c.defC fn_1 3 in_1 rfl), ⟨(c.defC fn_1 3 in_1 (d := d_law) rfl).kp, [], FunD.bindsN (c.defC fn_1 3 in_1 (d := d_law) rfl) (fun _ _ _ _ _ _ us hl => match us, hl with | [_], _ => rfl), .nil⟩, He.glo_ok X G (c.factC fa_1 8 ia_1 rfl), He.cls_ok (c.factC fa_1 9 ia_1 rfl), He.mkr_ok (c.factC fa_1 10 ia_1 rfl), He.noat_ok (c.factC fa_1 11 ia_1 rfl), He.noat_ok (c.factC fa_1 12 ia_1 rfl), He.noat_ok (c.factC fa_1 13 ia_1 rfl), He.noat_ok (c.factC fa_1 14 ia_1 rfl), He.meth_ok (c.factC fa_1 15 ia_1 rfl), fCm_ok (c.factC fa_1 16 ia_1 rfl), fProp_ok (c.factC fa_1 17 ia_1 rfl), fClsI_ok (c.factC fa_1 18 ia_1 rfl), fClsI_ok (c.factC fa_1 19 ia_1 rfl), fClsI_ok (c.factC fa_1 20 ia_1 rfl), He.glo_ok X G (c.factC fa_1 21 ia_1 rfl)⟩
  p4 := ⟨He.cls_ok (c.factC fa_1 22 ia_1 rfl), He.mkr_ok (c.factC fa_1 23 ia_1 rfl), He.noat_ok (c.factC fa_1 24 ia_1 rfl), He.noat_ok (c.factC fa_1 25 ia_1 rfl), He.noat_ok (c.factC fa_1 26 ia_1 rfl), He.meth_ok (c.factC fa_1 27 ia_1 rfl), He.meth_ok (c.factC fa_1 28 ia_1 rfl), He.meth_ok (c.factC fa_1 29 ia_1 rfl), He.meth_ok (c.factC fa_2 0 ia_2 rfl), He.meth_ok (c.factC fa_2 1 ia_2 rfl), He.meth_ok (c.factC fa_2 2 ia_2 rfl), He.meth_ok (c.factC fa_2 3 ia_2 rfl), He.meth_ok (c.factC fa_2 4 ia_2 rfl), He.meth_ok (c.factC fa_2 5 ia_2 rfl), He.meth_ok (c.factC fa_2 6 ia_2 rfl), He.glo_ok X G (c.factC fa_2 7 ia_2 rfl), fVeIn_ok (c.factC fa_2 8 ia_2 rfl), He.glo_ok X G (c.factC fa_2 9 ia_2 rfl), excCB_ok (c.factC fa_2 10 ia_2 rfl), He.noat_ok (c.factC fa_2 11 ia_2 rfl), He.glo_ok X G (c.factC fa_2 12 ia_2 rfl), excCB_ok (c.factC fa_2 13 ia_2 rfl), He.glo_ok X G (c.factC fa_2 14 ia_2 rfl), excCB_ok (c.factC fa_2 15 ia_2 rfl), He.noat_ok (c.factC fa_2 16 ia_2 rfl), He.glo_ok X G (c.factC fa_2 17 ia_2 rfl), excCB_ok (c.factC fa_2 18 ia_2 rfl), He.glo_ok X G (c.factC fa_2 19 ia_2 rfl), excCB_ok (c.factC fa_2 20 ia_2 rfl), He.noat_ok (c.factC fa_2 21 ia_2 rfl)⟩
  p5 := ⟨He.noat_ok (c.factC fa_2 22 ia_2 rfl), He.glo_ok X G (c.factC fa_2 23 ia_2 rfl), excCB_ok (c.factC fa_2 24 ia_2 rfl), He.noat_ok (c.factC fa_2 25 ia_2 rfl), He.glo_ok X G (c.factC fa_2 26 ia_2 rfl), excCB_ok (c.factC fa_2 27 ia_2 rfl), He.glo_ok X G (c.factC fa_2 28 ia_2 rfl), excCB_ok (c.factC fa_2 29 ia_2 rfl), He.noat_ok (c.factC fa_3 0 ia_3 rfl), He.noat_ok (c.factC fa_3 1 ia_3 rfl), He.glo_ok X G (c.factC fa_3 2 ia_3 rfl), excCB_ok (c.factC fa_3 3 ia_3 rfl), He.noat_ok (c.factC fa_3 4 ia_3 rfl), He.glo_ok X G (c.factC fa_3 5 ia_3 rfl), excCB_ok (c.factC fa_3 6 ia_3 rfl), He.glo_ok X G (c.factC fa_3 7 ia_3 rfl), excCB_ok (c.factC fa_3 8 ia_3 rfl), He.noat_ok (c.factC fa_3 9 ia_3 rfl), oexB_ok (c.factC fa_3 10 ia_3 rfl), fOexI_ok (c.factC fa_3 11 ia_3 rfl), (He.exm_ok (c.factC fa_3 12 ia_3 rfl)), (eq_of_beq (c.factC fa_3 13 ia_3 rfl)), (eq_of_beq (c.factC fa_3 14 ia_3 rfl)), (eq_of_beq (c.factC fa_3 15 ia_3 rfl)), (eq_of_beq (c.factC fa_3 16 ia_3 rfl)), (eq_of_beq (c.factC fa_3 17 ia_3 rfl)), (eq_of_beq (c.factC fa_3 18 ia_3 rfl)), (eq_of_beq (c.factC fa_3 19 ia_3 rfl)), (eq_of_beq (c.factC fa_3 20 ia_3 rfl)), (eq_of_beq (c.factC fa_3 21 ia_3 rfl))⟩
  p6 := ⟨(eq_of_beq (c.factC fa_3 22 ia_3 rfl)), (eq_of_beq (c.factC fa_3 23 ia_3 rfl)), (eq_of_beq (c.factC fa_3 24 ia_3 rfl)), oexB_ok (c.factC fa_3 25 ia_3 rfl), fOexI_ok (c.factC fa_3 26 ia_3 rfl), (He.exm_ok (c.factC fa_3 27 ia_3 rfl)), (eq_of_beq (c.factC fa_3 28 ia_3 rfl)), (eq_of_beq (c.factC fa_3 29 ia_3 rfl)), (eq_of_beq (c.factC fa_4 0 ia_4 rfl)), (eq_of_beq (c.factC fa_4 1 ia_4 rfl)), (eq_of_beq (c.factC fa_4 2 ia_4 rfl)), (eq_of_beq (c.factC fa_4 3 ia_4 rfl)), (eq_of_beq (c.factC fa_4 4 ia_4 rfl)), (eq_of_beq (c.factC fa_4 5 ia_4 rfl)), (eq_of_beq (c.factC fa_4 6 ia_4 rfl)), (eq_of_beq (c.factC fa_4 7 ia_4 rfl)), (eq_of_beq (c.factC fa_4 8 ia_4 rfl)), (eq_of_beq (c.factC fa_4 9 ia_4 rfl)), He.free_ok X G (c.factC fa_4 10 ia_4 rfl), He.free_ok X G (c.factC fa_4 11 ia_4 rfl), He.free_ok X G (c.factC fa_4 12 ia_4 rfl), He.free_ok X G (c.factC fa_4 13 ia_4 rfl), He.free_ok X G (c.factC fa_4 14 ia_4 rfl), He.free_ok X G (c.factC fa_4 15 ia_4 rfl), He.free_ok X G (c.factC fa_4 16 ia_4 rfl), He.free_ok X G (c.factC fa_4 17 ia_4 rfl), He.free_ok X G (c.factC fa_4 18 ia_4 rfl), He.free_ok X G (c.factC fa_4 19 ia_4 rfl), He.free_ok X G (c.factC fa_4 20 ia_4 rfl)⟩
def names : List PySem.Str := (["_wall", "BellError", "InvalidSetup", "UnknownLine", "NotLevel", "InvalidNumber", "InvalidFlag", "InvalidBell", "TooMany", "NotPlain", "TooDense", "InvalidLog", "NotationError", "LETTERS", "DIGITS", "MAX_NAME", "MAX_RANK", "MAX_STEPS", "MAX_TICKS", "MAX_FLAG", "MAX_DIGITS", "EDGE", "LEVEL", "RUN", "QUIET", "AWAIT", "BAR", "LATER", "LINE_WORDS", "FLAG_WORDS"] : List PySem.Str) ++ (["is_integer", "is_word", "is_name", "is_line", "is_work", "is_step", "check_lines", "check_works", "Setup", "lines_without", "setup_of", "RowReader", "_law_taken", "_law_mixed", "_law_step", "_law_setup", "_law_raised", "_law_is_number", "_law_is_name", "_law_wrong", "_law_first_wrong", "_law_spoilt"] : List PySem.Str)
end T
set_option maxHeartbeats 0
namespace T
open PySem PySem.Spec PyProof.Rows L2 Z
open He (ga ma)
open PySem.W PySem.Calls HandSHeadRun
abbrev R : PySem.W.OpenRow := PySem.W.OpenLaw.row PySem.Challenge.rw_callbells_k04_texts_refused
abbrev tf : List (Fg → Addr) := [fun K => ga K "law"]
abbrev adL : List Addr := cStatics :: mainGlobals :: [2, 3, 4, 5, 6, 10, 14, 24, 28, 30, 31, 37, 41, 50, 51, 56, 60, 69, 70, 75, 79, 88, 89, 94, 98, 100, 101, 106, 110, 112, 113, 118, 122, 131, 132, 137, 141, 143, 144, 149, 153, 155, 156, 161, 165, 174, 175, 180, 184, 193, 194, 199, 203, 212, 213, 274, 278, 293, 295, 403, 404, 423, 427, 497, 498, 48, 47, 210, 209, 224, 223, 229, 228, 236, 235, 243, 242, 250, 249, 257, 256, 264, 263, 271, 270, 285, 284, 292, 291, 330, 329, 434, 433, 441, 440, 448, 447, 455, 454, 462, 461, 469, 468, 474, 473, 481, 480, 488, 487, 495, 494, 509, 508, 516, 515, 523, 522, 528, 527, 535, 534, 540, 539, 545, 544, 552, 551, 557, 556, 564, 563, 571, 570, 12, 22, 29, 32, 33, 34, 35, 39, 49, 52, 53, 54, 58, 71, 72, 73, 77, 87, 90, 91, 92, 102, 103, 104, 114, 115, 116, 120, 130, 133, 134, 135, 142, 145, 146, 147, 154, 157, 158, 159, 163, 173, 176, 177, 178, 182, 192, 195, 196, 197, 201, 211, 214, 215, 216, 217, 272, 276, 279, 280, 294, 303, 311, 317, 325, 331, 402, 405, 406, 407, 408, 421, 425, 496, 499, 500, 501, 502]
abbrev hk : PySem.W.Hook := hookE adL fa fn tf
def ob (s : PySem.W.SharedT) : Z.SeenT := seeE adL fa fn tf (HandSHeadRun.getT s)
theorem ob_eq (s : PySem.W.SharedT) : ob s = hk.obs s.abs := seeE_eq (HandSHeadRun.getT_eq s)
abbrev hdP : Program := PySem.W.view R.prog [55]
noncomputable abbrev hdM (w : World) (os : OsState) {A : Type} (f : PySem.W.SharedT → A) : Option A := (endF (stepQ (denQ tabQ) R.prog w) 10500 R.prog w os).map f
def hdK (s : PySem.W.SharedT) : Fg := He.frT (getT s) adL
theorem runA (w : World) (os : OsState) : hdM w os (fun s => (looksF R.prog (boot_heap w.params) s.abs, seenQ hdP names (importedModules R.prog.main.body) (fun s => xlAt hdP [] s && recOk R.toRowW.records s) s.abs, tabGood (getT s) tf (hdK s))) = some (true, openGood hdP names, true) := by kernel_rfl
theorem runB (w : World) (os : OsState) : hdM w os (fun s => fa.all fun f => f (hdK s)) = some true := by kernel_rfl
theorem runC (w : World) (os : OsState) : hdM w os (fun s => (((fn.take 55).all fun d => d.good (hdK s)), (fn.take 55).map fun d => DefZ.see (hdK s) (d.at_ (hdK s)))) = some (true, (fn.take 55).map DefZ.due) := by kernel_rfl
theorem runD (w : World) (os : OsState) : hdM w os (fun s => (((fn.drop 55).all fun d => d.good (hdK s)), (fn.drop 55).map fun d => DefZ.see (hdK s) (d.at_ (hdK s)))) = some (true, (fn.drop 55).map DefZ.due) := by kernel_rfl
theorem run (w : World) : HandSHeadRun.RunEq R hdP hk ob 10500 names w := by
  intro os
  obtain ⟨s, es, a⟩ := map_some (runA w os)
  obtain ⟨s2, e2, b⟩ := map_some (runB w os)
  obtain ⟨s3, e3, c⟩ := map_some (runC w os)
  obtain ⟨s4, e4, d⟩ := map_some (runD w os)
  rw [es] at e2 e3 e4
  cases e2
  cases e3
  cases e4
  simp only [Prod.mk.injEq] at a
  obtain ⟨a1, a2, a3⟩ := a
  rw [es]
  have o : ob s = ((true, fn.map DefZ.due), true) := seeE_parts 55 a3 b c d
  show some (looksF R.prog (boot_heap w.params) s.abs, seenQ hdP names (importedModules R.prog.main.body) (fun s => xlAt hdP [] s && recOk R.toRowW.records s) s.abs, ob s) = some (true, openGood hdP names, ((true, fn.map DefZ.due), true))
  rw [a1, a2, o]
end T
set_option maxHeartbeats 0
namespace T
open PySem PySem.Spec PyProof.Rows L2 Z
open He (ga ma)
open PySem.W PySem.Calls
theorem early (F : ∀ (w : World) (mg : Str → Option Value) (f : Addr) (h : Heap), (∃ K : Fg, K.In h ∧ SaysZ fa fn K ∧ ∀ d ∈ tf, TabIn K h (d K)) → h.Ns mainGlobals mg → mg ("law" : Str) = some (.ref f) → ∃ (K : Fg) (fd : FuncData) (sp : Sp) (tf : List Addr), K.In h ∧ (∀ u ∈ tf, TabIn K h u) ∧ (∀ (s : Shared) (u : Value), BindsTo s fd ⟨[u], []⟩ [("_law_script", u)]) ∧
      (∀ (H : Hp) (a : Addr) (ns : List Int), ns.length ≤ 63 → (∀ u ∈ tf, H (tabA K u) = some (.tbl #[])) → SqL K H a (ns.map V.int) → sp [.ref a] H (fun v _ => v = .bl true) fun _ _ _ => False) ∧
      ∀ base : Heap, K.In base → base.Ns mainGlobals mg → (∀ u ∈ tf, LamX.TabB base mg (codA K u) (tabA K u)) → FnOk (PySem.Challenge.rw_callbells_k04_texts_refused).prog w K mg base (L2.CX (PySem.Challenge.rw_callbells_k04_texts_refused).prog w) 32 f fd ["_law_script"] sp) : PySem.Challenge.rw_callbells_k04_texts_refused.Holds := by
  w_on; o_law
  refine HandSHeadRun.head_any (r := OpenLaw.row PySem.Challenge.rw_callbells_k04_texts_refused) (q := view (OpenLaw.row PySem.Challenge.rw_callbells_k04_texts_refused).prog [55]) (H := T.hk) (ob := T.ob) (M := 10500) (loose := T.names) (d := HandSHeadRun.topDef (OpenLaw.row PySem.Challenge.rw_callbells_k04_texts_refused).prog 55) (kwd := []) T.ob_eq
    (by kernel_rfl) (fun s => by kernel_rfl) T.run (by kernel_rfl) (by kernel_rfl) (by kernel_rfl) (by rfl) (by first | assumption | decide +kernel) (by decide +kernel) ⟨rfl, rfl, rfl, rfl, rfl, by decide +kernel⟩ ?hw ?hc
  case hw => w_witness2
  case hc =>
    refine Z.walkET (l := PySem.Challenge.rw_callbells_k04_texts_refused) (n := 63) (k := 32) (x := "_law_script") rfl (by decide) (by kernel_rfl) ⟨rfl, by decide, by decide⟩ ?_
    intro w mg f h Y G hm0
    have hm : mg ("law" : PySem.Str) = some (.ref f) := by
      have e : (HandSHeadRun.topDef (OpenLaw.row PySem.Challenge.rw_callbells_k04_texts_refused).prog 55).name = ("law" : PySem.Str) := by kernel_rfl
      rw [← e]
      exact hm0
    exact F w mg f h Y G hm
end T
set_option maxHeartbeats 1000000
namespace Z
open PySem PySem.Spec PyProof.Rows L2
def runs (l : List (Str × Key)) : Int := ((l.filter fun s => decide (s.1 = ("run" : Str))).map fun s => kI s.2).sum
def prog (P : Pl) (f : Frm) : Int := f.tk + runs ((P.ln f.ln).st.take f.st)
def progs (P : Pl) (fs : List Frm) : Int := (fs.map (prog P)).sum
def jobsum (js : List (Str × Nat)) : Int := (js.map fun j => (j.2 : Int)).sum
def evEnd (P : Pl) (es : List Ev) : Int := ((es.filter fun e => decide (e.1 = ("end" : Str))).map fun e => ticksOf (P.ln e.2)).sum
def evDone (P : Pl) (es : List Ev) : Int := ((es.filter fun e => decide (e.1 = ("done" : Str))).map fun e => (P.wk e.2).tk).sum
def RL (P : Pl) : Prop := ∀ l ∈ P.ls, ∀ s ∈ l.st, s.1 = ("run" : Str) ∨ s.1 = ("later" : Str)
structure Acc (P : Pl) (C : Cr) : Prop where
  fr : ∀ f ∈ C.frames, ∃ n : Int, (P.ln f.ln).st[f.st]? = some (("run" : Str), (Sum.inl n : Key)) ∧ (f.tk : Int) < n
  jb : ∀ j ∈ C.jobs, (j.2 : Int) < (P.wk j.1).tk
theorem RL.no {P : Pl} (ok : P.Ok) (rl : RL P) {B : Bd} {f : Frm} (hn : f.ln ∈ P.names) : passing P B f = false := by
  unfold passing
  cases e : (P.ln f.ln).st[f.st]? with
  | none => rfl
  | some s =>
    have := rl _ (ok.ln_mem hn).1 s (List.mem_of_getElem? e)
    have hne : s.1 ≠ "await" := by
      rcases this with h | h <;> rw [h] <;> decide
    simp [hne]
structure Acct (P : Pl) (G : Sg) (es : List Ev) : Prop where
  cok : COk P G.C G.B
  ac : Acc P G.C
  su : ∃ c k d : Int, G.sums = ([("call", c), ("spun", 0), ("work", k), ("idle", d)] : List (Str × Int)) ∧ c = evEnd P es + progs P G.C.frames ∧ k = evDone P es + jobsum G.C.jobs ∧ c + k + d = G.time
theorem Acct.start (P : Pl) : Acct P (Sg.start P) [] := by
  refine ⟨⟨⟨Sub.nil, Sub.nil, Sub.nil, Sub.nil, Sub.nil, ?_⟩, JOk.nil, ⟨by simp [Sg.start], by simp [Sg.start], by simp [Sg.start], by simp [Sg.start]⟩⟩, ⟨by simp [Sg.start], by simp [Sg.start]⟩, 0, 0, 0, rfl, rfl, rfl, rfl⟩
  show (P.order.map _).map _ = P.order
  rw [List.map_map]
  exact List.map_id _
theorem ring_taken {P : Pl} {B : Bd} {z : Str} : (B.ring P z).1.taken = B.taken := by
  unfold Bd.ring
  repeat (first | rfl | split)
theorem Acct.ring {P : Pl} {G : Sg} {es : List Ev} (h : Acct P G es) {z : Str} (hz : z ∈ P.names) : Acct P (G.ring P z) es := ⟨⟨h.cok.bok.ring hz, h.cok.jok, h.cok.fok.taken ring_taken⟩, h.ac, h.su⟩
end Z
set_option maxHeartbeats 1000000
namespace Z
open PySem PySem.Spec PyProof.Rows L2
theorem lc_rel {K : Fg} {J : It} {n : Nat} {G : Hp → Prop} {Y : Nat → Hp → V → Hp → Prop} {g : TG} {tt : TT} {te : TE} {vs : List Nat} {σ : L2.St} {H1 : Hp} {D : Addr} {Qd : Hp → Prop} {α : Type} (w : Walk J n G Y) (R : Nat → α → Prop) (f : α → PyData) (A : List Addr) (I : Hp → Prop)
    (hD : H1 D = none) (hn : n ≤ 40000) (hf : ∀ x, tupd (f x) = true) (hA : ∀ a ∈ A, H1 a ≠ none) (hI1 : I H1) (hI : ∀ H H', Fr [D] H H' → I H → I H') (hIs : ∀ H H', Same H H' → I H → I H')
    (hG : ∀ H, Fr A H1 H → I H → G H) (hY : ∀ i H x H', Y i H x H' → Same H H')
    (hs : ∀ (i : Nat) (x : V) (H H' : Hp) (Yes : VK) (No : Hp → Prop), i < n → Fr A H1 H → I H → Y i H x H' → (∀ y H4 a, Fr A H' H4 → I H4 → R i a → Dp K H4 y (f a) → Yes y H4) →
      g x (wipe σ vs) H' fun σ2 H2 => wipe σ2 vs = wipe σ vs ∧ tt σ2 H2 fun b H3 => if b = true then te σ2 H3 Yes else No H3)
    (hd : ∀ H' ys (l : List α), Fr A H1 H' → I H' → H' D = some (.lst ys) → l.length = n → (∀ k x, l[k]? = some x → R k x) → DpAll K H' ys (l.map f) → Qd H') :
    ∃ W : Nat → Nat → Hp → Prop, (∃ m, W 0 m (upd H1 D (.lst []))) ∧ ∀ i m H, W i m H →
      (J.stop i H ∧ Qd H) ∨ (J.go i H ∧ ∃ Nx : Hp → Prop, (∀ H', Nx H' → ∃ m', m' < m ∧ W (i + 1) m' H') ∧ ∀ x H', J.yld i H x H' → g x (wipe σ vs) H' fun σ2 H2 => wipe σ2 vs = wipe σ vs ∧ tt σ2 H2 fun b H3 =>
        if b = true then te σ2 H3 fun y H4 => ∃ acc, H4 D = some (.lst acc) ∧ acc.length < sizeLine ∧ Nx (upd H4 D (.lst (acc ++ [y]))) else Nx H3) := by
  have hDA : D ∉ A := fun z => hA D z hD
  refine lc_it w (fun i H => Fr A H1 H ∧ I H ∧ ∃ (l : List α) (ys : List V), l.length = i ∧ (∀ k x, l[k]? = some x → R k x) ∧ H D = some (.lst ys) ∧ DpAll K H ys (l.map f)) ⟨Fr.new hD, hI _ _ (Fr.new hD) hI1, [], [], rfl, by simp, upd_same, .nil⟩ (fun i H _ p => hG H p.1 p.2.1) (fun i x H H' hi p y => ?_) (fun H p => ?_)
  · obtain ⟨f1, i1, l, ys, hl, hr, e1, a1⟩ := p
    have s2 := hY i H x H' y
    refine hs i x H H' _ _ hi f1 i1 y fun y4 H4 a f4 i4 r4 d4 => ⟨ys, f4.at (s2 _ _ e1) hDA, ?_, ?_, ?_, l ++ [a], ys ++ [y4], ?_, fun k x hk => ?_, upd_same, ?_⟩
    · rw [a1.len, List.length_map, hl, sizeLine_eq]
      omega
    · have f5 : Fr [D] H4 (upd H4 D (.lst (ys ++ [y4]))) := Fr.upd (by simp) (f4.at (s2 _ _ e1) hDA) rfl
      exact (f1.trans (s2.fr.trans f4)).seq f5 (by simp [hD])
    · exact hI _ _ (Fr.upd (by simp) (f4.at (s2 _ _ e1) hDA) rfl) i4
    · rw [List.length_append, hl]
      rfl
    · rcases Nat.lt_or_ge k l.length with h | h
      · rw [List.getElem?_append_left h] at hk
        exact hr k x hk
      · rw [List.getElem?_append_right h] at hk
        have : k - l.length = 0 := by
          cases e : k - l.length with
          | zero => rfl
          | succ m => rw [e] at hk; simp at hk
        rw [this] at hk
        simp at hk
        subst hk
        have : k = i := by omega
        rw [this]
        exact r4
    · have t5 := tk_upd (o := .lst (ys ++ [y4])) (f4.at (s2 _ _ e1) hDA)
      rw [List.map_append]
      exact (((a1.same s2).tk f4.tk (tupds_map hf _)).tk t5 (tupds_map hf _)).app (.cons (d4.tk t5 (hf a)) .nil)
  · obtain ⟨f1, i1, l, ys, hl, hr, e1, a1⟩ := p
    exact hd H ys l f1 i1 e1 hl hr a1
theorem s_for {wi : TI} {g : TG} {tb : TS} {D : Ends} {σ : L2.St} {H : Hp} (q : wi σ H fun J H1 => ∃ W : Nat → Nat → L2.St → Hp → Prop, (∃ m, W 0 m σ H1) ∧ ∀ i m σ H, W i m σ H →
  (J.stop i H ∧ D.nx σ H) ∨ (J.go i H ∧ ∃ N : L2.St → Hp → Prop, (∀ σ' H', N σ' H' → ∃ m', m' < m ∧ W (i + 1) m' σ' H') ∧ ∀ x H', J.yld i H x H' → g x σ H' fun σ2 H2 => tb { D with nx := N, ct := N, bk := D.nx } σ2 H2)) : tFor wi g tb D σ H := q
theorem s_rng1 {ta : TA} {σ : L2.St} {H : Hp} {R : It → Hp → Prop} (q : ta σ H fun vs H1 => ∃ j : Int, vs = [.int j] ∧ -(2 ^ 62) ≤ j ∧ j < 2 ^ 62 ∧ R (Itr 0 j.toNat) H1) : iRng1 ta σ H R := q
theorem s_iT {K : Fg} {tl : TE} {σ : L2.St} {H : Hp} {R : It → Hp → Prop} (q : tl σ H fun x H1 => ∃ a, x = .ref a ∧ (∃ xs, SqT K H1 a xs) ∧ R (Itt K a) H1) : iTup K tl σ H R := q
theorem s_iL {K : Fg} {tl : TE} {σ : L2.St} {H : Hp} {R : It → Hp → Prop} (q : tl σ H fun x H1 => ∃ a, x = .ref a ∧ (∃ xs, SqL K H1 a xs) ∧ R (Itl K a) H1) : iList K tl σ H R := q
theorem s_lc {wi : TI} {g : TG} {tt : TT} {te : TE} {vs : List Nat} {σ : L2.St} {H : Hp} {Q : VK} (q : wi σ H fun J H1 => LcQ J g tt te vs σ Q H1) : tLc wi g tt te vs σ H Q := q
theorem s_slA {K : Fg} {H : Hp} {Q : VK} {a : Addr} {xs : List V} {lo hi : Option Int} (h : SqT K H a xs) (q : ∀ p H', Same H H' → SqT K H' p (cutV xs lo hi) → Q (.ref p) H') : rSlA K (.ref a) lo hi H Q := by
  refine ⟨a, xs, rfl, h, fun ⟨h1, h2⟩ => q a H (Same.refl H) ?_, fun _ p hp => q p _ (Same.new hp) (SqT.of upd_same)⟩
  have e : cutV xs lo hi = xs := by
    unfold cutV
    rw [h1, h2, List.drop_zero, Nat.sub_zero, List.take_length]
  rw [e]
  exact h
def nmW : List Str := ["flush", "sweep"]
theorem stepX_run {kvs : List (Key × V)} {ws : List V} {n : Int} (h1 : 1 ≤ n) (h2 : n ≤ 99) : isStepX kvs ws "run" (.int n) = true := by
  unfold isStepX
  rw [if_neg (by decide), if_neg (by decide), if_neg (by decide)]
  have : isIntD 1 99 (.int n) = true := decide_eq_true ⟨h1, h2⟩
  rw [this]
  rfl
theorem stepX_later {kvs : List (Key × V)} {ws : List V} {z : Str} (h : inV (.str z) ws = true) : isStepX kvs ws "later" (.str z) = true := by
  unfold isStepX
  rw [if_neg (by decide), if_pos (by decide)]
  exact h
end Z
set_option maxHeartbeats 1000000
namespace Z
open PySem PySem.Spec PyProof.Rows L2
def EvOk (P : Pl) (es : List Ev) : Prop := ∀ e ∈ es, (e.1 = ("end" : Str) → e.2 ∈ P.names) ∧ (e.1 = ("done" : Str) → e.2 ∈ P.wnames)
theorem EvOk.nil {P : Pl} : EvOk P [] := by intro e h; simp at h
theorem EvOk.app {P : Pl} {a b : List Ev} (h : EvOk P a) (k : EvOk P b) : EvOk P (a ++ b) := fun e he => by
  rcases List.mem_append.mp he with he | he
  · exact h e he
  · exact k e he
end Z
set_option maxHeartbeats 1000000
namespace Z
open PySem PySem.Spec PyProof.Rows L2
abbrev Lg := Int × Str × Str
structure Md where
  shut : List Str
  edge : List Str
  high : List Str
  up : List Int
  bar : Int
  calls : List Frm
  jobs : List (Str × Nat)
  now : Int
  log : List Lg
  spent : List Int
  joined : List Str
def Md.start : Md := ⟨[], [], [], [], 0, [], [], 0, [], [0, 0, 0, 0], []⟩
def putM {α : Type} [DecidableEq α] (l : List α) (x : α) (b : Bool) : List α := (l.filter fun y => !decide (y = x)) ++ (if b = true then [x] else [])
def Md.ring (P : Pl) (M : Md) (z : Str) : Md × Bool :=
  if (P.ln z).kd = "level" then ({ M with joined := M.joined ++ (if z ∈ M.high then [z] else []), high := putM M.high z true }, !decide (z ∈ M.high))
  else ({ M with joined := M.joined ++ (if z ∈ M.edge then [z] else []), edge := putM M.edge z true }, !decide (z ∈ M.edge))
def Md.does (P : Pl) (M : Md) (s : Str × Key) : Md × Bool :=
  if s.1 = "bar" then ({ M with bar := kI s.2 }, true)
  else if s.1 = "later" then ({ M with jobs := leave M.jobs (kS s.2) }, true)
  else if s.1 = "await" then (M, true)
  else if s.1 = "ring" then M.ring P (kS s.2)
  else if s.1 = "quiet" then ({ M with high := putM M.high (kS s.2) false }, decide (kS s.2 ∈ M.high))
  else if s.1 = "mask" then ({ M with shut := putM M.shut (kS s.2) true }, !decide (kS s.2 ∈ M.shut))
  else if s.1 = "unmask" then ({ M with shut := putM M.shut (kS s.2) false }, decide (kS s.2 ∈ M.shut))
  else if s.1 = "set" then ({ M with up := putM M.up (kI s.2) true }, !decide (kI s.2 ∈ M.up))
  else ({ M with up := putM M.up (kI s.2) false }, decide (kI s.2 ∈ M.up))
structure Eqs {α : Type} (l m : List α) : Prop where
  n1 : l.Nodup
  n2 : m.Nodup
  eq : ∀ x, x ∈ l ↔ x ∈ m
theorem Eqs.nil {α : Type} : Eqs ([] : List α) [] := ⟨.nil, .nil, fun _ => Iff.rfl⟩
theorem Eqs.dec {α : Type} [DecidableEq α] {l m : List α} (h : Eqs l m) (x : α) : decide (x ∈ l) = decide (x ∈ m) := by
  by_cases k : x ∈ l
  · rw [decide_eq_true k, decide_eq_true ((h.eq x).mp k)]
  · rw [decide_eq_false k, decide_eq_false fun z => k ((h.eq x).mpr z)]
theorem putM_mem {α : Type} [DecidableEq α] {l : List α} {x y : α} {b : Bool} : y ∈ putM l x b ↔ (y ∈ l ∧ y ≠ x) ∨ (y = x ∧ b = true) := by
  unfold putM
  rw [List.mem_append, List.mem_filter]
  cases b <;> simp
theorem putM_nodup {α : Type} [DecidableEq α] {l : List α} (h : l.Nodup) (x : α) (b : Bool) : (putM l x b).Nodup := by
  unfold putM
  rw [List.nodup_append]
  refine ⟨h.sublist List.filter_sublist, by cases b <;> simp, fun a ha c hc e => ?_⟩
  cases b with
  | false => simp at hc
  | true =>
    simp at hc
    subst hc
    subst e
    have := (List.mem_filter.mp ha).2
    simp at this
theorem putL_mem {α : Type} [DecidableEq α] {l : List α} (h : l.Nodup) {x y : α} {b : Bool} : y ∈ (putL l x b).1 ↔ (y ∈ l ∧ y ≠ x) ∨ (y = x ∧ b = true) := by
  unfold putL
  by_cases hx : x ∈ l
  · cases b with
    | true =>
      rw [if_pos (by simp [hx])]
      show y ∈ l ↔ _
      by_cases e : y = x
      · subst e; simp [hx]
      · simp [e]
    | false =>
      rw [if_neg (by simp [hx])]
      show y ∈ (if false = true then l ++ [x] else l.erase x) ↔ _
      rw [if_neg (by simp), h.mem_erase_iff]
      simp [And.comm]
  · cases b with
    | true =>
      rw [if_neg (by simp [hx])]
      show y ∈ (if true = true then l ++ [x] else l.erase x) ↔ _
      rw [if_pos rfl, List.mem_append, List.mem_singleton]
      by_cases e : y = x
      · subst e; simp
      · simp [e]
    | false =>
      rw [if_pos (by simp [hx])]
      show y ∈ l ↔ _
      by_cases e : y = x
      · subst e; simp [hx]
      · simp [e]
theorem putL_nodup {α : Type} [DecidableEq α] {l : List α} (h : l.Nodup) (x : α) (b : Bool) : (putL l x b).1.Nodup := by
  unfold putL
  split
  · exact h
  · rename_i hn
    cases b with
    | true =>
      show (if true = true then l ++ [x] else l.erase x).Nodup
      rw [if_pos rfl, List.nodup_append]
      refine ⟨h, by simp, fun a ha c hc e => ?_⟩
      simp at hc
      subst hc
      subst e
      simp [ha] at hn
    | false =>
      show (if false = true then l ++ [x] else l.erase x).Nodup
      rw [if_neg (by simp)]
      exact h.erase x
theorem Eqs.put {α : Type} [DecidableEq α] {l m : List α} (h : Eqs l m) (x : α) (b : Bool) : Eqs (putM l x b) (putL m x b).1 := ⟨putM_nodup h.n1 x b, putL_nodup h.n2 x b, fun y => by rw [putM_mem, putL_mem h.n2, h.eq y]⟩
theorem putL_res {α : Type} [DecidableEq α] {l : List α} {x : α} {b : Bool} : (putL l x b).2 = !decide (decide (x ∈ l) = b) := by
  unfold putL
  split
  · rename_i h; simp [h]
  · rename_i h; simp [h]
theorem Eqs.add {α : Type} [DecidableEq α] {l m : List α} (h : Eqs l m) {x : α} (hx : x ∉ m) : Eqs (putM l x true) (m ++ [x]) := by
  have := h.put x true
  unfold putL at this
  rw [if_neg (by simp [hx])] at this
  exact this
theorem Eqs.stay {α : Type} [DecidableEq α] {l m : List α} (h : Eqs l m) {x : α} (hx : x ∈ m) : Eqs (putM l x true) m := by
  have := h.put x true
  unfold putL at this
  rw [if_pos (by simp [hx])] at this
  exact this
structure RelB (M : Md) (B : Bd) : Prop where
  sh : Eqs M.shut B.shut
  ed : Eqs M.edge B.wanted
  hi : Eqs M.high B.high
  up : Eqs M.up B.raised
theorem isEdge {P : Pl} (ok : P.Ok) {z : Str} (hz : z ∈ P.names) : (P.ln z).kd = "edge" ∨ (P.ln z).kd = "level" := by
  have h := ok.lok _ (ok.ln_mem hz).1
  simp only [isLine, dLn, Bool.and_eq_true] at h
  have h2 := h.2.1
  have h3 : (P.ln z).kd ∈ (["edge", "level"] : List Str) := inV_str (show inV (.str (P.ln z).kd) ((["edge", "level"] : List Str).map V.str) = true from h2)
  simpa using h3
theorem ring_sim {P : Pl} (ok : P.Ok) {M : Md} {B : Bd} (h : RelB M B) {z : Str} (hz : z ∈ P.names) : RelB (M.ring P z).1 (B.ring P z).1 ∧ (M.ring P z).2 = (B.ring P z).2 := by
  unfold Md.ring Bd.ring
  rcases isEdge ok hz with e | e
  · rw [if_neg (show ¬ (P.ln z).kd = "level" by rw [e]; decide), if_pos e]
    have hd := h.ed.dec z
    by_cases hx : z ∈ B.wanted
    · rw [if_pos hx]
      exact ⟨⟨h.sh, h.ed.stay hx, h.hi, h.up⟩, by show (!decide (z ∈ M.edge)) = false; rw [hd, decide_eq_true hx]; rfl⟩
    · rw [if_neg hx]
      exact ⟨⟨h.sh, h.ed.add hx, h.hi, h.up⟩, by show (!decide (z ∈ M.edge)) = true; rw [hd, decide_eq_false hx]; rfl⟩
  · rw [if_pos e, if_neg (show ¬ (P.ln z).kd = "edge" by rw [e]; decide)]
    have hd := h.hi.dec z
    by_cases hx : z ∈ B.high
    · rw [if_pos hx]
      exact ⟨⟨h.sh, h.ed, h.hi.stay hx, h.up⟩, by show (!decide (z ∈ M.high)) = false; rw [hd, decide_eq_true hx]; rfl⟩
    · rw [if_neg hx]
      exact ⟨⟨h.sh, h.ed, h.hi.add hx, h.up⟩, by show (!decide (z ∈ M.high)) = true; rw [hd, decide_eq_false hx]; rfl⟩
theorem carry_sim {P : Pl} (ok : P.Ok) {M : Md} {B : Bd} (h : RelB M B) {s : Str × Key} (hs : CarryIs P s) : RelB (M.does P s).1 (B.carry P s).1 ∧ (M.does P s).2 = (B.carry P s).2 := by
  obtain ⟨w, k⟩ := s
  have q : ∀ {α : Type} [DecidableEq α] {l m : List α} (e : Eqs l m) (x : α), (!decide (x ∈ l)) = (putL m x true).2 ∧ decide (x ∈ l) = (putL m x false).2 := fun {α _ l m} e x => by
    rw [putL_res, putL_res, e.dec x]
    generalize decide (x ∈ m) = b
    constructor <;> (cases b <;> rfl)
  rcases hs with ⟨hw, z, e, hz⟩ | ⟨hw, i, e, h0, h7⟩
  · simp only at e hw
    subst e
    simp only [List.mem_cons, List.not_mem_nil, or_false] at hw
    rcases hw with rfl | rfl | rfl | rfl
    · exact ring_sim ok h hz
    · exact ⟨⟨h.sh, h.ed, h.hi.put z false, h.up⟩, (q h.hi z).2⟩
    · exact ⟨⟨h.sh.put z true, h.ed, h.hi, h.up⟩, (q h.sh z).1⟩
    · exact ⟨⟨h.sh.put z false, h.ed, h.hi, h.up⟩, (q h.sh z).2⟩
  · simp only at e hw
    subst e
    simp only [List.mem_cons, List.not_mem_nil, or_false] at hw
    rcases hw with rfl | rfl
    · exact ⟨⟨h.sh, h.ed, h.hi, h.up.put i true⟩, (q h.up i).1⟩
    · exact ⟨⟨h.sh, h.ed, h.hi, h.up.put i false⟩, (q h.up i).2⟩
theorem carry_rest {P : Pl} {M : Md} {s : Str × Key} (h1 : s.1 ≠ "bar") (h2 : s.1 ≠ "later") : (M.does P s).1.bar = M.bar ∧ (M.does P s).1.jobs = M.jobs := by
  unfold Md.does Md.ring
  rw [if_neg h1, if_neg h2]
  constructor <;> (repeat (first | rfl | split))
theorem does_rest {P : Pl} {M : Md} {s : Str × Key} : (M.does P s).1.calls = M.calls ∧ (M.does P s).1.now = M.now ∧ (M.does P s).1.log = M.log ∧ (M.does P s).1.spent = M.spent := by
  unfold Md.does Md.ring
  refine ⟨?_, ?_, ?_, ?_⟩ <;> (repeat (first | rfl | split))
structure RelC (M : Md) (lim : Int) (jobs : List (Str × Nat)) (B : Bd) : Prop where
  b : RelB M B
  lim : M.bar = lim
  jobs : M.jobs = jobs
end Z
set_option maxHeartbeats 1000000
namespace Z
open PySem PySem.Spec PyProof.Rows L2
abbrev leO : Ln → Ln → Bool := PySem.W.dataLe false ordD
theorem leO_total : PySem.W.TotalLe leO := PySem.W.sortLe_total _ _ _
theorem leO_sorted (l : List Ln) : (l.mergeSort leO).Pairwise fun a b => leO a b = true := List.pairwise_mergeSort leO_total.trans (fun a b => Bool.or_eq_true_iff.mpr (leO_total.total a b)) l
theorem str_ext {a b : Str} (h : a.cps.toList = b.cps.toList) : a = b := by
  cases a
  cases b
  simp only at h
  congr
  exact Array.toList_inj.mp h
theorem leO_anti {a b : Ln} (h1 : leO a b = true) (h2 : leO b a = true) : a.nm = b.nm := by
  have e1 : PySem.W.dataLt (ordD b) (ordD a) = false := by
    have : (!PySem.W.dataLt (ordD b) (ordD a)) = true := h1
    simpa using this
  have e2 : PySem.W.dataLt (ordD a) (ordD b) = false := by
    have : (!PySem.W.dataLt (ordD a) (ordD b)) = true := h2
    simpa using this
  unfold ordD at e1 e2
  rw [PySem.W.dataLt_pair (by simp [PySem.W.alike]) (by simp [PySem.W.alike]), PySem.W.dataLt_int, PySem.W.dataLt_str] at e1 e2
  simp only [PyData.eqv, beq_iff_eq] at e1 e2
  by_cases hr : (0 - b.rk) = 0 - a.rk
  · rw [if_pos hr] at e1
    rw [if_pos hr.symm] at e2
    by_cases hn : b.nm = a.nm
    · exact hn.symm
    · rw [if_neg hn] at e1
      rw [if_neg (fun z => hn z.symm)] at e2
      simp only [decide_eq_false_iff_not] at e1 e2
      exact str_ext (List.le_antisymm (List.not_lt.mp e1) (List.not_lt.mp e2))
  · rw [if_neg hr] at e1
    rw [if_neg (fun z => hr z.symm)] at e2
    simp only [decide_eq_false_iff_not] at e1 e2
    omega
theorem Pl.Ok.inj {P : Pl} (ok : P.Ok) {a b : Ln} (ha : a ∈ P.ls) (hb : b ∈ P.ls) (e : a.nm = b.nm) : a = b := by
  rw [← ok.ln_eq ha, ← ok.ln_eq hb, e]
theorem sorted_one {P : Pl} (ok : P.Ok) {l m : List Ln} (hl : ∀ x ∈ l, x ∈ P.ls) (hm : ∀ x ∈ m, x ∈ P.ls) (p : l.Perm m) (s1 : l.Pairwise fun a b => leO a b = true) (s2 : m.Pairwise fun a b => leO a b = true) : l = m :=
  List.Perm.eq_of_pairwise (fun a b ha hb h1 h2 => ok.inj (hl a ha) (hm b hb) (leO_anti h1 h2)) s1 s2 p
theorem ord_filter {P : Pl} (ok : P.Ok) (p : Ln → Bool) : (P.ls.mergeSort leO).filter p = (P.ls.filter p).mergeSort leO := by
  refine sorted_one ok (fun x hx => ?_) (fun x hx => ?_) ?_ ((leO_sorted _).sublist List.filter_sublist) (leO_sorted _)
  · exact (List.mergeSort_perm _ _).mem_iff.mp (List.mem_filter.mp hx).1
  · exact (List.mem_filter.mp ((List.mergeSort_perm _ _).mem_iff.mp hx)).1
  · exact ((List.mergeSort_perm _ _).filter p).trans (List.mergeSort_perm _ _).symm
theorem order_filter {P : Pl} (ok : P.Ok) (p : Str → Bool) : P.order.filter p = ((P.ls.filter fun l => p l.nm).mergeSort leO).map (·.nm) := by
  unfold Pl.order
  rw [List.filter_map, ← ord_filter ok]
  rfl
theorem order_names {P : Pl} (ok : P.Ok) {l : List Ln} {p : Str → Bool} (hl : ∀ x ∈ l, x ∈ P.ls) (hn : l.Nodup) (he : ∀ x ∈ P.ls, p x.nm = true ↔ x ∈ l) : (l.mergeSort leO).map (·.nm) = P.order.filter p := by
  rw [order_filter ok]
  congr 1
  refine sorted_one ok (fun x hx => hl x ((List.mergeSort_perm _ _).mem_iff.mp hx)) (fun x hx => (List.mem_filter.mp ((List.mergeSort_perm _ _).mem_iff.mp hx)).1) ?_ (leO_sorted _) (leO_sorted _)
  refine (List.mergeSort_perm _ _).trans (List.Perm.trans ?_ (List.mergeSort_perm _ _).symm)
  have hd : P.ls.Nodup := by
    have := ok.lnd
    unfold Pl.names at this
    exact List.Pairwise.of_map _ (fun a b h e => h (by rw [e])) this
  refine (List.perm_ext_iff_of_nodup hn (hd.sublist List.filter_sublist)).mpr fun x => ?_
  rw [List.mem_filter]
  constructor
  · intro hx
    exact ⟨hl x hx, (he x (hl x hx)).mpr hx⟩
  · rintro ⟨h1, h2⟩
    exact (he x h1).mp h2
def rkF (P : Pl) (f : Frm) : Int := (P.ln f.ln).rk
def AtOk (P : Pl) (f : Frm) : Prop := ∃ s, (P.ln f.ln).st[f.st]? = some s ∧ ((s.1 = "run" ∧ ∃ n : Int, s.2 = .inl n ∧ (f.tk : Int) < n) ∨ (s.1 = "await" ∧ f.tk = 0))
structure RInv (P : Pl) (C : Cr) (B : Bd) : Prop where
  cok : COk P C B
  tk : ∀ z, z ∈ B.taken ↔ z ∈ C.frames.map (·.ln)
  rk : (C.frames.map (rkF P)).Pairwise (· < ·)
  rt : ∀ f ∈ C.frames, AtOk P f
  jb : ∀ j ∈ C.jobs, (j.2 : Int) < (P.wk j.1).tk
structure Rel (P : Pl) (M : Md) (G : Sg) : Prop where
  calls : M.calls = G.C.frames
  c : RelC M G.C.limit G.C.jobs G.B
  now : M.now = G.time
  sp : ∃ a b c d : Int, M.spent = [a, b, c, d] ∧ G.sums = ([("call", a), ("spun", b), ("work", c), ("idle", d)] : List (Str × Int))
end Z
set_option maxHeartbeats 1000000
namespace Z
open PySem PySem.Spec PyProof.Rows L2
end Z
set_option maxHeartbeats 1000000
namespace Z
open PySem PySem.Spec PyProof.Rows L2
def dFrm (f : Frm) : PyData := .tuple [.str f.ln, .int f.st, .int f.tk, .int f.kp]
def dLg (l : Lg) : PyData := .tuple [.int l.1, .str l.2.1, .str l.2.2]
structure MA where
  m : Addr
  ln : Addr
  wk : Addr
  sh : Addr
  ed : Addr
  hi : Addr
  up : Addr
  ca : Addr
  jo : Addr
  lg : Addr
  sp : Addr
  jn : Addr
def MA.own (D : MA) : List Addr := [D.m, D.sh, D.ed, D.hi, D.up, D.ca, D.jo, D.lg, D.sp, D.jn]
def mdKV (D : MA) (bar now : Int) : List (Key × V) := [(.inr "lines", .ref D.ln), (.inr "works", .ref D.wk), (.inr "shut", .ref D.sh), (.inr "edge", .ref D.ed), (.inr "high", .ref D.hi), (.inr "up", .ref D.up), (.inr "bar", .int bar), (.inr "calls", .ref D.ca), (.inr "jobs", .ref D.jo), (.inr "now", .int now), (.inr "log", .ref D.lg), (.inr "spent", .ref D.sp), (.inr "joined", .ref D.jn)]
section
variable {D : MA} {b n : Int}
theorem mk_ln : valV (mdKV D b n) (.inr "lines") = some (.ref D.ln) := by kernel_rfl
theorem mk_wk : valV (mdKV D b n) (.inr "works") = some (.ref D.wk) := by kernel_rfl
theorem mk_sh : valV (mdKV D b n) (.inr "shut") = some (.ref D.sh) := by kernel_rfl
theorem mk_ed : valV (mdKV D b n) (.inr "edge") = some (.ref D.ed) := by kernel_rfl
theorem mk_hi : valV (mdKV D b n) (.inr "high") = some (.ref D.hi) := by kernel_rfl
theorem mk_up : valV (mdKV D b n) (.inr "up") = some (.ref D.up) := by kernel_rfl
theorem mk_bar : valV (mdKV D b n) (.inr "bar") = some (.int b) := by kernel_rfl
theorem mk_ca : valV (mdKV D b n) (.inr "calls") = some (.ref D.ca) := by kernel_rfl
theorem mk_jo : valV (mdKV D b n) (.inr "jobs") = some (.ref D.jo) := by kernel_rfl
theorem mk_now : valV (mdKV D b n) (.inr "now") = some (.int n) := by kernel_rfl
theorem mk_lg : valV (mdKV D b n) (.inr "log") = some (.ref D.lg) := by kernel_rfl
theorem mk_sp : valV (mdKV D b n) (.inr "spent") = some (.ref D.sp) := by kernel_rfl
theorem mk_jn : valV (mdKV D b n) (.inr "joined") = some (.ref D.jn) := by kernel_rfl
end
def LsAt (K : Fg) (H : Hp) (a : Addr) (ds : List PyData) : Prop := ∃ xs, H a = some (.lst xs) ∧ DpAll K H xs ds
theorem LsAt.keep {K : Fg} {H H' : Hp} {a : Addr} {ds : List PyData} {A : List Addr} (h : LsAt K H a ds) (f : Fr A H H') (n : a ∉ A) (t : tupds ds = true) : LsAt K H' a ds := by
  obtain ⟨xs, h1, h2⟩ := h
  exact ⟨xs, f.at h1 n, h2.tk f.tk t⟩
structure MdL (K : Fg) (H : Hp) (D : MA) (M : Md) : Prop where
  nd : D.own.Nodup
  sh : H D.sh = some (.lst (M.shut.map V.str))
  ed : H D.ed = some (.lst (M.edge.map V.str))
  hi : H D.hi = some (.lst (M.high.map V.str))
  up : H D.up = some (.lst (M.up.map V.int))
  ca : LsAt K H D.ca (M.calls.map dFrm)
  jo : LsAt K H D.jo (M.jobs.map dJob)
  lg : LsAt K H D.lg (M.log.map dLg)
  sp : H D.sp = some (.lst (M.spent.map V.int))
  jn : H D.jn = some (.lst (M.joined.map V.str))
structure MdAt (K : Fg) (H : Hp) (D : MA) (M : Md) : Prop where
  l : MdL K H D M
  md : H D.m = some (.dK (mdKV D M.bar M.now))
section
variable {K : Fg} {H H' : Hp} {D : MA} {M : Md}
theorem tds_frm (l : List Frm) : tupds (l.map dFrm) = true := tupds_map (fun _ => rfl) l
theorem tds_job (l : List (Str × Nat)) : tupds (l.map dJob) = true := tupds_map (fun _ => rfl) l
theorem tds_lg (l : List Lg) : tupds (l.map dLg) = true := tupds_map (fun _ => rfl) l
theorem MdL.keep (h : MdL K H D M) {A : List Addr} (f : Fr A H H') (n : ∀ a ∈ D.own, a ∉ A) : MdL K H' D M := by
  have n' : D.m ∉ A ∧ D.sh ∉ A ∧ D.ed ∉ A ∧ D.hi ∉ A ∧ D.up ∉ A ∧ D.ca ∉ A ∧ D.jo ∉ A ∧ D.lg ∉ A ∧ D.sp ∉ A ∧ D.jn ∉ A := by simpa [MA.own] using n
  obtain ⟨n0, n1, n2, n3, n4, n5, n6, n7, n8, n9⟩ := n'
  exact ⟨h.nd, f.at h.sh n1, f.at h.ed n2, f.at h.hi n3, f.at h.up n4, h.ca.keep f n5 (tds_frm _), h.jo.keep f n6 (tds_job _), h.lg.keep f n7 (tds_lg _), f.at h.sp n8, f.at h.jn n9⟩
theorem MdAt.keep (h : MdAt K H D M) {A : List Addr} (f : Fr A H H') (n : ∀ a ∈ D.own, a ∉ A) : MdAt K H' D M := ⟨h.l.keep f n, f.at h.md (n _ (by simp [MA.own]))⟩
theorem MdAt.same (h : MdAt K H D M) (s : Same H H') : MdAt K H' D M := h.keep (A := []) s.fr (by simp)
theorem md_same (s : Same H H') (h : MdAt K H D M) : MdAt K H' D M := h.same s
theorem MdAt.ex (h : MdAt K H D M) : ∀ a ∈ D.own, H a ≠ none := by
  obtain ⟨_, h1, _⟩ := h.l.ca
  obtain ⟨_, h2, _⟩ := h.l.jo
  obtain ⟨_, h3, _⟩ := h.l.lg
  simp [MA.own, h.md, h.l.sh, h.l.ed, h.l.hi, h.l.up, h1, h2, h3, h.l.sp, h.l.jn]
structure MA.Nes (D : MA) : Prop where
  m : D.m ≠ D.sh ∧ D.m ≠ D.ed ∧ D.m ≠ D.hi ∧ D.m ≠ D.up ∧ D.m ≠ D.ca ∧ D.m ≠ D.jo ∧ D.m ≠ D.lg ∧ D.m ≠ D.sp ∧ D.m ≠ D.jn
  sh : D.sh ≠ D.ed ∧ D.sh ≠ D.hi ∧ D.sh ≠ D.up ∧ D.sh ≠ D.ca ∧ D.sh ≠ D.jo ∧ D.sh ≠ D.lg ∧ D.sh ≠ D.sp ∧ D.sh ≠ D.jn
  ed : D.ed ≠ D.hi ∧ D.ed ≠ D.up ∧ D.ed ≠ D.ca ∧ D.ed ≠ D.jo ∧ D.ed ≠ D.lg ∧ D.ed ≠ D.sp ∧ D.ed ≠ D.jn
  hi : D.hi ≠ D.up ∧ D.hi ≠ D.ca ∧ D.hi ≠ D.jo ∧ D.hi ≠ D.lg ∧ D.hi ≠ D.sp ∧ D.hi ≠ D.jn
  up : D.up ≠ D.ca ∧ D.up ≠ D.jo ∧ D.up ≠ D.lg ∧ D.up ≠ D.sp ∧ D.up ≠ D.jn
  ca : D.ca ≠ D.jo ∧ D.ca ≠ D.lg ∧ D.ca ≠ D.sp ∧ D.ca ≠ D.jn
  jo : D.jo ≠ D.lg ∧ D.jo ≠ D.sp ∧ D.jo ≠ D.jn
  lg : D.lg ≠ D.sp ∧ D.lg ≠ D.jn
  sp : D.sp ≠ D.jn
theorem MA.nes {D : MA} (h : D.own.Nodup) : D.Nes := by
  simp only [MA.own, List.nodup_cons, List.mem_cons, List.not_mem_nil, or_false, not_or, List.nodup_nil, and_true, not_false_eq_true] at h
  obtain ⟨h0, h1, h2, h3, h4, h5, h6, h7, h8⟩ := h
  exact ⟨h0, h1, h2, h3, h4, h5, h6, h7, h8⟩
theorem MdL.put (h : MdL K H D M) {u : HO} (e : H D.m = some u) (t : tupO u = false) : MdAt K (upd H D.m (.dK (mdKV D M.bar M.now))) D M := by
  have f : Fr [D.m] H (upd H D.m (.dK (mdKV D M.bar M.now))) := Fr.upd (by simp) e t
  obtain ⟨⟨n1, n2, n3, n4, n5, n6, n7, n8, n9⟩, _, _, _, _, _, _, _, _⟩ := MA.nes h.nd
  exact ⟨⟨h.nd, f.at h.sh (by simp [Ne.symm n1]), f.at h.ed (by simp [Ne.symm n2]), f.at h.hi (by simp [Ne.symm n3]), f.at h.up (by simp [Ne.symm n4]), h.ca.keep f (by simp [Ne.symm n5]) (tds_frm _), h.jo.keep f (by simp [Ne.symm n6]) (tds_job _), h.lg.keep f (by simp [Ne.symm n7]) (tds_lg _), f.at h.sp (by simp [Ne.symm n8]), f.at h.jn (by simp [Ne.symm n9])⟩, upd_same⟩
end
structure ChM (H : Hp) (D : MA) (H' : Hp) (D' : MA) : Prop where
  fr : Fr D.own H H'
  m : D'.m = D.m
  ln : D'.ln = D.ln
  wk : D'.wk = D.wk
  own : ∀ a ∈ D'.own, a ∈ D.own ∨ H a = none
theorem ChM.refl {H : Hp} {D : MA} : ChM H D H D := ⟨Fr.refl, rfl, rfl, rfl, fun _ h => .inl h⟩
theorem ChM.same {H H' : Hp} {D : MA} (s : Same H H') : ChM H D H' D := ⟨s.fr, rfl, rfl, rfl, fun _ h => .inl h⟩
theorem ChM.trans {H H1 H2 : Hp} {D D1 D2 : MA} (x : ChM H D H1 D1) (y : ChM H1 D1 H2 D2) : ChM H D H2 D2 := by
  refine ⟨x.fr.seq y.fr x.own, y.m.trans x.m, y.ln.trans x.ln, y.wk.trans x.wk, fun a ha => ?_⟩
  rcases y.own a ha with h | h
  · exact x.own a h
  · exact .inr (x.fr.back h)
structure PlM (K : Fg) (H : Hp) (D : MA) (P : Pl) : Prop where
  ok : P.Ok
  ln : ∃ vs, H D.ln = some (.dK ((P.ls.map fun l => (Sum.inr l.nm : Key)).zip vs)) ∧ DpAll K H vs (P.ls.map dLn)
  wk : ∃ vs, H D.wk = some (.dK ((P.ws.map fun l => (Sum.inr l.nm : Key)).zip vs)) ∧ DpAll K H vs (P.ws.map dWk)
theorem PlM.keep {K : Fg} {H H' : Hp} {D : MA} {P : Pl} (h : PlM K H D P) {A : List Addr} (f : Fr A H H') (n1 : D.ln ∉ A) (n2 : D.wk ∉ A) : PlM K H' D P := by
  obtain ⟨vs, h1, h2⟩ := h.ln
  obtain ⟨ws, h3, h4⟩ := h.wk
  exact ⟨h.ok, ⟨vs, f.at h1 n1, h2.tk f.tk (tupds_map tupd_dLn _)⟩, ⟨ws, f.at h3 n2, h4.tk f.tk (tupds_map tupd_dWk _)⟩⟩
theorem PlM.same {K : Fg} {H H' : Hp} {D : MA} {P : Pl} (h : PlM K H D P) (s : Same H H') : PlM K H' D P := h.keep (A := []) s.fr (by simp) (by simp)
theorem plm_same {K : Fg} {H H' : Hp} {D : MA} {P : Pl} (s : Same H H') (h : PlM K H D P) : PlM K H' D P := h.same s
theorem PlM.of {K : Fg} {H : Hp} {D D' : MA} {P : Pl} (h : PlM K H D P) (e1 : D'.ln = D.ln) (e2 : D'.wk = D.wk) : PlM K H D' P := ⟨h.ok, by rw [e1]; exact h.ln, by rw [e2]; exact h.wk⟩
end Z
set_option maxHeartbeats 1000000
namespace Z
open PySem PySem.Spec PyProof.Rows L2
section
variable {σ : L2.St} {H : Hp} {a : Addr} {kvs : List (Key × V)} {ea ec ed : L2.St → Hp → Prop} {eb : VK}
theorem s_dputg {td ty tv : TE} (q : tv σ H fun v H1 => td σ H1 fun x H2 => ty σ H2 fun y H3 => ∃ a H4, x = .ref a ∧ DPut H3 a y v H4 ∧ ea σ H4) : sDPut td ty tv (.mk ea eb ec ed) σ H := q
end
structure MSt (K : Fg) (H : Hp) (D : MA) (P : Pl) (M : Md) : Prop where
  md : MdAt K H D M
  pl : PlM K H D P
  n1 : D.ln ∉ D.own
  n2 : D.wk ∉ D.own
theorem MSt.same {K : Fg} {H H' : Hp} {D : MA} {P : Pl} {M : Md} (h : MSt K H D P M) (s : Same H H') : MSt K H' D P M := ⟨h.md.same s, h.pl.same s, h.n1, h.n2⟩
theorem mst_same {K : Fg} {H H' : Hp} {D : MA} {P : Pl} {M : Md} (s : Same H H') (h : MSt K H D P M) : MSt K H' D P M := h.same s
theorem PlM.ex {K : Fg} {H : Hp} {D : MA} {P : Pl} (h : PlM K H D P) : H D.ln ≠ none ∧ H D.wk ≠ none := by
  obtain ⟨vs, h1, h2⟩ := h.ln
  obtain ⟨ws, h3, h4⟩ := h.wk
  simp [h1, h3]
end Z
set_option maxHeartbeats 1000000
namespace Z
open PySem PySem.Spec PyProof.Rows L2
structure MBd (P : Pl) (M : Md) : Prop where
  sh : M.shut.length ≤ 1000
  ed : M.edge.length ≤ 1000
  hi : M.high.length ≤ 1000
  up : M.up.length ≤ 1000
  ca : M.calls.length ≤ 1000
  jo : M.jobs.length ≤ 1000
  jw : ∀ j ∈ M.jobs, j.1 ∈ P.wnames
  sz : M.joined.length + M.log.length ≤ 1000000
end Z
set_option maxHeartbeats 1000000
namespace Z
open PySem PySem.Spec PyProof.Rows L2
structure Gr (P : Pl) (M M' : Md) (n : Nat) : Prop where
  sh : M'.shut.length ≤ M.shut.length + n
  ed : M'.edge.length ≤ M.edge.length + n
  hi : M'.high.length ≤ M.high.length + n
  up : M'.up.length ≤ M.up.length + n
  ca : M'.calls.length ≤ M.calls.length + n
  jo : M'.jobs.length ≤ M.jobs.length + n
  jw : (∀ j ∈ M.jobs, j.1 ∈ P.wnames) → ∀ j ∈ M'.jobs, j.1 ∈ P.wnames
  sz : M'.joined.length + M'.log.length ≤ M.joined.length + M.log.length + n
theorem Gr.refl {P : Pl} {M : Md} : Gr P M M 0 := ⟨Nat.le_refl _, Nat.le_refl _, Nat.le_refl _, Nat.le_refl _, Nat.le_refl _, Nat.le_refl _, id, Nat.le_refl _⟩
theorem Gr.trans {P : Pl} {M M1 M2 : Md} {n k : Nat} (x : Gr P M M1 n) (y : Gr P M1 M2 k) : Gr P M M2 (n + k) := by
  obtain ⟨a1, a2, a3, a4, a5, a6, a7, a8⟩ := x
  obtain ⟨b1, b2, b3, b4, b5, b6, b7, b8⟩ := y
  exact ⟨by omega, by omega, by omega, by omega, by omega, by omega, fun h => b7 (a7 h), by omega⟩
theorem Gr.mono {P : Pl} {M M1 : Md} {n k : Nat} (x : Gr P M M1 n) (h : n ≤ k) : Gr P M M1 k := by
  obtain ⟨a1, a2, a3, a4, a5, a6, a7, a8⟩ := x
  exact ⟨by omega, by omega, by omega, by omega, by omega, by omega, a7, by omega⟩
structure Rm (P : Pl) (M : Md) (n : Nat) : Prop where
  sh : M.shut.length + n ≤ 1000
  ed : M.edge.length + n ≤ 1000
  hi : M.high.length + n ≤ 1000
  up : M.up.length + n ≤ 1000
  ca : M.calls.length + n ≤ 1000
  jo : M.jobs.length + n ≤ 1000
  jw : ∀ j ∈ M.jobs, j.1 ∈ P.wnames
  sz : M.joined.length + M.log.length + n ≤ 1000000
theorem Rm.bd {P : Pl} {M : Md} {n : Nat} (x : Rm P M n) : MBd P M := by
  obtain ⟨a1, a2, a3, a4, a5, a6, a7, a8⟩ := x
  exact ⟨by omega, by omega, by omega, by omega, by omega, by omega, a7, by omega⟩
end Z
set_option maxHeartbeats 1000000
namespace Z
open PySem PySem.Spec PyProof.Rows L2
theorem DpAll.snoc {K : Fg} {H : Hp} {d : PyData} : ∀ {ds : List PyData} {xs : List V}, DpAll K H xs (ds ++ [d]) → ∃ as x, xs = as ++ [x] ∧ DpAll K H as ds ∧ Dp K H x d
  | [], _, .cons h .nil => ⟨[], _, rfl, .nil, h⟩
  | e :: ds, _, .cons h t => by
    obtain ⟨as, x, rfl, h1, h2⟩ := DpAll.snoc t
    exact ⟨_ :: as, x, rfl, .cons h h1, h2⟩
end Z
set_option maxHeartbeats 1000000
namespace Z
open PySem PySem.Spec PyProof.Rows L2
def Ts (K : Fg) (H H' : Hp) : Prop := ∀ a xs, SqT K H a xs → SqT K H' a xs
theorem Ts.trans {K : Fg} {H H1 H2 : Hp} (a : Ts K H H1) (b : Ts K H1 H2) : Ts K H H2 := fun _ _ h => b _ _ (a _ _ h)
theorem ln_self {P : Pl} (ok : P.Ok) {l : Ln} (h : l ∈ P.ls) : P.ln l.nm = l := ok.inj (ok.ln_mem (List.mem_map.mpr ⟨l, h, rfl⟩)).1 h (ok.ln_mem (List.mem_map.mpr ⟨l, h, rfl⟩)).2
end Z
set_option maxHeartbeats 1000000
namespace Z
open PySem PySem.Spec PyProof.Rows L2
end Z
set_option maxHeartbeats 1000000
namespace Z
open PySem PySem.Spec PyProof.Rows L2
end Z
set_option maxHeartbeats 1000000
namespace Z
open PySem PySem.Spec PyProof.Rows L2
end Z
set_option maxHeartbeats 1000000
namespace Z
open PySem PySem.Spec PyProof.Rows L2
end Z
set_option maxHeartbeats 1000000
namespace Z
open PySem PySem.Spec PyProof.Rows L2
structure Al (l : List Addr) (H : Hp) : Prop where
  nd : l.Nodup
  ex : ∀ a ∈ l, H a ≠ none
theorem Al.nil {H : Hp} : Al [] H := ⟨.nil, by simp⟩
theorem Al.fr {l A : List Addr} {H H' : Hp} (h : Al l H) (f : Fr A H H') : Al l H' := ⟨h.nd, fun a ha e => h.ex a ha (f.back e)⟩
theorem Al.same {l : List Addr} {H H' : Hp} (h : Al l H) (s : Same H H') : Al l H' := h.fr (A := []) s.fr
theorem Al.new {l : List Addr} {H H' : Hp} {p : Addr} {o : HO} (h : Al l H) (hp : H p = none) (s : Same H H') (e : H' p = some o) : Al (l ++ [p]) H' := by
  refine ⟨?_, fun a ha => ?_⟩
  · rw [List.nodup_append]
    refine ⟨h.nd, by simp, fun a ha b hb eab => ?_⟩
    rw [List.mem_singleton] at hb
    rw [eab, hb] at ha
    exact h.ex _ ha hp
  · rcases List.mem_append.mp ha with ha | ha
    · exact (h.same s).ex a ha
    · rw [List.mem_singleton.mp ha, e]
      simp
end Z
set_option maxHeartbeats 1000000
namespace Z
open PySem PySem.Spec PyProof.Rows L2
section
variable {K : Fg} {σ : L2.St} {H H1 : Hp} {Q : VK} {g : TG} {tt : TT} {te tk tv tl : TE} {vs : List Nat} {x : V} {a : Addr} {xs : List V} {α : Type} {l : List α}
theorem lcR_d {n : Nat} (p : Nat → Bool) (f : Nat → PyData) (hn : n ≤ 40000) (hf : ∀ i, i < n → tupd (f i) = true)
    (hs : ∀ (i : Nat) (H : Hp) (Yes : VK) (No : Hp → Prop), i < n → Same H1 H → (p i = true → ∀ y H4, Same H H4 → Dp K H4 y (f i) → Yes y H4) → (p i = false → ∀ H3, Same H H3 → No H3) →
      g (.int i) (wipe σ vs) H fun σ2 H2 => wipe σ2 vs = wipe σ vs ∧ tt σ2 H2 fun b H3 => if b = true then te σ2 H3 Yes else No H3)
    (hd : ∀ D H' ys, H1 D = none → Same H1 H' → H' D = some (.lst ys) → DpAll K H' ys (((List.range n).filter p).map f) → Q (.ref D) H') : LcQ (Itr 0 n) g tt te vs σ Q H1 := by
  have hz : (List.range n).length = n := List.length_range
  refine fun D hD => ?_
  refine lc_dat (K := K) (walk_range (lo := 0) (n := n)) (pAt (List.range n) p) (dAt (List.range n) f) hD hn (dAt_tupd (fun x hx => hf x (List.mem_range.mp hx))) (fun H s => trivial) (fun i H x H' y => by rw [y.1]; exact Same.refl H) (fun i x H H' Yes No hi s1 y yes no => ?_) (fun H' ys s1 e1 a1 => ?_)
  · obtain ⟨rfl, rfl⟩ := y
    have hz : (List.range n)[i]? = some i := List.getElem?_range hi
    rw [pAt_eq hz, dAt_eq hz] at yes
    rw [pAt_eq hz] at no
    have := hs i H' Yes No hi s1 yes no
    dsimp only
    rw [Int.zero_add]
    exact this
  · have k := keptD_list (l := List.range n) (p := p) (f := f)
    rw [hz] at k
    rw [k] at a1
    exact hd D H' ys hD s1 e1 a1
end
end Z
set_option maxHeartbeats 1000000
namespace Z
open PySem PySem.Spec PyProof.Rows L2
theorem MSt.keep {K : Fg} {H H' : Hp} {D : MA} {P : Pl} {M : Md} (h : MSt K H D P M) {A : List Addr} (f : Fr A H H') (n : ∀ a ∈ D.own, a ∉ A) (n1 : D.ln ∉ A) (n2 : D.wk ∉ A) : MSt K H' D P M := ⟨h.md.keep f n, h.pl.keep f n1 n2, h.n1, h.n2⟩
end Z
set_option maxHeartbeats 1000000
namespace Z
open PySem PySem.Spec PyProof.Rows L2
theorem Eqs.len {α : Type} [DecidableEq α] {l m : List α} (h : Eqs l m) : l.length = m.length := ((List.perm_ext_iff_of_nodup h.n1 h.n2).mpr fun x => h.eq x).length_eq
theorem inOrd_eq {P : Pl} (ok : P.Ok) {zs : List Str} {p : Str → Bool} (hz : ∀ z ∈ zs, z ∈ P.names) (hn : zs.Nodup) (he : ∀ z ∈ P.names, p z = true ↔ z ∈ zs) : ((zs.map P.ln).mergeSort leO).map (·.nm) = P.order.filter p := by
  refine order_names ok (fun x hx => ?_) ?_ (fun x hx => ?_)
  · obtain ⟨z, h, rfl⟩ := List.mem_map.mp hx
    exact (ok.ln_mem (hz z h)).1
  · refine List.pairwise_map.mpr (hn.imp_of_mem ?_)
    intro a b ha hb hab e
    apply hab
    rw [← (ok.ln_mem (hz a ha)).2, ← (ok.ln_mem (hz b hb)).2, e]
  · rw [he x.nm (List.mem_map.mpr ⟨x, hx, rfl⟩)]
    constructor
    · intro h
      exact List.mem_map.mpr ⟨x.nm, h, ln_self ok hx⟩
    · intro h
      obtain ⟨z, h1, h2⟩ := List.mem_map.mp h
      rw [← h2, (ok.ln_mem (hz z h1)).2]
      exact h1
structure Both (P : Pl) (M : Md) (G : Sg) : Prop where
  rel : Rel P M G
  inv : RInv P G.C G.B
section
variable {P : Pl} {M : Md} {G : Sg}
theorem Both.shut (ok : P.Ok) (b : Both P M G) : ((M.shut.map P.ln).mergeSort leO).map (·.nm) = P.order.filter fun z => decide (z ∈ G.B.shut) := by
  have e := b.rel.c.b.sh
  refine inOrd_eq ok (fun z hz => b.inv.cok.bok.sh.sub z ((e.eq z).mp hz)) e.n1 (fun z hz => ?_)
  rw [decide_eq_true_iff]
  exact (e.eq z).symm
theorem Both.high (ok : P.Ok) (b : Both P M G) : ((M.high.map P.ln).mergeSort leO).map (·.nm) = P.order.filter fun z => decide (z ∈ G.B.high) := by
  have e := b.rel.c.b.hi
  refine inOrd_eq ok (fun z hz => b.inv.cok.bok.hi.sub z ((e.eq z).mp hz)) e.n1 (fun z hz => ?_)
  rw [decide_eq_true_iff]
  exact (e.eq z).symm
theorem Both.spent (b : Both P M G) : M.spent = G.sums.map (·.2) := by
  obtain ⟨x, y, z, w, e, e2⟩ := b.rel.sp
  rw [e, e2]
  rfl
theorem carry_taken {B : Bd} {s : Str × Key} : (B.carry P s).1.taken = B.taken := by
  unfold Bd.carry Bd.ring
  repeat (first | rfl | split)
theorem Both.deed (ok : P.Ok) (b : Both P M G) {s : Str × Key} (cs : CarryIs P s) : Both P (M.does P s).1 { G with B := (G.B.carry P s).1 } ∧ (M.does P s).2 = (G.B.carry P s).2 := by
  obtain ⟨h1, h2⟩ := carry_sim ok b.rel.c.b cs
  have w1 : s.1 ≠ "bar" := by
    rcases cs with ⟨hw, _⟩ | ⟨hw, _⟩ <;> (intro e; rw [e] at hw; revert hw; decide)
  have w2 : s.1 ≠ "later" := by
    rcases cs with ⟨hw, _⟩ | ⟨hw, _⟩ <;> (intro e; rw [e] at hw; revert hw; decide)
  obtain ⟨c1, c2⟩ := carry_rest (P := P) (M := M) w1 w2
  obtain ⟨d1, d2, d3, d4⟩ := does_rest (P := P) (M := M) (s := s)
  refine ⟨⟨⟨d1.trans b.rel.calls, ⟨h1, c1.trans b.rel.c.lim, c2.trans b.rel.c.jobs⟩, d2.trans b.rel.now, by rw [d4]; exact b.rel.sp⟩, ?_⟩, h2⟩
  have ct := carry_taken (P := P) (B := G.B) (s := s)
  exact ⟨⟨b.inv.cok.bok.carry cs, b.inv.cok.jok, b.inv.cok.fok.taken ct⟩, fun z => by rw [ct]; exact b.inv.tk z, b.inv.rk, b.inv.rt, b.inv.jb⟩
end
end Z
set_option maxHeartbeats 1000000
namespace Z
open PySem PySem.Spec PyProof.Rows L2
theorem Both.start (P : Pl) : Both P Md.start (Sg.start P) := by
  refine ⟨⟨rfl, ⟨⟨Eqs.nil, Eqs.nil, Eqs.nil, Eqs.nil⟩, rfl, rfl⟩, rfl, 0, 0, 0, 0, rfl, rfl⟩, ⟨(Acct.start P).cok, fun z => ?_, by simp [Sg.start], by simp [Sg.start], by simp [Sg.start]⟩⟩
  simp [Sg.start]
theorem Both.sub (ok : P.Ok) {M : Md} {G : Sg} (b : Both P M G) : (∀ z ∈ M.shut, z ∈ P.names) ∧ (∀ z ∈ M.high, z ∈ P.names) := ⟨fun z hz => b.inv.cok.bok.sh.sub z ((b.rel.c.b.sh.eq z).mp hz), fun z hz => b.inv.cok.bok.hi.sub z ((b.rel.c.b.hi.eq z).mp hz)⟩
structure Two (K : Fg) (H0 H : Hp) (A : SA) (D : MA) (P : Pl) (M : Md) (G : Sg) : Prop where
  sg : SgAt K H A P G
  st : MSt K H D P M
  dj : ∀ a ∈ A.own, a ∉ D.own ∧ a ≠ D.ln ∧ a ≠ D.wk
  dp : ∀ a ∈ A.PD.own, a ∉ D.own
  na : ∀ a ∈ A.own, H0 a = none
  nd : ∀ a ∈ D.own, H0 a = none
  np : ∀ a ∈ A.PD.own, H0 a = none
  nl : H0 D.ln = none ∧ H0 D.wk = none
section
variable {K : Fg} {H0 H H' : Hp} {A A' : SA} {D D' : MA} {P : Pl} {M M' : Md} {G G' : Sg}
theorem Two.keep (t : Two K H0 H A D P M G) {N : List Addr} (f : Fr N H H') (n : ∀ a ∈ N, H0 a ≠ none) : Two K H0 H' A D P M G := by
  have z : ∀ {a}, H0 a = none → a ∉ N := fun h q => n _ q h
  exact ⟨t.sg.keep f (fun a ha => z (t.na a ha)) (fun a ha => z (t.np a ha)), t.st.keep f (fun a ha => z (t.nd a ha)) (z t.nl.1) (z t.nl.2), t.dj, t.dp, t.na, t.nd, t.np, t.nl⟩
theorem Two.same (t : Two K H0 H A D P M G) (s : Same H H') : Two K H0 H' A D P M G := t.keep (N := []) s.fr (by simp)
theorem Two.row (t : Two K H0 H A D P M G) {r : Addr} (f : Fr [r] H H') (n : H0 r ≠ none) : Two K H0 H' A D P M G := t.keep f (by simpa using n)
end
end Z
set_option maxHeartbeats 1000000
namespace Z
open PySem PySem.Spec PyProof.Rows L2
def nmA : List Str := ["net", "disk", "heat", "fan", "a", "ab", "b", "c", "d", "flush", "sweep", "x", "idle", "zza", "zzb", "zzc", "zzd", "zze", "zzf"]
theorem nmA_name : ∀ z ∈ nmA, isName (.str z) = true ∧ short (.str z) = true ∧ (PyData.str z).canLay0 = true := by decide +kernel
abbrev NK := List (Str × Str)
inductive FitSt (nk : NK) (ws : List Str) : Str × Key → Prop where
  | run {n : Int} (h1 : 1 ≤ n) (h2 : n ≤ 99) : FitSt nk ws ("run", .inl n)
  | bar {n : Int} (h1 : 0 ≤ n) (h2 : n ≤ 9) : FitSt nk ws ("bar", .inl n)
  | flag {w : Str} {n : Int} (hw : w ∈ (["set", "clear", "await"] : List Str)) (h1 : 0 ≤ n) (h2 : n ≤ 7) : FitSt nk ws (w, .inl n)
  | line {w : Str} {z : Str} (hw : w ∈ (["ring", "mask", "unmask"] : List Str)) (hz : z ∈ nk.map (·.1)) : FitSt nk ws (w, .inr z)
  | quiet {z : Str} (hz : (z, ("level" : Str)) ∈ nk) : FitSt nk ws ("quiet", .inr z)
  | later {z : Str} (hz : z ∈ ws) : FitSt nk ws ("later", .inr z)
structure FitLn (nk : NK) (ws : List Str) (l : Ln) : Prop where
  nm : l.nm ∈ nmA
  kd : l.kd = "edge" ∨ l.kd = "level"
  r1 : 1 ≤ l.rk
  r9 : l.rk ≤ 9
  ne : l.st ≠ []
  s8 : l.st.length ≤ 8
  st : ∀ s ∈ l.st, FitSt nk ws s
structure FitWk (w : Wk) : Prop where
  nm : w.nm ∈ nmA
  r1 : 1 ≤ w.rk
  r9 : w.rk ≤ 9
  t1 : 1 ≤ w.tk
  t9 : w.tk ≤ 99
def nkOf (ls : List Ln) : NK := ls.map fun l => (l.nm, l.kd)
theorem nk_names (ls : List Ln) : (nkOf ls).map (·.1) = ls.map (·.nm) := by
  unfold nkOf
  rw [List.map_map]
  rfl
theorem kinds_mem : ∀ {ls : List Ln}, (ls.map (·.nm)).Nodup → ∀ {z k : Str}, (z, k) ∈ nkOf ls → valV (ls.map fun l => ((.inr l.nm : Key), V.str l.kd)) (.inr z) = some (.str k)
  | [], _, _, _, h => by cases h
  | l :: ls, hn, z, k, h => by
    rw [List.map_cons, List.nodup_cons] at hn
    rcases List.mem_cons.mp h with e | h
    · cases e
      exact valV_pos rfl
    · have hne : ¬ l.nm = z := fun e => hn.1 (by
        rw [e]
        obtain ⟨y, hy, e2⟩ := List.mem_map.mp h
        cases e2
        exact List.mem_map_of_mem hy)
      rw [List.map_cons, valV_neg (fun q => hne (Sum.inr.inj q))]
      exact kinds_mem hn.2 h
theorem flatw {l : List Str} {z : Str} (h : z ∈ l) : inV (.str z) (l.map V.str) = true := by
  rw [inV_strs]
  exact decide_eq_true h
theorem stepX_fit {ls : List Ln} (hn : (ls.map (·.nm)).Nodup) {ws : List Str} {s : Str × Key} (h : FitSt (nkOf ls) ws s) : isStepX (ls.map fun l => ((.inr l.nm : Key), V.str l.kd)) (ws.map V.str) s.1 (kD s.2) = true := by
  have hmem : ∀ {z : Str}, z ∈ (nkOf ls).map (·.1) → (valV (ls.map fun l => ((.inr l.nm : Key), V.str l.kd)) (.inr z)).isSome = true := fun {z} hz => by
    obtain ⟨y, hy, rfl⟩ := List.mem_map.mp hz
    rw [kinds_mem hn (z := y.1) (k := y.2) hy]
    rfl
  cases h with
  | run h1 h2 => exact stepX_run h1 h2
  | bar h1 h2 =>
    rename_i n
    show isStepX _ _ "bar" (.int n) = true
    unfold isStepX
    rw [if_neg (by decide), if_neg (by decide), if_neg (by decide)]
    have : isIntD 0 9 (.int n) = true := decide_eq_true ⟨h1, h2⟩
    rw [this, decide_eq_true (show V.str "bar" = V.str "bar" from rfl), Bool.true_and, Bool.or_true]
  | flag hw h1 h2 =>
    rename_i w n
    have : isIntD 0 7 (.int n) = true := decide_eq_true ⟨h1, h2⟩
    simp only [List.mem_cons, List.not_mem_nil, or_false] at hw
    show isStepX _ _ w (.int n) = true
    rcases hw with rfl | rfl | rfl
    all_goals
      unfold isStepX
      rw [if_neg (by decide), if_neg (by decide), if_pos (by decide)]
      exact this
  | line hw hz =>
    rename_i w z
    have hz := hmem hz
    simp only [List.mem_cons, List.not_mem_nil, or_false] at hw
    show isStepX _ _ w (.str z) = true
    rcases hw with rfl | rfl | rfl
    all_goals
      unfold isStepX
      rw [if_pos (by decide)]
      dsimp only
      rw [hz, decide_eq_false (show ¬ V.str _ = V.str "quiet" by decide)]
      rfl
  | quiet hz =>
    rename_i z
    have e := kinds_mem hn hz
    show isStepX _ _ "quiet" (.str z) = true
    unfold isStepX
    rw [if_pos (by decide)]
    dsimp only
    rw [e]
    simp
  | later hz => exact stepX_later (flatw hz)
theorem short_key {nk : NK} {ws : List Str} {s : Str × Key} (h : FitSt nk ws s) (hk : ∀ z ∈ nk.map (·.1), z ∈ nmA) (hw : ∀ z ∈ ws, z ∈ nmA) : short (dSt s) = true := by
  have st : ∀ {w : Str} {z : Str}, short (.str w) = true → z ∈ nmA → short (dSt (w, (.inr z : Key))) = true := fun {w z} h1 hz => by
    show (short (.str w) && (short (.str z) && true)) = true
    rw [h1, (nmA_name z hz).2.1]
    rfl
  cases h with
  | run _ _ => exact (show (short (.str "run") && (true && true)) = true by decide +kernel)
  | bar _ _ => exact (show (short (.str "bar") && (true && true)) = true by decide +kernel)
  | flag hw _ _ =>
    simp only [List.mem_cons, List.not_mem_nil, or_false] at hw
    rcases hw with rfl | rfl | rfl
    · exact (show (short (.str "set") && (true && true)) = true by decide +kernel)
    · exact (show (short (.str "clear") && (true && true)) = true by decide +kernel)
    · exact (show (short (.str "await") && (true && true)) = true by decide +kernel)
  | line hw hz =>
    have hz := hk _ hz
    simp only [List.mem_cons, List.not_mem_nil, or_false] at hw
    rcases hw with rfl | rfl | rfl
    · exact st (by decide +kernel) hz
    · exact st (by decide +kernel) hz
    · exact st (by decide +kernel) hz
  | quiet hz => exact st (by decide +kernel) (hk _ (List.mem_map.mpr ⟨_, hz, rfl⟩))
  | later hz => exact st (by decide +kernel) (hw _ hz)
theorem plan_fit {ls : List Ln} {ws : List Wk} (hl : ∀ l ∈ ls, FitLn (nkOf ls) (ws.map (·.nm)) l) (hn : (ls.map (·.nm)).Nodup) (hne : ls ≠ []) (h12 : ls.length ≤ 12) (hwn : (ws.map (·.nm)).Nodup) (hw8 : ws.length ≤ 8) (hwk : ∀ w ∈ ws, FitWk w) : Pl.Ok ⟨ls, ws⟩ := by
  have hk : ∀ z ∈ (nkOf ls).map (·.1), z ∈ nmA := fun z hz => by
    rw [nk_names] at hz
    obtain ⟨l, h, rfl⟩ := List.mem_map.mp hz
    exact (hl l h).nm
  have hw : ∀ z ∈ ws.map (·.nm), z ∈ nmA := fun z hz => by
    obtain ⟨l, h, rfl⟩ := List.mem_map.mp hz
    exact (hwk l h).nm
  refine ⟨hne, h12, hw8, fun l h => ?_, fun w h => ?_, hn, hwn, fun l h s hs => ?_, fun l h => ?_, fun w h => ?_⟩
  · have g := hl l h
    have h1 := (nmA_name _ g.nm).1
    show (isName (.str l.nm) && (isKind (.str l.kd) && (isIntD 1 9 (.int l.rk) && isSteps 8 (.tuple (l.st.map dSt))))) = true
    have h2 : isKind (.str l.kd) = true := by rcases g.kd with e | e <;> (rw [e]; decide)
    have h3 : isIntD 1 9 (.int l.rk) = true := decide_eq_true ⟨g.r1, g.r9⟩
    have h4 : isSteps 8 (.tuple (l.st.map dSt)) = true := by
      have p1 : 0 < l.st.length := List.length_pos_iff.mpr g.ne
      have p2 := g.s8
      simp only [isSteps, List.length_map, Bool.and_eq_true, decide_eq_true_eq]
      omega
    rw [h1, h2, h3, h4]
    rfl
  · have g := hwk w h
    have h1 := (nmA_name _ g.nm).1
    show (isName (.str w.nm) && (isIntD 1 9 (.int w.rk) && isIntD 1 99 (.int w.tk))) = true
    have h2 : isIntD 1 9 (.int w.rk) = true := decide_eq_true ⟨g.r1, g.r9⟩
    have h3 : isIntD 1 99 (.int w.tk) = true := decide_eq_true ⟨g.t1, g.t9⟩
    rw [h1, h2, h3]
    rfl
  · exact stepX_fit hn ((hl l h).st s hs)
  · have g := hl l h
    show (short (.str l.nm) && (short (.str l.kd) && (true && (shorts (l.st.map dSt) && true)))) = true
    have h1 := (nmA_name _ g.nm).2.1
    have h2 : short (.str l.kd) = true := by rcases g.kd with e | e <;> (rw [e]; decide +kernel)
    have h3 : shorts (l.st.map dSt) = true := shorts_map fun s hs => short_key (g.st s hs) hk hw
    rw [h1, h2, h3]
    rfl
  · have g := hwk w h
    obtain ⟨_, h1, h2⟩ := nmA_name _ g.nm
    refine ⟨?_, h2⟩
    show (short (.str w.nm) && (true && (true && true))) = true
    rw [h1]
    rfl
end Z
set_option maxHeartbeats 1000000
namespace Z
open PySem PySem.Spec PyProof.Rows L2
def nm6 : List Str := ["net", "disk", "heat", "fan", "a", "ab"]
structure Drawn (P : Pl) : Prop where
  fit : ∀ l ∈ P.ls, FitLn (nkOf P.ls) P.wnames l
  nd : P.names.Nodup
  ne : P.ls ≠ []
  six : ∀ z ∈ P.names, z ∈ nm6
  wf : ∀ w ∈ P.ws, FitWk w
  wn : ∃ k, P.wnames = nmW.take k
theorem Drawn.l6 {P : Pl} (d : Drawn P) : P.ls.length ≤ 6 := by
  have h : Sub P.names nm6 := ⟨d.nd, d.six⟩
  have := h.len
  unfold Pl.names at this
  rw [List.length_map] at this
  exact this
theorem Drawn.w2 {P : Pl} (d : Drawn P) : P.ws.length ≤ 2 := by
  obtain ⟨k, e⟩ := d.wn
  have h := congrArg List.length e
  unfold Pl.wnames at h
  rw [List.length_map, List.length_take] at h
  have : nmW.length = 2 := rfl
  omega
theorem Drawn.ok {P : Pl} (d : Drawn P) : P.Ok := by
  have h6 := d.l6
  have h2 := d.w2
  refine plan_fit (ls := P.ls) (ws := P.ws) d.fit d.nd d.ne (by omega) ?_ (by omega) d.wf
  obtain ⟨k, e⟩ := d.wn
  show P.wnames.Nodup
  rw [e]
  exact List.Nodup.sublist (List.take_sublist _ _) (by decide)
theorem nm6_A : ∀ z ∈ nm6, z ∈ nmA := by decide
theorem perm_strs {ys : List V} {l : List Str} (h : ys.Perm (l.map V.str)) : ∃ m : List Str, ys = m.map V.str ∧ m.Perm l := by
  have h1 : ∀ y ∈ ys, ∃ z, y = V.str z := fun y hy => by
    obtain ⟨z, _, e⟩ := List.mem_map.mp (h.mem_iff.mp hy)
    exact ⟨z, e.symm⟩
  obtain ⟨m, rfl⟩ : ∃ m : List Str, ys = m.map V.str := by
    clear h
    induction ys with
    | nil => exact ⟨[], rfl⟩
    | cons y ys ih =>
      obtain ⟨z, rfl⟩ := h1 y (by simp)
      obtain ⟨m, rfl⟩ := ih fun y hy => h1 y (by simp [hy])
      exact ⟨z :: m, rfl⟩
  refine ⟨m, rfl, ?_⟩
  have h2 := h.map (fun v : V => match v with | .str z => z | _ => "")
  rw [List.map_map, List.map_map] at h2
  have e : ∀ l : List Str, l.map ((fun v : V => match v with | .str z => z | _ => "") ∘ V.str) = l := fun l => by
    rw [show ((fun v : V => match v with | .str z => z | _ => "") ∘ V.str) = (id : Str → Str) from rfl, List.map_id]
  rw [e, e] at h2
  exact h2
end Z
set_option maxHeartbeats 1000000
namespace Z
open PySem PySem.Spec PyProof.Rows L2
theorem RowAt.kept {K : Fg} {H H1 H2 : Hp} {r sc : Addr} {ns : List Int} {N : List Addr} (h0 : RowAt K H r sc ns) (h : RowAt K H1 r sc ns) (f : Fr N H1 H2) (hN : ∀ a ∈ N, H a = none) : RowAt K H2 r sc ns := by
  refine h.keep f (fun z => h0.ex (hN _ z)) ?_
  rcases h0.scr with (k | ⟨o, k⟩) | k
  · exact .inl fun z => by rw [hN _ z] at k; cases k
  · exact .inl fun z => by rw [hN _ z] at k; cases k
  · exact .inr fun _ => .inr k
theorem perm_erase {α : Type} : ∀ {l : List α} {j : Nat} {y : α}, l[j]? = some y → (y :: l.eraseIdx j).Perm l
  | [], _, _, h => by simp at h
  | x :: l, 0, y, h => by
    simp only [List.getElem?_cons_zero, Option.some.injEq] at h
    subst h
    exact .refl _
  | x :: l, j + 1, y, h => by
    rw [List.getElem?_cons_succ] at h
    rw [List.eraseIdx_cons_succ]
    exact (List.Perm.swap x y _).trans ((perm_erase h).cons x)
def evW : List Str := ["begin", "end", "done"]
def EvW (P : Pl) (es : List Ev) : Prop := ∀ e ∈ es, e.1 ∈ evW ∧ (e.2 ∈ P.names ∨ e.2 ∈ P.wnames)
theorem EvW.nil {P : Pl} : EvW P [] := by intro e h; simp at h
theorem EvW.app {P : Pl} {a b : List Ev} (h : EvW P a) (k : EvW P b) : EvW P (a ++ b) := fun e he => by
  rcases List.mem_append.mp he with he | he
  · exact h e he
  · exact k e he
theorem EvW.one {P : Pl} {w z : Str} (h : w ∈ evW) (k : z ∈ P.names ∨ z ∈ P.wnames) : EvW P [(w, z)] := fun e he => by
  rw [List.mem_singleton.mp he]
  exact ⟨h, k⟩
end Z
set_option maxHeartbeats 1000000
namespace Z
open PySem PySem.Spec PyProof.Rows L2
section
variable {K : Fg} {σ : L2.St} {H1 : Hp} {Q : VK} {g : TG} {tt : TT} {te : TE} {vs : List Nat} {a r sc : Addr} {ns : List Int} {zs : List V} {α : Type}
theorem lcL_row (e : H1 a = some (.lst zs)) (ar : a ≠ r) (row1 : RowAt K H1 r sc ns) (hl : zs.length ≤ 40000) (R : Nat → α → Prop) (f : α → PyData) (hf : ∀ x, tupd (f x) = true)
    (hs : ∀ (i : Nat) (x : V) (Ha : Hp) (Yes : VK) (No : Hp → Prop), zs[i]? = some x → Fr [r] H1 Ha → RowAt K Ha r sc ns → (∀ y H4 b, Fr [r] Ha H4 → RowAt K H4 r sc ns → R i b → Dp K H4 y (f b) → Yes y H4) →
      g x (wipe σ vs) Ha fun σ2 H2 => wipe σ2 vs = wipe σ vs ∧ tt σ2 H2 fun b H3 => if b = true then te σ2 H3 Yes else No H3)
    (hd : ∀ D H' ys (l : List α), H1 D = none → Fr [r] H1 H' → RowAt K H' r sc ns → H' D = some (.lst ys) → l.length = zs.length → (∀ k x, l[k]? = some x → R k x) → DpAll K H' ys (l.map f) → Q (.ref D) H') : LcL K g tt te vs σ Q (.ref a) H1 := by
  refine ⟨a, rfl, ⟨_, SqL.of e⟩, fun D hD => lc_rel (K := K) (walk_list (xs := zs)) R f [r] (fun Ha => RowAt K Ha r sc ns) hD hl hf (fun b hb => by rw [List.mem_singleton.mp hb]; exact row1.ex) row1 (fun Ha Hb fr h => row1.kept h fr (by simpa using hD)) (fun Ha Hb s h => h.same s) (fun Ha fr h => fr.sqL (SqL.of e) (by simp [ar])) (fun i Ha x Hb y => by rw [y.1]; exact Same.refl _) (fun i x Ha Hb Yes No hi fa rowa y yes => ?_) (fun H4 ys l f4 row4 e4 hl4 hr4 a4 => hd D H4 ys l hD f4 row4 e4 hl4 hr4 a4)⟩
  obtain ⟨rfl, hx⟩ := y
  exact hs i x Hb Yes No hx fa rowa yes
theorem lcR_row {n : Nat} (row1 : RowAt K H1 r sc ns) (hl : n ≤ 40000) (R : Nat → α → Prop) (f : α → PyData) (hf : ∀ x, tupd (f x) = true)
    (hs : ∀ (i : Nat) (Ha : Hp) (Yes : VK) (No : Hp → Prop), i < n → Fr [r] H1 Ha → RowAt K Ha r sc ns → (∀ y H4 b, Fr [r] Ha H4 → RowAt K H4 r sc ns → R i b → Dp K H4 y (f b) → Yes y H4) →
      g (.int i) (wipe σ vs) Ha fun σ2 H2 => wipe σ2 vs = wipe σ vs ∧ tt σ2 H2 fun b H3 => if b = true then te σ2 H3 Yes else No H3)
    (hd : ∀ D H' ys (l : List α), H1 D = none → Fr [r] H1 H' → RowAt K H' r sc ns → H' D = some (.lst ys) → l.length = n → (∀ k x, l[k]? = some x → R k x) → DpAll K H' ys (l.map f) → Q (.ref D) H') : LcQ (Itr 0 n) g tt te vs σ Q H1 := by
  refine fun D hD => lc_rel (K := K) (walk_range (lo := 0) (n := n)) R f [r] (fun Ha => RowAt K Ha r sc ns) hD hl hf (fun b hb => by rw [List.mem_singleton.mp hb]; exact row1.ex) row1 (fun Ha Hb fr h => row1.kept h fr (by simpa using hD)) (fun Ha Hb s h => h.same s) (fun _ _ _ => True.intro) (fun i Ha x Hb y => by rw [y.1]; exact Same.refl _) (fun i x Ha Hb Yes No hi fa rowa y yes => ?_) (fun H4 ys l f4 row4 e4 hl4 hr4 a4 => hd D H4 ys l hD f4 row4 e4 hl4 hr4 a4)
  obtain ⟨rfl, rfl⟩ := y
  have := hs i Hb Yes No hi fa rowa yes
  dsimp only
  rw [Int.zero_add]
  exact this
end
def gS (l : List Str) (k : Nat) : Str := (l[k]?).getD ""
theorem gS_eq {l : List Str} {k : Nat} (h : k < l.length) : l[k]? = some (gS l k) := by
  unfold gS
  rw [List.getElem?_eq_getElem h]
  rfl
theorem gS_map {l : List Str} {k : Nat} (h : k < l.length) : (l.map V.str)[k]? = some (V.str (gS l k)) := by
  rw [List.getElem?_map, gS_eq h]
  rfl
theorem rel_all {α : Type} {R : Nat → α → Prop} {l : List α} (h : ∀ k x, l[k]? = some x → R k x) : ∀ x ∈ l, ∃ k, R k x := fun x hx => by
  obtain ⟨i, hi⟩ := List.mem_iff_getElem?.mp hx
  exact ⟨i, h i x hi⟩
end Z
set_option maxHeartbeats 1000000
namespace Z
open PySem PySem.Spec PyProof.Rows L2
structure PlainP (P : Pl) : Prop where
  ws : P.ws = []
  fit : ∀ l ∈ P.ls, FitLn (nkOf P.ls) [] l
  nd : P.names.Nodup
  ne : P.ls ≠ []
  six : ∀ z ∈ P.names, z ∈ nm6
  rks : (P.ls.map (·.rk)).Nodup
  edge : ∀ l ∈ P.ls, l.kd = "edge"
  run : ∀ l ∈ P.ls, ∀ s ∈ l.st, s.1 = "run"
theorem PlainP.l6 {P : Pl} (d : PlainP P) : P.ls.length ≤ 6 := by
  have h : Sub P.names nm6 := ⟨d.nd, d.six⟩
  have := h.len
  unfold Pl.names at this
  rw [List.length_map] at this
  exact this
theorem PlainP.ok {P : Pl} (d : PlainP P) : P.Ok := by
  have h6 := d.l6
  have e := d.ws
  refine plan_fit (ls := P.ls) (ws := P.ws) (fun l hl => ?_) d.nd d.ne (by omega) (by rw [e]; exact .nil) (by rw [e]; decide) (fun w hw => by rw [e] at hw; cases hw)
  rw [e]
  exact d.fit l hl
end Z
set_option maxHeartbeats 1000000
namespace Z
open PySem PySem.Spec PyProof.Rows L2
theorem row_new {K : Fg} {H H1 : Hp} {r sc : Addr} {ns : List Int} (hsc : SqL K H sc (ns.map V.int)) (hr : H r = none) (s1 : Same H H1) (e1 : H1 r = some (.lst [.ref sc, .int 0, .int 0, .int 0])) : RowAt K H1 r sc ns := by
  have hS0 : H sc ≠ none ∨ ∀ H, SqL K H sc (ns.map V.int) := by
    rcases hsc with (h | ⟨o, h⟩) | h
    · exact .inl (by rw [h]; simp)
    · exact .inl (by rw [h]; simp)
    · exact .inr fun H => .inr h
  exact ⟨⟨0, 0, 0, e1, by omega, by omega, by omega⟩, s1.seq hsc, hS0.imp (fun h e => h (by rw [e]; exact hr)) id⟩
end Z
set_option maxHeartbeats 1000000
namespace Z
open PySem PySem.Spec PyProof.Rows L2
end Z
set_option maxHeartbeats 1000000
namespace Z
open PySem PySem.Spec PyProof.Rows L2
structure Pln (P : Pl) : Prop where
  ok : P.Ok
  edge : ∀ l ∈ P.ls, l.kd = "edge"
  run : ∀ l ∈ P.ls, ∀ s ∈ l.st, s.1 = "run"
  jobs : P.ws = []
section
variable {P : Pl}
theorem Pln.st (pn : Pln P) {z : Str} (hz : z ∈ P.names) {i : Nat} {s : Str × Key} (h : (P.ln z).st[i]? = some s) : s.1 = "run" := pn.run _ (pn.ok.ln_mem hz).1 s (List.mem_of_getElem? h)
structure PIn (P : Pl) (G : Sg) : Prop where
  lim : G.C.limit = 0
  kp : ∀ f ∈ G.C.frames, f.kp = 0
  jobs : G.C.jobs = []
  shut : G.B.shut = []
  high : G.B.high = []
  mod : ∃ M, Both P M G
theorem PIn.start (pn : Pln P) : PIn P (Sg.start P) := ⟨rfl, by simp [Sg.start], rfl, rfl, rfl, _, Both.start P⟩
theorem PIn.ring (pn : Pln P) {G : Sg} (h : PIn P G) {z : Str} (hz : z ∈ P.names) : PIn P (G.ring P z) ∧ (G.ring P z).C = G.C ∧ (G.ring P z).sums = G.sums ∧ (G.ring P z).time = G.time ∧ ((G.B.ring P z).2 = !decide (z ∈ G.B.wanted)) ∧ ∀ y, y ∈ (G.ring P z).B.wanted ↔ y ∈ G.B.wanted ∨ y = z := by
  obtain ⟨M, b⟩ := h.mod
  have ke : (P.ln z).kd = "edge" := pn.edge _ (pn.ok.ln_mem hz).1
  have bd := (b.deed pn.ok (s := ("ring", .inr z)) (.inl ⟨by simp, z, rfl, hz⟩)).1
  have eb : (G.B.carry P (("ring" : Str), (Sum.inr z : Key))).1 = (G.B.ring P z).1 := by
    unfold Bd.carry
    rw [if_pos rfl]
    rfl
  rw [eb] at bd
  have er : G.B.ring P z = if z ∈ G.B.wanted then ({ G.B with joined := bump G.B.joined z }, false) else ({ G.B with wanted := G.B.wanted ++ [z] }, true) := by
    unfold Bd.ring
    rw [if_pos ke]
  by_cases hw : z ∈ G.B.wanted
  · rw [if_pos hw] at er
    refine ⟨⟨h.lim, h.kp, h.jobs, ?_, ?_, _, bd⟩, rfl, rfl, rfl, ?_, fun y => ?_⟩
    · show (G.B.ring P z).1.shut = []
      rw [er]; exact h.shut
    · show (G.B.ring P z).1.high = []
      rw [er]; exact h.high
    · rw [er, decide_eq_true hw]; rfl
    · show y ∈ (G.B.ring P z).1.wanted ↔ _
      rw [er]
      constructor
      · exact .inl
      · rintro (h | rfl)
        · exact h
        · exact hw
  · rw [if_neg hw] at er
    refine ⟨⟨h.lim, h.kp, h.jobs, ?_, ?_, _, bd⟩, rfl, rfl, rfl, ?_, fun y => ?_⟩
    · show (G.B.ring P z).1.shut = []
      rw [er]; exact h.shut
    · show (G.B.ring P z).1.high = []
      rw [er]; exact h.high
    · rw [er, decide_eq_false hw]; rfl
    · show y ∈ (G.B.ring P z).1.wanted ↔ _
      rw [er]
      show y ∈ G.B.wanted ++ [z] ↔ _
      rw [List.mem_append, List.mem_singleton]
end
end Z
set_option maxHeartbeats 1000000
namespace Z
open PySem PySem.Spec PyProof.Rows L2
section
variable {P : Pl} {least : Int}
structure RelU (P U : Pl) (G G' : Sg) : Prop where
  fr : G'.C.frames = G.C.frames.filter fun f => decide (f.ln ∈ U.names)
  wa : ∀ z, z ∈ G'.B.wanted ↔ z ∈ G.B.wanted ∧ z ∈ U.names
theorem RelU.start {P U : Pl} : RelU P U (Sg.start P) (Sg.start U) := ⟨rfl, by simp [Sg.start]⟩
end
end Z
set_option maxHeartbeats 1000000
namespace Z
open PySem PySem.Spec PyProof.Rows L2
structure TwoS (K : Fg) (H0 H : Hp) (A A' : SA) (P P' : Pl) (G G' : Sg) : Prop where
  s1 : SgAt K H A P G
  s2 : SgAt K H A' P' G'
  d : ∀ a ∈ A.own, a ∉ A'.own
  e1 : ∀ a ∈ A.PD.own, a ∉ A'.own
  e2 : ∀ a ∈ A'.PD.own, a ∉ A.own
  n1 : ∀ a ∈ A.own, H0 a = none
  n2 : ∀ a ∈ A'.own, H0 a = none
  p1 : ∀ a ∈ A.PD.own, H0 a = none
  p2 : ∀ a ∈ A'.PD.own, H0 a = none
section
variable {K : Fg} {H0 H H' : Hp} {A A' B : SA} {P P' : Pl} {G G' G2 : Sg}
theorem TwoS.keep (t : TwoS K H0 H A A' P P' G G') {N : List Addr} (f : Fr N H H') (n : ∀ a ∈ N, H0 a ≠ none) : TwoS K H0 H' A A' P P' G G' := by
  have z : ∀ {a}, H0 a = none → a ∉ N := fun h q => n _ q h
  exact ⟨t.s1.keep f (fun a ha => z (t.n1 a ha)) (fun a ha => z (t.p1 a ha)), t.s2.keep f (fun a ha => z (t.n2 a ha)) (fun a ha => z (t.p2 a ha)), t.d, t.e1, t.e2, t.n1, t.n2, t.p1, t.p2⟩
theorem TwoS.same (t : TwoS K H0 H A A' P P' G G') (s : Same H H') : TwoS K H0 H' A A' P P' G G' := t.keep (N := []) s.fr (by simp)
theorem TwoS.row (t : TwoS K H0 H A A' P P' G G') {r : Addr} (f : Fr [r] H H') (n : H0 r ≠ none) : TwoS K H0 H' A A' P P' G G' := t.keep f (by simpa using n)
theorem TwoS.swap (t : TwoS K H0 H A A' P P' G G') : TwoS K H0 H A' A P' P G' G := ⟨t.s2, t.s1, fun a ha z => t.d a z ha, t.e2, t.e1, t.n2, t.n1, t.p2, t.p1⟩
end
end Z
set_option maxHeartbeats 1000000
namespace Z
open PySem PySem.Spec PyProof.Rows L2
end Z
set_option maxHeartbeats 1000000
namespace Z
open PySem PySem.Spec PyProof.Rows L2
def more (P : Pl) (i : Ln) : Pl := ⟨P.ls ++ [i], P.ws⟩
def jx (B : Bd) (J : List (Str × Int)) : Bd := { B with joined := J }
section
variable {P : Pl} {i : Ln}
structure Bsd (G G' : Sg) : Prop where
  c : G'.C = G.C
  b : ∃ J, G'.B = jx G.B J
  t : G'.time = G.time
  s : G'.sums = G.sums
theorem Bsd.start : Bsd (Sg.start P) (Sg.start (more P i)) := ⟨rfl, ⟨_, rfl⟩, rfl, rfl⟩
end
end Z
set_option maxHeartbeats 1000000
namespace Z
open PySem PySem.Spec PyProof.Rows L2
end Z
set_option maxHeartbeats 1000000
namespace T
open PySem PySem.Spec PyProof.Rows L2 Z
open He (ga ma)
local macro_rules | `(tactic| walk_at "z") => `(tactic| with_reducible first | refine ⟨_, _, rfl, rfl, ?_⟩ | refine ⟨_, rfl, ?_⟩)
local macro_rules | `(tactic| walk_at "z") => `(tactic| ((with_reducible refine s_isi (d := ?d1) ?h1 ?h2 ?q1); (case h1 => first | assumption | constructor); (case h2 => decide)))
local macro_rules | `(tactic| walk_at "z") => `(tactic| with_reducible first | refine s_tup ?_ | refine s_lst ?_)
local macro_rules | `(tactic| walk_at "z") => `(tactic| ((with_reducible refine s_ne ?h1 ?q1); (case h1 => exact rfl)))
local macro_rules | `(tactic| walk_at "z") => `(tactic| ((with_reducible refine s_eq ?h1 ?q1); (case h1 => exact rfl)))
local macro_rules | `(tactic| walk_at "z") => `(tactic| with_reducible first | refine s_cvalg ?_ | refine s_fldS ?_ | refine s_I0 ?_ | refine s_U ?_)
local macro_rules | `(tactic| walk_at "z") => `(tactic| with_reducible first | refine s_fldaug ?_ | refine s_add ?_ | refine s_ipI ?_ | refine s_ixO ?_ | refine s_lcL ?_ | refine s_dcT ?_)
local macro_rules | `(tactic| walk_at "z") => `(tactic| with_reducible first | refine s_daugg ?_ | refine s_disp ?_ | refine s_pcons ?_ | refine s_pnil ?_ | refine s_gsub ?_ | refine s_augS ?_)
local macro_rules | `(tactic| walk_at "z") => `(tactic| with_reducible first | refine s_bm ?_ | refine s_bm0 ?_ | refine s_fldg ?_ | refine s_meth ?_ | refine s_prop ?_ | refine s_lcT ?_)
local macro_rules | `(tactic| walk_at "z") => `(tactic| with_reducible first | refine s_yes ?_ | refine s_gcons ?_ | refine s_gnil ?_ | refine s_din ?_ | refine s_dnin ?_ | refine s_dget ?_)
local macro_rules | `(tactic| walk_at "z") => `(tactic| with_reducible first | refine s_orV ?_ | refine s_notV ?_ | refine s_if ?_ | refine s_chain ?_ | refine s_call ?_ | refine s_bl ?_)
local macro_rules | `(tactic| walk_at "z") => `(tactic| with_reducible first | refine s_test ?_ | refine s_B ?_ | refine s_and ?_ | refine s_or ?_ | refine s_not ?_ | refine s_andV ?_)
local macro_rules | `(tactic| walk_at "z") => `(tactic| with_reducible first | refine s_op ?_ | refine s_un ?_ | refine s_cb ?_ | refine s_cons ?_ | refine s_nil ?_ | refine s_star ?_)
local macro_rules | `(tactic| walk_at "z") => `(tactic| ((with_reducible refine s_var (v := ?v1) ?h1 ?q1); (case h1 => exact rfl)))
local macro_rules | `(tactic| walk_at "z") => `(tactic| with_reducible refine s_c ?_)
local macro_rules | `(tactic| walk_at "z") => `(tactic| with_reducible first | refine s_drop ?_ | refine s_next ?_ | refine s_cont ?_ | refine s_break ?_ | refine s_par ?_ | refine s_par2 ?_)
local macro_rules | `(tactic| walk_at "z") => `(tactic| with_reducible first | refine s_seq ?_ | refine s_asg ?_ | refine s_gname ?_ | refine s_ret ?_ | refine s_retN ?_ | refine s_ifS ?_)
local macro_rules | `(tactic| walk_at "zi") => `(tactic| ((with_reducible refine ite_t ?h1 ?q1); (case h1 => rfl)))
local macro_rules | `(tactic| walk_at "zi") => `(tactic| ((with_reducible refine ite_f ?h1 ?q1); (case h1 => rfl)))
local macro_rules | `(tactic| walk_at "zi") => `(tactic| walk_at "z")
local macro_rules | `(tactic| walk_at "ori") => `(tactic| ((with_reducible apply ite_t); (· rfl)))
local macro_rules | `(tactic| walk_at "ori") => `(tactic| ((with_reducible apply ite_f); (· rfl)))
local macro_rules | `(tactic| walk_at "ori") => `(tactic| with_reducible first | refine ⟨_, _, rfl, rfl, ?_⟩ | refine ⟨_, rfl, ?_⟩)
local macro_rules | `(tactic| walk_at "ori") => `(tactic| ((with_reducible apply s_isi); (· assumption); (· decide)))
local macro_rules | `(tactic| walk_at "ori") => `(tactic| with_reducible first | refine s_tup ?_ | refine s_lst ?_)
local macro_rules | `(tactic| walk_at "ori") => `(tactic| ((with_reducible apply s_ne); (· exact rfl)))
local macro_rules | `(tactic| walk_at "ori") => `(tactic| ((with_reducible apply s_eq); (· exact rfl)))
local macro_rules | `(tactic| walk_at "ori") => `(tactic| with_reducible first | refine s_lcL ?_ | refine s_dcT ?_ | refine s_cvalg ?_ | refine s_I0 ?_ | refine s_U ?_)
local macro_rules | `(tactic| walk_at "ori") => `(tactic| with_reducible first | refine s_daugg ?_ | refine s_disp ?_ | refine s_gsub ?_ | refine s_fldaug ?_ | refine s_ipI ?_ | refine s_ixO ?_)
local macro_rules | `(tactic| walk_at "ori") => `(tactic| with_reducible first | refine s_chain ?_ | refine s_yes ?_ | refine s_din ?_ | refine s_dnin ?_ | refine s_bm0 ?_ | refine s_lcT ?_)
local macro_rules | `(tactic| walk_at "ori") => `(tactic| with_reducible first | refine s_un ?_ | refine s_star ?_ | refine s_and ?_ | refine s_or ?_ | refine s_orV ?_ | refine s_notV ?_)
local macro_rules | `(tactic| walk_at "ori") => `(tactic| with_reducible first | refine s_augS ?_ | refine s_retN ?_ | refine s_cont ?_ | refine s_break ?_ | refine s_par ?_ | refine s_par2 ?_)
local macro_rules | `(tactic| walk_at "ori") => `(tactic| with_reducible first | refine s_andV ?_ | refine s_add ?_ | refine s_prop ?_ | refine s_pnil ?_ | refine s_cb ?_ | refine s_not ?_)
local macro_rules | `(tactic| walk_at "ori") => `(tactic| with_reducible first | refine s_call ?_ | refine s_pcons ?_ | refine s_bm ?_ | refine s_if ?_ | refine s_gcons ?_ | refine s_gnil ?_)
local macro_rules | `(tactic| walk_at "ori") => `(tactic| with_reducible first | refine s_next ?_ | refine s_gname ?_ | refine s_drop ?_ | refine s_meth ?_ | refine s_fldS ?_ | refine s_asg ?_)
local macro_rules | `(tactic| walk_at "ori") => `(tactic| with_reducible first | refine s_fldg ?_ | refine s_ifS ?_ | refine s_dget ?_ | refine s_ret ?_ | refine s_B ?_ | refine s_test ?_)
local macro_rules | `(tactic| walk_at "ori") => `(tactic| with_reducible first | refine s_cons ?_ | refine s_c ?_ | refine s_nil ?_ | refine s_seq ?_ | refine s_op ?_ | refine s_bl ?_)
local macro_rules | `(tactic| walk_at "ori") => `(tactic| ((with_reducible apply s_var); (· exact rfl)))
local macro_rules | `(tactic| walk_at "ri") => `(tactic| repeat walk_at "ori")
local macro_rules | `(tactic| walk_at "zn") => `(tactic| (intro p hp; generalize eH : upd _ p _ = H2; have s2 := newS hp eH; have e2 := newE eH; clear eH))
local macro_rules | `(tactic| walk_at "zt") => `(tactic| (refine ⟨Nat.le_of_ble_eq_true rfl, ?_⟩; intro p hp; generalize eH : upd _ p _ = H2; have s2 := newS hp eH; have e2 := newE eH; clear eH))
def spIsInt (K : Fg) : Sp := fun vs H Q _ => ∃ v d lo hi, vs = [v, .int lo, .int hi] ∧ Dp K H v d ∧ Q (.bl (isIntD lo hi d)) H
section
variable {P : Program} {w : World} {K : Fg} {mg : Str → Option Value} {base : Heap}
theorem ok_is_integer (T : Txt K mg) : FnOk P w K mg base (L2.CX P w) 1 (ga K "is_integer") (fdOf K (ga K "is_integer")) ["value", "low", "high"] (spIsInt K) := by
  refine FunD.ok T.F_is_integer sc_is_integer (fun vs H Q E h => ?_) (fun cdv A outer s H vs Q E hr h => ⟨_, PSs.nox (pss_one (ps_ret (pe_and (pe_callB (call_isiDK K) (by rfl) T.u_isinstance (by decide +kernel) (pa_cons (pv 0) (pa_cons (z_ty (n := "int") T.u_int) pa_nil))) (pe_and (pe_not (pe_callB (call_isiDK K) (by rfl) T.u_isinstance (by decide +kernel) (pa_cons (pv 0) (pa_cons (z_ty (n := "bool") T.u_bool) pa_nil)))) (pe_one (pe_chain op_le op_le (pv 1) (pv 0) (pv 2))))))), ?_⟩)
  · obtain ⟨v, d, lo, hi, rfl, _⟩ := h
    rfl
  obtain ⟨v, d, lo, hi, rfl, hd, q⟩ := h
  show (_ : TS) _ [some v, some (.int lo), some (.int hi)] H
  try dsimp only [cxOf]
  have hd0 := hd
  cases hd <;> (walk_at "ri") <;> try exact q
  rename_i i
  by_cases h1 : lo ≤ i
  · refine ite_t (decide_eq_true h1) ?_
    walk_at "ri"
    have e : isIntD lo hi (.int i) = decide (i ≤ hi) := by simp [isIntD, h1]
    rw [e] at q
    exact q
  · refine ite_f (decide_eq_false h1) ?_
    have e : isIntD lo hi (.int i) = false := by simp [isIntD, h1]
    rw [e] at q
    exact q
def spIsWord (K : Fg) : Sp := fun vs H Q _ => ∃ v d, vs = [v] ∧ Dp K H v d ∧ short d = true ∧ ∀ H', Same H H' → Q (.bl (isWord d)) H'
theorem ok_is_word (T : Txt K mg) : FnOk P w K mg base (L2.CX P w) 1 (ga K "is_word") (fdOf K (ga K "is_word")) ["value"] (spIsWord K) := by
  refine FunD.ok T.F_is_word sc_is_word (fun vs H Q E h => ?_) (fun cdv A outer s H vs Q E hr h => ⟨_, PSs.nox (pss_one (ps_ret (pe_and (pe_callB (call_isiDK K) (by rfl) T.u_isinstance (by decide +kernel) (pa_cons (pv 0) (pa_cons (z_ty (n := "str") T.u_str) pa_nil))) (pe_and (pe_cmpR op_ne (pv 0) pe_str (nomark _)) (pe_one (pe_callB (cr_allK K rfl) (by rfl) T.u_all (by decide +kernel) (pa_cons (pe_lc (own := [("letter", 1)]) rfl sc_is_word.nd (pi_str (pv 0)) (blkOk_by (own := [("letter", 1)]) (N := n_is_word) (sc := defScope s_is_word) (by decide +kernel)) (fun _ _ _ _ _ => (zg 1 sc_is_word.nd)) (fun _ _ _ _ _ => pts_nil) (fun _ _ _ _ _ => (pe_cmpR op_in_sign (pv 1) (z_str T.i_LETTERS) (by rfl)))) pa_nil))))))), ?_⟩)
  · obtain ⟨v, d, rfl, _⟩ := h
    rfl
  obtain ⟨v, d, rfl, hd, hz, q⟩ := h
  show (_ : TS) _ [some v, none] H
  try dsimp only [cxOf]
  have hd0 := hd
  cases hd <;> (walk_at "ri") <;> try exact q _ (Same.refl H)
  rename_i z
  refine ite_b (fun h1 => ?_) (fun h1 => ?_)
  · walk_at "ri"
    refine ⟨_, rfl, z, rfl, fun D hD => lc_dat (K := K) walk_str (fun _ => true) (dAt z.cps.toList fun c => .bool (decide (c ∈ letters))) hD (short_str hz) (dAt_tupd fun _ _ => rfl) (fun _ _ => True.intro) (fun i H x H' y => by rw [y.1]; exact Same.refl H) (fun i x H H' Yes No hi s1 y yes no => ?_) (fun H' ys s1 e1 a1 => ?_)⟩
    · obtain ⟨rfl, c, hc, rfl⟩ := y
      refine ⟨rfl, ?_⟩
      walk_at "ri"
      refine yes rfl _ _ (Same.refl _) ?_
      rw [dAt_eq (by simpa using hc)]
      exact .bl _
    · have e := keptD_map z.cps.toList fun c => PyData.bool (decide (c ∈ letters))
      rw [Array.length_toList] at e
      rw [e, map_bool] at a1
      rw [dp_bools a1] at e1
      refine s_all (SqL.of e1) ?_
      have e2 : isWord (.str z) = ((z.cps.toList.map fun c => decide (c ∈ letters)).all id) := by
        simp only [isWord, h1, Bool.true_and, List.all_map]
        rfl
      rw [← e2]
      exact q _ s1
  · walk_at "ri"
    have e2 : isWord (.str z) = false := by simp only [isWord, h1, Bool.false_and]
    rw [e2] at q
    exact q _ (Same.refl H)
def spIsName (K : Fg) : Sp := fun vs H Q _ => ∃ v d, vs = [v] ∧ Dp K H v d ∧ short d = true ∧ ∀ H', Same H H' → Q (.bl (isName d)) H'
theorem ok_is_name (T : Txt K mg) : FnOk P w K mg base (L2.CX P w) 2 (ga K "is_name") (fdOf K (ga K "is_name")) ["value"] (spIsName K) := by
  refine FunD.ok T.F_is_name sc_is_name (fun vs H Q E h => ?_) (fun cdv A outer s H vs Q E hr h => ⟨_, PSs.nox (pss_one (ps_ret (pe_and (z_call (ok_is_word T) T.c_is_word (hr.mono (by decide)) rfl T.g_is_word passL (pa_cons (pv 0) pa_nil)) (pe_one (pe_cmpR op_le (pe_callB (call_lenK K) (by rfl) T.u_len (by decide +kernel) (pa_cons (pv 0) pa_nil)) (z_int T.i_MAX_NAME) (nomark _)))))), ?_⟩)
  · obtain ⟨v, d, rfl, _⟩ := h
    rfl
  obtain ⟨v, d, rfl, hd, hz, q⟩ := h
  show (_ : TS) _ [some v] H
  try dsimp only [cxOf]
  walk_at "ri"
  refine ⟨v, d, rfl, hd, hz, fun H' s1 => ?_⟩
  walk_at "ri"
  refine ite_b (fun h1 => ?_) (fun h1 => ?_)
  · cases hd <;> try (simp [isWord] at h1; done)
    rename_i z
    walk_at "ri"
    refine s_lenS (by have := short_str hz; show z.cps.size ≤ sizeLine; rw [sizeLine_eq]; omega) ?_
    walk_at "ri"
    have e2 : isName (.str z) = decide ((z.length : Int) ≤ 8) := by simp only [isName, h1, Bool.true_and]
    rw [e2] at q
    exact q _ s1
  · walk_at "ri"
    have e2 : isName d = false := by simp only [isName, h1, Bool.false_and]
    rw [e2] at q
    exact q _ s1
def spIsLine (K : Fg) : Sp := fun vs H Q _ => ∃ v d, vs = [v] ∧ Dp K H v d ∧ short d = true ∧ ∀ H', Same H H' → Q (.bl (isLine d)) H'
theorem ok_is_line (T : Txt K mg) : FnOk P w K mg base (L2.CX P w) 3 (ga K "is_line") (fdOf K (ga K "is_line")) ["line"] (spIsLine K) := by
  refine FunD.ok T.F_is_line sc_is_line (fun vs H Q E h => ?_) (fun cdv A outer s H vs Q E hr h => ⟨_, PSs.nox (pss_cons (ps_if (PW.pt (pw_or (pt_not (pt_val (pe_callB (call_isiDK K) (by rfl) T.u_isinstance (by decide +kernel) (pa_cons (pv 0) (pa_cons (z_ty (n := "tuple") T.u_tuple) pa_nil))))) (pw_or (pt_cmpR op_ne (pe_callB (call_lenK K) (by rfl) T.u_len (by decide +kernel) (pa_cons (pv 0) pa_nil)) pe_int (nomark _)) (pw_or1 (pt_not (pt_val (z_call (ok_is_name T) T.c_is_name (hr.mono (by decide)) rfl T.g_is_name passL (pa_cons (pe_ix (ix_tupK K) (pv 0) pe_int (fun _ _ => rfl)) pa_nil)))))))) (pss_one (ps_ret pe_bl)) pss_nil)
      (pss_cons (ps_if (PW.pt (pw_or (pt_not (pt_val (pe_callB (call_isiDK K) (by rfl) T.u_isinstance (by decide +kernel) (pa_cons (pe_ix (ix_tupK K) (pv 0) pe_int (fun _ _ => rfl)) (pa_cons (z_ty (n := "str") T.u_str) pa_nil))))) (pw_or (pt_cmpR (op_notIn_seqK K) (pe_ix (ix_tupK K) (pv 0) pe_int (fun _ _ => rfl)) (pe_tup (pa_cons (z_str T.i_EDGE) (pa_cons (z_str T.i_LEVEL) pa_nil))) (by rfl)) (pw_or1 (pt_not (pt_val (z_call (ok_is_integer T) T.c_is_integer (hr.mono (by decide)) rfl T.g_is_integer passL (pa_cons (pe_ix (ix_tupK K) (pv 0) pe_int (fun _ _ => rfl)) (pa_cons pe_int (pa_cons (z_int T.i_MAX_RANK) pa_nil)))))))))) (pss_one (ps_ret pe_bl)) pss_nil)
      (pss_one (ps_ret (pe_and (pe_callB (call_isiDK K) (by rfl) T.u_isinstance (by decide +kernel) (pa_cons (pe_ix (ix_tupK K) (pv 0) pe_int (fun _ _ => rfl)) (pa_cons (z_ty (n := "tuple") T.u_tuple) pa_nil))) (pe_one (pe_chain op_le op_le pe_int (pe_callB (call_lenK K) (by rfl) T.u_len (by decide +kernel) (pa_cons (pe_ix (ix_tupK K) (pv 0) pe_int (fun _ _ => rfl)) pa_nil)) (z_int T.i_MAX_STEPS)))))))), ?_⟩)
  · obtain ⟨v, d, rfl, _⟩ := h
    rfl
  obtain ⟨v, d, rfl, hd, hz, q⟩ := h
  show (_ : TS) _ [some v] H
  try dsimp only [cxOf]
  have hd0 := hd
  cases hd <;> (walk_at "ri") <;> try exact q _ (Same.refl H)
  rename_i a xs ds hT hA
  refine s_lenT hT ?_
  walk_at "ri"
  by_cases h4 : ds.length = 4
  · have hl : xs.length = 4 := hA.len.trans h4
    refine ite_f (by rw [hl]; rfl) ?_
    obtain ⟨da, db, dc, de, rfl⟩ : ∃ da db dc de, ds = [da, db, dc, de] := by
      match ds, h4 with
      | [a, b, c, e], _ => exact ⟨a, b, c, e, rfl⟩
    cases hA with | cons h1 hA => ?_
    cases hA with | cons h2 hA => ?_
    cases hA with | cons h3 hA => ?_
    cases hA with | cons h5 hA => ?_
    cases hA
    walk_at "ri"
    refine s_ixT hT rfl ?_
    walk_at "ri"
    have sz := short_tup hz
    refine ⟨_, _, rfl, h1, shorts_at sz (by simp), fun H1 s1 => ?_⟩
    walk_at "ri"
    refine ite_b (fun n1 => ?_) (fun n1 => ?_)
    · walk_at "ri"
      have e : isLine (.tuple [da, db, dc, de]) = false := by simp [isLine, bnt n1]
      rw [e] at q
      exact q _ s1
    have m1 : isName da = true := by simpa using n1
    replace hT := s1.sqT hT
    replace h2 := h2.same s1
    replace h3 := h3.same s1
    replace h5 := h5.same s1
    walk_at "ri"
    refine s_ixT hT rfl ?_
    walk_at "ri"
    have h20 := h2
    cases h2 <;> (walk_at "ri") <;> try (
      refine (?_ : _ → _) (q _ s1)
      rw [show isLine (.tuple [da, _, dc, de]) = false from by simp [isLine, isKind]]
      exact fun z => z)
    rename_i z
    refine s_ixT hT rfl ?_
    walk_at "ri"
    refine ⟨by show 2 ≤ sizeLine; decide, ?_⟩
    walk_at "zn"
    rename_i p hp H2 s2 e2
    refine s_in (.inr (SqT.of e2)) rfl rfl ?_
    walk_at "ri"
    refine ite_b (fun n2 => ?_) (fun n2 => ?_)
    · walk_at "ri"
      have e : isLine (.tuple [da, .str z, dc, de]) = false := by
        have n3 : inV (.str z) [.str "edge", .str "level"] = false := by simpa using n2
        simp [isLine, isKind, n3]
      rw [e] at q
      exact q _ (s1.trans s2)
    have m2 : isKind (.str z) = true := by simpa [isKind] using n2
    replace hT := s2.sqT hT
    replace h3 := h3.same s2
    replace h5 := h5.same s2
    walk_at "ri"
    refine s_ixT hT rfl ?_
    walk_at "ri"
    refine ⟨_, _, _, _, rfl, h3, ?_⟩
    walk_at "ri"
    refine ite_b (fun n2 => ?_) (fun n2 => ?_)
    · walk_at "ri"
      have e : isLine (.tuple [da, .str z, dc, de]) = false := by simp [isLine, bnt n2]
      rw [e] at q
      exact q _ (s1.trans s2)
    have m3 : isIntD 1 9 dc = true := by simpa using n2
    have e : isLine (.tuple [da, .str z, dc, de]) = isSteps 8 de := by simp [isLine, m1, m2, m3]
    rw [e] at q
    walk_at "ri"
    refine s_ixT hT rfl ?_
    walk_at "ri"
    have h50 := h5
    cases h5 <;> (walk_at "ri") <;> try exact q _ (s1.trans s2)
    rename_i a' xs' ds' hT' hA'
    refine s_ixT hT rfl ?_
    walk_at "ri"
    refine s_lenT hT' ?_
    walk_at "ri"
    have el := hA'.len
    refine ite_b (fun n5 => ?_) (fun n5 => ?_)
    · walk_at "ri"
      have e6 : isSteps 8 (.tuple ds') = decide ((xs'.length : Int) ≤ 8) := by
        rw [el] at n5
        show (decide ((1 : Int) ≤ ds'.length) && decide ((ds'.length : Int) ≤ (8 : Nat))) = _
        rw [n5, ← el]
        rfl
      rw [e6] at q
      exact q _ (s1.trans s2)
    · walk_at "ri"
      have e6 : isSteps 8 (.tuple ds') = false := by
        rw [el] at n5
        show (decide ((1 : Int) ≤ ds'.length) && decide ((ds'.length : Int) ≤ (8 : Nat))) = _
        rw [n5]
        rfl
      rw [e6] at q
      exact q _ (s1.trans s2)
  · refine ite_t ?_ ?_
    · have hl : xs.length ≠ 4 := by rw [hA.len]; exact h4
      simp
      omega
    · walk_at "ri"
      rw [isLine_no h4] at q
      exact q _ (Same.refl H)
def spIsWork (K : Fg) : Sp := fun vs H Q _ => ∃ v d, vs = [v] ∧ Dp K H v d ∧ short d = true ∧ ∀ H', Same H H' → Q (.bl (isWork d)) H'
theorem ok_is_work (T : Txt K mg) : FnOk P w K mg base (L2.CX P w) 3 (ga K "is_work") (fdOf K (ga K "is_work")) ["work"] (spIsWork K) := by
  refine FunD.ok T.F_is_work sc_is_work (fun vs H Q E h => ?_) (fun cdv A outer s H vs Q E hr h => ⟨_, PSs.nox (pss_cons (ps_if (PW.pt (pw_or (pt_not (pt_val (pe_callB (call_isiDK K) (by rfl) T.u_isinstance (by decide +kernel) (pa_cons (pv 0) (pa_cons (z_ty (n := "tuple") T.u_tuple) pa_nil))))) (pw_or (pt_cmpR op_ne (pe_callB (call_lenK K) (by rfl) T.u_len (by decide +kernel) (pa_cons (pv 0) pa_nil)) pe_int (nomark _)) (pw_or1 (pt_not (pt_val (z_call (ok_is_name T) T.c_is_name (hr.mono (by decide)) rfl T.g_is_name passL (pa_cons (pe_ix (ix_tupK K) (pv 0) pe_int (fun _ _ => rfl)) pa_nil)))))))) (pss_one (ps_ret pe_bl)) pss_nil)
      (pss_one (ps_ret (pe_and (z_call (ok_is_integer T) T.c_is_integer (hr.mono (by decide)) rfl T.g_is_integer passL (pa_cons (pe_ix (ix_tupK K) (pv 0) pe_int (fun _ _ => rfl)) (pa_cons pe_int (pa_cons (z_int T.i_MAX_RANK) pa_nil)))) (pe_one (z_call (ok_is_integer T) T.c_is_integer (hr.mono (by decide)) rfl T.g_is_integer passL (pa_cons (pe_ix (ix_tupK K) (pv 0) pe_int (fun _ _ => rfl)) (pa_cons pe_int (pa_cons (z_int T.i_MAX_TICKS) pa_nil))))))))), ?_⟩)
  · obtain ⟨v, d, rfl, _⟩ := h
    rfl
  obtain ⟨v, d, rfl, hd, hz, q⟩ := h
  show (_ : TS) _ [some v] H
  try dsimp only [cxOf]
  have hd0 := hd
  cases hd <;> (walk_at "ri") <;> try exact q _ (Same.refl H)
  rename_i a xs ds hT hA
  refine s_lenT hT ?_
  walk_at "ri"
  by_cases h4 : ds.length = 3
  · have hl : xs.length = 3 := hA.len.trans h4
    refine ite_f (by rw [hl]; rfl) ?_
    obtain ⟨da, db, dc, rfl⟩ : ∃ da db dc, ds = [da, db, dc] := by
      match ds, h4 with
      | [a, b, c], _ => exact ⟨a, b, c, rfl⟩
    cases hA with | cons h1 hA => ?_
    cases hA with | cons h2 hA => ?_
    cases hA with | cons h3 hA => ?_
    cases hA
    walk_at "ri"
    refine s_ixT hT rfl ?_
    walk_at "ri"
    have sz := short_tup hz
    refine ⟨_, _, rfl, h1, shorts_at sz (by simp), fun H1 s1 => ?_⟩
    walk_at "ri"
    refine ite_b (fun n1 => ?_) (fun n1 => ?_)
    · walk_at "ri"
      have e : isWork (.tuple [da, db, dc]) = false := by simp [isWork, bnt n1]
      rw [e] at q
      exact q _ s1
    have e : isWork (.tuple [da, db, dc]) = (isIntD 1 9 db && isIntD 1 99 dc) := by simp [isWork, bnf n1]
    rw [e] at q
    replace hT := s1.sqT hT
    replace h2 := h2.same s1
    replace h3 := h3.same s1
    walk_at "ri"
    refine s_ixT hT rfl ?_
    walk_at "ri"
    refine ⟨_, _, _, _, rfl, h2, ?_⟩
    walk_at "ri"
    refine ite_b (fun n2 => ?_) (fun n2 => ?_)
    · walk_at "ri"
      refine s_ixT hT rfl ?_
      walk_at "ri"
      refine ⟨_, _, _, _, rfl, h3, ?_⟩
      rw [n2] at q
      exact q _ s1
    · rw [n2] at q
      exact q _ s1
  · refine ite_t ?_ ?_
    · have hl : xs.length ≠ 3 := by rw [hA.len]; exact h4
      simp
      omega
    · walk_at "ri"
      rw [isWork_no h4] at q
      exact q _ (Same.refl H)
end
set_option maxHeartbeats 1000000
open PySem PySem.Spec PyProof.Rows L2 Z
open He (ga ma)
def spIsStep (K : Fg) : Sp := fun vs H Q _ => ∃ v d dk kvs wl ws, vs = [v, .ref dk, .ref wl] ∧ Dp K H v d ∧ H dk = some (.dK kvs) ∧ strVals kvs ∧ SqL K H wl ws ∧ ws.all flatV = true ∧ Q (.bl (isStep kvs ws d)) H
section
variable {P : Program} {w : World} {K : Fg} {mg : Str → Option Value} {base : Heap}
theorem ok_is_step (T : Txt K mg) : FnOk P w K mg base (L2.CX P w) 2 (ga K "is_step") (fdOf K (ga K "is_step")) ["step", "kinds", "works"] (spIsStep K) := by
  refine FunD.ok T.F_is_step sc_is_step (fun vs H Q E h => ?_) (fun cdv A outer s H vs Q E hr h => ⟨_, PSs.nox (pss_cons (ps_if (PW.pt (pw_or (pt_not (pt_val (pe_callB (call_isiDK K) (by rfl) T.u_isinstance (by decide +kernel) (pa_cons (pv 0) (pa_cons (z_ty (n := "tuple") T.u_tuple) pa_nil))))) (pw_or (pt_cmpR op_ne (pe_callB (call_lenK K) (by rfl) T.u_len (by decide +kernel) (pa_cons (pv 0) pa_nil)) pe_int (nomark _)) (pw_or1 (pt_not (pt_val (pe_callB (call_isiDK K) (by rfl) T.u_isinstance (by decide +kernel) (pa_cons (pe_ix (ix_tupK K) (pv 0) pe_int (fun _ _ => rfl)) (pa_cons (z_ty (n := "str") T.u_str) pa_nil))))))))) (pss_one (ps_ret pe_bl)) pss_nil)
      (pss_cons (ps_asg (pv 0) (kGT K (pg_tup (n := 2) rfl (pgs_cons (zg 3 sc_is_step.nd) (pgs_cons (zg 4 sc_is_step.nd) pgs_nil)))))
      (pss_cons (ps_if (pt_cmpR (op_in_seqK K) (pv 3) (z_ref T.g_LINE_WORDS) (by rfl)) (pss_one (ps_ret (pe_and (pe_callB (call_isiDK K) (by rfl) T.u_isinstance (by decide +kernel) (pa_cons (pv 4) (pa_cons (z_ty (n := "str") T.u_str) pa_nil))) (pe_and (pe_cmp (pc_din (hu_of hr) (pv 4) (pv 1))) (pe_one (pe_or (pe_cmpR op_ne (pv 3) (z_str T.i_QUIET) (nomark _)) (pe_one (pe_cmpR op_eq (pe_dget (hu_of hr) (pv 1) (pv 4) (fun _ _ => rfl)) (z_str T.i_LEVEL) (nomark _))))))))) pss_nil)
      (pss_cons (ps_if (pt_cmpR op_eq (pv 3) (z_str T.i_LATER) (nomark _)) (pss_one (ps_ret (pe_and (pe_callB (call_isiDK K) (by rfl) T.u_isinstance (by decide +kernel) (pa_cons (pv 4) (pa_cons (z_ty (n := "str") T.u_str) pa_nil))) (pe_one (pe_cmpR (op_in_seqK K) (pv 4) (pv 2) (by rfl)))))) pss_nil)
      (pss_cons (ps_if (pt_cmpR (op_in_seqK K) (pv 3) (z_ref T.g_FLAG_WORDS) (by rfl)) (pss_one (ps_ret (z_call (ok_is_integer T) T.c_is_integer (hr.mono (by decide)) rfl T.g_is_integer passL (pa_cons (pv 4) (pa_cons pe_int (pa_cons (z_int T.i_MAX_FLAG) pa_nil)))))) pss_nil)
      (pss_one (ps_ret (pe_or (pe_and (pe_cmpR op_eq (pv 3) (z_str T.i_RUN) (nomark _)) (pe_one (z_call (ok_is_integer T) T.c_is_integer (hr.mono (by decide)) rfl T.g_is_integer passL (pa_cons (pv 4) (pa_cons pe_int (pa_cons (z_int T.i_MAX_TICKS) pa_nil)))))) (pe_one (pe_and (pe_cmpR op_eq (pv 3) (z_str T.i_BAR) (nomark _)) (pe_one (z_call (ok_is_integer T) T.c_is_integer (hr.mono (by decide)) rfl T.g_is_integer passL (pa_cons (pv 4) (pa_cons pe_int (pa_cons (z_int T.i_MAX_RANK) pa_nil))))))))))))))), ?_⟩)
  · obtain ⟨v, d, dk, kvs, wl, ws, rfl, _⟩ := h
    rfl
  obtain ⟨v, d, dk, kvs, wl, ws, rfl, hd, hK, hkv, hW, hws, q⟩ := h
  show (_ : TS) _ [some v, some (.ref dk), some (.ref wl), none, none] H
  try dsimp only [cxOf]
  have hd0 := hd
  cases hd <;> (walk_at "ri") <;> try exact q
  rename_i a xs ds hT hA
  refine s_lenT hT ?_
  walk_at "ri"
  by_cases h4 : ds.length = 2
  · have hl : xs.length = 2 := hA.len.trans h4
    refine ite_f (by rw [hl]; rfl) ?_
    obtain ⟨da, db, rfl⟩ : ∃ da db, ds = [da, db] := by
      match ds, h4 with
      | [a, b], _ => exact ⟨a, b, rfl⟩
    cases hA with | cons h1 hA => ?_
    cases hA with | cons h2 hA => ?_
    cases hA
    walk_at "ri"
    refine s_ixT hT rfl ?_
    walk_at "ri"
    have h10 := h1
    cases h1 <;> (walk_at "ri") <;> try exact q
    rename_i y w
    refine s_gtup hT rfl ?_
    walk_at "ri"
    have q' : Q (.bl (isStepX kvs ws w db)) H := q
    unfold isStepX at q'
    refine s_in (.inr (T.t_LINE_WORDS H)) rfl rfl ?_
    walk_at "ri"
    refine ite_b (fun n1 => ?_) (fun n1 => ?_)
    · have n1' : inV (.str w) lineWords = true := n1
      have h20 := h2
      cases h2 <;> (walk_at "ri") <;> try (rw [if_pos n1'] at q'; exact q')
      rename_i y
      rw [if_pos n1'] at q'
      dsimp only at q'
      refine s_dS hK ?_
      walk_at "ri"
      refine ite_b (fun n2 => ?_) (fun n2 => ?_)
      · rw [n2, Bool.true_and] at q'
        walk_at "ri"
        refine ite_b (fun n3 => ?_) (fun n3 => ?_)
        · rw [n3] at q'
          exact q'
        · rw [n3, Bool.false_or] at q'
          obtain ⟨u, hu⟩ := Option.isSome_iff_exists.mp n2
          obtain ⟨z, rfl⟩ := hkv _ _ hu
          walk_at "ri"
          refine s_dgS hK hu ?_
          walk_at "ri"
          rw [hu] at q'
          have e : decide ((some (V.str z) : Option V) = some (.str "level")) = decide (V.str z = V.str "level") := by simp
          rw [e] at q'
          exact q'
      · rw [n2, Bool.false_and] at q'
        exact q'
    have n1' : ¬ inV (.str w) lineWords = true := by rw [show inV (.str w) lineWords = false from n1]; decide
    rw [if_neg n1'] at q'
    walk_at "ri"
    refine ite_b (fun n2 => ?_) (fun n2 => ?_)
    · rw [if_pos n2] at q'
      walk_at "ri"
      have h20 := h2
      cases h2 <;> (walk_at "ri") <;> try exact q'
      refine s_in (.inl hW) rfl hws ?_
      exact q'
    rw [if_neg (by rw [n2]; decide)] at q'
    walk_at "ri"
    refine s_in (.inr (T.t_FLAG_WORDS H)) rfl rfl ?_
    walk_at "ri"
    refine ite_b (fun n3 => ?_) (fun n3 => ?_)
    · rw [if_pos (show inV (.str w) flagWords = true from n3)] at q'
      walk_at "ri"
      exact ⟨_, _, _, _, rfl, h2, q'⟩
    rw [if_neg (show ¬ inV (.str w) flagWords = true by rw [show inV (.str w) flagWords = false from n3]; decide)] at q'
    walk_at "ri"
    refine ite_b (fun n4 => ?_) (fun n4 => ?_)
    · rw [n4, Bool.true_and] at q'
      walk_at "ri"
      refine ⟨_, _, _, _, rfl, h2, ?_⟩
      walk_at "ri"
      refine ite_b (fun n5 => ?_) (fun n5 => ?_)
      · rw [n5] at q'
        exact q'
      · rw [n5, Bool.false_or] at q'
        walk_at "ri"
        refine ite_b (fun n6 => ?_) (fun n6 => ?_)
        · rw [n6, Bool.true_and] at q'
          walk_at "ri"
          exact ⟨_, _, _, _, rfl, h2, q'⟩
        · rw [n6, Bool.false_and] at q'
          exact q'
    · rw [n4, Bool.false_and, Bool.false_or] at q'
      walk_at "ri"
      refine ite_b (fun n6 => ?_) (fun n6 => ?_)
      · rw [n6, Bool.true_and] at q'
        walk_at "ri"
        exact ⟨_, _, _, _, rfl, h2, q'⟩
      · rw [n6, Bool.false_and] at q'
        exact q'
  · refine ite_t ?_ ?_
    · have hl : xs.length ≠ 2 := by rw [hA.len]; exact h4
      simp
      omega
    · walk_at "ri"
      rw [isStep_no h4] at q
      exact q
end
set_option maxHeartbeats 1000000
open PySem PySem.Spec PyProof.Rows L2 Z
open He (ga ma)
def spCheckLines (K : Fg) (ok : PyData → Bool) : Sp := fun vs H Q _ => ∃ v ls, ∃ most : Int, vs = [v, .int most] ∧ Dp K H v (.tuple ls) ∧ shorts ls = true ∧ (∀ d ∈ ls, ok d = true) ∧ (ls.map nameD).Nodup ∧ (ls.length : Int) ≤ most ∧ ls.length ≤ 10000 ∧ ∀ H', Same H H' → Q .non H'
section
variable {P : Program} {w : World} {K : Fg} {mg : Str → Option Value} {base : Heap}
theorem ok_check_lines (T : Txt K mg) : FnOk P w K mg base (L2.CX P w) 4 (ga K "check_lines") (fdOf K (ga K "check_lines")) ["lines", "most"] (spCheckLines K isLine) := by
  refine FunD.ok T.F_check_lines sc_check_lines (fun vs H Q E h => ?_) (fun cdv A outer s H vs Q E hr h => ⟨_, PSs.nox (pss_cons (zset 2 sc_check_lines.nd (pe_lst pa_nil))
      (pss_one (ps_for PassesOwn.never rfl (kIET K (pi_enumT (by rfl) T.u_enumerate (pa_cons (pv 0) pa_nil))) (kGT K (pg_tup (n := 2) rfl (pgs_cons (zg 3 sc_check_lines.nd) (pgs_cons (zg 4 sc_check_lines.nd) pgs_nil))))
      (pss_cons (ps_if (PW.pt (pw_or (pt_cmpR op_eq (pv 3) (pv 1) (nomark _)) (pw_or (pt_not (pt_val (z_call (ok_is_line T) T.c_is_line (hr.mono (by decide)) rfl T.g_is_line passL (pa_cons (pv 4) pa_nil)))) (pw_or1 (pt_cmpR (op_in_seqK K) (pe_ix (ix_tupK K) (pv 4) pe_int (fun _ _ => rfl)) (pv 2) (by rfl)))))) (pss_one ps_never) pss_nil)
      (pss_one (ps_expr (kBM K (pe_bm PySem.F.plainAttrs_list PySem.F.slot_list_append PySem.F.type_list_append mt_append (pv 2) (pa_cons (pe_ix (ix_tupK K) (pv 4) pe_int (fun _ _ => rfl)) pa_nil))))))))), ?_⟩)
  · obtain ⟨v, ls, most, rfl, _⟩ := h
    rfl
  obtain ⟨v, ls, most, rfl, hd, hz, hok, hnd, hm, hn, q⟩ := h
  obtain ⟨a, xs, rfl, hT, hA⟩ := hd.tupI
  show (_ : TS) _ [some (.ref a), some (.int most), none, none, none] H
  try dsimp only [cxOf]
  walk_at "ri"
  refine ⟨by decide, ?_⟩
  walk_at "zn"
  rename_i l hl H1 s1 e1
  walk_at "ri"
  refine ⟨_, rfl, a, xs, rfl, s1.sqT hT, for_it walk_enumT (fun i σ H' => ∃ v3 v4, σ = [some (.ref a), some (.int most), some (.ref l), v3, v4] ∧ Same H H' ∧ H' l = some (.lst (((ls.map nameD).take i).map V.str))) ⟨none, none, rfl, s1, e1⟩ (fun i σ H' _ ⟨_, _, _, s2, _⟩ => s2.sqT hT) (fun i x σ H2 H3 hi p y => ?_) (fun σ H' ⟨_, _, _, s2, _⟩ => q _ s2)⟩
  obtain ⟨v3, v4, rfl, s2, e2⟩ := p
  obtain ⟨t, y1, y2, rfl, ht, rfl, h1, h2⟩ := y
  cases h1
  generalize eH : upd H2 t _ = H3
  have s3 := newS ht eH
  have e3 := newE eH
  clear eH
  refine s_gtup (SqT.of e3) rfl ?_
  walk_at "ri"
  have hix : i < ls.length := by rw [← hA.len]; exact hi
  have hx2 : xs[i]? = some y2 := h2
  obtain ⟨d, hdi, hdd⟩ := hA.getv hx2
  have hmem : d ∈ ls := List.mem_of_getElem? hdi
  refine ite_f (decide_eq_false fun z => by cases z; omega) ?_
  walk_at "ri"
  refine ⟨y2, d, rfl, (hdd.same s2).same s3, shorts_at hz hmem, fun H4 s4 => ?_⟩
  rw [hok d hmem]
  walk_at "ri"
  obtain ⟨nm, rest, hd5⟩ := isLine_name2 (hok d hmem)
  subst hd5
  have s24 := (s2.trans s3).trans s4
  obtain ⟨b, zs, rfl, hTb, hAb⟩ := (hdd.same s24).tupI
  cases hAb with | cons b1 hAb => ?_
  cases b1
  refine s_ixT hTb (at_of (j := 0) rfl rfl) ?_
  walk_at "ri"
  have e4 : H4 l = some (.lst (((ls.map nameD).take i).map V.str)) := s4 _ _ (s3 _ _ e2)
  have hnm : (ls.map nameD)[i]? = some nm := by
    rw [List.getElem?_map, hdi]
    rfl
  refine s_in (.inl (SqL.of e4)) rfl flat_strs ?_
  walk_at "ri"
  refine ite_f (by rw [if_neg (by decide), inV_strs]; exact decide_eq_false (nodup_take hnd hnm)) ?_
  walk_at "ri"
  refine s_tyL e4 ?_
  walk_at "ri"
  refine s_ixT hTb (at_of (j := 0) rfl rfl) ?_
  walk_at "ri"
  refine s_append e4 ?_ ?_
  · rw [List.length_map, List.length_take, List.length_map, sizeLine_eq]
    omega
  refine ⟨_, _, rfl, fun c o h => ?_, ?_⟩
  · rw [upd_ne (ne_of_none h hl)]
    exact s24 _ _ h
  · rw [upd_same, List.take_add_one, hnm, List.map_append]
    rfl
theorem ok_check_works (T : Txt K mg) : FnOk P w K mg base (L2.CX P w) 4 (ga K "check_works") (fdOf K (ga K "check_works")) ["works", "most"] (spCheckLines K isWork) := by
  refine FunD.ok T.F_check_works sc_check_works (fun vs H Q E h => ?_) (fun cdv A outer s H vs Q E hr h => ⟨_, PSs.nox (pss_cons (zset 2 sc_check_works.nd (pe_lst pa_nil))
      (pss_one (ps_for PassesOwn.never rfl (kIET K (pi_enumT (by rfl) T.u_enumerate (pa_cons (pv 0) pa_nil))) (kGT K (pg_tup (n := 2) rfl (pgs_cons (zg 3 sc_check_works.nd) (pgs_cons (zg 4 sc_check_works.nd) pgs_nil))))
      (pss_cons (ps_if (PW.pt (pw_or (pt_cmpR op_eq (pv 3) (pv 1) (nomark _)) (pw_or (pt_not (pt_val (z_call (ok_is_work T) T.c_is_work (hr.mono (by decide)) rfl T.g_is_work passL (pa_cons (pv 4) pa_nil)))) (pw_or1 (pt_cmpR (op_in_seqK K) (pe_ix (ix_tupK K) (pv 4) pe_int (fun _ _ => rfl)) (pv 2) (by rfl)))))) (pss_one ps_never) pss_nil)
      (pss_one (ps_expr (kBM K (pe_bm PySem.F.plainAttrs_list PySem.F.slot_list_append PySem.F.type_list_append mt_append (pv 2) (pa_cons (pe_ix (ix_tupK K) (pv 4) pe_int (fun _ _ => rfl)) pa_nil))))))))), ?_⟩)
  · obtain ⟨v, ls, most, rfl, _⟩ := h
    rfl
  obtain ⟨v, ls, most, rfl, hd, hz, hok, hnd, hm, hn, q⟩ := h
  obtain ⟨a, xs, rfl, hT, hA⟩ := hd.tupI
  show (_ : TS) _ [some (.ref a), some (.int most), none, none, none] H
  try dsimp only [cxOf]
  walk_at "ri"
  refine ⟨by decide, ?_⟩
  walk_at "zn"
  rename_i l hl H1 s1 e1
  walk_at "ri"
  refine ⟨_, rfl, a, xs, rfl, s1.sqT hT, for_it walk_enumT (fun i σ H' => ∃ v3 v4, σ = [some (.ref a), some (.int most), some (.ref l), v3, v4] ∧ Same H H' ∧ H' l = some (.lst (((ls.map nameD).take i).map V.str))) ⟨none, none, rfl, s1, e1⟩ (fun i σ H' _ ⟨_, _, _, s2, _⟩ => s2.sqT hT) (fun i x σ H2 H3 hi p y => ?_) (fun σ H' ⟨_, _, _, s2, _⟩ => q _ s2)⟩
  obtain ⟨v3, v4, rfl, s2, e2⟩ := p
  obtain ⟨t, y1, y2, rfl, ht, rfl, h1, h2⟩ := y
  cases h1
  generalize eH : upd H2 t _ = H3
  have s3 := newS ht eH
  have e3 := newE eH
  clear eH
  refine s_gtup (SqT.of e3) rfl ?_
  walk_at "ri"
  have hix : i < ls.length := by rw [← hA.len]; exact hi
  have hx2 : xs[i]? = some y2 := h2
  obtain ⟨d, hdi, hdd⟩ := hA.getv hx2
  have hmem : d ∈ ls := List.mem_of_getElem? hdi
  refine ite_f (decide_eq_false fun z => by cases z; omega) ?_
  walk_at "ri"
  refine ⟨y2, d, rfl, (hdd.same s2).same s3, shorts_at hz hmem, fun H4 s4 => ?_⟩
  rw [hok d hmem]
  walk_at "ri"
  obtain ⟨nm, rest, hd5⟩ := isWork_name2 (hok d hmem)
  subst hd5
  have s24 := (s2.trans s3).trans s4
  obtain ⟨b, zs, rfl, hTb, hAb⟩ := (hdd.same s24).tupI
  cases hAb with | cons b1 hAb => ?_
  cases b1
  refine s_ixT hTb (at_of (j := 0) rfl rfl) ?_
  walk_at "ri"
  have e4 : H4 l = some (.lst (((ls.map nameD).take i).map V.str)) := s4 _ _ (s3 _ _ e2)
  have hnm : (ls.map nameD)[i]? = some nm := by
    rw [List.getElem?_map, hdi]
    rfl
  refine s_in (.inl (SqL.of e4)) rfl flat_strs ?_
  walk_at "ri"
  refine ite_f (by rw [if_neg (by decide), inV_strs]; exact decide_eq_false (nodup_take hnd hnm)) ?_
  walk_at "ri"
  refine s_tyL e4 ?_
  walk_at "ri"
  refine s_ixT hTb (at_of (j := 0) rfl rfl) ?_
  walk_at "ri"
  refine s_append e4 ?_ ?_
  · rw [List.length_map, List.length_take, List.length_map, sizeLine_eq]
    omega
  refine ⟨_, _, rfl, fun c o h => ?_, ?_⟩
  · rw [upd_ne (ne_of_none h hl)]
    exact s24 _ _ h
  · rw [upd_same, List.take_add_one, hnm, List.map_append]
    rfl
end
set_option maxHeartbeats 1000000
open PySem PySem.Spec PyProof.Rows L2 Z
open He (ga ma)
def spSetupInit (K : Fg) : Sp := fun vs H Q _ => ∃ x a b dx P, vs = [.ref x, .ref a, .ref b] ∧ H x = some (.ins (ga K "Setup") dx []) ∧ Dp K H (.ref a) (.tuple (P.ls.map dLn)) ∧ Dp K H (.ref b) (.tuple (P.ws.map dWk)) ∧ P.Ok ∧
  ∀ H' rd wd, H rd = none → H wd = none → rd ≠ wd → Fr [x] H H' → PlanAt K H' ⟨x, rd, wd⟩ P → Q .non H'
section
variable {P : Program} {w : World} {K : Fg} {mg : Str → Option Value} {base : Heap}
theorem ok_Setup_init (T : Txt K mg) : FnOk P w K mg base (L2.CX P w) 5 (ma K (ga K "Setup") "__init__") (fdOf K (ma K (ga K "Setup") "__init__")) ["self", "lines", "works"] (spSetupInit K) := by
  refine FunD.ok T.F_Setup_init sc_Setup_init (fun vs H Q E h => ?_) (fun cdv A outer s H vs Q E hr h => ⟨_, PSs.nox (pss_cons (ps_if (PW.pt (pw_or (pt_not (pt_val (pe_callB (call_isiDK K) (by rfl) T.u_isinstance (by decide +kernel) (pa_cons (pv 1) (pa_cons (z_ty (n := "tuple") T.u_tuple) pa_nil))))) (pw_or1 (pt_cmpR (op_eq0K K hr.units) (pv 1) (pe_tup pa_nil) (nomark _))))) (pss_one ps_never) pss_nil)
      (pss_cons (ps_expr (z_call (ok_check_lines T) T.c_check_lines (hr.mono (by decide)) rfl T.g_check_lines passL (pa_cons (pv 1) (pa_cons (ClX.pe_cval (z_ref T.g_Setup)) pa_nil))))
      (pss_cons (ps_if (pt_not (pt_val (pe_callB (call_isiDK K) (by rfl) T.u_isinstance (by decide +kernel) (pa_cons (pv 2) (pa_cons (z_ty (n := "tuple") T.u_tuple) pa_nil))))) (pss_one ps_never) pss_nil)
      (pss_cons (ps_expr (z_call (ok_check_works T) T.c_check_works (hr.mono (by decide)) rfl T.g_check_works passL (pa_cons (pv 2) (pa_cons (ClX.pe_cval (z_ref T.g_Setup)) pa_nil))))
      (pss_cons (zset 3 sc_Setup_init.nd (pe_dc (own := [("line", 6)]) rfl sc_Setup_init.nd (kIT K (pi_tup (pv 1))) (blkOk_by (own := [("line", 6)]) (N := n_Setup_init) (sc := defScope s_Setup_init) (by decide +kernel)) (fun _ _ _ _ _ => (zg 6 sc_Setup_init.nd)) (fun _ _ _ _ _ => pts_nil) (fun _ _ _ _ _ => (pe_ix (ix_tupK K) (pv 6) pe_int (fun _ _ => rfl))) (fun _ _ _ _ _ => (pe_ix (ix_tupK K) (pv 6) pe_int (fun _ _ => rfl)))))
      (pss_cons (zset 4 sc_Setup_init.nd (pe_lc (own := [("work", 7)]) rfl sc_Setup_init.nd (kIT K (pi_tup (pv 2))) (blkOk_by (own := [("work", 7)]) (N := n_Setup_init) (sc := defScope s_Setup_init) (by decide +kernel)) (fun _ _ _ _ _ => (zg 7 sc_Setup_init.nd)) (fun _ _ _ _ _ => pts_nil) (fun _ _ _ _ _ => (pe_ix (ix_tupK K) (pv 7) pe_int (fun _ _ => rfl)))))
      (pss_cons (ps_for PassesOwn.never rfl (kIET K (pi_enumT (by rfl) T.u_enumerate (pa_cons (pv 1) pa_nil))) (kGT K (pg_tup (n := 2) rfl (pgs_cons (zg 5 sc_Setup_init.nd) (pgs_cons (zg 6 sc_Setup_init.nd) pgs_nil))))
      (pss_one (ps_if (pt_not (pt_val (pe_callB (cr_allK K rfl) (by rfl) T.u_all (by decide +kernel) (pa_cons (pe_lc (own := [("step", 8)]) rfl sc_Setup_init.nd (kIT K (pi_tup (pe_ix (ix_tupK K) (pv 6) pe_int (fun _ _ => rfl)))) (blkOk_by (own := [("step", 8)]) (N := n_Setup_init) (sc := defScope s_Setup_init) (by decide +kernel)) (fun _ _ _ _ _ => (zg 8 sc_Setup_init.nd)) (fun _ _ _ _ _ => pts_nil) (fun _ _ _ _ _ => (z_call (ok_is_step T) T.c_is_step (hr.mono (by decide)) rfl T.g_is_step passL (pa_cons (pv 8) (pa_cons (pv 3) (pa_cons (pv 4) pa_nil)))))) pa_nil)))) (pss_one ps_never) pss_nil)))
      (pss_cons (ps_fld (pv 0) (pv 1) rfl)
      (pss_cons (ps_fld (pv 0) (pv 2) rfl)
      (pss_cons (ps_fld (pv 0) (pe_dc (own := [("line", 6)]) rfl sc_Setup_init.nd (kIT K (pi_tup (pv 1))) (blkOk_by (own := [("line", 6)]) (N := n_Setup_init) (sc := defScope s_Setup_init) (by decide +kernel)) (fun _ _ _ _ _ => (zg 6 sc_Setup_init.nd)) (fun _ _ _ _ _ => pts_nil) (fun _ _ _ _ _ => (pe_ix (ix_tupK K) (pv 6) pe_int (fun _ _ => rfl))) (fun _ _ _ _ _ => (pv 6))) rfl)
      (pss_one (ps_fld (pv 0) (pe_dc (own := [("work", 7)]) rfl sc_Setup_init.nd (kIT K (pi_tup (pv 2))) (blkOk_by (own := [("work", 7)]) (N := n_Setup_init) (sc := defScope s_Setup_init) (by decide +kernel)) (fun _ _ _ _ _ => (zg 7 sc_Setup_init.nd)) (fun _ _ _ _ _ => pts_nil) (fun _ _ _ _ _ => (pe_ix (ix_tupK K) (pv 7) pe_int (fun _ _ => rfl))) (fun _ _ _ _ _ => (pv 7))) rfl)))))))))))), ?_⟩)
  · obtain ⟨x, a, b, dx, P, rfl, _⟩ := h
    rfl
  obtain ⟨x, a, b, dx, P, rfl, hx, hda, hdb, ok, q⟩ := h
  show (_ : TS) _ [some (.ref x), some (.ref a), some (.ref b), none, none, none, none, none, none] H
  try dsimp only [cxOf]
  walk_at "ri"
  refine ⟨by decide, ?_⟩
  walk_at "zn"
  rename_i p hp H1 s1 e1
  obtain ⟨_, xs, e, hT, hA⟩ := hda.tupI
  cases e
  obtain ⟨_, ys, e, hTb, hAb⟩ := hdb.tupI
  cases e
  have hxl : xs.length = P.ls.length := by rw [hA.len, List.length_map]
  refine s_eq0T (s1.sqT hT) (SqT.of e1) ?_
  walk_at "ri"
  refine ite_f ?_ ?_
  · cases xs with
    | nil => exact absurd (List.length_eq_zero_iff.mp hxl.symm) ok.ne
    | cons _ _ => rfl
  walk_at "ri"
  refine s_cval T.k_Setup_MAX_LINES ?_
  walk_at "ri"
  have hnm : (P.ls.map dLn).map nameD = P.names := by rw [List.map_map]; rfl
  have hnw : (P.ws.map dWk).map nameD = P.wnames := by rw [List.map_map]; rfl
  have l12 := ok.l12
  have w8 := ok.w8
  refine ⟨_, P.ls.map dLn, 12, rfl, hda.same s1, shorts_map ok.shl, fun d hd => ?_, by rw [hnm]; exact ok.lnd, by rw [List.length_map]; omega, by rw [List.length_map]; omega, fun H2 s2 => ?_⟩
  · obtain ⟨l, hl, rfl⟩ := List.mem_map.mp hd
    exact ok.lok l hl
  have s12 := s1.trans s2
  have hdb2 := hdb.same s12
  walk_at "ri"
  refine s_cval T.k_Setup_MAX_WORKS ?_
  walk_at "ri"
  refine ⟨_, P.ws.map dWk, 8, rfl, hdb.same s12, shorts_map fun w hw => (ok.shw w hw).1, fun d hd => ?_, by rw [hnw]; exact ok.wnd, by rw [List.length_map]; omega, by rw [List.length_map]; omega, fun H3 s3 => ?_⟩
  · obtain ⟨l, hl, rfl⟩ := List.mem_map.mp hd
    exact ok.wok l hl
  walk_at "ri"
  have s13 := s12.trans s3
  have hkk : (P.ls.map fun l => (Sum.inr l.nm : Key)) = P.names.map Sum.inr := by rw [Pl.names, List.map_map]; rfl
  have hkn : (P.ls.map fun l => (Sum.inr l.nm : Key)).Nodup := by
    rw [hkk]
    exact List.Pairwise.map Sum.inr (fun a b h e => h (Sum.inr.inj e)) ok.lnd
  have hkw : (P.ws.map fun l => (Sum.inr l.nm : Key)).Nodup := by
    rw [show (P.ws.map fun l => (Sum.inr l.nm : Key)) = P.wnames.map Sum.inr by rw [Pl.wnames, List.map_map]; rfl]
    exact List.Pairwise.map Sum.inr (fun a b h e => h (Sum.inr.inj e)) ok.wnd
  refine dcT_d (l := P.ls) (da := dLn) (s13.sqT hT) (hA.same s13) (fun l => .inr l.nm) (P.ls.map fun l => .str l.kd) (by rw [List.length_map]) hkn (by omega) (fun i l y v H4 Z N hl hi hy hv s4 hd z => ?_) (fun kd H4 hkd s4 e4 => ?_)
  · obtain ⟨t, zs, rfl, ht, ha⟩ := hd.tupI
    walk_at "ri"
    refine ⟨rfl, ?_⟩
    walk_at "ri"
    cases ha with | cons h1 ha => ?_
    cases ha with | cons h2 ha => ?_
    cases h1
    cases h2
    refine s_ixT ht (at_of (j := 0) rfl rfl) ?_
    walk_at "ri"
    refine s_ixT ht (at_of (j := 1) rfl rfl) ?_
    rw [List.getElem?_map, hi] at hv
    cases hv
    exact z _ (Same.refl _)
  have hkz : (P.ls.map fun l => (Sum.inr l.nm : Key)).zip (P.ls.map fun l => V.str l.kd) = P.kinds := by
    rw [List.zip_map']
    rfl
  rw [hkz] at e4
  walk_at "ri"
  have s14 := s13.trans s4
  refine lcT_d (l := P.ws) (da := dWk) (s14.sqT hTb) (hAb.same s14) (fun _ => true) (fun w => .str w.nm) (by omega) (fun _ _ => rfl) (fun l v H5 Yes No hl s5 hd yes no => ?_) (fun nl H5 ns hnl s5 e5 a5 => ?_)
  · obtain ⟨t, zs, rfl, ht, ha⟩ := hd.tupI
    walk_at "ri"
    refine ⟨rfl, ?_⟩
    walk_at "ri"
    cases ha with | cons h1 ha => ?_
    cases h1
    refine s_ixT ht (at_of (j := 0) rfl rfl) ?_
    exact yes rfl _ _ (Same.refl _) (.str _)
  rw [List.filter_eq_self.mpr (fun _ _ => rfl), map_str] at a5
  have e5' := dp_strs a5
  subst e5'
  have s15 := s14.trans s5
  rw [show (P.ws.map fun w => w.nm) = P.wnames from rfl] at e5
  have hkv : strVals P.kinds := fun k v h => by
    unfold valV at h
    obtain ⟨kv, h1, h2⟩ := Option.map_eq_some_iff.mp h
    obtain ⟨l, hl, rfl⟩ := List.mem_map.mp (List.mem_of_find?_eq_some h1)
    exact ⟨l.kd, h2.symm⟩
  walk_at "ri"
  refine ⟨_, rfl, a, xs, rfl, s15.sqT hT, for_it walk_enumT (fun i σ H' => ∃ v5 v6, σ = [some (.ref x), some (.ref a), some (.ref b), some (.ref kd), some (.ref nl), v5, v6, none, none] ∧ Same H5 H') ⟨none, none, rfl, Same.refl _⟩ (fun i σ H' _ ⟨_, _, _, s6⟩ => s6.sqT (s15.sqT hT)) (fun i x' σ H6 H7 hi p y => ?_) (fun σ H6 ⟨v5, v6, hσ, s6⟩ => ?_)⟩
  · obtain ⟨v5, v6, rfl, s6⟩ := p
    obtain ⟨t, y1, y2, rfl, ht, rfl, h1, h2⟩ := y
    cases h1
    generalize eH : upd H6 t _ = H7
    have s7 := newS ht eH
    have e7 := newE eH
    clear eH
    refine s_gtup (SqT.of e7) rfl ?_
    walk_at "ri"
    have s57 := s6.trans s7
    have s17 := s15.trans s57
    obtain ⟨d, hdi, hdd⟩ := hA.getv h2
    rw [List.getElem?_map] at hdi
    obtain ⟨l, hl, rfl⟩ := Option.map_eq_some_iff.mp hdi
    obtain ⟨c, zs, rfl, hTc, hAc⟩ := (hdd.same s17).tupI
    cases hAc with | cons h1 hAc => ?_
    cases hAc with | cons h2 hAc => ?_
    cases hAc with | cons h3 hAc => ?_
    cases hAc with | cons h4 hAc => ?_
    cases hAc
    refine s_ixT hTc (at_of (j := 3) rfl rfl) ?_
    obtain ⟨st, ss, rfl, hTs, hAs⟩ := h4.tupI
    have hlm := List.mem_of_getElem? hl
    have hst : l.st.length ≤ 8 := by
      have hk := ok.lok l hlm
      simp only [isLine, dLn, isSteps, Bool.and_eq_true, decide_eq_true_eq, List.length_map] at hk
      omega
    refine lcT_d (l := l.st) (da := dSt) hTs hAs (fun _ => true) (fun s => .bool (isStep P.kinds (P.wnames.map V.str) (dSt s))) (by omega) (fun _ _ => rfl) (fun s v H8 Yes No hs s8 hd yes no => ?_) (fun bl H8 bs hbl s8 e8 a8 => ?_)
    · walk_at "ri"
      refine ⟨rfl, ?_⟩
      walk_at "ri"
      refine ⟨_, _, _, _, _, _, rfl, hd, s8 _ _ (s57 _ _ (s5 _ _ e4)), hkv, SqL.of (s8 _ _ (s57 _ _ e5)), flat_strs, ?_⟩
      exact yes rfl _ _ (Same.refl _) (.bl _)
    rw [List.filter_eq_self.mpr (fun _ _ => rfl), map_bool] at a8
    have e8' := dp_bools a8
    subst e8'
    walk_at "ri"
    refine s_all (SqL.of e8) ?_
    walk_at "ri"
    refine ite_f ?_ ?_
    · rw [List.all_map]
      exact congrArg Bool.not (List.all_eq_true.mpr fun s hs => ok.sok l hlm s hs)
    walk_at "ri"
    exact ⟨_, _, rfl, s57.trans s8⟩
  subst hσ
  have s16 := s15.trans s6
  walk_at "ri"
  refine s_fldput (s16 _ _ hx) T.cl_Setup T.n_Setup_line_rows (of_decide_eq_true (by kernel_rfl)) ?_
  walk_at "ri"
  refine s_fldput upd_same T.cl_Setup T.n_Setup_work_rows (of_decide_eq_true (by kernel_rfl)) ?_
  generalize eH : upd (upd H6 x _) x _ = H8
  have e8 : H8 x = some (.ins (ga K "Setup") dx (putF "work_rows" (.ref b) (putF "line_rows" (.ref a) []))) := by rw [← eH, upd_same]
  have f8 : Fr [x] H H8 := by
    rw [← eH]
    exact s16.fr.trans ((Fr.upd (by simp) (s16 _ _ hx) rfl).trans (Fr.upd (by simp) upd_same rfl))
  clear eH
  have hrow : ∀ {H9 : Hp}, Fr [x] H H9 → SqT K H9 a xs ∧ DpAll K H9 xs (P.ls.map dLn) ∧ SqT K H9 b ys ∧ DpAll K H9 ys (P.ws.map dWk) := fun f => ⟨f.tk.sqT hT, hA.tk f.tk (tupds_map tupd_dLn _), f.tk.sqT hTb, hAb.tk f.tk (tupds_map tupd_dWk _)⟩
  walk_at "ri"
  refine dcT_d (l := P.ls) (da := dLn) (hrow f8).1 (hrow f8).2.1 (fun l => .inr l.nm) xs hxl.symm hkn (by omega) (fun i l y v H9 Z N hl hi hy hv s9 hd z => ?_) (fun rd H9 hrd s9 e9 => ?_)
  · obtain ⟨t, zs, rfl, ht, ha⟩ := hd.tupI
    walk_at "ri"
    refine ⟨rfl, ?_⟩
    walk_at "ri"
    cases ha with | cons h1 ha => ?_
    cases h1
    refine s_ixT ht (at_of (j := 0) rfl rfl) ?_
    walk_at "ri"
    rw [hy] at hv
    cases hv
    exact z _ (Same.refl _)
  walk_at "ri"
  refine s_fldput (s9 _ _ e8) T.cl_Setup T.n_Setup_rows_by_name (of_decide_eq_true (by kernel_rfl)) ?_
  generalize eH : upd H9 x _ = H10
  have e10 : H10 x = some (.ins (ga K "Setup") dx (putF "rows_by_name" (.ref rd) (putF "work_rows" (.ref b) (putF "line_rows" (.ref a) [])))) := by rw [← eH, upd_same]
  have f9 : Fr [x] H9 H10 := by rw [← eH]; exact Fr.upd (by simp) (s9 _ _ e8) rfl
  have f10 : Fr [x] H H10 := (f8.trans s9.fr).trans f9
  have hxrd : rd ≠ x := fun z => by rw [z, e8] at hrd; cases hrd
  have d10 : H10 rd = some (.dK ((P.ls.map fun l => (Sum.inr l.nm : Key)).zip xs)) := f9.at e9 (by simp [hxrd])
  clear eH
  have hyl : ys.length = P.ws.length := by rw [hAb.len, List.length_map]
  walk_at "ri"
  refine dcT_d (l := P.ws) (da := dWk) (hrow f10).2.2.1 (hrow f10).2.2.2 (fun l => .inr l.nm) ys hyl.symm hkw (by omega) (fun i l y v H9 Z N hl hi hy hv s9 hd z => ?_) (fun wd H11 hwd s11 e11 => ?_)
  · obtain ⟨t, zs, rfl, ht, ha⟩ := hd.tupI
    walk_at "ri"
    refine ⟨rfl, ?_⟩
    walk_at "ri"
    cases ha with | cons h1 ha => ?_
    cases h1
    refine s_ixT ht (at_of (j := 0) rfl rfl) ?_
    walk_at "ri"
    rw [hy] at hv
    cases hv
    exact z _ (Same.refl _)
  walk_at "ri"
  refine s_fldput (s11 _ _ e10) T.cl_Setup T.n_Setup_works_by_name (of_decide_eq_true (by kernel_rfl)) ?_
  generalize eH : upd H11 x _ = H12
  have f12 : Fr [x] H11 H12 := by rw [← eH]; exact Fr.upd (by simp) (s11 _ _ e10) rfl
  have e12 : H12 x = some (.ins (ga K "Setup") dx (planF a b rd wd)) := by
    rw [← eH, upd_same]
    kernel_rfl
  clear eH
  have f := (f10.trans s11.fr).trans f12
  have hxwd : wd ≠ x := fun z => by rw [z, e10] at hwd; cases hwd
  have new : ∀ {a : Addr} {H9 : Hp}, Fr [x] H H9 → a ≠ x → H9 a = none → H a = none := fun {a H9} f n h => by
    cases e : H a with
    | none => rfl
    | some o => rw [f.at e (by simp [n])] at h; cases h
  refine q H12 rd wd (new f8 hxrd hrd) (new f10 hxwd hwd) (fun z => by rw [← z, d10] at hwd; cases hwd) f ⟨ok, ⟨dx, a, b, e12, hda.tk f.tk (tupds_map tupd_dLn _), hdb.tk f.tk (tupds_map tupd_dWk _)⟩, dictOf_zip (nm := Ln.nm) (f12.at (s11 _ _ d10) (by simp [hxrd])) ok.lnd (hrow f).2.1, dictOf_zip (nm := Wk.nm) (f12.at e11 (by simp [hxwd])) ok.wnd (hrow f).2.2.2⟩
end
end T
set_option maxHeartbeats 4000000
namespace T
open PySem PySem.Spec PyProof.Rows L2 Z
open He (ga ma)
open LamX (TabS CodeO)
local macro_rules | `(tactic| walk_at "z") => `(tactic| with_reducible first | refine ⟨_, _, rfl, rfl, ?_⟩ | refine ⟨_, rfl, ?_⟩)
local macro_rules | `(tactic| walk_at "z") => `(tactic| ((with_reducible refine s_isi (d := ?d1) ?h1 ?h2 ?q1); (case h1 => first | assumption | constructor); (case h2 => decide)))
local macro_rules | `(tactic| walk_at "z") => `(tactic| with_reducible first | refine s_tup ?_ | refine s_lst ?_)
local macro_rules | `(tactic| walk_at "z") => `(tactic| ((with_reducible refine s_ne ?h1 ?q1); (case h1 => exact rfl)))
local macro_rules | `(tactic| walk_at "z") => `(tactic| ((with_reducible refine s_eq ?h1 ?q1); (case h1 => exact rfl)))
local macro_rules | `(tactic| walk_at "z") => `(tactic| with_reducible first | refine s_dcT ?_ | refine s_cvalg ?_ | refine s_fldS ?_ | refine s_I0 ?_ | refine s_U ?_)
local macro_rules | `(tactic| walk_at "z") => `(tactic| with_reducible first | refine s_make ?_ | refine s_sl ?_ | refine s_nop ?_ | refine s_part ?_ | refine s_lcE ?_ | refine s_lc ?_)
local macro_rules | `(tactic| walk_at "z") => `(tactic| with_reducible first | refine s_for ?_ | refine s_rng1 ?_ | refine s_iT ?_ | refine s_iL ?_ | refine Or.inl (Exists.intro _ (And.intro rfl ?_)) | refine Or.inr (Exists.intro _ (And.intro rfl ?_)))
local macro_rules | `(tactic| walk_at "z") => `(tactic| with_reducible first | refine s_tupRg ?_ | refine s_lstRg ?_ | refine s_rg1 ?_ | refine s_items ?_ | refine s_get2 ?_ | refine s_callI ?_)
local macro_rules | `(tactic| walk_at "z") => `(tactic| with_reducible first | refine s_fldaug ?_ | refine s_add ?_ | refine s_ipI ?_ | refine s_ixO ?_ | refine s_lcL ?_ | refine s_dputg ?_)
local macro_rules | `(tactic| walk_at "z") => `(tactic| with_reducible first | refine s_daugg ?_ | refine s_disp ?_ | refine s_pcons ?_ | refine s_pnil ?_ | refine s_gsub ?_ | refine s_augS ?_)
local macro_rules | `(tactic| walk_at "z") => `(tactic| with_reducible first | refine s_bm ?_ | refine s_bm0 ?_ | refine s_fldg ?_ | refine s_meth ?_ | refine s_prop ?_ | refine s_lcT ?_)
local macro_rules | `(tactic| walk_at "z") => `(tactic| with_reducible first | refine s_yes ?_ | refine s_gcons ?_ | refine s_gnil ?_ | refine s_din ?_ | refine s_dnin ?_ | refine s_dget ?_)
local macro_rules | `(tactic| walk_at "z") => `(tactic| with_reducible first | refine s_orV ?_ | refine s_notV ?_ | refine s_if ?_ | refine s_chain ?_ | refine s_call ?_ | refine s_bl ?_)
local macro_rules | `(tactic| walk_at "z") => `(tactic| with_reducible first | refine s_test ?_ | refine s_B ?_ | refine s_and ?_ | refine s_or ?_ | refine s_not ?_ | refine s_andV ?_)
local macro_rules | `(tactic| walk_at "z") => `(tactic| with_reducible first | refine s_op ?_ | refine s_un ?_ | refine s_cb ?_ | refine s_cons ?_ | refine s_nil ?_ | refine s_star ?_)
local macro_rules | `(tactic| walk_at "z") => `(tactic| ((with_reducible refine s_var (v := ?v1) ?h1 ?q1); (case h1 => exact rfl)))
local macro_rules | `(tactic| walk_at "z") => `(tactic| with_reducible refine s_c ?_)
local macro_rules | `(tactic| walk_at "z") => `(tactic| with_reducible first | refine s_drop ?_ | refine s_next ?_ | refine s_cont ?_ | refine s_break ?_ | refine s_par ?_ | refine s_par2 ?_)
local macro_rules | `(tactic| walk_at "z") => `(tactic| with_reducible first | refine s_seq ?_ | refine s_asg ?_ | refine s_gname ?_ | refine s_ret ?_ | refine s_retN ?_ | refine s_ifS ?_)
local macro_rules | `(tactic| walk_at "zi") => `(tactic| ((with_reducible refine ite_t ?h1 ?q1); (case h1 => rfl)))
local macro_rules | `(tactic| walk_at "zi") => `(tactic| ((with_reducible refine ite_f ?h1 ?q1); (case h1 => rfl)))
local macro_rules | `(tactic| walk_at "zi") => `(tactic| walk_at "z")
local macro_rules | `(tactic| walk_at "zn") => `(tactic| (intro p hp; generalize eH : upd _ p _ = H2; have s2 := newS hp eH; have e2 := newE eH; clear eH))
local macro_rules | `(tactic| walk_at "zt") => `(tactic| ((with_reducible refine And.intro ?h1 ?_); (case h1 => exact Nat.le_of_ble_eq_true rfl); intro p hp; generalize eH : upd _ p _ = H2; have s2 := newS hp eH; have e2 := newE eH; clear eH))
local macro_rules | `(tactic| walk_at "hl") => `(tactic| ((with_reducible apply ev_same); (· assumption); · walk_at "hl"))
local macro_rules | `(tactic| walk_at "hl") => `(tactic| ((with_reducible apply mh_same); (· assumption); · walk_at "hl"))
local macro_rules | `(tactic| walk_at "hl") => `(tactic| ((with_reducible apply hs_same); (· assumption); · walk_at "hl"))
local macro_rules | `(tactic| walk_at "hl") => `(tactic| ((with_reducible apply mst_same); (· assumption); · walk_at "hl"))
local macro_rules | `(tactic| walk_at "hl") => `(tactic| ((with_reducible apply plm_same); (· assumption); · walk_at "hl"))
local macro_rules | `(tactic| walk_at "hl") => `(tactic| ((with_reducible apply md_same); (· assumption); · walk_at "hl"))
local macro_rules | `(tactic| walk_at "hl") => `(tactic| ((with_reducible apply row_same); (· assumption); · walk_at "hl"))
local macro_rules | `(tactic| walk_at "hl") => `(tactic| ((with_reducible apply sg_same); (· assumption); · walk_at "hl"))
local macro_rules | `(tactic| walk_at "hl") => `(tactic| ((with_reducible apply cst_same); (· assumption); · walk_at "hl"))
local macro_rules | `(tactic| walk_at "hl") => `(tactic| ((with_reducible apply co_same); (· assumption); · walk_at "hl"))
local macro_rules | `(tactic| walk_at "hl") => `(tactic| ((with_reducible apply bd_same); (· assumption); · walk_at "hl"))
local macro_rules | `(tactic| walk_at "hl") => `(tactic| ((with_reducible apply pl_same); (· assumption); · walk_at "hl"))
local macro_rules | `(tactic| walk_at "hl") => `(tactic| ((with_reducible apply dpA_same); (· assumption); · walk_at "hl"))
local macro_rules | `(tactic| walk_at "hl") => `(tactic| ((with_reducible apply dp_same); (· assumption); · walk_at "hl"))
local macro_rules | `(tactic| walk_at "hl") => `(tactic| ((with_reducible apply SqL.of); · walk_at "hl"))
local macro_rules | `(tactic| walk_at "hl") => `(tactic| ((with_reducible apply SqT.of); · walk_at "hl"))
local macro_rules | `(tactic| walk_at "hl") => `(tactic| ((with_reducible apply sqL_same); (· assumption); · walk_at "hl"))
local macro_rules | `(tactic| walk_at "hl") => `(tactic| ((with_reducible apply sqT_same); (· assumption); · walk_at "hl"))
local macro_rules | `(tactic| walk_at "hl") => `(tactic| ((with_reducible apply at_same); (· assumption); · walk_at "hl"))
local macro_rules | `(tactic| walk_at "hl") => `(tactic| assumption)
local macro_rules | `(tactic| walk_at "lk") => `(tactic| with_reducible first | exact sgF_time | exact sgF_sums | exact coF_plan | exact coF_fr | exact coF_lim | exact coF_jo)
local macro_rules | `(tactic| walk_at "lk") => `(tactic| with_reducible first | exact bdF_plan | exact bdF_sh | exact bdF_wa | exact bdF_hi | exact bdF_ta | exact bdF_ra | exact bdF_jo | exact sgF_plan | exact sgF_board | exact sgF_core)
local macro_rules | `(tactic| walk_at "lk") => `(tactic| with_reducible first | exact hsF_li | exact hsF_bd | exact hsF_co | exact hsF_mo | exact hsF_tu | exact hsF_rc | exact hsF_ho | exact hsF_bs | exact hsF_ds | exact hsF_ev)
local macro_rules | `(tactic| walk_at "lk") => `(tactic| with_reducible first | exact bdF_hr | exact bdF_sp | exact bdF_ru | exact bdF_re | exact bdF_wt | exact hsF_plan | exact hsF_size | exact hsF_rr | exact hsF_sr | exact hsF_wy)
local macro_rules | `(tactic| walk_at "lk") => `(tactic| with_reducible first | exact wvF_plan | exact wvF_size | exact rdF_p | exact rdF_n | exact rdF_s | exact plF_lr | exact plF_wr | exact plF_rn | exact plF_wn | exact bdF_tm)
local macro_rules | `(tactic| walk_at "mk") => `(tactic| with_reducible first | exact mk_bar | exact mk_jo | exact mk_now | exact mk_lg | exact mk_sp | exact mk_jn | exact mk_ln | exact mk_wk)
local macro_rules | `(tactic| walk_at "mk") => `(tactic| with_reducible first | exact mh_times | exact mh_done | exact mc_ca | exact mc_bar | exact mc_jo | exact mk_ca | exact mk_ed | exact mk_hi | exact mk_up | exact mk_sh)
local macro_rules | `(tactic| walk_at "mk") => `(tactic| with_reducible first | exact mh_fates | exact mh_lines | exact mh_works | exact mh_routes | exact mh_storms | exact mh_spots | exact mh_turns | exact mh_holds | exact mh_last | exact mh_begun)
local macro_rules | `(tactic| walk_at "mk") => `(tactic| with_reducible first | exact mh_modes | exact mh_cores | exact mh_now | exact mh_order | exact mh_shut | exact mh_wanted | exact mh_high | exact mh_flags | exact mh_log | exact mh_rings)
local macro_rules | `(tactic| walk_at "cl") => `(tactic| with_reducible first | exact Txt.cl_InvalidSetup (by assumption) | exact Txt.cl_NotationError (by assumption) | exact Txt.cl_Setup (by assumption) | exact Txt.cl_RowReader (by assumption))
local macro_rules | `(tactic| walk_at "na") => `(tactic| with_reducible exact Txt.n_RowReader_spot (by assumption))
local macro_rules | `(tactic| walk_at "na") => `(tactic| with_reducible first | exact Txt.n_InvalidSetup_part (by assumption) | exact Txt.n_InvalidSetup_index (by assumption) | exact Txt.n_NotationError_row (by assumption) | exact Txt.n_NotationError_word (by assumption) | exact Txt.n_Setup_line_rows (by assumption) | exact Txt.n_Setup_work_rows (by assumption) | exact Txt.n_Setup_rows_by_name (by assumption) | exact Txt.n_Setup_works_by_name (by assumption) | exact Txt.n_RowReader_parts (by assumption) | exact Txt.n_RowReader_number (by assumption))
local macro_rules | `(tactic| walk_at "zz") => `(tactic| walk_at "zt")
local macro_rules | `(tactic| walk_at "zz") => `(tactic| ((with_reducible apply s_dgS); (· walk_at "hl"); (· walk_at "mk")))
local macro_rules | `(tactic| walk_at "zz") => `(tactic| ((with_reducible apply s_ixL); (· walk_at "hl"); (· with_reducible first | exact at0 | exact at1 | exact at2 | exact at3 | exact at4)))
local macro_rules | `(tactic| walk_at "zz") => `(tactic| ((with_reducible apply s_ixT); (· walk_at "hl"); (· with_reducible first | exact at0 | exact at1 | exact at2 | exact at3 | exact at4)))
local macro_rules | `(tactic| walk_at "zz") => `(tactic| ((with_reducible apply s_propat); (· walk_at "hl")))
local macro_rules | `(tactic| walk_at "zz") => `(tactic| ((with_reducible apply s_methat); (· walk_at "hl"); (· kernel_rfl)))
local macro_rules | `(tactic| walk_at "zz") => `(tactic| ((with_reducible apply s_fldat); (· walk_at "hl"); (· walk_at "cl"); (· walk_at "na"); (· walk_at "lk")))
local macro_rules | `(tactic| walk_at "zz") => `(tactic| walk_at "zi")
local macro_rules | `(tactic| walk_at "orz") => `(tactic| walk_at "zt")
local macro_rules | `(tactic| walk_at "orz") => `(tactic| ((with_reducible apply s_dgS); (· walk_at "hl"); (· walk_at "mk")))
local macro_rules | `(tactic| walk_at "orz") => `(tactic| ((with_reducible apply s_ixL); (· walk_at "hl"); (· with_reducible first | exact at0 | exact at1 | exact at2 | exact at3 | exact at4)))
local macro_rules | `(tactic| walk_at "orz") => `(tactic| ((with_reducible apply s_ixT); (· walk_at "hl"); (· with_reducible first | exact at0 | exact at1 | exact at2 | exact at3 | exact at4)))
local macro_rules | `(tactic| walk_at "orz") => `(tactic| ((with_reducible apply s_propat); (· walk_at "hl")))
local macro_rules | `(tactic| walk_at "orz") => `(tactic| ((with_reducible apply s_methat); (· walk_at "hl"); (· kernel_rfl)))
local macro_rules | `(tactic| walk_at "orz") => `(tactic| ((with_reducible apply s_fldat); (· walk_at "hl"); (· walk_at "cl"); (· walk_at "na"); (· walk_at "lk")))
local macro_rules | `(tactic| walk_at "orz") => `(tactic| ((with_reducible apply ite_t); (· rfl)))
local macro_rules | `(tactic| walk_at "orz") => `(tactic| ((with_reducible apply ite_f); (· rfl)))
local macro_rules | `(tactic| walk_at "orz") => `(tactic| with_reducible first | refine ⟨_, _, rfl, rfl, ?_⟩ | refine ⟨_, rfl, ?_⟩)
local macro_rules | `(tactic| walk_at "orz") => `(tactic| ((with_reducible apply s_isi); (· assumption); (· decide)))
local macro_rules | `(tactic| walk_at "orz") => `(tactic| with_reducible first | refine s_tup ?_ | refine s_lst ?_)
local macro_rules | `(tactic| walk_at "orz") => `(tactic| ((with_reducible apply s_ne); (· exact rfl)))
local macro_rules | `(tactic| walk_at "orz") => `(tactic| ((with_reducible apply s_eq); (· exact rfl)))
local macro_rules | `(tactic| walk_at "orz") => `(tactic| with_reducible first | refine s_lcE ?_ | refine s_lc ?_ | refine s_dcT ?_ | refine s_cvalg ?_ | refine s_I0 ?_ | refine s_U ?_)
local macro_rules | `(tactic| walk_at "orz") => `(tactic| with_reducible first | refine Or.inl (Exists.intro _ (And.intro rfl ?_)) | refine Or.inr (Exists.intro _ (And.intro rfl ?_)) | refine s_make ?_ | refine s_sl ?_ | refine s_nop ?_ | refine s_part ?_)
local macro_rules | `(tactic| walk_at "orz") => `(tactic| with_reducible first | refine s_get2 ?_ | refine s_callI ?_ | refine s_for ?_ | refine s_rng1 ?_ | refine s_iT ?_ | refine s_iL ?_)
local macro_rules | `(tactic| walk_at "orz") => `(tactic| with_reducible first | refine s_lcL ?_ | refine s_dputg ?_ | refine s_tupRg ?_ | refine s_lstRg ?_ | refine s_rg1 ?_ | refine s_items ?_)
local macro_rules | `(tactic| walk_at "orz") => `(tactic| with_reducible first | refine s_daugg ?_ | refine s_disp ?_ | refine s_gsub ?_ | refine s_fldaug ?_ | refine s_ipI ?_ | refine s_ixO ?_)
local macro_rules | `(tactic| walk_at "orz") => `(tactic| with_reducible first | refine s_chain ?_ | refine s_yes ?_ | refine s_din ?_ | refine s_dnin ?_ | refine s_bm0 ?_ | refine s_lcT ?_)
local macro_rules | `(tactic| walk_at "orz") => `(tactic| with_reducible first | refine s_un ?_ | refine s_star ?_ | refine s_and ?_ | refine s_or ?_ | refine s_orV ?_ | refine s_notV ?_)
local macro_rules | `(tactic| walk_at "orz") => `(tactic| with_reducible first | refine s_augS ?_ | refine s_retN ?_ | refine s_cont ?_ | refine s_break ?_ | refine s_par ?_ | refine s_par2 ?_)
local macro_rules | `(tactic| walk_at "orz") => `(tactic| with_reducible first | refine s_andV ?_ | refine s_add ?_ | refine s_prop ?_ | refine s_pnil ?_ | refine s_cb ?_ | refine s_not ?_)
local macro_rules | `(tactic| walk_at "orz") => `(tactic| with_reducible first | refine s_call ?_ | refine s_pcons ?_ | refine s_bm ?_ | refine s_if ?_ | refine s_gcons ?_ | refine s_gnil ?_)
local macro_rules | `(tactic| walk_at "orz") => `(tactic| with_reducible first | refine s_next ?_ | refine s_gname ?_ | refine s_drop ?_ | refine s_meth ?_ | refine s_fldS ?_ | refine s_asg ?_)
local macro_rules | `(tactic| walk_at "orz") => `(tactic| with_reducible first | refine s_fldg ?_ | refine s_ifS ?_ | refine s_dget ?_ | refine s_ret ?_ | refine s_B ?_ | refine s_test ?_)
local macro_rules | `(tactic| walk_at "orz") => `(tactic| with_reducible first | refine s_cons ?_ | refine s_c ?_ | refine s_nil ?_ | refine s_seq ?_ | refine s_op ?_ | refine s_bl ?_)
local macro_rules | `(tactic| walk_at "orz") => `(tactic| ((with_reducible apply s_var); (· exact rfl)))
local macro_rules | `(tactic| walk_at "rz") => `(tactic| repeat walk_at "orz")
local macro_rules | `(tactic| walk_at "zm") => `(tactic| (intro x dx hx hdx hne; generalize eH : upd (upd _ dx _) x _ = H2; have s2 := mkS hx hdx eH; have e2 := mkE eH; clear eH hdx hne))
local macro_rules | `(tactic| walk_at "zb") => `(tactic| with_reducible first | refine s_gcons ?_ | refine s_gnil ?_ | refine s_gname ?_ | refine s_seq ?_ | refine s_ifS ?_ | refine s_if ?_ | refine s_next ?_ | refine s_drop ?_ | refine s_ret ?_ | refine s_asg ?_)
def xdS (p : Str) (i : Nat) : HO := .xd [("index", .int (i : Nat)), ("part", .str p)]
def spExSetup (K : Fg) : Sp := fun vs H Q _ => ∃ (a : Addr) (p : Str) (i : Nat), vs = [.ref a, .str p, .int (i : Nat)] ∧ H a = some (exo a (ga K "InvalidSetup") none) ∧ i ≤ 1000 ∧ p.length ≤ 100 ∧ ∀ dx H', H dx = none → dx ≠ a → H' = upd (upd H dx (exd dx [("index", .int (i : Nat)), ("part", .str p)])) a (exo a (ga K "InvalidSetup") (some dx)) → Q .non H'
structure BadAt (ok : PyData → Bool) (most : Nat) (ls : List PyData) (k : Nat) : Prop where
  le : k ≤ most
  bad : ∃ d, ls[k]? = some d ∧ (k = most ∨ ok d = false ∨ (ok d = true ∧ nameD d ∈ (ls.take k).map nameD))
  ok : ∀ d ∈ ls.take k, ok d = true
  nd : ((ls.take k).map nameD).Nodup
structure GoodL (ok : PyData → Bool) (most : Nat) (ls : List PyData) : Prop where
  le : ls.length ≤ most
  ok : ∀ d ∈ ls, ok d = true
  nd : (ls.map nameD).Nodup
def spCheckX (K : Fg) (ok : PyData → Bool) (part : Str) : Sp := fun vs H Q E => ∃ v ls, ∃ most : Nat, vs = [v, .int (most : Nat)] ∧ Dp K H v (.tuple ls) ∧ shorts ls = true ∧ most ≤ 100 ∧
  ((∃ k, BadAt ok most ls k ∧ ∀ dx H', Same H H' → H' dx = some (xdS part k) → E (.ref (ga K "InvalidSetup")) (some dx) H') ∨ (GoodL ok most ls ∧ ∀ H', Same H H' → Q .non H'))
section
variable {P : Program} {w : World} {K : Fg} {mg : Str → Option Value} {base : Heap}
theorem ok_InvalidSetup_init (T : Txt K mg) : FnOk P w K mg base (L2.CX P w) 1 (ma K (ga K "InvalidSetup") "__init__") (fdOf K (ma K (ga K "InvalidSetup") "__init__")) ["self", "part", "index"] (spExSetup K) := by
  refine FunD.ok T.F_InvalidSetup_init sc_InvalidSetup_init (fun vs H Q E h => ?_) (fun cdv A outer s H vs Q E hr h => ⟨_, PSs.nox (pss_cons (ps_expr (z_veinit (z_ref T.g_BellError) T.vi_BellError (pa_cons (pv 0) (pa_cons (pe_joined (.cons pe_str (.cons (pe_fmt (pv 1)) (.cons pe_str (.cons (pe_fmt (pv 2)) .nil))))) pa_nil))))
      (pss_cons (ps_ost (pv 0) (pv 1))
      (pss_one (ps_ost (pv 0) (pv 2))))), ?_⟩)
  · obtain ⟨a, p, i, rfl, _⟩ := h
    rfl
  obtain ⟨a, p, i, rfl, ha, hi, hp, q⟩ := h
  show (_ : TS) _ [some (.ref a), some (.str p), some (.int (i : Nat))] H
  try dsimp only [cxOf]
  walk_at "rz"
  refine s_bin ?_
  walk_at "rz"
  refine ⟨rfl, ?_⟩
  unfold tVeI
  walk_at "rz"
  have l8 : ("invalid " : Str).length = 8 := by decide
  have l10 : (" at index " : Str).length = 10 := by decide
  have ly : (Str.ofString (toString ((i : Nat) : Int))).length ≤ 10 := by
    rw [PySem.ofString_length]
    exact Nat.le_trans (int_text_length_le10 (k := 4) (by decide) (by show i < 10 ^ 4; omega)) (by decide)
  have e0 : (Str.empty ++ ("invalid " : Str)) = ("invalid " : Str) := by decide
  refine ⟨_, rfl, by decide, ⟨_, rfl, .inl ⟨p, rfl, by rw [sizeLine_eq]; omega, _, rfl, ?_, ?_⟩⟩⟩
  · rw [e0, str_len_app, sizeLine_eq]
    omega
  rw [e0]
  refine ⟨_, rfl, by rw [str_len_app, str_len_app, sizeLine_eq]; omega, ⟨_, rfl, .inr ⟨_, rfl, ?_, ?_⟩⟩⟩
  · show Nat.log2 i < 1920
    exact Nat.lt_of_le_of_lt (Nat.log2_le_self i) (by omega)
  refine ⟨_, rfl, ?_, ?_⟩
  · rw [str_len_app, str_len_app, str_len_app, sizeLine_eq]
    omega
  refine ⟨a, ga K "InvalidSetup", _, rfl, by simp, T.xo_InvalidSetup, ha, ?_⟩
  refine ⟨_, rfl, .ref a, rfl, a, ga K "InvalidSetup", rfl, T.xo_InvalidSetup, T.xn_InvalidSetup_part, .inl ⟨ha, fun dx hdx hne => ?_⟩⟩
  refine ⟨_, rfl, .ref a, rfl, a, ga K "InvalidSetup", rfl, T.xo_InvalidSetup, T.xn_InvalidSetup_index, .inr ⟨dx, _, upd_same, by rw [upd_ne hne, upd_same], by simp, ?_⟩⟩
  refine q dx _ hdx hne ?_
  funext b
  by_cases hb : b = dx
  · subst hb
    rw [upd_same, upd_ne hne, upd_same]
  · rw [upd_ne hb]
    by_cases hb2 : b = a
    · subst hb2
      rw [upd_same, upd_same]
    · rw [upd_ne hb2, upd_ne hb2, upd_ne hb, upd_ne hb]
theorem ok_check_lines_x (T : Txt K mg) : FnOk P w K mg base (L2.CX P w) 4 (ga K "check_lines") (fdOf K (ga K "check_lines")) ["lines", "most"] (spCheckX K isLine "lines") := by
  refine FunD.ok T.F_check_lines sc_check_lines (fun vs H Q E h => ?_) (fun cdv A outer s H vs Q E hr h => ⟨_, (pss_cons (zset 2 sc_check_lines.nd (pe_lst pa_nil))
      (pss_one (ps_for PassesOwn.leaving rfl (kIET K (pi_enumT (by rfl) T.u_enumerate (pa_cons (pv 0) pa_nil))) (kGT K (pg_tup (n := 2) rfl (pgs_cons (zg 3 sc_check_lines.nd) (pgs_cons (zg 4 sc_check_lines.nd) pgs_nil))))
      (pss_cons (ps_if (PW.pt (pw_or (pt_cmpR op_eq (pv 3) (pv 1) (nomark _)) (pw_or (pt_not (pt_val (z_call (ok_is_line T) T.c_is_line (hr.mono (by decide)) rfl T.g_is_line passL (pa_cons (pv 4) pa_nil)))) (pw_or1 (pt_cmpR (op_in_seqK K) (pe_ix (ix_tupK K) (pv 4) pe_int (fun _ _ => rfl)) (pv 2) (by rfl)))))) (pss_one (ps_raise rfl (takes_of rfl rfl rfl rfl) (z_mkX T.xo_InvalidSetup T.xi_InvalidSetup (ok_InvalidSetup_init T) T.c_InvalidSetup_init (hr.mono (by decide)) rfl T.g_InvalidSetup (pa_cons pe_str (pa_cons (pv 3) pa_nil))))) pss_nil)
      (pss_one (ps_expr (kBM K (pe_bm PySem.F.plainAttrs_list PySem.F.slot_list_append PySem.F.type_list_append mt_append (pv 2) (pa_cons (pe_ix (ix_tupK K) (pv 4) pe_int (fun _ _ => rfl)) pa_nil))))))))), ?_⟩)
  · obtain ⟨v, ls, most, rfl, _⟩ := h
    rfl
  obtain ⟨v, ls, most, rfl, hd, hz, hm, hR⟩ := h
  obtain ⟨a, xs, rfl, hT, hA⟩ := hd.tupI
  have lxs : xs.length = ls.length := hA.len
  show (_ : TS) _ [some (.ref a), some (.int (most : Nat)), none, none, none] H
  try dsimp only [cxOf]
  walk_at "rz"
  rename_i l hl H1 s1 e1
  refine ⟨_, rfl, a, xs, rfl, s1.sqT hT, for_it walk_enumT (fun i σ H' => (∃ v3 v4, σ = [some (.ref a), some (.int (most : Nat)), some (.ref l), v3, v4]) ∧ Same H H' ∧ H' l = some (.lst (((ls.map nameD).take i).map V.str)) ∧ (∀ k, BadAt isLine most ls k → i ≤ k)) ⟨⟨none, none, rfl⟩, s1, e1, fun k _ => Nat.zero_le k⟩ (fun i σ H' _ ⟨_, s2, _⟩ => s2.sqT hT) (fun i x σ H2 H3 hi ⟨⟨v3, v4, es⟩, s2, e2, ik⟩ y => ?_) (fun σ H' ⟨⟨v3, v4, es⟩, s2, e2, ik⟩ => ?_)⟩
  rotate_left
  · subst es
    rcases hR with ⟨k, hk, _⟩ | ⟨_, q⟩
    · have h1 := ik k hk
      obtain ⟨d, h2, _⟩ := hk.bad
      have := (List.getElem?_eq_some_iff.mp h2).1
      omega
    · walk_at "rz"
      exact q _ s2
  subst es
  obtain ⟨t, _, pv, rfl, ht, rfl, h1, h2⟩ := y
  cases h1
  generalize eH : upd H2 t _ = H3
  have s3 := newS ht eH
  have e3 := newE eH
  clear eH
  have hpv : xs[i]? = some pv := h2
  obtain ⟨d, hdi, hdd⟩ := hA.getv hpv
  have hmem : d ∈ ls := List.mem_of_getElem? hdi
  have hix : i < ls.length := (List.getElem?_eq_some_iff.mp hdi).1
  have i100 : i ≤ 100 := by
    rcases hR with ⟨k, hk, _⟩ | ⟨hg, _⟩
    · have := ik k hk
      have := hk.le
      omega
    · have := hg.le
      omega
  -- the raise
  have fin : ∀ H4, Same H H4 → (∀ k, BadAt isLine most ls k → k ≤ i) → (GoodL isLine most ls → False) → tMkO (ga K "InvalidSetup") (spExSetup K) [] (tCons (tC (.str "lines")) (tCons (tVar 3) tNil)) [some (.ref a), some (.int (most : Nat)), some (.ref l), some (.int (i : Nat)), some pv] H4 (fun cls d H' => E cls d H') := fun H4 s4 hki hno => by
    rcases hR with ⟨k, hk, q⟩ | ⟨hg, _⟩
    · have e : k = i := Nat.le_antisymm (hki k hk) (ik k hk)
      subst e
      unfold tMkO
      refine s_cons ?_
      unfold tC
      refine s_cons (s_var (v := .int (k : Nat)) rfl (s_nil ⟨by simp, fun ax hax => ?_⟩))
      refine ⟨ax, "lines", k, rfl, upd_same, by omega, by decide, fun dx H' hdx hne e => ?_⟩
      subst e
      rw [upd_ne hne] at hdx
      refine ⟨rfl, dx, [("index", .int (k : Nat)), ("part", .str "lines")], upd_same, by rw [upd_ne hne, upd_same], hdx, ?_⟩
      exact q dx _ (s4.trans (same_xd hax hdx hne)) upd_same
    · exact (hno hg).elim
  refine s_gtup (SqT.of e3) rfl ?_
  walk_at "rz"
  by_cases him : i = most
  · refine ite_t (decide_eq_true (by rw [him])) ?_
    walk_at "rz"
    exact fin H3 (s2.trans s3) (fun k hk => by have := hk.le; omega) (fun hg => by have := hg.le; omega)
  refine ite_f (decide_eq_false (fun e => by injection e with e; omega)) ?_
  walk_at "rz"
  have hdi2 : ∀ k, i < k → d ∈ ls.take k := fun k hk => List.mem_of_getElem? (i := i) (by rw [List.getElem?_take_of_lt hk]; exact hdi)
  have s23 := s2.trans s3
  refine ⟨pv, d, rfl, hdd.same s23, shorts_at hz hmem, fun H4 s4 => ?_⟩
  have s04 := s23.trans s4
  have e4 : H4 l = some (.lst (((ls.map nameD).take i).map V.str)) := s4 _ _ (s3 _ _ e2)
  cases hok : isLine d with
  | false =>
    walk_at "rz"
    exact fin H4 s04 (fun k hk => by
      rcases Nat.lt_or_ge i k with h | h
      · have := hk.ok d (hdi2 k h)
        rw [hok] at this
        cases this
      · exact h) (fun hg => by
      have := hg.ok d hmem
      rw [hok] at this
      cases this)
  | true =>
    walk_at "rz"
    obtain ⟨nm, rest, hd5⟩ := isLine_name2 hok
    subst hd5
    obtain ⟨b, zs, rfl, hTb, hAb⟩ := (hdd.same s04).tupI
    cases hAb with | cons b1 hAb => ?_
    cases b1
    refine s_ixT hTb (at_of (j := 0) rfl rfl) ?_
    walk_at "rz"
    have hnm : (ls.map nameD)[i]? = some nm := by
      rw [List.getElem?_map, hdi]
      rfl
    have etk : ∀ k, (ls.take k).map nameD = (ls.map nameD).take k := fun k => List.map_take
    refine s_in (.inl (SqL.of e4)) rfl flat_strs ?_
    walk_at "rz"
    by_cases hin : nm ∈ (ls.map nameD).take i
    · refine ite_t (by rw [if_neg (by decide), inV_strs]; exact decide_eq_true hin) ?_
      walk_at "rz"
      have twice : ∀ k, i < k → ((ls.map nameD).take k).Nodup → False := fun k hk nd => by
        obtain ⟨j, hj⟩ := List.getElem?_of_mem hin
        have hji : j < i := by
          have := (List.getElem?_eq_some_iff.mp hj).1
          rw [List.length_take] at this
          omega
        rw [List.getElem?_take_of_lt hji] at hj
        have h1 : ((ls.map nameD).take k)[j]? = some nm := by rw [List.getElem?_take_of_lt (by omega)]; exact hj
        have h2 : ((ls.map nameD).take k)[i]? = some nm := by rw [List.getElem?_take_of_lt hk]; exact hnm
        have := (List.getElem?_inj (List.getElem?_eq_some_iff.mp h1).1 nd).mp (h1.trans h2.symm)
        omega
      exact fin H4 s04 (fun k hk => by
        rcases Nat.lt_or_ge i k with h | h
        · exact (twice k h (by rw [← etk]; exact hk.nd)).elim
        · exact h) (fun hg => twice ls.length hix (by rw [← List.length_map (as := ls) (f := nameD), List.take_length]; exact hg.nd))
    · refine ite_f (by rw [if_neg (by decide), inV_strs]; exact decide_eq_false hin) ?_
      walk_at "rz"
      refine s_tyL e4 ?_
      walk_at "rz"
      refine s_append e4 ?_ ?_
      · rw [List.length_map, List.length_take, List.length_map, sizeLine_eq]
        omega
      refine ⟨⟨_, _, rfl⟩, fun c o h => ?_, ?_, fun k hk => ?_⟩
      · rw [upd_ne (ne_of_none h hl)]
        exact s04 _ _ h
      · rw [upd_same, List.take_add_one, hnm, List.map_append]
        rfl
      · have h1 := ik k hk
        rcases Nat.lt_or_ge i k with h | h
        · exact h
        · have e : k = i := by omega
          subst e
          obtain ⟨d2, h2, h3⟩ := hk.bad
          rw [hdi] at h2
          cases h2
          rcases h3 with h3 | h3 | ⟨_, h3⟩
          · exact absurd h3 him
          · rw [hok] at h3; cases h3
          · rw [etk] at h3
            exact absurd h3 hin
theorem ok_check_works_x (T : Txt K mg) : FnOk P w K mg base (L2.CX P w) 4 (ga K "check_works") (fdOf K (ga K "check_works")) ["works", "most"] (spCheckX K isWork "works") := by
  refine FunD.ok T.F_check_works sc_check_works (fun vs H Q E h => ?_) (fun cdv A outer s H vs Q E hr h => ⟨_, (pss_cons (zset 2 sc_check_works.nd (pe_lst pa_nil))
      (pss_one (ps_for PassesOwn.leaving rfl (kIET K (pi_enumT (by rfl) T.u_enumerate (pa_cons (pv 0) pa_nil))) (kGT K (pg_tup (n := 2) rfl (pgs_cons (zg 3 sc_check_works.nd) (pgs_cons (zg 4 sc_check_works.nd) pgs_nil))))
      (pss_cons (ps_if (PW.pt (pw_or (pt_cmpR op_eq (pv 3) (pv 1) (nomark _)) (pw_or (pt_not (pt_val (z_call (ok_is_work T) T.c_is_work (hr.mono (by decide)) rfl T.g_is_work passL (pa_cons (pv 4) pa_nil)))) (pw_or1 (pt_cmpR (op_in_seqK K) (pe_ix (ix_tupK K) (pv 4) pe_int (fun _ _ => rfl)) (pv 2) (by rfl)))))) (pss_one (ps_raise rfl (takes_of rfl rfl rfl rfl) (z_mkX T.xo_InvalidSetup T.xi_InvalidSetup (ok_InvalidSetup_init T) T.c_InvalidSetup_init (hr.mono (by decide)) rfl T.g_InvalidSetup (pa_cons pe_str (pa_cons (pv 3) pa_nil))))) pss_nil)
      (pss_one (ps_expr (kBM K (pe_bm PySem.F.plainAttrs_list PySem.F.slot_list_append PySem.F.type_list_append mt_append (pv 2) (pa_cons (pe_ix (ix_tupK K) (pv 4) pe_int (fun _ _ => rfl)) pa_nil))))))))), ?_⟩)
  · obtain ⟨v, ls, most, rfl, _⟩ := h
    rfl
  obtain ⟨v, ls, most, rfl, hd, hz, hm, hR⟩ := h
  obtain ⟨a, xs, rfl, hT, hA⟩ := hd.tupI
  have lxs : xs.length = ls.length := hA.len
  show (_ : TS) _ [some (.ref a), some (.int (most : Nat)), none, none, none] H
  try dsimp only [cxOf]
  walk_at "rz"
  rename_i l hl H1 s1 e1
  refine ⟨_, rfl, a, xs, rfl, s1.sqT hT, for_it walk_enumT (fun i σ H' => (∃ v3 v4, σ = [some (.ref a), some (.int (most : Nat)), some (.ref l), v3, v4]) ∧ Same H H' ∧ H' l = some (.lst (((ls.map nameD).take i).map V.str)) ∧ (∀ k, BadAt isWork most ls k → i ≤ k)) ⟨⟨none, none, rfl⟩, s1, e1, fun k _ => Nat.zero_le k⟩ (fun i σ H' _ ⟨_, s2, _⟩ => s2.sqT hT) (fun i x σ H2 H3 hi ⟨⟨v3, v4, es⟩, s2, e2, ik⟩ y => ?_) (fun σ H' ⟨⟨v3, v4, es⟩, s2, e2, ik⟩ => ?_)⟩
  rotate_left
  · subst es
    rcases hR with ⟨k, hk, _⟩ | ⟨_, q⟩
    · have h1 := ik k hk
      obtain ⟨d, h2, _⟩ := hk.bad
      have := (List.getElem?_eq_some_iff.mp h2).1
      omega
    · walk_at "rz"
      exact q _ s2
  subst es
  obtain ⟨t, _, pv, rfl, ht, rfl, h1, h2⟩ := y
  cases h1
  generalize eH : upd H2 t _ = H3
  have s3 := newS ht eH
  have e3 := newE eH
  clear eH
  have hpv : xs[i]? = some pv := h2
  obtain ⟨d, hdi, hdd⟩ := hA.getv hpv
  have hmem : d ∈ ls := List.mem_of_getElem? hdi
  have hix : i < ls.length := (List.getElem?_eq_some_iff.mp hdi).1
  have i100 : i ≤ 100 := by
    rcases hR with ⟨k, hk, _⟩ | ⟨hg, _⟩
    · have := ik k hk
      have := hk.le
      omega
    · have := hg.le
      omega
  -- the raise
  have fin : ∀ H4, Same H H4 → (∀ k, BadAt isWork most ls k → k ≤ i) → (GoodL isWork most ls → False) → tMkO (ga K "InvalidSetup") (spExSetup K) [] (tCons (tC (.str "works")) (tCons (tVar 3) tNil)) [some (.ref a), some (.int (most : Nat)), some (.ref l), some (.int (i : Nat)), some pv] H4 (fun cls d H' => E cls d H') := fun H4 s4 hki hno => by
    rcases hR with ⟨k, hk, q⟩ | ⟨hg, _⟩
    · have e : k = i := Nat.le_antisymm (hki k hk) (ik k hk)
      subst e
      unfold tMkO
      refine s_cons ?_
      unfold tC
      refine s_cons (s_var (v := .int (k : Nat)) rfl (s_nil ⟨by simp, fun ax hax => ?_⟩))
      refine ⟨ax, "works", k, rfl, upd_same, by omega, by decide, fun dx H' hdx hne e => ?_⟩
      subst e
      rw [upd_ne hne] at hdx
      refine ⟨rfl, dx, [("index", .int (k : Nat)), ("part", .str "works")], upd_same, by rw [upd_ne hne, upd_same], hdx, ?_⟩
      exact q dx _ (s4.trans (same_xd hax hdx hne)) upd_same
    · exact (hno hg).elim
  refine s_gtup (SqT.of e3) rfl ?_
  walk_at "rz"
  by_cases him : i = most
  · refine ite_t (decide_eq_true (by rw [him])) ?_
    walk_at "rz"
    exact fin H3 (s2.trans s3) (fun k hk => by have := hk.le; omega) (fun hg => by have := hg.le; omega)
  refine ite_f (decide_eq_false (fun e => by injection e with e; omega)) ?_
  walk_at "rz"
  have hdi2 : ∀ k, i < k → d ∈ ls.take k := fun k hk => List.mem_of_getElem? (i := i) (by rw [List.getElem?_take_of_lt hk]; exact hdi)
  have s23 := s2.trans s3
  refine ⟨pv, d, rfl, hdd.same s23, shorts_at hz hmem, fun H4 s4 => ?_⟩
  have s04 := s23.trans s4
  have e4 : H4 l = some (.lst (((ls.map nameD).take i).map V.str)) := s4 _ _ (s3 _ _ e2)
  cases hok : isWork d with
  | false =>
    walk_at "rz"
    exact fin H4 s04 (fun k hk => by
      rcases Nat.lt_or_ge i k with h | h
      · have := hk.ok d (hdi2 k h)
        rw [hok] at this
        cases this
      · exact h) (fun hg => by
      have := hg.ok d hmem
      rw [hok] at this
      cases this)
  | true =>
    walk_at "rz"
    obtain ⟨nm, rest, hd5⟩ := isWork_name2 hok
    subst hd5
    obtain ⟨b, zs, rfl, hTb, hAb⟩ := (hdd.same s04).tupI
    cases hAb with | cons b1 hAb => ?_
    cases b1
    refine s_ixT hTb (at_of (j := 0) rfl rfl) ?_
    walk_at "rz"
    have hnm : (ls.map nameD)[i]? = some nm := by
      rw [List.getElem?_map, hdi]
      rfl
    have etk : ∀ k, (ls.take k).map nameD = (ls.map nameD).take k := fun k => List.map_take
    refine s_in (.inl (SqL.of e4)) rfl flat_strs ?_
    walk_at "rz"
    by_cases hin : nm ∈ (ls.map nameD).take i
    · refine ite_t (by rw [if_neg (by decide), inV_strs]; exact decide_eq_true hin) ?_
      walk_at "rz"
      have twice : ∀ k, i < k → ((ls.map nameD).take k).Nodup → False := fun k hk nd => by
        obtain ⟨j, hj⟩ := List.getElem?_of_mem hin
        have hji : j < i := by
          have := (List.getElem?_eq_some_iff.mp hj).1
          rw [List.length_take] at this
          omega
        rw [List.getElem?_take_of_lt hji] at hj
        have h1 : ((ls.map nameD).take k)[j]? = some nm := by rw [List.getElem?_take_of_lt (by omega)]; exact hj
        have h2 : ((ls.map nameD).take k)[i]? = some nm := by rw [List.getElem?_take_of_lt hk]; exact hnm
        have := (List.getElem?_inj (List.getElem?_eq_some_iff.mp h1).1 nd).mp (h1.trans h2.symm)
        omega
      exact fin H4 s04 (fun k hk => by
        rcases Nat.lt_or_ge i k with h | h
        · exact (twice k h (by rw [← etk]; exact hk.nd)).elim
        · exact h) (fun hg => twice ls.length hix (by rw [← List.length_map (as := ls) (f := nameD), List.take_length]; exact hg.nd))
    · refine ite_f (by rw [if_neg (by decide), inV_strs]; exact decide_eq_false hin) ?_
      walk_at "rz"
      refine s_tyL e4 ?_
      walk_at "rz"
      refine s_append e4 ?_ ?_
      · rw [List.length_map, List.length_take, List.length_map, sizeLine_eq]
        omega
      refine ⟨⟨_, _, rfl⟩, fun c o h => ?_, ?_, fun k hk => ?_⟩
      · rw [upd_ne (ne_of_none h hl)]
        exact s04 _ _ h
      · rw [upd_same, List.take_add_one, hnm, List.map_append]
        rfl
      · have h1 := ik k hk
        rcases Nat.lt_or_ge i k with h | h
        · exact h
        · have e : k = i := by omega
          subst e
          obtain ⟨d2, h2, h3⟩ := hk.bad
          rw [hdi] at h2
          cases h2
          rcases h3 with h3 | h3 | ⟨_, h3⟩
          · exact absurd h3 him
          · rw [hok] at h3; cases h3
          · rw [etk] at h3
            exact absurd h3 hin
abbrev Lx := Str × Str × PyData × List PyData
abbrev Wx := Str × PyData × PyData
def dLx (x : Lx) : PyData := .tuple [.str x.1, .str x.2.1, x.2.2.1, .tuple x.2.2.2]
def dWx (x : Wx) : PyData := .tuple [.str x.1, x.2.1, x.2.2]
def kindsX (L : List Lx) : List (Key × V) := L.map fun x => ((.inr x.1 : Key), V.str x.2.1)
def RefS (K : Fg) (d1 d2 : PyData) (H : Hp) (E : XK) : Prop := ∃ (p : Str) (k : Nat), (∀ dx H', Same H H' → H' dx = some (xdS p k) → E (.ref (ga K "InvalidSetup")) (some dx) H') ∧
  ((p = "lines" ∧ k = 0 ∧ (isiB "tuple" d1 = false ∨ d1 = .tuple [])) ∨
   ∃ ls, d1 = .tuple ls ∧ ls ≠ [] ∧ shorts ls = true ∧
    ((p = "lines" ∧ BadAt isLine 12 ls k) ∨
     (GoodL isLine 12 ls ∧
      ((p = "works" ∧ k = 0 ∧ isiB "tuple" d2 = false) ∨
       ∃ ws, d2 = .tuple ws ∧ shorts ws = true ∧
        ((p = "works" ∧ BadAt isWork 8 ws k) ∨
         (GoodL isWork 8 ws ∧ p = "handlers" ∧ ∃ L : List Lx, ls = L.map dLx ∧ ∃ W : List Wx, ws = W.map dWx ∧
           (∃ x, L[k]? = some x ∧ x.2.2.2.all (isStep (kindsX L) (W.map fun x => V.str x.1)) = false) ∧
           ∀ (j : Nat) x, j < k → L[j]? = some x → x.2.2.2.all (isStep (kindsX L) (W.map fun x => V.str x.1)) = true))))))
def spSetupX (K : Fg) : Sp := fun vs H _ E => ∃ x dx v1 v2 d1 d2, vs = [.ref x, v1, v2] ∧ H x = some (.ins (ga K "Setup") dx []) ∧ Dp K H v1 d1 ∧ Dp K H v2 d2 ∧ RefS K d1 d2 H E
theorem ok_Setup_init_x (T : Txt K mg) : FnOk P w K mg base (L2.CX P w) 5 (ma K (ga K "Setup") "__init__") (fdOf K (ma K (ga K "Setup") "__init__")) ["self", "lines", "works"] (spSetupX K) := by
  refine FunD.ok T.F_Setup_init sc_Setup_init (fun vs H Q E h => ?_) (fun cdv A outer s H vs Q E hr h => ⟨_, (pss_cons (ps_if (PW.pt (pw_or (pt_not (pt_val (pe_callB (call_isiDK K) (by rfl) T.u_isinstance (by decide +kernel) (pa_cons (pv 1) (pa_cons (z_ty (n := "tuple") T.u_tuple) pa_nil))))) (pw_or1 (pt_cmpR (op_eq0K K hr.units) (pv 1) (pe_tup pa_nil) (nomark _))))) (pss_one (ps_raise rfl (takes_of rfl rfl rfl rfl) (z_mkX T.xo_InvalidSetup T.xi_InvalidSetup (ok_InvalidSetup_init T) T.c_InvalidSetup_init (hr.mono (by decide)) rfl T.g_InvalidSetup (pa_cons pe_str (pa_cons pe_int pa_nil))))) pss_nil)
      (pss_cons (ps_expr (z_call (ok_check_lines_x T) T.c_check_lines (hr.mono (by decide)) rfl T.g_check_lines (passes_call (takes_of rfl rfl rfl rfl) (fun _ _ _ _ h => h)) (pa_cons (pv 1) (pa_cons (ClX.pe_cval (z_ref T.g_Setup)) pa_nil))))
      (pss_cons (ps_if (pt_not (pt_val (pe_callB (call_isiDK K) (by rfl) T.u_isinstance (by decide +kernel) (pa_cons (pv 2) (pa_cons (z_ty (n := "tuple") T.u_tuple) pa_nil))))) (pss_one (ps_raise rfl (takes_of rfl rfl rfl rfl) (z_mkX T.xo_InvalidSetup T.xi_InvalidSetup (ok_InvalidSetup_init T) T.c_InvalidSetup_init (hr.mono (by decide)) rfl T.g_InvalidSetup (pa_cons pe_str (pa_cons pe_int pa_nil))))) pss_nil)
      (pss_cons (ps_expr (z_call (ok_check_works_x T) T.c_check_works (hr.mono (by decide)) rfl T.g_check_works (passes_call (takes_of rfl rfl rfl rfl) (fun _ _ _ _ h => h)) (pa_cons (pv 2) (pa_cons (ClX.pe_cval (z_ref T.g_Setup)) pa_nil))))
      (pss_cons (zset 3 sc_Setup_init.nd (pe_dc (own := [("line", 6)]) rfl sc_Setup_init.nd (kIT K (pi_tup (pv 1))) (blkOk_by (own := [("line", 6)]) (N := n_Setup_init) (sc := defScope s_Setup_init) (by decide +kernel)) (fun _ _ _ _ _ => (zg 6 sc_Setup_init.nd)) (fun _ _ _ _ _ => pts_nil) (fun _ _ _ _ _ => (pe_ix (ix_tupK K) (pv 6) pe_int (fun _ _ => rfl))) (fun _ _ _ _ _ => (pe_ix (ix_tupK K) (pv 6) pe_int (fun _ _ => rfl)))))
      (pss_cons (zset 4 sc_Setup_init.nd (pe_lc (own := [("work", 7)]) rfl sc_Setup_init.nd (kIT K (pi_tup (pv 2))) (blkOk_by (own := [("work", 7)]) (N := n_Setup_init) (sc := defScope s_Setup_init) (by decide +kernel)) (fun _ _ _ _ _ => (zg 7 sc_Setup_init.nd)) (fun _ _ _ _ _ => pts_nil) (fun _ _ _ _ _ => (pe_ix (ix_tupK K) (pv 7) pe_int (fun _ _ => rfl)))))
      (pss_cons (ps_for PassesOwn.leaving rfl (kIET K (pi_enumT (by rfl) T.u_enumerate (pa_cons (pv 1) pa_nil))) (kGT K (pg_tup (n := 2) rfl (pgs_cons (zg 5 sc_Setup_init.nd) (pgs_cons (zg 6 sc_Setup_init.nd) pgs_nil))))
      (pss_one (ps_if (pt_not (pt_val (pe_callB (cr_allK K rfl) (by rfl) T.u_all (by decide +kernel) (pa_cons (pe_lc (own := [("step", 8)]) rfl sc_Setup_init.nd (kIT K (pi_tup (pe_ix (ix_tupK K) (pv 6) pe_int (fun _ _ => rfl)))) (blkOk_by (own := [("step", 8)]) (N := n_Setup_init) (sc := defScope s_Setup_init) (by decide +kernel)) (fun _ _ _ _ _ => (zg 8 sc_Setup_init.nd)) (fun _ _ _ _ _ => pts_nil) (fun _ _ _ _ _ => (z_call (ok_is_step T) T.c_is_step (hr.mono (by decide)) rfl T.g_is_step passL (pa_cons (pv 8) (pa_cons (pv 3) (pa_cons (pv 4) pa_nil)))))) pa_nil)))) (pss_one (ps_raise rfl (takes_of rfl rfl rfl rfl) (z_mkX T.xo_InvalidSetup T.xi_InvalidSetup (ok_InvalidSetup_init T) T.c_InvalidSetup_init (hr.mono (by decide)) rfl T.g_InvalidSetup (pa_cons pe_str (pa_cons (pv 5) pa_nil))))) pss_nil)))
      (pss_cons (ps_fld (pv 0) (pv 1) rfl)
      (pss_cons (ps_fld (pv 0) (pv 2) rfl)
      (pss_cons (ps_fld (pv 0) (pe_dc (own := [("line", 6)]) rfl sc_Setup_init.nd (kIT K (pi_tup (pv 1))) (blkOk_by (own := [("line", 6)]) (N := n_Setup_init) (sc := defScope s_Setup_init) (by decide +kernel)) (fun _ _ _ _ _ => (zg 6 sc_Setup_init.nd)) (fun _ _ _ _ _ => pts_nil) (fun _ _ _ _ _ => (pe_ix (ix_tupK K) (pv 6) pe_int (fun _ _ => rfl))) (fun _ _ _ _ _ => (pv 6))) rfl)
      (pss_one (ps_fld (pv 0) (pe_dc (own := [("work", 7)]) rfl sc_Setup_init.nd (kIT K (pi_tup (pv 2))) (blkOk_by (own := [("work", 7)]) (N := n_Setup_init) (sc := defScope s_Setup_init) (by decide +kernel)) (fun _ _ _ _ _ => (zg 7 sc_Setup_init.nd)) (fun _ _ _ _ _ => pts_nil) (fun _ _ _ _ _ => (pe_ix (ix_tupK K) (pv 7) pe_int (fun _ _ => rfl))) (fun _ _ _ _ _ => (pv 7))) rfl)))))))))))), ?_⟩)
  · obtain ⟨x, dx, v1, v2, d1, d2, rfl, _⟩ := h
    rfl
  obtain ⟨x, dx, v1, v2, d1, d2, rfl, hx, hd1, hd2, pp, kk, hE, hR⟩ := h
  show (_ : TS) _ [some (.ref x), some v1, some v2, none, none, none, none, none, none] H
  try dsimp only [cxOf]
  have fin : ∀ (pq : Str) (tk : TE) σ H4, Same H H4 → pp = pq → pq.length ≤ 100 → kk ≤ 1000 → (∀ Q : VK, Q (.int (kk : Nat)) H4 → tk σ H4 Q) → tMkO (ga K "InvalidSetup") (spExSetup K) [] (tCons (tC (.str pq)) (tCons tk tNil)) σ H4 (fun cls d H' => E cls d H') := fun pq tk σ H4 s4 hp hl hk ht => by
    subst hp
    unfold tMkO
    refine s_cons ?_
    unfold tC
    refine s_cons (ht _ (s_nil ⟨by simp, fun ax hax => ?_⟩))
    refine ⟨ax, pp, kk, rfl, upd_same, hk, hl, fun dx H' hdx hne e => ?_⟩
    subst e
    rw [upd_ne hne] at hdx
    refine ⟨rfl, dx, [("index", .int (kk : Nat)), ("part", .str pp)], upd_same, by rw [upd_ne hne, upd_same], hdx, ?_⟩
    exact hE dx _ (s4.trans (same_xd hax hdx hne)) upd_same
  walk_at "rz"
  rcases hR with ⟨hp, hk, h1 | h1⟩ | ⟨ls, hls, hne, hsh, hR⟩
  · refine ite_t (by rw [h1]; rfl) ?_
    walk_at "rz"
    exact fin "lines" (tC (.int 0)) _ H (Same.refl _) hp (by decide) (by omega) (fun Q h => by subst hk; exact h)
  · subst h1
    obtain ⟨a, xs, rfl, hT, hA⟩ := hd1.tupI
    refine ite_f rfl ?_
    walk_at "rz"
    rename_i q1 hq1 H1 s1 e1
    refine s_eq0T (s1.sqT hT) (SqT.of e1) ?_
    cases hA
    walk_at "rz"
    exact fin "lines" (tC (.int 0)) _ _ s1 hp (by decide) (by omega) (fun Q h => by subst hk; exact h)
  subst hls
  obtain ⟨a, xs, rfl, hT, hA⟩ := hd1.tupI
  have hxl : xs.length = ls.length := hA.len
  refine ite_f rfl ?_
  walk_at "rz"
  rename_i q1 hq1 H1 s1 e1
  refine s_eq0T (s1.sqT hT) (SqT.of e1) ?_
  have exs : xs.isEmpty = false := by
    cases xs with
    | nil => exact absurd (List.length_eq_zero_iff.mp hxl.symm) hne
    | cons _ _ => rfl
  rw [exs]
  walk_at "rz"
  refine s_cval T.k_Setup_MAX_LINES ?_
  walk_at "rz"
  refine ⟨_, ls, 12, rfl, hd1.same s1, hsh, by omega, ?_⟩
  rcases hR with ⟨hp, hb⟩ | ⟨hg, hR⟩
  · exact .inl ⟨kk, hb, fun dx H' s' hxx => hE dx H' (s1.trans s') (by rw [hp]; exact hxx)⟩
  refine .inr ⟨hg, fun H2 s2 => ?_⟩
  have s02 := s1.trans s2
  walk_at "rz"
  have hd2s := hd2.same s02
  walk_at "rz"
  rcases hR with ⟨hp, hk, h2⟩ | ⟨ws, hws, hsw, hR⟩
  · refine ite_t (by rw [h2]; rfl) ?_
    walk_at "rz"
    exact fin "works" (tC (.int 0)) _ H2 s02 hp (by decide) (by omega) (fun Q h => by subst hk; exact h)
  subst hws
  obtain ⟨b, ys, rfl, hTb, hAb⟩ := hd2.tupI
  have hyl : ys.length = ws.length := hAb.len
  refine ite_f rfl ?_
  walk_at "rz"
  refine s_cval T.k_Setup_MAX_WORKS ?_
  walk_at "rz"
  refine ⟨_, ws, 8, rfl, hd2.same s02, hsw, by omega, ?_⟩
  rcases hR with ⟨hp, hb⟩ | ⟨hgw, hp, L, rfl, W, rfl, ⟨x0, hx0, hbad⟩, hgood⟩
  · exact .inl ⟨kk, hb, fun dx H' s' hxx => hE dx H' (s02.trans s') (by rw [hp]; exact hxx)⟩
  refine .inr ⟨hgw, fun H3 s3 => ?_⟩
  have s13 := s02.trans s3
  walk_at "rz"
  have hkx : (L.map dLx).map nameD = L.map (·.1) := by rw [List.map_map]; rfl
  have hwx : (W.map dWx).map nameD = W.map (·.1) := by rw [List.map_map]; rfl
  have ndL : (L.map (·.1)).Nodup := by rw [← hkx]; exact hg.nd
  have hkn : (L.map fun x => (Sum.inr x.1 : Key)).Nodup := by
    rw [show (L.map fun x => (Sum.inr x.1 : Key)) = (L.map (·.1)).map Sum.inr by rw [List.map_map]; rfl]
    exact List.Pairwise.map Sum.inr (fun a b h e => h (Sum.inr.inj e)) ndL
  have lL : L.length ≤ 12 := by have := hg.le; rw [List.length_map] at this; exact this
  have lW : W.length ≤ 8 := by have := hgw.le; rw [List.length_map] at this; exact this
  have hkL : kk < L.length := (List.getElem?_eq_some_iff.mp hx0).1
  have lxs2 : xs.length = L.length := by rw [hxl, List.length_map]
  refine dcT_d (l := L) (da := dLx) (s13.sqT hT) (hA.same s13) (fun x => .inr x.1) (L.map fun x => .str x.2.1) (by rw [List.length_map]) hkn (by omega) (fun i l y v H4 Z N hl hi hy hv s4 hd z => ?_) (fun kd H4 hkd s4 e4 => ?_)
  · obtain ⟨t, zs, rfl, ht, ha⟩ := hd.tupI
    walk_at "rz"
    refine ⟨rfl, ?_⟩
    walk_at "rz"
    cases ha with | cons h1 ha => ?_
    cases ha with | cons h2 ha => ?_
    cases h1
    cases h2
    refine s_ixT ht (at_of (j := 0) rfl rfl) ?_
    walk_at "rz"
    rw [List.getElem?_map, hi] at hv
    cases hv
    exact z _ (Same.refl _)
  have hkz : (L.map fun x => (Sum.inr x.1 : Key)).zip (L.map fun x => V.str x.2.1) = kindsX L := by
    rw [List.zip_map']
    rfl
  rw [hkz] at e4
  walk_at "rz"
  have s14 := s13.trans s4
  refine lcT_d (l := W) (da := dWx) (s14.sqT hTb) (hAb.same s14) (fun _ => true) (fun w => .str w.1) (by omega) (fun _ _ => rfl) (fun l v H5 Yes No hl s5 hd yes no => ?_) (fun nl H5 ns hnl s5 e5 a5 => ?_)
  · obtain ⟨t, zs, rfl, ht, ha⟩ := hd.tupI
    walk_at "rz"
    refine ⟨rfl, ?_⟩
    walk_at "rz"
    cases ha with | cons h1 ha => ?_
    cases h1
    refine s_ixT ht (at_of (j := 0) rfl rfl) ?_
    exact yes rfl _ _ (Same.refl _) (.str _)
  rw [List.filter_eq_self.mpr (fun _ _ => rfl)] at a5
  have ew : W.map (fun w => PyData.str w.1) = (W.map (·.1)).map PyData.str := by rw [List.map_map]; rfl
  rw [ew] at a5
  have e5' := dp_strs a5
  subst e5'
  have s15 := s14.trans s5
  have hkv : strVals (kindsX L) := fun k v h => by
    unfold valV at h
    obtain ⟨kv, h1, h2⟩ := Option.map_eq_some_iff.mp h
    obtain ⟨l, hl, rfl⟩ := List.mem_map.mp (List.mem_of_find?_eq_some h1)
    exact ⟨l.2.1, h2.symm⟩
  have wsv : (W.map fun x => V.str x.1) = (W.map (·.1)).map V.str := by rw [List.map_map]; rfl
  rw [wsv] at hbad hgood
  walk_at "rz"
  refine ⟨_, rfl, a, xs, rfl, s15.sqT hT, for_it walk_enumT (fun i σ H' => (∃ v5 v6, σ = [some (.ref x), some (.ref a), some (.ref b), some (.ref kd), some (.ref nl), v5, v6, none, none]) ∧ Same H5 H' ∧ i ≤ kk) ⟨⟨none, none, rfl⟩, Same.refl _, Nat.zero_le _⟩ (fun i σ H' _ ⟨_, s6, _⟩ => s6.sqT (s15.sqT hT)) (fun i x' σ H6 H7 hi ⟨⟨v5, v6, es⟩, s6, hik⟩ y => ?_) (fun σ H6 ⟨_, _, hik⟩ => by omega)⟩
  subst es
  obtain ⟨t, _, y2, rfl, ht, rfl, h1, h2⟩ := y
  cases h1
  generalize eH : upd H6 t _ = H7
  have s7 := newS ht eH
  have e7 := newE eH
  clear eH
  refine s_gtup (SqT.of e7) rfl ?_
  walk_at "rz"
  have s57 := s6.trans s7
  have s17 := s15.trans s57
  have h2 : xs[i]? = some y2 := h2
  obtain ⟨d, hdi, hdd⟩ := hA.getv h2
  rw [List.getElem?_map] at hdi
  obtain ⟨l, hl, rfl⟩ := Option.map_eq_some_iff.mp hdi
  obtain ⟨c, zs, rfl, hTc, hAc⟩ := (hdd.same s17).tupI
  cases hAc with | cons h1 hAc => ?_
  cases hAc with | cons h2 hAc => ?_
  cases hAc with | cons h3 hAc => ?_
  cases hAc with | cons h4 hAc => ?_
  cases hAc
  refine s_ixT hTc (at_of (j := 3) rfl rfl) ?_
  obtain ⟨st, ss, rfl, hTs, hAs⟩ := h4.tupI
  have hst : l.2.2.2.length ≤ 8 := by
    have hk := hg.ok (dLx l) (List.mem_map_of_mem (List.mem_of_getElem? hl))
    simp only [isLine, dLx, isSteps, Bool.and_eq_true, decide_eq_true_eq] at hk
    omega
  refine lcT_d (l := l.2.2.2) (da := id) hTs (by rw [List.map_id]; exact hAs) (fun _ => true) (fun s => .bool (isStep (kindsX L) ((W.map (·.1)).map V.str) s)) (by omega) (fun _ _ => rfl) (fun s v H8 Yes No hs s8 hd yes no => ?_) (fun bl H8 bs hbl s8 e8 a8 => ?_)
  · walk_at "rz"
    refine ⟨rfl, ?_⟩
    walk_at "rz"
    refine ⟨_, _, _, _, _, _, rfl, hd, s8 _ _ (s57 _ _ (s5 _ _ e4)), hkv, SqL.of (s8 _ _ (s57 _ _ e5)), flat_strs, ?_⟩
    exact yes rfl _ _ (Same.refl _) (.bl _)
  have eb : l.2.2.2.map (fun s => PyData.bool (isStep (kindsX L) ((W.map (·.1)).map V.str) s)) = (l.2.2.2.map (isStep (kindsX L) ((W.map (·.1)).map V.str))).map PyData.bool := List.map_map.symm
  rw [List.filter_eq_self.mpr (fun _ _ => rfl), eb] at a8
  have e8' := dp_bools a8
  subst e8'
  walk_at "rz"
  refine s_all (SqL.of e8) ?_
  have ea : (l.2.2.2.map (isStep (kindsX L) ((W.map (·.1)).map V.str))).all id = l.2.2.2.all (isStep (kindsX L) ((W.map (·.1)).map V.str)) := List.all_map
  rw [ea]
  walk_at "rz"
  rcases Nat.lt_or_ge i kk with h | h
  · refine ite_f (by rw [hgood i l h hl]; rfl) ?_
    walk_at "rz"
    exact ⟨⟨_, _, rfl⟩, s57.trans s8, h⟩
  · have e : i = kk := by omega
    subst e
    rw [hl] at hx0
    cases hx0
    refine ite_t (by rw [hbad]; rfl) ?_
    walk_at "rz"
    exact fin "handlers" (tVar 5) _ H8 (s17.trans s8) hp (by decide) (by omega) (fun Q h => s_var (v := .int (i : Nat)) rfl h)
end
set_option maxHeartbeats 4000000
open PySem PySem.Spec PyProof.Rows L2 Z
open He (ga ma)
open LamX (TabS CodeO)
def RaiE (K : Fg) (cls : Value) (d : Option Addr) (H : Hp) (Q : VK) : Prop :=
  (cls = .ref (ga K "InvalidSetup") ∧ ∃ (dd : Addr) (v0 v1 : V), d = some dd ∧ H dd = some (.xd [("index", v1), ("part", v0)]) ∧ ∀ t H', Same H H' → H' t = some (.tup [.str "setup", v0, v1]) → Q (.ref t) H') ∨
  (cls = .ref (ga K "NotationError") ∧ ∃ (dd : Addr) (v0 v1 : V), d = some dd ∧ H dd = some (.xd [("word", v1), ("row", v0)]) ∧ ∀ t H', Same H H' → H' t = some (.tup [.str "notation", v0, v1]) → Q (.ref t) H')
def TTrai (K : Fg) (tl : XK → Hp → VK → Prop) (H : Hp) (Q : VK) : Prop := tl (fun cls d H' => RaiE K cls d H' Q) H fun _ H' => Q .non H'
theorem gives_w_raised {X : Cx} (T : Txt X.K X.mg) {q : Str} (cdv : Value) : GivesR X n_w_raised "_law_raised" (defScope s_w_raised) (ga X.K "_law_raised") cdv (defBody s_w_raised) "_law_work" q (TTrai X.K) := by
  intro f c' s H Q tl hr act hc h
  obtain ⟨prog, w, K, mg, base, A, N, s_0, H_0, env, outer, stack, ex, fn, calm, pn, xe⟩ := X
  dsimp only at *
  refine ⟨_, PSs.nox (pss_cons (ps_try_as (i := 1) rfl rfl sc_w_raised.nd rfl rfl ⟨rfl, by decide, .inl T.g_BellError⟩ LamX.takes0 (fun W pn xe tk _ => pss_one (z_actR fun E hW => act W pn xe E _ _ tk hW)) (fun a oe cls d pn hz hf => (pss_cons (zset 2 sc_w_raised.nd (pe_lst (pa_cons (pe_callB (cr_isX hz hf) (by rfl) T.u_isinstance (by decide +kernel) (pa_cons (pv 1) (pa_cons (z_ref T.g_InvalidSetup) pa_nil))) (pa_cons (pe_callB (cr_isX hz hf) (by rfl) T.u_isinstance (by decide +kernel) (pa_cons (pv 1) (pa_cons (z_ref T.g_UnknownLine) pa_nil))) (pa_cons (pe_callB (cr_isX hz hf) (by rfl) T.u_isinstance (by decide +kernel) (pa_cons (pv 1) (pa_cons (z_ref T.g_NotLevel) pa_nil))) pa_nil)))))
      (pss_cons (zset 2 sc_w_raised.nd (pe_op op_cat (pv 2) (pe_lst (pa_cons (pe_callB (cr_isX hz hf) (by rfl) T.u_isinstance (by decide +kernel) (pa_cons (pv 1) (pa_cons (z_ref T.g_InvalidNumber) pa_nil))) (pa_cons (pe_callB (cr_isX hz hf) (by rfl) T.u_isinstance (by decide +kernel) (pa_cons (pv 1) (pa_cons (z_ref T.g_InvalidFlag) pa_nil))) (pa_cons (pe_callB (cr_isX hz hf) (by rfl) T.u_isinstance (by decide +kernel) (pa_cons (pv 1) (pa_cons (z_ref T.g_InvalidBell) pa_nil))) pa_nil))))))
      (pss_cons (zset 2 sc_w_raised.nd (pe_op op_cat (pv 2) (pe_lst (pa_cons (pe_callB (cr_isX hz hf) (by rfl) T.u_isinstance (by decide +kernel) (pa_cons (pv 1) (pa_cons (z_ref T.g_TooMany) pa_nil))) (pa_cons (pe_callB (cr_isX hz hf) (by rfl) T.u_isinstance (by decide +kernel) (pa_cons (pv 1) (pa_cons (z_ref T.g_NotPlain) pa_nil))) (pa_cons (pe_callB (cr_isX hz hf) (by rfl) T.u_isinstance (by decide +kernel) (pa_cons (pv 1) (pa_cons (z_ref T.g_TooDense) pa_nil))) pa_nil))))))
      (pss_cons (zset 2 sc_w_raised.nd (pe_op op_cat (pv 2) (pe_lst (pa_cons (pe_callB (cr_isX hz hf) (by rfl) T.u_isinstance (by decide +kernel) (pa_cons (pv 1) (pa_cons (z_ref T.g_InvalidLog) pa_nil))) (pa_cons (pe_callB (cr_isX hz hf) (by rfl) T.u_isinstance (by decide +kernel) (pa_cons (pv 1) (pa_cons (z_ref T.g_NotationError) pa_nil))) pa_nil)))))
      (pss_cons (ps_if (PW.pt (pw_or (pt_cmpR op_ne (kBM K (pe_bm PySem.F.plainAttrs_list PySem.F.slot_list_count PySem.F.type_list_count (mt_countDK K hr.units5) (pv 2) (pa_cons pe_bl pa_nil))) pe_int (nomark _)) (pw_or1 (pt_not (pt_val (pe_callB (cr_isX hz hf) (by rfl) T.u_isinstance (by decide +kernel) (pa_cons (pv 1) (pa_cons (z_ty (n := "ValueError") T.u_ValueError) pa_nil)))))))) (pss_one (ps_ret (pe_tup (pa_cons pe_str pa_nil)))) pss_nil)
      (pss_cons (zset 3 sc_w_raised.nd (kBM K (pe_bm PySem.F.plainAttrs_list PySem.F.slot_list_index PySem.F.type_list_index (mt_indexK K) (pv 2) (pa_cons pe_bl pa_nil))))
      (pss_cons (ps_if (pt_cmpR op_eq (pv 3) pe_int (nomark _)) (pss_one (ps_ret (pe_tup (pa_cons pe_str (pa_cons (pe_xf T.xc_InvalidSetup.xf T.xn_InvalidSetup_part hz hf (pv 1)) (pa_cons (pe_xf T.xc_InvalidSetup.xf T.xn_InvalidSetup_index hz hf (pv 1)) pa_nil)))))) pss_nil)
      (pss_cons (ps_if (pt_cmpR op_eq (pv 3) pe_int (nomark _)) (pss_one (ps_ret (pe_tup (pa_cons pe_str (pa_cons (pe_xf T.xc_NotationError.xf T.xn_NotationError_row hz hf (pv 1)) (pa_cons (pe_xf T.xc_NotationError.xf T.xn_NotationError_word hz hf (pv 1)) pa_nil)))))) pss_nil)
      (pss_cons (ps_if (pt_cmpR (op_in_seqK K) (pv 3) (pe_tup (pa_cons pe_int (pa_cons pe_int (pa_cons pe_int pa_nil)))) (by rfl)) (pss_one (ps_ret (pe_tup (pa_cons (pe_ix (ix_listK K) (pe_lst (pa_cons pe_str (pa_cons pe_str (pa_cons pe_str pa_nil)))) (kBM K (pe_bm PySem.F.plainAttrs_list PySem.F.slot_list_index PySem.F.type_list_index (mt_indexK K) (pe_lst (pa_cons pe_int (pa_cons pe_int (pa_cons pe_int pa_nil)))) (pa_cons (pv 3) pa_nil))) (fun _ _ => rfl)) (pa_cons (pe_xf T.xc_UnknownLine.xf T.xn_UnknownLine_line hz hf (pv 1)) pa_nil))))) pss_nil)
      (pss_cons (ps_if (pt_cmpR (op_in_seqK K) (pv 3) (pe_tup (pa_cons pe_int (pa_cons pe_int pa_nil))) (by rfl)) (pss_one (ps_ret (pe_tup (pa_cons (pe_ix (ix_listK K) (pe_lst (pa_cons pe_str (pa_cons pe_str pa_nil))) (kBM K (pe_bm PySem.F.plainAttrs_list PySem.F.slot_list_index PySem.F.type_list_index (mt_indexK K) (pe_lst (pa_cons pe_int (pa_cons pe_int pa_nil))) (pa_cons (pv 3) pa_nil))) (fun _ _ => rfl)) (pa_cons (pe_xf T.xc_InvalidBell.xf T.xn_InvalidBell_index hz hf (pv 1)) pa_nil))))) pss_nil)
      (pss_one (ps_ret (pe_tup (pa_cons (pe_ix (ix_listK K) (pe_lst (pa_cons pe_str (pa_cons pe_str (pa_cons pe_str (pa_cons pe_str pa_nil))))) (kBM K (pe_bm PySem.F.plainAttrs_list PySem.F.slot_list_index PySem.F.type_list_index (mt_indexK K) (pe_lst (pa_cons pe_int (pa_cons pe_int (pa_cons pe_int (pa_cons pe_int pa_nil))))) (pa_cons (pv 3) pa_nil))) (fun _ _ => rfl)) pa_nil))))))))))))))))
      (pss_one (ps_ret pe_non))), ?_⟩
  show (_ : TS) _ [some (.ref f), none, none, none] H
  try dsimp only [cxOf]
  walk_at "rz"
  refine ⟨fun cls d H' => RaiE K cls d H' Q, fun cls d σ' H' hlen h => ?_, rfl, hc, h⟩
  obtain ⟨x0, x1, x2, x3, rfl⟩ : ∃ x0 x1 x2 x3, σ' = [x0, x1, x2, x3] := by
    match σ', hlen with
    | [x0, x1, x2, x3], _ => exact ⟨x0, x1, x2, x3, rfl⟩
  rcases h with ⟨rfl, dd, v0, v1, rfl, hx, k⟩ | ⟨rfl, dd, v0, v1, rfl, hx, k⟩
  · refine ⟨true, T.xm_InvalidSetup, fun _ a ha => ?_, fun e => nomatch e⟩
    walk_at "rz"
    refine ⟨ga K "InvalidSetup", _, _, _, rfl, rfl, T.xc_InvalidSetup, fun u r => r, T.xk_InvalidSetup_InvalidSetup, (by intro dd2 e2; cases e2; exact ⟨_, hx⟩), ?_⟩
    walk_at "rz"
    refine ⟨ga K "InvalidSetup", _, _, _, rfl, rfl, T.xc_InvalidSetup, fun u r => r, T.xk_InvalidSetup_UnknownLine, (by intro dd2 e2; cases e2; exact ⟨_, hx⟩), ?_⟩
    walk_at "rz"
    refine ⟨ga K "InvalidSetup", _, _, _, rfl, rfl, T.xc_InvalidSetup, fun u r => r, T.xk_InvalidSetup_NotLevel, (by intro dd2 e2; cases e2; exact ⟨_, hx⟩), ?_⟩
    walk_at "rz"
    rename_i l0 hl0 H0 s0 e0
    have hx0 := s0 _ _ hx
    refine ⟨ga K "InvalidSetup", _, _, _, rfl, rfl, T.xc_InvalidSetup, fun u r => r, T.xk_InvalidSetup_InvalidNumber, (by intro dd2 e2; cases e2; exact ⟨_, hx0⟩), ?_⟩
    walk_at "rz"
    refine ⟨ga K "InvalidSetup", _, _, _, rfl, rfl, T.xc_InvalidSetup, fun u r => r, T.xk_InvalidSetup_InvalidFlag, (by intro dd2 e2; cases e2; exact ⟨_, hx0⟩), ?_⟩
    walk_at "rz"
    refine ⟨ga K "InvalidSetup", _, _, _, rfl, rfl, T.xc_InvalidSetup, fun u r => r, T.xk_InvalidSetup_InvalidBell, (by intro dd2 e2; cases e2; exact ⟨_, hx0⟩), ?_⟩
    walk_at "rz"
    rename_i l1 hl1 H1 s1 e1
    have hx1 := s1 _ _ hx0
    refine ⟨l0, l1, _, _, rfl, rfl, s1 _ _ e0, e1, by rw [sizeLine_eq]; decide, fun l2 hl2 => ?_⟩
    generalize eH : upd H1 l2 _ = H2
    have s2 := newS hl2 eH
    have e2 := newE eH
    clear eH
    have hx2 := s2 _ _ hx1
    walk_at "rz"
    refine ⟨ga K "InvalidSetup", _, _, _, rfl, rfl, T.xc_InvalidSetup, fun u r => r, T.xk_InvalidSetup_TooMany, (by intro dd2 e2; cases e2; exact ⟨_, hx2⟩), ?_⟩
    walk_at "rz"
    refine ⟨ga K "InvalidSetup", _, _, _, rfl, rfl, T.xc_InvalidSetup, fun u r => r, T.xk_InvalidSetup_NotPlain, (by intro dd2 e2; cases e2; exact ⟨_, hx2⟩), ?_⟩
    walk_at "rz"
    refine ⟨ga K "InvalidSetup", _, _, _, rfl, rfl, T.xc_InvalidSetup, fun u r => r, T.xk_InvalidSetup_TooDense, (by intro dd2 e2; cases e2; exact ⟨_, hx2⟩), ?_⟩
    walk_at "rz"
    rename_i l3 hl3 H3 s3 e3
    have hx3 := s3 _ _ hx2
    refine ⟨l2, l3, _, _, rfl, rfl, s3 _ _ e2, e3, by rw [sizeLine_eq]; decide, fun l4 hl4 => ?_⟩
    generalize eH : upd H3 l4 _ = H4
    have s4 := newS hl4 eH
    have e4 := newE eH
    clear eH
    have hx4 := s4 _ _ hx3
    walk_at "rz"
    refine ⟨ga K "InvalidSetup", _, _, _, rfl, rfl, T.xc_InvalidSetup, fun u r => r, T.xk_InvalidSetup_InvalidLog, (by intro dd2 e2; cases e2; exact ⟨_, hx4⟩), ?_⟩
    walk_at "rz"
    refine ⟨ga K "InvalidSetup", _, _, _, rfl, rfl, T.xc_InvalidSetup, fun u r => r, T.xk_InvalidSetup_NotationError, (by intro dd2 e2; cases e2; exact ⟨_, hx4⟩), ?_⟩
    walk_at "rz"
    rename_i l5 hl5 H5 s5 e5
    have hx5 := s5 _ _ hx4
    refine ⟨l4, l5, _, _, rfl, rfl, s5 _ _ e4, e5, by rw [sizeLine_eq]; decide, fun l6 hl6 => ?_⟩
    generalize eH : upd H5 l6 _ = H6
    have s6 := newS hl6 eH
    have e6 := newE eH
    clear eH
    have hx6 := s6 _ _ hx5
    walk_at "rz"
    have dl : Dp K H6 (.ref l6) (.list [.bool true, .bool false, .bool false, .bool false, .bool false, .bool false, .bool false, .bool false, .bool false, .bool false, .bool false]) := .lst (SqL.of e6) (.cons (.bl _) (.cons (.bl _) (.cons (.bl _) (.cons (.bl _) (.cons (.bl _) (.cons (.bl _) (.cons (.bl _) (.cons (.bl _) (.cons (.bl _) (.cons (.bl _) (.cons (.bl _) (.nil))))))))))))
    refine s_tyL e6 ?_
    walk_at "rz"
    refine ⟨l6, .bl true, .bool true, _, rfl, rfl, dl, .bl _, rfl, rfl, ?_⟩
    walk_at "rz"
    refine ⟨ga K "InvalidSetup", _, _, _, rfl, rfl, T.xc_InvalidSetup, fun u r => r, T.xv_InvalidSetup, (by intro dd2 e2; cases e2; exact ⟨_, hx6⟩), ?_⟩
    walk_at "rz"
    refine s_tyL e6 ?_
    walk_at "rz"
    refine ⟨l6, _, .bl true, 0, .bl true, rfl, rfl, SqL.of e6, rfl, rfl, rfl, rfl, fun m z hm e => ?_, ?_⟩
    · exact absurd hm (Nat.not_lt_zero _)
    walk_at "rz"
    refine ⟨.ref a, rfl, rfl, rfl, dd, _, v0, rfl, hx6, rfl, ?_⟩
    walk_at "rz"
    refine ⟨.ref a, rfl, rfl, rfl, dd, _, v1, rfl, hx6, rfl, ?_⟩
    walk_at "rz"
    rename_i t ht Ht st et
    exact k t Ht (((((((s0.trans s1).trans s2).trans s3).trans s4).trans s5).trans s6).trans st) et
  · refine ⟨true, T.xm_NotationError, fun _ a ha => ?_, fun e => nomatch e⟩
    walk_at "rz"
    refine ⟨ga K "NotationError", _, _, _, rfl, rfl, T.xc_NotationError, fun u r => r, T.xk_NotationError_InvalidSetup, (by intro dd2 e2; cases e2; exact ⟨_, hx⟩), ?_⟩
    walk_at "rz"
    refine ⟨ga K "NotationError", _, _, _, rfl, rfl, T.xc_NotationError, fun u r => r, T.xk_NotationError_UnknownLine, (by intro dd2 e2; cases e2; exact ⟨_, hx⟩), ?_⟩
    walk_at "rz"
    refine ⟨ga K "NotationError", _, _, _, rfl, rfl, T.xc_NotationError, fun u r => r, T.xk_NotationError_NotLevel, (by intro dd2 e2; cases e2; exact ⟨_, hx⟩), ?_⟩
    walk_at "rz"
    rename_i l0 hl0 H0 s0 e0
    have hx0 := s0 _ _ hx
    refine ⟨ga K "NotationError", _, _, _, rfl, rfl, T.xc_NotationError, fun u r => r, T.xk_NotationError_InvalidNumber, (by intro dd2 e2; cases e2; exact ⟨_, hx0⟩), ?_⟩
    walk_at "rz"
    refine ⟨ga K "NotationError", _, _, _, rfl, rfl, T.xc_NotationError, fun u r => r, T.xk_NotationError_InvalidFlag, (by intro dd2 e2; cases e2; exact ⟨_, hx0⟩), ?_⟩
    walk_at "rz"
    refine ⟨ga K "NotationError", _, _, _, rfl, rfl, T.xc_NotationError, fun u r => r, T.xk_NotationError_InvalidBell, (by intro dd2 e2; cases e2; exact ⟨_, hx0⟩), ?_⟩
    walk_at "rz"
    rename_i l1 hl1 H1 s1 e1
    have hx1 := s1 _ _ hx0
    refine ⟨l0, l1, _, _, rfl, rfl, s1 _ _ e0, e1, by rw [sizeLine_eq]; decide, fun l2 hl2 => ?_⟩
    generalize eH : upd H1 l2 _ = H2
    have s2 := newS hl2 eH
    have e2 := newE eH
    clear eH
    have hx2 := s2 _ _ hx1
    walk_at "rz"
    refine ⟨ga K "NotationError", _, _, _, rfl, rfl, T.xc_NotationError, fun u r => r, T.xk_NotationError_TooMany, (by intro dd2 e2; cases e2; exact ⟨_, hx2⟩), ?_⟩
    walk_at "rz"
    refine ⟨ga K "NotationError", _, _, _, rfl, rfl, T.xc_NotationError, fun u r => r, T.xk_NotationError_NotPlain, (by intro dd2 e2; cases e2; exact ⟨_, hx2⟩), ?_⟩
    walk_at "rz"
    refine ⟨ga K "NotationError", _, _, _, rfl, rfl, T.xc_NotationError, fun u r => r, T.xk_NotationError_TooDense, (by intro dd2 e2; cases e2; exact ⟨_, hx2⟩), ?_⟩
    walk_at "rz"
    rename_i l3 hl3 H3 s3 e3
    have hx3 := s3 _ _ hx2
    refine ⟨l2, l3, _, _, rfl, rfl, s3 _ _ e2, e3, by rw [sizeLine_eq]; decide, fun l4 hl4 => ?_⟩
    generalize eH : upd H3 l4 _ = H4
    have s4 := newS hl4 eH
    have e4 := newE eH
    clear eH
    have hx4 := s4 _ _ hx3
    walk_at "rz"
    refine ⟨ga K "NotationError", _, _, _, rfl, rfl, T.xc_NotationError, fun u r => r, T.xk_NotationError_InvalidLog, (by intro dd2 e2; cases e2; exact ⟨_, hx4⟩), ?_⟩
    walk_at "rz"
    refine ⟨ga K "NotationError", _, _, _, rfl, rfl, T.xc_NotationError, fun u r => r, T.xk_NotationError_NotationError, (by intro dd2 e2; cases e2; exact ⟨_, hx4⟩), ?_⟩
    walk_at "rz"
    rename_i l5 hl5 H5 s5 e5
    have hx5 := s5 _ _ hx4
    refine ⟨l4, l5, _, _, rfl, rfl, s5 _ _ e4, e5, by rw [sizeLine_eq]; decide, fun l6 hl6 => ?_⟩
    generalize eH : upd H5 l6 _ = H6
    have s6 := newS hl6 eH
    have e6 := newE eH
    clear eH
    have hx6 := s6 _ _ hx5
    walk_at "rz"
    have dl : Dp K H6 (.ref l6) (.list [.bool false, .bool false, .bool false, .bool false, .bool false, .bool false, .bool false, .bool false, .bool false, .bool false, .bool true]) := .lst (SqL.of e6) (.cons (.bl _) (.cons (.bl _) (.cons (.bl _) (.cons (.bl _) (.cons (.bl _) (.cons (.bl _) (.cons (.bl _) (.cons (.bl _) (.cons (.bl _) (.cons (.bl _) (.cons (.bl _) (.nil))))))))))))
    refine s_tyL e6 ?_
    walk_at "rz"
    refine ⟨l6, .bl true, .bool true, _, rfl, rfl, dl, .bl _, rfl, rfl, ?_⟩
    walk_at "rz"
    refine ⟨ga K "NotationError", _, _, _, rfl, rfl, T.xc_NotationError, fun u r => r, T.xv_NotationError, (by intro dd2 e2; cases e2; exact ⟨_, hx6⟩), ?_⟩
    walk_at "rz"
    refine s_tyL e6 ?_
    walk_at "rz"
    refine ⟨l6, _, .bl true, 10, .bl true, rfl, rfl, SqL.of e6, rfl, rfl, rfl, rfl, fun m z hm e => ?_, ?_⟩
    · match m, hm with
      | 0, _ => cases e; rfl
      | 1, _ => cases e; rfl
      | 2, _ => cases e; rfl
      | 3, _ => cases e; rfl
      | 4, _ => cases e; rfl
      | 5, _ => cases e; rfl
      | 6, _ => cases e; rfl
      | 7, _ => cases e; rfl
      | 8, _ => cases e; rfl
      | 9, _ => cases e; rfl
    walk_at "rz"
    refine ⟨.ref a, rfl, rfl, rfl, dd, _, v0, rfl, hx6, rfl, ?_⟩
    walk_at "rz"
    refine ⟨.ref a, rfl, rfl, rfl, dd, _, v1, rfl, hx6, rfl, ?_⟩
    walk_at "rz"
    rename_i t ht Ht st et
    exact k t Ht (((((((s0.trans s1).trans s2).trans s3).trans s4).trans s5).trans s6).trans st) et
end T
set_option maxHeartbeats 1000000
namespace T
open PySem PySem.Spec PyProof.Rows L2 Z
open He (ga ma)
local macro_rules | `(tactic| walk_at "z") => `(tactic| with_reducible first | refine ⟨_, _, rfl, rfl, ?_⟩ | refine ⟨_, rfl, ?_⟩)
local macro_rules | `(tactic| walk_at "z") => `(tactic| ((with_reducible refine s_isi (d := ?d1) ?h1 ?h2 ?q1); (case h1 => first | assumption | constructor); (case h2 => decide)))
local macro_rules | `(tactic| walk_at "z") => `(tactic| with_reducible first | refine s_tup ?_ | refine s_lst ?_)
local macro_rules | `(tactic| walk_at "z") => `(tactic| ((with_reducible refine s_ne ?h1 ?q1); (case h1 => exact rfl)))
local macro_rules | `(tactic| walk_at "z") => `(tactic| ((with_reducible refine s_eq ?h1 ?q1); (case h1 => exact rfl)))
local macro_rules | `(tactic| walk_at "z") => `(tactic| with_reducible first | refine s_dcT ?_ | refine s_cvalg ?_ | refine s_fldS ?_ | refine s_I0 ?_ | refine s_U ?_)
local macro_rules | `(tactic| walk_at "z") => `(tactic| with_reducible first | refine s_make ?_ | refine s_sl ?_ | refine s_nop ?_ | refine s_part ?_ | refine s_lcE ?_ | refine s_lc ?_)
local macro_rules | `(tactic| walk_at "z") => `(tactic| with_reducible first | refine s_for ?_ | refine s_rng1 ?_ | refine s_iT ?_ | refine s_iL ?_ | refine Or.inl (Exists.intro _ (And.intro rfl ?_)) | refine Or.inr (Exists.intro _ (And.intro rfl ?_)))
local macro_rules | `(tactic| walk_at "z") => `(tactic| with_reducible first | refine s_fldaug ?_ | refine s_add ?_ | refine s_ipI ?_ | refine s_ixO ?_ | refine s_lcL ?_ | refine s_dputg ?_)
local macro_rules | `(tactic| walk_at "z") => `(tactic| with_reducible first | refine s_daugg ?_ | refine s_disp ?_ | refine s_pcons ?_ | refine s_pnil ?_ | refine s_gsub ?_ | refine s_augS ?_)
local macro_rules | `(tactic| walk_at "z") => `(tactic| with_reducible first | refine s_bm ?_ | refine s_bm0 ?_ | refine s_fldg ?_ | refine s_meth ?_ | refine s_prop ?_ | refine s_lcT ?_)
local macro_rules | `(tactic| walk_at "z") => `(tactic| with_reducible first | refine s_yes ?_ | refine s_gcons ?_ | refine s_gnil ?_ | refine s_din ?_ | refine s_dnin ?_ | refine s_dget ?_)
local macro_rules | `(tactic| walk_at "z") => `(tactic| with_reducible first | refine s_orV ?_ | refine s_notV ?_ | refine s_if ?_ | refine s_chain ?_ | refine s_call ?_ | refine s_bl ?_)
local macro_rules | `(tactic| walk_at "z") => `(tactic| with_reducible first | refine s_test ?_ | refine s_B ?_ | refine s_and ?_ | refine s_or ?_ | refine s_not ?_ | refine s_andV ?_)
local macro_rules | `(tactic| walk_at "z") => `(tactic| with_reducible first | refine s_op ?_ | refine s_un ?_ | refine s_cb ?_ | refine s_cons ?_ | refine s_nil ?_ | refine s_star ?_)
local macro_rules | `(tactic| walk_at "z") => `(tactic| ((with_reducible refine s_var (v := ?v1) ?h1 ?q1); (case h1 => exact rfl)))
local macro_rules | `(tactic| walk_at "z") => `(tactic| with_reducible refine s_c ?_)
local macro_rules | `(tactic| walk_at "z") => `(tactic| with_reducible first | refine s_drop ?_ | refine s_next ?_ | refine s_cont ?_ | refine s_break ?_ | refine s_par ?_ | refine s_par2 ?_)
local macro_rules | `(tactic| walk_at "z") => `(tactic| with_reducible first | refine s_seq ?_ | refine s_asg ?_ | refine s_gname ?_ | refine s_ret ?_ | refine s_retN ?_ | refine s_ifS ?_)
local macro_rules | `(tactic| walk_at "zi") => `(tactic| ((with_reducible refine ite_t ?h1 ?q1); (case h1 => rfl)))
local macro_rules | `(tactic| walk_at "zi") => `(tactic| ((with_reducible refine ite_f ?h1 ?q1); (case h1 => rfl)))
local macro_rules | `(tactic| walk_at "zi") => `(tactic| walk_at "z")
local macro_rules | `(tactic| walk_at "zn") => `(tactic| (intro p hp; generalize eH : upd _ p _ = H2; have s2 := newS hp eH; have e2 := newE eH; clear eH))
local macro_rules | `(tactic| walk_at "zt") => `(tactic| ((with_reducible refine And.intro ?h1 ?_); (case h1 => exact Nat.le_of_ble_eq_true rfl); intro p hp; generalize eH : upd _ p _ = H2; have s2 := newS hp eH; have e2 := newE eH; clear eH))
local macro_rules | `(tactic| walk_at "hl") => `(tactic| ((with_reducible apply ev_same); (· assumption); · walk_at "hl"))
local macro_rules | `(tactic| walk_at "hl") => `(tactic| ((with_reducible apply mst_same); (· assumption); · walk_at "hl"))
local macro_rules | `(tactic| walk_at "hl") => `(tactic| ((with_reducible apply plm_same); (· assumption); · walk_at "hl"))
local macro_rules | `(tactic| walk_at "hl") => `(tactic| ((with_reducible apply md_same); (· assumption); · walk_at "hl"))
local macro_rules | `(tactic| walk_at "hl") => `(tactic| ((with_reducible apply row_same); (· assumption); · walk_at "hl"))
local macro_rules | `(tactic| walk_at "hl") => `(tactic| ((with_reducible apply sg_same); (· assumption); · walk_at "hl"))
local macro_rules | `(tactic| walk_at "hl") => `(tactic| ((with_reducible apply cst_same); (· assumption); · walk_at "hl"))
local macro_rules | `(tactic| walk_at "hl") => `(tactic| ((with_reducible apply co_same); (· assumption); · walk_at "hl"))
local macro_rules | `(tactic| walk_at "hl") => `(tactic| ((with_reducible apply bd_same); (· assumption); · walk_at "hl"))
local macro_rules | `(tactic| walk_at "hl") => `(tactic| ((with_reducible apply pl_same); (· assumption); · walk_at "hl"))
local macro_rules | `(tactic| walk_at "hl") => `(tactic| ((with_reducible apply dpA_same); (· assumption); · walk_at "hl"))
local macro_rules | `(tactic| walk_at "hl") => `(tactic| ((with_reducible apply dp_same); (· assumption); · walk_at "hl"))
local macro_rules | `(tactic| walk_at "hl") => `(tactic| ((with_reducible apply SqL.of); · walk_at "hl"))
local macro_rules | `(tactic| walk_at "hl") => `(tactic| ((with_reducible apply SqT.of); · walk_at "hl"))
local macro_rules | `(tactic| walk_at "hl") => `(tactic| ((with_reducible apply sqL_same); (· assumption); · walk_at "hl"))
local macro_rules | `(tactic| walk_at "hl") => `(tactic| ((with_reducible apply sqT_same); (· assumption); · walk_at "hl"))
local macro_rules | `(tactic| walk_at "hl") => `(tactic| ((with_reducible apply at_same); (· assumption); · walk_at "hl"))
local macro_rules | `(tactic| walk_at "hl") => `(tactic| assumption)
local macro_rules | `(tactic| walk_at "lk") => `(tactic| with_reducible first | exact bdF_jo | exact sgF_plan | exact sgF_board | exact sgF_core | exact sgF_time | exact sgF_sums | exact coF_plan | exact coF_fr | exact coF_lim | exact coF_jo)
local macro_rules | `(tactic| walk_at "lk") => `(tactic| with_reducible first | exact plF_lr | exact plF_wr | exact plF_rn | exact plF_wn | exact bdF_plan | exact bdF_sh | exact bdF_wa | exact bdF_hi | exact bdF_ta | exact bdF_ra)
local macro_rules | `(tactic| walk_at "mk") => `(tactic| with_reducible first | exact mk_jn | exact mk_ln | exact mk_wk)
local macro_rules | `(tactic| walk_at "mk") => `(tactic| with_reducible first | exact mk_ca | exact mk_ed | exact mk_hi | exact mk_up | exact mk_sh | exact mk_bar | exact mk_jo | exact mk_now | exact mk_lg | exact mk_sp)
local macro_rules | `(tactic| walk_at "cl") => `(tactic| with_reducible first | exact Txt.cl_InvalidSetup (by assumption) | exact Txt.cl_NotationError (by assumption) | exact Txt.cl_Setup (by assumption) | exact Txt.cl_RowReader (by assumption))
local macro_rules | `(tactic| walk_at "na") => `(tactic| with_reducible exact Txt.n_RowReader_spot (by assumption))
local macro_rules | `(tactic| walk_at "na") => `(tactic| with_reducible first | exact Txt.n_InvalidSetup_part (by assumption) | exact Txt.n_InvalidSetup_index (by assumption) | exact Txt.n_NotationError_row (by assumption) | exact Txt.n_NotationError_word (by assumption) | exact Txt.n_Setup_line_rows (by assumption) | exact Txt.n_Setup_work_rows (by assumption) | exact Txt.n_Setup_rows_by_name (by assumption) | exact Txt.n_Setup_works_by_name (by assumption) | exact Txt.n_RowReader_parts (by assumption) | exact Txt.n_RowReader_number (by assumption))
local macro_rules | `(tactic| walk_at "zz") => `(tactic| walk_at "zt")
local macro_rules | `(tactic| walk_at "zz") => `(tactic| ((with_reducible apply s_dgS); (· walk_at "hl"); (· walk_at "mk")))
local macro_rules | `(tactic| walk_at "zz") => `(tactic| ((with_reducible apply s_ixL); (· walk_at "hl"); (· with_reducible first | exact at0 | exact at1 | exact at2 | exact at3 | exact at4)))
local macro_rules | `(tactic| walk_at "zz") => `(tactic| ((with_reducible apply s_ixT); (· walk_at "hl"); (· with_reducible first | exact at0 | exact at1 | exact at2 | exact at3 | exact at4)))
local macro_rules | `(tactic| walk_at "zz") => `(tactic| ((with_reducible apply s_propat); (· walk_at "hl")))
local macro_rules | `(tactic| walk_at "zz") => `(tactic| ((with_reducible apply s_methat); (· walk_at "hl"); (· kernel_rfl)))
local macro_rules | `(tactic| walk_at "zz") => `(tactic| ((with_reducible apply s_fldat); (· walk_at "hl"); (· walk_at "cl"); (· walk_at "na"); (· walk_at "lk")))
local macro_rules | `(tactic| walk_at "zz") => `(tactic| walk_at "zi")
local macro_rules | `(tactic| walk_at "orz") => `(tactic| walk_at "zt")
local macro_rules | `(tactic| walk_at "orz") => `(tactic| ((with_reducible apply s_dgS); (· walk_at "hl"); (· walk_at "mk")))
local macro_rules | `(tactic| walk_at "orz") => `(tactic| ((with_reducible apply s_ixL); (· walk_at "hl"); (· with_reducible first | exact at0 | exact at1 | exact at2 | exact at3 | exact at4)))
local macro_rules | `(tactic| walk_at "orz") => `(tactic| ((with_reducible apply s_ixT); (· walk_at "hl"); (· with_reducible first | exact at0 | exact at1 | exact at2 | exact at3 | exact at4)))
local macro_rules | `(tactic| walk_at "orz") => `(tactic| ((with_reducible apply s_propat); (· walk_at "hl")))
local macro_rules | `(tactic| walk_at "orz") => `(tactic| ((with_reducible apply s_methat); (· walk_at "hl"); (· kernel_rfl)))
local macro_rules | `(tactic| walk_at "orz") => `(tactic| ((with_reducible apply s_fldat); (· walk_at "hl"); (· walk_at "cl"); (· walk_at "na"); (· walk_at "lk")))
local macro_rules | `(tactic| walk_at "orz") => `(tactic| ((with_reducible apply ite_t); (· rfl)))
local macro_rules | `(tactic| walk_at "orz") => `(tactic| ((with_reducible apply ite_f); (· rfl)))
local macro_rules | `(tactic| walk_at "orz") => `(tactic| with_reducible first | refine ⟨_, _, rfl, rfl, ?_⟩ | refine ⟨_, rfl, ?_⟩)
local macro_rules | `(tactic| walk_at "orz") => `(tactic| ((with_reducible apply s_isi); (· assumption); (· decide)))
local macro_rules | `(tactic| walk_at "orz") => `(tactic| with_reducible first | refine s_tup ?_ | refine s_lst ?_)
local macro_rules | `(tactic| walk_at "orz") => `(tactic| ((with_reducible apply s_ne); (· exact rfl)))
local macro_rules | `(tactic| walk_at "orz") => `(tactic| ((with_reducible apply s_eq); (· exact rfl)))
local macro_rules | `(tactic| walk_at "orz") => `(tactic| with_reducible first | refine s_lcE ?_ | refine s_lc ?_ | refine s_dcT ?_ | refine s_cvalg ?_ | refine s_I0 ?_ | refine s_U ?_)
local macro_rules | `(tactic| walk_at "orz") => `(tactic| with_reducible first | refine Or.inl (Exists.intro _ (And.intro rfl ?_)) | refine Or.inr (Exists.intro _ (And.intro rfl ?_)) | refine s_make ?_ | refine s_sl ?_ | refine s_nop ?_ | refine s_part ?_)
local macro_rules | `(tactic| walk_at "orz") => `(tactic| with_reducible first | refine s_lcL ?_ | refine s_dputg ?_ | refine s_for ?_ | refine s_rng1 ?_ | refine s_iT ?_ | refine s_iL ?_)
local macro_rules | `(tactic| walk_at "orz") => `(tactic| with_reducible first | refine s_daugg ?_ | refine s_disp ?_ | refine s_gsub ?_ | refine s_fldaug ?_ | refine s_ipI ?_ | refine s_ixO ?_)
local macro_rules | `(tactic| walk_at "orz") => `(tactic| with_reducible first | refine s_chain ?_ | refine s_yes ?_ | refine s_din ?_ | refine s_dnin ?_ | refine s_bm0 ?_ | refine s_lcT ?_)
local macro_rules | `(tactic| walk_at "orz") => `(tactic| with_reducible first | refine s_un ?_ | refine s_star ?_ | refine s_and ?_ | refine s_or ?_ | refine s_orV ?_ | refine s_notV ?_)
local macro_rules | `(tactic| walk_at "orz") => `(tactic| with_reducible first | refine s_augS ?_ | refine s_retN ?_ | refine s_cont ?_ | refine s_break ?_ | refine s_par ?_ | refine s_par2 ?_)
local macro_rules | `(tactic| walk_at "orz") => `(tactic| with_reducible first | refine s_andV ?_ | refine s_add ?_ | refine s_prop ?_ | refine s_pnil ?_ | refine s_cb ?_ | refine s_not ?_)
local macro_rules | `(tactic| walk_at "orz") => `(tactic| with_reducible first | refine s_call ?_ | refine s_pcons ?_ | refine s_bm ?_ | refine s_if ?_ | refine s_gcons ?_ | refine s_gnil ?_)
local macro_rules | `(tactic| walk_at "orz") => `(tactic| with_reducible first | refine s_next ?_ | refine s_gname ?_ | refine s_drop ?_ | refine s_meth ?_ | refine s_fldS ?_ | refine s_asg ?_)
local macro_rules | `(tactic| walk_at "orz") => `(tactic| with_reducible first | refine s_fldg ?_ | refine s_ifS ?_ | refine s_dget ?_ | refine s_ret ?_ | refine s_B ?_ | refine s_test ?_)
local macro_rules | `(tactic| walk_at "orz") => `(tactic| with_reducible first | refine s_cons ?_ | refine s_c ?_ | refine s_nil ?_ | refine s_seq ?_ | refine s_op ?_ | refine s_bl ?_)
local macro_rules | `(tactic| walk_at "orz") => `(tactic| ((with_reducible apply s_var); (· exact rfl)))
local macro_rules | `(tactic| walk_at "rz") => `(tactic| repeat walk_at "orz")
local macro_rules | `(tactic| walk_at "zm") => `(tactic| (intro x dx hx hdx hne; generalize eH : upd (upd _ dx _) x _ = H2; have s2 := mkS hx hdx eH; have e2 := mkE eH; clear eH hdx hne))
local macro_rules | `(tactic| walk_at "zb") => `(tactic| with_reducible first | refine s_gcons ?_ | refine s_gnil ?_ | refine s_gname ?_ | refine s_seq ?_ | refine s_ifS ?_ | refine s_if ?_ | refine s_next ?_ | refine s_drop ?_ | refine s_ret ?_ | refine s_asg ?_)
def spTaken (K : Fg) : Sp := fun vs H Q _ => ∃ r sc ns many, vs = [.ref r, .int many] ∧ RowAt K H r sc ns ∧ 0 < many ∧ many < 1000000 ∧ ∀ n H', 0 ≤ n → n < many → Fr [r] H H' → RowAt K H' r sc ns → Q (.int n) H'
section
variable {P : Program} {w : World} {K : Fg} {mg : Str → Option Value} {base : Heap}
theorem ok_w_taken (T : Txt K mg) : FnOk P w K mg base (L2.CX P w) 1 (ga K "_law_taken") (fdOf K (ga K "_law_taken")) ["_law_row", "_law_many"] (spTaken K) := by
  refine FunD.ok T.F_w_taken sc_w_taken (fun vs H Q E h => ?_) (fun cdv A outer s H vs Q E hr h => ⟨_, PSs.nox (pss_cons (ps_if (pt_cmpR op_gt (pe_ix (ix_listK K) (pv 0) pe_int (fun _ _ => rfl)) pe_int (nomark _)) (pss_cons (zset 2 sc_w_taken.nd (pe_op op_mod (pe_callTy call_int1 (by rfl) T.u_int (by decide +kernel) (pa_cons (pe_ix (ix_listK K) (pv 0) pe_int (fun _ _ => rfl)) pa_nil)) (pv 1)))
      (pss_cons (ps_asg (pe_op op_fdiv (pe_ix (ix_listK K) (pv 0) pe_int (fun _ _ => rfl)) (pv 1)) (pg_sub (pv 0) pe_int set_list))
      (pss_one (ps_ret (pv 2))))) pss_nil)
      (pss_cons (ps_asg (pe_op op_add (pe_ix (ix_listK K) (pv 0) pe_int (fun _ _ => rfl)) pe_int) (pg_sub (pv 0) pe_int set_list))
      (pss_cons (ps_if (pt_cmpR op_gt (pe_ix (ix_listK K) (pv 0) pe_int (fun _ _ => rfl)) (pe_callB (call_lenK K) (by rfl) T.u_len (by decide +kernel) (pa_cons (pe_ix (ix_listK K) (pv 0) pe_int (fun _ _ => rfl)) pa_nil)) (nomark _)) (pss_cons (ps_asg (pe_op op_mod (pe_callTy call_int1 (by rfl) T.u_int (by decide +kernel) (pa_cons (pe_op op_add (pe_op op_mul (pe_ix (ix_listK K) (pv 0) pe_int (fun _ _ => rfl)) pe_int) pe_int) pa_nil)) pe_int) (pg_sub (pv 0) pe_int set_list))
      (pss_one (ps_ret (pe_op op_mod (pe_callTy call_int1 (by rfl) T.u_int (by decide +kernel) (pa_cons (pe_op op_fdiv (pe_ix (ix_listK K) (pv 0) pe_int (fun _ _ => rfl)) pe_int) pa_nil)) (pv 1))))) pss_nil)
      (pss_cons (zset 3 sc_w_taken.nd (pe_ix (ix_listK K) (pe_ix (ix_listK K) (pv 0) pe_int (fun _ _ => rfl)) (pe_op op_sub (pe_ix (ix_listK K) (pv 0) pe_int (fun _ _ => rfl)) pe_int) (fun _ _ => rfl)))
      (pss_cons (ps_asg (pe_op op_mod (pe_callTy call_int1 (by rfl) T.u_int (by decide +kernel) (pa_cons (pe_op op_add (pe_op op_add (pe_op op_mul (pe_ix (ix_listK K) (pv 0) pe_int (fun _ _ => rfl)) pe_int) (pv 3)) pe_int) pa_nil)) pe_int) (pg_sub (pv 0) pe_int set_list))
      (pss_cons (ps_if (pt_cmpR op_ge (pv 3) (pe_op op_pow pe_int pe_int) (nomark _)) (pss_one (ps_asg (pe_op op_fdiv (pv 3) (pv 1)) (pg_sub (pv 0) pe_int set_list))) pss_nil)
      (pss_one (ps_ret (pe_op op_mod (pe_callTy call_int1 (by rfl) T.u_int (by decide +kernel) (pa_cons (pv 3) pa_nil)) (pv 1)))))))))), ?_⟩)
  · obtain ⟨r, sc, ns, many, rfl, _⟩ := h
    rfl
  obtain ⟨r, sc, ns, many, rfl, hrow, hm0, hm1, q⟩ := h
  show (_ : TS) _ [some (.ref r), some (.int many), none, none] H
  try dsimp only [cxOf]
  obtain ⟨i, seed, rest, er, hi, hs0, hs1⟩ := hrow.row
  have hL : SqL K H r [.ref sc, .int i, .int seed, .int rest] := SqL.of er
  have hsc := hrow.scr
  have hne := hrow.ne
  walk_at "rz"
  refine ite_b (fun h => ?_) (fun h => ?_)
  · walk_at "rz"
    refine s_I hm0 ?_
    walk_at "rz"
    refine s_I ⟨hm0, by omega⟩ ?_
    walk_at "rz"
    refine s_setL er (j := 3) rfl ?_
    walk_at "rz"
    refine q _ _ (Int.emod_nonneg _ (by omega)) (Int.emod_lt_of_pos _ hm0) (Fr.upd (by simp) er rfl) ⟨⟨i, seed, rest / many, upd_same, hi, hs0, hs1⟩, (Fr.upd (A := [r]) (by simp) er rfl).scr hsc hne, hne⟩
  · have f1 : ∀ o, Fr [r] H (upd H r o) := fun o => Fr.upd (by simp) er rfl
    walk_at "rz"
    refine s_setL er (j := 1) rfl ?_
    show (_ : L2.St → Hp → Prop) _ (upd H r (.lst [.ref sc, .int (i + 1), .int seed, .int rest]))
    have f1 : Fr [r] H (upd H r (.lst [.ref sc, .int (i + 1), .int seed, .int rest])) := Fr.upd (by simp) er rfl
    have er1 : upd H r (.lst [.ref sc, .int (i + 1), .int seed, .int rest]) r = some (.lst [.ref sc, .int (i + 1), .int seed, .int rest]) := upd_same
    generalize upd H r (.lst [.ref sc, .int (i + 1), .int seed, .int rest]) = H1 at *
    have hL1 : SqL K H1 r [.ref sc, .int (i + 1), .int seed, .int rest] := SqL.of er1
    have hsc1 := f1.scr hsc hne
    walk_at "rz"
    refine s_lenL hsc1 ?_
    rw [List.length_map]
    walk_at "rz"
    refine ite_b (fun h => ?_) (fun h => ?_)
    · walk_at "rz"
      refine s_I (.inl ⟨by omega, by omega⟩) ?_
      walk_at "rz"
      refine s_I (by decide) ?_
      walk_at "rz"
      refine s_setL er1 (j := 2) rfl ?_
      show (_ : L2.St → Hp → Prop) _ (upd H1 r (.lst [.ref sc, .int (i + 1), .int ((seed * 48271 + 11) % 2147483647), .int rest]))
      have f2 : Fr [r] H1 (upd H1 r (.lst [.ref sc, .int (i + 1), .int ((seed * 48271 + 11) % 2147483647), .int rest])) := Fr.upd (by simp) er1 rfl
      have er2 : upd H1 r (.lst [.ref sc, .int (i + 1), .int ((seed * 48271 + 11) % 2147483647), .int rest]) r = some (.lst [.ref sc, .int (i + 1), .int ((seed * 48271 + 11) % 2147483647), .int rest]) := upd_same
      generalize upd H1 r (.lst [.ref sc, .int (i + 1), .int ((seed * 48271 + 11) % 2147483647), .int rest]) = H2 at *
      have hL2 : SqL K H2 r [.ref sc, .int (i + 1), .int ((seed * 48271 + 11) % 2147483647), .int rest] := SqL.of er2
      walk_at "rz"
      refine s_I ⟨by decide, by decide⟩ ?_
      walk_at "rz"
      refine s_I hm0 ?_
      exact q _ _ (Int.emod_nonneg _ (by omega)) (Int.emod_lt_of_pos _ hm0) (f1.trans f2) ⟨⟨_, _, _, er2, by omega, Int.emod_nonneg _ (by omega), Int.emod_lt_of_pos _ (by omega)⟩, f2.scr hsc1 hne, hne⟩
    · have hlt : i.toNat < ns.length := by
        have := of_decide_eq_false h
        omega
      obtain ⟨cell, hcell⟩ : ∃ c, ns[i.toNat]? = some c := ⟨_, List.getElem?_eq_getElem hlt⟩
      walk_at "rz"
      refine s_ixL hsc1 (v := .int cell) (at_of (j := i.toNat) (by omega) (by rw [List.getElem?_map, hcell]; rfl)) ?_
      walk_at "rz"
      refine s_I (.inl ⟨by omega, by omega⟩) ?_
      walk_at "rz"
      refine s_I (by decide) ?_
      walk_at "rz"
      refine s_setL er1 (j := 2) rfl ?_
      show (_ : L2.St → Hp → Prop) _ (upd H1 r (.lst [.ref sc, .int (i + 1), .int ((seed * 48271 + cell + 11) % 2147483647), .int rest]))
      have f2 : Fr [r] H1 (upd H1 r (.lst [.ref sc, .int (i + 1), .int ((seed * 48271 + cell + 11) % 2147483647), .int rest])) := Fr.upd (by simp) er1 rfl
      have er2 : upd H1 r (.lst [.ref sc, .int (i + 1), .int ((seed * 48271 + cell + 11) % 2147483647), .int rest]) r = some (.lst [.ref sc, .int (i + 1), .int ((seed * 48271 + cell + 11) % 2147483647), .int rest]) := upd_same
      generalize upd H1 r (.lst [.ref sc, .int (i + 1), .int ((seed * 48271 + cell + 11) % 2147483647), .int rest]) = H2 at *
      have f12 := f1.trans f2
      have hsc2 := f2.scr hsc1 hne
      have fin : ∀ (H3 : Hp) (x y z : Int), Fr [r] H H3 → SqL K H3 sc (ns.map V.int) → H3 r = some (.lst [.ref sc, .int x, .int y, .int z]) → 0 ≤ x → 0 ≤ y → y < 2147483647 → Q (.int (cell % many)) H3 := fun H3 x y z f hs he h1 h2 h3 =>
        q _ _ (Int.emod_nonneg _ (by omega)) (Int.emod_lt_of_pos _ hm0) f ⟨⟨_, _, _, he, h1, h2, h3⟩, hs, hne⟩
      walk_at "rz"
      refine s_I ⟨by decide, by decide, by decide⟩ ?_
      walk_at "rz"
      refine ite_b (fun h => ?_) (fun h => ?_)
      · walk_at "rz"
        refine s_I ⟨hm0, by omega⟩ ?_
        walk_at "rz"
        refine s_setL er2 (j := 3) rfl ?_
        walk_at "rz"
        refine s_I hm0 ?_
        have f3 : ∀ o, Fr [r] H2 (upd H2 r o) := fun o => Fr.upd (by simp) er2 rfl
        exact fin _ (i + 1) ((seed * 48271 + cell + 11) % 2147483647) (cell / many) (f12.trans (f3 _)) ((f3 _).scr hsc2 hne) upd_same (by omega) (Int.emod_nonneg _ (by omega)) (Int.emod_lt_of_pos _ (by omega))
      · walk_at "rz"
        refine s_I hm0 ?_
        exact fin H2 _ _ _ f12 hsc2 er2 (by omega) (Int.emod_nonneg _ (by omega)) (Int.emod_lt_of_pos _ (by omega))
end
set_option maxHeartbeats 4000000
open PySem PySem.Spec PyProof.Rows L2 Z
open He (ga ma)
def spMixed (K : Fg) : Sp := fun vs H Q _ => ∃ r sc ns a, ∃ xs : List V, vs = [.ref r, .ref a] ∧ RowAt K H r sc ns ∧ (SqL K H a xs ∨ SqT K H a xs) ∧ xs.length ≤ 100 ∧ ∀ H' p ys, Fr [r] H H' → RowAt K H' r sc ns → H p = none → H' p = some (.lst ys) → ys.Perm xs → Q (.ref p) H'
section
variable {P : Program} {w : World} {K : Fg} {mg : Str → Option Value} {base : Heap}
theorem ok_w_mixed (T : Txt K mg) : FnOk P w K mg base (L2.CX P w) 4 (ga K "_law_mixed") (fdOf K (ga K "_law_mixed")) ["_law_row", "_law_things"] (spMixed K) := by
  refine FunD.ok T.F_w_mixed sc_w_mixed (fun vs H Q E h => ?_) (fun cdv A outer s H vs Q E hr h => ⟨_, PSs.nox (pss_cons (ps_par (by rfl) sc_w_mixed.nd (i := 2) (j := 3) rfl rfl (by decide) rfl rfl (pa_cons (pe_callTy call_list_of (by rfl) T.u_list (by decide +kernel) (pa_cons (pv 1) pa_nil)) (pa_cons (pe_lst pa_nil) pa_nil)) (by rfl))
      (pss_cons (ps_while PassesOwn.never (pt_cmpR (op_ne0K K hr.units) (pv 2) (pe_lst pa_nil) (nomark _))
      (pss_one (ps_expr (kBM K (pe_bm PySem.F.plainAttrs_list PySem.F.slot_list_append PySem.F.type_list_append mt_append (pv 3) (pa_cons (kBM K (pe_bm PySem.F.plainAttrs_list PySem.F.slot_list_pop PySem.F.type_list_pop mt_popAt (pv 2) (pa_cons (z_call (ok_w_taken T) T.c_w_taken (hr.mono (by decide)) rfl T.g_w_taken passL (pa_cons (pv 0) (pa_cons (pe_callB (call_lenK K) (by rfl) T.u_len (by decide +kernel) (pa_cons (pv 2) pa_nil)) pa_nil))) pa_nil))) pa_nil))))))
      (pss_one (ps_ret (pv 3))))), ?_⟩)
  · obtain ⟨r, sc, ns, a, xs, rfl, _⟩ := h
    rfl
  obtain ⟨r, sc, ns, a, xs, rfl, hrow, ha, l100, q⟩ := h
  show (_ : TS) _ [some (.ref r), some (.ref a), none, none] H
  try dsimp only [cxOf]
  walk_at "rz"
  refine ⟨a, xs, rfl, ha, fun l hl => ?_⟩
  generalize eH : upd H l _ = H1
  have s1 := newS hl eH
  have e1 := newE eH
  clear eH
  walk_at "rz"
  rename_i f hf H2 s2 e2
  have row2 := (hrow.same s1).same s2
  have hlr : l ≠ r := fun e => hrow.ex (by rw [← e]; exact hl)
  have hfr : f ≠ r := fun e => hrow.ex (by rw [← e]; exact s1.fr.back (A := []) hf)
  have hfl : f ≠ l := fun e => by rw [e, e1] at hf; cases hf
  have hf0 : H f = none := s1.fr.back (A := []) hf
  refine while_e (fun σ H3 => ∃ ys, σ = [some (.ref r), some (.ref a), some (.ref l), some (.ref f)] ∧ Fr [r] H H3 ∧ RowAt K H3 r sc ns ∧ H3 f = some (.lst ys) ∧ ys.Perm xs) ?rest (fun hx => ?loop)
  case rest =>
    rintro σ H3 ⟨ys, rfl, f3, row3, e3, p3⟩
    walk_at "rz"
    exact q _ _ _ f3 row3 hf0 e3 p3
  refine ⟨fun m σ H3 => ∃ zs ys, σ = [some (.ref r), some (.ref a), some (.ref l), some (.ref f)] ∧ Fr [r] H H3 ∧ RowAt K H3 r sc ns ∧ H3 l = some (.lst zs) ∧ H3 f = some (.lst ys) ∧ (ys ++ zs).Perm xs ∧ m = zs.length,
    ⟨_, xs, [], rfl, s1.fr.trans s2.fr, row2, s2 _ _ e1, e2, .refl _, rfl⟩, ?_⟩
  rintro m σ H3 ⟨zs, ys, rfl, f3, row3, el, ef, pm, rfl⟩
  have plen := pm.length_eq
  rw [List.length_append] at plen
  walk_at "rz"
  rename_i p4 hp4 H4 s4 e4
  refine s_eq0L (SqL.of (s4 _ _ el)) (SqL.of e4) ?_
  have row4 := row3.same s4
  have f4 : Fr [r] H H4 := f3.trans s4.fr
  have el4 := s4 _ _ el
  have ef4 := s4 _ _ ef
  clear e4
  cases zs with
  | nil =>
    refine ⟨false, rfl, ?_⟩
    rw [if_neg (by simp)]
    rw [List.append_nil] at pm
    exact hx _ _ ⟨ys, rfl, f4, row4, ef4, pm⟩
  | cons z zs =>
    refine ⟨true, rfl, ?_⟩
    rw [if_pos rfl]
    refine ⟨_, fun σ' H' n => n, ?_⟩
    walk_at "rz"
    refine s_tyL ef4 ?_
    walk_at "rz"
    refine s_tyL el4 ?_
    walk_at "rz"
    refine s_lenL (SqL.of el4) ?_
    walk_at "rz"
    refine ⟨r, sc, ns, _, rfl, row4, by simp only [List.length_cons]; omega, by simp only [List.length_cons] at plen ⊢; omega, fun n H5 n0 n1 f5 row5 => ?_⟩
    have el5 := f5.at el4 (by simp [hlr])
    have ef5 := f5.at ef4 (by simp [hfr])
    obtain ⟨k, rfl⟩ := Int.eq_ofNat_of_zero_le n0
    have hk : k < (z :: zs).length := by omega
    obtain ⟨j, h1, h2, h3⟩ := atI_get (atI_nat (xs := z :: zs) (List.getElem?_eq_getElem hk))
    walk_at "rz"
    refine ⟨l, z :: zs, k, j, _, rfl, rfl, el5, by omega, by simp only [List.length_cons] at plen hk; omega, h1, h2, ?_⟩
    generalize (z :: zs)[k] = y at h2
    generalize eH : upd H5 l _ = H6
    have f6 : Fr [l] H5 H6 := by rw [← eH]; exact Fr.upd (by simp) el5 rfl
    have el6 := newE eH
    clear eH
    have ef6 := f6.at ef5 (by simp [hfl])
    walk_at "rz"
    refine s_append ef6 (by rw [sizeLine_eq]; omega) ?_
    generalize eH : upd H6 f _ = H7
    have f7 : Fr [f] H6 H7 := by rw [← eH]; exact Fr.upd (by simp) ef6 rfl
    have ef7 := newE eH
    clear eH
    have el7 := f7.at el6 (by simp [Ne.symm hfl])
    walk_at "rz"
    refine ⟨_, ?_, (z :: zs).eraseIdx j, ys ++ [y], rfl, ((f4.trans f5).seq f6 (by simp [hl])).seq f7 (by simp [hf0]), hrow.kept (hrow.kept row5 f6 (by simp [hl])) f7 (by simp [hf0]), el7, ef7, ?_, rfl⟩
    · rw [List.length_eraseIdx_of_lt h3.1]
      omega
    · refine List.Perm.trans ?_ pm
      rw [List.append_assoc]
      refine List.Perm.append_left ys ?_
      exact perm_erase h2
end
set_option maxHeartbeats 4000000
open PySem PySem.Spec PyProof.Rows L2 Z
open He (ga ma)
def spMStep (K : Fg) : Sp := fun vs H Q _ => ∃ r sc ns nl ll wl, ∃ names levels works : List Str, ∃ nk : NK, vs = [.ref r, .ref nl, .ref ll, .ref wl] ∧ RowAt K H r sc ns ∧ H nl = some (.lst (names.map V.str)) ∧ H ll = some (.lst (levels.map V.str)) ∧ H wl = some (.lst (works.map V.str)) ∧ nl ≠ r ∧ ll ≠ r ∧ wl ≠ r ∧ names ≠ [] ∧ names.length ≤ 12 ∧ levels.length ≤ 12 ∧ works.length ≤ 12 ∧ (∀ z ∈ names, z ∈ nk.map (·.1)) ∧ (∀ z ∈ levels, (z, ("level" : Str)) ∈ nk) ∧ ∀ t s H', Fr [r] H H' → RowAt K H' r sc ns → FitSt nk works s → Dp K H' (.ref t) (dSt s) → Q (.ref t) H'
section
variable {P : Program} {w : World} {K : Fg} {mg : Str → Option Value} {base : Heap}
theorem ok_w_step (T : Txt K mg) : FnOk P w K mg base (L2.CX P w) 4 (ga K "_law_step") (fdOf K (ga K "_law_step")) ["_law_row", "_law_names", "_law_levels", "_law_works"] (spMStep K) := by
  refine FunD.ok T.F_w_step sc_w_step (fun vs H Q E h => ?_) (fun cdv A outer s H vs Q E hr h => ⟨_, PSs.nox (pss_cons (zset 4 sc_w_step.nd (pe_lst (pa_cons pe_str (pa_cons pe_str (pa_cons pe_str (pa_cons pe_str (pa_cons pe_str (pa_cons pe_str (pa_cons pe_str (pa_cons pe_str (pa_cons pe_str (pa_cons pe_str (pa_cons pe_str (pa_cons pe_str pa_nil))))))))))))))
      (pss_cons (zset 4 sc_w_step.nd (pe_ix (ix_listK K) (pv 4) (z_call (ok_w_taken T) T.c_w_taken (hr.mono (by decide)) rfl T.g_w_taken passL (pa_cons (pv 0) (pa_cons pe_int pa_nil))) (fun _ _ => rfl)))
      (pss_cons (ps_if (PW.pt (pw_and (pt_cmpR op_eq (pv 4) pe_str (nomark _)) (pw_and1 (pt_cmpR (op_ne0K K hr.units) (pv 3) (pe_lst pa_nil) (nomark _))))) (pss_one (ps_ret (pe_tup (pa_cons (pv 4) (pa_cons (pe_ix (ix_listK K) (pv 3) (z_call (ok_w_taken T) T.c_w_taken (hr.mono (by decide)) rfl T.g_w_taken passL (pa_cons (pv 0) (pa_cons (pe_callB (call_lenK K) (by rfl) T.u_len (by decide +kernel) (pa_cons (pv 3) pa_nil)) pa_nil))) (fun _ _ => rfl)) pa_nil))))) pss_nil)
      (pss_cons (ps_if (PW.pt (pw_and (pt_cmpR op_eq (pv 4) pe_str (nomark _)) (pw_and1 (pt_cmpR (op_ne0K K hr.units) (pv 2) (pe_lst pa_nil) (nomark _))))) (pss_one (ps_ret (pe_tup (pa_cons (pv 4) (pa_cons (pe_ix (ix_listK K) (pv 2) (z_call (ok_w_taken T) T.c_w_taken (hr.mono (by decide)) rfl T.g_w_taken passL (pa_cons (pv 0) (pa_cons (pe_callB (call_lenK K) (by rfl) T.u_len (by decide +kernel) (pa_cons (pv 2) pa_nil)) pa_nil))) (fun _ _ => rfl)) pa_nil))))) pss_nil)
      (pss_cons (ps_if (pt_cmpR (op_in_seqK K) (pv 4) (pe_tup (pa_cons pe_str (pa_cons pe_str (pa_cons pe_str pa_nil)))) (by rfl)) (pss_one (ps_ret (pe_tup (pa_cons (pv 4) (pa_cons (pe_ix (ix_listK K) (pv 1) (z_call (ok_w_taken T) T.c_w_taken (hr.mono (by decide)) rfl T.g_w_taken passL (pa_cons (pv 0) (pa_cons (pe_callB (call_lenK K) (by rfl) T.u_len (by decide +kernel) (pa_cons (pv 1) pa_nil)) pa_nil))) (fun _ _ => rfl)) pa_nil))))) pss_nil)
      (pss_cons (ps_if (pt_cmpR (op_in_seqK K) (pv 4) (pe_tup (pa_cons pe_str (pa_cons pe_str (pa_cons pe_str pa_nil)))) (by rfl)) (pss_one (ps_ret (pe_tup (pa_cons (pv 4) (pa_cons (z_call (ok_w_taken T) T.c_w_taken (hr.mono (by decide)) rfl T.g_w_taken passL (pa_cons (pv 0) (pa_cons pe_int pa_nil))) pa_nil))))) pss_nil)
      (pss_one (ps_ret (pe_ifExp (pt_cmpR op_eq (pv 4) pe_str (nomark _)) (pe_tup (pa_cons pe_str (pa_cons (z_call (ok_w_taken T) T.c_w_taken (hr.mono (by decide)) rfl T.g_w_taken passL (pa_cons (pv 0) (pa_cons pe_int pa_nil))) pa_nil))) (pe_tup (pa_cons pe_str (pa_cons (pe_op op_add pe_int (z_call (ok_w_taken T) T.c_w_taken (hr.mono (by decide)) rfl T.g_w_taken passL (pa_cons (pv 0) (pa_cons pe_int pa_nil)))) pa_nil)))))))))))), ?_⟩)
  · obtain ⟨r, sc, ns, nl, ll, wl, names, levels, works, nk, rfl, _⟩ := h
    rfl
  obtain ⟨r, sc, ns, nl, ll, wl, names, levels, works, nk, rfl, hrow, hn, hl, hw, nr, lr, wr, nne, n12, l12, w12, nin, lin, q⟩ := h
  show (_ : TS) _ [some (.ref r), some (.ref nl), some (.ref ll), some (.ref wl), none] H
  try dsimp only [cxOf]
  have nr' : nl ∉ [r] := by simpa using nr
  have lr' : ll ∉ [r] := by simpa using lr
  have wr' : wl ∉ [r] := by simpa using wr
  walk_at "rz"
  rename_i p3 hp3 H3 s3 e3
  have row3 := hrow.same s3
  have p3r : p3 ∉ [r] := fun z => hrow.ex (by rw [← List.mem_singleton.mp z]; exact hp3)
  refine ⟨r, sc, ns, 12, rfl, row3, by omega, by omega, fun n H0 h0 h12 f4 row0 => ?_⟩
  have e4 := f4.at e3 p3r
  have n0 := f4.at (s3 _ _ hn) nr'
  have l0 := f4.at (s3 _ _ hl) lr'
  have w0 := f4.at (s3 _ _ hw) wr'
  have f0 : Fr [r] H H0 := s3.fr.trans f4
  obtain ⟨k, rfl⟩ := Int.eq_ofNat_of_zero_le h0
  have hk : k < 12 := by omega
  obtain ⟨wd, hwd, hwm⟩ : ∃ wd : Str, ((["run", "run", "run", "ring", "mask", "unmask", "set", "clear", "await", "bar", "later", "quiet"] : List Str).map V.str)[k]? = some (V.str wd) ∧ wd ∈ (["run", "ring", "mask", "unmask", "set", "clear", "await", "bar", "later", "quiet"] : List Str) := by
    have hk2 : k < (["run", "run", "run", "ring", "mask", "unmask", "set", "clear", "await", "bar", "later", "quiet"] : List Str).length := hk
    refine ⟨_, by rw [List.getElem?_map, List.getElem?_eq_getElem hk2]; rfl, ?_⟩
    have hm := List.getElem_mem hk2
    generalize (["run", "run", "run", "ring", "mask", "unmask", "set", "clear", "await", "bar", "later", "quiet"] : List Str)[k] = wd at hm
    simp only [List.mem_cons, List.not_mem_nil, or_false] at hm ⊢
    rcases hm with h | h | h | h | h | h | h | h | h | h | h | h <;> simp [h]
  refine s_ixL (SqL.of e4) (v := .str wd) (atI_nat hwd) ?_
  clear e3 e4 hwd row3 f4 s3 hn hl hw h0 h12
  have pick : ∀ {H5 : Hp} {R : VK} {a : Addr} {l : List Str}, RowAt K H5 r sc ns → a ∉ [r] → H5 a = some (.lst (l.map V.str)) → l ≠ [] → l.length ≤ 12 → (∀ z H6, z ∈ l → Fr [r] H5 H6 → RowAt K H6 r sc ns → R (.str z) H6) → spTaken K [.ref r, .int l.length] H5 (fun y H6 => rIxL K (.ref a) y H6 R) E0 := fun {H5 R a l} row ar ea lne l12 h => by
    have l0 : 0 < l.length := List.length_pos_iff.mpr lne
    refine ⟨r, sc, ns, l.length, rfl, row, by omega, by omega, fun n H6 h0 h1 f6 row6 => ?_⟩
    obtain ⟨k, rfl⟩ := Int.eq_ofNat_of_zero_le h0
    have hk : k < l.length := by omega
    exact s_ixL (SqL.of (f6.at ea ar)) (v := .str l[k]) (atI_nat (by rw [List.getElem?_map, List.getElem?_eq_getElem hk]; rfl)) (h _ _ (List.getElem_mem hk) f6 row6)
  simp only [List.mem_cons, List.not_mem_nil, or_false] at hwm
  rcases hwm with rfl | rfl | rfl | rfl | rfl | rfl | rfl | rfl | rfl | rfl
  · walk_at "rz"
    rename_i p1 hp1 H1 s1 e1
    refine s_in (.inr (SqT.of e1)) rfl rfl ?_
    rw [show (if false = true then !inV (V.str "run") _ else inV (V.str "run") _) = false by kernel_rfl]
    have row1 := row0.same s1
    have n1 := s1 _ _ n0
    have l1 := s1 _ _ l0
    have w1 := s1 _ _ w0
    have f1 : Fr [r] H H1 := f0.trans s1.fr
    walk_at "rz"
    rename_i p2 hp2 H2 s2 e2
    refine s_in (.inr (SqT.of e2)) rfl rfl ?_
    rw [show (if false = true then !inV (V.str "run") _ else inV (V.str "run") _) = false by kernel_rfl]
    have row2 := row1.same s2
    have n2 := s2 _ _ n1
    have l2 := s2 _ _ l1
    have w2 := s2 _ _ w1
    have f2 : Fr [r] H H2 := f1.trans s2.fr
    walk_at "rz"
    refine ⟨r, sc, ns, 3, rfl, row2, by omega, by omega, fun m H3 m0 m1 g3 row3 => ?_⟩
    have f3 : Fr [r] H H3 := f2.trans g3
    walk_at "rz"
    rename_i p4 hp4 H4 s4 e4
    exact q p4 (("run" : Str), (Sum.inl (1 + m) : Key)) H4 (f3.trans s4.fr) (row3.same s4) (.run (by omega) (by omega)) (.tup (SqT.of e4) (.cons (.str _) (.cons (.int _) .nil)))
  · walk_at "rz"
    rename_i p1 hp1 H1 s1 e1
    refine s_in (.inr (SqT.of e1)) rfl rfl ?_
    rw [show (if false = true then !inV (V.str "ring") _ else inV (V.str "ring") _) = true by kernel_rfl]
    have row1 := row0.same s1
    have n1 := s1 _ _ n0
    have l1 := s1 _ _ l0
    have w1 := s1 _ _ w0
    have f1 : Fr [r] H H1 := f0.trans s1.fr
    walk_at "rz"
    refine s_lenL (SqL.of n1) ?_
    rw [List.length_map]
    walk_at "rz"
    refine pick row1 nr' n1 nne n12 fun z H2 hz g2 row2 => ?_
    have f2 : Fr [r] H H2 := f1.trans g2
    walk_at "rz"
    rename_i p3 hp3 H3 s3 e3
    exact q p3 (("ring" : Str), (Sum.inr z : Key)) H3 (f2.trans s3.fr) (row2.same s3) (.line (by simp) (nin z hz)) (.tup (SqT.of e3) (.cons (.str _) (.cons (.str _) .nil)))
  · walk_at "rz"
    rename_i p1 hp1 H1 s1 e1
    refine s_in (.inr (SqT.of e1)) rfl rfl ?_
    rw [show (if false = true then !inV (V.str "mask") _ else inV (V.str "mask") _) = true by kernel_rfl]
    have row1 := row0.same s1
    have n1 := s1 _ _ n0
    have l1 := s1 _ _ l0
    have w1 := s1 _ _ w0
    have f1 : Fr [r] H H1 := f0.trans s1.fr
    walk_at "rz"
    refine s_lenL (SqL.of n1) ?_
    rw [List.length_map]
    walk_at "rz"
    refine pick row1 nr' n1 nne n12 fun z H2 hz g2 row2 => ?_
    have f2 : Fr [r] H H2 := f1.trans g2
    walk_at "rz"
    rename_i p3 hp3 H3 s3 e3
    exact q p3 (("mask" : Str), (Sum.inr z : Key)) H3 (f2.trans s3.fr) (row2.same s3) (.line (by simp) (nin z hz)) (.tup (SqT.of e3) (.cons (.str _) (.cons (.str _) .nil)))
  · walk_at "rz"
    rename_i p1 hp1 H1 s1 e1
    refine s_in (.inr (SqT.of e1)) rfl rfl ?_
    rw [show (if false = true then !inV (V.str "unmask") _ else inV (V.str "unmask") _) = true by kernel_rfl]
    have row1 := row0.same s1
    have n1 := s1 _ _ n0
    have l1 := s1 _ _ l0
    have w1 := s1 _ _ w0
    have f1 : Fr [r] H H1 := f0.trans s1.fr
    walk_at "rz"
    refine s_lenL (SqL.of n1) ?_
    rw [List.length_map]
    walk_at "rz"
    refine pick row1 nr' n1 nne n12 fun z H2 hz g2 row2 => ?_
    have f2 : Fr [r] H H2 := f1.trans g2
    walk_at "rz"
    rename_i p3 hp3 H3 s3 e3
    exact q p3 (("unmask" : Str), (Sum.inr z : Key)) H3 (f2.trans s3.fr) (row2.same s3) (.line (by simp) (nin z hz)) (.tup (SqT.of e3) (.cons (.str _) (.cons (.str _) .nil)))
  · walk_at "rz"
    rename_i p1 hp1 H1 s1 e1
    refine s_in (.inr (SqT.of e1)) rfl rfl ?_
    rw [show (if false = true then !inV (V.str "set") _ else inV (V.str "set") _) = false by kernel_rfl]
    have row1 := row0.same s1
    have n1 := s1 _ _ n0
    have l1 := s1 _ _ l0
    have w1 := s1 _ _ w0
    have f1 : Fr [r] H H1 := f0.trans s1.fr
    walk_at "rz"
    rename_i p2 hp2 H2 s2 e2
    refine s_in (.inr (SqT.of e2)) rfl rfl ?_
    rw [show (if false = true then !inV (V.str "set") _ else inV (V.str "set") _) = true by kernel_rfl]
    have row2 := row1.same s2
    have n2 := s2 _ _ n1
    have l2 := s2 _ _ l1
    have w2 := s2 _ _ w1
    have f2 : Fr [r] H H2 := f1.trans s2.fr
    walk_at "rz"
    refine ⟨r, sc, ns, 2, rfl, row2, by omega, by omega, fun m H3 m0 m1 g3 row3 => ?_⟩
    have f3 : Fr [r] H H3 := f2.trans g3
    walk_at "rz"
    rename_i p4 hp4 H4 s4 e4
    exact q p4 (("set" : Str), (Sum.inl m : Key)) H4 (f3.trans s4.fr) (row3.same s4) (.flag (by simp) (by omega) (by omega)) (.tup (SqT.of e4) (.cons (.str _) (.cons (.int _) .nil)))
  · walk_at "rz"
    rename_i p1 hp1 H1 s1 e1
    refine s_in (.inr (SqT.of e1)) rfl rfl ?_
    rw [show (if false = true then !inV (V.str "clear") _ else inV (V.str "clear") _) = false by kernel_rfl]
    have row1 := row0.same s1
    have n1 := s1 _ _ n0
    have l1 := s1 _ _ l0
    have w1 := s1 _ _ w0
    have f1 : Fr [r] H H1 := f0.trans s1.fr
    walk_at "rz"
    rename_i p2 hp2 H2 s2 e2
    refine s_in (.inr (SqT.of e2)) rfl rfl ?_
    rw [show (if false = true then !inV (V.str "clear") _ else inV (V.str "clear") _) = true by kernel_rfl]
    have row2 := row1.same s2
    have n2 := s2 _ _ n1
    have l2 := s2 _ _ l1
    have w2 := s2 _ _ w1
    have f2 : Fr [r] H H2 := f1.trans s2.fr
    walk_at "rz"
    refine ⟨r, sc, ns, 2, rfl, row2, by omega, by omega, fun m H3 m0 m1 g3 row3 => ?_⟩
    have f3 : Fr [r] H H3 := f2.trans g3
    walk_at "rz"
    rename_i p4 hp4 H4 s4 e4
    exact q p4 (("clear" : Str), (Sum.inl m : Key)) H4 (f3.trans s4.fr) (row3.same s4) (.flag (by simp) (by omega) (by omega)) (.tup (SqT.of e4) (.cons (.str _) (.cons (.int _) .nil)))
  · walk_at "rz"
    rename_i p1 hp1 H1 s1 e1
    refine s_in (.inr (SqT.of e1)) rfl rfl ?_
    rw [show (if false = true then !inV (V.str "await") _ else inV (V.str "await") _) = false by kernel_rfl]
    have row1 := row0.same s1
    have n1 := s1 _ _ n0
    have l1 := s1 _ _ l0
    have w1 := s1 _ _ w0
    have f1 : Fr [r] H H1 := f0.trans s1.fr
    walk_at "rz"
    rename_i p2 hp2 H2 s2 e2
    refine s_in (.inr (SqT.of e2)) rfl rfl ?_
    rw [show (if false = true then !inV (V.str "await") _ else inV (V.str "await") _) = true by kernel_rfl]
    have row2 := row1.same s2
    have n2 := s2 _ _ n1
    have l2 := s2 _ _ l1
    have w2 := s2 _ _ w1
    have f2 : Fr [r] H H2 := f1.trans s2.fr
    walk_at "rz"
    refine ⟨r, sc, ns, 2, rfl, row2, by omega, by omega, fun m H3 m0 m1 g3 row3 => ?_⟩
    have f3 : Fr [r] H H3 := f2.trans g3
    walk_at "rz"
    rename_i p4 hp4 H4 s4 e4
    exact q p4 (("await" : Str), (Sum.inl m : Key)) H4 (f3.trans s4.fr) (row3.same s4) (.flag (by simp) (by omega) (by omega)) (.tup (SqT.of e4) (.cons (.str _) (.cons (.int _) .nil)))
  · walk_at "rz"
    rename_i p1 hp1 H1 s1 e1
    refine s_in (.inr (SqT.of e1)) rfl rfl ?_
    rw [show (if false = true then !inV (V.str "bar") _ else inV (V.str "bar") _) = false by kernel_rfl]
    have row1 := row0.same s1
    have n1 := s1 _ _ n0
    have l1 := s1 _ _ l0
    have w1 := s1 _ _ w0
    have f1 : Fr [r] H H1 := f0.trans s1.fr
    walk_at "rz"
    rename_i p2 hp2 H2 s2 e2
    refine s_in (.inr (SqT.of e2)) rfl rfl ?_
    rw [show (if false = true then !inV (V.str "bar") _ else inV (V.str "bar") _) = false by kernel_rfl]
    have row2 := row1.same s2
    have n2 := s2 _ _ n1
    have l2 := s2 _ _ l1
    have w2 := s2 _ _ w1
    have f2 : Fr [r] H H2 := f1.trans s2.fr
    walk_at "rz"
    refine ⟨r, sc, ns, 10, rfl, row2, by omega, by omega, fun m H3 m0 m1 g3 row3 => ?_⟩
    have f3 : Fr [r] H H3 := f2.trans g3
    walk_at "rz"
    rename_i p4 hp4 H4 s4 e4
    exact q p4 (("bar" : Str), (Sum.inl m : Key)) H4 (f3.trans s4.fr) (row3.same s4) (.bar (by omega) (by omega)) (.tup (SqT.of e4) (.cons (.str _) (.cons (.int _) .nil)))
  · walk_at "rz"
    rename_i p1 hp1 H1 s1 e1
    refine s_eq0L (SqL.of (s1 _ _ w0)) (SqL.of e1) ?_
    rw [if_pos rfl]
    have row1 := row0.same s1
    have n1 := s1 _ _ n0
    have l1 := s1 _ _ l0
    have w1 := s1 _ _ w0
    have f1 : Fr [r] H H1 := f0.trans s1.fr
    walk_at "rz"
    by_cases hne : works = []
    · subst hne
      refine ite_f rfl ?_
      walk_at "rz"
      rename_i p2 hp2 H2 s2 e2
      refine s_in (.inr (SqT.of e2)) rfl rfl ?_
      rw [show (if false = true then !inV (V.str "later") _ else inV (V.str "later") _) = false by kernel_rfl]
      have row2 := row1.same s2
      have n2 := s2 _ _ n1
      have l2 := s2 _ _ l1
      have w2 := s2 _ _ w1
      have f2 : Fr [r] H H2 := f1.trans s2.fr
      walk_at "rz"
      rename_i p3 hp3 H3 s3 e3
      refine s_in (.inr (SqT.of e3)) rfl rfl ?_
      rw [show (if false = true then !inV (V.str "later") _ else inV (V.str "later") _) = false by kernel_rfl]
      have row3 := row2.same s3
      have n3 := s3 _ _ n2
      have l3 := s3 _ _ l2
      have w3 := s3 _ _ w2
      have f3 : Fr [r] H H3 := f2.trans s3.fr
      walk_at "rz"
      refine ⟨r, sc, ns, 3, rfl, row3, by omega, by omega, fun m H4 m0 m1 g4 row4 => ?_⟩
      have f4 : Fr [r] H H4 := f3.trans g4
      walk_at "rz"
      rename_i p5 hp5 H5 s5 e5
      exact q p5 (("run" : Str), (Sum.inl (1 + m) : Key)) H5 (f4.trans s5.fr) (row4.same s5) (.run (by omega) (by omega)) (.tup (SqT.of e5) (.cons (.str _) (.cons (.int _) .nil)))
    · refine ite_t (by cases works with | nil => exact absurd rfl hne | cons _ _ => rfl) ?_
      walk_at "rz"
      refine s_lenL (SqL.of w1) ?_
      rw [List.length_map]
      walk_at "rz"
      refine pick row1 wr' w1 hne w12 fun z H2 hz g2 row2 => ?_
      have f2 : Fr [r] H H2 := f1.trans g2
      walk_at "rz"
      rename_i p3 hp3 H3 s3 e3
      exact q p3 (("later" : Str), (Sum.inr z : Key)) H3 (f2.trans s3.fr) (row2.same s3) (.later hz) (.tup (SqT.of e3) (.cons (.str _) (.cons (.str _) .nil)))
  · walk_at "rz"
    rename_i p1 hp1 H1 s1 e1
    refine s_eq0L (SqL.of (s1 _ _ l0)) (SqL.of e1) ?_
    rw [if_pos rfl]
    have row1 := row0.same s1
    have n1 := s1 _ _ n0
    have l1 := s1 _ _ l0
    have w1 := s1 _ _ w0
    have f1 : Fr [r] H H1 := f0.trans s1.fr
    walk_at "rz"
    by_cases hne : levels = []
    · subst hne
      refine ite_f rfl ?_
      walk_at "rz"
      rename_i p2 hp2 H2 s2 e2
      refine s_in (.inr (SqT.of e2)) rfl rfl ?_
      rw [show (if false = true then !inV (V.str "quiet") _ else inV (V.str "quiet") _) = false by kernel_rfl]
      have row2 := row1.same s2
      have n2 := s2 _ _ n1
      have l2 := s2 _ _ l1
      have w2 := s2 _ _ w1
      have f2 : Fr [r] H H2 := f1.trans s2.fr
      walk_at "rz"
      rename_i p3 hp3 H3 s3 e3
      refine s_in (.inr (SqT.of e3)) rfl rfl ?_
      rw [show (if false = true then !inV (V.str "quiet") _ else inV (V.str "quiet") _) = false by kernel_rfl]
      have row3 := row2.same s3
      have n3 := s3 _ _ n2
      have l3 := s3 _ _ l2
      have w3 := s3 _ _ w2
      have f3 : Fr [r] H H3 := f2.trans s3.fr
      walk_at "rz"
      refine ⟨r, sc, ns, 3, rfl, row3, by omega, by omega, fun m H4 m0 m1 g4 row4 => ?_⟩
      have f4 : Fr [r] H H4 := f3.trans g4
      walk_at "rz"
      rename_i p5 hp5 H5 s5 e5
      exact q p5 (("run" : Str), (Sum.inl (1 + m) : Key)) H5 (f4.trans s5.fr) (row4.same s5) (.run (by omega) (by omega)) (.tup (SqT.of e5) (.cons (.str _) (.cons (.int _) .nil)))
    · refine ite_t (by cases levels with | nil => exact absurd rfl hne | cons _ _ => rfl) ?_
      walk_at "rz"
      refine s_lenL (SqL.of l1) ?_
      rw [List.length_map]
      walk_at "rz"
      refine pick row1 lr' l1 hne l12 fun z H2 hz g2 row2 => ?_
      have f2 : Fr [r] H H2 := f1.trans g2
      walk_at "rz"
      rename_i p3 hp3 H3 s3 e3
      exact q p3 (("quiet" : Str), (Sum.inr z : Key)) H3 (f2.trans s3.fr) (row2.same s3) (.quiet (lin z hz)) (.tup (SqT.of e3) (.cons (.str _) (.cons (.str _) .nil)))
end
set_option maxHeartbeats 8000000
open PySem PySem.Spec PyProof.Rows L2 Z
open He (ga ma)
def spMSetup (K : Fg) : Sp := fun vs H Q _ => ∃ r sc ns, ∃ most : Int, vs = [.ref r, .int most] ∧ RowAt K H r sc ns ∧ 1 ≤ most ∧ most ≤ 6 ∧ ∀ t a b P H', Fr [r] H H' → RowAt K H' r sc ns → Drawn P → SqT K H' t [.ref a, .ref b] → Dp K H' (.ref a) (.tuple (P.ls.map dLn)) → Dp K H' (.ref b) (.tuple (P.ws.map dWk)) → Q (.ref t) H'
theorem s_take {K : Fg} {H : Hp} {r sc : Addr} {ns : List Int} {many : Int} {Q : VK} {E : XK} (h : RowAt K H r sc ns) (h0 : 0 < many) (h1 : many < 1000000) (q : ∀ n H', 0 ≤ n → n < many → Fr [r] H H' → RowAt K H' r sc ns → Q (.int n) H') : spTaken K [.ref r, .int many] H Q E := ⟨r, sc, ns, many, rfl, h, h0, h1, q⟩
section
variable {P : Program} {w : World} {K : Fg} {mg : Str → Option Value} {base : Heap}
theorem ok_w_setup (T : Txt K mg) : FnOk P w K mg base (L2.CX P w) 6 (ga K "_law_setup") (fdOf K (ga K "_law_setup")) ["_law_row", "_law_most"] (spMSetup K) := by
  refine FunD.ok T.F_w_setup sc_w_setup (fun vs H Q E h => ?_) (fun cdv A outer s H vs Q E hr h => ⟨_, PSs.nox (pss_cons (zset 2 sc_w_setup.nd (pe_slice (sl_listK K) (z_call (ok_w_mixed T) T.c_w_mixed (hr.mono (by decide)) rfl T.g_w_mixed passL (pa_cons (pv 0) (pa_cons (pe_lst (pa_cons pe_str (pa_cons pe_str (pa_cons pe_str (pa_cons pe_str (pa_cons pe_str (pa_cons pe_str pa_nil))))))) pa_nil))) po_none (po_some (pe_op op_add pe_int (z_call (ok_w_taken T) T.c_w_taken (hr.mono (by decide)) rfl T.g_w_taken passL (pa_cons (pv 0) (pa_cons (pv 1) pa_nil)))))))
      (pss_cons (zset 3 sc_w_setup.nd (pe_lc (own := [("_law_name", 10)]) rfl sc_w_setup.nd (kIL K (pi_list (pv 2))) (blkOk_by (own := [("_law_name", 10)]) (N := n_w_setup) (sc := defScope s_w_setup) (by decide +kernel)) (fun _ _ _ _ _ => (zg 10 sc_w_setup.nd)) (fun _ _ _ _ _ => pts_nil) (fun _ _ _ _ _ => (pe_ix (ix_listK K) (pe_lst (pa_cons pe_str (pa_cons pe_str (pa_cons pe_str pa_nil)))) (z_call (ok_w_taken T) T.c_w_taken (hr.mono (by decide)) rfl T.g_w_taken passL (pa_cons (pv 0) (pa_cons pe_int pa_nil))) (fun _ _ => rfl)))))
      (pss_cons (zset 4 sc_w_setup.nd (pe_lc (own := [("_law_k", 7)]) rfl sc_w_setup.nd (pi_range1 rfl T.u_range (pa_cons (pe_callB (call_lenK K) (by rfl) T.u_len (by decide +kernel) (pa_cons (pv 2) pa_nil)) pa_nil)) (blkOk_by (own := [("_law_k", 7)]) (N := n_w_setup) (sc := defScope s_w_setup) (by decide +kernel)) (fun _ _ _ _ _ => (zg 7 sc_w_setup.nd)) (fun _ _ _ _ _ => (pts_one (pt_cmpR op_eq (pe_ix (ix_listK K) (pv 3) (pv 7) (fun _ _ => rfl)) pe_str (nomark _)))) (fun _ _ _ _ _ => (pe_ix (ix_listK K) (pv 2) (pv 7) (fun _ _ => rfl)))))
      (pss_cons (zset 5 sc_w_setup.nd (pe_slice (sl_listK K) (pe_lst (pa_cons pe_str (pa_cons pe_str pa_nil))) po_none (po_some (z_call (ok_w_taken T) T.c_w_taken (hr.mono (by decide)) rfl T.g_w_taken passL (pa_cons (pv 0) (pa_cons pe_int pa_nil))))))
      (pss_cons (zset 6 sc_w_setup.nd (pe_lst pa_nil))
      (pss_cons (ps_for PassesOwn.never rfl (pi_range1 rfl T.u_range (pa_cons (pe_callB (call_lenK K) (by rfl) T.u_len (by decide +kernel) (pa_cons (pv 2) pa_nil)) pa_nil)) (zg 7 sc_w_setup.nd)
      (pss_cons (ps_setLc (i := 8) (own := [("_law_turn", 11)]) rfl sc_w_setup.nd rfl rfl (sw_true rfl rfl rfl (by decide +kernel)) (pi_range1 rfl T.u_range (pa_cons (pe_op op_add pe_int (z_call (ok_w_taken T) T.c_w_taken (hr.mono (by decide)) rfl T.g_w_taken passL (pa_cons (pv 0) (pa_cons pe_int pa_nil)))) pa_nil)) (blkOk_by (own := [("_law_turn", 11)]) (N := n_w_setup) (sc := defScope s_w_setup) (by decide +kernel)) (fun _ _ _ _ _ => (zg 11 sc_w_setup.nd)) (fun _ _ _ _ _ => pts_nil) (fun _ _ _ _ _ => (z_call (ok_w_step T) T.c_w_step (hr.mono (by decide)) rfl T.g_w_step passL (pa_cons (pv 0) (pa_cons (pv 2) (pa_cons (pv 4) (pa_cons (pv 5) pa_nil)))))))
      (pss_one (ps_expr (kBM K (pe_bm PySem.F.plainAttrs_list PySem.F.slot_list_append PySem.F.type_list_append mt_append (pv 6) (pa_cons (pe_tup (pa_cons (pe_ix (ix_listK K) (pv 2) (pv 7) (fun _ _ => rfl)) (pa_cons (pe_ix (ix_listK K) (pv 3) (pv 7) (fun _ _ => rfl)) (pa_cons (pe_op op_add pe_int (z_call (ok_w_taken T) T.c_w_taken (hr.mono (by decide)) rfl T.g_w_taken passL (pa_cons (pv 0) (pa_cons pe_int pa_nil)))) (pa_cons (pe_callTy (call_tuple_ofK K) (by rfl) T.u_tuple (by decide +kernel) (pa_cons (pv 8) pa_nil)) pa_nil))))) pa_nil)))))))
      (pss_cons (ps_setLc (i := 9) (own := [("_law_work", 12)]) rfl sc_w_setup.nd rfl rfl (sw_true rfl rfl rfl (by decide +kernel)) (kIL K (pi_list (pv 5))) (blkOk_by (own := [("_law_work", 12)]) (N := n_w_setup) (sc := defScope s_w_setup) (by decide +kernel)) (fun _ _ _ _ _ => (zg 12 sc_w_setup.nd)) (fun _ _ _ _ _ => pts_nil) (fun _ _ _ _ _ => (pe_tup (pa_cons (pv 12) (pa_cons (pe_op op_add pe_int (z_call (ok_w_taken T) T.c_w_taken (hr.mono (by decide)) rfl T.g_w_taken passL (pa_cons (pv 0) (pa_cons pe_int pa_nil)))) (pa_cons (pe_op op_add pe_int (z_call (ok_w_taken T) T.c_w_taken (hr.mono (by decide)) rfl T.g_w_taken passL (pa_cons (pv 0) (pa_cons pe_int pa_nil)))) pa_nil))))))
      (pss_one (ps_ret (pe_tup (pa_cons (pe_callTy (call_tuple_ofK K) (by rfl) T.u_tuple (by decide +kernel) (pa_cons (pv 6) pa_nil)) (pa_cons (pe_callTy (call_tuple_ofK K) (by rfl) T.u_tuple (by decide +kernel) (pa_cons (pv 9) pa_nil)) pa_nil)))))))))))), ?_⟩)
  · obtain ⟨r, sc, ns, most, rfl, _⟩ := h
    rfl
  obtain ⟨r, sc, ns, most, rfl, hrow, m1, m6, q⟩ := h
  show (_ : TS) _ [some (.ref r), some (.int most), none, none, none, none, none, none, none, none, none, none, none] H
  try dsimp only [cxOf]
  have hr0 := hrow.ex
  -- names
  walk_at "rz"
  rename_i l1 hl1 H1 s1 e1
  refine ⟨r, sc, ns, l1, nm6.map V.str, rfl, hrow.same s1, .inl (SqL.of e1), by decide, fun H2 l2 ys f2 row2 hl2 e2 pm => ?_⟩
  obtain ⟨nms, rfl, pn⟩ := perm_strs pm
  have hl2r : l2 ≠ r := fun e => hr0 (by rw [← e]; exact s1.fr.back (A := []) hl2)
  walk_at "rz"
  refine s_take row2 (by omega) (by omega) fun nn H3 nn0 nn1 f3 row3 => ?_
  have e3 := f3.at e2 (by simp [hl2r])
  walk_at "rz"
  refine s_slL (SqL.of e3) fun l4 hl4 => ?_
  rw [show 1 + nn = (((1 + nn).toNat : Nat) : Int) by omega, cut_take, ← List.map_take]
  generalize eH : upd H3 l4 _ = H4
  have s4 := newS hl4 eH
  have e4 := newE eH
  clear eH
  have n6 : nms.length = 6 := pn.length_eq
  have pnd : nms.Nodup := pn.nodup_iff.mpr (by decide)
  have pin : ∀ z ∈ nms, z ∈ nm6 := fun z hz => pn.mem_iff.mp hz
  generalize hN : nms.take (1 + nn).toNat = N at e4
  have hN6 : 1 ≤ N.length ∧ N.length ≤ 6 := by rw [← hN, List.length_take]; omega
  have hNd : N.Nodup := by rw [← hN]; exact pnd.sublist (List.take_sublist _ _)
  have hNi : ∀ z ∈ N, z ∈ nm6 := fun z hz => pin z (by rw [← hN] at hz; exact List.mem_of_mem_take hz)
  have row4 := row3.same s4
  have f14 : Fr [r] H H4 := (s1.fr.trans f2).trans (f3.trans s4.fr)
  have hl40 : H l4 = none := ((s1.fr.trans f2).trans f3 : Fr [r] H H3).back hl4
  have hl4r : l4 ≠ r := fun e => hr0 (by rw [← e]; exact hl40)
  clear e1 e2 e3 pm s1 s4 f2 f3 row2 row3 hl1 hl2 hl2r hl4 hN pn
  -- kinds
  walk_at "rz"
  refine lcL_row e4 hl4r row4 (by rw [List.length_map]; omega) (fun _ (k : Str) => k = "edge" ∨ k = "level") PyData.str (fun _ => rfl) (fun i x Ha Yes No hx fa rowa yes => ?_) (fun l5 H5 ys kd hl5 f5 row5 e5 kl hk a5 => ?_)
  · walk_at "rz"
    refine ⟨rfl, ?_⟩
    walk_at "rz"
    rename_i p6 hp6 H6 s6 e6
    have p6r : p6 ≠ r := fun e => rowa.ex (by rw [← e]; exact hp6)
    refine s_take (rowa.same s6) (by omega) (by omega) fun n1 H7 h1 h2 f7 row7 => ?_
    have e7 := f7.at e6 (by simp [p6r])
    obtain ⟨zk, hzk, hzm⟩ : ∃ zk, ([V.str "edge", V.str "edge", V.str "level"] : List V)[n1.toNat]? = some (.str zk) ∧ (zk = "edge" ∨ zk = "level") := by
      have : n1 = 0 ∨ n1 = 1 ∨ n1 = 2 := by omega
      rcases this with rfl | rfl | rfl
      · exact ⟨"edge", rfl, .inl rfl⟩
      · exact ⟨"edge", rfl, .inl rfl⟩
      · exact ⟨"level", rfl, .inr rfl⟩
    refine s_ixL (SqL.of e7) (v := .str zk) (at_of (j := n1.toNat) (by omega) hzk) ?_
    exact yes _ _ zk (s6.fr.trans f7) row7 hzm (.str _)
  rw [List.length_map] at kl
  cases dp_strs a5
  have hkd : ∀ k ∈ kd, k = "edge" ∨ k = "level" := fun k h => by
    obtain ⟨_, h⟩ := rel_all hk k h
    exact h
  have f15 := f14.trans f5
  have hl50 : H l5 = none := f14.back hl5
  have hl5r : l5 ≠ r := fun e => hr0 (by rw [← e]; exact hl50)
  have en5 := f5.at e4 (by simp [hl4r])
  clear e4 row4 a5 f5 hl5 hk
  -- levels
  walk_at "rz"
  refine s_lenL (SqL.of en5) ?_
  rw [List.length_map]
  walk_at "rz"
  refine ⟨by omega, by omega, ?_⟩
  rw [Int.toNat_natCast]
  refine lcR_d (K := K) (fun k => decide (gS kd k = "level")) (fun k => .str (gS N k)) (by omega) (fun _ _ => rfl) (fun k Ha Yes No hk sa yes no => ?_) (fun l6 H6 ys hl6 s6 e6 a6 => ?_)
  · have hk2 : k < kd.length := by omega
    have ekd := gS_map hk2
    have eN := gS_map hk
    walk_at "rz"
    refine ⟨rfl, ?_⟩
    walk_at "rz"
    refine s_ixL (SqL.of (sa _ _ e5)) (atI_nat ekd) ?_
    walk_at "rz"
    refine ite_b (fun h => ?_) (fun h => ?_)
    · walk_at "rz"
      refine s_ixL (SqL.of (sa _ _ en5)) (atI_nat eN) ?_
      exact yes (by simpa using h) _ _ (Same.refl _) (.str _)
    · exact no (by simpa using h) _ (Same.refl _)
  obtain ⟨L, eL⟩ : ∃ L : List Str, ((List.range N.length).filter fun k => decide (gS kd k = "level")).map (fun k => gS N k) = L := ⟨_, rfl⟩
  have eL2 : ((List.range N.length).filter fun k => decide (gS kd k = "level")).map (fun k => PyData.str (gS N k)) = L.map PyData.str := by rw [← eL, List.map_map]; rfl
  rw [eL2] at a6
  cases dp_strs a6
  have hLl : L.length ≤ 12 := by
    rw [← eL, List.length_map]
    have := List.length_filter_le (fun k => decide (gS kd k = "level")) (List.range N.length)
    rw [List.length_range] at this
    omega
  have hLin : ∀ z ∈ L, (z, ("level" : Str)) ∈ N.zip kd := fun z hz => by
    rw [← eL] at hz
    obtain ⟨k, hk, rfl⟩ := List.mem_map.mp hz
    obtain ⟨h1, h2⟩ := List.mem_filter.mp hk
    have h1 := List.mem_range.mp h1
    have hk2 : k < kd.length := by omega
    have h2 := of_decide_eq_true h2
    refine List.mem_of_getElem? (i := k) (List.getElem?_zip_eq_some.mpr ⟨gS_eq h1, ?_⟩)
    rw [gS_eq hk2, h2]
  have f16 : Fr [r] H H6 := f15.trans s6.fr
  have hl60 : H l6 = none := f15.back hl6
  have hl6r : l6 ≠ r := fun e => hr0 (by rw [← e]; exact hl60)
  have en6 := s6 _ _ en5
  have ek6 := s6 _ _ e5
  have row6 := row5.same s6
  clear en5 e5 row5 a6 s6 hl6 eL eL2
  -- works
  walk_at "rz"
  rename_i p7 hp7 H7 s7 e7
  have p7r : p7 ≠ r := fun e => row6.ex (by rw [← e]; exact hp7)
  refine s_take (row6.same s7) (by omega) (by omega) fun nw H8 nw0 nw1 f8 row8 => ?_
  have e8 := f8.at e7 (by simp [p7r])
  walk_at "rz"
  refine s_slL (SqL.of e8) fun l9 hl9 => ?_
  obtain ⟨kw, rfl⟩ := Int.eq_ofNat_of_zero_le nw0
  rw [cut_take]
  generalize eH : upd H8 l9 _ = H9
  have s9 := newS hl9 eH
  have e9 := newE eH
  clear eH
  have f68 : Fr [r] H6 H8 := s7.fr.trans f8
  have f69 : Fr [r] H6 H9 := f68.trans s9.fr
  have en9 := f69.at en6 (by simp [hl4r])
  have ek9 := f69.at ek6 (by simp [hl5r])
  have el9 := f69.at e6 (by simp [hl6r])
  have row9 := row8.same s9
  have hl90 : H l9 = none := f16.back (f68.back hl9)
  have hl9r : l9 ≠ r := fun e => hr0 (by rw [← e]; exact hl90)
  have f19 := f16.trans f69
  replace e9 : H9 l9 = some (.lst (((nmW.take kw)).map V.str)) := by rw [e9, List.map_take]; rfl
  generalize hW : nmW.take kw = W at e9
  have hW2 : W.length ≤ 2 := by rw [← hW, List.length_take]; show min kw 2 ≤ 2; omega
  clear e7 e8 s7 f8 row8 s9 hl9 f68 f69 en6 ek6 e6 row6
  walk_at "rz"
  rename_i l10 hl10 H10 s10 e10
  have en10 := s10 _ _ en9
  have row10 := row9.same s10
  have f110 : Fr [r] H H10 := f19.trans s10.fr
  have hl100 : H l10 = none := f19.back hl10
  have hl10r : l10 ≠ r := fun e => hr0 (by rw [← e]; exact hl100)
  have ek10 := s10 _ _ ek9
  have el10 := s10 _ _ el9
  have ew10 := s10 _ _ e9
  have n104 : l10 ≠ l4 := fun e => by rw [e, en9] at hl10; cases hl10
  have n105 : l10 ≠ l5 := fun e => by rw [e, ek9] at hl10; cases hl10
  have n106 : l10 ≠ l6 := fun e => by rw [e, el9] at hl10; cases hl10
  have n109 : l10 ≠ l9 := fun e => by rw [e, e9] at hl10; cases hl10
  clear en9 ek9 el9 e9 row9 s10 hl10
  refine s_lenL (SqL.of en10) ?_
  rw [List.length_map]
  walk_at "rz"
  have hzl : (N.zip kd).length = N.length := by rw [List.length_zip]; omega
  have hz1 : (N.zip kd).map (·.1) = N := List.map_fst_zip (by omega)
  refine ⟨by omega, by omega, for_range (lo := 0) (n := ((N.length : Nat) : Int).toNat) (fun i σ Ha => ∃ y7 y8, σ = [some (.ref r), some (.int most), some (.ref l4), some (.ref l5), some (.ref l6), some (.ref l9), some (.ref l10), y7, y8, none, none, none, none] ∧ Fr [r, l10] H10 Ha ∧ RowAt K Ha r sc ns ∧
    ∃ ls xs, Ha l10 = some (.lst xs) ∧ DpAll K Ha xs (ls.map dLn) ∧ nkOf ls = (N.zip kd).take i ∧ ∀ l ∈ ls, FitLn (N.zip kd) W l) ⟨_, _, rfl, Fr.refl, row10, [], [], e10, .nil, by simp [nkOf], by simp⟩ (fun i σ Ha hi hPv => ?_) (fun σ Ha hPv => ?_)⟩
  case _ =>
    obtain ⟨y7, y8, rfl, fa, rowa, ls, xs, ea, da, hnk, hfit⟩ := hPv
    rw [Int.toNat_natCast] at hi
    have hi2 : i < kd.length := by omega
    have e0 : (0 + ((i : Nat) : Int)) = i := by omega
    rw [e0]
    walk_at "rz"
    refine s_take rowa (by omega) (by omega) fun nst Hb hst0 hst4 fb rowb => ?_
    have en10b := fb.at (fa.at en10 (by simp [hl4r, Ne.symm n104])) (by simp [hl4r])
    have el10b := fb.at (fa.at el10 (by simp [hl6r, Ne.symm n106])) (by simp [hl6r])
    have ew10b := fb.at (fa.at ew10 (by simp [hl9r, Ne.symm n109])) (by simp [hl9r])
    have ek10b := fb.at (fa.at ek10 (by simp [hl5r, Ne.symm n105])) (by simp [hl5r])
    have eab := fb.at ea (by simp [hl10r])
    have tl : tupds (ls.map dLn) = true := tupds_map tupd_dLn _
    have ts : ∀ l : List (Str × Key), tupds (l.map dSt) = true := fun l => tupds_map tupd_dSt l
    have dab := da.tk fb.tk tl
    walk_at "rz"
    refine ⟨by omega, by omega, lcR_row rowb (by omega) (fun _ s => FitSt (N.zip kd) W s) dSt tupd_dSt (fun j Hc Yes No hj fc rowc yes => ?_) (fun l11 Hd ys st hl11 fd rowd ed hsl hst dd => ?_)⟩
    · walk_at "rz"
      refine ⟨rfl, ?_⟩
      walk_at "rz"
      refine ⟨r, sc, ns, l4, l6, l9, N, L, W, N.zip kd, rfl, rowc, fc.at en10b (by simp [hl4r]), fc.at el10b (by simp [hl6r]), fc.at ew10b (by simp [hl9r]), hl4r, hl6r, hl9r, fun e => by rw [e] at hN6; simp at hN6, by omega, hLl, by omega, fun z hz => by rw [hz1]; exact hz, hLin, fun t s He fe rowe fit ds => ?_⟩
      exact yes _ _ s fe rowe fit ds
    have hst : ∀ s ∈ st, FitSt (N.zip kd) W s := fun s hs => by
      obtain ⟨_, h⟩ := rel_all hst s hs
      exact h
    have hl11r : l11 ≠ r := fun e => rowb.ex (by rw [← e]; exact hl11)
    have n1110 : l11 ≠ l10 := fun e => by rw [e, eab] at hl11; cases hl11
    have ead := fd.at eab (by simp [hl10r])
    have dad := dab.tk fd.tk tl
    have end_ := fd.at en10b (by simp [hl4r])
    have ekd := fd.at ek10b (by simp [hl5r])
    walk_at "rz"
    refine s_tyL ead ?_
    walk_at "rz"
    refine s_ixL (SqL.of end_) (atI_nat (gS_map hi)) ?_
    walk_at "rz"
    refine s_ixL (SqL.of ekd) (atI_nat (gS_map hi2)) ?_
    walk_at "rz"
    refine s_take rowd (by omega) (by omega) fun nr He hr0' hr9 fe rowe => ?_
    have ede := fe.at ed (by simp [hl11r])
    walk_at "rz"
    refine ⟨l11, ys, rfl, .inl ⟨SqL.of ede, fun t12 ht12 => ?_⟩⟩
    generalize eH : upd He t12 _ = Hf
    have sf := newS ht12 eH
    have ef := newE eH
    clear eH
    walk_at "rz"
    rename_i t13 ht13 Hg sg eg
    have eag := sg _ _ (sf _ _ (fe.at ead (by simp [hl10r])))
    have hxl : xs.length = i := by
      have h1 := da.len
      have h2 := congrArg List.length hnk
      unfold nkOf at h2
      rw [List.length_map] at h1
      rw [List.length_map, List.length_take, hzl] at h2
      omega
    refine s_append eag (by rw [sizeLine_eq]; omega) ?_
    generalize eH : upd Hg l10 _ = Hh
    have fh : Fr [l10] Hg Hh := by rw [← eH]; exact Fr.upd (by simp) eag rfl
    have eh := newE eH
    clear eH
    walk_at "rz"
    have fdg : Fr [r] Hd Hg := fe.trans (sf.fr.trans sg.fr)
    have fag : Fr [r] Ha Hg := (fb.trans fd).trans fdg
    have dst := ((dd.tk fe.tk (ts st)).same sf).same sg
    have d13 : Dp K Hg (.ref t13) (dLn ⟨gS N i, gS kd i, 1 + nr, st⟩) := .tup (SqT.of eg) (.cons (.str _) (.cons (.str _) (.cons (.int _) (.cons (.tup (sg.sqT (SqT.of ef)) dst) .nil))))
    have stl : st.length = (1 + nst).toNat := hsl
    refine ⟨_, _, rfl, (fa.trans (fag.mono (by simp))).trans (fh.mono (by simp)), hrow.kept ((rowe.same sf).same sg) fh (by simp [hl100]), ls ++ [⟨gS N i, gS kd i, 1 + nr, st⟩], _, eh, ?_, ?_, fun l hl => ?_⟩
    · rw [List.map_append]
      exact ((dad.tk fdg.tk tl).tk fh.tk tl).app (.cons (d13.tk fh.tk (tupd_dLn _)) .nil)
    · unfold nkOf at hnk ⊢
      rw [List.map_append, hnk, List.take_add_one, List.getElem?_zip_eq_some (z := (gS N i, gS kd i)) |>.mpr ⟨gS_eq hi, gS_eq hi2⟩]
      rfl
    · rcases List.mem_append.mp hl with hl | hl
      · exact hfit l hl
      · rw [List.mem_singleton.mp hl]
        refine ⟨nm6_A _ (hNi _ (List.mem_of_getElem? (gS_eq hi))), hkd _ (List.mem_of_getElem? (gS_eq hi2)), by show 1 ≤ 1 + nr; omega, by show 1 + nr ≤ 9; omega, fun e => ?_, by show st.length ≤ 8; omega, hst⟩
        have e : st = [] := e
        rw [e] at stl
        simp only [List.length_nil] at stl
        omega
  case _ =>
    obtain ⟨y7, y8, rfl, fa, rowa, ls, xs, ea, da, hnk, hfit⟩ := hPv
    rw [Int.toNat_natCast, ← hzl, List.take_length] at hnk
    have ewa := fa.at ew10 (by simp [hl9r, Ne.symm n109])
    have tl : tupds (ls.map dLn) = true := tupds_map tupd_dLn _
    have fra : Fr [r] H Ha := f110.seq fa (fun a ha => by
      simp only [List.mem_cons, List.not_mem_nil, or_false] at ha
      rcases ha with rfl | rfl
      · exact .inl (by simp)
      · exact .inr hl100)
    walk_at "rz"
    refine lcL_row ewa hl9r rowa (by rw [List.length_map]; omega) (fun k w => W[k]? = some w.nm ∧ FitWk w) dWk tupd_dWk (fun i x Hb Yes No hx fb rowb yes => ?_) (fun l11 Hb ys ws hl11 fb rowb eb wl hw db => ?_)
    · obtain ⟨z, hz, rfl⟩ : ∃ z, W[i]? = some z ∧ x = .str z := by
        rw [List.getElem?_map] at hx
        obtain ⟨z, h1, h2⟩ := Option.map_eq_some_iff.mp hx
        exact ⟨z, h1, h2.symm⟩
      walk_at "rz"
      refine ⟨rfl, ?_⟩
      walk_at "rz"
      refine s_take rowb (by omega) (by omega) fun n1 H5 h1 h2 f5 row5 => ?_
      walk_at "rz"
      refine s_take row5 (by omega) (by omega) fun n2 H6 h3 h4 f6 row6 => ?_
      walk_at "rz"
      rename_i p7 hp7 H7 s7 e7
      have hzA : z ∈ nmA := by
        have h := List.mem_of_getElem? hz
        rw [← hW] at h
        have h := List.mem_of_mem_take h
        revert h
        have : ∀ z ∈ nmW, z ∈ nmA := by decide
        exact this z
      exact yes _ _ ⟨z, 1 + n1, 1 + n2⟩ ((f5.trans f6).trans s7.fr) (row6.same s7) ⟨hz, hzA, by show 1 ≤ 1 + n1; omega, by show 1 + n1 ≤ 9; omega, by show 1 ≤ 1 + n2; omega, by show 1 + n2 ≤ 99; omega⟩ (.tup (SqT.of e7) (.cons (.str _) (.cons (.int _) (.cons (.int _) .nil))))
    rw [List.length_map] at wl
    have hwn : ws.map (·.nm) = W := by
      refine List.ext_getElem? fun i => ?_
      rw [List.getElem?_map]
      cases e : ws[i]? with
      | some w => exact (hw i w e).1.symm
      | none =>
        have := List.getElem?_eq_none_iff.mp e
        exact (List.getElem?_eq_none (show W.length ≤ i by omega)).symm
    have eab := fb.at ea (by simp [hl10r])
    have dab := da.tk fb.tk tl
    walk_at "rz"
    refine ⟨l10, xs, rfl, .inl ⟨SqL.of eab, fun t12 ht12 => ?_⟩⟩
    generalize eH : upd Hb t12 _ = Hc
    have sc1 := newS ht12 eH
    have ec := newE eH
    clear eH
    walk_at "rz"
    refine ⟨l11, ys, rfl, .inl ⟨SqL.of (sc1 _ _ eb), fun t13 ht13 => ?_⟩⟩
    generalize eH : upd Hc t13 _ = Hd
    have sd := newS ht13 eH
    have ed := newE eH
    clear eH
    walk_at "rz"
    rename_i t14 ht14 He se ee
    have s3 := sc1.trans (sd.trans se)
    have hnm : ls.map (·.nm) = N := by rw [← nk_names, hnk, hz1]
    refine q t14 t12 t13 ⟨ls, ws⟩ He ((fra.trans fb).trans s3.fr) (rowb.same s3) ⟨fun l hl => ?_, ?_, ?_, ?_, fun w hw' => ?_, kw, ?_⟩ (SqT.of ee) (.tup ((sd.trans se).sqT (SqT.of ec)) (dab.same s3)) (.tup (se.sqT (SqT.of ed)) ((db.same sc1).same (sd.trans se)))
    · show FitLn (nkOf ls) (ws.map (·.nm)) l
      rw [hnk, hwn]
      exact hfit l hl
    · show (ls.map (·.nm)).Nodup
      rw [hnm]
      exact hNd
    · show ls ≠ []
      rintro rfl
      rw [← hnm] at hN6
      simp at hN6
    · show ∀ z ∈ ls.map (·.nm), z ∈ nm6
      rw [hnm]
      exact hNi
    · obtain ⟨_, h⟩ := rel_all hw w hw'
      exact h.2
    · show ws.map (·.nm) = nmW.take kw
      rw [hwn, hW]
end
end T
set_option maxHeartbeats 1000000
namespace Z
open PySem PySem.Spec PyProof.Rows L2
open TL (tl joinL)
def txI (i : Int) : Str := Str.ofString (toString i)
def kT : Key → Str
  | .inl i => txI i
  | .inr z => z
def stW (s : Str × Key) : List Str := [s.1, kT s.2]
def lnW (l : Ln) : List Str := [("line" : Str), l.nm, l.kd, txI l.rk] ++ l.st.flatMap stW
def wkW (w : Wk) : List Str := [("work" : Str), w.nm, txI w.rk, txI w.tk]
def rowW (P : Pl) : List (List Str) := P.ls.map lnW ++ P.ws.map wkW
def rowsT (P : Pl) : List Str := (rowW P).map fun r => Txt.join " " r
def planT (P : Pl) : Str := Txt.join "\n" (rowsT P)
theorem join_more (S : List Nat) : ∀ (p : List Nat) (ps : List (List Nat)), joinL S (p :: ps) = p ++ ps.flatMap fun q => S ++ q
  | p, [] => by simp [joinL]
  | p, q :: r => by
    show p ++ (S ++ joinL S (q :: r)) = _
    rw [join_more S q r, List.flatMap_cons, List.append_assoc]
theorem tl_joinT (y : Str) (parts : List Str) : tl (Txt.join y parts) = joinL (tl y) (parts.map tl) := by rw [TL.join_eq, TL.tl_join]
def addS (t : Str) (s : Str × Key) : Str := t ++ " " ++ s.1 ++ " " ++ kT s.2
def addL (t : Str) (l : Ln) : Str := l.st.foldl addS (t ++ "\nline " ++ l.nm ++ " " ++ l.kd ++ " " ++ txI l.rk)
def addW (t : Str) (w : Wk) : Str := t ++ "\nwork " ++ w.nm ++ " " ++ txI w.rk ++ " " ++ txI w.tk
def rdF (p : Addr) (n s : Int) : List (Str × V) := [("parts", .ref p), ("number", .int n), ("spot", .int s)]
theorem rdF_p {p : Addr} {n s : Int} : (rdF p n s).lookup ("parts" : Str) = some (.ref p) := by kernel_rfl
theorem rdF_n {p : Addr} {n s : Int} : (rdF p n s).lookup ("number" : Str) = some (.int n) := by kernel_rfl
theorem rdF_s {p : Addr} {n s : Int} : (rdF p n s).lookup ("spot" : Str) = some (.int s) := by kernel_rfl
theorem rd1 {p : Addr} : putF ("parts" : Str) (.ref p) [] = [(("parts" : Str), V.ref p)] := by kernel_rfl
theorem rd2 {p : Addr} {n : Int} : putF ("number" : Str) (.int n) [(("parts" : Str), V.ref p)] = [(("parts" : Str), V.ref p), (("number" : Str), V.int n)] := by kernel_rfl
theorem rd3 {p : Addr} {n : Int} : putF ("spot" : Str) (.int 0) [(("parts" : Str), V.ref p), (("number" : Str), V.int n)] = rdF p n 0 := by kernel_rfl
theorem rd4 {p : Addr} {n s s' : Int} : putF ("spot" : Str) (.int s') (rdF p n s) = rdF p n s' := by kernel_rfl
theorem s_m1 {r : V → List V → Hp → VK → Prop} {to te : TE} {σ : L2.St} {H : Hp} {Q : VK} (q : to σ H fun x H1 => (∃ a, x = .str a) ∧ te σ H1 fun y H2 => r x [y] H2 Q) : tM1 r to te σ H Q := q
theorem at_str {ws : List Str} {s : Nat} {z : Str} (h : ws[s]? = some z) : (ws.map V.str)[s]? = some (.str z) := by rw [List.getElem?_map, h]; rfl
theorem flat_strsW (ys : List Str) : (ys.map V.str).all flatV = true := by
  rw [List.all_map]
  exact List.all_eq_true.mpr fun _ _ => rfl
def clean (z : Str) : Prop := 32 ∉ tl z ∧ 10 ∉ tl z
theorem nums100 : ∀ n : Fin 100, (32 ∉ tl (txI ((n : Nat) : Int)) ∧ 10 ∉ tl (txI ((n : Nat) : Int))) ∧ (1 ≤ (txI ((n : Nat) : Int)).length ∧ (txI ((n : Nat) : Int)).length ≤ 3) ∧ (tl (txI ((n : Nat) : Int))).all (fun c => decide (c ∈ tl ("0123456789" : Str))) = true ∧ (txI ((n : Nat) : Int) = ("0" : Str) ∨ (tl (txI ((n : Nat) : Int)))[0]? ≠ some 48) ∧ PySem.intText? (txI ((n : Nat) : Int)) = some ((n : Nat) : Int) := by
  decide +kernel
theorem num_ok {i : Int} (h0 : 0 ≤ i) (h1 : i < 100) : clean (txI i) ∧ 1 ≤ (txI i).length ∧ (txI i).length ≤ 3 ∧ ((txI i).cps.toList.all fun c => decide (c ∈ ("0123456789" : Str).cps.toList)) = true ∧ (txI i = ("0" : Str) ∨ (txI i).cps.toList[0]? ≠ some 48) ∧ PySem.intText? (txI i) = some i := by
  obtain ⟨n, rfl⟩ : ∃ n : Nat, i = (n : Int) := ⟨i.toNat, by omega⟩
  obtain ⟨a, b, c, d, e⟩ := nums100 ⟨n, by omega⟩
  exact ⟨a, b.1, b.2, c, d, e⟩
end Z
set_option maxHeartbeats 1000000
namespace Z
open PySem PySem.Spec PyProof.Rows L2
open He (ga ma)
theorem flat_preT {α β : Type} {l : List α} {k : α → List β} {i : Nat} {x : α} (h : l[i]? = some x) : l.flatMap k = (l.take i).flatMap k ++ (k x ++ (l.drop (i + 1)).flatMap k) := by
  obtain ⟨hi, e⟩ := List.getElem?_eq_some_iff.mp h
  conv => lhs; rw [← List.take_append_drop i l, List.drop_eq_getElem_cons hi, e]
  rw [List.flatMap_append, List.flatMap_cons]
theorem s_lc2T {K : Fg} {α β : Type} {l : List α} {da : α → PyData} {a : Addr} {xs : List V} {j0 : Nat} {t0 : TE} {g g1 : TG} {te : TE} {vs vs1 : List Nat} {σ : L2.St} {H1 : Hp} {Q : VK} (h0 : ∀ R : VK, R (.ref a) H1 → t0 σ H1 R) (hT : SqT K H1 a xs) (hA : DpAll K H1 xs (l.map da))
    (k : α → List β) (db f : β → PyData) (tb : ∀ y, tupd (db y) = true) (tf : ∀ y, tupd (f y) = true) (hn : (l.flatMap k).length ≤ 40000)
    (hs : ∀ x v H (R : L2.St → Hp → Prop), x ∈ l → Same H1 H → Dp K H v (da x) → (∀ σ2 b zs, wipe σ2 vs = wipe σ vs → σ2[j0]? = some (some (.ref b)) → SqT K H b zs → DpAll K H zs ((k x).map db) →
      (∀ y w H3 (Yes : VK) (No : Hp → Prop), y ∈ k x → Same H1 H3 → Dp K H3 w (db y) → (∀ u H4, Same H3 H4 → Dp K H4 u (f y) → Yes u H4) → g1 w (wipe σ2 vs1) H3 fun σ3 H5 => wipe σ3 vs1 = wipe σ2 vs1 ∧ tYes σ3 H5 fun c H6 => if c = true then te σ3 H6 Yes else No H6) → R σ2 H) → g v (wipe σ vs) H R)
    (hd : ∀ D H' ys, H1 D = none → Same H1 H' → H' D = some (.lst ys) → DpAll K H' ys ((l.flatMap k).map f) → Q (.ref D) H') :
    tLc2 (iTup K t0) g tYes (iTup K (tVar j0)) g1 tYes te vs vs1 σ H1 Q := by
  have hlen : xs.length = l.length := by rw [hA.len, List.length_map]
  have tfs : ∀ m : List β, tupds (m.map f) = true := fun m => tupds_map tf m
  have tbs : ∀ m : List β, tupds (m.map db) = true := fun m => tupds_map tb m
  refine h0 _ ⟨a, rfl, ⟨xs, hT⟩, fun D hD => ?_⟩
  have put : ∀ {H ys y}, Same H1 H → H D = some (.lst ys) → Same H1 (upd H D (.lst (ys ++ [y]))) := fun {H ys y} s e b o q => by
    rw [upd_ne (ne_of_none q hD)]
    exact s b o q
  refine ⟨fun i m H => m = l.length - i ∧ i ≤ l.length ∧ Same H1 H ∧ ∃ ys, H D = some (.lst ys) ∧ DpAll K H ys (((l.take i).flatMap k).map f), ⟨l.length, rfl, Nat.zero_le _, Same.new hD, [], upd_same, .nil⟩, ?_⟩
  rintro i m H ⟨rfl, hi, s1, ys, e1, a1⟩
  have hTH := s1.sqT hT
  by_cases hlt : i < l.length
  · refine .inr ⟨⟨xs, xs[i]'(by omega), hTH, by simp [show i < xs.length by omega]⟩, fun H' => i + 1 ≤ l.length ∧ Same H1 H' ∧ ∃ ys, H' D = some (.lst ys) ∧ DpAll K H' ys (((l.take (i + 1)).flatMap k).map f), fun H' ⟨q1, q2⟩ => ⟨l.length - (i + 1), by omega, rfl, q1, q2⟩, fun v H' y => ?_⟩
    obtain ⟨rfl, hv⟩ := y
    have hv' := hv xs hTH
    have hx : l[i]? = some l[i] := List.getElem?_eq_getElem hlt
    obtain ⟨d, hd', dd⟩ := (hA.same s1).getv hv'
    rw [List.getElem?_map, hx] at hd'
    cases hd'
    have fl := flat_preT (k := k) hx
    have tk1 : (l.take (i + 1)).flatMap k = (l.take i).flatMap k ++ k l[i] := by
      rw [List.take_add_one, hx, List.flatMap_append]
      show _ ++ List.flatMap k [l[i]] = _
      rw [List.flatMap_singleton]
    refine hs l[i] v H' _ (List.getElem_mem hlt) s1 dd fun σ2 b zs w2 hb hz hzA inn => ⟨w2, ?_⟩
    have lz : zs.length = (k l[i]).length := by rw [hzA.len, List.length_map]
    refine s_yes (ite_t rfl ?_)
    refine ⟨.ref b, hb, b, rfl, ⟨zs, hz⟩, ?_⟩
    refine ⟨fun j m H => m = zs.length - j ∧ j ≤ zs.length ∧ Same H1 H ∧ SqT K H b zs ∧ DpAll K H zs ((k l[i]).map db) ∧ ∃ ys, H D = some (.lst ys) ∧ DpAll K H ys (((l.take i).flatMap k ++ (k l[i]).take j).map f), ⟨zs.length, rfl, Nat.zero_le _, s1, hz, hzA, ys, e1, by rw [List.take_zero, List.append_nil]; exact a1⟩, ?_⟩
    rintro j m2 H2 ⟨rfl, hj, s2, hz2, hzA2, ys2, e2, a2⟩
    by_cases hjl : j < zs.length
    · refine .inr ⟨⟨zs, zs[j], hz2, by simp [hjl]⟩, fun H3 => j + 1 ≤ zs.length ∧ Same H1 H3 ∧ SqT K H3 b zs ∧ DpAll K H3 zs ((k l[i]).map db) ∧ ∃ ys, H3 D = some (.lst ys) ∧ DpAll K H3 ys (((l.take i).flatMap k ++ (k l[i]).take (j + 1)).map f), fun H3 ⟨q1, q2⟩ => ⟨zs.length - (j + 1), by omega, rfl, q1, q2⟩, fun w H3 y => ?_⟩
      obtain ⟨rfl, hw⟩ := y
      have hw' := hw zs hz2
      have hjk : j < (k l[i]).length := by omega
      have hy : (k l[i])[j]? = some (k l[i])[j] := List.getElem?_eq_getElem hjk
      obtain ⟨d, hd', dw⟩ := hzA2.getv hw'
      rw [List.getElem?_map, hy] at hd'
      cases hd'
      refine inn (k l[i])[j] w H3 _ _ (List.getElem_mem hjk) s2 dw fun u H4 s4 du => by
        have e4 := s4 _ _ e2
        have t := tk_upd (o := .lst (ys2 ++ [u])) e4
        have la : ys2.length = ((l.take i).flatMap k ++ (k l[i]).take j).length := by rw [a2.len, List.length_map]
        refine ⟨ys2, e4, ?_, ?_, put (s2.trans s4) e4, t.sqT (s4.sqT hz2), (hzA2.same s4).tk t (tbs _), _, upd_same, ?_⟩
        · rw [la, sizeLine_eq]
          have := congrArg List.length fl
          rw [List.length_append, List.length_append] at this
          rw [List.length_append, List.length_take]
          omega
        · omega
        · rw [List.take_add_one, hy]
          show DpAll K _ _ (((l.take i).flatMap k ++ ((k l[i]).take j ++ [(k l[i])[j]])).map f)
          rw [← List.append_assoc, List.map_append]
          exact ((a2.same s4).tk t (tfs _)).app (.cons (du.tk t (tf _)) .nil)
    · have ej : j = zs.length := by omega
      refine .inl ⟨⟨zs, hz2, by omega⟩, by omega, s2, ys2, e2, ?_⟩
      rw [tk1]
      rw [ej, lz, List.take_length] at a2
      exact a2
  · have ei : i = l.length := by omega
    refine .inl ⟨⟨xs, hTH, by omega⟩, ?_⟩
    rw [ei, List.take_length] at a1
    exact hd D H ys hD s1 e1 a1
section
variable {K : Fg} {g : TG} {tt : TT} {te : TE} {vs : List Nat} {σ : L2.St} {Q : VK} {a : Addr} {xs : List V} {H1 : Hp} {yss : List (List V)}
theorem lcT_newL (hT : SqT K H1 a xs) (hl : yss.length = xs.length) (hn : xs.length ≤ 40000)
    (hs : ∀ (i : Nat) (ys : List V) (v : V) (H : Hp) (Yes : VK) (No : Hp → Prop), xs[i]? = some v → yss[i]? = some ys → Same H1 H → (∀ l H4, Same H H4 → H l = none → H4 l = some (.lst ys) → Yes (.ref l) H4) →
      g v (wipe σ vs) H fun σ2 H2 => wipe σ2 vs = wipe σ vs ∧ tt σ2 H2 fun b H3 => if b = true then te σ2 H3 Yes else No H3)
    (hd : ∀ (D : Addr) (H' : Hp) (ls : List Addr), H1 D = none → Same H1 H' → H' D = some (.lst (ls.map V.ref)) → ls.Nodup → D ∉ ls → (∀ l ∈ ls, H1 l = none) → Lsts H' ls yss → Q (.ref D) H') : LcT K g tt te vs σ Q (.ref a) H1 := by
  refine ⟨a, rfl, ⟨xs, hT⟩, fun D hD => ?_⟩
  refine lc_it (walk_tup (K := K) (a := a) (xs := xs)) (fun i H => Fr [] H1 H ∧ ∃ ls, H D = some (.lst (ls.map V.ref)) ∧ ls.length = i ∧ ls.Nodup ∧ D ∉ ls ∧ (∀ l ∈ ls, H1 l = none) ∧ Lsts H ls (yss.take i))
    ⟨Fr.new hD, [], upd_same, rfl, .nil, by simp, by simp, .nil⟩ (fun i H _ p => p.1.same.sqT hT) (fun i x H H' hi p y => ?_) (fun H p => ?_)
  · obtain ⟨f, ls, eD, h1, h2, h3, h4, h5⟩ := p
    obtain ⟨rfl, hx⟩ := y
    have hi2 : i < yss.length := by omega
    have hz : yss[i]? = some yss[i] := List.getElem?_eq_getElem hi2
    refine hs i _ x _ _ _ hx hz f.same fun l H4 s4 hl4 e4 => ⟨ls.map V.ref, s4 _ _ eD, by rw [List.length_map, h1, sizeLine_eq]; omega, ?_⟩
    have lD : l ≠ D := fun e => by rw [e, eD] at hl4; cases hl4
    have fD : Fr [D] H4 (upd H4 D (.lst (ls.map V.ref ++ [.ref l]))) := Fr.upd (by simp) (s4 _ _ eD) rfl
    refine ⟨(f.trans s4.fr).seq fD fun b hb => .inr (by rw [List.mem_singleton.mp hb]; exact hD), ls ++ [l], by rw [upd_same, List.map_append]; rfl, by simp [h1], ?_, ?_, fun b hb => ?_, ?_⟩
    · rw [List.nodup_append]
      refine ⟨h2, by simp, fun b hb c hc e => ?_⟩
      rw [List.mem_singleton.mp hc] at e
      subst e
      obtain ⟨k, hk⟩ := List.mem_iff_getElem?.mp hb
      obtain ⟨zs, _, hz⟩ := h5.get hk
      rw [hz] at hl4
      cases hl4
    · rw [List.mem_append]
      rintro (h | h)
      · exact h3 h
      · exact lD (List.mem_singleton.mp h).symm
    · rcases List.mem_append.mp hb with hb | hb
      · exact h4 b hb
      · rw [List.mem_singleton.mp hb]
        exact f.back hl4
    · rw [List.take_add_one, hz]
      refine Lsts.app ((h5.keep (A := []) s4.fr (by simp)).keep fD fun b hb => ?_) (.cons (fD.at e4 (by simp [lD])) .nil)
      simp only [List.mem_singleton]
      exact fun e => h3 (e ▸ hb)
  · obtain ⟨f, ls, eD, h1, h2, h3, h4, h5⟩ := p
    rw [← hl, List.take_length] at h5
    exact hd D H ls hD f.same eD h2 h3 h4 h5
end
theorem lcLX_t {K : Fg} {σ : L2.St} {H1 : Hp} {Q : VK} {g : TG} {tt : TT} {te : TE} {vs : List Nat} {a : Addr} {xs : List V} (hT : SqL K H1 a xs) (f : Nat → PyData) (hn : xs.length ≤ 40000) (hf : ∀ i, i < xs.length → tupd (f i) = true)
    (hs : ∀ (i : Nat) (v : V) (H : Hp) (Yes : VK) (No : Hp → Prop), xs[i]? = some v → Same H1 H → (∀ y H4, Same H H4 → Dp K H4 y (f i) → Yes y H4) →
      g v (wipe σ vs) H fun σ2 H2 => wipe σ2 vs = wipe σ vs ∧ tt σ2 H2 fun b H3 => if b = true then te σ2 H3 Yes else No H3)
    (hd : ∀ D H' ys, H1 D = none → Same H1 H' → H' D = some (.lst ys) → DpAll K H' ys ((List.range xs.length).map f) → Q (.ref D) H') : LcL K g tt te vs σ Q (.ref a) H1 := by
  refine ⟨a, rfl, ⟨xs, hT⟩, fun D hD => ?_⟩
  have hz : ∀ {i : Nat}, i < xs.length → (List.range xs.length)[i]? = some i := fun {i} h => List.getElem?_range h
  refine lc_dat (K := K) walk_list (pAt (List.range xs.length) fun _ => true) (dAt (List.range xs.length) f) hD hn (dAt_tupd fun x hx => hf x (List.mem_range.mp hx)) (fun H s => s.seq hT) (fun i H x H' y => by rw [y.1]; exact Same.refl H) (fun i x H H' Yes No hi s1 y yes no => ?_) (fun H' ys s1 e1 a1 => ?_)
  · obtain ⟨rfl, hx⟩ := y
    rw [pAt_eq (hz hi), dAt_eq (hz hi)] at yes
    exact hs i x H' Yes No hx s1 fun y H4 s d => yes rfl y H4 s d
  · have k := keptD_list (l := List.range xs.length) (p := fun _ => true) (f := f)
    rw [List.length_range] at k
    rw [k, List.filter_eq_self.mpr (fun _ _ => rfl)] at a1
    exact hd D H' ys hD s1 e1 a1
theorem range_map {α β : Type} (xs : List α) (f : α → β) (d : α) : (List.range xs.length).map (fun i => f (xs.getD i d)) = xs.map f := by
  apply List.ext_getElem?
  intro i
  rw [List.getElem?_map, List.getElem?_map]
  by_cases hi : i < xs.length
  · rw [List.getElem?_range hi, List.getElem?_eq_getElem hi]
    show some (f (xs.getD i d)) = some (f xs[i])
    rw [List.getD_eq_getElem?_getD, List.getElem?_eq_getElem hi]
    rfl
  · rw [List.getElem?_eq_none (by rw [List.length_range]; omega), List.getElem?_eq_none (Nat.le_of_not_lt hi)]
    rfl
theorem sum_len {k : Nat} : ∀ {ws : List Str}, (∀ w ∈ ws, w.length ≤ k) → (ws.map (·.length)).sum ≤ ws.length * k
  | [], _ => Nat.zero_le _
  | w :: ws, h => by
    rw [List.map_cons, List.sum_cons, List.length_cons, Nat.add_mul, Nat.one_mul]
    have := sum_len (ws := ws) fun w hw => h w (List.mem_cons_of_mem _ hw)
    have := h w List.mem_cons_self
    omega
def rJoinK (K : Fg) : V → List V → Hp → VK → Prop := fun x xs H Q => ∃ a p, ∃ ys : List Str, x = .str a ∧ xs = [.ref p] ∧ (SqL K H p (ys.map V.str) ∨ SqT K H p (ys.map V.str)) ∧ (ys.map (·.length)).sum + ys.length * a.length ≤ 16777216 ∧ Q (.str (Txt.join a ys)) H
theorem pe_joinK {X : Cx} (K : Fg) {o e : Expr} {to te : TE} {apos pos : Pos} (ho : PE X o to) (he : PE X e te) (hK : X.K = K := by rfl) (hs : starEach [e] X.env = [(false, eval e X.env)] := by rfl) (hbase : attributeBase o "join" X.env (eval o X.env) = eval o X.env := by rfl) (hline : (apos.endLine == pos.line) = true := by rfl) :
    PE X (.Call (.Attribute o "join" apos) [e] [] pos) (tM1 (rJoinK K) to te) := by
  subst hK
  exact pe_join ho he hs hbase hline
def lnV (l : Ln) : List V := [.str ("line" : Str), .str l.nm, .str l.kd, .int l.rk] ++ (l.st.flatMap fun s => [(.inr s.1 : Key), s.2]).map kV
def wkV (x : Wk) : List V := [.str ("work" : Str), .str x.nm, .int x.rk, .int x.tk]
theorem dp_keys {K : Fg} {H : Hp} : ∀ {ks : List Key} {ys : List V}, DpAll K H ys (ks.map kD) → ys = ks.map kV
  | [], _, .nil => rfl
  | .inl i :: ks, _, .cons h t => by
    cases h
    rw [List.map_cons, dp_keys t]
    rfl
  | .inr z :: ks, _, .cons h t => by
    cases h
    rw [List.map_cons, dp_keys t]
    rfl
def txV : V → Str
  | .int i => txI i
  | .str z => z
  | _ => ""
theorem tx_keys (ks : List Key) : (ks.map kV).map txV = ks.map kT := by
  rw [List.map_map]
  refine List.map_congr_left fun k _ => ?_
  cases k <;> rfl
theorem tx_line (l : Ln) : (lnV l).map txV = lnW l := by
  unfold lnV lnW
  rw [List.map_append, tx_keys, List.map_flatMap]
  rfl
end Z
set_option maxHeartbeats 1000000
namespace Z
open PySem PySem.Spec PyProof.Rows L2
open TL (tl)
def allS : List Str := ["run", "bar", "later", "ring", "quiet", "mask", "unmask", "set", "clear", "await"]
def namS : List Str := ["later", "ring", "quiet", "mask", "unmask"]
def isWd (z : Str) : Bool := isWord (.str z)
def digS : List Nat := ("0123456789" : Str).cps.toList
def isNum (z : Str) : Bool := decide (1 ≤ z.length) && (decide (z.length ≤ 3) && ((z.cps.toList.all fun c => decide (c ∈ digS)) && (decide (z = ("0" : Str)) || !decide (z.cps.toList[0]? = some 48))))
def goodL (ws : List Str) : Nat → Bool
  | 0 => true
  | 1 => isWd (ws.getD 1 "")
  | 2 => decide (ws.getD 2 "" ∈ (["edge", "level"] : List Str))
  | 3 => isNum (ws.getD 3 "")
  | k + 4 => if k % 2 = 0 then decide (ws.getD (k + 4) "" ∈ allS) else if ws.getD (k + 3) "" ∈ namS then isWd (ws.getD (k + 4) "") else isNum (ws.getD (k + 4) "")
def goodW (ws : List Str) : Nat → Bool
  | 0 => true
  | 1 => isWd (ws.getD 1 "")
  | 2 => isNum (ws.getD 2 "")
  | 3 => isNum (ws.getD 3 "")
  | _ + 4 => false
def firstBad (g : Nat → Bool) (n : Nat) : Option Nat := (List.range' 1 (max n 4 - 1)).find? fun k => decide (n ≤ k) || !g k
def wrongL (ws : List Str) : Option Nat := match firstBad (goodL ws) ws.length with
  | some k => some k
  | none => if ws.length % 2 = 1 then some ws.length else none
def wrongW (ws : List Str) : Option Nat := firstBad (goodW ws) ws.length
def wrongR (ws : List Str) (behind : Bool) : Option Nat := if ws.getD 0 "" = ("line" : Str) then (if behind then some 0 else wrongL ws) else if ws.getD 0 "" = ("work" : Str) then wrongW ws else some 0
theorem find_range {p : Nat → Bool} : ∀ {n a k : Nat}, a ≤ k → k < a + n → p k = true → (∀ j, a ≤ j → j < k → p j = false) → (List.range' a n).find? p = some k
  | 0, a, k, h1, h2, _, _ => by omega
  | n + 1, a, k, h1, h2, h3, h4 => by
    rw [List.range'_succ, List.find?_cons]
    by_cases e : a = k
    · rw [e, h3]
    · rw [h4 a (Nat.le_refl _) (by omega)]
      exact find_range (by omega) (by omega) h3 fun j hj => h4 j (by omega)
theorem find_range0 {p : Nat → Bool} {n a : Nat} (h : ∀ j, a ≤ j → j < a + n → p j = false) : (List.range' a n).find? p = none := List.find?_eq_none.mpr fun x hx => by
  obtain ⟨i, hi, rfl⟩ := List.mem_range'.mp hx
  rw [h _ (by omega) (by omega)]
  exact Bool.false_ne_true
theorem bad_some {g : Nat → Bool} {n k : Nat} (h1 : 1 ≤ k) (hk : k < max n 4) (hb : n ≤ k ∨ g k = false) (hg : ∀ j, 1 ≤ j → j < k → j < n ∧ g j = true) : firstBad g n = some k := by
  refine find_range h1 (by omega) ?_ fun j hj hjk => ?_
  · rcases hb with h | h
    · rw [decide_eq_true h]; rfl
    · rw [h]; exact Bool.or_true _
  · obtain ⟨a, b⟩ := hg j hj hjk
    rw [decide_eq_false (by omega), b]
    rfl
theorem bad_none {g : Nat → Bool} {n : Nat} (h4 : 4 ≤ n) (hg : ∀ j, 1 ≤ j → j < n → g j = true) : firstBad g n = none := find_range0 fun j hj hjk => by
  rw [decide_eq_false (by omega), hg j hj (by omega)]
  rfl
theorem wrongL_some {ws : List Str} {k : Nat} (h1 : 1 ≤ k) (hk : k < max ws.length 4) (hb : ws.length ≤ k ∨ goodL ws k = false) (hg : ∀ j, 1 ≤ j → j < k → j < ws.length ∧ goodL ws j = true) : wrongL ws = some k := by
  unfold wrongL
  rw [bad_some h1 hk hb hg]
theorem wrongL_odd {ws : List Str} (h4 : 4 ≤ ws.length) (ho : ws.length % 2 = 1) (hg : ∀ j, 1 ≤ j → j < ws.length → goodL ws j = true) : wrongL ws = some ws.length := by
  unfold wrongL
  rw [bad_none h4 hg]
  exact if_pos ho
theorem wrongL_none {ws : List Str} (h4 : 4 ≤ ws.length) (he : ws.length % 2 = 0) (hg : ∀ j, 1 ≤ j → j < ws.length → goodL ws j = true) : wrongL ws = none := by
  unfold wrongL
  rw [bad_none h4 hg]
  exact if_neg (by omega)
theorem nums1 : ∀ a : Fin 10, txI ((a : Nat) : Int) = (⟨#[48 + a.1]⟩ : Str) ∧ PySem.intText? (⟨#[48 + a.1]⟩ : Str) = some ((a : Nat) : Int) := by decide +kernel
theorem nums2 : ∀ a b : Fin 10, a.1 ≠ 0 → txI ((10 * a.1 + b.1 : Nat) : Int) = (⟨#[48 + a.1, 48 + b.1]⟩ : Str) ∧ PySem.intText? (⟨#[48 + a.1, 48 + b.1]⟩ : Str) = some ((10 * a.1 + b.1 : Nat) : Int) := by decide +kernel
theorem nums3 : ∀ a b c : Fin 10, a.1 ≠ 0 → txI ((100 * a.1 + 10 * b.1 + c.1 : Nat) : Int) = (⟨#[48 + a.1, 48 + b.1, 48 + c.1]⟩ : Str) ∧ PySem.intText? (⟨#[48 + a.1, 48 + b.1, 48 + c.1]⟩ : Str) = some ((100 * a.1 + 10 * b.1 + c.1 : Nat) : Int) := by decide +kernel
theorem dig_fin {c : Nat} (h : c ∈ digS) : ∃ a : Fin 10, c = 48 + a.1 := by
  have h : c ∈ [48, 49, 50, 51, 52, 53, 54, 55, 56, 57] := by
    have e : digS = [48, 49, 50, 51, 52, 53, 54, 55, 56, 57] := by decide +kernel
    rw [← e]; exact h
  simp only [List.mem_cons, List.not_mem_nil, or_false] at h
  exact ⟨⟨c - 48, by omega⟩, by show c = 48 + (c - 48); omega⟩
theorem num_read {z : Str} (h : isNum z = true) : ∃ i : Int, 0 ≤ i ∧ i < 1000 ∧ txI i = z ∧ PySem.intText? z = some i := by
  unfold isNum at h
  simp only [Bool.and_eq_true, decide_eq_true_eq] at h
  obtain ⟨h1, h3, hd, hz⟩ := h
  obtain ⟨⟨l⟩⟩ := z
  have h1 : 1 ≤ l.length := h1
  have h3 : l.length ≤ 3 := h3
  have hd : ∀ c ∈ l, c ∈ digS := fun c hc => of_decide_eq_true (List.all_eq_true.mp (show l.all _ = true from hd) c hc)
  have z0 : ∀ a : Fin 10, l[0]? = some (48 + a.1) → l.length ≠ 1 → a.1 ≠ 0 := fun a ha hl e => by
    rw [Bool.or_eq_true] at hz
    rcases hz with hz | hz
    · have e2 := of_decide_eq_true hz
      have e3 : (⟨⟨l⟩⟩ : Str).length = ("0" : Str).length := congrArg Str.length e2
      exact hl (show l.length = 1 from e3)
    · have hz : (!decide (l[0]? = some 48)) = true := hz
      rw [ha, e] at hz
      simp at hz
  match l, h1, h3, hd, z0 with
  | [c], _, _, hd, _ =>
    obtain ⟨a, rfl⟩ := dig_fin (hd c (by simp))
    obtain ⟨e1, e2⟩ := nums1 a
    exact ⟨(a : Nat), by omega, by have := a.2; omega, e1, e2⟩
  | [c, d], _, _, hd, z0 =>
    obtain ⟨a, rfl⟩ := dig_fin (hd c (by simp))
    obtain ⟨b, rfl⟩ := dig_fin (hd d (by simp))
    obtain ⟨e1, e2⟩ := nums2 a b (z0 a rfl (by simp))
    exact ⟨((10 * a.1 + b.1 : Nat) : Int), by omega, by have := a.2; have := b.2; omega, e1, e2⟩
  | [c, d, f], _, _, hd, z0 =>
    obtain ⟨a, rfl⟩ := dig_fin (hd c (by simp))
    obtain ⟨b, rfl⟩ := dig_fin (hd d (by simp))
    obtain ⟨g, rfl⟩ := dig_fin (hd f (by simp))
    obtain ⟨e1, e2⟩ := nums3 a b g (z0 a rfl (by simp))
    exact ⟨((100 * a.1 + 10 * b.1 + g.1 : Nat) : Int), by omega, by have := a.2; have := b.2; have := g.2; omega, e1, e2⟩
theorem log_small {s : Nat} (h : s < 65536) : Nat.log2 s < 1920 := by
  by_cases e : s = 0
  · subst e; decide
  · exact Nat.lt_of_lt_of_le ((Nat.log2_lt e).mpr (show s < 2 ^ 16 from h)) (by decide)
theorem join_splitT (x y : Str) : Txt.join y (Txt.split x y) = x := by rw [TL.join_eq]; exact PySem.StrLaws.join_split x y
theorem split_ne (x : Str) {y : Str} (h : Txt.split "" y ≠ []) : Txt.split x y ≠ [] := fun e => by
  have := join_splitT x y
  rw [e] at this
  have e2 : x = "" := this.symm
  rw [e2] at e
  exact h e
theorem split_ne1 (x : Str) : Txt.split x " " ≠ [] := split_ne x (by decide +kernel)
theorem split_ne2 (x : Str) : Txt.split x "\n" ≠ [] := split_ne x (by decide +kernel)
theorem part_len {y : Str} : ∀ {ws : List Str} {w : Str}, w ∈ ws → w.length ≤ (Txt.join y ws).length
  | v :: ws, w, h => by
    have e : (Txt.join y (v :: ws)).length = v.length + (ws.flatMap fun q => tl y ++ tl q).length := by
      show _ = _
      rw [show (Txt.join y (v :: ws)).length = (tl (Txt.join y (v :: ws))).length from (TL.len_tl _).symm, tl_joinT, List.map_cons, join_more, List.length_append, List.flatMap_map, TL.len_tl]
    rw [e]
    rcases List.mem_cons.mp h with rfl | h
    · exact Nat.le_add_right _ _
    · have : (tl w).length ≤ (ws.flatMap fun q => tl y ++ tl q).length := by
        obtain ⟨a, b, rfl⟩ := List.append_of_mem h
        rw [List.flatMap_append, List.flatMap_cons]
        simp only [List.length_append]
        omega
      have e3 : w.length = (tl w).length := TL.len_tl w
      omega
theorem parts_len {y : Str} (hy : 1 ≤ y.length) : ∀ {ws : List Str}, ws.length ≤ (Txt.join y ws).length + 1
  | [] => by simp
  | v :: ws => by
    have e : (Txt.join y (v :: ws)).length = v.length + (ws.flatMap fun q => tl y ++ tl q).length := by
      rw [show (Txt.join y (v :: ws)).length = (tl (Txt.join y (v :: ws))).length from (TL.len_tl _).symm, tl_joinT, List.map_cons, join_more, List.length_append, List.flatMap_map, TL.len_tl]
    have h : ∀ us : List Str, us.length ≤ (us.flatMap fun q => tl y ++ tl q).length := fun us => by
      induction us with
      | nil => exact Nat.le_refl _
      | cons u us ih =>
        rw [List.flatMap_cons, List.length_append, List.length_append, List.length_cons]
        have e3 : y.length = (tl y).length := TL.len_tl y
        omega
    have := h ws
    rw [e, List.length_cons]
    omega
theorem word_le {x y w : Str} (h : w ∈ Txt.split x y) : w.length ≤ x.length := by
  have := part_len (y := y) h
  rw [join_splitT] at this
  exact this
theorem words_le {x y : Str} (hy : 1 ≤ y.length) : (Txt.split x y).length ≤ x.length + 1 := by
  have := parts_len (y := y) hy (ws := Txt.split x y)
  rw [join_splitT] at this
  exact this
end Z
set_option maxHeartbeats 1000000
namespace Z
open PySem PySem.Spec PyProof.Rows L2
open TL (tl)
inductive RS : Str × Key → Prop
  | num (w : Str) (i : Int) : w ∈ allS → w ∉ namS → 0 ≤ i → i < 1000 → isNum (txI i) = true → RS (w, .inl i)
  | nam (w z : Str) : w ∈ namS → isWd z = true → z.length ≤ 40000 → RS (w, .inr z)
structure RLn (l : Ln) : Prop where
  nm : isWd l.nm = true
  sh : l.nm.length ≤ 40000
  kd : l.kd ∈ (["edge", "level"] : List Str)
  r0 : 0 ≤ l.rk
  r1 : l.rk < 1000
  st : ∀ s ∈ l.st, RS s
structure RWk (x : Wk) : Prop where
  nm : isWd x.nm = true
  sh : x.nm.length ≤ 40000
  r0 : 0 ≤ x.rk
  r1 : x.rk < 1000
  t0 : 0 ≤ x.tk
  t1 : x.tk < 1000
def wrongLine (ws : List Str) : Option Nat := if ws.getD 0 "" = ("line" : Str) then wrongL ws else some 0
theorem getD_of {ws : List Str} {i : Nat} {x : Str} (h : ws[i]? = some x) : ws.getD i "" = x := by
  rw [List.getD_eq_getElem?_getD, h]
  rfl
theorem goodL_ev (ws : List Str) (j : Nat) : goodL ws (4 + 2 * j) = decide (ws.getD (4 + 2 * j) "" ∈ allS) := by
  rw [Nat.add_comm]
  show (if (2 * j) % 2 = 0 then _ else _) = _
  rw [if_pos (by omega)]
theorem goodL_od (ws : List Str) (j : Nat) : goodL ws (4 + 2 * j + 1) = if ws.getD (4 + 2 * j) "" ∈ namS then isWd (ws.getD (4 + 2 * j + 1) "") else isNum (ws.getD (4 + 2 * j + 1) "") := by
  rw [show 4 + 2 * j + 1 = (2 * j + 1) + 4 by omega, show 4 + 2 * j = (2 * j + 1) + 3 by omega]
  show (if (2 * j + 1) % 2 = 0 then _ else _) = _
  rw [if_neg (by omega)]
theorem take4 {ws : List Str} {a b c d : Str} (h0 : ws[0]? = some a) (h1 : ws[1]? = some b) (h2 : ws[2]? = some c) (h3 : ws[3]? = some d) : ws.take 4 = [a, b, c, d] := by
  match ws, h0, h1, h2, h3 with
  | _ :: _ :: _ :: _ :: _, h0, h1, h2, h3 =>
    cases h0; cases h1; cases h2; cases h3
    rfl
theorem len_of {ws : List Str} {i : Nat} {x : Str} (h : ws[i]? = some x) : i < ws.length := (List.getElem?_eq_some_iff.mp h).1
theorem wrongLine_l {ws : List Str} (h : ws[0]? = some ("line" : Str)) : wrongLine ws = wrongL ws := if_pos (getD_of h)
theorem wrongLine_n {ws : List Str} {x : Str} (h : ws[0]? = some x) (n : x ≠ ("line" : Str)) : wrongLine ws = some 0 := if_neg (by rw [getD_of h]; exact n)
theorem lnW_more (a b : Str) (r : Int) (l : List (Str × Key)) (s : Str × Key) : lnW ⟨a, b, r, l ++ [s]⟩ = lnW ⟨a, b, r, l⟩ ++ [s.1, kT s.2] := by
  unfold lnW
  rw [List.flatMap_append, List.append_assoc]
  show _ ++ (_ ++ List.flatMap stW [s]) = _
  rw [List.flatMap_singleton]
  rfl
theorem take_more {ws : List Str} {k : Nat} {a b : Str} (h1 : ws[k]? = some a) (h2 : ws[k + 1]? = some b) : ws.take (k + 2) = ws.take k ++ [a, b] := by
  rw [show k + 2 = (k + 1) + 1 by omega, List.take_add_one, h2, List.take_add_one, h1, List.append_assoc]
  rfl
theorem wrongW_some {ws : List Str} {k : Nat} (h1 : 1 ≤ k) (hk : k < max ws.length 4) (hb : ws.length ≤ k ∨ goodW ws k = false) (hg : ∀ j, 1 ≤ j → j < k → j < ws.length ∧ goodW ws j = true) : wrongW ws = some k := bad_some h1 hk hb hg
theorem wd_all {z : Str} (h : isWd z = true) : ∀ c ∈ z.cps.toList, c ∈ letters := fun c hc => by
  have h : (!decide (V.str z = V.str "") && z.cps.toList.all fun c => decide (c ∈ letters)) = true := h
  exact of_decide_eq_true (List.all_eq_true.mp (Bool.and_eq_true_iff.mp h).2 c hc)
end Z
set_option maxHeartbeats 1000000
namespace Z
open PySem PySem.Spec PyProof.Rows L2
open TL (tl)
def rowsOf (T : Str) : List (List Str) := (Txt.split T "\n").map fun r => Txt.split r " "
def isWorkR (r : List Str) : Bool := decide (r.getD 0 "" = ("work" : Str))
def wrongK (rows : List (List Str)) (k : Nat) : Option Nat := if isWorkR (rows.getD k []) = true ∧ k = 0 then some 0 else wrongR (rows.getD k []) (decide (0 < k) && isWorkR (rows.getD (k - 1) []))
def FirstW (rows : List (List Str)) (k w : Nat) : Prop := k < rows.length ∧ wrongK rows k = some w ∧ ∀ j, j < k → wrongK rows j = none
def NoWr (rows : List (List Str)) : Prop := ∀ j, j < rows.length → wrongK rows j = none
theorem rows_ne (T : Str) : rowsOf T ≠ [] := fun e => split_ne2 T (List.map_eq_nil_iff.mp e)
theorem row_ne {T : Str} {r : List Str} (h : r ∈ rowsOf T) : r ≠ [] := by
  obtain ⟨x, _, rfl⟩ := List.mem_map.mp h
  exact split_ne1 x
theorem rows_len (T : Str) : (rowsOf T).length ≤ T.length + 1 := by
  unfold rowsOf
  rw [List.length_map]
  exact words_le (by decide +kernel)
theorem row_len {T : Str} {r : List Str} (h : r ∈ rowsOf T) : r.length ≤ T.length + 1 ∧ ∀ w ∈ r, w.length ≤ T.length := by
  obtain ⟨x, hx, rfl⟩ := List.mem_map.mp h
  have h1 := word_le hx
  exact ⟨Nat.le_trans (words_le (by decide +kernel)) (by omega), fun w hw => Nat.le_trans (word_le hw) h1⟩
theorem getR {rows : List (List Str)} {i : Nat} {r : List Str} (h : rows[i]? = some r) : rows.getD i [] = r := by
  rw [List.getD_eq_getElem?_getD, h]
  rfl
theorem isWork_l (l : Ln) : isWorkR (lnW l) = false := by
  show decide (("line" : Str) = ("work" : Str)) = false
  decide +kernel
theorem isWork_w (x : Wk) : isWorkR (wkW x) = true := by
  show decide (("work" : Str) = ("work" : Str)) = true
  decide +kernel
structure Read (rows : List (List Str)) (i : Nat) (L : List Ln) (W : List Wk) : Prop where
  le : i ≤ rows.length
  eq : rows.take i = L.map lnW ++ W.map wkW
  no : ∀ j, j < i → wrongK rows j = none
  ln : ∀ l ∈ L, RLn l
  wk : ∀ x ∈ W, RWk x
  ne : W ≠ [] → L ≠ []
theorem Read.nil (rows : List (List Str)) : Read rows 0 [] [] := ⟨Nat.zero_le _, rfl, fun j h => by omega, fun l h => by (cases h), fun l h => by (cases h), fun h => absurd rfl h⟩
theorem Read.len {rows : List (List Str)} {i : Nat} {L : List Ln} {W : List Wk} (h : Read rows i L W) : L.length + W.length = i := by
  have e := congrArg List.length h.eq
  have l := h.le
  rw [List.length_append, List.length_map, List.length_map, List.length_take] at e
  omega
theorem Read.zero {rows : List (List Str)} {i : Nat} {L : List Ln} {W : List Wk} (h : Read rows i L W) : L = [] ↔ i = 0 := by
  have e := h.len
  constructor
  · intro k
    subst k
    by_cases w : W = []
    · subst w
      exact e.symm
    · exact absurd rfl (h.ne w)
  · intro k
    cases L with
    | nil => rfl
    | cons x L => simp at e; omega
theorem Read.behind {rows : List (List Str)} {i : Nat} {L : List Ln} {W : List Wk} (h : Read rows i L W) : (decide (0 < i) && isWorkR (rows.getD (i - 1) [])) = !decide (W = []) := by
  by_cases hi : 0 < i
  · rw [decide_eq_true hi, Bool.true_and]
    have e := h.len
    have hle := h.le
    have e2 : rows.getD (i - 1) [] = (rows.take i).getD (i - 1) [] := by
      rw [List.getD_eq_getElem?_getD, List.getD_eq_getElem?_getD, List.getElem?_take, if_pos (by omega)]
    rw [e2, h.eq]
    by_cases w : W = []
    · subst w
      rw [List.map_nil, List.append_nil]
      simp at e
      obtain ⟨l, hl⟩ : ∃ l, L[i - 1]? = some l := ⟨_, List.getElem?_eq_getElem (by omega)⟩
      have : (L.map lnW).getD (i - 1) [] = lnW l := getR (by rw [List.getElem?_map, hl]; rfl)
      rw [this, isWork_l]
      rfl
    · have wl := List.length_pos_iff.mpr w
      obtain ⟨x, hx⟩ : ∃ x, W[i - 1 - L.length]? = some x := ⟨_, List.getElem?_eq_getElem (by omega)⟩
      have : (L.map lnW ++ W.map wkW).getD (i - 1) [] = wkW x := getR (by rw [List.getElem?_append_right (by rw [List.length_map]; omega), List.length_map, List.getElem?_map, hx]; rfl)
      rw [this, isWork_w, decide_eq_false w]
      rfl
  · have e := h.len
    have : W = [] := List.eq_nil_of_length_eq_zero (by omega)
    rw [decide_eq_false hi, this]
    rfl
theorem Read.wrong {rows : List (List Str)} {i : Nat} {L : List Ln} {W : List Wk} (h : Read rows i L W) {r : List Str} (hr : rows[i]? = some r) : wrongK rows i = if isWorkR r = true ∧ L = [] then some 0 else wrongR r (!decide (W = [])) := by
  unfold wrongK
  rw [getR hr, h.behind]
  by_cases k : isWorkR r = true ∧ L = []
  · rw [if_pos ⟨k.1, h.zero.mp k.2⟩, if_pos k]
  · rw [if_neg (fun e => k ⟨e.1, h.zero.mpr e.2⟩), if_neg k]
theorem work_line {r : List Str} (h : isWorkR r = true) : r.getD 0 "" ≠ ("line" : Str) := fun e => by
  unfold isWorkR at h
  rw [e] at h
  exact absurd h (by decide +kernel)
theorem Read.wrongW {rows : List (List Str)} {i : Nat} {L : List Ln} {W : List Wk} (h : Read rows i L W) {r : List Str} (hr : rows[i]? = some r) (hw : isWorkR r = true) (hL : L ≠ []) : wrongK rows i = Z.wrongW r := by
  rw [h.wrong hr, if_neg (fun k => hL k.2)]
  unfold wrongR
  rw [if_neg (work_line hw), if_pos (of_decide_eq_true hw)]
theorem Read.wrongN {rows : List (List Str)} {i : Nat} {L : List Ln} {W : List Wk} (h : Read rows i L W) {r : List Str} (hr : rows[i]? = some r) (hw : isWorkR r = false ∨ L = []) : wrongK rows i = if W = [] then wrongLine r else some 0 := by
  rw [h.wrong hr]
  by_cases k : isWorkR r = true
  · have hL : L = [] := by
      rcases hw with e | e
      · rw [e] at k; cases k
      · exact e
    rw [if_pos ⟨k, hL⟩]
    have hW : W = [] := Classical.byContradiction fun w => h.ne w hL
    rw [if_pos hW]
    unfold wrongLine
    rw [if_neg (work_line k)]
  · rw [if_neg (fun e => k e.1)]
    unfold wrongR wrongLine
    by_cases e : r.getD 0 "" = ("line" : Str)
    · rw [if_pos e, if_pos e]
      by_cases w : W = []
      · rw [if_pos w, decide_eq_true w]
        rfl
      · rw [if_neg w, decide_eq_false w]
        rfl
    · rw [if_neg e, if_neg e, if_neg (fun x => k (decide_eq_true x))]
      split <;> rfl
theorem Read.addL {rows : List (List Str)} {i : Nat} {L : List Ln} (h : Read rows i L []) {l : Ln} (hr : rows[i]? = some (lnW l)) (g : RLn l) (n : wrongK rows i = none) : Read rows (i + 1) (L ++ [l]) [] := by
  refine ⟨?_, ?_, fun j hj => ?_, fun x hx => ?_, h.wk, fun k => absurd rfl k⟩
  · have := (List.getElem?_eq_some_iff.mp hr).1
    omega
  · rw [List.take_add_one, hr, h.eq]
    simp
  · by_cases e : j = i
    · rw [e]; exact n
    · exact h.no j (by omega)
  · rcases List.mem_append.mp hx with hx | hx
    · exact h.ln x hx
    · rw [List.mem_singleton.mp hx]; exact g
theorem Read.addW {rows : List (List Str)} {i : Nat} {L : List Ln} {W : List Wk} (h : Read rows i L W) {x : Wk} (hr : rows[i]? = some (wkW x)) (g : RWk x) (n : wrongK rows i = none) (hL : L ≠ []) : Read rows (i + 1) L (W ++ [x]) := by
  refine ⟨?_, ?_, fun j hj => ?_, h.ln, fun y hy => ?_, fun _ => hL⟩
  · have := (List.getElem?_eq_some_iff.mp hr).1
    omega
  · rw [List.take_add_one, hr, h.eq]
    simp
  · by_cases e : j = i
    · rw [e]; exact n
    · exact h.no j (by omega)
  · rcases List.mem_append.mp hy with hy | hy
    · exact h.wk y hy
    · rw [List.mem_singleton.mp hy]; exact g
theorem read_text {T : Str} {L : List Ln} {W : List Wk} (h : L.map lnW ++ W.map wkW = rowsOf T) : planT ⟨L, W⟩ = T := by
  have e : rowsT ⟨L, W⟩ = Txt.split T "\n" := by
    show (L.map lnW ++ W.map wkW).map (fun r => Txt.join " " r) = _
    rw [h]
    unfold rowsOf
    rw [List.map_map]
    conv => rhs; rw [← List.map_id (Txt.split T "\n")]
    exact List.map_congr_left fun r _ => join_splitT r " "
  show Txt.join "\n" (rowsT ⟨L, W⟩) = T
  rw [e]
  exact join_splitT T "\n"
end Z
set_option maxHeartbeats 1000000
namespace T
open PySem PySem.Spec PyProof.Rows L2 Z
open He (ga ma)
theorem good_bad {ok : PyData → Bool} {most : Nat} {ls : List PyData} : GoodL ok most ls ∨ ∃ k, BadAt ok most ls k := by
  have step : ∀ n, n ≤ ls.length → (∃ k, BadAt ok most ls k) ∨ (n ≤ most ∧ (∀ d ∈ ls.take n, ok d = true) ∧ ((ls.take n).map nameD).Nodup) := fun n => by
    induction n with
    | zero => exact fun _ => .inr ⟨Nat.zero_le _, by simp, by simp⟩
    | succ n ih =>
      intro hn
      rcases ih (by omega) with h | ⟨h1, h2, h3⟩
      · exact .inl h
      obtain ⟨d, hd⟩ : ∃ d, ls[n]? = some d := ⟨_, List.getElem?_eq_getElem (by omega)⟩
      by_cases e : n = most
      · exact .inl ⟨n, by omega, ⟨d, hd, .inl e⟩, h2, h3⟩
      rcases Bool.eq_false_or_eq_true (ok d) with e2 | e2
      · by_cases e3 : nameD d ∈ (ls.take n).map nameD
        · exact .inl ⟨n, h1, ⟨d, hd, .inr (.inr ⟨e2, e3⟩)⟩, h2, h3⟩
        · refine .inr ⟨by omega, ?_, ?_⟩
          · rw [List.take_add_one, hd]
            intro y hy
            rcases List.mem_append.mp hy with hy | hy
            · exact h2 y hy
            · rw [List.mem_singleton.mp hy]; exact e2
          · rw [List.take_add_one, hd, List.map_append]
            refine List.nodup_append.mpr ⟨h3, by simp, ?_⟩
            intro a ha b hb
            rw [List.mem_singleton.mp hb]
            exact fun e => e3 (e ▸ ha)
      · exact .inl ⟨n, h1, ⟨d, hd, .inr (.inl e2)⟩, h2, h3⟩
  rcases step ls.length (Nat.le_refl _) with h | ⟨h1, h2, h3⟩
  · exact .inr h
  · rw [List.take_length] at h2 h3
    exact .inl ⟨h1, h2, h3⟩
theorem first_no {α : Type} (p : α → Bool) : ∀ l : List α, (∀ x ∈ l, p x = true) ∨ ∃ (k : Nat) (x : α), l[k]? = some x ∧ p x = false ∧ ∀ (j : Nat) (y : α), j < k → l[j]? = some y → p y = true
  | [] => .inl fun x h => by (cases h)
  | x :: l => by
    rcases Bool.eq_false_or_eq_true (p x) with e | e
    · rcases first_no p l with h | ⟨k, y, h1, h2, h3⟩
      · exact .inl fun y hy => by
          rcases List.mem_cons.mp hy with rfl | hy
          · exact e
          · exact h y hy
      · refine .inr ⟨k + 1, y, h1, h2, fun j z hj hz => ?_⟩
        cases j with
        | zero => cases hz; exact e
        | succ j => exact h3 j z (by omega) hz
    · exact .inr ⟨0, x, rfl, e, fun j y hj => by omega⟩
theorem wd_lay {z : Str} (h : isWd z = true) : (PyData.str z).canLay0 = true := by
  show z.cps.all (· < 0x110000) = true
  rw [Array.all_eq_true_iff_forall_mem]
  intro c hc
  have := wd_all h c (Array.mem_toList_iff.mpr hc)
  exact decide_eq_true ((by decide +kernel : ∀ c ∈ letters, c < 0x110000) c this)
theorem short_strT {z : Str} (h : z.length ≤ 40000) : short (.str z) = true := by
  unfold short
  exact decide_eq_true h
theorem allS_sh : ∀ w ∈ allS, short (.str w) = true := by decide +kernel
theorem short_ln {l : Ln} (g : RLn l) : short (dLn l) = true := by
  show (short (.str l.nm) && (short (.str l.kd) && (true && (shorts (l.st.map dSt) && true)))) = true
  rw [short_strT g.sh, (by decide +kernel : ∀ w ∈ (["edge", "level"] : List Str), short (.str w) = true) _ g.kd, shorts_map fun s hs => ?_]
  · rfl
  · cases g.st s hs with
    | num w i h1 h2 h3 h4 h5 =>
      show (short (.str w) && (true && true)) = true
      rw [allS_sh w h1]
      rfl
    | nam w z h1 h2 h3 =>
      show (short (.str w) && (short (.str z) && true)) = true
      rw [allS_sh w ((by decide +kernel : ∀ w ∈ namS, w ∈ allS) w h1), short_strT h3]
      rfl
theorem short_wk {x : Wk} (g : RWk x) : short (dWk x) = true := by
  show (short (.str x.nm) && (true && (true && true))) = true
  rw [short_strT g.sh]
  rfl
theorem read_total {K : Fg} {L : List Ln} {W : List Wk} {H : Hp} {E : XK} (hL : L ≠ []) (gl : ∀ l ∈ L, RLn l) (gw : ∀ x ∈ W, RWk x) (e : ∀ p k dx H', Same H H' → H' dx = some (xdS p k) → E (.ref (ga K "InvalidSetup")) (some dx) H') :
    Pl.Ok ⟨L, W⟩ ∨ RefS K (.tuple (L.map dLn)) (.tuple (W.map dWk)) H E := by
  have shL : shorts (L.map dLn) = true := shorts_map fun l hl => short_ln (gl l hl)
  have shW : shorts (W.map dWk) = true := shorts_map fun l hl => short_wk (gw l hl)
  have ne : L.map dLn ≠ [] := fun k => hL (List.map_eq_nil_iff.mp k)
  rcases good_bad (ok := isLine) (most := 12) (ls := L.map dLn) with g1 | ⟨k, b⟩
  · rcases good_bad (ok := isWork) (most := 8) (ls := W.map dWk) with g2 | ⟨k, b⟩
    · have ek : kindsX (L.map fun l => (l.nm, l.kd, .int l.rk, l.st.map dSt)) = Pl.kinds ⟨L, W⟩ := by
        unfold kindsX
        rw [List.map_map]
        rfl
      have ew : ((W.map fun x => ((x.nm, .int x.rk, .int x.tk) : Wx)).map fun x => V.str x.1) = (Pl.wnames ⟨L, W⟩).map V.str := by
        unfold Pl.wnames
        rw [List.map_map, List.map_map]
        rfl
      rcases first_no (fun l : Ln => (l.st.map dSt).all (isStep (Pl.kinds ⟨L, W⟩) ((Pl.wnames ⟨L, W⟩).map V.str))) L with h | ⟨k, l, h1, h2, h3⟩
      · refine .inl ⟨hL, ?_, ?_, fun l hl => g1.ok _ (List.mem_map_of_mem hl), fun x hx => g2.ok _ (List.mem_map_of_mem hx), ?_, ?_, fun l hl s hs => List.all_eq_true.mp (h l hl) _ (List.mem_map_of_mem hs), fun l hl => short_ln (gl l hl), fun x hx => ⟨short_wk (gw x hx), wd_lay (gw x hx).nm⟩⟩
        · have := g1.le; rw [List.length_map] at this; exact this
        · have := g2.le; rw [List.length_map] at this; exact this
        · have := g1.nd
          rw [List.map_map] at this
          exact this
        · have := g2.nd
          rw [List.map_map] at this
          exact this
      · refine .inr ⟨"handlers", k, e _ _, .inr ⟨_, rfl, ne, shL, .inr ⟨g1, .inr ⟨_, rfl, shW, .inr ⟨g2, rfl, L.map fun l => (l.nm, l.kd, .int l.rk, l.st.map dSt), ?_, W.map fun x => (x.nm, .int x.rk, .int x.tk), ?_, ⟨(l.nm, l.kd, .int l.rk, l.st.map dSt), ?_, ?_⟩, fun j x hj hx => ?_⟩⟩⟩⟩⟩
        · rw [List.map_map]; rfl
        · rw [List.map_map]; rfl
        · rw [List.getElem?_map, h1]; rfl
        · rw [ek, ew]
          exact h2
        · rw [ek, ew]
          rw [List.getElem?_map] at hx
          obtain ⟨y, hy, rfl⟩ := Option.map_eq_some_iff.mp hx
          exact h3 j y hj hy
    · exact .inr ⟨"works", k, e _ _, .inr ⟨_, rfl, ne, shL, .inr ⟨g1, .inr ⟨_, rfl, shW, .inl ⟨rfl, b⟩⟩⟩⟩⟩
  · exact .inr ⟨"lines", k, e _ _, .inr ⟨_, rfl, ne, shL, .inl ⟨rfl, b⟩⟩⟩
end T
set_option maxHeartbeats 1000000
namespace Z
open PySem PySem.Spec PyProof.Rows L2
open TL (tl)
structure ReadAll (T : Str) (P : Pl) : Prop where
  eq : P.ls.map lnW ++ P.ws.map wkW = rowsOf T
  ln : ∀ l ∈ P.ls, RLn l
  wk : ∀ x ∈ P.ws, RWk x
theorem tx_all : ∀ i : Fin 1000, PySem.intText? (txI ((i : Nat) : Int)) = some ((i : Nat) : Int) := by decide +kernel
theorem tx_inj {i j : Int} (i0 : 0 ≤ i) (i1 : i < 1000) (j0 : 0 ≤ j) (j1 : j < 1000) (h : txI i = txI j) : i = j := by
  obtain ⟨a, rfl⟩ : ∃ a : Nat, i = (a : Int) := ⟨i.toNat, by omega⟩
  obtain ⟨b, rfl⟩ : ∃ b : Nat, j = (b : Int) := ⟨j.toNat, by omega⟩
  have h1 := tx_all ⟨a, by omega⟩
  have h2 := tx_all ⟨b, by omega⟩
  have h1 : PySem.intText? (txI (a : Int)) = some (a : Int) := h1
  have h2 : PySem.intText? (txI (b : Int)) = some (b : Int) := h2
  rw [h] at h1
  rw [h1] at h2
  exact Option.some.inj h2
theorem st_inj {s t : Str × Key} (hs : RS s) (ht : RS t) (h : stW s = stW t) : s = t := by
  cases hs with
  | num w i h1 h2 h3 h4 h5 =>
    cases ht with
    | num v j k1 k2 k3 k4 k5 =>
      have h : [w, txI i] = [v, txI j] := h
      injection h with e1 e2
      injection e2 with e2 _
      rw [e1, tx_inj h3 h4 k3 k4 e2]
    | nam v z k1 k2 k3 =>
      have h : [w, txI i] = [v, z] := h
      injection h with e1 e2
      exact absurd (e1 ▸ k1) h2
  | nam w z h1 h2 h3 =>
    cases ht with
    | num v j k1 k2 k3 k4 k5 =>
      have h : [w, z] = [v, txI j] := h
      injection h with e1 e2
      exact absurd (e1 ▸ h1) k2
    | nam v y k1 k2 k3 =>
      have h : [w, z] = [v, y] := h
      injection h with e1 e2
      injection e2 with e2 _
      rw [e1, e2]
theorem sts_inj : ∀ {l m : List (Str × Key)}, (∀ s ∈ l, RS s) → (∀ s ∈ m, RS s) → l.flatMap stW = m.flatMap stW → l = m
  | [], [], _, _, _ => rfl
  | [], t :: m, _, _, h => by
    rw [List.flatMap_cons] at h
    cases h
  | s :: l, [], _, _, h => by
    rw [List.flatMap_cons] at h
    cases h
  | s :: l, t :: m, hl, hm, h => by
    rw [List.flatMap_cons, List.flatMap_cons] at h
    have h : s.1 :: kT s.2 :: l.flatMap stW = t.1 :: kT t.2 :: m.flatMap stW := h
    injection h with e1 h
    injection h with e2 h
    have e : s = t := st_inj (hl s List.mem_cons_self) (hm t List.mem_cons_self) (by
      show [s.1, kT s.2] = [t.1, kT t.2]
      rw [e1, e2])
    rw [e, sts_inj (fun x hx => hl x (List.mem_cons_of_mem _ hx)) (fun x hx => hm x (List.mem_cons_of_mem _ hx)) h]
theorem ln_inj {l m : Ln} (hl : RLn l) (hm : RLn m) (h : lnW l = lnW m) : l = m := by
  obtain ⟨a, b, r, s⟩ := l
  obtain ⟨c, d, q, t⟩ := m
  have h : ("line" : Str) :: a :: b :: txI r :: s.flatMap stW = ("line" : Str) :: c :: d :: txI q :: t.flatMap stW := h
  injection h with _ h
  injection h with e1 h
  injection h with e2 h
  injection h with e3 h
  have e3 := tx_inj hl.r0 hl.r1 hm.r0 hm.r1 e3
  have e4 := sts_inj hl.st hm.st h
  have e3 : r = q := e3
  have e4 : s = t := e4
  rw [e1, e2, e3, e4]
theorem wk_inj {x y : Wk} (hx : RWk x) (hy : RWk y) (h : wkW x = wkW y) : x = y := by
  obtain ⟨a, r, s⟩ := x
  obtain ⟨c, q, t⟩ := y
  have h : [("work" : Str), a, txI r, txI s] = [("work" : Str), c, txI q, txI t] := h
  injection h with _ h
  injection h with e1 h
  injection h with e2 h
  injection h with e3 h
  have e2 := tx_inj hx.r0 hx.r1 hy.r0 hy.r1 e2
  have e3 := tx_inj hx.t0 hx.t1 hy.t0 hy.t1 e3
  have e2 : r = q := e2
  have e3 : s = t := e3
  rw [e1, e2, e3]
theorem wks_inj : ∀ {V W : List Wk}, (∀ x ∈ V, RWk x) → (∀ x ∈ W, RWk x) → V.map wkW = W.map wkW → V = W
  | [], [], _, _, _ => rfl
  | [], _ :: _, _, _, h => by cases h
  | _ :: _, [], _, _, h => by cases h
  | x :: V, y :: W, hV, hW, h => by
    rw [List.map_cons, List.map_cons] at h
    injection h with h1 h2
    rw [wk_inj (hV x List.mem_cons_self) (hW y List.mem_cons_self) h1, wks_inj (fun z hz => hV z (List.mem_cons_of_mem _ hz)) (fun z hz => hW z (List.mem_cons_of_mem _ hz)) h2]
theorem rows_inj : ∀ {L M : List Ln} {V W : List Wk}, (∀ l ∈ L, RLn l) → (∀ l ∈ M, RLn l) → (∀ x ∈ V, RWk x) → (∀ x ∈ W, RWk x) → L.map lnW ++ V.map wkW = M.map lnW ++ W.map wkW → L = M ∧ V = W
  | [], [], V, W, _, _, hV, hW, h => ⟨rfl, wks_inj hV hW h⟩
  | [], m :: M, V, W, _, _, _, _, h => by
    cases V with
    | nil => cases h
    | cons x V =>
      have h : wkW x :: _ = lnW m :: _ := h
      injection h with h _
      have e := isWork_w x
      rw [h, isWork_l] at e
      cases e
  | l :: L, [], V, W, _, _, _, _, h => by
    cases W with
    | nil => cases h
    | cons x W =>
      have h : lnW l :: _ = wkW x :: _ := h
      injection h with h _
      have e := isWork_w x
      rw [← h, isWork_l] at e
      cases e
  | l :: L, m :: M, V, W, hL, hM, hV, hW, h => by
    have h : lnW l :: (L.map lnW ++ V.map wkW) = lnW m :: (M.map lnW ++ W.map wkW) := h
    injection h with h1 h2
    obtain ⟨e1, e2⟩ := rows_inj (fun z hz => hL z (List.mem_cons_of_mem _ hz)) (fun z hz => hM z (List.mem_cons_of_mem _ hz)) hV hW h2
    exact ⟨by rw [ln_inj (hL l List.mem_cons_self) (hM m List.mem_cons_self) h1, e1], e2⟩
theorem ReadAll.one {T : Str} {P Q : Pl} (h : ReadAll T P) (k : ReadAll T Q) : P = Q := by
  obtain ⟨e1, e2⟩ := rows_inj h.ln k.ln h.wk k.wk (h.eq.trans k.eq.symm)
  obtain ⟨a, b⟩ := P
  obtain ⟨c, d⟩ := Q
  have e1 : a = c := e1
  have e2 : b = d := e2
  rw [e1, e2]
theorem ReadAll.text {T : Str} {P : Pl} (h : ReadAll T P) : planT P = T := read_text h.eq
end Z
set_option maxHeartbeats 1000000
namespace Z
open PySem PySem.Spec PyProof.Rows L2
open He (ga ma)
section
variable {K : Fg} {g : TG} {tt : TT} {te : TE} {vs : List Nat} {σ : L2.St} {Q : VK} {a : Addr} {xs : List V} {H1 : Hp} {yss : List (List V)}
theorem lcL_newL (hT : SqL K H1 a xs) (hl : yss.length = xs.length) (hn : xs.length ≤ 40000)
    (hs : ∀ (i : Nat) (ys : List V) (v : V) (H : Hp) (Yes : VK) (No : Hp → Prop), xs[i]? = some v → yss[i]? = some ys → Same H1 H → (∀ l H4, Same H H4 → H l = none → H4 l = some (.lst ys) → Yes (.ref l) H4) →
      g v (wipe σ vs) H fun σ2 H2 => wipe σ2 vs = wipe σ vs ∧ tt σ2 H2 fun b H3 => if b = true then te σ2 H3 Yes else No H3)
    (hd : ∀ (D : Addr) (H' : Hp) (ls : List Addr), H1 D = none → Same H1 H' → H' D = some (.lst (ls.map V.ref)) → ls.Nodup → D ∉ ls → (∀ l ∈ ls, H1 l = none) → Lsts H' ls yss → Q (.ref D) H') : LcL K g tt te vs σ Q (.ref a) H1 := by
  refine ⟨a, rfl, ⟨xs, hT⟩, fun D hD => ?_⟩
  refine lc_it (walk_list (K := K) (a := a) (xs := xs)) (fun i H => Fr [] H1 H ∧ ∃ ls, H D = some (.lst (ls.map V.ref)) ∧ ls.length = i ∧ ls.Nodup ∧ D ∉ ls ∧ (∀ l ∈ ls, H1 l = none) ∧ Lsts H ls (yss.take i))
    ⟨Fr.new hD, [], upd_same, rfl, .nil, by simp, by simp, .nil⟩ (fun i H _ p => p.1.same.seq hT) (fun i x H H' hi p y => ?_) (fun H p => ?_)
  · obtain ⟨f, ls, eD, h1, h2, h3, h4, h5⟩ := p
    obtain ⟨rfl, hx⟩ := y
    have hi2 : i < yss.length := by omega
    have hz : yss[i]? = some yss[i] := List.getElem?_eq_getElem hi2
    refine hs i _ x _ _ _ hx hz f.same fun l H4 s4 hl4 e4 => ⟨ls.map V.ref, s4 _ _ eD, by rw [List.length_map, h1, sizeLine_eq]; omega, ?_⟩
    have lD : l ≠ D := fun e => by rw [e, eD] at hl4; cases hl4
    have fD : Fr [D] H4 (upd H4 D (.lst (ls.map V.ref ++ [.ref l]))) := Fr.upd (by simp) (s4 _ _ eD) rfl
    refine ⟨(f.trans s4.fr).seq fD fun b hb => .inr (by rw [List.mem_singleton.mp hb]; exact hD), ls ++ [l], by rw [upd_same, List.map_append]; rfl, by simp [h1], ?_, ?_, fun b hb => ?_, ?_⟩
    · rw [List.nodup_append]
      refine ⟨h2, by simp, fun b hb c hc e => ?_⟩
      rw [List.mem_singleton.mp hc] at e
      subst e
      obtain ⟨k, hk⟩ := List.mem_iff_getElem?.mp hb
      obtain ⟨zs, _, hz⟩ := h5.get hk
      rw [hz] at hl4
      cases hl4
    · rw [List.mem_append]
      rintro (h | h)
      · exact h3 h
      · exact lD (List.mem_singleton.mp h).symm
    · rcases List.mem_append.mp hb with hb | hb
      · exact h4 b hb
      · rw [List.mem_singleton.mp hb]
        exact f.back hl4
    · rw [List.take_add_one, hz]
      refine Lsts.app ((h5.keep (A := []) s4.fr (by simp)).keep fD fun b hb => ?_) (.cons (fD.at e4 (by simp [lD])) .nil)
      simp only [List.mem_singleton]
      exact fun e => h3 (e ▸ hb)
  · obtain ⟨f, ls, eD, h1, h2, h3, h4, h5⟩ := p
    rw [← hl, List.take_length] at h5
    exact hd D H ls hD f.same eD h2 h3 h4 h5
end
end Z
set_option maxHeartbeats 1000000
namespace Z
open PySem PySem.Spec PyProof.Rows L2
open TL (tl)
def tot (ws : List Str) : Nat := (ws.map fun w => w.length + 1).sum
theorem tot_app (a b : List Str) : tot (a ++ b) = tot a + tot b := by
  unfold tot
  rw [List.map_append, List.sum_append]
theorem tot_cons (w : Str) (b : List Str) : tot (w :: b) = w.length + 1 + tot b := by
  unfold tot
  rw [List.map_cons, List.sum_cons]
theorem join_eqT {y : Str} (hy : y.length = 1) : ∀ {ws : List Str}, ws ≠ [] → (Txt.join y ws).length + 1 = tot ws
  | [], h => absurd rfl h
  | v :: ws, _ => by
    have e : (Txt.join y (v :: ws)).length = v.length + (ws.flatMap fun q => tl y ++ tl q).length := by
      rw [show (Txt.join y (v :: ws)).length = (tl (Txt.join y (v :: ws))).length from (TL.len_tl _).symm, tl_joinT, List.map_cons, join_more, List.length_append, List.flatMap_map, TL.len_tl]
    have h : ∀ us : List Str, (us.flatMap fun q => tl y ++ tl q).length = tot us := fun us => by
      induction us with
      | nil => rfl
      | cons u us ih =>
        rw [List.flatMap_cons, List.length_append, List.length_append, tot_cons, ih]
        have e3 : y.length = (tl y).length := TL.len_tl y
        have e4 : u.length = (tl u).length := TL.len_tl u
        omega
    rw [e, h, tot_cons]
    omega
theorem join_tot {y : Str} (hy : y.length = 1) (ws : List Str) : (Txt.join y ws).length ≤ tot ws := by
  by_cases e : ws = []
  · subst e
    exact Nat.le_of_eq (by rw [show (Txt.join y []).length = (tl (Txt.join y [])).length from (TL.len_tl _).symm, tl_joinT]; rfl)
  · have := join_eqT hy e
    omega
theorem split_tot {x y : Str} (hy : y.length = 1) (h : Txt.split x y ≠ []) : tot (Txt.split x y) = x.length + 1 := by
  have := join_eqT hy h
  rw [join_splitT] at this
  exact this.symm
theorem tot_cut (ws : List Str) {a b : Nat} (h : a ≤ b) : tot (ws.take a) + tot (ws.drop b) ≤ tot ws := by
  have e1 : tot ws = tot (ws.take a) + tot (ws.drop a) := by rw [← tot_app, List.take_append_drop]
  have e2 : tot (ws.drop a) = tot ((ws.drop a).take (b - a)) + tot (ws.drop b) := by
    rw [← tot_app]
    conv => lhs; rw [← List.take_append_drop (b - a) (ws.drop a)]
    rw [List.drop_drop, show a + (b - a) = b by omega]
  omega
theorem tot_set (ws : List Str) (k : Nat) (x : Str) : tot (ws.set k x) ≤ tot ws + x.length + 1 := by
  induction ws generalizing k with
  | nil => exact Nat.zero_le _
  | cons w ws ih =>
    cases k with
    | zero => rw [List.set_cons_zero, tot_cons, tot_cons]; omega
    | succ k =>
      rw [List.set_cons_succ, tot_cons, tot_cons]
      have := ih k
      omega
theorem tot_mem {ws : List Str} {w : Str} (h : w ∈ ws) : w.length + 1 ≤ tot ws := by
  obtain ⟨a, b, rfl⟩ := List.append_of_mem h
  rw [tot_app, tot_cons]
  omega
theorem tot_len (ws : List Str) : ws.length ≤ tot ws := by
  induction ws with
  | nil => exact Nat.zero_le _
  | cons w ws ih => rw [tot_cons, List.length_cons]; omega
theorem tot_join {y : Str} (hy : y.length = 1) (ws : List Str) : (ws.map (·.length)).sum + ws.length * y.length = tot ws := by
  rw [hy, Nat.mul_one]
  induction ws with
  | nil => rfl
  | cons w ws ih => rw [List.map_cons, List.sum_cons, List.length_cons, tot_cons]; omega
end Z
set_option maxHeartbeats 1000000
namespace Z
open PySem PySem.Spec PyProof.Rows L2
def flatW (n : Nat) (d : PyData) : Prop := d.canLay0 = true ∧ d.depth ≤ n
theorem flatW.mono {n m : Nat} {d : PyData} (h : flatW n d) (hm : n ≤ m) : flatW m d := ⟨h.1, Nat.le_trans h.2 hm⟩
theorem flatWs {n : Nat} : ∀ {l : List PyData}, (∀ d ∈ l, flatW n d) → PyData.canLayAll0 l = true ∧ PyData.depthAll l ≤ n
  | [], _ => ⟨rfl, Nat.zero_le _⟩
  | x :: l, h => by
    obtain ⟨h1, h2⟩ := h x List.mem_cons_self
    obtain ⟨h3, h4⟩ := flatWs (l := l) fun d hd => h d (List.mem_cons_of_mem _ hd)
    exact ⟨by show (x.canLay0 && PyData.canLayAll0 l) = true; rw [h1, h3]; rfl, by show max x.depth (PyData.depthAll l) ≤ n; omega⟩
theorem flatW_tup {n : Nat} {l : List PyData} (h : ∀ d ∈ l, flatW n d) : flatW (n + 1) (.tuple l) := by
  obtain ⟨h1, h2⟩ := flatWs h
  exact ⟨h1, show PyData.depthAll l + 1 ≤ n + 1 by omega⟩
theorem flatW.shaped {n : Nat} {d : PyData} (h : flatW n d) (hn : n ≤ 64) : SeqAt.shaped d = true := by
  show (d.canLay0 && decide (d.depth ≤ 64)) = true
  rw [h.1, decide_eq_true (Nat.le_trans h.2 hn)]
  rfl
theorem shaped_eqvW {d : PyData} (h : SeqAt.shaped d = true) : PyData.eqv d d = true := SeqAt.eqv_refl _ (SeqAt.canLay_of_shaped h)
theorem flatW_int (i : Int) : flatW 0 (.int i) := ⟨rfl, Nat.le_refl _⟩
theorem flatW_str {z : Str} (h : (PyData.str z).canLay0 = true) : flatW 0 (.str z) := ⟨h, Nat.le_refl _⟩
end Z
set_option maxHeartbeats 4000000
namespace T
open PySem PySem.Spec PyProof.Rows L2 Z
open He (ga ma)
open TL (tl)
local macro_rules | `(tactic| walk_at "z") => `(tactic| with_reducible first | refine ⟨_, _, rfl, rfl, ?_⟩ | refine ⟨_, rfl, ?_⟩)
local macro_rules | `(tactic| walk_at "z") => `(tactic| ((with_reducible refine s_isi (d := ?d1) ?h1 ?h2 ?q1); (case h1 => first | assumption | constructor); (case h2 => decide)))
local macro_rules | `(tactic| walk_at "z") => `(tactic| with_reducible first | refine s_tup ?_ | refine s_lst ?_)
local macro_rules | `(tactic| walk_at "z") => `(tactic| ((with_reducible refine s_ne ?h1 ?q1); (case h1 => exact rfl)))
local macro_rules | `(tactic| walk_at "z") => `(tactic| ((with_reducible refine s_eq ?h1 ?q1); (case h1 => exact rfl)))
local macro_rules | `(tactic| walk_at "z") => `(tactic| with_reducible first | refine s_dcT ?_ | refine s_cvalg ?_ | refine s_fldS ?_ | refine s_I0 ?_ | refine s_U ?_)
local macro_rules | `(tactic| walk_at "z") => `(tactic| with_reducible first | refine s_make ?_ | refine s_sl ?_ | refine s_nop ?_ | refine s_part ?_ | refine s_lcE ?_ | refine s_lc ?_)
local macro_rules | `(tactic| walk_at "z") => `(tactic| with_reducible first | refine s_for ?_ | refine s_rng1 ?_ | refine s_iT ?_ | refine s_iL ?_ | refine Or.inl (Exists.intro _ (And.intro rfl ?_)) | refine Or.inr (Exists.intro _ (And.intro rfl ?_)))
local macro_rules | `(tactic| walk_at "z") => `(tactic| with_reducible first | refine s_tupRg ?_ | refine s_lstRg ?_ | refine s_rg1 ?_ | refine s_items ?_ | refine s_get2 ?_ | refine s_callI ?_)
local macro_rules | `(tactic| walk_at "z") => `(tactic| with_reducible first | refine s_fldaug ?_ | refine s_add ?_ | refine s_ipI ?_ | refine s_ixO ?_ | refine s_lcL ?_ | refine s_dputg ?_)
local macro_rules | `(tactic| walk_at "z") => `(tactic| with_reducible first | refine s_daugg ?_ | refine s_disp ?_ | refine s_pcons ?_ | refine s_pnil ?_ | refine s_gsub ?_ | refine s_augS ?_)
local macro_rules | `(tactic| walk_at "z") => `(tactic| with_reducible first | refine s_bm ?_ | refine s_bm0 ?_ | refine s_fldg ?_ | refine s_meth ?_ | refine s_prop ?_ | refine s_lcT ?_)
local macro_rules | `(tactic| walk_at "z") => `(tactic| with_reducible first | refine s_yes ?_ | refine s_gcons ?_ | refine s_gnil ?_ | refine s_din ?_ | refine s_dnin ?_ | refine s_dget ?_)
local macro_rules | `(tactic| walk_at "z") => `(tactic| with_reducible first | refine s_orV ?_ | refine s_notV ?_ | refine s_if ?_ | refine s_chain ?_ | refine s_call ?_ | refine s_bl ?_)
local macro_rules | `(tactic| walk_at "z") => `(tactic| with_reducible first | refine s_test ?_ | refine s_B ?_ | refine s_and ?_ | refine s_or ?_ | refine s_not ?_ | refine s_andV ?_)
local macro_rules | `(tactic| walk_at "z") => `(tactic| with_reducible first | refine s_op ?_ | refine s_un ?_ | refine s_cb ?_ | refine s_cons ?_ | refine s_nil ?_ | refine s_star ?_)
local macro_rules | `(tactic| walk_at "z") => `(tactic| ((with_reducible refine s_var (v := ?v1) ?h1 ?q1); (case h1 => exact rfl)))
local macro_rules | `(tactic| walk_at "z") => `(tactic| with_reducible refine s_c ?_)
local macro_rules | `(tactic| walk_at "z") => `(tactic| with_reducible first | refine s_drop ?_ | refine s_next ?_ | refine s_cont ?_ | refine s_break ?_ | refine s_par ?_ | refine s_par2 ?_)
local macro_rules | `(tactic| walk_at "z") => `(tactic| with_reducible first | refine s_seq ?_ | refine s_asg ?_ | refine s_gname ?_ | refine s_ret ?_ | refine s_retN ?_ | refine s_ifS ?_)
local macro_rules | `(tactic| walk_at "zi") => `(tactic| ((with_reducible refine ite_t ?h1 ?q1); (case h1 => rfl)))
local macro_rules | `(tactic| walk_at "zi") => `(tactic| ((with_reducible refine ite_f ?h1 ?q1); (case h1 => rfl)))
local macro_rules | `(tactic| walk_at "zi") => `(tactic| walk_at "z")
local macro_rules | `(tactic| walk_at "zn") => `(tactic| (intro p hp; generalize eH : upd _ p _ = H2; have s2 := newS hp eH; have e2 := newE eH; clear eH))
local macro_rules | `(tactic| walk_at "zt") => `(tactic| ((with_reducible refine And.intro ?h1 ?_); (case h1 => exact Nat.le_of_ble_eq_true rfl); intro p hp; generalize eH : upd _ p _ = H2; have s2 := newS hp eH; have e2 := newE eH; clear eH))
local macro_rules | `(tactic| walk_at "hl") => `(tactic| ((with_reducible apply ev_same); (· assumption); · walk_at "hl"))
local macro_rules | `(tactic| walk_at "hl") => `(tactic| ((with_reducible apply mh_same); (· assumption); · walk_at "hl"))
local macro_rules | `(tactic| walk_at "hl") => `(tactic| ((with_reducible apply hs_same); (· assumption); · walk_at "hl"))
local macro_rules | `(tactic| walk_at "hl") => `(tactic| ((with_reducible apply mst_same); (· assumption); · walk_at "hl"))
local macro_rules | `(tactic| walk_at "hl") => `(tactic| ((with_reducible apply plm_same); (· assumption); · walk_at "hl"))
local macro_rules | `(tactic| walk_at "hl") => `(tactic| ((with_reducible apply md_same); (· assumption); · walk_at "hl"))
local macro_rules | `(tactic| walk_at "hl") => `(tactic| ((with_reducible apply row_same); (· assumption); · walk_at "hl"))
local macro_rules | `(tactic| walk_at "hl") => `(tactic| ((with_reducible apply sg_same); (· assumption); · walk_at "hl"))
local macro_rules | `(tactic| walk_at "hl") => `(tactic| ((with_reducible apply cst_same); (· assumption); · walk_at "hl"))
local macro_rules | `(tactic| walk_at "hl") => `(tactic| ((with_reducible apply co_same); (· assumption); · walk_at "hl"))
local macro_rules | `(tactic| walk_at "hl") => `(tactic| ((with_reducible apply bd_same); (· assumption); · walk_at "hl"))
local macro_rules | `(tactic| walk_at "hl") => `(tactic| ((with_reducible apply pl_same); (· assumption); · walk_at "hl"))
local macro_rules | `(tactic| walk_at "hl") => `(tactic| ((with_reducible apply dpA_same); (· assumption); · walk_at "hl"))
local macro_rules | `(tactic| walk_at "hl") => `(tactic| ((with_reducible apply dp_same); (· assumption); · walk_at "hl"))
local macro_rules | `(tactic| walk_at "hl") => `(tactic| ((with_reducible apply SqL.of); · walk_at "hl"))
local macro_rules | `(tactic| walk_at "hl") => `(tactic| ((with_reducible apply SqT.of); · walk_at "hl"))
local macro_rules | `(tactic| walk_at "hl") => `(tactic| ((with_reducible apply sqL_same); (· assumption); · walk_at "hl"))
local macro_rules | `(tactic| walk_at "hl") => `(tactic| ((with_reducible apply sqT_same); (· assumption); · walk_at "hl"))
local macro_rules | `(tactic| walk_at "hl") => `(tactic| ((with_reducible apply at_same); (· assumption); · walk_at "hl"))
local macro_rules | `(tactic| walk_at "hl") => `(tactic| assumption)
local macro_rules | `(tactic| walk_at "lk") => `(tactic| with_reducible first | exact sgF_time | exact sgF_sums | exact coF_plan | exact coF_fr | exact coF_lim | exact coF_jo)
local macro_rules | `(tactic| walk_at "lk") => `(tactic| with_reducible first | exact bdF_plan | exact bdF_sh | exact bdF_wa | exact bdF_hi | exact bdF_ta | exact bdF_ra | exact bdF_jo | exact sgF_plan | exact sgF_board | exact sgF_core)
local macro_rules | `(tactic| walk_at "lk") => `(tactic| with_reducible first | exact hsF_li | exact hsF_bd | exact hsF_co | exact hsF_mo | exact hsF_tu | exact hsF_rc | exact hsF_ho | exact hsF_bs | exact hsF_ds | exact hsF_ev)
local macro_rules | `(tactic| walk_at "lk") => `(tactic| with_reducible first | exact bdF_hr | exact bdF_sp | exact bdF_ru | exact bdF_re | exact bdF_wt | exact hsF_plan | exact hsF_size | exact hsF_rr | exact hsF_sr | exact hsF_wy)
local macro_rules | `(tactic| walk_at "lk") => `(tactic| with_reducible first | exact wvF_plan | exact wvF_size | exact rdF_p | exact rdF_n | exact rdF_s | exact plF_lr | exact plF_wr | exact plF_rn | exact plF_wn | exact bdF_tm)
local macro_rules | `(tactic| walk_at "mk") => `(tactic| with_reducible first | exact mk_bar | exact mk_jo | exact mk_now | exact mk_lg | exact mk_sp | exact mk_jn | exact mk_ln | exact mk_wk)
local macro_rules | `(tactic| walk_at "mk") => `(tactic| with_reducible first | exact mh_times | exact mh_done | exact mc_ca | exact mc_bar | exact mc_jo | exact mk_ca | exact mk_ed | exact mk_hi | exact mk_up | exact mk_sh)
local macro_rules | `(tactic| walk_at "mk") => `(tactic| with_reducible first | exact mh_fates | exact mh_lines | exact mh_works | exact mh_routes | exact mh_storms | exact mh_spots | exact mh_turns | exact mh_holds | exact mh_last | exact mh_begun)
local macro_rules | `(tactic| walk_at "mk") => `(tactic| with_reducible first | exact mh_modes | exact mh_cores | exact mh_now | exact mh_order | exact mh_shut | exact mh_wanted | exact mh_high | exact mh_flags | exact mh_log | exact mh_rings)
local macro_rules | `(tactic| walk_at "cl") => `(tactic| with_reducible first | exact Txt.cl_InvalidSetup (by assumption) | exact Txt.cl_NotationError (by assumption) | exact Txt.cl_Setup (by assumption) | exact Txt.cl_RowReader (by assumption))
local macro_rules | `(tactic| walk_at "na") => `(tactic| with_reducible exact Txt.n_RowReader_spot (by assumption))
local macro_rules | `(tactic| walk_at "na") => `(tactic| with_reducible first | exact Txt.n_InvalidSetup_part (by assumption) | exact Txt.n_InvalidSetup_index (by assumption) | exact Txt.n_NotationError_row (by assumption) | exact Txt.n_NotationError_word (by assumption) | exact Txt.n_Setup_line_rows (by assumption) | exact Txt.n_Setup_work_rows (by assumption) | exact Txt.n_Setup_rows_by_name (by assumption) | exact Txt.n_Setup_works_by_name (by assumption) | exact Txt.n_RowReader_parts (by assumption) | exact Txt.n_RowReader_number (by assumption))
local macro_rules | `(tactic| walk_at "zz") => `(tactic| walk_at "zt")
local macro_rules | `(tactic| walk_at "zz") => `(tactic| ((with_reducible apply s_dgS); (· walk_at "hl"); (· walk_at "mk")))
local macro_rules | `(tactic| walk_at "zz") => `(tactic| ((with_reducible apply s_ixL); (· walk_at "hl"); (· with_reducible first | exact at0 | exact at1 | exact at2 | exact at3 | exact at4)))
local macro_rules | `(tactic| walk_at "zz") => `(tactic| ((with_reducible apply s_ixT); (· walk_at "hl"); (· with_reducible first | exact at0 | exact at1 | exact at2 | exact at3 | exact at4)))
local macro_rules | `(tactic| walk_at "zz") => `(tactic| ((with_reducible apply s_propat); (· walk_at "hl")))
local macro_rules | `(tactic| walk_at "zz") => `(tactic| ((with_reducible apply s_methat); (· walk_at "hl"); (· kernel_rfl)))
local macro_rules | `(tactic| walk_at "zz") => `(tactic| ((with_reducible apply s_fldat); (· walk_at "hl"); (· walk_at "cl"); (· walk_at "na"); (· walk_at "lk")))
local macro_rules | `(tactic| walk_at "zz") => `(tactic| walk_at "zi")
local macro_rules | `(tactic| walk_at "orz") => `(tactic| walk_at "zt")
local macro_rules | `(tactic| walk_at "orz") => `(tactic| ((with_reducible apply s_dgS); (· walk_at "hl"); (· walk_at "mk")))
local macro_rules | `(tactic| walk_at "orz") => `(tactic| ((with_reducible apply s_ixL); (· walk_at "hl"); (· with_reducible first | exact at0 | exact at1 | exact at2 | exact at3 | exact at4)))
local macro_rules | `(tactic| walk_at "orz") => `(tactic| ((with_reducible apply s_ixT); (· walk_at "hl"); (· with_reducible first | exact at0 | exact at1 | exact at2 | exact at3 | exact at4)))
local macro_rules | `(tactic| walk_at "orz") => `(tactic| ((with_reducible apply s_propat); (· walk_at "hl")))
local macro_rules | `(tactic| walk_at "orz") => `(tactic| ((with_reducible apply s_methat); (· walk_at "hl"); (· kernel_rfl)))
local macro_rules | `(tactic| walk_at "orz") => `(tactic| ((with_reducible apply s_fldat); (· walk_at "hl"); (· walk_at "cl"); (· walk_at "na"); (· walk_at "lk")))
local macro_rules | `(tactic| walk_at "orz") => `(tactic| ((with_reducible apply ite_t); (· rfl)))
local macro_rules | `(tactic| walk_at "orz") => `(tactic| ((with_reducible apply ite_f); (· rfl)))
local macro_rules | `(tactic| walk_at "orz") => `(tactic| with_reducible first | refine ⟨_, _, rfl, rfl, ?_⟩ | refine ⟨_, rfl, ?_⟩)
local macro_rules | `(tactic| walk_at "orz") => `(tactic| ((with_reducible apply s_isi); (· assumption); (· decide)))
local macro_rules | `(tactic| walk_at "orz") => `(tactic| with_reducible first | refine s_tup ?_ | refine s_lst ?_)
local macro_rules | `(tactic| walk_at "orz") => `(tactic| ((with_reducible apply s_ne); (· exact rfl)))
local macro_rules | `(tactic| walk_at "orz") => `(tactic| ((with_reducible apply s_eq); (· exact rfl)))
local macro_rules | `(tactic| walk_at "orz") => `(tactic| with_reducible first | refine s_lcE ?_ | refine s_lc ?_ | refine s_dcT ?_ | refine s_cvalg ?_ | refine s_I0 ?_ | refine s_U ?_)
local macro_rules | `(tactic| walk_at "orz") => `(tactic| with_reducible first | refine Or.inl (Exists.intro _ (And.intro rfl ?_)) | refine Or.inr (Exists.intro _ (And.intro rfl ?_)) | refine s_make ?_ | refine s_sl ?_ | refine s_nop ?_ | refine s_part ?_)
local macro_rules | `(tactic| walk_at "orz") => `(tactic| with_reducible first | refine s_get2 ?_ | refine s_callI ?_ | refine s_for ?_ | refine s_rng1 ?_ | refine s_iT ?_ | refine s_iL ?_)
local macro_rules | `(tactic| walk_at "orz") => `(tactic| with_reducible first | refine s_lcL ?_ | refine s_dputg ?_ | refine s_tupRg ?_ | refine s_lstRg ?_ | refine s_rg1 ?_ | refine s_items ?_)
local macro_rules | `(tactic| walk_at "orz") => `(tactic| with_reducible first | refine s_daugg ?_ | refine s_disp ?_ | refine s_gsub ?_ | refine s_fldaug ?_ | refine s_ipI ?_ | refine s_ixO ?_)
local macro_rules | `(tactic| walk_at "orz") => `(tactic| with_reducible first | refine s_chain ?_ | refine s_yes ?_ | refine s_din ?_ | refine s_dnin ?_ | refine s_bm0 ?_ | refine s_lcT ?_)
local macro_rules | `(tactic| walk_at "orz") => `(tactic| with_reducible first | refine s_un ?_ | refine s_star ?_ | refine s_and ?_ | refine s_or ?_ | refine s_orV ?_ | refine s_notV ?_)
local macro_rules | `(tactic| walk_at "orz") => `(tactic| with_reducible first | refine s_augS ?_ | refine s_retN ?_ | refine s_cont ?_ | refine s_break ?_ | refine s_par ?_ | refine s_par2 ?_)
local macro_rules | `(tactic| walk_at "orz") => `(tactic| with_reducible first | refine s_andV ?_ | refine s_add ?_ | refine s_prop ?_ | refine s_pnil ?_ | refine s_cb ?_ | refine s_not ?_)
local macro_rules | `(tactic| walk_at "orz") => `(tactic| with_reducible first | refine s_call ?_ | refine s_pcons ?_ | refine s_bm ?_ | refine s_if ?_ | refine s_gcons ?_ | refine s_gnil ?_)
local macro_rules | `(tactic| walk_at "orz") => `(tactic| with_reducible first | refine s_next ?_ | refine s_gname ?_ | refine s_drop ?_ | refine s_meth ?_ | refine s_fldS ?_ | refine s_asg ?_)
local macro_rules | `(tactic| walk_at "orz") => `(tactic| with_reducible first | refine s_fldg ?_ | refine s_ifS ?_ | refine s_dget ?_ | refine s_ret ?_ | refine s_B ?_ | refine s_test ?_)
local macro_rules | `(tactic| walk_at "orz") => `(tactic| with_reducible first | refine s_cons ?_ | refine s_c ?_ | refine s_nil ?_ | refine s_seq ?_ | refine s_op ?_ | refine s_bl ?_)
local macro_rules | `(tactic| walk_at "orz") => `(tactic| ((with_reducible apply s_var); (· exact rfl)))
local macro_rules | `(tactic| walk_at "rz") => `(tactic| repeat walk_at "orz")
local macro_rules | `(tactic| walk_at "zm") => `(tactic| (intro x dx hx hdx hne; generalize eH : upd (upd _ dx _) x _ = H2; have s2 := mkS hx hdx eH; have e2 := mkE eH; clear eH hdx hne))
local macro_rules | `(tactic| walk_at "zb") => `(tactic| with_reducible first | refine s_gcons ?_ | refine s_gnil ?_ | refine s_gname ?_ | refine s_seq ?_ | refine s_ifS ?_ | refine s_if ?_ | refine s_next ?_ | refine s_drop ?_ | refine s_ret ?_ | refine s_asg ?_)
structure RdAt (K : Fg) (H : Hp) (a p : Addr) (ws : List Str) (n : Int) (s : Nat) : Prop where
  ins : ∃ dx, H a = some (.ins (ga K "RowReader") dx (rdF p n s))
  lst : H p = some (.lst (ws.map V.str))
  len : ws.length ≤ 40001
  sh : ∀ w ∈ ws, w.length ≤ 40000
  sl : s ≤ ws.length
theorem RdAt.ne {K : Fg} {H : Hp} {a p : Addr} {ws : List Str} {n : Int} {s : Nat} (h : RdAt K H a p ws n s) : p ≠ a := fun e => by
  obtain ⟨dx, k⟩ := h.ins
  rw [← e, h.lst] at k
  cases k
theorem RdAt.keep {K : Fg} {H H' : Hp} {a p : Addr} {ws : List Str} {n : Int} {s : Nat} {N : List Addr} (h : RdAt K H a p ws n s) (f : Fr N H H') (h1 : a ∉ N) (h2 : p ∉ N) : RdAt K H' a p ws n s := ⟨h.ins.imp fun _ k => f.at k h1, f.at h.lst h2, h.len, h.sh, h.sl⟩
theorem RdAt.same {K : Fg} {H H' : Hp} {a p : Addr} {ws : List Str} {n : Int} {s : Nat} (h : RdAt K H a p ws n s) (f : Same H H') : RdAt K H' a p ws n s := h.keep (N := []) f.fr (by simp) (by simp)
def notE (K : Fg) (A : List Addr) (n : Int) (s : Nat) (H : Hp) (E : XK) : Prop := ∀ dx H', Fr A H H' → H' dx = some (.xd [("word", .int (s : Nat)), ("row", .int n)]) → E (.ref (ga K "NotationError")) (some dx) H'
theorem notE.go {K : Fg} {A : List Addr} {n : Int} {s : Nat} {H H' : Hp} {E : XK} (h : notE K A n s H E) (f : Fr A H H') : notE K A n s H' E := fun dx H2 f2 e => h dx H2 (f.trans f2) e
theorem notE.less {K : Fg} {A B : List Addr} {n : Int} {s : Nat} {H : Hp} {E : XK} (h : notE K A n s H E) (m : ∀ a ∈ B, a ∈ A) : notE K B n s H E := fun dx H2 f2 e => h dx H2 (f2.mono m) e
def spExNot (K : Fg) : Sp := fun vs H Q _ => ∃ (a : Addr) (n : Int) (s : Nat), vs = [.ref a, .int n, .int (s : Nat)] ∧ H a = some (exo a (ga K "NotationError") none) ∧ 0 ≤ n ∧ n < 50000 ∧ s < 50000 ∧ ∀ dx H', H dx = none → dx ≠ a → H' = upd (upd H dx (exd dx [("word", .int (s : Nat)), ("row", .int n)])) a (exo a (ga K "NotationError") (some dx)) → Q .non H'
def spRNew (K : Fg) : Sp := fun vs H Q _ => ∃ a z dx, ∃ n : Int, ∃ ws, vs = [.ref a, .str z, .int n] ∧ H a = some (.ins (ga K "RowReader") dx []) ∧ Txt.split z " " = ws ∧ z.length + 2 ≤ sizeLine ∧ ws.length ≤ 40001 ∧ (∀ w ∈ ws, w.length ≤ 40000) ∧ ∀ H' p, Fr [a] H H' → H p = none → RdAt K H' a p ws n 0 → Q .non H'
def spRNeed (K : Fg) : Sp := fun vs H Q E => ∃ a p ws, ∃ n : Int, ∃ (s : Nat) (b : Bool), vs = [.ref a, .bl b] ∧ RdAt K H a p ws n s ∧ 0 ≤ n ∧ n < 50000 ∧ (b = true → Q .non H) ∧ (b = false → notE K [] n s H E)
def spROver (K : Fg) : Sp := fun vs H Q _ => ∃ a p ws, ∃ n : Int, ∃ s : Nat, vs = [.ref a] ∧ RdAt K H a p ws n s ∧ Q (.bl (decide (s = ws.length))) H
def spRWork (K : Fg) : Sp := fun vs H Q _ => ∃ a p ws, ∃ n : Int, ∃ s : Nat, ∃ w0, vs = [.ref a] ∧ RdAt K H a p ws n s ∧ ws[0]? = some w0 ∧ Q (.bl (decide (V.str w0 = V.str "work"))) H
def spRTake (K : Fg) : Sp := fun vs H Q E => ∃ a p ws, ∃ n : Int, ∃ (s : Nat) (t : Addr) (zs : List Str), vs = [.ref a, .ref t] ∧ RdAt K H a p ws n s ∧ 0 ≤ n ∧ n < 50000 ∧ SqT K H t (zs.map V.str) ∧
  (∀ w0, ws[s]? = some w0 → w0 ∈ zs → ∀ H', Fr [a] H H' → RdAt K H' a p ws n (s + 1) → Q (.str w0) H') ∧ ((s = ws.length ∨ ∃ w0, ws[s]? = some w0 ∧ w0 ∉ zs) → notE K [] n s H E)
def spRName (K : Fg) : Sp := fun vs H Q E => ∃ a p ws, ∃ n : Int, ∃ s : Nat, vs = [.ref a] ∧ RdAt K H a p ws n s ∧ 0 ≤ n ∧ n < 50000 ∧
  (∀ w0, ws[s]? = some w0 → isWd w0 = true → ∀ H', Fr [a] H H' → RdAt K H' a p ws n (s + 1) → Q (.str w0) H') ∧ ((s = ws.length ∨ ∃ w0, ws[s]? = some w0 ∧ isWd w0 = false) → notE K [] n s H E)
def spRInt (K : Fg) : Sp := fun vs H Q E => ∃ a p ws, ∃ n : Int, ∃ s : Nat, vs = [.ref a] ∧ RdAt K H a p ws n s ∧ 0 ≤ n ∧ n < 50000 ∧
  (∀ w0 i, ws[s]? = some w0 → isNum w0 = true → 0 ≤ i → i < 1000 → txI i = w0 → ∀ H', Fr [a] H H' → RdAt K H' a p ws n (s + 1) → Q (.int i) H') ∧ ((s = ws.length ∨ ∃ w0, ws[s]? = some w0 ∧ isNum w0 = false) → notE K [] n s H E)
section
variable {P : Program} {w : World} {K : Fg} {mg : Str → Option Value} {base : Heap}
theorem ok_NotationError_init (T : Txt K mg) : FnOk P w K mg base (L2.CX P w) 1 (ma K (ga K "NotationError") "__init__") (fdOf K (ma K (ga K "NotationError") "__init__")) ["self", "row", "word"] (spExNot K) := by
  refine FunD.ok T.F_NotationError_init sc_NotationError_init (fun vs H Q E h => ?_) (fun cdv A outer s H vs Q E hr h => ⟨_, PSs.nox (pss_cons (ps_expr (z_veinit (z_ref T.g_BellError) T.vi_BellError (pa_cons (pv 0) (pa_cons (pe_joined (.cons pe_str (.cons (pe_fmt (pv 2)) (.cons pe_str (.cons (pe_fmt (pv 1)) .nil))))) pa_nil))))
      (pss_cons (ps_ost (pv 0) (pv 1))
      (pss_one (ps_ost (pv 0) (pv 2))))), ?_⟩)
  · obtain ⟨a, n, s, rfl, _⟩ := h
    rfl
  obtain ⟨a, n, s, rfl, ha, hn0, hn, hs, q⟩ := h
  show (_ : TS) _ [some (.ref a), some (.int n), some (.int (s : Nat))] H
  try dsimp only [cxOf]
  walk_at "rz"
  refine s_bin ?_
  walk_at "rz"
  refine ⟨rfl, ?_⟩
  unfold tVeI
  walk_at "rz"
  have l13 : ("invalid word " : Str).length = 13 := by decide +kernel
  have l8 : (" in row " : Str).length = 8 := by decide +kernel
  have e0 : (Str.empty ++ ("invalid word " : Str)) = ("invalid word " : Str) := by decide +kernel
  have ly : (Str.ofString (toString ((s : Nat) : Int))).length ≤ 10 := by
    rw [PySem.ofString_length]
    exact Nat.le_trans (int_text_length_le10 (k := 5) (by decide) (by show s < 10 ^ 5; omega)) (by decide)
  have lz : (Str.ofString (toString n)).length ≤ 10 := by
    obtain ⟨m, rfl⟩ : ∃ m : Nat, n = (m : Int) := ⟨n.toNat, by omega⟩
    rw [PySem.ofString_length]
    exact Nat.le_trans (int_text_length_le10 (k := 5) (by decide) (by show m < 10 ^ 5; omega)) (by decide)
  refine ⟨_, rfl, by decide, ⟨_, rfl, .inr ⟨_, rfl, ?_, ?_⟩⟩⟩
  · show Nat.log2 s < 1920
    exact log_small (by omega)
  rw [e0]
  refine ⟨_, rfl, by rw [str_len_app, sizeLine_eq]; omega, ?_⟩
  refine ⟨_, rfl, by rw [str_len_app, str_len_app, sizeLine_eq]; omega, ⟨_, rfl, .inr ⟨_, rfl, ?_, ?_⟩⟩⟩
  · obtain ⟨m, rfl⟩ : ∃ m : Nat, n = (m : Int) := ⟨n.toNat, by omega⟩
    show Nat.log2 m < 1920
    exact log_small (by omega)
  refine ⟨_, rfl, ?_, ?_⟩
  · rw [str_len_app, str_len_app, str_len_app, sizeLine_eq]
    omega
  refine ⟨a, ga K "NotationError", _, rfl, by simp, T.xo_NotationError, ha, ?_⟩
  refine ⟨_, rfl, .ref a, rfl, a, ga K "NotationError", rfl, T.xo_NotationError, T.xn_NotationError_row, .inl ⟨ha, fun dx hdx hne => ?_⟩⟩
  refine ⟨_, rfl, .ref a, rfl, a, ga K "NotationError", rfl, T.xo_NotationError, T.xn_NotationError_word, .inr ⟨dx, _, upd_same, by rw [upd_ne hne, upd_same], by simp, ?_⟩⟩
  refine q dx _ hdx hne ?_
  funext b
  by_cases hb : b = dx
  · subst hb
    rw [upd_same, upd_ne hne, upd_same]
  · rw [upd_ne hb]
    by_cases hb2 : b = a
    · subst hb2
      rw [upd_same, upd_same]
    · rw [upd_ne hb2, upd_ne hb2, upd_ne hb, upd_ne hb]
theorem ok_RowReader_init (T : Txt K mg) : FnOk P w K mg base (L2.CX P w) 1 (ma K (ga K "RowReader") "__init__") (fdOf K (ma K (ga K "RowReader") "__init__")) ["self", "line", "number"] (spRNew K) := by
  refine FunD.ok T.F_RowReader_init sc_RowReader_init (fun vs H Q E h => ?_) (fun cdv A outer s H vs Q E hr h => ⟨_, PSs.nox (pss_cons (ps_fld (pv 0) (pe_split (pv 1) pe_str) rfl)
      (pss_cons (ps_fld (pv 0) (pv 2) rfl)
      (pss_one (ps_fld (pv 0) pe_int rfl)))), ?_⟩)
  · obtain ⟨a, z, dx, n, ws, rfl, _⟩ := h
    rfl
  obtain ⟨a, z, dx, n, ws, rfl, ha, hws, hz, hw, hsh, q⟩ := h
  show (_ : TS) _ [some (.ref a), some (.str z), some (.int n)] H
  try dsimp only [cxOf]
  walk_at "rz"
  refine s_m1 ?_
  walk_at "rz"
  refine ⟨⟨z, rfl⟩, ?_⟩
  walk_at "rz"
  refine ⟨by decide +kernel, hz, fun p hp => ?_⟩
  generalize eH : upd H p _ = H1
  have s1 := newS hp eH
  have e1 := newE eH
  clear eH
  have ha1 := s1 _ _ ha
  have pa : p ≠ a := fun e => by rw [e, ha] at hp; cases hp
  walk_at "rz"
  refine ⟨a, _, dx, [], rfl, ha1, T.cl_RowReader, T.n_RowReader_parts, by decide, ?_⟩
  rw [rd1]
  generalize eH : upd H1 a _ = H2
  have e2 : H2 a = some (.ins (ga K "RowReader") dx [(("parts" : Str), V.ref p)]) := by rw [← eH, upd_same]
  have f2 : Fr [a] H1 H2 := by rw [← eH]; exact Fr.upd (by simp) ha1 rfl
  clear eH
  walk_at "rz"
  refine ⟨a, _, dx, _, rfl, e2, T.cl_RowReader, T.n_RowReader_number, by simp, ?_⟩
  rw [rd2]
  generalize eH : upd H2 a _ = H3
  have e3 : H3 a = some (.ins (ga K "RowReader") dx [(("parts" : Str), V.ref p), (("number" : Str), V.int n)]) := by rw [← eH, upd_same]
  have f3 : Fr [a] H2 H3 := by rw [← eH]; exact Fr.upd (by simp) e2 rfl
  clear eH
  walk_at "rz"
  refine ⟨a, _, dx, _, rfl, e3, T.cl_RowReader, T.n_RowReader_spot, by simp, ?_⟩
  rw [rd3]
  generalize eH : upd H3 a _ = H4
  have e4 : H4 a = some (.ins (ga K "RowReader") dx (rdF p n 0)) := by rw [← eH, upd_same]
  have f4 : Fr [a] H3 H4 := by rw [← eH]; exact Fr.upd (by simp) e3 rfl
  have f14 : Fr [a] H1 H4 := (f2.trans f3).trans f4
  exact q _ p ((s1.fr).trans f14) hp ⟨⟨dx, e4⟩, f14.at (by rw [e1, hws]) (by simp [pa]), hw, hsh, Nat.zero_le _⟩
theorem ok_RowReader_need_x (T : Txt K mg) : FnOk P w K mg base (L2.CX P w) 3 (ma K (ga K "RowReader") "need") (fdOf K (ma K (ga K "RowReader") "need")) ["self", "is_right"] (spRNeed K) := by
  refine FunD.ok T.F_RowReader_need sc_RowReader_need (fun vs H Q E h => ?_) (fun cdv A outer s H vs Q E hr h => ⟨_, (pss_one (ps_if (pt_not (pt_val (pv 1))) (pss_one (ps_raise rfl (takes_of rfl rfl rfl rfl) (z_mkX T.xo_NotationError T.xi_NotationError (ok_NotationError_init T) T.c_NotationError_init (hr.mono (by decide)) rfl T.g_NotationError (pa_cons (kFld K (pe_fld (pv 0) rfl)) (pa_cons (kFld K (pe_fld (pv 0) rfl)) pa_nil))))) pss_nil)), ?_⟩)
  · obtain ⟨a, p, ws, n, s, b, rfl, _⟩ := h
    rfl
  obtain ⟨a, p, ws, n, s, b, rfl, rd, n0, n1, q, x⟩ := h
  show (_ : TS) _ [some (.ref a), some (.bl b)] H
  try dsimp only [cxOf]
  obtain ⟨dx, ha⟩ := rd.ins
  walk_at "rz"
  cases b with
  | true =>
    refine ite_f rfl ?_
    walk_at "rz"
    exact q rfl
  | false =>
    refine ite_t rfl ?_
    walk_at "rz"
    have x := x rfl
    have hs := rd.sl
    have hl := rd.len
    unfold tMkO
    refine s_cons (s_fldg (s_var (v := .ref a) rfl (s_fldat ha T.cl_RowReader T.n_RowReader_number rdF_n ?_)))
    refine s_cons (s_fldg (s_var (v := .ref a) rfl (s_fldat ha T.cl_RowReader T.n_RowReader_spot rdF_s ?_)))
    refine s_nil ⟨by simp, fun ax hax => ?_⟩
    have sa : Same H (upd H ax (exo ax (ga K "NotationError") none)) := Same.new hax
    refine ⟨ax, n, s, rfl, upd_same, n0, n1, by omega, fun dx H' hdx hne e => ?_⟩
    subst e
    rw [upd_ne hne] at hdx
    refine ⟨rfl, dx, [("word", .int (s : Nat)), ("row", .int n)], upd_same, by rw [upd_ne hne, upd_same], hdx, ?_⟩
    exact x dx _ ((same_xd hax hdx hne).fr) upd_same
theorem ok_RowReader_is_over (T : Txt K mg) : FnOk P w K mg base (L2.CX P w) 1 (ma K (ga K "RowReader") "is_over") (fdOf K (ma K (ga K "RowReader") "is_over")) ["self"] (spROver K) := by
  refine FunD.ok T.F_RowReader_is_over sc_RowReader_is_over (fun vs H Q E h => ?_) (fun cdv A outer s H vs Q E hr h => ⟨_, PSs.nox (pss_one (ps_ret (pe_cmpR op_eq (kFld K (pe_fld (pv 0) rfl)) (pe_callB (call_lenK K) (by rfl) T.u_len (by decide +kernel) (pa_cons (kFld K (pe_fld (pv 0) rfl)) pa_nil)) (nomark _)))), ?_⟩)
  · obtain ⟨a, p, ws, n, s, rfl, _⟩ := h
    rfl
  obtain ⟨a, p, ws, n, s, rfl, rd, q⟩ := h
  show (_ : TS) _ [some (.ref a)] H
  try dsimp only [cxOf]
  obtain ⟨dx, ha⟩ := rd.ins
  have hp := rd.lst
  walk_at "rz"
  refine s_lenL (SqL.of hp) ?_
  refine s_eq rfl ?_
  rw [List.length_map]
  have e : decide (V.int ((s : Nat) : Int) = V.int ((ws.length : Nat) : Int)) = decide (s = ws.length) := decide_eq_decide.mpr ⟨fun h => by injection h; omega, fun h => by rw [h]⟩
  rw [e]
  exact q
theorem ok_RowReader_is_work_row (T : Txt K mg) : FnOk P w K mg base (L2.CX P w) 1 (ma K (ga K "RowReader") "is_work_row") (fdOf K (ma K (ga K "RowReader") "is_work_row")) ["self"] (spRWork K) := by
  refine FunD.ok T.F_RowReader_is_work_row sc_RowReader_is_work_row (fun vs H Q E h => ?_) (fun cdv A outer s H vs Q E hr h => ⟨_, PSs.nox (pss_one (ps_ret (pe_cmpR op_eq (pe_ix (ix_listK K) (kFld K (pe_fld (pv 0) rfl)) pe_int (fun _ _ => rfl)) pe_str (nomark _)))), ?_⟩)
  · obtain ⟨a, p, ws, n, s, w0, rfl, _⟩ := h
    rfl
  obtain ⟨a, p, ws, n, s, w0, rfl, rd, h0, q⟩ := h
  show (_ : TS) _ [some (.ref a)] H
  try dsimp only [cxOf]
  obtain ⟨dx, ha⟩ := rd.ins
  have hp := rd.lst
  walk_at "rz"
  refine s_ixL (SqL.of hp) (at_of (j := 0) rfl (at_str h0)) ?_
  walk_at "rz"
  exact q
theorem ok_RowReader_take_x (T : Txt K mg) : FnOk P w K mg base (L2.CX P w) 5 (ma K (ga K "RowReader") "take") (fdOf K (ma K (ga K "RowReader") "take")) ["self", "words"] (spRTake K) := by
  refine FunD.ok T.F_RowReader_take sc_RowReader_take (fun vs H Q E h => ?_) (fun cdv A outer s H vs Q E hr h => ⟨_, (pss_cons (ps_expr (z_meth (pv 0) T.cl_RowReader T.m_RowReader_need (ok_RowReader_need_x T) T.c_RowReader_need (hr.mono (by decide)) (passes_call (takes_of rfl rfl rfl rfl) (fun _ _ _ _ h => h)) (pa_cons (pe_and (pe_not (z_meth0 (pv 0) T.cl_RowReader T.m_RowReader_is_over (ok_RowReader_is_over T) T.c_RowReader_is_over (hr.mono (by decide)) passL)) (pe_one (pe_cmpR (op_in_seqK K) (pe_ix (ix_listK K) (kFld K (pe_fld (pv 0) rfl)) (kFld K (pe_fld (pv 0) rfl)) (fun _ _ => rfl)) (pv 1) (by rfl)))) pa_nil)))
      (pss_cons (ps_fldaug (pv 0) pe_int in_add)
      (pss_one (ps_ret (pe_ix (ix_listK K) (kFld K (pe_fld (pv 0) rfl)) (pe_op op_sub (kFld K (pe_fld (pv 0) rfl)) pe_int) (fun _ _ => rfl)))))), ?_⟩)
  · obtain ⟨a, p, ws, n, s, t, zs, rfl, _⟩ := h
    rfl
  obtain ⟨a, p, ws, n, s, t, zs, rfl, rd, n0, n1, hT, q, x⟩ := h
  show (_ : TS) _ [some (.ref a), some (.ref t)] H
  try dsimp only [cxOf]
  obtain ⟨dx, ha⟩ := rd.ins
  have hp := rd.lst
  walk_at "rz"
  refine ⟨a, p, ws, n, s, rfl, rd, ?_⟩
  have hsl := rd.sl
  by_cases he : s = ws.length
  · rw [decide_eq_true he]
    walk_at "rz"
    refine ⟨a, p, ws, n, s, false, rfl, rd, n0, n1, (fun h => (by cases h)), fun _ => x (.inl he)⟩
  rw [decide_eq_false he]
  have hs : s < ws.length := by omega
  obtain ⟨w0, h0⟩ : ∃ w0, ws[s]? = some w0 := ⟨_, List.getElem?_eq_getElem hs⟩
  walk_at "rz"
  refine s_ixL (SqL.of hp) (atI_nat (at_str h0)) ?_
  walk_at "rz"
  refine s_in (.inr hT) rfl (flat_strsW _) ?_
  rw [inV_strs]
  by_cases hm : w0 ∈ zs
  · rw [decide_eq_true hm]
    walk_at "rz"
    refine ⟨a, p, ws, n, s, true, rfl, rd, n0, n1, fun _ => ?_, (fun h => (by cases h))⟩
    walk_at "rz"
    refine ⟨a, _, dx, _, .int s, rfl, ha, T.cl_RowReader, T.n_RowReader_spot, rdF_s, ?_⟩
    walk_at "rz"
    refine ⟨dx, _, ha, by show 3 < 1000; decide, ?_⟩
    rw [rd4]
    generalize eH : upd H a _ = H2
    have e2 : H2 a = some (.ins (ga K "RowReader") dx (rdF p n ((s : Nat) + 1))) := by rw [← eH, upd_same]
    have f2 : Fr [a] H H2 := by rw [← eH]; exact Fr.upd (by simp) ha rfl
    clear eH
    have hp2 := f2.at hp (by simp [rd.ne])
    have rd2 : RdAt K H2 a p ws n (s + 1) := ⟨⟨dx, e2⟩, hp2, rd.len, rd.sh, hs⟩
    walk_at "rz"
    rw [show ((s : Nat) : Int) + 1 - 1 = ((s : Nat) : Int) by omega]
    refine s_ixL (SqL.of hp2) (atI_nat (at_str h0)) ?_
    exact q _ h0 hm _ f2 rd2
  · rw [decide_eq_false hm]
    walk_at "rz"
    exact ⟨a, p, ws, n, s, false, rfl, rd, n0, n1, (fun h => (by cases h)), fun _ => x (.inr ⟨w0, h0, hm⟩)⟩
theorem ok_RowReader_read_name_x (T : Txt K mg) : FnOk P w K mg base (L2.CX P w) 5 (ma K (ga K "RowReader") "read_name") (fdOf K (ma K (ga K "RowReader") "read_name")) ["self"] (spRName K) := by
  refine FunD.ok T.F_RowReader_read_name sc_RowReader_read_name (fun vs H Q E h => ?_) (fun cdv A outer s H vs Q E hr h => ⟨_, (pss_cons (ps_expr (z_meth (pv 0) T.cl_RowReader T.m_RowReader_need (ok_RowReader_need_x T) T.c_RowReader_need (hr.mono (by decide)) (passes_call (takes_of rfl rfl rfl rfl) (fun _ _ _ _ h => h)) (pa_cons (pe_and (pe_not (z_meth0 (pv 0) T.cl_RowReader T.m_RowReader_is_over (ok_RowReader_is_over T) T.c_RowReader_is_over (hr.mono (by decide)) passL)) (pe_one (z_call (ok_is_word T) T.c_is_word (hr.mono (by decide)) rfl T.g_is_word passL (pa_cons (pe_ix (ix_listK K) (kFld K (pe_fld (pv 0) rfl)) (kFld K (pe_fld (pv 0) rfl)) (fun _ _ => rfl)) pa_nil)))) pa_nil)))
      (pss_cons (ps_fldaug (pv 0) pe_int in_add)
      (pss_one (ps_ret (pe_ix (ix_listK K) (kFld K (pe_fld (pv 0) rfl)) (pe_op op_sub (kFld K (pe_fld (pv 0) rfl)) pe_int) (fun _ _ => rfl)))))), ?_⟩)
  · obtain ⟨a, p, ws, n, s, rfl, _⟩ := h
    rfl
  obtain ⟨a, p, ws, n, s, rfl, rd, n0, n1, q, x⟩ := h
  show (_ : TS) _ [some (.ref a)] H
  try dsimp only [cxOf]
  obtain ⟨dx, ha⟩ := rd.ins
  have hp := rd.lst
  walk_at "rz"
  refine ⟨a, p, ws, n, s, rfl, rd, ?_⟩
  have hsl := rd.sl
  by_cases he : s = ws.length
  · rw [decide_eq_true he]
    walk_at "rz"
    refine ⟨a, p, ws, n, s, false, rfl, rd, n0, n1, (fun h => (by cases h)), fun _ => x (.inl he)⟩
  rw [decide_eq_false he]
  have hs : s < ws.length := by omega
  obtain ⟨w0, h0⟩ : ∃ w0, ws[s]? = some w0 := ⟨_, List.getElem?_eq_getElem hs⟩
  have hsh : short (.str w0) = true := decide_eq_true (rd.sh w0 (List.mem_of_getElem? h0))
  walk_at "rz"
  refine s_ixL (SqL.of hp) (atI_nat (at_str h0)) ?_
  walk_at "rz"
  refine ⟨.str w0, .str w0, rfl, .str _, hsh, fun H1 s1 => ?_⟩
  replace rd := rd.same s1
  replace ha := s1 _ _ ha
  replace hp := s1 _ _ hp
  by_cases hm : isWd w0 = true
  · rw [show isWord (.str w0) = true from hm]
    walk_at "rz"
    refine ⟨a, p, ws, n, s, true, rfl, rd, n0, n1, fun _ => ?_, (fun h => (by cases h))⟩
    walk_at "rz"
    refine ⟨a, _, dx, _, .int s, rfl, ha, T.cl_RowReader, T.n_RowReader_spot, rdF_s, ?_⟩
    walk_at "rz"
    refine ⟨dx, _, ha, by show 3 < 1000; decide, ?_⟩
    rw [rd4]
    generalize eH : upd H1 a _ = H2
    have e2 : H2 a = some (.ins (ga K "RowReader") dx (rdF p n ((s : Nat) + 1))) := by rw [← eH, upd_same]
    have f2 : Fr [a] H1 H2 := by rw [← eH]; exact Fr.upd (by simp) ha rfl
    clear eH
    have hp2 := f2.at hp (by simp [rd.ne])
    have rd2 : RdAt K H2 a p ws n (s + 1) := ⟨⟨dx, e2⟩, hp2, rd.len, rd.sh, hs⟩
    walk_at "rz"
    rw [show ((s : Nat) : Int) + 1 - 1 = ((s : Nat) : Int) by omega]
    refine s_ixL (SqL.of hp2) (atI_nat (at_str h0)) ?_
    exact q _ h0 hm _ ((s1.fr).trans f2) rd2
  · have hm : isWd w0 = false := Bool.eq_false_iff.mpr hm
    rw [show isWord (.str w0) = false from hm]
    walk_at "rz"
    exact ⟨a, p, ws, n, s, false, rfl, rd, n0, n1, (fun h => (by cases h)), fun _ => (x (.inr ⟨w0, h0, hm⟩)).go s1.fr⟩
theorem ok_RowReader_read_integer_x (T : Txt K mg) : FnOk P w K mg base (L2.CX P w) 5 (ma K (ga K "RowReader") "read_integer") (fdOf K (ma K (ga K "RowReader") "read_integer")) ["self"] (spRInt K) := by
  refine FunD.ok T.F_RowReader_read_integer sc_RowReader_read_integer (fun vs H Q E h => ?_) (fun cdv A outer s H vs Q E hr h => ⟨_, (pss_cons (ps_expr (z_meth (pv 0) T.cl_RowReader T.m_RowReader_need (ok_RowReader_need_x T) T.c_RowReader_need (hr.mono (by decide)) (passes_call (takes_of rfl rfl rfl rfl) (fun _ _ _ _ h => h)) (pa_cons (pe_not (z_meth0 (pv 0) T.cl_RowReader T.m_RowReader_is_over (ok_RowReader_is_over T) T.c_RowReader_is_over (hr.mono (by decide)) passL)) pa_nil)))
      (pss_cons (zset 1 sc_RowReader_read_integer.nd (pe_ix (ix_listK K) (kFld K (pe_fld (pv 0) rfl)) (kFld K (pe_fld (pv 0) rfl)) (fun _ _ => rfl)))
      (pss_cons (ps_expr (z_meth (pv 0) T.cl_RowReader T.m_RowReader_need (ok_RowReader_need_x T) T.c_RowReader_need (hr.mono (by decide)) (passes_call (takes_of rfl rfl rfl rfl) (fun _ _ _ _ h => h)) (pa_cons (pe_and (pe_chain op_le op_le pe_int (pe_callB (call_lenK K) (by rfl) T.u_len (by decide +kernel) (pa_cons (pv 1) pa_nil)) (z_int T.i_MAX_DIGITS)) (pe_one (pe_callB (cr_allK K rfl) (by rfl) T.u_all (by decide +kernel) (pa_cons (pe_lc (own := [("digit", 2)]) rfl sc_RowReader_read_integer.nd (pi_str (pv 1)) (blkOk_by (own := [("digit", 2)]) (N := n_RowReader_read_integer) (sc := defScope s_RowReader_read_integer) (by decide +kernel)) (fun _ _ _ _ _ => (zg 2 sc_RowReader_read_integer.nd)) (fun _ _ _ _ _ => pts_nil) (fun _ _ _ _ _ => (pe_cmpR op_in_sign (pv 2) (z_str T.i_DIGITS) (by rfl)))) pa_nil)))) pa_nil)))
      (pss_cons (ps_expr (z_meth (pv 0) T.cl_RowReader T.m_RowReader_need (ok_RowReader_need_x T) T.c_RowReader_need (hr.mono (by decide)) (passes_call (takes_of rfl rfl rfl rfl) (fun _ _ _ _ h => h)) (pa_cons (pe_or (pe_cmpR op_eq (pv 1) pe_str (nomark _)) (pe_one (pe_cmpR op_ne (pe_ix ix_str (pv 1) pe_int (fun _ _ => rfl)) pe_str (nomark _)))) pa_nil)))
      (pss_cons (ps_fldaug (pv 0) pe_int in_add)
      (pss_one (ps_ret (pe_callTy call_int_str (by rfl) T.u_int (by decide +kernel) (pa_cons (pv 1) pa_nil))))))))), ?_⟩)
  · obtain ⟨a, p, ws, n, s, rfl, _⟩ := h
    rfl
  obtain ⟨a, p, ws, n, s, rfl, rd, n0, n1, q, x⟩ := h
  show (_ : TS) _ (some (.ref a) :: List.replicate 2 none) H
  try dsimp only [cxOf]
  dsimp only [List.replicate]
  obtain ⟨dx, ha⟩ := rd.ins
  have hp := rd.lst
  walk_at "rz"
  refine ⟨a, p, ws, n, s, rfl, rd, ?_⟩
  have hsl := rd.sl
  by_cases he : s = ws.length
  · rw [decide_eq_true he]
    walk_at "rz"
    refine ⟨a, p, ws, n, s, false, rfl, rd, n0, n1, (fun h => (by cases h)), fun _ => x (.inl he)⟩
  rw [decide_eq_false he]
  have hs : s < ws.length := by omega
  obtain ⟨w0, h0⟩ : ∃ w0, ws[s]? = some w0 := ⟨_, List.getElem?_eq_getElem hs⟩
  have hsh := rd.sh w0 (List.mem_of_getElem? h0)
  walk_at "rz"
  refine ⟨a, p, ws, n, s, true, rfl, rd, n0, n1, fun _ => ?_, (fun h => (by cases h))⟩
  walk_at "rz"
  refine s_ixL (SqL.of hp) (atI_nat (at_str h0)) ?_
  walk_at "rz"
  refine s_lenS (by rw [sizeLine_eq]; omega) ?_
  walk_at "rz"
  have isn : isNum w0 = (decide (1 ≤ w0.length) && (decide (w0.length ≤ 3) && ((w0.cps.toList.all fun c => decide (c ∈ digS)) && (decide (w0 = ("0" : Str)) || !decide (w0.cps.toList[0]? = some 48))))) := rfl
  have bad : isNum w0 = false → notE K [] n s H E := fun h => x (.inr ⟨w0, h0, h⟩)
  by_cases c1 : 1 ≤ w0.length
  rotate_left
  · refine ite_f (decide_eq_false (by omega)) ?_
    walk_at "rz"
    exact ⟨a, p, ws, n, s, false, rfl, rd, n0, n1, (fun h => (by cases h)), fun _ => bad (by rw [isn, decide_eq_false c1]; simp)⟩
  refine ite_t (decide_eq_true (by omega)) ?_
  walk_at "rz"
  by_cases c3 : w0.length ≤ 3
  rotate_left
  · refine ite_f (decide_eq_false (by omega)) ?_
    walk_at "rz"
    exact ⟨a, p, ws, n, s, false, rfl, rd, n0, n1, (fun h => (by cases h)), fun _ => bad (by rw [isn, decide_eq_false c3]; simp)⟩
  refine ite_t (decide_eq_true (by omega)) ?_
  walk_at "rz"
  refine ⟨_, rfl, w0, rfl, fun D hD => lc_dat (K := K) walk_str (fun _ => true) (dAt w0.cps.toList fun c => .bool (decide (c ∈ ("0123456789" : Str).cps.toList))) hD (by show w0.length ≤ _; omega) (dAt_tupd fun _ _ => rfl) (fun _ _ => True.intro) (fun i H x H' y => by rw [y.1]; exact Same.refl H) (fun j x H H' Yes No hi s1 y yes no => ?_) (fun H' ys s1 e1 a1 => ?_)⟩
  · obtain ⟨rfl, c, hc, rfl⟩ := y
    refine ⟨rfl, ?_⟩
    walk_at "rz"
    refine yes rfl _ _ (Same.refl _) ?_
    rw [dAt_eq (by simpa using hc)]
    exact .bl _
  have e := keptD_map w0.cps.toList fun c => PyData.bool (decide (c ∈ ("0123456789" : Str).cps.toList))
  rw [Array.length_toList] at e
  rw [e, map_bool] at a1
  rw [dp_bools a1] at e1
  walk_at "rz"
  refine s_all (SqL.of e1) ?_
  rw [show (w0.cps.toList.map fun c => decide (c ∈ ("0123456789" : Str).cps.toList)).all id = w0.cps.toList.all fun c => decide (c ∈ digS) by rw [List.all_map]; rfl]
  replace rd := rd.same s1
  replace ha := s1 _ _ ha
  replace hp := s1 _ _ hp
  have bad : isNum w0 = false → notE K [] n s H' E := fun h => (bad h).go s1.fr
  clear e1 a1 e hD
  cases cd : w0.cps.toList.all fun c => decide (c ∈ digS) with
  | false =>
    walk_at "rz"
    exact ⟨a, p, ws, n, s, false, rfl, rd, n0, n1, (fun h => (by cases h)), fun _ => bad (by rw [isn, cd]; simp)⟩
  | true =>
    walk_at "rz"
    refine ⟨a, p, ws, n, s, true, rfl, rd, n0, n1, fun _ => ?_, (fun h => (by cases h))⟩
    walk_at "rz"
    by_cases z0 : w0 = ("0" : Str)
    · refine ite_t (decide_eq_true (congrArg V.str z0)) ?_
      have hnum : isNum w0 = true := by rw [isn, decide_eq_true c1, decide_eq_true c3, cd, decide_eq_true z0]; rfl
      obtain ⟨i, i0, i1, ntx, nint⟩ := num_read hnum
      walk_at "rz"
      refine ⟨a, p, ws, n, s, true, rfl, rd, n0, n1, fun _ => ?_, (fun h => (by cases h))⟩
      walk_at "rz"
      refine ⟨a, _, dx, _, .int s, rfl, ha, T.cl_RowReader, T.n_RowReader_spot, rdF_s, ?_⟩
      walk_at "rz"
      refine ⟨dx, _, ha, by show 3 < 1000; decide, ?_⟩
      rw [rd4]
      generalize eH : upd H' a _ = H2
      have e2 : H2 a = some (.ins (ga K "RowReader") dx (rdF p n ((s : Nat) + 1))) := by rw [← eH, upd_same]
      have f2 : Fr [a] H' H2 := by rw [← eH]; exact Fr.upd (by simp) ha rfl
      clear eH
      have hp2 := f2.at hp (by simp [rd.ne])
      have rd2 : RdAt K H2 a p ws n (s + 1) := ⟨⟨dx, e2⟩, hp2, rd.len, rd.sh, hs⟩
      walk_at "rz"
      refine ⟨w0, i, rfl, nint, by omega, ?_⟩
      exact q w0 i h0 hnum i0 i1 ntx _ ((s1.fr).trans f2) rd2
    · refine ite_f (decide_eq_false (fun e => z0 (by injection e))) ?_
      obtain ⟨c, hc⟩ : ∃ c, w0.cps.toList[0]? = some c := ⟨_, List.getElem?_eq_getElem (by show 0 < w0.cps.toList.length; rw [Array.length_toList]; exact c1)⟩
      walk_at "rz"
      refine ⟨w0, 0, c, rfl, rfl, by rw [sizeLine_eq]; omega, (show atI w0.cps.toList ((0 : Nat) : Int) = some c from atI_nat hc), ?_⟩
      have h48 : decide (V.str (⟨#[c]⟩ : Str) = V.str ("0" : Str)) = decide (w0.cps.toList[0]? = some 48) := decide_eq_decide.mpr ⟨fun e => by
        injection e with e
        have e2 : #[c] = ("0" : Str).cps := congrArg Str.cps e
        have h2 : ("0" : Str).cps = #[48] := by decide +kernel
        rw [h2] at e2
        rw [hc]
        injection e2 with e2
        injection e2 with e2
        rw [e2], fun e => by
        rw [hc] at e
        cases e
        have h2 : (⟨#[48]⟩ : Str) = ("0" : Str) := by decide +kernel
        rw [h2]⟩
      walk_at "rz"
      rw [h48]
      by_cases c48 : w0.cps.toList[0]? = some 48
      · rw [decide_eq_true c48]
        exact ⟨a, p, ws, n, s, false, rfl, rd, n0, n1, (fun h => (by cases h)), fun _ => bad (by rw [isn, decide_eq_true c48, decide_eq_false z0]; simp)⟩
      · rw [decide_eq_false c48]
        have hnum : isNum w0 = true := by rw [isn, decide_eq_true c1, decide_eq_true c3, cd, decide_eq_false c48]; simp
        obtain ⟨i, i0, i1, ntx, nint⟩ := num_read hnum
        refine ⟨a, p, ws, n, s, true, rfl, rd, n0, n1, fun _ => ?_, (fun h => (by cases h))⟩
        walk_at "rz"
        refine ⟨a, _, dx, _, .int s, rfl, ha, T.cl_RowReader, T.n_RowReader_spot, rdF_s, ?_⟩
        walk_at "rz"
        refine ⟨dx, _, ha, by show 3 < 1000; decide, ?_⟩
        rw [rd4]
        generalize eH : upd H' a _ = H2
        have e2 : H2 a = some (.ins (ga K "RowReader") dx (rdF p n ((s : Nat) + 1))) := by rw [← eH, upd_same]
        have f2 : Fr [a] H' H2 := by rw [← eH]; exact Fr.upd (by simp) ha rfl
        clear eH
        have hp2 := f2.at hp (by simp [rd.ne])
        have rd2 : RdAt K H2 a p ws n (s + 1) := ⟨⟨dx, e2⟩, hp2, rd.len, rd.sh, hs⟩
        walk_at "rz"
        refine ⟨w0, i, rfl, nint, by omega, ?_⟩
        exact q w0 i h0 hnum i0 i1 ntx _ ((s1.fr).trans f2) rd2
end
set_option maxHeartbeats 4000000
open PySem PySem.Spec PyProof.Rows L2 Z
open He (ga ma)
open TL (tl)
def spRStepX (K : Fg) : Sp := fun vs H Q E => ∃ a p ws, ∃ n : Int, ∃ s : Nat, vs = [.ref a] ∧ RdAt K H a p ws n s ∧ 0 ≤ n ∧ n < 50000 ∧ s < ws.length ∧
  (∀ st, RS st → ws[s]? = some st.1 → ws[s + 1]? = some (kT st.2) → ∀ H' t, Fr [a] H H' → RdAt K H' a p ws n (s + 2) → Dp K H' (.ref t) (dSt st) → Q (.ref t) H') ∧
  (∀ w0, ws[s]? = some w0 → w0 ∉ allS → notE K [a] n s H E) ∧
  (∀ w0, ws[s]? = some w0 → w0 ∈ allS → (s + 1 = ws.length ∨ ∃ w1, ws[s + 1]? = some w1 ∧ (if w0 ∈ namS then isWd w1 else isNum w1) = false) → notE K [a] n (s + 1) H E)
def spRLineX (K : Fg) : Sp := fun vs H Q E => ∃ a p ws, ∃ n : Int, vs = [.ref a] ∧ RdAt K H a p ws n 0 ∧ 0 ≤ n ∧ n < 50000 ∧ ws ≠ [] ∧
  (∀ k, wrongLine ws = some k → notE K [a] n k H E) ∧ (wrongLine ws = none → ∀ l, lnW l = ws → RLn l → ∀ H' t, Fr [a] H H' → Dp K H' (.ref t) (dLn l) → Q (.ref t) H')
def spRWkX (K : Fg) : Sp := fun vs H Q E => ∃ a p ws, ∃ n : Int, vs = [.ref a] ∧ RdAt K H a p ws n 0 ∧ 0 ≤ n ∧ n < 50000 ∧ ws[0]? = some ("work" : Str) ∧
  (∀ k, wrongW ws = some k → notE K [a] n k H E) ∧ (wrongW ws = none → ∀ x, wkW x = ws → RWk x → ∀ H' t, Fr [a] H H' → Dp K H' (.ref t) (dWk x) → Q (.ref t) H')
theorem later_nam : ∀ w ∈ allS, (decide (V.str w = V.str "later") = true ∨ inV (.str w) lineWords = true) ↔ w ∈ namS := by decide +kernel
section
variable {P : Program} {w : World} {K : Fg} {mg : Str → Option Value} {base : Heap}
theorem ok_RowReader_read_step_x (T : Txt K mg) : FnOk P w K mg base (L2.CX P w) 6 (ma K (ga K "RowReader") "read_step") (fdOf K (ma K (ga K "RowReader") "read_step")) ["self"] (spRStepX K) := by
  refine FunD.ok T.F_RowReader_read_step sc_RowReader_read_step (fun vs H Q E h => ?_) (fun cdv A outer s H vs Q E hr h => ⟨_, (pss_cons (zset 1 sc_RowReader_read_step.nd (z_meth (pv 0) T.cl_RowReader T.m_RowReader_take (ok_RowReader_take_x T) T.c_RowReader_take (hr.mono (by decide)) (passes_call (takes_of rfl rfl rfl rfl) (fun _ _ _ _ h => h)) (pa_cons (pe_op (op_catAK K) (pe_op (op_catAK K) (pe_tup (pa_cons (z_str T.i_RUN) (pa_cons (z_str T.i_BAR) (pa_cons (z_str T.i_LATER) pa_nil)))) (z_ref T.g_LINE_WORDS)) (z_ref T.g_FLAG_WORDS)) pa_nil)))
      (pss_one (ps_ret (pe_tup (pa_cons (pv 1) (pa_cons (pe_ifExp (PW.pt (pw_or (pt_cmpR op_eq (pv 1) (z_str T.i_LATER) (nomark _)) (pw_or1 (pt_cmpR (op_in_seqK K) (pv 1) (z_ref T.g_LINE_WORDS) (by rfl))))) (z_meth0 (pv 0) T.cl_RowReader T.m_RowReader_read_name (ok_RowReader_read_name_x T) T.c_RowReader_read_name (hr.mono (by decide)) (passes_call (takes_of rfl rfl rfl rfl) (fun _ _ _ _ h => h))) (z_meth0 (pv 0) T.cl_RowReader T.m_RowReader_read_integer (ok_RowReader_read_integer_x T) T.c_RowReader_read_integer (hr.mono (by decide)) (passes_call (takes_of rfl rfl rfl rfl) (fun _ _ _ _ h => h)))) pa_nil)))))), ?_⟩)
  · obtain ⟨a, p, ws, n, s, rfl, _⟩ := h
    rfl
  obtain ⟨a, p, ws, n, s, rfl, rd, n0, n1, hs, q, x1, x2⟩ := h
  show (_ : TS) _ [some (.ref a), none] H
  try dsimp only [cxOf]
  obtain ⟨dx, ha⟩ := rd.ins
  obtain ⟨w0, h0⟩ : ∃ w0, ws[s]? = some w0 := ⟨_, List.getElem?_eq_getElem hs⟩
  walk_at "rz"
  rename_i t1 ht1 H1 s1 e1
  refine s_catW (SqT.of e1) (T.t_LINE_WORDS _) (by rw [sizeLine_eq]; simp) fun t2 H2 s2 e2 => ?_
  walk_at "rz"
  refine s_catW e2 (T.t_FLAG_WORDS _) (by rw [sizeLine_eq]; simp) fun t3 H3 s3 e3 => ?_
  have s13 := (s1.trans s2).trans s3
  walk_at "rz"
  refine ⟨a, p, ws, n, s, t3, allS, rfl, rd.same s13, n0, n1, e3, fun w0' h0' hall H4 f4 rd4 => ?_, fun h => ?_⟩
  case refine_2 =>
    rcases h with h | ⟨w0', h0', hm⟩
    · omega
    · exact ((x1 _ h0' hm).go s13.fr).less (by simp)
  rw [h0] at h0'
  cases h0'
  have f04 : Fr [a] H H4 := (s13.fr).trans f4
  obtain ⟨dx4, ha4⟩ := rd4.ins
  have x2 := x2 _ h0 hall
  have nm : ∀ (yes : w0 ∈ namS), (s + 1 = ws.length ∨ ∃ w1, ws[s + 1]? = some w1 ∧ isWd w1 = false) → notE K [] n (s + 1) H4 E := fun yes h => ((x2 (h.imp id fun ⟨w1, e1, e2⟩ => ⟨w1, e1, by rw [if_pos yes]; exact e2⟩)).go f04).less (by simp)
  have nn : ∀ (no : w0 ∉ namS), (s + 1 = ws.length ∨ ∃ w1, ws[s + 1]? = some w1 ∧ isNum w1 = false) → notE K [] n (s + 1) H4 E := fun no h => ((x2 (h.imp id fun ⟨w1, e1, e2⟩ => ⟨w1, e1, by rw [if_neg no]; exact e2⟩)).go f04).less (by simp)
  walk_at "rz"
  by_cases hn : w0 ∈ namS
  · rcases Bool.eq_false_or_eq_true (decide (V.str w0 = V.str "later")) with n1' | n1'
    · refine ite_t n1' ?_
      walk_at "rz"
      refine ⟨a, p, ws, n, s + 1, rfl, rd4, n0, n1, fun w1 h1 hw H5 f5 rd5 => ?_, nm hn⟩
      walk_at "rz"
      rename_i t6 ht6 H6 s6 e6
      exact q (w0, .inr w1) (.nam _ _ hn hw (rd.sh _ (List.mem_of_getElem? h1))) h0 h1 _ _ (f04.trans (f5.trans s6.fr)) (rd5.same s6) (.tup (SqT.of e6) (.cons (.str _) (.cons (.str _) .nil)))
    · refine ite_f n1' ?_
      have n2 : inV (.str w0) lineWords = true := by
        rcases (later_nam _ hall).mpr hn with h | h
        · rw [n1'] at h; cases h
        · exact h
      walk_at "rz"
      refine s_in (.inr (T.t_LINE_WORDS _)) rfl rfl ?_
      refine ⟨_, rfl, ?_⟩
      rw [if_neg Bool.false_ne_true, n2]
      walk_at "rz"
      refine ⟨a, p, ws, n, s + 1, rfl, rd4, n0, n1, fun w1 h1 hw H5 f5 rd5 => ?_, nm hn⟩
      walk_at "rz"
      rename_i t6 ht6 H6 s6 e6
      exact q (w0, .inr w1) (.nam _ _ hn hw (rd.sh _ (List.mem_of_getElem? h1))) h0 h1 _ _ (f04.trans (f5.trans s6.fr)) (rd5.same s6) (.tup (SqT.of e6) (.cons (.str _) (.cons (.str _) .nil)))
  · have no := fun h => hn ((later_nam _ hall).mp h)
    have n1' : decide (V.str w0 = V.str "later") = false := Bool.eq_false_iff.mpr fun h => no (.inl h)
    have n2 : inV (.str w0) lineWords = false := Bool.eq_false_iff.mpr fun h => no (.inr h)
    refine ite_f n1' ?_
    walk_at "rz"
    refine s_in (.inr (T.t_LINE_WORDS _)) rfl rfl ?_
    refine ⟨_, rfl, ?_⟩
    rw [if_neg Bool.false_ne_true, n2]
    walk_at "rz"
    refine ⟨a, p, ws, n, s + 1, rfl, rd4, n0, n1, fun w1 i h1 hw i0 i1 hi H5 f5 rd5 => ?_, nn hn⟩
    walk_at "rz"
    rename_i t6 ht6 H6 s6 e6
    exact q (w0, .inl i) (.num _ _ hall hn i0 i1 (by rw [hi]; exact hw)) h0 (by rw [h1]; exact congrArg some hi.symm) _ _ (f04.trans (f5.trans s6.fr)) (rd5.same s6) (.tup (SqT.of e6) (.cons (.str _) (.cons (.int _) .nil)))
theorem ok_RowReader_read_work_x (T : Txt K mg) : FnOk P w K mg base (L2.CX P w) 6 (ma K (ga K "RowReader") "read_work") (fdOf K (ma K (ga K "RowReader") "read_work")) ["self"] (spRWkX K) := by
  refine FunD.ok T.F_RowReader_read_work sc_RowReader_read_work (fun vs H Q E h => ?_) (fun cdv A outer s H vs Q E hr h => ⟨_, (pss_cons (ps_expr (z_meth (pv 0) T.cl_RowReader T.m_RowReader_take (ok_RowReader_take_x T) T.c_RowReader_take (hr.mono (by decide)) (passes_call (takes_of rfl rfl rfl rfl) (fun _ _ _ _ h => h)) (pa_cons (pe_tup (pa_cons pe_str pa_nil)) pa_nil)))
      (pss_cons (zset 1 sc_RowReader_read_work.nd (pe_tup (pa_cons (z_meth0 (pv 0) T.cl_RowReader T.m_RowReader_read_name (ok_RowReader_read_name_x T) T.c_RowReader_read_name (hr.mono (by decide)) (passes_call (takes_of rfl rfl rfl rfl) (fun _ _ _ _ h => h))) (pa_cons (z_meth0 (pv 0) T.cl_RowReader T.m_RowReader_read_integer (ok_RowReader_read_integer_x T) T.c_RowReader_read_integer (hr.mono (by decide)) (passes_call (takes_of rfl rfl rfl rfl) (fun _ _ _ _ h => h))) (pa_cons (z_meth0 (pv 0) T.cl_RowReader T.m_RowReader_read_integer (ok_RowReader_read_integer_x T) T.c_RowReader_read_integer (hr.mono (by decide)) (passes_call (takes_of rfl rfl rfl rfl) (fun _ _ _ _ h => h))) pa_nil)))))
      (pss_cons (ps_expr (z_meth (pv 0) T.cl_RowReader T.m_RowReader_need (ok_RowReader_need_x T) T.c_RowReader_need (hr.mono (by decide)) (passes_call (takes_of rfl rfl rfl rfl) (fun _ _ _ _ h => h)) (pa_cons (z_meth0 (pv 0) T.cl_RowReader T.m_RowReader_is_over (ok_RowReader_is_over T) T.c_RowReader_is_over (hr.mono (by decide)) passL) pa_nil)))
      (pss_one (ps_ret (pv 1)))))), ?_⟩)
  · obtain ⟨a, p, ws, n, rfl, _⟩ := h
    rfl
  obtain ⟨a, p, ws, n, rfl, rd, n0, n1, hw0, x, q⟩ := h
  show (_ : TS) _ [some (.ref a), none] H
  try dsimp only [cxOf]
  obtain ⟨dx, ha⟩ := rd.ins
  have l0 := len_of hw0
  walk_at "rz"
  rename_i t1 ht1 H1 s1 e1
  refine ⟨a, p, ws, n, 0, t1, ["work"], rfl, rd.same s1, n0, n1, SqT.of e1, fun w0 h0 hm H2 f2 rd2 => ?_, fun h => ?_⟩
  case refine_2 =>
    rcases h with h | ⟨w0, h0, hm⟩
    · omega
    · rw [hw0] at h0; cases h0; exact absurd (List.mem_singleton.mpr rfl) hm
  have f02 : Fr [a] H H2 := (s1.fr).trans f2
  obtain ⟨dx2, ha2⟩ := rd2.ins
  walk_at "rz"
  refine ⟨a, p, ws, n, 1, rfl, rd2, n0, n1, fun w1 h1 g1 H3 f3 rd3 => ?_, fun h => ((x 1 (wrongW_some (by omega) (by omega) (h.imp (fun e => by omega) fun ⟨v, e1, e2⟩ => by show isWd (ws.getD 1 "") = false; rw [getD_of e1]; exact e2) (fun j j1 j2 => by omega))).go f02).less (by simp)⟩
  obtain ⟨dx3, ha3⟩ := rd3.ins
  have f03 := f02.trans f3
  have k1 : ∀ j, 1 ≤ j → j < 2 → j < ws.length ∧ goodW ws j = true := fun j j1 j2 => by
    have : j = 1 := by omega
    subst this
    exact ⟨len_of h1, by show isWd (ws.getD 1 "") = true; rw [getD_of h1]; exact g1⟩
  walk_at "rz"
  refine ⟨a, p, ws, n, 2, rfl, rd3, n0, n1, fun w2 i2 h2 g2 i20 i21 hi2 H4 f4 rd4 => ?_, fun h => ((x 2 (wrongW_some (by omega) (by omega) (h.imp (fun e => by omega) fun ⟨v, e1, e2⟩ => by show isNum (ws.getD 2 "") = false; rw [getD_of e1]; exact e2) k1)).go f03).less (by simp)⟩
  obtain ⟨dx4, ha4⟩ := rd4.ins
  have f04 := f03.trans f4
  have k2 : ∀ j, 1 ≤ j → j < 3 → j < ws.length ∧ goodW ws j = true := fun j j1 j2 => by
    by_cases e : j = 2
    · subst e
      exact ⟨len_of h2, by show isNum (ws.getD 2 "") = true; rw [getD_of h2]; exact g2⟩
    · exact k1 j j1 (by omega)
  walk_at "rz"
  refine ⟨a, p, ws, n, 3, rfl, rd4, n0, n1, fun w3 i3 h3 g3 i30 i31 hi3 H5 f5 rd5 => ?_, fun h => ((x 3 (wrongW_some (by omega) (by omega) (h.imp (fun e => by omega) fun ⟨v, e1, e2⟩ => by show isNum (ws.getD 3 "") = false; rw [getD_of e1]; exact e2) k2)).go f04).less (by simp)⟩
  obtain ⟨dx5, ha5⟩ := rd5.ins
  have f05 := f04.trans f5
  have k3 : ∀ j, 1 ≤ j → j < 4 → j < ws.length ∧ goodW ws j = true := fun j j1 j2 => by
    by_cases e : j = 3
    · subst e
      exact ⟨len_of h3, by show isNum (ws.getD 3 "") = true; rw [getD_of h3]; exact g3⟩
    · exact k2 j j1 (by omega)
  have l4 := len_of h3
  walk_at "rz"
  rename_i t6 ht6 H6 s6 e6
  have rd6 := rd5.same s6
  have f06 := f05.trans (s6.fr (A := []) |>.mono (by simp))
  obtain ⟨dx6, ha6⟩ := rd6.ins
  walk_at "rz"
  refine ⟨a, p, ws, n, 4, rfl, rd6, ?_⟩
  walk_at "rz"
  refine ⟨a, p, ws, n, 4, decide (4 = ws.length), rfl, rd6, n0, n1, fun hb => ?_, fun hb => ?_⟩
  · have e4 := of_decide_eq_true hb
    walk_at "rz"
    have ew : wkW ⟨w1, i2, i3⟩ = ws := by
      show [("work" : Str), w1, txI i2, txI i3] = ws
      rw [hi2, hi3, ← take4 hw0 h1 h2 h3]
      exact List.take_of_length_le (by omega)
    refine q (bad_none (by omega) fun j j1 j2 => (k3 j j1 (by omega)).2) ⟨w1, i2, i3⟩ ew ⟨g1, rd.sh _ (List.mem_of_getElem? h1), i20, i21, i30, i31⟩ _ _ f06 (.tup (SqT.of e6) (.cons (.str _) (.cons (.int _) (.cons (.int _) .nil))))
  · have e4 : ¬ 4 = ws.length := fun e => by rw [decide_eq_true e] at hb; cases hb
    exact ((x 4 (wrongW_some (by omega) (by omega) (.inr rfl) k3)).go f06).less (by simp)
theorem ok_RowReader_read_line_x (T : Txt K mg) : FnOk P w K mg base (L2.CX P w) 8 (ma K (ga K "RowReader") "read_line") (fdOf K (ma K (ga K "RowReader") "read_line")) ["self"] (spRLineX K) := by
  refine FunD.ok T.F_RowReader_read_line sc_RowReader_read_line (fun vs H Q E h => ?_) (fun cdv A outer s H vs Q E hr h => ⟨_, (pss_cons (ps_expr (z_meth (pv 0) T.cl_RowReader T.m_RowReader_take (ok_RowReader_take_x T) T.c_RowReader_take (hr.mono (by decide)) (passes_call (takes_of rfl rfl rfl rfl) (fun _ _ _ _ h => h)) (pa_cons (pe_tup (pa_cons pe_str pa_nil)) pa_nil)))
      (pss_cons (ps_asg (pe_tup (pa_cons (z_meth0 (pv 0) T.cl_RowReader T.m_RowReader_read_name (ok_RowReader_read_name_x T) T.c_RowReader_read_name (hr.mono (by decide)) (passes_call (takes_of rfl rfl rfl rfl) (fun _ _ _ _ h => h))) (pa_cons (z_meth (pv 0) T.cl_RowReader T.m_RowReader_take (ok_RowReader_take_x T) T.c_RowReader_take (hr.mono (by decide)) (passes_call (takes_of rfl rfl rfl rfl) (fun _ _ _ _ h => h)) (pa_cons (pe_tup (pa_cons (z_str T.i_EDGE) (pa_cons (z_str T.i_LEVEL) pa_nil))) pa_nil)) (pa_cons (z_meth0 (pv 0) T.cl_RowReader T.m_RowReader_read_integer (ok_RowReader_read_integer_x T) T.c_RowReader_read_integer (hr.mono (by decide)) (passes_call (takes_of rfl rfl rfl rfl) (fun _ _ _ _ h => h))) (pa_cons (pe_lst pa_nil) pa_nil))))) (kGT K (pg_tup (n := 4) rfl (pgs_cons (zg 1 sc_RowReader_read_line.nd) (pgs_cons (zg 2 sc_RowReader_read_line.nd) (pgs_cons (zg 3 sc_RowReader_read_line.nd) (pgs_cons (zg 4 sc_RowReader_read_line.nd) pgs_nil)))))))
      (pss_cons (ps_while PassesOwn.leaving (pt_not (pt_val (z_meth0 (pv 0) T.cl_RowReader T.m_RowReader_is_over (ok_RowReader_is_over T) T.c_RowReader_is_over (hr.mono (by decide)) passL)))
      (pss_one (ps_expr (kBM K (pe_bm PySem.F.plainAttrs_list PySem.F.slot_list_append PySem.F.type_list_append mt_append (pv 4) (pa_cons (z_meth0 (pv 0) T.cl_RowReader T.m_RowReader_read_step (ok_RowReader_read_step_x T) T.c_RowReader_read_step (hr.mono (by decide)) (passes_call (takes_of rfl rfl rfl rfl) (fun _ _ _ _ h => h))) pa_nil))))))
      (pss_one (ps_ret (pe_tup (pa_cons (pv 1) (pa_cons (pv 2) (pa_cons (pv 3) (pa_cons (pe_callTy (call_tuple_ofK K) (by rfl) T.u_tuple (by decide +kernel) (pa_cons (pv 4) pa_nil)) pa_nil)))))))))), ?_⟩)
  · obtain ⟨a, p, ws, n, rfl, _⟩ := h
    rfl
  obtain ⟨a, p, ws, n, rfl, rd, n0, n1, hne, x, q⟩ := h
  show (_ : TS) _ [some (.ref a), none, none, none, none] H
  try dsimp only [cxOf]
  obtain ⟨dx, ha⟩ := rd.ins
  have l0 : 0 < ws.length := List.length_pos_iff.mpr hne
  walk_at "rz"
  rename_i t1 ht1 H1 s1 e1
  refine ⟨a, p, ws, n, 0, t1, ["line"], rfl, rd.same s1, n0, n1, SqT.of e1, fun w0 h0 hm H2 f2 rd2 => ?_, fun h => ?_⟩
  case refine_2 =>
    rcases h with h | ⟨w0, h0, hm⟩
    · omega
    · exact ((x 0 (wrongLine_n h0 fun e => hm (by rw [e]; simp))).go s1.fr).less (by simp)
  have h0 : ws[0]? = some ("line" : Str) := by rw [h0, List.mem_singleton.mp hm]
  rw [wrongLine_l h0] at x q
  have f02 : Fr [a] H H2 := (s1.fr).trans f2
  obtain ⟨dx2, ha2⟩ := rd2.ins
  walk_at "rz"
  refine ⟨a, p, ws, n, 1, rfl, rd2, n0, n1, fun w1 h1 g1 H3 f3 rd3 => ?_, fun h => ((x 1 (wrongL_some (by omega) (by omega) (h.imp (fun e => by omega) fun ⟨v, e1, e2⟩ => by show isWd (ws.getD 1 "") = false; rw [getD_of e1]; exact e2) (fun j j1 j2 => by omega))).go f02).less (by simp)⟩
  obtain ⟨dx3, ha3⟩ := rd3.ins
  have f03 := f02.trans f3
  have k1 : ∀ j, 1 ≤ j → j < 2 → j < ws.length ∧ goodL ws j = true := fun j j1 j2 => by
    have : j = 1 := by omega
    subst this
    exact ⟨len_of h1, by show isWd (ws.getD 1 "") = true; rw [getD_of h1]; exact g1⟩
  walk_at "rz"
  rename_i t4 ht4 H4 s4 e4
  have f034 : Fr [a] H H4 := f03.trans (s4.fr (A := []) |>.mono (by simp))
  refine ⟨a, p, ws, n, 2, t4, ["edge", "level"], rfl, rd3.same s4, n0, n1, SqT.of e4, fun w2 h2 g2 H5 f5 rd5 => ?_, fun h => ((x 2 (wrongL_some (by omega) (by omega) (h.imp (fun e => by omega) fun ⟨v, e1, e2⟩ => by show decide (ws.getD 2 "" ∈ _) = false; rw [getD_of e1]; exact decide_eq_false e2) k1)).go f034).less (by simp)⟩
  obtain ⟨dx5, ha5⟩ := rd5.ins
  have f05 := f034.trans f5
  have k2 : ∀ j, 1 ≤ j → j < 3 → j < ws.length ∧ goodL ws j = true := fun j j1 j2 => by
    by_cases e : j = 2
    · subst e
      exact ⟨len_of h2, by show decide (ws.getD 2 "" ∈ _) = true; rw [getD_of h2]; exact decide_eq_true g2⟩
    · exact k1 j j1 (by omega)
  walk_at "rz"
  refine ⟨a, p, ws, n, 3, rfl, rd5, n0, n1, fun w3 i3 h3 g3 i30 i31 hi3 H6 f6 rd6 => ?_, fun h => ((x 3 (wrongL_some (by omega) (by omega) (h.imp (fun e => by omega) fun ⟨v, e1, e2⟩ => by show isNum (ws.getD 3 "") = false; rw [getD_of e1]; exact e2) k2)).go f05).less (by simp)⟩
  have f06 : Fr [a] H H6 := f05.trans f6
  have k3 : ∀ j, 1 ≤ j → j < 4 → j < ws.length ∧ goodL ws j = true := fun j j1 j2 => by
    by_cases e : j = 3
    · subst e
      exact ⟨len_of h3, by show isNum (ws.getD 3 "") = true; rw [getD_of h3]; exact g3⟩
    · exact k2 j j1 (by omega)
  have t4w : ws.take 4 = lnW ⟨w1, w2, i3, []⟩ := by
    rw [take4 h0 h1 h2 h3, ← hi3]
    rfl
  have l4 := len_of h3
  have hsh1 := rd.sh _ (List.mem_of_getElem? h1)
  clear f2 f3 f5 f6 f02 f03 f034 f05 s1 s4 rd2 rd3 rd5 ha2 ha3 ha5 e1 e4 ht1 ht4
  walk_at "rz"
  rename_i L hL H7 s7 e7 t8 ht8 H8 s8 e8
  have hL0 : H L = none := f06.back hL
  have La : L ≠ a := fun e => by rw [e, ha] at hL0; cases hL0
  have rd8 := (rd6.same s7).same s8
  have f08 : Fr [a] H H8 := f06.trans ((s7.trans s8).fr)
  have eL8 := s8 _ _ e7
  have hLp : L ≠ p := fun e => by
    have := rd6.lst
    rw [← e, hL] at this
    cases this
  refine s_gtup (SqT.of e8) rfl ?_
  refine s_gcons (s_gname (s_gcons (s_gname (s_gcons (s_gname (s_gcons (s_gname (s_gnil (s_seq ?_)))))))))
  clear e7 e8 s7 s8 rd6 f06 ht8 hL
  have hlen := rd.len
  refine while_e (fun σ H3 => ∃ vs sts, σ = [some (.ref a), some (.str w1), some (.str w2), some (.int i3), some (.ref L)] ∧ Fr [a] H H3 ∧ H3 L = some (.lst vs) ∧ DpAll K H3 vs (sts.map dSt) ∧ (∀ s ∈ sts, RS s) ∧ ws = lnW ⟨w1, w2, i3, sts⟩ ∧ wrongL ws = none) ?rest (fun hx => ?loop)
  case rest =>
    rintro σ H3 ⟨vs, sts, rfl, f3, e3, d3, hst, hws, hno⟩
    walk_at "rz"
    refine ⟨L, vs, rfl, .inl ⟨SqL.of e3, fun t4 ht4 => ?_⟩⟩
    generalize eH : upd H3 t4 _ = H4
    have s4 := newS ht4 eH
    have e4 := newE eH
    clear eH
    walk_at "rz"
    rename_i t5 ht5 H5 s5 e5
    exact q hno ⟨w1, w2, i3, sts⟩ hws.symm ⟨g1, hsh1, g2, i30, i31, hst⟩ _ _ (f3.trans ((s4.trans s5).fr)) (.tup (SqT.of e5) (.cons (.str _) (.cons (.str _) (.cons (.int _) (.cons (.tup (SqT.of (s5 _ _ e4)) ((d3.same s4).same s5)) .nil)))))
  refine ⟨fun m σ H3 => ∃ j vs sts, σ = [some (.ref a), some (.str w1), some (.str w2), some (.int i3), some (.ref L)] ∧ Fr [a] H H3 ∧ RdAt K H3 a p ws n (4 + 2 * j) ∧ H3 L = some (.lst vs) ∧ DpAll K H3 vs (sts.map dSt) ∧ sts.length = j ∧ (∀ s ∈ sts, RS s) ∧ ws.take (4 + 2 * j) = lnW ⟨w1, w2, i3, sts⟩ ∧ (∀ i, 1 ≤ i → i < 4 + 2 * j → i < ws.length ∧ goodL ws i = true) ∧ 4 + 2 * j ≤ ws.length ∧ m = ws.length - (4 + 2 * j),
    ⟨_, 0, [], [], rfl, f08, rd8, eL8, .nil, rfl, fun s hs => by (cases hs), t4w, k3, by omega, rfl⟩, ?_⟩
  rintro m σ H3 ⟨j, vs, sts, rfl, f3, rd3, e3, d3, hj, hst, hws, hgood, hle, rfl⟩
  clear rd8 f08 eL8 k1 k2 k3
  obtain ⟨dx3, ha3⟩ := rd3.ins
  walk_at "rz"
  refine ⟨a, p, ws, n, 4 + 2 * j, rfl, rd3, ?_⟩
  by_cases hjl : 4 + 2 * j = ws.length
  · rw [decide_eq_true hjl]
    refine ⟨true, rfl, ?_⟩
    rw [if_neg (by decide)]
    exact hx _ _ ⟨vs, sts, rfl, f3, e3, d3, hst, by rw [← hws]; exact (List.take_of_length_le (by omega)).symm, wrongL_none (by omega) (by omega) fun i i1 i2 => (hgood i i1 (by omega)).2⟩
  · rw [decide_eq_false hjl]
    refine ⟨false, rfl, ?_⟩
    rw [if_pos (by decide)]
    refine ⟨_, fun σ' H' n => n, ?_⟩
    walk_at "rz"
    refine s_tyL e3 ?_
    walk_at "rz"
    have good1 : ∀ w0, ws[4 + 2 * j]? = some w0 → w0 ∈ allS → ∀ i, 1 ≤ i → i < 4 + 2 * j + 1 → i < ws.length ∧ goodL ws i = true := fun w0 h hm i i1 i2 => by
      by_cases e : i = 4 + 2 * j
      · subst e
        exact ⟨len_of h, by rw [goodL_ev, getD_of h]; exact decide_eq_true hm⟩
      · exact hgood i i1 (by omega)
    refine ⟨a, p, ws, n, 4 + 2 * j, rfl, rd3, n0, n1, by omega, fun st rs v1 v2 H4 t4 f4 rd4 d4 => ?_, fun w0 h hm => ?_, fun w0 h hm hb => ?_⟩
    · have e4 := f4.at e3 (by simp [La])
      have lvs : vs.length = j := by rw [d3.len, List.length_map, hj]
      walk_at "rz"
      refine s_append e4 (by rw [sizeLine_eq]; omega) ?_
      have f5 : Fr [L] H4 (upd H4 L (.lst (vs ++ [.ref t4]))) := Fr.upd (by simp) e4 rfl
      have hs2 := len_of v2
      have kst : st.1 ∈ allS ∧ (if st.1 ∈ namS then isWd (kT st.2) else isNum (kT st.2)) = true := by
        cases rs with
        | num w i h1 h2 h3 h4 h5 => exact ⟨h1, by rw [if_neg h2]; exact h5⟩
        | nam w z h1 h2 h3 => exact ⟨(by decide +kernel : ∀ w ∈ namS, w ∈ allS) w h1, by rw [if_pos h1]; exact h2⟩
      refine ⟨ws.length - (4 + 2 * (j + 1)), by omega, j + 1, vs ++ [.ref t4], sts ++ [st], rfl, (f3.trans f4).seq f5 (fun x hx => .inr (by rw [List.mem_singleton.mp hx]; exact hL0)), rd4.keep f5 (by simp [Ne.symm La]) (by simp [Ne.symm hLp]), upd_same, ?_, by rw [List.length_append, hj]; rfl, ?_, ?_, ?_, by omega, rfl⟩
      · rw [List.map_append]
        exact ((d3.tk f4.tk (tupds_map tupd_dSt _)).tk f5.tk (tupds_map tupd_dSt _)).app (.cons (d4.tk f5.tk (tupd_dSt _)) .nil)
      · intro s hs
        rcases List.mem_append.mp hs with hs | hs
        · exact hst s hs
        · rw [List.mem_singleton.mp hs]; exact rs
      · rw [show 4 + 2 * (j + 1) = (4 + 2 * j) + 2 by omega, take_more v1 v2, hws, lnW_more]
      · intro i i1 i2
        by_cases e : i = 4 + 2 * j + 1
        · subst e
          exact ⟨hs2, by rw [goodL_od, getD_of v1, getD_of v2]; exact kst.2⟩
        · exact good1 _ v1 kst.1 i i1 (by omega)
    · exact (x _ (wrongL_some (by omega) (by omega) (.inr (by rw [goodL_ev, getD_of h]; exact decide_eq_false hm)) hgood)).go f3
    · rcases hb with hb | ⟨w1', h1', hb⟩
      · refine (x _ ?_).go f3
        rw [hb]
        exact wrongL_odd (by omega) (by omega) fun i i1 i2 => (good1 _ h hm i i1 (by omega)).2
      · have := len_of h1'
        exact (x _ (wrongL_some (by omega) (by omega) (.inr (by rw [goodL_od, getD_of h, getD_of h1']; exact hb)) (good1 _ h hm))).go f3
end
set_option maxHeartbeats 4000000
open PySem PySem.Spec PyProof.Rows L2 Z
open He (ga ma)
open TL (tl)
theorem _root_.L2.FnOk.or {P : Program} {w : World} {K : Fg} {mg : Str → Option Value} {base : Heap} {CX k f fd ps} {s1 s2 : Sp} (a : FnOk P w K mg base CX k f fd ps s1) (b : FnOk P w K mg base CX k f fd ps s2) : FnOk P w K mg base CX k f fd ps (fun vs H Q E => s1 vs H Q E ∨ s2 vs H Q E) :=
  ⟨fun vs H Q E h => h.elim (a.1 vs H Q E) (b.1 vs H Q E), fun a1 a2 a3 a4 a5 a6 a7 a8 a9 b1 b2 b3 b4 h => h.elim (a.2 a1 a2 a3 a4 a5 a6 a7 a8 a9 b1 b2 b3 b4) (b.2 a1 a2 a3 a4 a5 a6 a7 a8 a9 b1 b2 b3 b4)⟩
theorem notE.new {K : Fg} {A : List Addr} {n : Int} {s : Nat} {H H' : Hp} {E : XK} (h : notE K [] n s H E) (f : Same H H') (new : ∀ a ∈ A, H a = none) : notE K A n s H' E := fun dx H2 f2 e => h dx H2 ((f.fr : Fr [] H H').seq f2 fun y hy => .inr (new y hy)) e
def spParseX (K : Fg) : Sp := fun vs H Q E => ∃ T : Str, vs = [.ref (ga K "Setup"), .str T] ∧ T.length ≤ 40000 ∧
  (∀ k w, FirstW (rowsOf T) k w → notE K [] k w H E) ∧
  (NoWr (rowsOf T) → (∀ P, ReadAll T P → ¬ P.Ok → ∀ p k dx H', Same H H' → H' dx = some (xdS p k) → E (.ref (ga K "InvalidSetup")) (some dx) H') ∧ ∀ P H' D, ReadAll T P → P.Ok → Same H H' → (∀ a ∈ D.own, H a = none) → PlanAt K H' D P → Q (.ref D.p) H')
section
variable {P : Program} {w : World} {K : Fg} {mg : Str → Option Value} {base : Heap}
theorem ok_Setup_parse_x (T : Txt K mg) : FnOk P w K mg base (L2.CX P w) 12 (cga K (ga K "Setup") "parse") (fdOf K (cga K (ga K "Setup") "parse")) ["cls", "text"] (spParseX K) := by
  have ok_Setup_init_x := fun (T : Txt K mg) => L2.FnOk.or (ok_Setup_init (P := P) (w := w) (base := base) T) (ok_Setup_init_x (P := P) (w := w) (base := base) T)
  refine FunD.ok T.F_Setup_parse sc_Setup_parse (fun vs H Q E h => ?_) (fun cdv A outer s H vs Q E hr h => ⟨_, (pss_cons (ps_par (by rfl) sc_Setup_parse.nd (i := 2) (j := 3) rfl rfl (by decide) rfl rfl (pa_cons (pe_lst pa_nil) (pa_cons (pe_lst pa_nil) pa_nil)) (by rfl))
      (pss_cons (ps_for PassesOwn.leaving rfl (kIE K (pi_enum (by rfl) T.u_enumerate (pa_cons (pe_split (pv 1) pe_str) pa_nil))) (kGT K (pg_tup (n := 2) rfl (pgs_cons (zg 4 sc_Setup_parse.nd) (pgs_cons (zg 5 sc_Setup_parse.nd) pgs_nil))))
      (pss_cons (zset 6 sc_Setup_parse.nd (z_make T.mk_RowReader (ok_RowReader_init T) T.c_RowReader_init (hr.mono (by decide)) rfl T.g_RowReader passL (pa_cons (pv 5) (pa_cons (pv 4) pa_nil))))
      (pss_one (ps_if (PW.pt (pw_and (pt_val (z_meth0 (pv 6) T.cl_RowReader T.m_RowReader_is_work_row (ok_RowReader_is_work_row T) T.c_RowReader_is_work_row (hr.mono (by decide)) passL)) (pw_and1 (pt_cmpR (op_ne0K K hr.units) (pv 2) (pe_lst pa_nil) (nomark _))))) (pss_one (ps_expr (kBM K (pe_bm PySem.F.plainAttrs_list PySem.F.slot_list_append PySem.F.type_list_append mt_append (pv 3) (pa_cons (z_meth0 (pv 6) T.cl_RowReader T.m_RowReader_read_work (ok_RowReader_read_work_x T) T.c_RowReader_read_work (hr.mono (by decide)) (passes_call (takes_of rfl rfl rfl rfl) (fun _ _ _ _ h => h))) pa_nil))))) (pss_cons (ps_expr (z_meth (pv 6) T.cl_RowReader T.m_RowReader_need (ok_RowReader_need_x T) T.c_RowReader_need (hr.mono (by decide)) (passes_call (takes_of rfl rfl rfl rfl) (fun _ _ _ _ h => h)) (pa_cons (pe_cmpR (op_eq0K K hr.units) (pv 3) (pe_lst pa_nil) (nomark _)) pa_nil)))
      (pss_one (ps_expr (kBM K (pe_bm PySem.F.plainAttrs_list PySem.F.slot_list_append PySem.F.type_list_append mt_append (pv 2) (pa_cons (z_meth0 (pv 6) T.cl_RowReader T.m_RowReader_read_line (ok_RowReader_read_line_x T) T.c_RowReader_read_line (hr.mono (by decide)) (passes_call (takes_of rfl rfl rfl rfl) (fun _ _ _ _ h => h))) pa_nil))))))))))
      (pss_one (ps_ret (z_makeV (i := 0) rfl (by first | exact .inl rfl | exact .inr (.inl rfl) | exact .inr (.inr rfl)) T.mk_Setup (ok_Setup_init_x T) T.c_Setup_init (hr.mono (by decide)) (passes_call (takes_of rfl rfl rfl rfl) (fun _ _ _ _ h => h)) (pa_cons (pe_callTy (call_tuple_ofK K) (by rfl) T.u_tuple (by decide +kernel) (pa_cons (pv 2) pa_nil)) (pa_cons (pe_callTy (call_tuple_ofK K) (by rfl) T.u_tuple (by decide +kernel) (pa_cons (pv 3) pa_nil)) pa_nil))))))), ?_⟩)
  · obtain ⟨T, rfl, _⟩ := h
    rfl
  obtain ⟨tx, rfl, tlen, xn, q⟩ := h
  show (_ : TS) _ (some (.ref (ga K "Setup")) :: some (.str tx) :: List.replicate 5 none) H
  try dsimp only [cxOf]
  dsimp only [List.replicate]
  walk_at "rz"
  rename_i L hL H1 s1 e1 W hW H2 s2 e2
  have hL0 := hL
  have hW0 : H W = none := s1.fr.back (A := []) hW
  have LW : L ≠ W := fun e => by rw [← e, e1] at hW; cases hW
  have eL2 := s2 _ _ e1
  have s02 := s1.trans s2
  unfold iEnum
  refine s_cons ?_
  refine s_m1 ?_
  walk_at "rz"
  refine ⟨⟨_, rfl⟩, ?_⟩
  walk_at "rz"
  refine ⟨by decide +kernel, by rw [sizeLine_eq]; omega, fun p hp => ?_⟩
  have rl := Z.rows_len tx
  have rr : (rowsOf tx).length = (Txt.split tx "\n").length := by unfold rowsOf; rw [List.length_map]
  generalize esp : Txt.split tx "\n" = sp at *
  generalize eH : upd H2 p _ = H3
  have s3 := newS hp eH
  have e3 := newE eH
  clear eH
  have pL : p ≠ L := fun e => by rw [e, eL2] at hp; cases hp
  have pW : p ≠ W := fun e => by rw [e, e2] at hp; cases hp
  walk_at "rz"
  have eL3 := s3 _ _ eL2
  have eW3 := s3 _ _ e2
  have s03 := s02.trans s3
  refine ⟨p, sp.map V.str, rfl, SqL.of e3, for_it (walk_enum (K := K) (a := p) (xs := sp.map V.str)) (fun i σ Hx => (∃ y4 y5 y6, σ = [some (.ref (ga K "Setup")), some (.str tx), some (.ref L), some (.ref W), y4, y5, y6]) ∧ Fr [L, W] H3 Hx ∧ ∃ Ls Ws, Read (rowsOf tx) i Ls Ws ∧ (∃ vs, Hx L = some (.lst vs) ∧ DpAll K Hx vs (Ls.map dLn)) ∧ ∃ us, Hx W = some (.lst us) ∧ DpAll K Hx us (Ws.map dWk))
    ⟨⟨_, _, _, rfl⟩, Fr.refl, [], [], Read.nil _, ⟨[], eL3, .nil⟩, [], eW3, .nil⟩ (fun i σ Hx _ ⟨_, f, _⟩ => SqL.of (f.at e3 (by simp [pL, pW]))) (fun i x σ Ha Hb hi ⟨⟨y4, y5, y6, es⟩, fx, Ls, Ws, rd0, ⟨vs, eL, dL⟩, us, eW, dW⟩ y => ?_) (fun σ Hx ⟨⟨y4, y5, y6, es⟩, fx, Ls, Ws, rd0, ⟨vs, eL, dL⟩, us, eW, dW⟩ => ?_)⟩
  · subst es
    obtain ⟨t, _, pv, rfl, ht, rfl, h1, h2⟩ := y
    cases h1
    generalize eH : upd Ha t _ = Hc
    have sc1 := newS ht eH
    have ec := newE eH
    clear eH
    rw [List.length_map] at hi
    obtain ⟨z, hz⟩ : ∃ z, sp[i]? = some z := ⟨_, List.getElem?_eq_getElem hi⟩
    have hpv : pv = .str z := by
      have h2 : (sp.map V.str)[i]? = some pv := h2
      rw [List.getElem?_map, hz] at h2
      exact (Option.some.inj h2).symm
    subst hpv
    obtain ⟨r, er⟩ : ∃ r, Txt.split z " " = r := ⟨_, rfl⟩
    have hr : (rowsOf tx)[i]? = some r := by
      unfold rowsOf
      rw [esp, List.getElem?_map, hz, ← er]
      rfl
    have hrm := List.mem_of_getElem? hr
    obtain ⟨rl1, rl2⟩ := Z.row_len hrm
    have zlen : z.length ≤ tx.length := by
      have : z ∈ Txt.split tx "\n" := by rw [esp]; exact List.mem_of_getElem? hz
      exact word_le this
    have rne := Z.row_ne hrm
    have r0 : 0 < r.length := List.length_pos_iff.mpr rne
    obtain ⟨w0, h0⟩ : ∃ w0, r[0]? = some w0 := ⟨_, List.getElem?_eq_getElem r0⟩
    have lvs : vs.length = Ls.length := by rw [dL.len, List.length_map]
    have lus : us.length = Ws.length := by rw [dW.len, List.length_map]
    have llen := rd0.len
    refine s_gtup (SqT.of ec) rfl ?_
    walk_at "rz"
    walk_at "zm"
    rename_i x dx hx Hd sd ed
    refine ⟨x, z, dx, (i : Nat), r, rfl, ed, er, by rw [sizeLine_eq]; omega, by omega, fun w hw => Nat.le_trans (rl2 w hw) tlen, fun He p2 fe hp2 rd => ⟨rfl, ?_⟩⟩
    have hx3 : H3 x = none := fx.back ((sc1.fr : Fr [] Ha Hc).back hx)
    have hp23 : H3 p2 = none := fx.back ((sc1.fr : Fr [] Ha Hc).back ((sd.fr : Fr [] Hc Hd).back hp2))
    have xL : x ≠ L := fun e => by rw [e, eL3] at hx3; cases hx3
    have xW : x ≠ W := fun e => by rw [e, eW3] at hx3; cases hx3
    have pL2 : p2 ≠ L := fun e => by rw [e, eL3] at hp23; cases hp23
    have pW2 : p2 ≠ W := fun e => by rw [e, eW3] at hp23; cases hp23
    have hx0 : H x = none := (s03.fr : Fr [] H H3).back hx3
    have fce : Fr [x] Ha He := ((sc1.trans sd).fr).trans fe
    have eLe := fce.at eL (by simp [Ne.symm xL])
    have eWe := fce.at eW (by simp [Ne.symm xW])
    have dLe := dL.tk fce.tk (tupds_map tupd_dLn _)
    have dWe := dW.tk fce.tk (tupds_map tupd_dWk _)
    have fxe : Fr [L, W] H3 He := fx.seq fce fun y hy => .inr (by rw [List.mem_singleton.mp hy]; exact hx3)
    have s0e : Same H He := ((s03.fr : Fr [] H H3).seq fxe (fun y hy => by
      simp only [List.mem_cons, List.not_mem_nil, or_false] at hy
      rcases hy with rfl | rfl
      · exact .inr hL0
      · exact .inr hW0)).same
    obtain ⟨dxe, hxe⟩ := rd.ins
    have hir : i < (rowsOf tx).length := by omega
    have raise : ∀ {k : Nat} {A : List Addr} {Hf : Hp}, wrongK (rowsOf tx) i = some k → Same He Hf → (∀ a ∈ A, H a = none) → notE K A (i : Nat) k Hf E := fun hk f new => (xn i _ ⟨hir, hk, rd0.no⟩).new (s0e.trans f) new
    have new1 : ∀ a ∈ [x], H a = none := fun a ha => by rw [List.mem_singleton.mp ha]; exact hx0
    have hwk : decide (V.str w0 = V.str "work") = isWorkR r := by
      unfold isWorkR
      rw [getD_of h0]
      exact decide_eq_decide.mpr ⟨fun h => by injection h, fun h => by rw [h]⟩
    clear sd ed fe fce sc1 ec eL eW dL dW fx hx hp2 ht
    walk_at "rz"
    refine ⟨x, p2, r, (i : Nat), 0, w0, rfl, rd, h0, ?_⟩
    rw [hwk]
    rcases Bool.eq_false_or_eq_true (isWorkR r) with ew | ew
    · rw [ew]
      walk_at "rz"
      rename_i z9 hz9 Hf sf ef
      refine ⟨L, z9, vs, rfl, rfl, .inl ⟨SqL.of (sf _ _ eLe), SqL.of ef⟩, ?_⟩
      by_cases hLs : Ls = []
      · have vs0 : vs = [] := List.eq_nil_of_length_eq_zero (by rw [lvs, hLs]; rfl)
        subst vs0
        have hWs : Ws = [] := Classical.byContradiction fun w => rd0.ne w hLs
        have us0 : us = [] := List.eq_nil_of_length_eq_zero (by rw [lus, hWs]; rfl)
        subst us0
        have hwr := rd0.wrongN hr (.inr hLs)
        rw [if_pos hWs] at hwr
        walk_at "rz"
        rename_i z8 hz8 Hg sg eg
        refine s_eq0L (SqL.of ((sf.trans sg) _ _ eWe)) (SqL.of eg) ?_
        have rdf := rd.same (sf.trans sg)
        have eLf := (sf.trans sg) _ _ eLe
        walk_at "rz"
        refine ⟨x, p2, r, (i : Nat), 0, true, rfl, rdf, by omega, by omega, fun _ => ?_, (fun h => (by cases h))⟩
        obtain ⟨dxf, hxf⟩ := rdf.ins
        walk_at "rz"
        refine s_tyL eLf ?_
        walk_at "rz"
        refine ⟨x, p2, r, (i : Nat), rfl, rdf, by omega, by omega, rne, fun k hk => raise (by rw [hwr]; exact hk) (sf.trans sg) new1, fun hn => ?_⟩
        unfold wrongLine at hn
        rw [if_neg (work_line ew)] at hn
        cases hn
      · have vs0 : vs.isEmpty = false := by
          cases vs with
          | nil => exact absurd (List.eq_nil_of_length_eq_zero lvs.symm) hLs
          | cons _ _ => rfl
        rw [vs0]
        have hwr := rd0.wrongW hr ew hLs
        walk_at "rz"
        have rdf := rd.same sf
        have eWf := sf _ _ eWe
        obtain ⟨dxf, hxf⟩ := rdf.ins
        walk_at "rz"
        refine s_tyL eWf ?_
        walk_at "rz"
        have hwl : r[0]? = some ("work" : Str) := by
          have : w0 = ("work" : Str) := by
            rw [ew] at hwk
            have := of_decide_eq_true hwk
            injection this
          rw [h0, this]
        refine ⟨x, p2, r, (i : Nat), rfl, rdf, by omega, by omega, hwl, fun k hk => raise (by rw [hwr]; exact hk) sf new1, fun hn y hy gy Hg t9 fg dg => ?_⟩
        have eWg := fg.at eWf (by simp [Ne.symm xW])
        have eLg := fg.at (sf _ _ eLe) (by simp [Ne.symm xL])
        walk_at "rz"
        refine s_append eWg (by rw [sizeLine_eq]; omega) ?_
        have fh : Fr [W] Hg (upd Hg W (.lst (us ++ [.ref t9]))) := Fr.upd (by simp) eWg rfl
        have feg : Fr [x] He Hg := (sf.fr).trans fg
        have tkh := feg.tk.trans fh.tk
        refine ⟨⟨_, _, _, rfl⟩, (fxe.seq feg fun y hy => .inr (by rw [List.mem_singleton.mp hy]; exact hx3)).trans (fh.mono (by simp)), Ls, Ws ++ [y], rd0.addW (by rw [hr, hy]) gy (by rw [hwr]; exact hn) hLs, ⟨vs, fh.at eLg (by simp [LW]), ?_⟩, _, upd_same, ?_⟩
        · exact dLe.tk tkh (tupds_map tupd_dLn _)
        · rw [List.map_append]
          exact (dWe.tk tkh (tupds_map tupd_dWk _)).app (.cons (dg.tk fh.tk (tupd_dWk _)) .nil)
    · rw [ew]
      have hwr := rd0.wrongN hr (.inl ew)
      walk_at "rz"
      rename_i z9 hz9 Hf sf ef
      refine s_eq0L (SqL.of (sf _ _ eWe)) (SqL.of ef) ?_
      have rdf := rd.same sf
      have eLf := sf _ _ eLe
      by_cases hWs : Ws = []
      · have us0 : us = [] := List.eq_nil_of_length_eq_zero (by rw [lus, hWs]; rfl)
        subst us0
        rw [if_pos hWs] at hwr
        subst hWs
        walk_at "rz"
        refine ⟨x, p2, r, (i : Nat), 0, true, rfl, rdf, by omega, by omega, fun _ => ?_, (fun h => (by cases h))⟩
        obtain ⟨dxf, hxf⟩ := rdf.ins
        walk_at "rz"
        refine s_tyL eLf ?_
        walk_at "rz"
        refine ⟨x, p2, r, (i : Nat), rfl, rdf, by omega, by omega, rne, fun k hk => raise (by rw [hwr]; exact hk) sf new1, fun hn l hl gl Hg t9 fg dg => ?_⟩
        have eLg := fg.at eLf (by simp [Ne.symm xL])
        have eWg := fg.at (sf _ _ eWe) (by simp [Ne.symm xW])
        walk_at "rz"
        refine s_append eLg (by rw [sizeLine_eq]; omega) ?_
        have fh : Fr [L] Hg (upd Hg L (.lst (vs ++ [.ref t9]))) := Fr.upd (by simp) eLg rfl
        have feg : Fr [x] He Hg := (sf.fr).trans fg
        have tkh := feg.tk.trans fh.tk
        refine ⟨⟨_, _, _, rfl⟩, (fxe.seq feg fun y hy => .inr (by rw [List.mem_singleton.mp hy]; exact hx3)).trans (fh.mono (by simp)), Ls ++ [l], [], rd0.addL (by rw [hr, hl]) gl (by rw [hwr]; exact hn), ⟨_, upd_same, ?_⟩, [], fh.at eWg (by simp [Ne.symm LW]), .nil⟩
        rw [List.map_append]
        exact (dLe.tk tkh (tupds_map tupd_dLn _)).app (.cons (dg.tk fh.tk (tupd_dLn _)) .nil)
      · rw [if_neg hWs] at hwr
        have us0 : us.isEmpty = false := by
          cases us with
          | nil => exact absurd (List.eq_nil_of_length_eq_zero lus.symm) hWs
          | cons _ _ => rfl
        walk_at "rz"
        exact ⟨x, p2, r, (i : Nat), 0, false, (by rw [us0]; rfl), rdf, by omega, by omega, (fun h => (by cases h)), fun _ => raise hwr sf (by simp)⟩
  · subst es
    rw [List.length_map] at rd0
    rw [← rr] at rd0
    have eqr : Ls.map lnW ++ Ws.map wkW = rowsOf tx := by rw [← rd0.eq, List.take_length]
    have hLs : Ls ≠ [] := fun e => rows_ne tx (List.eq_nil_of_length_eq_zero (rd0.zero.mp e))
    obtain ⟨xq, q⟩ := q rd0.no
    walk_at "rz"
    have s0x : Same H Hx := ((s03.fr : Fr [] H H3).seq fx (fun y hy => by
      simp only [List.mem_cons, List.not_mem_nil, or_false] at hy
      rcases hy with rfl | rfl
      · exact .inr hL0
      · exact .inr hW0)).same
    refine s_makeV rfl ?_
    walk_at "rz"
    refine ⟨L, vs, rfl, .inl ⟨SqL.of eL, fun ta hta => ?_⟩⟩
    generalize eH : upd Hx ta _ = Ha
    have sa := newS hta eH
    have ea := newE eH
    clear eH
    walk_at "rz"
    refine ⟨W, us, rfl, .inl ⟨SqL.of (sa _ _ eW), fun tb htb => ?_⟩⟩
    generalize eH : upd Ha tb _ = Hb
    have sb := newS htb eH
    have eb := newE eH
    clear eH
    walk_at "rz"
    intro x dx hx hdx hne
    generalize eH : upd (upd Hb dx _) x _ = Hc
    have sc1 := mkS hx hdx eH
    have ec := mkE eH
    clear eH
    have dA : Dp K Hc (.ref ta) (.tuple (Ls.map dLn)) := .tup (SqT.of ((sb.trans sc1) _ _ ea)) (dL.same (sa.trans (sb.trans sc1)))
    have dB : Dp K Hc (.ref tb) (.tuple (Ws.map dWk)) := .tup (SqT.of (sc1 _ _ eb)) (dW.same (sa.trans (sb.trans sc1)))
    have s0b := s0x.trans (sa.trans sb)
    have s0c := s0b.trans sc1
    have ra : ReadAll tx ⟨Ls, Ws⟩ := ⟨eqr, rd0.ln, rd0.wk⟩
    by_cases ok : Pl.Ok ⟨Ls, Ws⟩
    · refine .inl ⟨x, ta, tb, dx, ⟨Ls, Ws⟩, rfl, ec, dA, dB, ok, fun H6 rd wd hrd hwd hrw f6 pl => ⟨rfl, ?_⟩⟩
      have s06 : Same H H6 := ((s0b.fr : Fr [] H Hb).trans ((sc1.fr : Fr [] Hb Hc).seq f6 (fun y hy => .inr (by rw [List.mem_singleton.mp hy]; exact hx)))).same
      refine q ⟨Ls, Ws⟩ H6 ⟨x, rd, wd⟩ ra ok s06 (fun a ha => ?_) pl
      simp only [Z.PA.own, List.mem_cons, List.not_mem_nil, or_false] at ha
      rcases ha with rfl | rfl | rfl
      · exact s0b.fr.back (A := []) hx
      · exact s0c.fr.back (A := []) hrd
      · exact s0c.fr.back (A := []) hwd
    · exact .inr ⟨x, dx, _, _, _, _, rfl, ec, dA, dB, (read_total (K := K) (H := Hc) (E := E) hLs rd0.ln rd0.wk (fun p k dx H' sq e => xq _ ra ok p k dx H' (s0c.trans sq) e)).resolve_left ok⟩
end
set_option maxHeartbeats 4000000
open PySem PySem.Spec PyProof.Rows L2 Z
open He (ga ma)
open TL (tl)
def numW : List Str := ["run", "bar", "set", "clear", "await"]
def namW : List Str := ["later", "ring", "quiet", "mask", "unmask"]
def allW : List Str := ["run", "bar", "later", "ring", "quiet", "mask", "unmask", "set", "clear", "await"]
theorem num_w : ∀ w ∈ numW, decide (V.str w = V.str "later") = false ∧ inV (.str w) lineWords = false ∧ w ∈ allW := by decide +kernel
theorem nam_w : ∀ w ∈ namW, (decide (V.str w = V.str "later") = true ∨ inV (.str w) lineWords = true) ∧ w ∈ allW := by decide +kernel
inductive GS : Str × Key → Prop
  | num (w : Str) (i : Int) : w ∈ numW → 0 ≤ i → i < 100 → GS (w, .inl i)
  | nam (w z : Str) : w ∈ namW → isWord (.str z) = true → short (.str z) = true → GS (w, .inr z)
structure GL (l : Ln) : Prop where
  nm : isWord (.str l.nm) = true
  sh : short (.str l.nm) = true
  kd : l.kd ∈ (["edge", "level"] : List Str)
  r0 : 0 ≤ l.rk
  r1 : l.rk < 100
  st : ∀ s ∈ l.st, GS s
  l8 : l.st.length ≤ 8
structure GW (x : Wk) : Prop where
  nm : isWord (.str x.nm) = true
  sh : short (.str x.nm) = true
  r0 : 0 ≤ x.rk
  r1 : x.rk < 100
  t0 : 0 ≤ x.tk
  t1 : x.tk < 100
theorem fm_len (l : List (Str × Key)) : (l.flatMap stW).length = 2 * l.length := by
  induction l with
  | nil => rfl
  | cons s l ih => rw [List.flatMap_cons, List.length_append, ih, List.length_cons]; show 2 + _ = _; omega
theorem lnW_len (l : Ln) : (lnW l).length = 4 + 2 * l.st.length := by
  unfold lnW
  rw [List.length_append, fm_len]
  rfl
theorem gs_of {P : Pl} (ok : P.Ok) {s : Str × Key} (h : StepIs P s) : GS s := by
  have wd : ∀ {z : Str}, isName (.str z) = true → isWord (.str z) = true := fun h => (Bool.and_eq_true_iff.mp (show (isWord _ && _) = true from h)).1
  cases h with
  | run i h1 h2 => exact .num _ i (by decide +kernel) (by omega) (by omega)
  | bar i h1 h2 => exact .num _ i (by decide +kernel) (by omega) (by omega)
  | later z hz =>
    obtain ⟨x, hx, rfl⟩ := List.mem_map.mp hz
    have g : (isName (.str x.nm) && _) = true := ok.wok x hx
    have s : (short (.str x.nm) && _) = true := (ok.shw x hx).1
    exact .nam _ _ (by decide +kernel) (wd (Bool.and_eq_true_iff.mp g).1) (Bool.and_eq_true_iff.mp s).1
  | flag w i hw h1 h2 =>
    refine .num _ i ?_ (by omega) (by omega)
    simp only [List.mem_cons, List.not_mem_nil, or_false] at hw
    rcases hw with rfl | rfl | rfl <;> decide +kernel
  | line w z hw hz _ =>
    obtain ⟨l, hl, rfl⟩ := List.mem_map.mp hz
    have g : (isName (.str l.nm) && _) = true := ok.lok l hl
    have s : (short (.str l.nm) && _) = true := ok.shl l hl
    refine .nam _ _ ?_ (wd (Bool.and_eq_true_iff.mp g).1) (Bool.and_eq_true_iff.mp s).1
    simp only [List.mem_cons, List.not_mem_nil, or_false] at hw
    rcases hw with rfl | rfl | rfl | rfl <;> decide +kernel
theorem gl_of {P : Pl} (ok : P.Ok) {l : Ln} (hl : l ∈ P.ls) : GL l := by
  have g : (isName (.str l.nm) && (isKind (.str l.kd) && (isIntD 1 9 (.int l.rk) && isSteps 8 (.tuple (l.st.map dSt))))) = true := ok.lok l hl
  have s : (short (.str l.nm) && _) = true := ok.shl l hl
  simp only [Bool.and_eq_true] at g
  obtain ⟨g1, g2, g3, g4⟩ := g
  have g3 : 1 ≤ l.rk ∧ l.rk ≤ 9 := of_decide_eq_true g3
  refine ⟨(Bool.and_eq_true_iff.mp (show (isWord _ && _) = true from g1)).1, (Bool.and_eq_true_iff.mp s).1, ?_, by omega, by omega, fun s hs => gs_of ok (ok.step hl hs), ok.steps8 hl⟩
  exact inV_str (show inV (.str l.kd) ((["edge", "level"] : List Str).map V.str) = true from g2)
theorem gw_of {P : Pl} (ok : P.Ok) {x : Wk} (hx : x ∈ P.ws) : GW x := by
  have g : (isName (.str x.nm) && (isIntD 1 9 (.int x.rk) && isIntD 1 99 (.int x.tk))) = true := ok.wok x hx
  have s : (short (.str x.nm) && _) = true := (ok.shw x hx).1
  simp only [Bool.and_eq_true] at g
  obtain ⟨g1, g2, g3⟩ := g
  have g2 : 1 ≤ x.rk ∧ x.rk ≤ 9 := of_decide_eq_true g2
  have g3 : 1 ≤ x.tk ∧ x.tk ≤ 99 := of_decide_eq_true g3
  exact ⟨(Bool.and_eq_true_iff.mp (show (isWord _ && _) = true from g1)).1, (Bool.and_eq_true_iff.mp s).1, by omega, by omega, by omega, by omega⟩
theorem len_tlW (z : Str) : z.length = (tl z).length := (TL.len_tl z).symm
theorem join_len {y : Str} {k : Nat} : ∀ {ws : List Str}, (∀ w ∈ ws, w.length ≤ k) → (Txt.join y ws).length ≤ ws.length * (k + y.length)
  | [], _ => by
    rw [len_tlW, tl_joinT]
    exact Nat.zero_le _
  | w :: ws, h => by
    rw [len_tlW, tl_joinT, List.map_cons, join_more, List.length_append, List.flatMap_map]
    have h1 := h w List.mem_cons_self
    rw [len_tlW] at h1
    have h2 : ∀ vs : List Str, (∀ w ∈ vs, w.length ≤ k) → (vs.flatMap fun q => tl y ++ tl q).length ≤ vs.length * (k + y.length) := fun vs => by
      induction vs with
      | nil => intro _; exact Nat.zero_le _
      | cons v vs ih =>
        intro h
        have e := ih fun w hw => h w (List.mem_cons_of_mem _ hw)
        have e1 := h v List.mem_cons_self
        rw [len_tlW] at e1
        rw [List.flatMap_cons, List.length_append, List.length_append, List.length_cons, Nat.add_mul, Nat.one_mul]
        have := len_tlW y
        omega
    have h3 := h2 ws fun w hw => h w (List.mem_cons_of_mem _ hw)
    rw [List.length_cons, Nat.add_mul, Nat.one_mul]
    omega
theorem word_len {P : Pl} (ok : P.Ok) {r : List Str} (hr : r ∈ rowW P) : r.length ≤ 20 ∧ ∀ w ∈ r, w.length ≤ 40000 := by
  have six : ∀ w ∈ (["line", "work", "edge", "level", "run", "bar", "later", "ring", "quiet", "mask", "unmask", "set", "clear", "await"] : List Str), w.length ≤ 40000 := by decide +kernel
  have nl : ∀ {i : Int}, 0 ≤ i → i < 100 → (txI i).length ≤ 40000 := fun h0 h1 => Nat.le_trans (num_ok h0 h1).2.2.1 (by decide)
  have sl : ∀ {z : Str}, short (.str z) = true → z.length ≤ 40000 := fun h => short_str h
  have aw : ∀ w ∈ allW, w ∈ (["line", "work", "edge", "level", "run", "bar", "later", "ring", "quiet", "mask", "unmask", "set", "clear", "await"] : List Str) := by decide +kernel
  unfold rowW at hr
  rcases List.mem_append.mp hr with hr | hr
  · obtain ⟨l, hl, rfl⟩ := List.mem_map.mp hr
    have g := gl_of ok hl
    refine ⟨by rw [lnW_len]; have := g.l8; omega, fun w hw => ?_⟩
    unfold lnW at hw
    rcases List.mem_append.mp hw with hw | hw
    · simp only [List.mem_cons, List.not_mem_nil, or_false] at hw
      rcases hw with rfl | rfl | rfl | rfl
      · exact six _ (by decide +kernel)
      · exact sl g.sh
      · have := g.kd
        simp only [List.mem_cons, List.not_mem_nil, or_false] at this
        rcases this with e | e <;> rw [e] <;> exact six _ (by decide +kernel)
      · exact nl g.r0 g.r1
    · obtain ⟨s, hs, hw⟩ := List.mem_flatMap.mp hw
      have gs := g.st s hs
      cases gs with
      | num v i hv h0 h1 =>
        rcases List.mem_cons.mp hw with rfl | hw
        · exact six _ (aw _ (num_w _ hv).2.2)
        · rw [List.mem_singleton.mp hw]; exact nl h0 h1
      | nam v z hv h0 h1 =>
        rcases List.mem_cons.mp hw with rfl | hw
        · exact six _ (aw _ (nam_w _ hv).2)
        · rw [List.mem_singleton.mp hw]; exact sl h1
  · obtain ⟨x, hx, rfl⟩ := List.mem_map.mp hr
    have g := gw_of ok hx
    refine ⟨by show 4 ≤ 20; decide, fun w hw => ?_⟩
    unfold wkW at hw
    simp only [List.mem_cons, List.not_mem_nil, or_false] at hw
    rcases hw with rfl | rfl | rfl | rfl
    · exact six _ (by decide +kernel)
    · exact sl g.sh
    · exact nl g.r0 g.r1
    · exact nl g.t0 g.t1
theorem row_len {P : Pl} (ok : P.Ok) {r : List Str} (hr : r ∈ rowW P) : (Txt.join " " r).length ≤ 800020 := by
  obtain ⟨h1, h2⟩ := word_len ok hr
  have := join_len (y := " ") h2
  have e : (" " : Str).length = 1 := by decide +kernel
  rw [e] at this
  have h3 : r.length * (40000 + 1) ≤ 20 * (40000 + 1) := Nat.mul_le_mul_right _ h1
  omega
theorem rows_len {P : Pl} (ok : P.Ok) : (rowsT P).length ≤ 20 := by
  unfold rowsT rowW
  rw [List.length_map, List.length_append, List.length_map, List.length_map]
  have := ok.l12
  have := ok.w8
  omega
theorem keys_len : ∀ l : List (Str × Key), (l.flatMap fun s => [(.inr s.1 : Key), s.2]).length = 2 * l.length
  | [] => rfl
  | s :: t => by
    rw [List.flatMap_cons, List.length_append, keys_len t]
    simp only [List.length_cons, List.length_nil]
    omega
def rowV (P : Pl) : List (List V) := P.ls.map lnV ++ P.ws.map wkV
theorem row_tx (P : Pl) : (rowV P).map (fun ys => ys.map txV) = rowW P := by
  unfold rowV rowW
  rw [List.map_append, List.map_map, List.map_map]
  congr 1
  exact List.map_congr_left fun l _ => tx_line l
theorem val_ok {P : Pl} (ok : P.Ok) {ys : List V} (h : ys ∈ rowV P) {v : V} (hv : v ∈ ys) : (∃ i, v = .int i ∧ 0 ≤ i ∧ i < 100) ∨ ∃ z, v = .str z := by
  unfold rowV at h
  rcases List.mem_append.mp h with h | h
  · obtain ⟨l, hl, rfl⟩ := List.mem_map.mp h
    have g := gl_of ok hl
    unfold lnV at hv
    rcases List.mem_append.mp hv with hv | hv
    · simp only [List.mem_cons, List.not_mem_nil, or_false] at hv
      rcases hv with rfl | rfl | rfl | rfl
      · exact .inr ⟨_, rfl⟩
      · exact .inr ⟨_, rfl⟩
      · exact .inr ⟨_, rfl⟩
      · exact .inl ⟨_, rfl, g.r0, g.r1⟩
    · obtain ⟨k, hk, rfl⟩ := List.mem_map.mp hv
      obtain ⟨s, hs, hk⟩ := List.mem_flatMap.mp hk
      rcases List.mem_cons.mp hk with rfl | hk
      · exact .inr ⟨_, rfl⟩
      · rw [List.mem_singleton.mp hk]
        have gs := g.st s hs
        cases gs with
        | num w i _ h0 h1 => exact .inl ⟨i, rfl, h0, h1⟩
        | nam w z _ _ _ => exact .inr ⟨z, rfl⟩
  · obtain ⟨x, hx, rfl⟩ := List.mem_map.mp h
    have g := gw_of ok hx
    unfold wkV at hv
    simp only [List.mem_cons, List.not_mem_nil, or_false] at hv
    rcases hv with rfl | rfl | rfl | rfl
    · exact .inr ⟨_, rfl⟩
    · exact .inr ⟨_, rfl⟩
    · exact .inl ⟨_, rfl, g.r0, g.r1⟩
    · exact .inl ⟨_, rfl, g.t0, g.t1⟩
def spText (K : Fg) : Sp := fun vs H Q _ => ∃ D P, vs = [.ref D.p] ∧ PlanAt K H D P ∧ ∀ H', Same H H' → Q (.str (planT P)) H'
section
variable {P : Program} {w : World} {K : Fg} {mg : Str → Option Value} {base : Heap}
theorem ok_Setup_text (T : Txt K mg) : FnOk P w K mg base (L2.CX P w) 1 (pga K (ga K "Setup") "text") (fdOf K (pga K (ga K "Setup") "text")) ["self"] (spText K) := by
  refine FunD.ok T.F_Setup_text sc_Setup_text (fun vs H Q E h => ?_) (fun cdv A outer s H vs Q E hr h => ⟨_, PSs.nox (pss_cons (ps_setLc (i := 1) (own := [("line", 2)]) rfl sc_Setup_text.nd rfl rfl (sw_true rfl rfl rfl (by decide +kernel)) (kIT K (pi_tup (kFld K (pe_fld (pv 0) rfl)))) (blkOk_by (own := [("line", 2)]) (N := n_Setup_text) (sc := defScope s_Setup_text) (by decide +kernel)) (fun _ _ _ _ _ => (zg 2 sc_Setup_text.nd)) (fun _ _ _ _ _ => pts_nil) (fun _ _ _ _ _ => (pe_op op_cat (pe_lst (pa_cons pe_str (kSt K (StX.pa_star (pe_slice (sl_tupAK K) (pv 2) po_none (po_some pe_int)) pa_nil)))) (pe_lc2 (own := [("step", 3), ("part", 4)]) (vs1 := [4]) rfl sc_Setup_text.nd (kIT K (pi_tup (pe_ix (ix_tupK K) (pv 2) pe_int (fun _ _ => rfl)))) (blkOk_by (own := [("step", 3), ("part", 4)]) (N := n_Setup_text) (sc := { kind := .function, names := [(".0", .local), ("line", .local)], isGenerator := false, isCoroutine := false }) (by decide +kernel)) (by decide) (fun _ _ _ _ _ => (zg 3 sc_Setup_text.nd)) (fun _ _ _ _ _ => pts_nil) (fun _ _ _ _ _ => (kIT K (pi_tup (pv 3)))) (fun _ _ _ _ _ => (zg 4 sc_Setup_text.nd)) (fun _ _ _ _ _ => pts_nil) (fun _ _ _ _ _ => (pv 4))))))
      (pss_cons (zset 1 sc_Setup_text.nd (pe_op op_cat (pv 1) (pe_lc (own := [("work", 5)]) rfl sc_Setup_text.nd (kIT K (pi_tup (kFld K (pe_fld (pv 0) rfl)))) (blkOk_by (own := [("work", 5)]) (N := n_Setup_text) (sc := defScope s_Setup_text) (by decide +kernel)) (fun _ _ _ _ _ => (zg 5 sc_Setup_text.nd)) (fun _ _ _ _ _ => pts_nil) (fun _ _ _ _ _ => (pe_lst (pa_cons pe_str (kSt K (StX.pa_star (pv 5) pa_nil))))))))
      (pss_one (ps_ret (pe_joinK K pe_str (pe_lc (own := [("row", 6)]) rfl sc_Setup_text.nd (kIL K (pi_list (pv 1))) (blkOk_by (own := [("row", 6)]) (N := n_Setup_text) (sc := defScope s_Setup_text) (by decide +kernel)) (fun _ _ _ _ _ => (zg 6 sc_Setup_text.nd)) (fun _ _ _ _ _ => pts_nil) (fun _ _ _ _ _ => (pe_joinK K pe_str (pe_lc (own := [("word", 7)]) rfl sc_Setup_text.nd (kIL K (pi_list (pv 6))) (blkOk_by (own := [("word", 7)]) (N := n_Setup_text) (sc := { kind := .function, names := [(".0", .local), ("row", .local)], isGenerator := false, isCoroutine := false }) (by decide +kernel)) (fun _ _ _ _ _ => (zg 7 sc_Setup_text.nd)) (fun _ _ _ _ _ => pts_nil) (fun _ _ _ _ _ => (pe_callTy call_strD (by rfl) T.u_str (by decide +kernel) (pa_cons (pv 7) pa_nil)))))))))))), ?_⟩)
  · obtain ⟨D, P, rfl, _⟩ := h
    rfl
  obtain ⟨D, P, rfl, pl, q⟩ := h
  have ok := pl.ok
  show (_ : TS) _ (some (.ref D.p) :: List.replicate 7 none) H
  try dsimp only [cxOf]
  dsimp only [List.replicate]
  obtain ⟨dx, a, b, hp, da, db⟩ := pl.ins
  obtain ⟨_, las, e, hTl, hAl⟩ := da.tupI
  cases e
  obtain ⟨_, was, e, hTw, hAw⟩ := db.tupI
  cases e
  have l12 := ok.l12
  have w8 := ok.w8
  have lla : las.length = P.ls.length := by rw [hAl.len, List.length_map]
  have lwa : was.length = P.ws.length := by rw [hAw.len, List.length_map]
  walk_at "rz"
  refine lcT_newL (yss := P.ls.map lnV) hTl (by rw [List.length_map, lla]) (by omega) (fun i ys v Ha Yes No hi hy sa yes => ?_) (fun R H1 ls hR s1 eR nd nR fresh hls => ?_)
  · rw [List.getElem?_map] at hy
    obtain ⟨l, hl, rfl⟩ := Option.map_eq_some_iff.mp hy
    obtain ⟨d, hd, dv⟩ := (hAl.same sa).getv hi
    rw [List.getElem?_map, hl] at hd
    cases hd
    have hlm := List.mem_of_getElem? hl
    have l8 := ok.steps8 hlm
    obtain ⟨t9, zs, rfl, hT9, hA9⟩ := dv.tupI
    cases hA9 with | cons g1 hA9 => ?_
    cases hA9 with | cons g2 hA9 => ?_
    cases hA9 with | cons g3 hA9 => ?_
    cases hA9 with | cons g4 hA9 => ?_
    cases hA9
    cases g1
    cases g2
    cases g3
    obtain ⟨st, ss, rfl, hTs, hAs⟩ := g4.tupI
    walk_at "rz"
    refine ⟨rfl, ?_⟩
    walk_at "rz"
    refine s_slA hT9 fun a1 Hb sb eb => ?_
    rw [show (3 : Int) = ((3 : Nat) : Int) from rfl, cut_take] at eb
    refine ⟨a1, _, rfl, .inl eb, ?_⟩
    refine s_nil ⟨by rw [sizeLine_eq]; simp, fun p1 hp1 => ?_⟩
    generalize eH : upd Hb p1 _ = Hc
    have sc1 := newS hp1 eH
    have ec : Hc p1 = some (.lst [.str "line", .str l.nm, .str l.kd, .int l.rk]) := newE eH
    clear eH
    have sac := sb.trans sc1
    have hT9c := sac.sqT hT9
    have tkD : ∀ y : Key, tupd (kD y) = true := fun y => by cases y <;> rfl
    refine s_lc2T (l := l.st) (da := dSt) (fun R hR => ?_) (sac.sqT hTs) (hAs.same sac) (fun s => [(.inr s.1 : Key), s.2]) kD kD tkD tkD ?_ (fun s v Hd R hs sd dv cont => ?_) (fun L2 He ws hL2 se ee de => ?_)
    · walk_at "rz"
      exact hR
    · rw [keys_len]
      omega
    · obtain ⟨c8, z8, rfl, hT8, hA8⟩ := dv.tupI
      refine s_gname (cont _ c8 z8 rfl rfl hT8 hA8 fun y w Hf Yes2 No2 hy sf dw yes2 => ?_)
      refine s_gname ⟨rfl, s_yes (ite_t rfl ?_)⟩
      walk_at "rz"
      exact yes2 _ _ (Same.refl _) dw
    have ew := dp_keys de
    subst ew
    have lw : ((l.st.flatMap fun s => [(.inr s.1 : Key), s.2]).map kV).length ≤ 100 := by
      rw [List.length_map]
      rw [keys_len]
      omega
    refine s_cat (se _ _ ec) ee (by rw [sizeLine_eq]; simp only [List.length_cons, List.length_nil]; omega) fun D9 hD9 => ?_
    exact yes D9 _ ((sac.trans se).trans (Same.new hD9)) ((sac.trans se).fr.back (A := []) hD9) upd_same
  walk_at "rz"
  refine lcT_newL (yss := P.ws.map wkV) (s1.sqT hTw) (by rw [List.length_map, lwa]) (by omega) (fun i ys v Ha Yes No hi hy sa yes => ?_) (fun R2 H2 ls2 hR2 s2 eR2 nd2 nR2 fresh2 hls2 => ?_)
  · rw [List.getElem?_map] at hy
    obtain ⟨x, hx, rfl⟩ := Option.map_eq_some_iff.mp hy
    obtain ⟨d, hd, dv⟩ := ((hAw.same s1).same sa).getv hi
    rw [List.getElem?_map, hx] at hd
    cases hd
    obtain ⟨t9, zs, rfl, hT9, hA9⟩ := dv.tupI
    cases hA9 with | cons g1 hA9 => ?_
    cases hA9 with | cons g2 hA9 => ?_
    cases hA9 with | cons g3 hA9 => ?_
    cases hA9
    cases g1
    cases g2
    cases g3
    walk_at "rz"
    refine ⟨rfl, ?_⟩
    walk_at "rz"
    refine ⟨t9, _, rfl, .inl hT9, ?_⟩
    refine s_nil ⟨by rw [sizeLine_eq]; simp, fun p1 hp1 => ?_⟩
    exact yes p1 _ (Same.new hp1) hp1 upd_same
  have ll1 : ls.length = P.ls.length := by rw [hls.len, List.length_map]
  have ll2 : ls2.length = P.ws.length := by rw [hls2.len, List.length_map]
  refine s_cat (s2 _ _ eR) eR2 (by rw [sizeLine_eq, List.length_map, List.length_map]; omega) fun RR hRR => ?_
  rw [← List.map_append]
  generalize eH : upd H2 RR _ = H3
  have s3 := newS hRR eH
  have e3 := newE eH
  clear eH
  have hal : Lsts H3 (ls ++ ls2) (rowV P) := ((hls.keep (A := []) (s2.fr) (by simp)).keep (A := []) (s3.fr) (by simp)).app (hls2.keep (A := []) (s3.fr) (by simp))
  have s03 := (s1.trans s2).trans s3
  have lrr : (ls ++ ls2).length ≤ 20 := by rw [List.length_append]; omega
  clear hls hls2 fresh fresh2 nd nd2 nR nR2 eR eR2 s1 s2 s3 hR hR2 hRR
  walk_at "rz"
  refine s_m1 ?_
  walk_at "rz"
  refine ⟨⟨_, rfl⟩, ?_⟩
  walk_at "rz"
  refine lcLX_t (SqL.of e3) (fun i => .str (Txt.join " " ((rowW P).getD i []))) (by rw [List.length_map]; omega) (fun _ _ => rfl) (fun i v Ha Yes No hi sa yes => ?_) (fun D9 H4 ys hD9 s4 e4 d4 => ?_)
  · rw [List.getElem?_map] at hi
    obtain ⟨la, hla, rfl⟩ := Option.map_eq_some_iff.mp hi
    obtain ⟨ys, hys, ely⟩ := (hal.keep (A := []) (sa.fr) (by simp)).get hla
    have hm := List.mem_of_getElem? hys
    have hrw : (rowW P)[i]? = some (ys.map txV) := by rw [← row_tx, List.getElem?_map, hys]; rfl
    have hrd : (rowW P).getD i [] = ys.map txV := by rw [List.getD_eq_getElem?_getD, hrw]; rfl
    obtain ⟨wl, wk⟩ := word_len ok (List.mem_of_getElem? hrw)
    rw [hrd] at yes
    rw [List.length_map] at wl
    walk_at "rz"
    refine ⟨rfl, ?_⟩
    walk_at "rz"
    refine s_m1 ?_
    walk_at "rz"
    refine ⟨⟨_, rfl⟩, ?_⟩
    walk_at "rz"
    refine lcLX_t (SqL.of ely) (fun j => .str (txV (ys.getD j .non))) (by omega) (fun _ _ => rfl) (fun j v Hb Yes2 No2 hj sb yes2 => ?_) (fun D8 H5 zs hD8 s5 e5 d5 => ?_)
    · have hjd : ys.getD j .non = v := by rw [List.getD_eq_getElem?_getD, hj]; rfl
      rw [hjd] at yes2
      walk_at "rz"
      refine ⟨rfl, ?_⟩
      walk_at "rz"
      rcases val_ok ok hm (List.mem_of_getElem? hj) with ⟨n, rfl, n0, n1⟩ | ⟨z, rfl⟩
      · refine .inl ⟨n, rfl, ?_, yes2 _ _ (Same.refl _) (.str _)⟩
        exact Nat.lt_of_le_of_lt (Nat.log2_le_self _) (by omega)
      · exact .inr ⟨z, rfl, yes2 _ _ (Same.refl _) (.str _)⟩
    have d5 : DpAll K H5 zs ((ys.map txV).map PyData.str) := by
      have e := range_map ys (fun v => PyData.str (txV v)) .non
      rw [List.map_map, ← show ys.map (fun v => PyData.str (txV v)) = ys.map (PyData.str ∘ txV) from rfl, ← e]
      exact d5
    rw [dp_strs d5] at e5
    walk_at "rz"
    refine ⟨" ", D8, ys.map txV, rfl, rfl, .inl (SqL.of e5), ?_, yes _ _ s5 (.str _)⟩
    have := sum_len wk
    have e1 : (" " : Str).length = 1 := by decide +kernel
    rw [e1, List.length_map] at *
    have : ys.length * 40000 ≤ 20 * 40000 := Nat.mul_le_mul_right _ wl
    omega
  have lrw : (List.map V.ref (ls ++ ls2)).length = (rowW P).length := by
    rw [List.length_map, List.length_append, ll1, ll2]
    unfold rowW
    rw [List.length_append, List.length_map, List.length_map]
  have d4 : DpAll K H4 ys ((rowsT P).map PyData.str) := by
    have e := range_map (rowW P) (fun r => PyData.str (Txt.join " " r)) []
    rw [lrw, e] at d4
    unfold rowsT
    rw [List.map_map]
    exact d4
  rw [dp_strs d4] at e4
  refine ⟨"\n", D9, rowsT P, rfl, rfl, .inl (SqL.of e4), ?_, q _ (s03.trans s4)⟩
  have h : ∀ x ∈ rowsT P, x.length ≤ 800020 := fun x hx => by
    obtain ⟨r, hr, rfl⟩ := List.mem_map.mp hx
    exact row_len ok hr
  have h1 := sum_len h
  have h2 := rows_len ok
  have h3 : (rowsT P).length * 800020 ≤ 20 * 800020 := Nat.mul_le_mul_right _ h2
  have e1 : ("\n" : Str).length = 1 := by decide +kernel
  rw [e1]
  omega
end
set_option maxHeartbeats 4000000
open PySem PySem.Spec PyProof.Rows L2 Z
open He (ga ma)
open TL (tl)
theorem filt_all {l : List Nat} {p : Nat → Bool} : (l.filter fun c => !p c).isEmpty = l.all p := by
  induction l with
  | nil => rfl
  | cons c l ih =>
    rw [List.filter_cons, List.all_cons, ← ih]
    cases p c <;> rfl
def spWNum (K : Fg) : Sp := fun vs H Q _ => ∃ z : Str, vs = [.str z] ∧ z.length ≤ 40000 ∧ ∀ H', Same H H' → Q (.bl (isNum z)) H'
def spWName (K : Fg) : Sp := fun vs H Q _ => ∃ z : Str, vs = [.str z] ∧ z.length ≤ 40000 ∧ ∀ H', Same H H' → Q (.bl (isWd z)) H'
section
variable {P : Program} {w : World} {K : Fg} {mg : Str → Option Value} {base : Heap}
theorem ok_w_is_name (T : Txt K mg) : FnOk P w K mg base (L2.CX P w) 1 (ga K "_law_is_name") (fdOf K (ga K "_law_is_name")) ["_law_word"] (spWName K) := by
  refine FunD.ok T.F_w_is_name sc_w_is_name (fun vs H Q E h => ?_) (fun cdv A outer s H vs Q E hr h => ⟨_, PSs.nox (pss_one (ps_ret (pe_and (pe_cmpR op_ne (pv 0) pe_str (nomark _)) (pe_one (pe_cmpR (op_eq0K K hr.units) (pe_lc (own := [("_law_sign", 1)]) rfl sc_w_is_name.nd (pi_str (pv 0)) (blkOk_by (own := [("_law_sign", 1)]) (N := n_w_is_name) (sc := defScope s_w_is_name) (by decide +kernel)) (fun _ _ _ _ _ => (zg 1 sc_w_is_name.nd)) (fun _ _ _ _ _ => (pts_one (pt_cmpR op_notIn_sign (pv 1) pe_str (by rfl)))) (fun _ _ _ _ _ => (pv 1))) (pe_lst pa_nil) (nomark _)))))), ?_⟩)
  · obtain ⟨z, rfl, _⟩ := h
    rfl
  obtain ⟨z, rfl, hz, q⟩ := h
  show (_ : TS) _ (some (.str z) :: List.replicate 1 none) H
  try dsimp only [cxOf]
  dsimp only [List.replicate]
  walk_at "rz"
  by_cases z0 : z = ""
  · subst z0
    refine ite_f (by decide +kernel) ?_
    exact q _ (Same.refl _)
  refine ite_t (by rw [decide_eq_false (fun e => z0 (by injection e))]; rfl) ?_
  walk_at "rz"
  refine ⟨_, rfl, z, rfl, fun D hD => lc_dat (K := K) walk_str (pAt z.cps.toList fun c => !decide (c ∈ letters)) (dAt z.cps.toList fun c => .str ⟨#[c]⟩) hD (by show z.length ≤ _; omega) (dAt_tupd fun _ _ => rfl) (fun _ _ => True.intro) (fun i H x H' y => by rw [y.1]; exact Same.refl H) (fun j x H H' Yes No hi s1 y yes no => ?_) (fun H' ys s1 e1 a1 => ?_)⟩
  · obtain ⟨rfl, c, hc, rfl⟩ := y
    refine ⟨rfl, ?_⟩
    have hc' : z.cps.toList[j]? = some c := by simpa using hc
    rw [pAt_eq hc'] at yes no
    rw [dAt_eq hc'] at yes
    walk_at "rz"
    cases e : decide (c ∈ letters) with
    | true =>
      have e' : decide (c ∈ ("abcdefghijklmnopqrstuvwxyz" : Str).cps.toList) = true := e
      refine ite_f (by rw [e']; rfl) ?_
      exact no (by rw [e]; rfl) _ (Same.refl _)
    | false =>
      have e' : decide (c ∈ ("abcdefghijklmnopqrstuvwxyz" : Str).cps.toList) = false := e
      refine ite_t (by rw [e']; rfl) ?_
      walk_at "rz"
      exact yes (by rw [e]; rfl) _ _ (Same.refl _) (.str _)
  have e := keptD_list z.cps.toList (fun c => !decide (c ∈ letters)) (fun c => PyData.str ⟨#[c]⟩)
  rw [Array.length_toList] at e
  rw [e] at a1
  have ye : ys.isEmpty = z.cps.toList.all fun c => decide (c ∈ letters) := by
    rw [← filt_all]
    have l := a1.len
    rw [List.length_map] at l
    cases ys <;> cases h : (z.cps.toList.filter fun c => !decide (c ∈ letters)) <;> simp_all
  walk_at "rz"
  rename_i p0 hp0 H2 s2 e2
  refine s_eq0L (SqL.of (s2 _ _ e1)) (SqL.of e2) ?_
  rw [ye]
  have hh := q _ (s1.trans s2)
  have e3 : isWd z = z.cps.toList.all fun c => decide (c ∈ letters) := by
    show (!decide (V.str z = V.str "") && _) = _
    rw [decide_eq_false (fun e => z0 (by injection e))]
    rfl
  rw [e3] at hh
  exact hh
theorem ok_w_is_number (T : Txt K mg) : FnOk P w K mg base (L2.CX P w) 1 (ga K "_law_is_number") (fdOf K (ga K "_law_is_number")) ["_law_word"] (spWNum K) := by
  refine FunD.ok T.F_w_is_number sc_w_is_number (fun vs H Q E h => ?_) (fun cdv A outer s H vs Q E hr h => ⟨_, PSs.nox (pss_cons (zset 1 sc_w_is_number.nd (pe_cmpR (op_eq0K K hr.units) (pe_lc (own := [("_law_sign", 2)]) rfl sc_w_is_number.nd (pi_str (pv 0)) (blkOk_by (own := [("_law_sign", 2)]) (N := n_w_is_number) (sc := defScope s_w_is_number) (by decide +kernel)) (fun _ _ _ _ _ => (zg 2 sc_w_is_number.nd)) (fun _ _ _ _ _ => (pts_one (pt_cmpR op_notIn_sign (pv 2) pe_str (by rfl)))) (fun _ _ _ _ _ => (pv 2))) (pe_lst pa_nil) (nomark _)))
      (pss_one (ps_ret (pe_and (pv 1) (pe_and (pe_chain op_le op_le pe_int (pe_callB (call_lenK K) (by rfl) T.u_len (by decide +kernel) (pa_cons (pv 0) pa_nil)) pe_int) (pe_one (pe_or (pe_cmpR op_eq (pv 0) pe_str (nomark _)) (pe_one (pe_cmpR op_ne (pe_ix ix_str (pv 0) pe_int (fun _ _ => rfl)) pe_str (nomark _)))))))))), ?_⟩)
  · obtain ⟨z, rfl, _⟩ := h
    rfl
  obtain ⟨z, rfl, hz, q⟩ := h
  show (_ : TS) _ (some (.str z) :: List.replicate 2 none) H
  try dsimp only [cxOf]
  dsimp only [List.replicate]
  walk_at "rz"
  refine ⟨_, rfl, z, rfl, fun D hD => lc_dat (K := K) walk_str (pAt z.cps.toList fun c => !decide (c ∈ digS)) (dAt z.cps.toList fun c => .str ⟨#[c]⟩) hD (by show z.length ≤ _; omega) (dAt_tupd fun _ _ => rfl) (fun _ _ => True.intro) (fun i H x H' y => by rw [y.1]; exact Same.refl H) (fun j x H H' Yes No hi s1 y yes no => ?_) (fun H' ys s1 e1 a1 => ?_)⟩
  · obtain ⟨rfl, c, hc, rfl⟩ := y
    refine ⟨rfl, ?_⟩
    have hc' : z.cps.toList[j]? = some c := by simpa using hc
    rw [pAt_eq hc'] at yes no
    rw [dAt_eq hc'] at yes
    walk_at "rz"
    cases e : decide (c ∈ digS) with
    | true =>
      have e' : decide (c ∈ ("0123456789" : Str).cps.toList) = true := e
      refine ite_f (by rw [e']; rfl) ?_
      exact no (by rw [e]; rfl) _ (Same.refl _)
    | false =>
      have e' : decide (c ∈ ("0123456789" : Str).cps.toList) = false := e
      refine ite_t (by rw [e']; rfl) ?_
      walk_at "rz"
      exact yes (by rw [e]; rfl) _ _ (Same.refl _) (.str _)
  have e := keptD_list z.cps.toList (fun c => !decide (c ∈ digS)) (fun c => PyData.str ⟨#[c]⟩)
  rw [Array.length_toList] at e
  rw [e] at a1
  have ye : ys.isEmpty = z.cps.toList.all fun c => decide (c ∈ digS) := by
    rw [← filt_all]
    have l := a1.len
    rw [List.length_map] at l
    cases ys <;> cases h : (z.cps.toList.filter fun c => !decide (c ∈ digS)) <;> simp_all
  walk_at "rz"
  rename_i p0 hp0 H2 s2 e2
  refine s_eq0L (SqL.of (s2 _ _ e1)) (SqL.of e2) ?_
  rw [ye]
  have q := q _ (s1.trans s2)
  walk_at "rz"
  have isn : isNum z = (decide (1 ≤ z.length) && (decide (z.length ≤ 3) && ((z.cps.toList.all fun c => decide (c ∈ digS)) && (decide (z = ("0" : Str)) || !decide (z.cps.toList[0]? = some 48))))) := rfl
  rw [if_neg Bool.false_ne_true]
  cases cd : z.cps.toList.all fun c => decide (c ∈ digS) with
  | false =>
    rw [isn, cd] at q
    simp only [Bool.false_and, Bool.and_false] at q
    refine ite_f rfl ?_
    exact q
  | true =>
    refine ite_t rfl ?_
    walk_at "rz"
    refine s_lenS (by rw [sizeLine_eq]; omega) ?_
    walk_at "rz"
    by_cases c1 : 1 ≤ z.length
    rotate_left
    · rw [isn, decide_eq_false c1] at q
      refine ite_f (decide_eq_false (by omega)) ?_
      walk_at "rz"
      exact q
    refine ite_t (decide_eq_true (by omega)) ?_
    walk_at "rz"
    by_cases c3 : z.length ≤ 3
    rotate_left
    · rw [isn, decide_eq_false c3] at q
      simp only [Bool.false_and, Bool.and_false] at q
      refine ite_f (decide_eq_false (by omega)) ?_
      walk_at "rz"
      exact q
    refine ite_t (decide_eq_true (by omega)) ?_
    walk_at "rz"
    by_cases z0 : z = ("0" : Str)
    · rw [isn, decide_eq_true c1, decide_eq_true c3, cd, decide_eq_true z0] at q
      refine ite_t (decide_eq_true (congrArg V.str z0)) ?_
      exact q
    refine ite_f (decide_eq_false (fun e => z0 (by injection e))) ?_
    obtain ⟨c, hc⟩ : ∃ c, z.cps.toList[0]? = some c := ⟨_, List.getElem?_eq_getElem (by show 0 < z.cps.toList.length; rw [Array.length_toList]; exact c1)⟩
    walk_at "rz"
    refine ⟨z, 0, c, rfl, rfl, by rw [sizeLine_eq]; omega, (show atI z.cps.toList ((0 : Nat) : Int) = some c from atI_nat hc), ?_⟩
    have h48 : decide (V.str (⟨#[c]⟩ : Str) = V.str ("0" : Str)) = decide (z.cps.toList[0]? = some 48) := decide_eq_decide.mpr ⟨fun e => by
      injection e with e
      have e2 : #[c] = ("0" : Str).cps := congrArg Str.cps e
      have h2 : ("0" : Str).cps = #[48] := by decide +kernel
      rw [h2] at e2
      rw [hc]
      injection e2 with e2
      injection e2 with e2
      rw [e2], fun e => by
      rw [hc] at e
      cases e
      have h2 : (⟨#[48]⟩ : Str) = ("0" : Str) := by decide +kernel
      rw [h2]⟩
    walk_at "rz"
    rw [isn, decide_eq_true c1, decide_eq_true c3, cd, decide_eq_false z0] at q
    rw [h48]
    exact q
end
set_option maxHeartbeats 4000000
open PySem PySem.Spec PyProof.Rows L2 Z
open He (ga ma)
open TL (tl)
theorem if_x {c : Bool} {te tc : TE} {σ : L2.St} {H : Hp} {R : VK} (Ex : V → Hp → Prop) (hx : ∀ v H, Ex v H → R v H) (h : ∀ R' : VK, (∀ v H, Ex v H → R' v H) → if c = true then te σ H R' else tc σ H R') : if c = true then te σ H R else tc σ H R := h R hx
theorem te_j {te : TE} {σ : L2.St} {H : Hp} {Q : VK} (Ex : V → Hp → Prop) (hx : ∀ v H, Ex v H → Q v H) (h : ∀ Q' : VK, (∀ v H, Ex v H → Q' v H) → te σ H Q') : te σ H Q := h Q hx
theorem if_j {c : TT} {ta tb : TS} {D : Ends} {σ : L2.St} {H : Hp} (Ex : L2.St → Hp → Prop) (hx : ∀ σ H, Ex σ H → D.nx σ H) (h : ∀ nx : L2.St → Hp → Prop, (∀ σ H, Ex σ H → nx σ H) → tIfS c ta tb { D with nx := nx } σ H) : tIfS c ta tb D σ H := h D.nx hx
def namT : List Str := ["ring", "quiet", "mask", "unmask", "later"]
def stpT : List Str := ["run", "ring", "quiet", "mask", "unmask", "set", "clear", "await", "bar", "later"]
theorem namT_S (z : Str) : decide (z ∈ namT) = decide (z ∈ namS) := decide_eq_decide.mpr ⟨(by decide +kernel : ∀ z ∈ namT, z ∈ namS) z, (by decide +kernel : ∀ z ∈ namS, z ∈ namT) z⟩
theorem stpT_S (z : Str) : decide (z ∈ stpT) = decide (z ∈ allS) := decide_eq_decide.mpr ⟨(by decide +kernel : ∀ z ∈ stpT, z ∈ allS) z, (by decide +kernel : ∀ z ∈ allS, z ∈ stpT) z⟩
def wnL : List Str := ["", "name", "kind", "number"]
def wnW : List Str := ["", "name", "number", "number"]
def want0 (line : Bool) (i : Nat) : Str := if i < 4 then (if line = true then wnL else wnW).getD i "" else "step"
def want1 (line : Bool) (ws : List Str) (i : Nat) : Str := if 4 ≤ i ∧ i % 2 = 1 then (if ws.getD (i - 1) "" ∈ namS then "name" else "number") else want0 line i
def wants : List Str := ["name", "kind", "number", "step"]
def goods (z : Str) : List Bool := [isWd z, decide (z ∈ (["edge", "level"] : List Str)), isNum z, decide (z ∈ allS)]
theorem good_L {ws : List Str} {i : Nat} (h : 1 ≤ i) : ∃ k : Nat, k < 4 ∧ want1 true ws i = wants.getD k "" ∧ (goods (ws.getD i ""))[k]? = some (goodL ws i) := by
  match i, h with
  | 1, _ => exact ⟨0, by decide, (by decide +kernel : want0 true 1 = wants.getD 0 ""), rfl⟩
  | 2, _ => exact ⟨1, by decide, (by decide +kernel : want0 true 2 = wants.getD 1 ""), rfl⟩
  | 3, _ => exact ⟨2, by decide, (by decide +kernel : want0 true 3 = wants.getD 2 ""), rfl⟩
  | i + 4, _ =>
    have e : goodL ws (i + 4) = if i % 2 = 0 then decide (ws.getD (i + 4) "" ∈ allS) else if ws.getD (i + 3) "" ∈ namS then isWd (ws.getD (i + 4) "") else isNum (ws.getD (i + 4) "") := rfl
    rw [e]
    unfold want1
    by_cases k : i % 2 = 0
    · rw [if_neg (by omega), if_pos k]
      unfold want0
      rw [if_neg (by omega)]
      exact ⟨3, by decide, rfl, rfl⟩
    · rw [if_pos (by omega), if_neg k, show i + 4 - 1 = i + 3 by omega]
      by_cases m : ws.getD (i + 3) "" ∈ namS
      · rw [if_pos m, if_pos m]
        exact ⟨0, by decide, rfl, rfl⟩
      · rw [if_neg m, if_neg m]
        exact ⟨2, by decide, rfl, rfl⟩
theorem good_W {ws : List Str} {i : Nat} (h : 1 ≤ i) (h4 : i < 4) : ∃ k : Nat, k < 4 ∧ want1 false ws i = wants.getD k "" ∧ (goods (ws.getD i ""))[k]? = some (goodW ws i) := by
  match i, h, h4 with
  | 1, _, _ => exact ⟨0, by decide, (by decide +kernel : want0 false 1 = wants.getD 0 ""), rfl⟩
  | 2, _, _ => exact ⟨2, by decide, (by decide +kernel : want0 false 2 = wants.getD 2 ""), rfl⟩
  | 3, _, _ => exact ⟨2, by decide, (by decide +kernel : want0 false 3 = wants.getD 2 ""), rfl⟩
theorem idx_want {K : Fg} {H : Hp} {a : Addr} {Q : VK} (h : SqL K H a (wants.map V.str)) {k : Nat} (hk : k < 4) (q : Q (.int (k : Nat)) H) : rIndex K (.ref a) [.str (wants.getD k "")] H Q := by
  refine ⟨a, _, _, k, .str (wants.getD k ""), rfl, rfl, h, rfl, rfl, ?_, ?_, ?_, q⟩
  · match k, hk with
    | 0, _ => rfl
    | 1, _ => rfl
    | 2, _ => rfl
    | 3, _ => rfl
  · exact (by decide +kernel : ∀ k : Fin 4, eqV (V.str (wants.getD k.1 "")) (.str (wants.getD k.1 "")) = true) ⟨k, hk⟩
  · intro m z hm hz
    have hz : (wants.map V.str)[m]? = some z := hz
    rw [List.getElem?_map] at hz
    have hl : m < 4 := by omega
    have e : wants[m]? = some (wants.getD m "") := by
      match m, hl with
      | 0, _ => rfl
      | 1, _ => rfl
      | 2, _ => rfl
      | 3, _ => rfl
    rw [e] at hz
    cases hz
    exact (by decide +kernel : ∀ k m : Fin 4, m.1 < k.1 → eqV (V.str (wants.getD m.1 "")) (.str (wants.getD k.1 "")) = false) ⟨k, hk⟩ ⟨m, hl⟩ hm
def oV : Option Nat → V
  | none => .non
  | some k => .int (k : Nat)
def spWWrong (K : Fg) : Sp := fun vs H Q _ => ∃ a ws b, vs = [.ref a, .bl b] ∧ H a = some (.lst (ws.map V.str)) ∧ ws ≠ [] ∧ ws.length ≤ 40001 ∧ (∀ w ∈ ws, w.length ≤ 40000) ∧ ∀ H', Same H H' → Q (oV (wrongR ws b)) H'
section
variable {P : Program} {w : World} {K : Fg} {mg : Str → Option Value} {base : Heap}
theorem ok_w_wrong (T : Txt K mg) : FnOk P w K mg base (L2.CX P w) 2 (ga K "_law_wrong") (fdOf K (ga K "_law_wrong")) ["_law_words", "_law_is_behind"] (spWWrong K) := by
  refine FunD.ok T.F_w_wrong sc_w_wrong (fun vs H Q E h => ?_) (fun cdv A outer s H vs Q E hr h => ⟨_, PSs.nox (pss_cons (ps_if (PW.pt (pw_or (pt_cmpR (op_notIn_seqK K) (pe_ix (ix_listK K) (pv 0) pe_int (fun _ _ => rfl)) (pe_tup (pa_cons pe_str (pa_cons pe_str pa_nil))) (by rfl)) (pw_or1 (PW.pt (pw_and (pt_cmpR op_eq (pe_ix (ix_listK K) (pv 0) pe_int (fun _ _ => rfl)) pe_str (nomark _)) (pw_and1 (pt_val (pv 1)))))))) (pss_one (ps_ret pe_int)) pss_nil)
      (pss_cons (zset 2 sc_w_wrong.nd (pe_ifExp (pt_cmpR op_eq (pe_ix (ix_listK K) (pv 0) pe_int (fun _ _ => rfl)) pe_str (nomark _)) (pe_lst (pa_cons pe_non (pa_cons pe_str (pa_cons pe_str (pa_cons pe_str pa_nil))))) (pe_lst (pa_cons pe_non (pa_cons pe_str (pa_cons pe_str (pa_cons pe_str pa_nil)))))))
      (pss_cons (zset 3 sc_w_wrong.nd pe_int)
      (pss_cons (ps_while PassesOwn.never (PW.pt (pw_or (pt_cmpR op_lt (pv 3) (pe_callB (call_lenK K) (by rfl) T.u_len (by decide +kernel) (pa_cons (pv 0) pa_nil)) (nomark _)) (pw_or1 (pt_cmpR op_lt (pv 3) pe_int (nomark _)))))
      (pss_cons (ps_if (pt_cmpR op_ge (pv 3) (pe_callB (call_lenK K) (by rfl) T.u_len (by decide +kernel) (pa_cons (pv 0) pa_nil)) (nomark _)) (pss_one (ps_ret (pv 3))) pss_nil)
      (pss_cons (ps_if (PW.pt (pw_and (pt_cmpR op_ge (pv 3) pe_int (nomark _)) (pw_and1 (pt_cmpR op_eq (pe_ix (ix_listK K) (pv 0) pe_int (fun _ _ => rfl)) pe_str (nomark _))))) (pss_one (ps_ret pe_int)) pss_nil)
      (pss_cons (ps_par (by rfl) sc_w_wrong.nd (i := 4) (j := 5) rfl rfl (by decide) rfl rfl (pa_cons (pe_ifExp (pt_cmpR op_lt (pv 3) pe_int (nomark _)) (pe_ix (ix_listK K) (pv 2) (pv 3) (fun _ _ => rfl)) pe_str) (pa_cons (pe_ix (ix_listK K) (pv 0) (pv 3) (fun _ _ => rfl)) pa_nil)) (by rfl))
      (pss_cons (ps_if (PW.pt (pw_and (pt_cmpR op_ge (pv 3) pe_int (nomark _)) (pw_and1 (pt_cmpR op_eq (pe_op op_mod (pv 3) pe_int) pe_int (nomark _))))) (pss_one (zset 4 sc_w_wrong.nd (pe_ifExp (pt_cmpR (op_in_seqK K) (pe_ix (ix_listK K) (pv 0) (pe_op op_sub (pv 3) pe_int) (fun _ _ => rfl)) (pe_tup (pa_cons pe_str (pa_cons pe_str (pa_cons pe_str (pa_cons pe_str (pa_cons pe_str pa_nil)))))) (by rfl)) pe_str pe_str))) pss_nil)
      (pss_cons (zset 6 sc_w_wrong.nd (pe_tup (pa_cons pe_str (pa_cons pe_str (pa_cons pe_str (pa_cons pe_str (pa_cons pe_str (pa_cons pe_str (pa_cons pe_str (pa_cons pe_str (pa_cons pe_str (pa_cons pe_str pa_nil))))))))))))
      (pss_cons (zset 7 sc_w_wrong.nd (pe_lst (pa_cons (z_call (ok_w_is_name T) T.c_w_is_name (hr.mono (by decide)) rfl T.g_w_is_name passL (pa_cons (pv 5) pa_nil)) (pa_cons (pe_cmpR (op_in_seqK K) (pv 5) (pe_tup (pa_cons pe_str (pa_cons pe_str pa_nil))) (by rfl)) (pa_cons (z_call (ok_w_is_number T) T.c_w_is_number (hr.mono (by decide)) rfl T.g_w_is_number passL (pa_cons (pv 5) pa_nil)) (pa_cons (pe_cmpR (op_in_seqK K) (pv 5) (pv 6) (by rfl)) pa_nil))))))
      (pss_cons (ps_if (pt_not (pt_val (pe_ix (ix_listK K) (pv 7) (kBM K (pe_bm PySem.F.plainAttrs_list PySem.F.slot_list_index PySem.F.type_list_index mt_index (pe_lst (pa_cons pe_str (pa_cons pe_str (pa_cons pe_str (pa_cons pe_str pa_nil))))) (pa_cons (pv 4) pa_nil))) (fun _ _ => rfl)))) (pss_one (ps_ret (pv 3))) pss_nil)
      (pss_one (zset 3 sc_w_wrong.nd (pe_op op_add (pv 3) pe_int)))))))))))
      (pss_one (ps_ret (pe_ifExp (PW.pt (pw_and (pt_cmpR op_eq (pe_ix (ix_listK K) (pv 0) pe_int (fun _ _ => rfl)) pe_str (nomark _)) (pw_and1 (pt_cmpR op_eq (pe_op op_mod (pe_callB (call_lenK K) (by rfl) T.u_len (by decide +kernel) (pa_cons (pv 0) pa_nil)) pe_int) pe_int (nomark _))))) (pe_callB (call_lenK K) (by rfl) T.u_len (by decide +kernel) (pa_cons (pv 0) pa_nil)) pe_non))))))), ?_⟩)
  · obtain ⟨a, ws, b, rfl, _⟩ := h
    rfl
  obtain ⟨a, ws, b, rfl, ha, hne, hlen, hsh, q⟩ := h
  show (_ : TS) _ (some (.ref a) :: some (.bl b) :: List.replicate 6 none) H
  try dsimp only [cxOf]
  dsimp only [List.replicate]
  obtain ⟨w0, h0⟩ : ∃ w0, ws[0]? = some w0 := ⟨_, List.getElem?_eq_getElem (List.length_pos_iff.mpr hne)⟩
  have g0 := getD_of h0
  have at0 := at_of (j := 0) rfl (at_str h0)
  refine s_seq ?_
  refine if_j (fun σ' H' => σ' = some (.ref a) :: some (.bl b) :: List.replicate 6 none ∧ Same H H' ∧ ∃ line : Bool, (line = true → w0 = ("line" : Str) ∧ b = false) ∧ (line = false → w0 = ("work" : Str))) ?r1 (fun nx hx => ?i1)
  case i1 =>
    walk_at "rz"
    refine s_ixL (SqL.of ha) at0 ?_
    walk_at "rz"
    rename_i p1 hp1 H1 s1 e1
    refine s_in (.inr (SqT.of e1)) rfl rfl ?_
    refine ⟨_, rfl, ?_⟩
    have em : inV (V.str w0) [V.str "line", V.str "work"] = decide (w0 ∈ (["line", "work"] : List Str)) := inV_strs (l := ["line", "work"])
    rw [em]
    by_cases hm : w0 ∈ (["line", "work"] : List Str)
    · rw [decide_eq_true hm]
      walk_at "rz"
      refine s_ixL (SqL.of (s1 _ _ ha)) at0 ?_
      walk_at "rz"
      by_cases hl : w0 = ("line" : Str)
      · refine ite_t (decide_eq_true (congrArg V.str hl)) ?_
        walk_at "rz"
        cases b with
        | true =>
          have qq := q _ s1
          unfold wrongR at qq
          rw [g0, if_pos hl] at qq
          exact qq
        | false =>
          exact hx _ _ ⟨rfl, s1, true, fun _ => ⟨hl, rfl⟩, fun h => by cases h⟩
      · have hw : w0 = ("work" : Str) := by
          simp only [List.mem_cons, List.not_mem_nil, or_false] at hm
          exact hm.resolve_left hl
        refine ite_f (decide_eq_false (fun e => hl (by injection e))) ?_
        walk_at "rz"
        exact hx _ _ ⟨rfl, s1, false, fun h => (by cases h), fun _ => hw⟩
    · rw [decide_eq_false hm]
      walk_at "rz"
      have qq := q _ s1
      unfold wrongR at qq
      rw [g0, if_neg (fun e => hm (by rw [e]; simp)), if_neg (fun e => hm (by rw [e]; simp))] at qq
      exact qq
  rintro σ' H1 ⟨rfl, s1, line, l1, l2⟩
  dsimp only [List.replicate]
  have ha1 := s1 _ _ ha
  have w0l : decide (V.str w0 = V.str "line") = line := by
    cases line with
    | true => rw [(l1 rfl).1]; exact decide_eq_true rfl
    | false => rw [l2 rfl]; decide +kernel
  have w0w : decide (V.str w0 = V.str "work") = !line := by
    cases line with
    | true => rw [(l1 rfl).1]; decide +kernel
    | false => rw [l2 rfl]; exact decide_eq_true rfl
  refine s_seq ?_
  refine s_asg ?_
  refine te_j (fun v Hj => Same H1 Hj ∧ ∃ p, v = .ref p ∧ Hj p = some (.lst (.non :: ((if line = true then wnL else wnW).drop 1).map V.str))) (fun v Hj hj => ?_) (fun Q' hq => ?_)
  rotate_left
  · walk_at "rz"
    refine s_ixL (SqL.of ha1) at0 ?_
    walk_at "rz"
    rw [w0l]
    cases line with
    | true =>
      refine ite_t rfl ?_
      walk_at "rz"
      rename_i p1 hp1 H2 s2 e2
      exact hq _ _ ⟨s2, p1, rfl, e2⟩
    | false =>
      refine ite_f rfl ?_
      walk_at "rz"
      rename_i p1 hp1 H2 s2 e2
      exact hq _ _ ⟨s2, p1, rfl, e2⟩
  obtain ⟨sj, wl, rfl, ewl⟩ := hj
  have haj := sj _ _ ha1
  walk_at "rz"
  have sHj := s1.trans sj
  have hlb : line = true → b = false := fun h => (l1 h).2
  have hw0 : wrongR ws b = if line = true then wrongL ws else wrongW ws := by
    unfold wrongR
    cases line with
    | true =>
      rw [g0, if_pos (l1 rfl).1, hlb rfl]
      rfl
    | false =>
      have nl : w0 ≠ ("line" : Str) := fun e => by rw [l2 rfl] at e; exact absurd e (by decide +kernel)
      rw [g0, if_neg nl, if_pos (l2 rfl)]
      rfl
  rw [hw0] at q
  have hgood : ∀ i, 1 ≤ i → (line = false → i < 4) → ∃ k : Nat, k < 4 ∧ want1 line ws i = wants.getD k "" ∧ (goods (ws.getD i ""))[k]? = some (if line = true then goodL ws i else goodW ws i) := fun i h1 h4 => by
    cases line with
    | true => exact good_L h1
    | false => exact good_W h1 (h4 rfl)
  have l0 : 0 < ws.length := len_of h0
  refine while_e (fun σ H3 => ∃ y3 y4 y5 y6 y7, σ = [some (.ref a), some (.bl b), some (.ref wl), y3, y4, y5, y6, y7] ∧ Same Hj H3 ∧ 4 ≤ ws.length ∧ (line = false → ws.length = 4) ∧ ∀ j, 1 ≤ j → j < ws.length → (if line = true then goodL ws j else goodW ws j) = true) ?rest (fun hx => ?loop)
  case rest =>
    rintro σ H3 ⟨y3, y4, y5, y6, y7, rfl, s3, hl4, hlw, hg⟩
    have ha3 := s3 _ _ haj
    walk_at "rz"
    refine s_ixL (SqL.of ha3) at0 ?_
    walk_at "rz"
    rw [w0l]
    cases line with
    | true =>
      refine ite_t rfl ?_
      walk_at "rz"
      refine s_lenL (SqL.of ha3) ?_
      rw [List.length_map]
      refine ⟨_, _, rfl, rfl, (show (0 : Int) < 2 by decide), ?_⟩
      walk_at "rz"
      have qq := q _ (sHj.trans s3)
      rw [if_pos rfl] at qq
      by_cases ho : ws.length % 2 = 1
      · refine ite_t (decide_eq_true (congrArg V.int (show ((ws.length : Nat) : Int) % 2 = 1 by omega))) ?_
        walk_at "rz"
        refine s_lenL (SqL.of ha3) ?_
        rw [List.length_map]
        rw [wrongL_odd hl4 ho hg] at qq
        exact qq
      · refine ite_f (decide_eq_false (fun e => by have e : V.int (((ws.length : Nat) : Int) % 2) = V.int 1 := e; injection e; omega)) ?_
        walk_at "rz"
        rw [wrongL_none hl4 (by omega) hg] at qq
        exact qq
    | false =>
      refine ite_f rfl ?_
      rw [if_neg Bool.false_ne_true]
      walk_at "rz"
      have qq := q _ (sHj.trans s3)
      rw [if_neg Bool.false_ne_true, show wrongW ws = none from bad_none hl4 hg] at qq
      exact qq
  refine ⟨fun m σ H3 => ∃ i : Nat, ∃ y4 y5 y6 y7, σ = [some (.ref a), some (.bl b), some (.ref wl), some (.int (i : Nat)), y4, y5, y6, y7] ∧ Same Hj H3 ∧ 1 ≤ i ∧ i ≤ max ws.length 4 ∧ (line = false → i ≤ 4) ∧ (∀ j, 1 ≤ j → j < i → j < ws.length ∧ (if line = true then goodL ws j else goodW ws j) = true) ∧ m = max ws.length 4 - i,
    ⟨_, 1, _, _, _, _, rfl, Same.refl _, Nat.le_refl _, by omega, fun _ => by omega, fun j j1 j2 => by omega, rfl⟩, ?_⟩
  rintro m σ H3 ⟨i, y4, y5, y6, y7, rfl, s3, i1, i2, i4, hg, rfl⟩
  have ha3 := s3 _ _ haj
  have hsome : ∀ k, k = i → (ws.length ≤ i ∨ (if line = true then goodL ws i else goodW ws i) = false) → i < max ws.length 4 → ∀ H', Same Hj H' → Q (.int (k : Nat)) H' := fun k hk hb hlt H' sx => by
    subst hk
    have qq := q H' (sHj.trans sx)
    cases line with
    | true =>
      rw [if_pos rfl, wrongL_some i1 hlt hb hg] at qq
      exact qq
    | false =>
      rw [if_neg Bool.false_ne_true, wrongW_some i1 hlt hb hg] at qq
      exact qq
  walk_at "rz"
  refine s_lenL (SqL.of ha3) ?_
  rw [List.length_map]
  walk_at "rz"
  by_cases hi : i < ws.length
  rotate_left
  · refine ite_f (decide_eq_false (by omega)) ?_
    walk_at "rz"
    by_cases hi4 : i < 4
    · refine ite_t (decide_eq_true (by omega)) ?_
      refine ⟨_, fun σ' H' n => n, ?_⟩
      walk_at "rz"
      refine s_lenL (SqL.of ha3) ?_
      rw [List.length_map]
      walk_at "rz"
      refine ite_t (decide_eq_true (by omega)) ?_
      walk_at "rz"
      exact hsome i rfl (.inl (by omega)) (by omega) _ s3
    · refine ite_f (decide_eq_false (by omega)) ?_
      have h3 := (hg 3 (by omega) (by omega)).1
      exact hx _ _ ⟨_, _, _, _, _, rfl, s3, by omega, fun h => by have := i4 h; omega, fun j j1 j2 => (hg j j1 (by omega)).2⟩
  refine ite_t (decide_eq_true (by omega)) ?_
  rw [if_pos rfl]
  refine ⟨_, fun σ' H' n => n, ?_⟩
  walk_at "rz"
  refine s_lenL (SqL.of ha3) ?_
  rw [List.length_map]
  walk_at "rz"
  refine ite_f (decide_eq_false (by omega)) ?_
  refine s_next ?_
  refine s_seq ?_
  refine if_j (fun σ' H' => σ' = [some (.ref a), some (.bl b), some (.ref wl), some (.int (i : Nat)), y4, y5, y6, y7] ∧ H3 = H' ∧ (line = false → i < 4)) ?r2 (fun nx2 hx2 => ?i2)
  case i2 =>
    walk_at "rz"
    by_cases h4 : 4 ≤ i
    · refine ite_t (decide_eq_true (by omega)) ?_
      walk_at "rz"
      refine s_ixL (SqL.of ha3) at0 ?_
      walk_at "rz"
      rw [w0w]
      cases line with
      | true =>
        walk_at "rz"
        exact hx2 _ _ ⟨rfl, rfl, fun h => by cases h⟩
      | false =>
        walk_at "rz"
        have e4 : i = 4 := by have := i4 rfl; omega
        subst e4
        exact hsome 4 rfl (.inr rfl) (by omega) _ s3
    · refine ite_f (decide_eq_false (by omega)) ?_
      walk_at "rz"
      exact hx2 _ _ ⟨rfl, rfl, fun _ => by omega⟩
  rintro σ' H' ⟨rfl, rfl, h4⟩
  obtain ⟨wi, hwi⟩ : ∃ wi, ws[i]? = some wi := ⟨_, List.getElem?_eq_getElem hi⟩
  have ewl3 := s3 _ _ ewl
  have hwl : i < 4 → atI (.non :: ((if line = true then wnL else wnW).drop 1).map V.str) (i : Nat) = some (.str (want0 line i)) := fun k => by
    match i, i1, k with
    | 1, _, _ => cases line <;> rfl
    | 2, _, _ => cases line <;> rfl
    | 3, _, _ => cases line <;> rfl
  dsimp only
  walk_at "rz"
  refine if_x (fun v H' => v = .str (want0 line i) ∧ H3 = H') ?r3 (fun R' hR => ?i3)
  case i3 =>
    by_cases k : i < 4
    · refine ite_t (decide_eq_true (by omega)) ?_
      walk_at "rz"
      refine s_ixL (SqL.of ewl3) (hwl k) ?_
      exact hR _ _ ⟨rfl, rfl⟩
    · refine ite_f (decide_eq_false (by omega)) ?_
      walk_at "rz"
      exact hR _ _ ⟨by unfold want0; rw [if_neg k], rfl⟩
  rintro v H' ⟨rfl, rfl⟩
  walk_at "rz"
  refine s_ixL (SqL.of ha3) (atI_nat (at_str hwi)) ?_
  refine s_nil ⟨_, _, rfl, ?_⟩
  dsimp only [List.set]
  refine s_seq ?_
  refine if_j (fun σ' H' => σ' = [some (.ref a), some (.bl b), some (.ref wl), some (.int (i : Nat)), some (.str (want1 line ws i)), some (.str wi), y6, y7] ∧ Same H3 H') ?r4 (fun nx4 hx4 => ?i4)
  case i4 =>
    walk_at "rz"
    by_cases k4 : 4 ≤ i
    · refine ite_t (decide_eq_true (by omega)) ?_
      walk_at "rz"
      refine ⟨_, _, rfl, rfl, (show (0 : Int) < 2 by decide), ?_⟩
      walk_at "rz"
      by_cases ho : i % 2 = 1
      · refine ite_t (decide_eq_true (congrArg V.int (show ((i : Nat) : Int) % 2 = 1 by omega))) ?_
        walk_at "rz"
        rw [show ((i : Nat) : Int) - 1 = ((i - 1 : Nat) : Int) by omega]
        obtain ⟨wp, hwp⟩ : ∃ wp, ws[i - 1]? = some wp := ⟨_, List.getElem?_eq_getElem (by omega)⟩
        refine s_ixL (SqL.of ha3) (atI_nat (at_str hwp)) ?_
        walk_at "rz"
        rename_i p5 hp5 H5 s5 e5
        refine s_in (.inr (SqT.of e5)) rfl rfl ?_
        refine ⟨_, rfl, ?_⟩
        rw [if_neg Bool.false_ne_true, show inV (V.str wp) [V.str "ring", V.str "quiet", V.str "mask", V.str "unmask", V.str "later"] = decide (wp ∈ namS) from (inV_strs (l := namT)).trans (namT_S wp)]
        have ew1 : want1 line ws i = if wp ∈ namS then ("name" : Str) else ("number" : Str) := by
          unfold want1
          rw [if_pos ⟨k4, ho⟩, getD_of hwp]
        by_cases hm : wp ∈ namS
        · refine ite_t (decide_eq_true hm) ?_
          walk_at "rz"
          exact hx4 _ _ ⟨by rw [ew1, if_pos hm]; rfl, s5⟩
        · refine ite_f (decide_eq_false hm) ?_
          walk_at "rz"
          exact hx4 _ _ ⟨by rw [ew1, if_neg hm]; rfl, s5⟩
      · refine ite_f (decide_eq_false (fun e => by have e : V.int (((i : Nat) : Int) % 2) = V.int 1 := e; injection e; omega)) ?_
        walk_at "rz"
        exact hx4 _ _ ⟨by rw [show want1 line ws i = want0 line i from if_neg (fun e => ho e.2)], Same.refl _⟩
    · refine ite_f (decide_eq_false (by omega)) ?_
      walk_at "rz"
      exact hx4 _ _ ⟨by rw [show want1 line ws i = want0 line i from if_neg (fun e => k4 e.1)], Same.refl _⟩
  rintro σ' H4 ⟨rfl, s4⟩
  dsimp only
  have ha4 := s4 _ _ ha3
  walk_at "rz"
  rename_i p6 hp6 H6 s6 e6
  have lwi := hsh wi (List.mem_of_getElem? hwi)
  refine ⟨wi, rfl, lwi, fun H7 s7 => ?_⟩
  walk_at "rz"
  rename_i p8 hp8 H8 s8 e8
  refine s_in (.inr (SqT.of e8)) rfl rfl ?_
  walk_at "rz"
  refine ⟨wi, rfl, lwi, fun H9 s9 => ?_⟩
  walk_at "rz"
  refine s_in (.inr (SqT.of ((s7.trans (s8.trans s9)) _ _ e6))) rfl rfl ?_
  walk_at "rz"
  rename_i p10 hp10 H10 s10 e10 p11 hp11 H11 s11 e11
  have e10' : H10 p10 = some (.lst ((goods wi).map V.bl)) := by
    rw [e10]
    have a1 : inV (V.str wi) [V.str "edge", V.str "level"] = decide (wi ∈ (["edge", "level"] : List Str)) := inV_strs (l := ["edge", "level"])
    have a2 : inV (V.str wi) [V.str "run", V.str "ring", V.str "quiet", V.str "mask", V.str "unmask", V.str "set", V.str "clear", V.str "await", V.str "bar", V.str "later"] = decide (wi ∈ allS) := (inV_strs (l := stpT)).trans (stpT_S wi)
    rw [a1, a2]
    rfl
  obtain ⟨k, k4, ek, gk⟩ := hgood i i1 h4
  rw [getD_of hwi] at gk
  have sj11 : Same Hj H11 := s3.trans (s4.trans (s6.trans (s7.trans (s8.trans (s9.trans (s10.trans s11))))))
  refine s_tyL e11 ?_
  walk_at "rz"
  rw [ek]
  refine idx_want (SqL.of e11) k4 ?_
  refine s_ixL (SqL.of (s11 _ _ e10')) (v := .bl (if line = true then goodL ws i else goodW ws i)) (atI_nat (by rw [List.getElem?_map, gk]; rfl)) ?_
  walk_at "rz"
  cases hgi : (if line = true then goodL ws i else goodW ws i) with
  | true =>
    refine ite_f rfl ?_
    walk_at "rz"
    exact ⟨max ws.length 4 - (i + 1), by omega, i + 1, _, _, _, _, rfl, sj11, by omega, by omega, fun h => by have := h4 h; omega, fun j j1 j2 => by
      by_cases e : j = i
      · subst e; exact ⟨hi, hgi⟩
      · exact hg j j1 (by omega), rfl⟩
  | false =>
    refine ite_t rfl ?_
    walk_at "rz"
    exact hsome i rfl (.inr hgi) (by omega) _ sj11
end
set_option maxHeartbeats 4000000
open PySem PySem.Spec PyProof.Rows L2 Z
open He (ga ma)
open TL (tl)
def spWFirst (K : Fg) : Sp := fun vs H Q _ => ∃ tx : Str, vs = [.str tx] ∧ tx.length ≤ 39999 ∧
  (∀ (k w : Nat), FirstW (rowsOf tx) k w → ∀ t H', Same H H' → H' t = some (.tup [.str "notation", .int (k : Nat), .int (w : Nat)]) → Q (.ref t) H') ∧ (NoWr (rowsOf tx) → ∀ H', Same H H' → Q .non H')
section
variable {P : Program} {w : World} {K : Fg} {mg : Str → Option Value} {base : Heap}
theorem ok_w_first_wrong (T : Txt K mg) : FnOk P w K mg base (L2.CX P w) 3 (ga K "_law_first_wrong") (fdOf K (ga K "_law_first_wrong")) ["_law_text"] (spWFirst K) := by
  refine FunD.ok T.F_w_first_wrong sc_w_first_wrong (fun vs H Q E h => ?_) (fun cdv A outer s H vs Q E hr h => ⟨_, PSs.nox (pss_cons (ps_par (by rfl) sc_w_first_wrong.nd (i := 1) (j := 2) rfl rfl (by decide) rfl rfl (pa_cons (pe_lc (own := [("_law_row", 5)]) rfl sc_w_first_wrong.nd (kIL K (pi_list (pe_split (pv 0) pe_str))) (blkOk_by (own := [("_law_row", 5)]) (N := n_w_first_wrong) (sc := defScope s_w_first_wrong) (by decide +kernel)) (fun _ _ _ _ _ => (zg 5 sc_w_first_wrong.nd)) (fun _ _ _ _ _ => pts_nil) (fun _ _ _ _ _ => (pe_split (pv 5) pe_str))) (pa_cons pe_bl pa_nil)) (by rfl))
      (pss_cons (ps_for PassesOwn.never rfl (pi_range1 rfl T.u_range (pa_cons (pe_callB (call_lenK K) (by rfl) T.u_len (by decide +kernel) (pa_cons (pv 1) pa_nil)) pa_nil)) (zg 3 sc_w_first_wrong.nd)
      (pss_cons (zset 4 sc_w_first_wrong.nd (pe_ifExp (PW.pt (pw_and (pt_cmpR op_eq (pe_ix (ix_listK K) (pe_ix (ix_listK K) (pv 1) (pv 3) (fun _ _ => rfl)) pe_int (fun _ _ => rfl)) pe_str (nomark _)) (pw_and1 (pt_cmpR op_eq (pv 3) pe_int (nomark _))))) pe_int (z_call (ok_w_wrong T) T.c_w_wrong (hr.mono (by decide)) rfl T.g_w_wrong passL (pa_cons (pe_ix (ix_listK K) (pv 1) (pv 3) (fun _ _ => rfl)) (pa_cons (pv 2) pa_nil)))))
      (pss_cons (ps_if (pt_cmpR op_notN (pv 4) pe_non (nomark _)) (pss_one (ps_ret (pe_tup (pa_cons pe_str (pa_cons (pv 3) (pa_cons (pv 4) pa_nil)))))) pss_nil)
      (pss_one (zset 2 sc_w_first_wrong.nd (pe_cmpR op_eq (pe_ix (ix_listK K) (pe_ix (ix_listK K) (pv 1) (pv 3) (fun _ _ => rfl)) pe_int (fun _ _ => rfl)) pe_str (nomark _)))))))
      (pss_one (ps_ret pe_non)))), ?_⟩)
  · obtain ⟨tx, rfl, _⟩ := h
    rfl
  obtain ⟨tx, rfl, tlen, qn, q⟩ := h
  show (_ : TS) _ (some (.str tx) :: List.replicate 5 none) H
  try dsimp only [cxOf]
  dsimp only [List.replicate]
  walk_at "rz"
  refine s_m1 ?_
  walk_at "rz"
  refine ⟨⟨_, rfl⟩, ?_⟩
  walk_at "rz"
  refine ⟨by decide +kernel, by rw [sizeLine_eq]; omega, fun p hp => ?_⟩
  have rl := Z.rows_len tx
  have rr : (rowsOf tx).length = (Txt.split tx "\n").length := by unfold rowsOf; rw [List.length_map]
  have zin : ∀ {i : Nat} {z : Str}, (Txt.split tx "\n")[i]? = some z → (rowsOf tx)[i]? = some (Txt.split z " ") ∧ z.length ≤ tx.length := fun {i z} h => ⟨by unfold rowsOf; rw [List.getElem?_map, h]; rfl, word_le (List.mem_of_getElem? h)⟩
  generalize Txt.split tx "\n" = sp at *
  generalize eH : upd H p _ = H1
  have s1 := newS hp eH
  have e1 := newE eH
  clear eH
  refine lcL_newL (yss := (rowsOf tx).map (·.map V.str)) (SqL.of e1) (by rw [List.length_map, List.length_map]; exact rr) (by rw [List.length_map]; omega) (fun i ys v Ha Yes No hi hy sa yes => ?_) (fun D H2 ls hD s2 eD nd nD fresh hls => ?_)
  · rw [List.getElem?_map] at hi
    obtain ⟨z, hz, rfl⟩ := Option.map_eq_some_iff.mp hi
    obtain ⟨hr, zl⟩ := zin hz
    rw [List.getElem?_map, hr] at hy
    cases hy
    walk_at "rz"
    refine ⟨rfl, ?_⟩
    walk_at "rz"
    refine s_m1 ?_
    walk_at "rz"
    refine ⟨⟨_, rfl⟩, ?_⟩
    walk_at "rz"
    refine ⟨by decide +kernel, by rw [sizeLine_eq]; omega, fun p2 hp2 => ?_⟩
    generalize eH : upd Ha p2 _ = Hb
    have s3 := newS hp2 eH
    have e3 := newE eH
    clear eH
    exact yes _ _ s3 hp2 e3
  have lls : ls.length = (rowsOf tx).length := by rw [hls.len, List.length_map]
  walk_at "rz"
  refine s_lenL (SqL.of eD) ?_
  rw [List.length_map, lls]
  walk_at "rz"
  have s02 := s1.trans s2
  refine ⟨by omega, by omega, for_range (lo := 0) (n := (rowsOf tx).length) (fun i σ Ha => (∃ y3 y4 y5, σ = [some (.str tx), some (.ref D), some (.bl (decide (0 < i) && isWorkR ((rowsOf tx).getD (i - 1) []))), y3, y4, y5]) ∧ Same H2 Ha ∧ ∀ j, j < i → wrongK (rowsOf tx) j = none)
    ⟨⟨_, _, _, rfl⟩, Same.refl _, fun j hj => by omega⟩ (fun i σ Ha hi ⟨⟨y3, y4, y5, es⟩, sa, no⟩ => ?_) (fun σ Ha ⟨⟨y3, y4, y5, es⟩, sa, no⟩ => ?_)⟩
  · subst es
    obtain ⟨r, hr⟩ : ∃ r, (rowsOf tx)[i]? = some r := ⟨_, List.getElem?_eq_getElem (by omega)⟩
    obtain ⟨l, hl⟩ : ∃ l, ls[i]? = some l := ⟨_, List.getElem?_eq_getElem (by omega)⟩
    obtain ⟨zs, hzs, el⟩ := hls.get hl
    rw [List.getElem?_map, hr] at hzs
    cases hzs
    have hrm := List.mem_of_getElem? hr
    have rne := Z.row_ne hrm
    obtain ⟨rl1, rl2⟩ := Z.row_len hrm
    obtain ⟨w0, h0⟩ : ∃ w0, r[0]? = some w0 := ⟨_, List.getElem?_eq_getElem (List.length_pos_iff.mpr rne)⟩
    have hwk : decide (V.str w0 = V.str "work") = isWorkR r := by
      unfold isWorkR
      rw [getD_of h0]
      exact decide_eq_decide.mpr ⟨fun h => by injection h, fun h => by rw [h]⟩
    have eDa := sa _ _ eD
    have ela := sa _ _ el
    have at0 := at_of (j := 0) rfl (at_str h0)
    have atl : atI (ls.map V.ref) (i : Nat) = some (.ref l) := atI_nat (by rw [List.getElem?_map, hl]; rfl)
    rw [Int.zero_add] at *
    walk_at "rz"
    refine s_ixL (SqL.of eDa) atl ?_
    walk_at "rz"
    refine s_ixL (SqL.of ela) at0 ?_
    walk_at "rz"
    rw [hwk]
    rcases Bool.eq_false_or_eq_true (isWorkR r) with ew | ew
    · rw [ew]
      refine ite_t rfl ?_
      walk_at "rz"
      by_cases i0 : i = 0
      · refine ite_t (decide_eq_true (congrArg V.int (by omega))) ?_
        have hk : wrongK (rowsOf tx) i = some 0 := if_pos ⟨by rw [getR hr]; exact ew, i0⟩
        walk_at "rz"
        refine ⟨rfl, ?_⟩
        walk_at "rz"
        rename_i t ht Hc sc ec
        exact qn i 0 ⟨by omega, hk, no⟩ t _ (s02.trans (sa.trans sc)) ec
      · refine ite_f (decide_eq_false (fun e => by injection e; omega)) ?_
        have hB : wrongK (rowsOf tx) i = wrongR r (decide (0 < i) && isWorkR ((rowsOf tx).getD (i - 1) [])) := by
          unfold wrongK
          rw [if_neg (fun e => i0 e.2), getR hr]
        walk_at "rz"
        refine s_ixL (SqL.of eDa) atl ?_
        walk_at "rz"
        refine ⟨l, r, _, rfl, ela, rne, by omega, fun w hw => Nat.le_trans (rl2 w hw) (by omega), fun Hb sb => ?_⟩
        rw [← hB]
        cases hk : wrongK (rowsOf tx) i with
        | some k =>
          walk_at "rz"
          refine ⟨rfl, ?_⟩
          walk_at "rz"
          rename_i t ht Hc sc ec
          exact qn i k ⟨by omega, hk, no⟩ t _ (s02.trans (sa.trans (sb.trans sc))) ec
        | none =>
          walk_at "rz"
          refine ⟨rfl, ?_⟩
          walk_at "rz"
          refine s_ixL (SqL.of (sb _ _ eDa)) atl ?_
          walk_at "rz"
          refine s_ixL (SqL.of (sb _ _ ela)) at0 ?_
          walk_at "rz"
          rw [hwk]
          refine ⟨⟨_, _, _, by rw [decide_eq_true (Nat.succ_pos i), Bool.true_and, Nat.add_sub_cancel, getR hr]; rfl⟩, sa.trans sb, fun j hj => ?_⟩
          by_cases e : j = i
          · rw [e]; exact hk
          · exact no j (by omega)
    · rw [ew]
      refine ite_f rfl ?_
      have hB : wrongK (rowsOf tx) i = wrongR r (decide (0 < i) && isWorkR ((rowsOf tx).getD (i - 1) [])) := by
        unfold wrongK
        rw [getR hr, if_neg (fun e => by rw [ew] at e; cases e.1)]
      rw [if_neg Bool.false_ne_true]
      walk_at "rz"
      refine s_ixL (SqL.of eDa) atl ?_
      walk_at "rz"
      refine ⟨l, r, _, rfl, ela, rne, by omega, fun w hw => Nat.le_trans (rl2 w hw) (by omega), fun Hb sb => ?_⟩
      rw [← hB]
      cases hk : wrongK (rowsOf tx) i with
      | some k =>
        walk_at "rz"
        refine ⟨rfl, ?_⟩
        walk_at "rz"
        rename_i t ht Hc sc ec
        exact qn i k ⟨by omega, hk, no⟩ t _ (s02.trans (sa.trans (sb.trans sc))) ec
      | none =>
        walk_at "rz"
        refine ⟨rfl, ?_⟩
        walk_at "rz"
        refine s_ixL (SqL.of (sb _ _ eDa)) atl ?_
        walk_at "rz"
        refine s_ixL (SqL.of (sb _ _ ela)) at0 ?_
        walk_at "rz"
        rw [hwk]
        refine ⟨⟨_, _, _, by rw [decide_eq_true (Nat.succ_pos i), Bool.true_and, Nat.add_sub_cancel, getR hr]; rfl⟩, sa.trans sb, fun j hj => ?_⟩
        by_cases e : j = i
        · rw [e]; exact hk
        · exact no j (by omega)
  · subst es
    walk_at "rz"
    exact q no _ (s02.trans sa)
end
set_option maxHeartbeats 4000000
open PySem PySem.Spec PyProof.Rows L2 Z
open He (ga ma)
open TL (tl)
def wordsL : List Str := ["", "0", "007", "x", "line", "work", "run", "bar", "edge", "Net", "99", "1000", "-1", "ring", "+2", "net"]
theorem wordsL4 : ∀ w ∈ wordsL, w.length ≤ 4 := by decide +kernel
def spWSpoilt (K : Fg) : Sp := fun vs H Q _ => ∃ r sc ns, ∃ tx : Str, vs = [.ref r, .str tx] ∧ RowAt K H r sc ns ∧ tx.length ≤ 4000 ∧ ∀ (ty : Str) H', ty.length ≤ 39000 → Fr [r] H H' → RowAt K H' r sc ns → Q (.str ty) H'
section
variable {P : Program} {w : World} {K : Fg} {mg : Str → Option Value} {base : Heap}
theorem ok_w_spoilt (T : Txt K mg) : FnOk P w K mg base (L2.CX P w) 3 (ga K "_law_spoilt") (fdOf K (ga K "_law_spoilt")) ["_law_row", "_law_text"] (spWSpoilt K) := by
  refine FunD.ok T.F_w_spoilt sc_w_spoilt (fun vs H Q E h => ?_) (fun cdv A outer s H vs Q E hr h => ⟨_, PSs.nox (pss_cons (ps_for PassesOwn.never rfl (pi_range1 rfl T.u_range (pa_cons (z_call (ok_w_taken T) T.c_w_taken (hr.mono (by decide)) rfl T.g_w_taken passL (pa_cons (pv 0) (pa_cons pe_int pa_nil))) pa_nil)) (zg 2 sc_w_spoilt.nd)
      (pss_cons (zset 3 sc_w_spoilt.nd (pe_split (pv 1) pe_str))
      (pss_cons (zset 4 sc_w_spoilt.nd (z_call (ok_w_taken T) T.c_w_taken (hr.mono (by decide)) rfl T.g_w_taken passL (pa_cons (pv 0) (pa_cons (pe_callB (call_lenK K) (by rfl) T.u_len (by decide +kernel) (pa_cons (pv 3) pa_nil)) pa_nil))))
      (pss_cons (zset 5 sc_w_spoilt.nd (pe_split (pe_ix (ix_listK K) (pv 3) (pv 4) (fun _ _ => rfl)) pe_str))
      (pss_cons (ps_par (by rfl) sc_w_spoilt.nd (i := 6) (j := 7) rfl rfl (by decide) rfl rfl (pa_cons (z_call (ok_w_taken T) T.c_w_taken (hr.mono (by decide)) rfl T.g_w_taken passL (pa_cons (pv 0) (pa_cons (pe_callB (call_lenK K) (by rfl) T.u_len (by decide +kernel) (pa_cons (pv 5) pa_nil)) pa_nil))) (pa_cons (z_call (ok_w_taken T) T.c_w_taken (hr.mono (by decide)) rfl T.g_w_taken passL (pa_cons (pv 0) (pa_cons pe_int pa_nil))) pa_nil)) (by rfl))
      (pss_cons (zset 8 sc_w_spoilt.nd (pe_lst (pa_cons pe_str (pa_cons pe_str (pa_cons pe_str (pa_cons pe_str (pa_cons pe_str (pa_cons pe_str (pa_cons pe_str (pa_cons pe_str (pa_cons pe_str (pa_cons pe_str (pa_cons pe_str (pa_cons pe_str (pa_cons pe_str pa_nil)))))))))))))))
      (pss_cons (zset 8 sc_w_spoilt.nd (pe_op op_cat (pv 8) (pe_lst (pa_cons pe_str (pa_cons pe_str (pa_cons pe_str pa_nil))))))
      (pss_cons (zset 9 sc_w_spoilt.nd (pe_ix (ix_listK K) (pv 8) (z_call (ok_w_taken T) T.c_w_taken (hr.mono (by decide)) rfl T.g_w_taken passL (pa_cons (pv 0) (pa_cons (pe_callB (call_lenK K) (by rfl) T.u_len (by decide +kernel) (pa_cons (pv 8) pa_nil)) pa_nil))) (fun _ _ => rfl)))
      (pss_cons (ps_if (pt_cmpR op_lt (pv 7) pe_int (nomark _)) (pss_cons (zset 10 sc_w_spoilt.nd (pe_op op_rep (pe_lst (pa_cons (pv 9) pa_nil)) (pe_callTy call_int1 (by rfl) T.u_int (by decide +kernel) (pa_cons (pe_cmpR op_lt (pv 7) pe_int (nomark _)) pa_nil))))
      (pss_one (ps_asg (pe_joinK K pe_str (pe_op op_cat (pe_op op_cat (pe_slice (sl_listK K) (pv 5) po_none (po_some (pv 6))) (pv 10)) (pe_slice (sl_listK K) (pv 5) (po_some (pe_op op_add (pv 6) (pe_callTy call_int1 (by rfl) T.u_int (by decide +kernel) (pa_cons (pe_cmpR op_gt (pv 7) pe_int (nomark _)) pa_nil)))) po_none))) (pg_sub (pv 3) (pv 4) set_list)))) (pss_one (ps_if (pt_cmpR op_eq (pv 7) pe_int (nomark _)) (pss_one (zset 3 sc_w_spoilt.nd (pe_op op_cat (pe_slice (sl_listK K) (pv 3) po_none (po_some (pv 4))) (pe_slice (sl_listK K) (pv 3) (po_some (pe_op op_add (pv 4) pe_int)) po_none)))) (pss_one (ps_if (pt_cmpR op_eq (pv 7) pe_int (nomark _)) (pss_one (zset 3 sc_w_spoilt.nd (pe_op op_cat (pe_op op_cat (pe_slice (sl_listK K) (pv 3) po_none (po_some (pv 4))) (pe_lst (pa_cons (pv 9) pa_nil))) (pe_slice (sl_listK K) (pv 3) (po_some (pv 4)) po_none)))) (pss_one (ps_if (pt_cmpR op_eq (pv 7) pe_int (nomark _)) (pss_one (zset 3 sc_w_spoilt.nd (pe_op op_cat (pe_slice (sl_listK K) (pv 3) (po_some (pv 4)) po_none) (pe_slice (sl_listK K) (pv 3) po_none (po_some (pv 4)))))) (pss_one (ps_asg (pe_op op_add_str (pe_op op_add_str (pe_ix (ix_listK K) (pv 3) (pv 4) (fun _ _ => rfl)) pe_str) (pv 9)) (pg_sub (pv 3) (pv 4) set_list))))))))))
      (pss_one (zset 1 sc_w_spoilt.nd (pe_joinK K pe_str (pv 3)))))))))))))
      (pss_one (ps_ret (pv 1)))), ?_⟩)
  · obtain ⟨r, sc, ns, tx, rfl, _⟩ := h
    rfl
  obtain ⟨r, sc, ns, tx, rfl, row, tlen, q⟩ := h
  show (_ : TS) _ (some (.ref r) :: some (.str tx) :: List.replicate 9 none) H
  try dsimp only [cxOf]
  dsimp only [List.replicate]
  walk_at "rz"
  refine ⟨r, sc, ns, 4, rfl, row, by omega, by omega, fun n H1 n0 n1 f1 row1 => ?_⟩
  walk_at "rz"
  obtain ⟨m, rfl⟩ : ∃ m : Nat, n = (m : Int) := ⟨n.toNat, by omega⟩
  refine ⟨by omega, by omega, for_range (lo := 0) (n := m) (fun i σ Ha => (∃ tz y2 y3 y4 y5 y6 y7 y8 y9 y10, σ = [some (.ref r), some (.str tz), y2, y3, y4, y5, y6, y7, y8, y9, y10] ∧ tz.length + 40 ≤ 2 ^ i * 4040) ∧ Fr [r] H Ha ∧ RowAt K Ha r sc ns)
    ⟨⟨_, _, _, _, _, _, _, _, _, _, rfl, by omega⟩, f1, row1⟩ (fun i σ Ha hi ⟨⟨tz, y2, y3, y4, y5, y6, y7, y8, y9, y10, es, zl⟩, fa, row⟩ => ?_) (fun σ Ha ⟨⟨tz, y2, y3, y4, y5, y6, y7, y8, y9, y10, es, zl⟩, fa, row⟩ => ?_)⟩
  · subst es
    have p2 : 2 ^ i ≤ 4 := Nat.le_trans (Nat.pow_le_pow_right (by omega) (show i ≤ 2 by omega)) (by decide)
    have p3 : 2 ^ (i + 1) = 2 * 2 ^ i := by rw [Nat.pow_succ]; omega
    have hz : tz.length ≤ 16160 := by omega
    have ll1 : ("\n" : Str).length = 1 := by decide +kernel
    have ll2 : (" " : Str).length = 1 := by decide +kernel
    have rne := split_ne2 tz
    have rtot := split_tot ll1 rne
    have fin : ∀ {ty : Str}, ty.length ≤ 2 * tz.length + 40 → ty.length + 40 ≤ 2 ^ (i + 1) * 4040 := fun h => by rw [p3]; omega
    clear p2 p3 zl q
    walk_at "rz"
    refine s_m1 ?_
    walk_at "rz"
    refine ⟨⟨_, rfl⟩, ?_⟩
    walk_at "rz"
    refine ⟨by decide +kernel, by rw [sizeLine_eq]; omega, fun p hp => ?_⟩
    generalize Txt.split tz "\n" = rows at *
    generalize eH : upd Ha p _ = Hb
    have sb := newS hp eH
    have eb := newE eH
    clear eH
    have row2 := row.same sb
    have lrows := tot_len rows
    have r0 : 0 < rows.length := List.length_pos_iff.mpr rne
    walk_at "rz"
    refine s_lenL (SqL.of eb) ?_
    rw [List.length_map]
    walk_at "rz"
    refine ⟨r, sc, ns, rows.length, rfl, row2, by omega, by omega, fun k Hc k0 k1 fc row3 => ?_⟩
    obtain ⟨k, rfl⟩ : ∃ k' : Nat, k = (k' : Int) := ⟨k.toNat, by omega⟩
    have hk : k < rows.length := by omega
    have pr : p ≠ r := fun e => row.ex (by rw [← e]; exact hp)
    have ec := fc.at eb (by simp [pr])
    obtain ⟨z, hz⟩ : ∃ z, rows[k]? = some z := ⟨_, List.getElem?_eq_getElem hk⟩
    have hzl := tot_mem (List.mem_of_getElem? hz)
    have zne := split_ne1 z
    have wtot := split_tot ll2 zne
    walk_at "rz"
    refine s_m1 ?_
    walk_at "rz"
    refine s_ixL (SqL.of ec) (atI_nat (at_str hz)) ?_
    refine ⟨⟨_, rfl⟩, ?_⟩
    walk_at "rz"
    refine ⟨by decide +kernel, by rw [sizeLine_eq]; omega, fun p2 hp2 => ?_⟩
    generalize Txt.split z " " = wds at *
    generalize eH : upd Hc p2 _ = Hd
    have sd := newS hp2 eH
    have ed := newE eH
    clear eH
    have row4 := row3.same sd
    have lwds := tot_len wds
    have w0 : 0 < wds.length := List.length_pos_iff.mpr zne
    walk_at "rz"
    refine s_lenL (SqL.of ed) ?_
    rw [List.length_map]
    walk_at "rz"
    refine ⟨r, sc, ns, wds.length, rfl, row4, by omega, by omega, fun at_ He at0 at1 fe row5 => ?_⟩
    obtain ⟨at_, rfl⟩ : ∃ k' : Nat, at_ = (k' : Int) := ⟨at_.toNat, by omega⟩
    walk_at "rz"
    refine ⟨r, sc, ns, 7, rfl, row5, by omega, by omega, fun way Hf way0 way1 ff row6 => ?_⟩
    walk_at "rz"
    dsimp only [List.set]
    rename_i pa hpa Hg sg eg pb hpb Hh sh eh
    refine s_cat (sh _ _ eg) eh (by rw [sizeLine_eq]; decide) fun pc hpc => ?_
    generalize eH : upd Hh pc _ = Hi
    have si := newS hpc eH
    have ei : Hi pc = some (.lst (wordsL.map V.str)) := newE eH
    clear eH
    have row7 := row6.same (sg.trans (sh.trans si))
    have pcr : pc ≠ r := fun e => (row6.same (sg.trans sh)).ex (by rw [← e]; exact hpc)
    have p2r : p2 ≠ r := fun e => row3.ex (by rw [← e]; exact hp2)
    walk_at "rz"
    refine s_lenL (SqL.of ei) ?_
    walk_at "rz"
    refine ⟨r, sc, ns, 16, rfl, row7, by omega, by omega, fun j Hj j0 j1 fj row8 => ?_⟩
    obtain ⟨j, rfl⟩ : ∃ k' : Nat, j = (k' : Int) := ⟨j.toNat, by omega⟩
    obtain ⟨wj, hwj⟩ : ∃ wj, wordsL[j]? = some wj := ⟨_, List.getElem?_eq_getElem (show j < 16 by omega)⟩
    have wj4 := wordsL4 wj (List.mem_of_getElem? hwj)
    have Fp : Fr [r] Hd Hj := fe.trans (ff.trans (((sg.trans (sh.trans si)).fr).trans fj))
    have ep : Hj p = some (.lst (rows.map V.str)) := Fp.at (sd _ _ ec) (by simp [pr])
    have ep2 : Hj p2 = some (.lst (wds.map V.str)) := Fp.at ed (by simp [p2r])
    have Fa : Fr [r] Ha Hj := (sb.fr).trans (fc.trans ((sd.fr).trans Fp))
    have done : ∀ {ty : Str} {Hz : Hp}, ty.length ≤ 2 * tz.length + 40 → Fr [p] Hj Hz → (Fr [r] H Hz ∧ RowAt K Hz r sc ns) ∧ ty.length + 40 ≤ 2 ^ (i + 1) * 4040 := fun h f => ⟨⟨fa.trans (Fa.seq f fun y hy => .inr (by rw [List.mem_singleton.mp hy]; exact hp)), RowAt.kept row row8 f fun y hy => by rw [List.mem_singleton.mp hy]; exact hp⟩, fin h⟩
    refine s_ixL (SqL.of (fj.at ei (by simp [pcr]))) (atI_nat (at_str hwj)) ?_
    clear Fp eg eh ei si sh sg ec eb ed row2 row3 row4 row5 row6 row7 fj fc fe ff sb sd
    dsimp only [List.set]
    walk_at "rz"
    by_cases w3 : way < 3
    · refine ite_t (decide_eq_true (by omega)) ?_
      walk_at "rz"
      walk_at "rz"
      rename_i q0 hq0 Hk sHk eHk
      dsimp only
      obtain ⟨c, hc, cc⟩ : ∃ c : Int, (if decide (way < 2) = true then (1 : Int) else 0) = c ∧ (c = 0 ∨ c = 1) := ⟨_, rfl, by split <;> simp⟩
      rw [hc]
      have enw : ∃ nw : List Str, (List.replicate c.toNat [V.str wj]).flatten = nw.map V.str ∧ tot nw ≤ 5 ∧ nw.length ≤ 1 := by
        rcases cc with rfl | rfl
        · exact ⟨[], rfl, Nat.zero_le _, Nat.zero_le _⟩
        · refine ⟨[wj], rfl, ?_, Nat.le_refl _⟩
          rw [tot_cons]
          show _ + 1 + 0 ≤ _
          omega
      obtain ⟨nw, enw, tnw, lnw⟩ := enw
      refine ⟨q0, c, [V.str wj], rfl, rfl, eHk, by omega, by omega, by rw [sizeLine_eq, List.length_singleton]; omega, fun q1 hq1 => ?_⟩
      rw [enw]
      generalize eH : upd Hk q1 _ = Hl
      have sHl := newS hq1 eH
      have eHl := newE eH
      clear eH
      dsimp only [List.set]
      walk_at "rz"
      refine s_m1 ?_
      walk_at "rz"
      refine ⟨⟨_, rfl⟩, ?_⟩
      walk_at "rz"
      refine s_slL (SqL.of ((sHk.trans sHl) _ _ ep2)) fun q2 hq2 => ?_
      generalize eH : upd Hl q2 _ = Hm
      have sHm := newS hq2 eH
      have eHm := newE eH
      clear eH
      rw [cut_take, ← List.map_take] at eHm
      walk_at "rz"
      have lt := tot_len (wds.take at_)
      refine s_cat eHm (sHm _ _ eHl) (by rw [List.length_map, List.length_map, sizeLine_eq]; have := tot_cut wds (Nat.le_refl at_); omega) fun q3 hq3 => ?_
      generalize eH : upd Hm q3 _ = Hn
      have sHn := newS hq3 eH
      have eHn := newE eH
      clear eH
      rw [← List.map_append] at eHn
      walk_at "rz"
      obtain ⟨d, hd⟩ : ∃ d : Nat, ((at_ : Nat) : Int) + (if decide (0 < way) = true then (1 : Int) else 0) = ((at_ + d : Nat) : Int) := by
        split
        · exact ⟨1, by omega⟩
        · exact ⟨0, by omega⟩
      try dsimp only
      rw [hd]
      refine s_slL (SqL.of ((sHk.trans (sHl.trans (sHm.trans sHn))) _ _ ep2)) fun q4 hq4 => ?_
      generalize eH : upd Hn q4 _ = Ho
      have sHo := newS hq4 eH
      have eHo := newE eH
      clear eH
      rw [cut_drop, ← List.map_drop] at eHo
      have tc := tot_cut wds (show at_ ≤ at_ + d by omega)
      have ld := tot_len (wds.drop (at_ + d))
      walk_at "rz"
      refine s_cat (sHo _ _ eHn) eHo (by rw [List.length_map, List.length_map, sizeLine_eq, List.length_append]; omega) fun q5 hq5 => ?_
      generalize eH : upd Ho q5 _ = Hq
      have sHq := newS hq5 eH
      have eHq := newE eH
      clear eH
      rw [← List.map_append] at eHq
      have tJ : tot ((wds.take at_ ++ nw) ++ wds.drop (at_ + d)) ≤ tot wds + 5 := by
        rw [tot_app, tot_app]
        omega
      have lJ := join_tot ll2 ((wds.take at_ ++ nw) ++ wds.drop (at_ + d))
      have sq : Same Hj Hq := sHk.trans (sHl.trans (sHm.trans (sHn.trans (sHo.trans sHq))))
      refine ⟨" ", q5, (wds.take at_ ++ nw) ++ wds.drop (at_ + d), rfl, rfl, .inl (SqL.of eHq), by rw [tot_join ll2]; omega, ?_⟩
      generalize eJ : Txt.join " " ((wds.take at_ ++ nw) ++ wds.drop (at_ + d)) = J at *
      walk_at "rz"
      refine s_setL (sq _ _ ep) (ixN_n (by rw [List.length_map]; exact hk)) ?_
      generalize eH : upd Hq p _ = Hz
      have fz : Fr [p] Hj Hz := (sq.fr).trans (by rw [← eH]; exact Fr.upd (by simp) (sq _ _ ep) rfl)
      have ez : Hz p = some (.lst ((rows.set k J).map V.str)) := by rw [← eH, upd_same, List.map_set]
      clear eH
      have ts := tot_set rows k J
      walk_at "rz"
      refine s_m1 ?_
      walk_at "rz"
      refine ⟨⟨_, rfl⟩, ?_⟩
      walk_at "rz"
      refine ⟨"\n", p, rows.set k J, rfl, rfl, .inl (SqL.of ez), by rw [tot_join ll1]; omega, ?_⟩
      walk_at "rz"
      have dd := done (ty := Txt.join "\n" (rows.set k J)) (Hz := Hz) (by have := join_tot ll1 (rows.set k J); omega) fz
      exact ⟨⟨_, _, _, _, _, _, _, _, _, _, rfl, dd.2⟩, dd.1.1, dd.1.2⟩
    refine ite_f (decide_eq_false (by omega)) ?_
    walk_at "rz"
    by_cases w4 : way = 3
    · refine ite_t (decide_eq_true (by rw [w4])) ?_
      walk_at "rz"
      refine s_slL (SqL.of ep) fun q1 hq1 => ?_
      generalize eH : upd Hj q1 _ = Hk
      have sHk := newS hq1 eH
      have eHk := newE eH
      clear eH
      rw [cut_take, ← List.map_take] at eHk
      dsimp only [List.set]
      walk_at "rz"
      rw [show ((k : Nat) : Int) + 1 = ((k + 1 : Nat) : Int) by omega]
      refine s_slL (SqL.of (sHk _ _ ep)) fun q2 hq2 => ?_
      generalize eH : upd Hk q2 _ = Hl
      have sHl := newS hq2 eH
      have eHl := newE eH
      clear eH
      rw [cut_drop, ← List.map_drop] at eHl
      walk_at "rz"
      have tc := tot_cut rows (show k ≤ k + 1 by omega)
      refine s_cat (sHl _ _ eHk) eHl (by rw [List.length_map, List.length_map, sizeLine_eq]; have := tot_len (rows.take k); have := tot_len (rows.drop (k + 1)); omega) fun q3 hq3 => ?_
      generalize eH : upd Hl q3 _ = Hm
      have sHm := newS hq3 eH
      have eHm := newE eH
      clear eH
      rw [← List.map_append] at eHm
      walk_at "rz"
      refine s_m1 ?_
      walk_at "rz"
      refine ⟨⟨_, rfl⟩, ?_⟩
      walk_at "rz"
      refine ⟨"\n", q3, rows.take k ++ rows.drop (k + 1), rfl, rfl, .inl (SqL.of eHm), by rw [tot_join ll1, tot_app]; omega, ?_⟩
      walk_at "rz"
      have dd := done (ty := Txt.join "\n" (rows.take k ++ rows.drop (k + 1))) (Hz := Hm) (by have := join_tot ll1 (rows.take k ++ rows.drop (k + 1)); rw [tot_app] at this; omega) ((sHk.trans (sHl.trans sHm)).fr)
      exact ⟨⟨_, _, _, _, _, _, _, _, _, _, rfl, dd.2⟩, dd.1.1, dd.1.2⟩
    refine ite_f (decide_eq_false (fun e => w4 (by injection e))) ?_
    walk_at "rz"
    by_cases w5 : way = 4
    · refine ite_t (decide_eq_true (by rw [w5])) ?_
      walk_at "rz"
      refine s_slL (SqL.of ep) fun q1 hq1 => ?_
      generalize eH : upd Hj q1 _ = Hk
      have sHk := newS hq1 eH
      have eHk := newE eH
      clear eH
      rw [cut_take, ← List.map_take] at eHk
      dsimp only [List.set]
      walk_at "rz"
      rename_i q2 hq2 Hl sHl eHl
      have tc := tot_cut rows (Nat.le_refl k)
      refine s_cat (zs := [wj].map V.str) (sHl _ _ eHk) eHl (by rw [List.length_map, List.length_map, sizeLine_eq]; have := tot_len (rows.take k); simp only [List.length_singleton]; omega) fun q3 hq3 => ?_
      generalize eH : upd Hl q3 _ = Hm
      have sHm := newS hq3 eH
      have eHm := newE eH
      clear eH
      rw [← List.map_append] at eHm
      walk_at "rz"
      refine s_slL (SqL.of ((sHk.trans (sHl.trans sHm)) _ _ ep)) fun q4 hq4 => ?_
      generalize eH : upd Hm q4 _ = Hn
      have sHn := newS hq4 eH
      have eHn := newE eH
      clear eH
      rw [cut_drop, ← List.map_drop] at eHn
      walk_at "rz"
      refine s_cat (sHn _ _ eHm) eHn (by rw [List.length_map, List.length_map, sizeLine_eq, List.length_append]; have := tot_len (rows.take k); have := tot_len (rows.drop k); simp only [List.length_singleton]; omega) fun q5 hq5 => ?_
      generalize eH : upd Hn q5 _ = Ho
      have sHo := newS hq5 eH
      have eHo := newE eH
      clear eH
      rw [← List.map_append] at eHo
      have tw : tot ((rows.take k ++ [wj]) ++ rows.drop k) ≤ tot rows + 5 := by
        rw [tot_app, tot_app, tot_cons]
        show _ + (_ + 1 + 0) + _ ≤ _
        omega
      walk_at "rz"
      refine s_m1 ?_
      walk_at "rz"
      refine ⟨⟨_, rfl⟩, ?_⟩
      walk_at "rz"
      refine ⟨"\n", q5, (rows.take k ++ [wj]) ++ rows.drop k, rfl, rfl, .inl (SqL.of eHo), by rw [tot_join ll1]; omega, ?_⟩
      walk_at "rz"
      have dd := done (ty := Txt.join "\n" ((rows.take k ++ [wj]) ++ rows.drop k)) (Hz := Ho) (by have := join_tot ll1 ((rows.take k ++ [wj]) ++ rows.drop k); omega) ((sHk.trans (sHl.trans (sHm.trans (sHn.trans sHo)))).fr)
      exact ⟨⟨_, _, _, _, _, _, _, _, _, _, rfl, dd.2⟩, dd.1.1, dd.1.2⟩
    refine ite_f (decide_eq_false (fun e => w5 (by injection e))) ?_
    walk_at "rz"
    by_cases w6 : way = 5
    · refine ite_t (decide_eq_true (by rw [w6])) ?_
      walk_at "rz"
      refine s_slL (SqL.of ep) fun q1 hq1 => ?_
      generalize eH : upd Hj q1 _ = Hk
      have sHk := newS hq1 eH
      have eHk := newE eH
      clear eH
      rw [cut_drop, ← List.map_drop] at eHk
      dsimp only [List.set]
      walk_at "rz"
      refine s_slL (SqL.of (sHk _ _ ep)) fun q2 hq2 => ?_
      generalize eH : upd Hk q2 _ = Hl
      have sHl := newS hq2 eH
      have eHl := newE eH
      clear eH
      rw [cut_take, ← List.map_take] at eHl
      walk_at "rz"
      have tc := tot_cut rows (Nat.le_refl k)
      refine s_cat (sHl _ _ eHk) eHl (by rw [List.length_map, List.length_map, sizeLine_eq]; have := tot_len (rows.take k); have := tot_len (rows.drop k); omega) fun q3 hq3 => ?_
      generalize eH : upd Hl q3 _ = Hm
      have sHm := newS hq3 eH
      have eHm := newE eH
      clear eH
      rw [← List.map_append] at eHm
      walk_at "rz"
      refine s_m1 ?_
      walk_at "rz"
      refine ⟨⟨_, rfl⟩, ?_⟩
      walk_at "rz"
      refine ⟨"\n", q3, rows.drop k ++ rows.take k, rfl, rfl, .inl (SqL.of eHm), by rw [tot_join ll1, tot_app]; omega, ?_⟩
      walk_at "rz"
      have dd := done (ty := Txt.join "\n" (rows.drop k ++ rows.take k)) (Hz := Hm) (by have := join_tot ll1 (rows.drop k ++ rows.take k); rw [tot_app] at this; omega) ((sHk.trans (sHl.trans sHm)).fr)
      exact ⟨⟨_, _, _, _, _, _, _, _, _, _, rfl, dd.2⟩, dd.1.1, dd.1.2⟩
    refine ite_f (decide_eq_false (fun e => w6 (by injection e))) ?_
    walk_at "rz"
    refine s_ixL (SqL.of ep) (atI_nat (at_str hz)) ?_
    walk_at "rz"
    refine ⟨by rw [ll2, sizeLine_eq]; omega, ?_⟩
    try dsimp only
    walk_at "rz"
    refine ⟨by rw [str_len_app, ll2, sizeLine_eq]; omega, ?_⟩
    try dsimp only
    walk_at "rz"
    refine s_setL ep (ixN_n (by rw [List.length_map]; exact hk)) ?_
    generalize eH : upd Hj p _ = Hz
    have fz : Fr [p] Hj Hz := by rw [← eH]; exact Fr.upd (by simp) ep rfl
    have ez : Hz p = some (.lst ((rows.set k (z ++ (" " : Str) ++ wj)).map V.str)) := by rw [← eH, upd_same, List.map_set]
    clear eH
    have ts := tot_set rows k (z ++ (" " : Str) ++ wj)
    dsimp only [List.set]
    walk_at "rz"
    refine s_m1 ?_
    walk_at "rz"
    refine ⟨⟨_, rfl⟩, ?_⟩
    walk_at "rz"
    refine ⟨"\n", p, rows.set k (z ++ (" " : Str) ++ wj), rfl, rfl, .inl (SqL.of ez), by rw [tot_join ll1]; rw [str_len_app, str_len_app, ll2] at ts; omega, ?_⟩
    walk_at "rz"
    have dd := done (ty := Txt.join "\n" (rows.set k (z ++ (" " : Str) ++ wj))) (Hz := Hz) (by have := join_tot ll1 (rows.set k (z ++ (" " : Str) ++ wj)); rw [str_len_app, str_len_app, ll2] at ts; omega) fz
    exact ⟨⟨_, _, _, _, _, _, _, _, _, _, rfl, dd.2⟩, dd.1.1, dd.1.2⟩
  · subst es
    walk_at "rz"
    have p2 : 2 ^ m ≤ 8 := Nat.le_trans (Nat.pow_le_pow_right (by omega) (show m ≤ 3 by omega)) (by decide)
    exact q tz _ (by omega) fa row
end
set_option maxHeartbeats 3000000
open PySem PySem.Spec PyProof.Rows L2 Z
open He (ga ma)
open LamX (TabS)
open TL (tl)
abbrev tL (K : Fg) : Addr := tabA K (ga K "law")
abbrev qL : Str := (("law" : Str) ++ ".<locals>.") ++ "<lambda>"
def spLaw (K : Fg) : Sp := fun vs H Q _ => ∃ (a : Addr) (ns : List Int), vs = [.ref a] ∧ SqL K H a (ns.map V.int) ∧ H (tL K) = some (.tbl #[]) ∧ ∀ H', Q (.bl true) H'
theorem nmA6 : ∀ z ∈ nmA, z.length ≤ 6 := by decide +kernel
theorem num6 {i : Int} (h0 : 0 ≤ i) (h1 : i < 100) : (txI i).length ≤ 6 := Nat.le_trans (num_ok h0 h1).2.2.1 (by decide)
theorem drawn_word {P : Pl} (d : Drawn P) {r : List Str} (hr : r ∈ rowW P) : ∀ w ∈ r, w.length ≤ 6 := by
  have six : ∀ w ∈ (["line", "work", "edge", "level", "run", "bar", "later", "ring", "quiet", "mask", "unmask", "set", "clear", "await"] : List Str), w.length ≤ 6 := by decide +kernel
  have hwn : ∀ z ∈ P.wnames, z ∈ nmA := fun z hz => by
    obtain ⟨k, e⟩ := d.wn
    rw [e] at hz
    exact (by decide : ∀ z ∈ nmW, z ∈ nmA) z (List.mem_of_mem_take hz)
  have hk : ∀ z ∈ (nkOf P.ls).map (·.1), z ∈ nmA := fun z hz => by
    rw [nk_names] at hz
    exact nm6_A z (d.six z hz)
  unfold rowW at hr
  rcases List.mem_append.mp hr with hr | hr
  · obtain ⟨l, hl, rfl⟩ := List.mem_map.mp hr
    have g := d.fit l hl
    intro w hw
    unfold lnW at hw
    rcases List.mem_append.mp hw with hw | hw
    · simp only [List.mem_cons, List.not_mem_nil, or_false] at hw
      rcases hw with rfl | rfl | rfl | rfl
      · exact six _ (by decide +kernel)
      · exact nmA6 _ g.nm
      · rcases g.kd with e | e <;> rw [e] <;> exact six _ (by decide +kernel)
      · exact num6 (by have := g.r1; omega) (by have := g.r9; omega)
    · obtain ⟨s, hs, hw⟩ := List.mem_flatMap.mp hw
      have gs := g.st s hs
      have two : ∀ (a b : Str), w ∈ [a, b] → a.length ≤ 6 → b.length ≤ 6 → w.length ≤ 6 := fun a b h ha hb => by
        simp only [List.mem_cons, List.not_mem_nil, or_false] at h
        rcases h with rfl | rfl
        · exact ha
        · exact hb
      cases gs with
      | run a b => exact two _ _ hw (six ("run" : Str) (by decide +kernel)) (num6 (by omega) (by omega))
      | bar a b => exact two _ _ hw (six ("bar" : Str) (by decide +kernel)) (num6 (by omega) (by omega))
      | flag hv a b => exact two _ _ hw (six _ ((by decide +kernel : ∀ w ∈ (["set", "clear", "await"] : List Str), w ∈ (["line", "work", "edge", "level", "run", "bar", "later", "ring", "quiet", "mask", "unmask", "set", "clear", "await"] : List Str)) _ hv)) (num6 (by omega) (by omega))
      | line hv hz => exact two _ _ hw (six _ ((by decide +kernel : ∀ w ∈ (["ring", "mask", "unmask"] : List Str), w ∈ (["line", "work", "edge", "level", "run", "bar", "later", "ring", "quiet", "mask", "unmask", "set", "clear", "await"] : List Str)) _ hv)) (nmA6 _ (hk _ hz))
      | quiet hz => exact two _ _ hw (six ("quiet" : Str) (by decide +kernel)) (nmA6 _ (hk _ (List.mem_map_of_mem (f := (·.1)) hz)))
      | later hz => exact two _ _ hw (six ("later" : Str) (by decide +kernel)) (nmA6 _ (hwn _ hz))
  · obtain ⟨x, hx, rfl⟩ := List.mem_map.mp hr
    have g := d.wf x hx
    intro w hw
    unfold wkW at hw
    simp only [List.mem_cons, List.not_mem_nil, or_false] at hw
    rcases hw with rfl | rfl | rfl | rfl
    · exact six _ (by decide +kernel)
    · exact nmA6 _ (hwn _ (List.mem_map_of_mem hx))
    · exact num6 (by have := g.r1; omega) (by have := g.r9; omega)
    · have t := d.ok.wok x hx
      have t : (isName (.str x.nm) && (isIntD 1 9 (.int x.rk) && isIntD 1 99 (.int x.tk))) = true := t
      simp only [Bool.and_eq_true] at t
      have t3 : 1 ≤ x.tk ∧ x.tk ≤ 99 := of_decide_eq_true t.2.2
      exact num6 (by omega) (by omega)
theorem drawn_len {P : Pl} (d : Drawn P) : (planT P).length ≤ 4000 := by
  have e1 : (" " : Str).length = 1 := by decide +kernel
  have e2 : ("\n" : Str).length = 1 := by decide +kernel
  have row : ∀ w ∈ rowsT P, w.length ≤ 140 := fun w hw => by
    obtain ⟨r, hr, rfl⟩ := List.mem_map.mp hw
    have h1 := (word_len d.ok hr).1
    have := join_len (y := " ") (drawn_word d hr)
    rw [e1] at this
    have h3 : r.length * (6 + 1) ≤ 20 * (6 + 1) := Nat.mul_le_mul_right _ h1
    omega
  have := join_len (y := "\n") row
  rw [e2] at this
  have h3 : (rowsT P).length * (140 + 1) ≤ 20 * (140 + 1) := Nat.mul_le_mul_right _ (rows_len d.ok)
  show (Txt.join "\n" (rowsT P)).length ≤ _
  omega
theorem sh_not (k w : Int) : SeqAt.shaped (.tuple [.str "notation", .int k, .int w]) = true := (flatW_tup (n := 0) fun y hy => by
  simp only [List.mem_cons, List.not_mem_nil, or_false] at hy
  rcases hy with rfl | rfl | rfl
  · exact flatW_str (by decide +kernel)
  · exact flatW_int _
  · exact flatW_int _).shaped (by omega)
theorem first_one {rows : List (List Str)} {k w k' w' : Nat} (h : FirstW rows k w) (h' : FirstW rows k' w') : k' = k ∧ w' = w := by
  obtain ⟨_, a, b⟩ := h
  obtain ⟨_, a', b'⟩ := h'
  have e : k' = k := by
    rcases Nat.lt_trichotomy k k' with l | l | l
    · rw [b' _ l] at a; cases a
    · exact l.symm
    · rw [b _ l] at a'; cases a'
  subst e
  rw [a] at a'
  exact ⟨rfl, (Option.some.inj a').symm⟩
theorem first_no1 {rows : List (List Str)} {k w : Nat} (h : FirstW rows k w) (n : NoWr rows) : False := by
  have := n k h.1
  rw [h.2.1] at this
  cases this
theorem first_empty : FirstW (rowsOf "") 0 0 := ⟨by decide +kernel, by decide +kernel, fun j hj => by omega⟩
section
variable {P : Program} {w : World} {K : Fg} {mg : Str → Option Value} {base : Heap}
theorem ok_law (T : Txt K mg) (TBL : LamX.TabB base mg (codA K (ga K "law")) (tL K)) : FnOk P w K mg base (L2.CX P w) 32 (ga K "law") (fdOf K (ga K "law")) ["_law_script"] (spLaw K) := by
  have ok_Setup_parse := fun (T : Txt K mg) => ok_Setup_parse_x (P := P) (w := w) (base := base) T
  refine okC T.F_law sc_law (fun vs H Q E h => ?_) (fun A outer s H vs Q E hr h => ⟨_, PSs.nox (pss_cons (zset 1 sc_law.nd (pe_lst (pa_cons (pv 0) (pa_cons pe_int (pa_cons pe_int (pa_cons pe_int pa_nil))))))
      (pss_cons (ps_for PassesOwn.never rfl (pi_range1 rfl T.u_range (pa_cons pe_int pa_nil)) (zg 2 sc_law.nd)
      (pss_cons (ps_asg (z_call (ok_w_setup T) T.c_w_setup (hr.mono (by decide)) rfl T.g_w_setup passL (pa_cons (pv 1) (pa_cons pe_int pa_nil))) (kGT K (pg_tup (n := 2) rfl (pgs_cons (zg 3 sc_law.nd) (pgs_cons (zg 4 sc_law.nd) pgs_nil)))))
      (pss_cons (zset 5 sc_law.nd (z_call (ok_w_spoilt T) T.c_w_spoilt (hr.mono (by decide)) rfl T.g_w_spoilt passL (pa_cons (pv 1) (pa_cons (z_prop (z_make T.mk_Setup (ok_Setup_init T) T.c_Setup_init (hr.mono (by decide)) rfl T.g_Setup passL (pa_cons (pv 3) (pa_cons (pv 4) pa_nil))) T.cl_Setup T.p_Setup_text (ok_Setup_text T) T.c_Setup_text (hr.mono (by decide)) rfl) pa_nil))))
      (pss_cons (zset 6 sc_law.nd (z_call (ok_w_first_wrong T) T.c_w_first_wrong (hr.mono (by decide)) rfl T.g_w_first_wrong passL (pa_cons (pv 5) pa_nil)))
      (pss_cons (zset 7 sc_law.nd (z_lamR (k := 20) T.F_w_raised T.c_w_raised rfl T.g_w_raised sc_w_raised rfl (.inl (by decide +kernel)) (fun cdv => gives_w_raised T cdv) TBL rfl (hr.mono (by decide)) rfl (LamX.lamS_by (sc := defScope s_law) (by decide +kernel)) rfl (fun _ _ _ _ _ => rfl) (fun _ _ _ _ E _ _ hl => (z_cmeth (z_ref T.g_Setup) T.cm_Setup_parse (ok_Setup_parse_x T) T.c_Setup_parse (hl.mono (by decide)) (passes_call (takes_of rfl rfl rfl rfl) (fun _ _ _ _ h => h)) (pa_cons (pv 5) pa_nil)))))
      (pss_cons (ps_if (PW.pt (pw_or (PW.pt (pw_and (pt_cmpR op_notN (pv 6) pe_non (nomark _)) (pw_and1 (pt_cmpR (op_neDK K hr.units) (pv 7) (pv 6) (nomark _))))) (pw_or1 (PW.pt (pw_and (pt_cmpR op_isN (pv 6) pe_non (nomark _)) (pw_and (pt_cmpR op_notN (pv 7) pe_non (nomark _)) (pw_and1 (pt_cmpR (op_neDK K hr.units) (pe_ix (ix_tupK K) (pv 7) pe_int (fun _ _ => rfl)) pe_str (nomark _))))))))) (pss_one (ps_ret pe_bl)) pss_nil)
      (pss_one (ps_if (PW.pt (pw_and (pt_cmpR op_isN (pv 6) pe_non (nomark _)) (pw_and (pt_cmpR op_isN (pv 7) pe_non (nomark _)) (pw_and1 (pt_cmpR op_ne (z_prop (z_cmeth (z_ref T.g_Setup) T.cm_Setup_parse (ok_Setup_parse T) T.c_Setup_parse (hr.mono (by decide)) passL (pa_cons (pv 5) pa_nil)) T.cl_Setup T.p_Setup_text (ok_Setup_text T) T.c_Setup_text (hr.mono (by decide)) rfl) (pv 5) (nomark _)))))) (pss_one (ps_ret pe_bl)) pss_nil))))))))
      (pss_one (ps_ret (pe_cmpR (op_eqDK K hr.units) (z_lamR (k := 20) T.F_w_raised T.c_w_raised rfl T.g_w_raised sc_w_raised rfl (.inl (by decide +kernel)) (fun cdv => gives_w_raised T cdv) TBL rfl (hr.mono (by decide)) rfl (LamX.lamS_by (sc := defScope s_law) (by decide +kernel)) rfl (fun _ _ _ _ _ => rfl) (fun _ _ _ _ E _ _ hl => (z_cmeth (z_ref T.g_Setup) T.cm_Setup_parse (ok_Setup_parse_x T) T.c_Setup_parse (hl.mono (by decide)) (passes_call (takes_of rfl rfl rfl rfl) (fun _ _ _ _ h => h)) (pa_cons pe_str pa_nil)))) (pe_tup (pa_cons pe_str (pa_cons pe_int (pa_cons pe_int pa_nil)))) (nomark _)))))), ?_⟩)
  · obtain ⟨a, ns, rfl, _⟩ := h
    rfl
  obtain ⟨sc, ns, rfl, hsc, hl0, q⟩ := h
  show (_ : TS) _ (some (.ref sc) :: List.replicate 7 none) H
  try dsimp only [cxOf]
  dsimp only [List.replicate]
  walk_at "rz"
  rename_i r hr0 H1 s1 e1
  have row1 := row_new hsc hr0 s1 e1
  have tab1 : TabS H1 (tL K) qL := (TabS.nil hl0).ext fun b o e => s1 _ _ e
  clear e1
  walk_at "rz"
  refine ⟨by omega, by omega, for_range (lo := 0) (n := 8) (fun i σ Ha => (∃ y2 y3 y4 y5 y6 y7, σ = [some (.ref sc), some (.ref r), y2, y3, y4, y5, y6, y7]) ∧ RowAt K Ha r sc ns ∧ TabS Ha (tL K) qL)
    ⟨⟨_, _, _, _, _, _, rfl⟩, row1, tab1⟩ (fun i σ Ha _ ⟨⟨y2, y3, y4, y5, y6, y7, es⟩, row, tab⟩ => ?_) (fun σ Ha ⟨⟨y2, y3, y4, y5, y6, y7, es⟩, row, tab⟩ => ?_)⟩
  · subst es
    clear q
    walk_at "rz"
    refine ⟨r, sc, ns, 3, rfl, row, by omega, by omega, fun t a b P0 H2 f2 row2 dr hT da db => ?_⟩
    have tab2 : TabS H2 (tL K) qL := tabs_kW tab f2 fun x hx => by rw [List.mem_singleton.mp hx]; exact row.noW
    refine s_gtup hT rfl ?_
    walk_at "rz"
    walk_at "zm"
    rename_i p dx hp0 H3 s3 e3
    refine ⟨p, a, b, dx, P0, rfl, e3, da.same s3, db.same s3, dr.ok, fun H4 rd wd hrd hwd hne f4 pl4 => ⟨rfl, ?_⟩⟩
    have s24 : Same H2 H4 := ((s3.fr : Fr [] H2 H3).seq f4 fun y hy => .inr (by rw [List.mem_singleton.mp hy]; exact hp0)).same
    clear e3 f4 hrd hwd hne s3
    obtain ⟨pdx, _, _, hp4, _⟩ := pl4.ins
    walk_at "rz"
    refine ⟨⟨p, rd, wd⟩, P0, rfl, pl4, fun H5 s5 => ?_⟩
    have row5 := row2.same (s24.trans s5)
    have tab5 : TabS H5 (tL K) qL := tab2.ext fun b o e => (s24.trans s5) _ _ e
    walk_at "rz"
    refine ⟨r, sc, ns, planT P0, rfl, row5, drawn_len dr, fun ty H6 tyl f6 row6 => ?_⟩
    have tab6 : TabS H6 (tL K) qL := tabs_kW tab5 f6 fun x hx => by rw [List.mem_singleton.mp hx]; exact row5.noW
    clear hp4 pl4 da db hT s24 s5 f6 row5 tab5 tab2 row2 f2 tab row
    walk_at "rz"
    refine ⟨ty, rfl, by omega, fun k wd hf td H7 s7 e7 => ?_, fun hn H7 s7 => ?_⟩
    · have row7 := row6.same s7
      have tab7 : TabS H7 (tL K) qL := tab6.ext fun b o e => s7 _ _ e
      walk_at "rz"
      refine ⟨tab7, fun H8 f8 t8 => ?_⟩
      have t8 : TabS H8 (tL K) qL := t8
      have e8 : H8 td = some (.tup [.str "notation", .int (k : Nat), .int (wd : Nat)]) := f8.at e7 (fun z => by
        obtain ⟨ps, et, _⟩ := tab7
        rw [← List.mem_singleton.mp z, e7] at et
        cases et)
      have row8 := row7.tabW tab7 f8
      unfold TTrai
      walk_at "rz"
      refine ⟨rfl, ?_⟩
      walk_at "rz"
      refine ⟨ty, rfl, by omega, fun k' w' hf' dx Hx fx ex => ?_, fun hn => (first_no1 hf hn).elim⟩
      obtain ⟨rfl, rfl⟩ := first_one hf hf'
      have sx : Same H8 Hx := fx.same
      refine .inr ⟨rfl, dx, .int (k' : Nat), .int (w' : Nat), rfl, ex, fun tn Hm sm em => ?_⟩
      walk_at "rz"
      refine ⟨rfl, ?_⟩
      walk_at "rz"
      have sh := sh_not (k' : Nat) (w' : Nat)
      refine ⟨_, _, .tup (SqT.of em) (.cons (.str _) (.cons (.int _) (.cons (.int _) .nil))), .tup (SqT.of ((sx.trans sm) _ _ e8)) (.cons (.str _) (.cons (.int _) (.cons (.int _) .nil))), sh, sh, ?_⟩
      rw [shaped_eqvW sh]
      walk_at "rz"
      refine ⟨rfl, ?_⟩
      walk_at "rz"
      refine ⟨rfl, ?_⟩
      walk_at "rz"
      have s8m := sx.trans sm
      exact ⟨⟨_, _, _, _, _, _, rfl⟩, row8.same s8m, t8.ext fun b o e => s8m _ _ e⟩
    · have row7 := row6.same s7
      have tab7 : TabS H7 (tL K) qL := tab6.ext fun b o e => s7 _ _ e
      walk_at "rz"
      refine ⟨tab7, fun H8 f8 t8 => ?_⟩
      have t8 : TabS H8 (tL K) qL := t8
      have row8 := row7.tabW tab7 f8
      unfold TTrai
      walk_at "rz"
      refine ⟨rfl, ?_⟩
      walk_at "rz"
      refine ⟨ty, rfl, by omega, fun k' w' hf' => (first_no1 hf' hn).elim, fun _ => ⟨fun Pq hra hno p k dx Hx sx ex => ?_, fun Pq Hx D hra hok sx fresh pl => ?_⟩⟩
      · refine .inl ⟨rfl, dx, .str p, .int (k : Nat), rfl, ex, fun tn Hm sm em => ?_⟩
        walk_at "rz"
        refine ⟨rfl, ?_⟩
        walk_at "rz"
        refine ⟨rfl, ?_⟩
        walk_at "rz"
        have sh : SeqAt.shaped (.str ("setup" : Str)) = true := (flatW_str (z := "setup") (by decide +kernel)).shaped (by omega)
        refine ⟨rfl, ?_⟩
        walk_at "rz"
        refine ⟨_, _, .str _, .str _, sh, sh, ?_⟩
        rw [shaped_eqvW sh]
        walk_at "rz"
        refine ⟨rfl, ?_⟩
        walk_at "rz"
        refine ⟨rfl, ?_⟩
        walk_at "rz"
        have s8m := sx.trans sm
        exact ⟨⟨_, _, _, _, _, _, rfl⟩, row8.same s8m, t8.ext fun b o e => s8m _ _ e⟩
      · walk_at "rz"
        refine ⟨rfl, ?_⟩
        walk_at "rz"
        refine ⟨rfl, ?_⟩
        walk_at "rz"
        refine ⟨rfl, ?_⟩
        walk_at "rz"
        refine ⟨rfl, ?_⟩
        walk_at "rz"
        refine ⟨rfl, ?_⟩
        walk_at "rz"
        refine s_cmeth ?_
        walk_at "rz"
        refine ⟨rfl, ?_⟩
        walk_at "rz"
        refine ⟨ty, rfl, by omega, fun k' w' hf' => (first_no1 hf' hn).elim, fun _ => ⟨fun P2 hra2 hno => (hno (hra.one hra2 ▸ hok)).elim, fun P2 Hy D2 hra2 hok2 sy fr2 pl2 => ?_⟩⟩
        obtain ⟨pdx2, _, _, hp2, _⟩ := pl2.ins
        refine ⟨_, _, _, rfl, hp2, D2, P2, rfl, pl2, fun Hz sz => ?_⟩
        rw [hra2.text]
        walk_at "rz"
        refine ite_f (by rw [decide_eq_true rfl]; rfl) ?_
        walk_at "rz"
        have s8m := sx.trans (sy.trans sz)
        exact ⟨⟨_, _, _, _, _, _, rfl⟩, row8.same s8m, t8.ext fun b o e => s8m _ _ e⟩
  · subst es
    walk_at "rz"
    refine ⟨tab, fun H8 f8 t8 => ?_⟩
    unfold TTrai
    walk_at "rz"
    refine ⟨rfl, ?_⟩
    walk_at "rz"
    refine ⟨"", rfl, by decide, fun k' w' hf' dx Hx fx ex => ?_, fun hn => (first_no1 first_empty hn).elim⟩
    obtain ⟨rfl, rfl⟩ := first_one first_empty hf'
    have sx : Same H8 Hx := fx.same
    refine .inr ⟨rfl, dx, .int 0, .int 0, rfl, ex, fun tn Hm sm em => ?_⟩
    walk_at "rz"
    have sh := sh_not 0 0
    rename_i t9 ht9 H9 s9 e9
    refine ⟨_, _, .tup (SqT.of (s9 _ _ em)) (.cons (.str _) (.cons (.int _) (.cons (.int _) .nil))), .tup (SqT.of e9) (.cons (.str _) (.cons (.int _) (.cons (.int _) .nil))), sh, sh, ?_⟩
    rw [shaped_eqvW sh]
    exact q _
end
end T
set_option maxHeartbeats 0
namespace T
open PySem PySem.Spec PyProof.Rows L2 Z
open He (ga ma)
theorem facts {P : Program} {w : World} {K : Fg} {h : Heap} {mg : Str → Option Value} {f : Addr} (X : K.In h) (G : h.Ns mainGlobals mg) (hfa : mg ("law" : Str) = some (.ref f)) (c : SaysZ fa fn K) :
    ∃ fd : FuncData, (∀ (s : Shared) (v : Value), BindsTo s fd ⟨[v], []⟩ [("_law_script", v)]) ∧ ∀ base : Heap, LamX.TabB base mg (codA K (ga K "law")) (tL K) → FnOk P w K mg base (L2.CX P w) 32 f fd ["_law_script"] (spLaw K) := by
  have T := txt_of X G c
  have e := hfa.symm.trans T.g_law
  cases e
  have b := FunD.bindsA (ps := ["_law_script"]) T.F_law fun _ _ _ _ _ _ us hl => match us, hl with | [_], _ => rfl
  exact ⟨_, fun s v => b s [v] rfl, fun base TBL => ok_law T TBL⟩
end T
open PySem PySem.W PySem.Calls PyProof.Rows
theorem PySem.Challenge.cw_callbells_k04_texts_refused_holds : PySem.Challenge.rw_callbells_k04_texts_refused.Holds := by
  refine T.early fun w mg f h Y G hm => ?_
  obtain ⟨K, KX, c, ct⟩ := Y
  obtain ⟨fd, hb, hF⟩ := T.facts (P := (PySem.Challenge.rw_callbells_k04_texts_refused).prog) (w := w) KX G hm c
  have one : ∀ {R : PySem.Addr → Prop}, (∀ u ∈ [He.ga K "law"], R u) → R (He.ga K "law") := fun h => h _ (List.mem_cons_self ..)
  refine ⟨K, fd, T.spLaw K, [He.ga K "law"], KX, fun u hu => ?_, hb, fun H a ns hl ht hS => ⟨a, ns, rfl, hS, one ht, fun _ => rfl⟩, fun base _ _ hB => hF base (one hB)⟩
  rw [List.mem_singleton.mp hu]
  exact ct (fun K => He.ga K "law") (List.mem_cons_self ..)
