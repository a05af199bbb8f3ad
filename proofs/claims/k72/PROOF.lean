import PyProof.Rows.All
import Wide.All
import OpenK.AllK
import Wide.FinOn
import KE.KStateDown
import HandS.ForMost
import HandS.Walk
import HandS.Star
import HandS.DictComp
import HandS.Defaults
import HandS.Property
import HandS.ClsMeth
import HandS.IsInst
import HandS.Flow
import HandS.Deep
import HandS.NoneIn
import HandS.Sort
import HandS.SortRule
import HandS.TupAny
import HandS.Wide
import HandS.WordsExc
import HandS.Head2
import HandS.HeadEnd
import HandS.HeadHook2
import KE.GoesEnum
import KE.GoesMore
import KE.DataFind
import KE.SortData
import HandS.SetFor
import HandS.TryOnly
import KE.KTupSum
import HandS.More
import HandS.Dict
import HandS.Style
import HandS.SetTxt0
import HandS.Strs
import HandS.MakeKwOnly
import KE.DataMinMax
import KE.KCallOwn
import HandS.ListItems
import KE.KDictList
import HandS.Lambda
import HandS.HeadHook4
import OpenK.KOps
import HandS.ExcIs
import HandS.ExcField
import HandS.ExcInit
import HandS.ExcOwn
import KE.KExcIs
import HandS.FStr
import PyProof.FString2
import KE.KDflt
import HandS.FStrTup
import KE.KEqNest
import KE.GoesZip
import HandS.Zip
import HandS.TupMul
import HandS.EndTab
import HandS.Conv
import KE.OsSortAny
import PySem.Challenge.RW_callbells_k72_moves_refused
set_option Elab.async false
set_option linter.all false
set_option maxRecDepth 100000
set_option maxHeartbeats 1000000
namespace Z
open PySem PySem.Spec PyProof.Rows L2
abbrev Fg := PySem.W.Frag
def fd0 : FuncData := PySem.W.fnOf "" "" (defArgs (.Pass ⟨0, 0, 0, 0⟩)) [] (defScope (.Pass ⟨0, 0, 0, 0⟩)) .none .none .none .none none .none .none
def fdOf (K : Fg) (a : Addr) : FuncData := match K.lookup a with
  | some ⟨_, _, .func fd, _⟩ => fd
  | _ => fd0
theorem fdOf_eq {K : Fg} {x q : Str} {pa : Arguments} {bd : List Stmt} {sc : Scope} {dv : List V} {kw : List (Str × V)} {f : Addr} {fd : FuncData} (F : FunD K x q pa bd sc dv kw f fd) : fdOf K f = fd := by
  obtain ⟨⟨oc, od, dV, kV, doc, pm, an, cdv, ct, osl, e, lk, _⟩, _⟩ := F
  unfold fdOf
  rw [lk]
structure Cal (K : Fg) (f : Addr) (ps : List Str) (dvs : List V) : Prop where
  kp : PySem.W.keepIn K (.ref f) = true
  b : ∃ ds, Binds K (fdOf K f) ps ds ∧ Vals dvs ds
section
variable {X : Cx} {k : Nat} {f C p0 : Addr} {ps : List Str} {sp : Sp} {dvs : List V} {x m : Str} {p pos apos : Pos} {e o i : Expr} {es : List Expr} {ta tb : TE} {t : TA} {E : XK}
abbrev FnX (X : Cx) (k : Nat) (f : Addr) (ps : List Str) (sp : Sp) : Prop := FnOk X.prog X.w X.K X.mg X.base (L2.CX X.prog X.w) k f (fdOf X.K f) ps sp
theorem z_call (F : FnX X k f ps sp) (c : Cal X.K f ps dvs) (hr : Room k X.A) (hg : Gl X x) (hm : X.mg x = some (.ref f)) (hx : Passes (L2.CX X.prog X.w) X E) (ha : PA X (e :: es) t) (hdb : (x == ("__debug__" : Str)) = false := by decide)
    (he : starEach (e :: es) X.env = (false, eval e X.env) :: starEach es X.env := by rfl) (hpl : (backTo pos (starEach es X.env)).any (·.1) = false := by rfl) : PE X (.Call (.Name x p) (e :: es) [] pos) (tCall sp dvs E t) := by
  obtain ⟨ds, hb, hd⟩ := c.b
  exact pe_call F hr hg hm c.kp hb hd hx ha hdb he hpl
def tIxO (C : Addr) (sp : Sp) (E : XK) (ta tb : TE) : TE := fun σ H Q => ta σ H fun x H1 => tb σ H1 fun y H2 => ∃ a dx fs, x = .ref a ∧ H2 a = some (.ins C dx fs) ∧ sp [.ref a, y] H2 Q E
end
end Z
set_option maxHeartbeats 1000000
namespace L2
open PySem PySem.Spec PyProof.Rows Z
def Kp (A : List Addr) (H H' : Hp) : Prop := ∀ a o, H a = some o → a ∉ A → H' a = some o
theorem Same.kp {H H' : Hp} {A : List Addr} (s : Same H H') : Kp A H H' := fun a o h _ => s a o h
theorem Kp.refl {A : List Addr} {H : Hp} : Kp A H H := fun _ _ h _ => h
theorem Kp.nil {H H' : Hp} (k : Kp [] H H') : Same H H' := fun a o h => k a o h (by simp)
theorem Kp.mono {A B : List Addr} {H H' : Hp} (k : Kp A H H') (s : ∀ a ∈ A, a ∈ B) : Kp B H H' := fun a o h n => k a o h fun z => n (s a z)
theorem Kp.trans {A : List Addr} {H H1 H2 : Hp} (a : Kp A H H1) (b : Kp A H1 H2) : Kp A H H2 := fun c o h n => b c o (a c o h n) n
theorem Same.new {H : Hp} {p : Addr} {o : HO} (h : H p = none) : Same H (upd H p o) := fun a u e => by
  rw [upd_ne (ne_of_none e h)]
  exact e
theorem Same.sqT {K : Fg} {H H' : Hp} {a : Addr} {xs : List V} (e : Same H H') (h : SqT K H a xs) : SqT K H' a xs := by
  rcases h with (h | ⟨o, h⟩) | h
  · exact .inl (.inl (e _ _ h))
  · exact .inl (.inr ⟨o, e _ _ h⟩)
  · exact .inr h
def Tk (H H' : Hp) : Prop := ∀ a, ((∃ xs, H a = some (.tup xs)) ∨ ∃ o u, H a = some (.frz o u)) → H' a = H a
theorem Tk.refl (H : Hp) : Tk H H := fun _ _ => rfl
theorem Tk.trans {H H1 H2 : Hp} (a : Tk H H1) (b : Tk H1 H2) : Tk H H2 := fun c h => by
  have e := a c h
  have h1 : (∃ xs, H1 c = some (.tup xs)) ∨ ∃ o u, H1 c = some (.frz o u) := by
    rw [e]
    exact h
  rw [b c h1, e]
theorem Same.tk {H H' : Hp} (s : Same H H') : Tk H H' := fun a h => by
  rcases h with ⟨xs, h⟩ | ⟨o, u, h⟩ <;> rw [h, s a _ h]
theorem Tk.sqT {K : Fg} {H H' : Hp} {a : Addr} {xs : List V} (e : Tk H H') (h : SqT K H a xs) : SqT K H' a xs := by
  rcases h with (h | ⟨o, h⟩) | h
  · exact .inl (.inl (by rw [e a (.inl ⟨_, h⟩)]; exact h))
  · exact .inl (.inr ⟨o, by rw [e a (.inr ⟨_, _, h⟩)]; exact h⟩)
  · exact .inr h
mutual
theorem Dp.same {K : Fg} {H H' : Hp} (e : Same H H') : ∀ {v : V} {d : PyData}, Dp K H v d → Dp K H' v d
  | _, _, .non => .non
  | _, _, .bl b => .bl b
  | _, _, .int i => .int i
  | _, _, .str x => .str x
  | _, _, .lst s a => .lst (e.seq s) (DpAll.same e a)
  | _, _, .tup s a => .tup (e.sqT s) (DpAll.same e a)
theorem DpAll.same {K : Fg} {H H' : Hp} (e : Same H H') : ∀ {v : List V} {d : List PyData}, DpAll K H v d → DpAll K H' v d
  | _, _, .nil => .nil
  | _, _, .cons a b => .cons (Dp.same e a) (DpAll.same e b)
end
mutual
def tupd : PyData → Bool
  | .none => true
  | .bool _ => true
  | .int _ => true
  | .str _ => true
  | .list _ => false
  | .tuple xs => tupds xs
  | .dict _ => false
def tupds : List PyData → Bool
  | [] => true
  | d :: ds => tupd d && tupds ds
end
mutual
theorem Dp.tk {K : Fg} {H H' : Hp} (e : Tk H H') : ∀ {v : V} {d : PyData}, tupd d = true → Dp K H v d → Dp K H' v d
  | _, _, _, .non => .non
  | _, _, _, .bl b => .bl b
  | _, _, _, .int i => .int i
  | _, _, _, .str x => .str x
  | _, _, h, .lst s a => by unfold tupd at h; cases h
  | _, _, h, .tup s a => .tup (e.sqT s) (DpAll.tk e (by unfold tupd at h; exact h) a)
theorem DpAll.tk {K : Fg} {H H' : Hp} (e : Tk H H') : ∀ {v : List V} {d : List PyData}, tupds d = true → DpAll K H v d → DpAll K H' v d
  | _, _, _, .nil => .nil
  | _, _, h, .cons a b => by
    unfold tupds at h
    obtain ⟨h1, h2⟩ := Bool.and_eq_true_iff.mp h
    exact .cons (Dp.tk e h1 a) (DpAll.tk e h2 b)
end
theorem DpAll.len {K : Fg} {H : Hp} : ∀ {v : List V} {d : List PyData}, DpAll K H v d → v.length = d.length
  | _, _, .nil => rfl
  | _, _, .cons _ b => by rw [List.length_cons, List.length_cons, DpAll.len b]
theorem DpAll.get {K : Fg} {H : Hp} : ∀ {v : List V} {d : List PyData} {i : Nat} {x : PyData}, DpAll K H v d → d[i]? = some x → ∃ y, v[i]? = some y ∧ Dp K H y x
  | _, _, i, _, .nil, h => by simp at h
  | _, _, 0, _, .cons a _, h => by
    simp at h
    subst h
    exact ⟨_, rfl, a⟩
  | _, _, i + 1, _, .cons _ b, h => by
    obtain ⟨y, h1, h2⟩ := DpAll.get (i := i) b (by simpa using h)
    exact ⟨y, by simpa using h1, h2⟩
theorem DpAll.getv {K : Fg} {H : Hp} : ∀ {v : List V} {d : List PyData} {i : Nat} {y : V}, DpAll K H v d → v[i]? = some y → ∃ x, d[i]? = some x ∧ Dp K H y x
  | _, _, i, _, .nil, h => by simp at h
  | _, _, 0, _, .cons a _, h => by
    simp at h
    subst h
    exact ⟨_, rfl, a⟩
  | _, _, i + 1, _, .cons _ b, h => by
    obtain ⟨y, h1, h2⟩ := DpAll.getv (i := i) b (by simpa using h)
    exact ⟨y, by simpa using h1, h2⟩
theorem DpAll.app {K : Fg} {H : Hp} : ∀ {v u : List V} {d e : List PyData}, DpAll K H v d → DpAll K H u e → DpAll K H (v ++ u) (d ++ e)
  | _, _, _, _, .nil, s => s
  | _, _, _, _, .cons a b, s => .cons a (DpAll.app b s)
theorem DpAll.take {K : Fg} {H : Hp} : ∀ {v : List V} {d : List PyData} (n : Nat), DpAll K H v d → DpAll K H (v.take n) (d.take n)
  | _, _, 0, _ => .nil
  | _, _, _ + 1, .nil => .nil
  | _, _, n + 1, .cons a b => .cons a (DpAll.take n b)
theorem DpAll.drop {K : Fg} {H : Hp} : ∀ {v : List V} {d : List PyData} (n : Nat), DpAll K H v d → DpAll K H (v.drop n) (d.drop n)
  | _, _, 0, r => r
  | _, _, _ + 1, .nil => .nil
  | _, _, n + 1, .cons _ b => DpAll.drop n b
theorem Dp.tupI {K : Fg} {H : Hp} {v : V} {ds : List PyData} (h : Dp K H v (.tuple ds)) : ∃ a xs, v = .ref a ∧ SqT K H a xs ∧ DpAll K H xs ds := by
  cases h with
  | tup s a => exact ⟨_, _, rfl, s, a⟩
def tyD : PyData → String
  | .none => "NoneType"
  | .bool _ => "bool"
  | .int _ => "int"
  | .str _ => "str"
  | .list _ => "list"
  | .tuple _ => "tuple"
  | .dict _ => "dict"
theorem Dp.ty {K : Fg} {H : Hp} {v : V} {d : PyData} (h : Dp K H v d) : TyX K H v (.type (tyD d)) := by
  cases h with
  | non => exact .base .non
  | bl b => exact .base (.bl b)
  | int i => exact .base (.int i)
  | str x => exact .base (.str x)
  | lst s a =>
    rcases s with (s | ⟨o, s⟩) | ⟨o, its, n, e, c, _⟩
    · exact .base (.lst s)
    · exact .base (.frz s)
    · exact .kList e c
  | tup s a =>
    rcases s with (s | ⟨o, s⟩) | ⟨o, its, n, e, c, _⟩
    · exact .base (.tup s)
    · exact .fTuple s
    · exact .kTuple e c
def isiT (T t : String) : Bool := T == t || (T == "int" && t == "bool")
def isiB (T : String) (d : PyData) : Bool := isiT T (tyD d)
theorem isi_kit {K : Fg} {T : String} {d : PyData} (hT : T ∈ ["int", "bool", "str", "tuple", "list"]) : PySem.W.kitOne K (.type (tyD d)) (.type T) = some (isiB T d) := by
  have ht : tyD d ∈ ["NoneType", "bool", "int", "str", "list", "tuple", "dict"] := by cases d <;> simp [tyD]
  unfold isiB
  generalize tyD d = t at ht
  have all : ∀ T ∈ ["int", "bool", "str", "tuple", "list"], ∀ t ∈ ["NoneType", "bool", "int", "str", "list", "tuple", "dict"], kitB t T = some (isiT T t) := by decide +kernel
  exact kit_ty (all T hT t ht)
section
variable {X : Cx}
def rIsiD (K : Fg) : List V → Hp → VK → Prop := fun xs H Q => ∃ (x : V) (T : String) (d : PyData), xs = [x, .ty T] ∧ Dp K H x d ∧ T ∈ ["int", "bool", "str", "tuple", "list"] ∧ Q (.bl (isiB T d)) H
theorem call_isiD : CallR X (.builtin "isinstance") (rIsiD X.K) := by
  intro pins s σ H xs us Q I r h
  obtain ⟨x, T, d, e, hd, hT, q⟩ := h
  exact call_isi pins s σ H xs us Q I r ⟨x, .ty T, _, _, _, e, .ty T, hd.ty, isi_kit hT, q⟩
end
end L2
set_option maxHeartbeats 1000000
namespace Z
open PySem PySem.Spec PyProof.Rows L2
structure DefZ where
  at_ : Fg → Addr
  name : Str
  qual : Str
  st : Stmt
  dfl : List He.Dv := []
def DefZ.see (K : Fg) (a : Addr) : He.FnW := match K.lookup a with
  | some ⟨_, _, .func z, _⟩ => some (z.name, z.qualname, z.params, z.body, z.scope, z.globals, z.closure, z.builtins)
  | _ => none
def DefZ.due (d : DefZ) : He.FnW := some (d.name, d.qual, defArgs d.st, .stmts (defBody d.st), defScope d.st, mainGlobals, [], builtinsNs)
def DefZ.good (K : Fg) (d : DefZ) : Bool := PySem.W.keepIn K (.ref (d.at_ K)) && (match K.lookup (d.at_ K) with
  | some ⟨_, _, .func z, _⟩ => PySem.W.codeIn K z.code d.qual && He.dflB K z.defaults (d.dfl.map (He.Dv.v K))
  | _ => false)
abbrev FunZ (K : Fg) (d : DefZ) : Prop := FunD K d.name d.qual (defArgs d.st) (defBody d.st) (defScope d.st) (d.dfl.map (He.Dv.v K)) [] (d.at_ K) (fdOf K (d.at_ K))
theorem DefZ.fun {K : Fg} {d : DefZ} (e : DefZ.see K (d.at_ K) = d.due) (c : d.good K = true) : FunZ K d := by
  obtain ⟨kp, c2⟩ := He.ba c
  have go : ∃ fd, FunD K d.name d.qual (defArgs d.st) (defBody d.st) (defScope d.st) (d.dfl.map (He.Dv.v K)) [] (d.at_ K) fd := by
    unfold DefZ.see at e
    cases q : K.lookup (d.at_ K) with
    | none =>
      rw [q] at c2
      cases c2
    | some o =>
      obtain ⟨oc, od, dt, osl⟩ := o
      rw [q] at c2 e
      cases dt with
      | func fd =>
        obtain ⟨n1, n2, n3, n4, n5, n6, n7, n8, n9, n10, n11, n12, n13, n14, n15⟩ := fd
        have e2 : (some (n1, n2, n3, n4, n5, n6, n7, n15) : He.FnW) = some (d.name, d.qual, defArgs d.st, .stmts (defBody d.st), defScope d.st, mainGlobals, [], builtinsNs) := e
        simp only [Option.some.injEq, Prod.mk.injEq] at e2
        obtain ⟨h1, h2, h3, h4, h5, h6, h7, h8⟩ := e2
        subst h1 h2 h3 h4 h5 h6 h7 h8
        obtain ⟨k1, k3⟩ := He.ba (show (PySem.W.codeIn K n13 d.qual && He.dflB K n8 (d.dfl.map (He.Dv.v K))) = true from c2)
        exact ⟨_, ⟨oc, od, n8, n9, n10, n11, n12, n13, n14, osl, rfl, q, k1, He.dflB_ok k3, .inl rfl⟩, kp⟩
      | _ => cases c2
  obtain ⟨fd, F⟩ := go
  show FunD K d.name d.qual (defArgs d.st) (defBody d.st) (defScope d.st) (d.dfl.map (He.Dv.v K)) [] (d.at_ K) (fdOf K (d.at_ K))
  rw [fdOf_eq F]
  exact F
abbrev Seen : Type := Bool × List He.FnW
def lookZ (fa : List (Fg → Bool)) (fn : List DefZ) (K : Fg) : Seen := ((fa.all fun f => f K) && fn.all fun d => d.good K, fn.map fun d => DefZ.see K (d.at_ K))
def SaysZ (fa : List (Fg → Bool)) (fn : List DefZ) (K : Fg) : Prop := lookZ fa fn K = (true, fn.map DefZ.due)
theorem SaysZ.fact {fa : List (Fg → Bool)} {fn : List DefZ} {K : Fg} (c : SaysZ fa fn K) (i : Nat) {f : Fg → Bool} (h : fa[i]? = some f) : f K = true := by
  have c1 := (He.ba (show ((fa.all fun f => f K) && fn.all fun d => d.good K) = true from congrArg (fun z : Seen => z.1) c)).1
  exact List.all_eq_true.mp c1 f (List.mem_of_getElem? h)
theorem SaysZ.def_ {fa : List (Fg → Bool)} {fn : List DefZ} {K : Fg} (c : SaysZ fa fn K) (i : Nat) {d : DefZ} (h : fn[i]? = some d) : FunZ K d := by
  have c2 := (He.ba (show ((fa.all fun f => f K) && fn.all fun d => d.good K) = true from congrArg (fun z : Seen => z.1) c)).2
  have e : fn.map (fun d => DefZ.see K (d.at_ K)) = fn.map DefZ.due := congrArg (fun z : Seen => z.2) c
  have e2 : (fn.map fun d => DefZ.see K (d.at_ K))[i]? = (fn.map DefZ.due)[i]? := by rw [e]
  rw [List.getElem?_map, List.getElem?_map, h] at e2
  exact DefZ.fun (Option.some.inj e2) (List.all_eq_true.mp c2 d (List.mem_of_getElem? h))
open He (ga ma)
def fGlo (x : Str) (K : Fg) : Bool := He.Fa.ok K (.glo x)
def fFree (x : Str) (K : Fg) : Bool := He.Fa.ok K (.free x)
def fInt (x : Str) (i : Int) (K : Fg) : Bool := He.Fa.ok K (.int x i)
def fNo (x f : Str) (K : Fg) : Bool := He.Fa.ok K (.noat x f)
end Z
set_option maxHeartbeats 1000000
namespace Z
open PySem PySem.Spec PyProof.Rows L2
section
variable {X : Cx} {x : Str} {pos : Pos}
theorem z_int {n : Int} (h : ∃ t, X.mg x = some (.int n t)) (hg : Gl X x := by rfl) (hd : (x == ("__debug__" : Str)) = false := by decide) : PE X (.Name x pos) (tC (.int n)) := by
  obtain ⟨t, h⟩ := h
  exact pe_glob hg h ⟨t, rfl⟩ hd
theorem z_ref {a : Addr} (h : X.mg x = some (.ref a)) (hg : Gl X x := by rfl) (hd : (x == ("__debug__" : Str)) = false := by decide) : PE X (.Name x pos) (tC (.ref a)) := pe_glob hg h rfl hd
theorem z_ty {n : String} (hm : X.mg x = none) (hv : bootBuiltins x = some (.type n) := by decide +kernel) (hg : Gl X x := by rfl) (hn : x ≠ "__name__" := by decide) (hd : (x == ("__debug__" : Str)) = false := by decide) : PE X (.Name x pos) (tC (.ty n)) := pe_bltn hg hm hv rfl hn hd
theorem zg (i : Nat) (hN : X.N.Nodup) (hi : X.N[i]? = some x := by rfl) (hx : Loc X.env.scope x := by first | exact Or.inl rfl | exact Or.inr rfl) (hf : X.fn x = true ∨ X.env.scope.names.lookup x = some .local := by first | exact Or.inl rfl | exact Or.inr rfl) : PG X (.Name x pos) (gName i) := pg_name hN hi hx hf
theorem zset (i : Nat) {e : Expr} {te : TE} {pos' : Pos} (hN : X.N.Nodup) (he : PE X e te) (hi : X.N[i]? = some x := by rfl) (hx : Loc X.env.scope x := by first | exact Or.inl rfl | exact Or.inr rfl) (hs : swapsWith e (some (.Name x pos')) pos.line X.env = pure false := by rfl)
    (hf : X.fn x = true ∨ X.env.scope.names.lookup x = some .local := by first | exact Or.inl rfl | exact Or.inr rfl) : PS X (.Assign [.Name x pos'] e pos) (tAsg te (gName i)) := ps_set hN hi hx he hs hf
end
section
variable {σ : L2.St} {H : Hp} {Q : VK} {i : Nat} {v x y : V} {ta tb tc : TE} {r r' : R2} {D : Ends}
theorem s_var (h : σ[i]? = some (some v)) (q : Q v H) : tVar i σ H Q := ⟨v, h, q⟩
theorem s_c (q : Q v H) : tC v σ H Q := q
theorem s_op (q : ta σ H fun x H1 => tb σ H1 fun y H2 => r x y H2 Q) : tOp r ta tb σ H Q := q
theorem s_un {r : V → Hp → VK → Prop} (q : ta σ H fun x H1 => r x H1 Q) : tUn r ta σ H Q := q
theorem s_cb {r : List V → Hp → VK → Prop} {t : TA} (q : t σ H fun vs H1 => r vs H1 Q) : tCB r t σ H Q := q
theorem s_nil {Q : List V → Hp → Prop} (q : Q [] H) : tNil σ H Q := q
theorem s_cons {Q : List V → Hp → Prop} {tr : TA} (q : ta σ H fun x H1 => tr σ H1 fun xs H2 => Q (x :: xs) H2) : tCons ta tr σ H Q := q
theorem s_star {K : Fg} {Q : List V → Hp → Prop} {tr : TA} (q : ta σ H fun x H1 => ∃ p xs, x = V.ref p ∧ (SqT K H1 p xs ∨ SqL K H1 p xs) ∧ tr σ H1 fun ys H2 => Q (xs ++ ys) H2) : StX.tStar K ta tr σ H Q := q
theorem s_test {Q : Bool → Hp → Prop} (q : ta σ H fun x H' => ∃ k, x = .bl k ∧ Q k H') : tTest ta σ H Q := q
theorem s_B {Q : Bool → Hp → Prop} (q : ta σ H fun x H' => ∃ k, x = .bl k ∧ Q k H') : tB ta σ H Q := q
theorem s_bl {b : Bool} {R : Bool → Prop} (q : R b) : ∃ k, V.bl b = .bl k ∧ R k := ⟨b, rfl, q⟩
theorem s_and {t u : TT} {Q : Bool → Hp → Prop} (q : t σ H fun c H1 => if c = true then u σ H1 Q else Q false H1) : tAnd t u σ H Q := q
theorem s_or {t u : TT} {Q : Bool → Hp → Prop} (q : t σ H fun c H1 => if c = true then Q true H1 else u σ H1 Q) : tOr t u σ H Q := q
theorem s_not {t : TT} {Q : Bool → Hp → Prop} (q : t σ H fun c H1 => Q (!c) H1) : tNot t σ H Q := q
theorem s_andV (q : ta σ H fun x H1 => ∃ c, x = .bl c ∧ if c = true then tb σ H1 Q else Q (.bl false) H1) : tAndV ta tb σ H Q := q
theorem s_orV (q : ta σ H fun x H1 => ∃ c, x = .bl c ∧ if c = true then Q (.bl true) H1 else tb σ H1 Q) : tOrV ta tb σ H Q := q
theorem s_notV (q : ta σ H fun x H1 => ∃ c, x = .bl c ∧ Q (.bl (!c)) H1) : tNotV ta σ H Q := q
theorem s_if {t : TT} (q : t σ H fun c H1 => if c = true then ta σ H1 Q else tb σ H1 Q) : tIf t ta tb σ H Q := q
theorem s_chain (q : ta σ H fun x H1 => tb σ H1 fun y H2 => r x y H2 fun z H3 => ∃ k, z = .bl k ∧ (if k = true then tc σ H3 fun w' H4 => r' y w' H4 Q else Q (.bl false) H3)) : tChain r r' ta tb tc σ H Q := q
theorem s_tup {t : TA} (q : t σ H fun xs H1 => xs.length ≤ sizeLine ∧ ∀ p, H1 p = none → Q (.ref p) (upd H1 p (.tup xs))) : tTup t σ H Q := q
theorem s_lst {t : TA} (q : t σ H fun xs H1 => xs.length ≤ sizeLine ∧ ∀ p, H1 p = none → Q (.ref p) (upd H1 p (.lst xs))) : tLst t σ H Q := q
theorem s_call {sp : Sp} {dvs : List V} {E : XK} {t : TA} (q : t σ H fun vs H1 => sp (vs ++ dvs) H1 Q E) : tCall sp dvs E t σ H Q := q
variable {ea ec ed : L2.St → Hp → Prop} {eb : VK}
theorem s_seq {t u : TS} (q : t (.mk (u (.mk ea eb ec ed)) eb ec ed) σ H) : tSeq t u (.mk ea eb ec ed) σ H := q
theorem s_asg {g : TG} (q : ta σ H fun x H1 => g x σ H1 ea) : tAsg ta g (.mk ea eb ec ed) σ H := q
theorem s_gname {P : L2.St → Hp → Prop} (q : P (σ.set i (some v)) H) : gName i v σ H P := q
theorem s_ret (q : ta σ H eb) : tRet ta (.mk ea eb ec ed) σ H := q
theorem s_retN (q : eb .non H) : tRetN (.mk ea eb ec ed) σ H := q
theorem s_ifS {t : TT} {u w : TS} (q : t σ H fun b H1 => if b = true then u D σ H1 else w D σ H1) : tIfS t u w D σ H := q
theorem s_drop (q : ta σ H fun _ H1 => ea σ H1) : tDrop ta (.mk ea eb ec ed) σ H := q
theorem s_next (q : ea σ H) : tNext (.mk ea eb ec ed) σ H := q
theorem s_cont (q : ed σ H) : tCont (.mk ea eb ec ed) σ H := q
theorem s_break (q : ec σ H) : tBreak (.mk ea eb ec ed) σ H := q
theorem s_par {j : Nat} {t : TA} (q : t σ H fun vs H1 => ∃ v w, vs = [v, w] ∧ ea ((σ.set i (some v)).set j (some w)) H1) : tPar i j t (.mk ea eb ec ed) σ H := q
theorem s_par2 {R : V → V → Prop} {a b : V} (q : R a b) : ∃ v w, ([a, b] : List V) = [v, w] ∧ R v w := ⟨a, b, rfl, q⟩
theorem s_I0 {g : Int → Int → V} {a b : Int} (q : Q (g a b) H) : rI0 g (.int a) (.int b) H Q := ⟨a, b, rfl, rfl, q⟩
theorem s_I {C : Int → Int → Prop} {g : Int → Int → V} {a b : Int} (c : C a b) (q : Q (g a b) H) : rI C g (.int a) (.int b) H Q := ⟨a, b, rfl, rfl, c, q⟩
theorem s_U {g : Int → V} {a : Int} (q : Q (g a) H) : rU g (.int a) H Q := ⟨a, rfl, q⟩
theorem s_eq (h : scal x y = true) (q : Q (.bl (decide (x = y))) H) : rEq x y H Q := ⟨h, q⟩
theorem s_ne (h : scal x y = true) (q : Q (.bl (!decide (x = y))) H) : rNe x y H Q := ⟨h, q⟩
theorem s_isi {K : Fg} {T : String} {d : PyData} (h : Dp K H x d) (hT : T ∈ ["int", "bool", "str", "tuple", "list"]) (q : Q (.bl (isiB T d)) H) : rIsiD K [x, .ty T] H Q := ⟨x, T, d, rfl, h, hT, q⟩
theorem s_ixT {K : Fg} {p : Addr} {xs : List V} {a : Int} (h : SqT K H p xs) (e : atI xs a = some v) (q : Q v H) : rIxT K (.ref p) (.int a) H Q := ⟨p, xs, a, v, rfl, rfl, h, e, q⟩
theorem s_ixL {K : Fg} {p : Addr} {xs : List V} {a : Int} (h : SqL K H p xs) (e : atI xs a = some v) (q : Q v H) : rIxL K (.ref p) (.int a) H Q := ⟨p, xs, a, v, rfl, rfl, h, e, q⟩
theorem s_in {K : Fg} {neg : Bool} {p : Addr} {xs : List V} (h : SqL K H p xs ∨ SqT K H p xs) (fx : flatV x = true) (fs : xs.all flatV = true) (q : Q (.bl (if neg then !inV x xs else inV x xs)) H) : rIn K neg x (.ref p) H Q := ⟨p, xs, rfl, h, fx, fs, q⟩
end
theorem ite_t {b : Bool} {A B : Prop} (h : b = true) (q : A) : if b = true then A else B := by
  rw [if_pos h]
  exact q
theorem ite_f {b : Bool} {A B : Prop} (h : b = false) (q : B) : if b = true then A else B := by
  subst h
  exact q
theorem ite_b {b : Bool} {A B : Prop} (h : b = true → A) (q : b = false → B) : if b = true then A else B := by
  cases b
  · exact q rfl
  · exact h rfl
theorem tk_upd {H : Hp} {D : Addr} {xs : List V} {o : HO} (h : H D = some (.lst xs)) : Tk H (upd H D o) := fun a ha => by
  rw [upd_ne]
  rintro rfl
  rcases ha with ⟨ys, ha⟩ | ⟨o', u, ha⟩ <;> rw [h] at ha <;> cases ha
def keptD (keep : Nat → Bool) (d : Nat → PyData) (n : Nat) : List PyData := ((List.range n).filter keep).map d
theorem keptD_yes {keep : Nat → Bool} {d : Nat → PyData} {n : Nat} (h : keep n = true) : keptD keep d (n + 1) = keptD keep d n ++ [d n] := by
  unfold keptD
  rw [List.range_succ, List.filter_append, List.map_append]
  simp [h]
theorem keptD_no {keep : Nat → Bool} {d : Nat → PyData} {n : Nat} (h : keep n = false) : keptD keep d (n + 1) = keptD keep d n := by
  unfold keptD
  rw [List.range_succ, List.filter_append, List.map_append]
  simp [h]
theorem keptD_len {keep : Nat → Bool} {d : Nat → PyData} {n : Nat} : (keptD keep d n).length ≤ n := by
  unfold keptD
  rw [List.length_map]
  exact Nat.le_trans (List.length_filter_le _ _) (by rw [List.length_range]; exact Nat.le_refl _)
theorem keptD_tupds {keep : Nat → Bool} {d : Nat → PyData} (h : ∀ i, tupd (d i) = true) : ∀ n, tupds (keptD keep d n) = true
  | 0 => rfl
  | n + 1 => by
    have ap : ∀ (l : List PyData) (x : PyData), tupds l = true → tupd x = true → tupds (l ++ [x]) = true := by
      intro l
      induction l with
      | nil =>
        intro x _ hx
        show (tupd x && true) = true
        rw [hx]
        rfl
      | cons y l ih =>
        intro x hl hx
        obtain ⟨h1, h2⟩ := Bool.and_eq_true_iff.mp (show (tupd y && tupds l) = true from hl)
        show (tupd y && tupds (l ++ [x])) = true
        rw [h1, ih x h2 hx]
        rfl
    cases e : keep n with
    | true =>
      rw [keptD_yes e]
      exact ap _ _ (keptD_tupds h n) (h n)
    | false =>
      rw [keptD_no e]
      exact keptD_tupds h n
theorem lc_dat {K : Fg} {J : It} {n : Nat} {G : Hp → Prop} {Y : Nat → Hp → V → Hp → Prop} {g : TG} {tt : TT} {te : TE} {vs : List Nat} {σ : L2.St} {H1 : Hp} {D : Addr} {Qd : Hp → Prop} (w : Walk J n G Y) (keep : Nat → Bool) (d : Nat → PyData) (hD : H1 D = none) (hn : n ≤ 40000)
    (hdt : ∀ i, tupd (d i) = true) (hG : ∀ H, Same H1 H → G H) (hY : ∀ i H x H', Y i H x H' → Same H H')
    (hs : ∀ (i : Nat) (x : V) (H H' : Hp) (Yes : VK) (No : Hp → Prop), i < n → Same H1 H → Y i H x H' → (keep i = true → ∀ y H4, Same H' H4 → Dp K H4 y (d i) → Yes y H4) → (keep i = false → ∀ H3, Same H' H3 → No H3) →
      g x (wipe σ vs) H' fun σ2 H2 => wipe σ2 vs = wipe σ vs ∧ tt σ2 H2 fun b H3 => if b = true then te σ2 H3 Yes else No H3)
    (hd : ∀ H' ys, Same H1 H' → H' D = some (.lst ys) → DpAll K H' ys (keptD keep d n) → Qd H') :
    ∃ W : Nat → Nat → Hp → Prop, (∃ m, W 0 m (upd H1 D (.lst []))) ∧ ∀ i m H, W i m H →
      (J.stop i H ∧ Qd H) ∨ (J.go i H ∧ ∃ Nx : Hp → Prop, (∀ H', Nx H' → ∃ m', m' < m ∧ W (i + 1) m' H') ∧ ∀ x H', J.yld i H x H' → g x (wipe σ vs) H' fun σ2 H2 => wipe σ2 vs = wipe σ vs ∧ tt σ2 H2 fun b H3 =>
        if b = true then te σ2 H3 fun y H4 => ∃ acc, H4 D = some (.lst acc) ∧ acc.length < sizeLine ∧ Nx (upd H4 D (.lst (acc ++ [y]))) else Nx H3) := by
  refine lc_it w (fun i H => Same H1 H ∧ ∃ ys, H D = some (.lst ys) ∧ DpAll K H ys (keptD keep d i)) ⟨Same.new hD, [], upd_same, .nil⟩ (fun i H _ p => hG H p.1) (fun i x H H' hi p y => ?_) (fun H p => ?_)
  · obtain ⟨s1, ys, e1, a1⟩ := p
    have s2 := hY i H x H' y
    refine hs i x H H' _ _ hi s1 y (fun hk y4 H4 s4 d4 => ⟨ys, s4 _ _ (s2 _ _ e1), ?_, ?_, ?_⟩) fun hk H3 s3 => ⟨(s1.trans s2).trans s3, ys, s3 _ _ (s2 _ _ e1), ?_⟩
    · rw [a1.len]
      exact Nat.lt_of_le_of_lt keptD_len (Nat.lt_of_lt_of_le (Nat.lt_of_lt_of_le hi hn) (by decide))
    · exact fun a o h => by
        rw [upd_ne (ne_of_none h hD)]
        exact s4 _ _ (s2 _ _ (s1 _ _ h))
    · refine ⟨_, upd_same, ?_⟩
      have t := tk_upd (o := .lst (ys ++ [y4])) (s4 _ _ (s2 _ _ e1))
      rw [keptD_yes hk]
      exact ((a1.same (s2.trans s4)).tk t (keptD_tupds hdt i)).app (.cons (d4.tk t (hdt i)) .nil)
    · rw [keptD_no hk]
      exact a1.same (s2.trans s3)
  · obtain ⟨s1, ys, e1, a1⟩ := p
    exact hd H ys s1 e1 a1
theorem dp_bools {K : Fg} {H : Hp} : ∀ {ys : List V} {bs : List Bool}, DpAll K H ys (bs.map PyData.bool) → ys = bs.map V.bl
  | _, [], .nil => rfl
  | _, b :: bs, .cons a r => by
    cases a
    rw [dp_bools r]
    rfl
def pAt {α : Type} (l : List α) (p : α → Bool) (i : Nat) : Bool := (l[i]?.map p).getD false
def dAt {α : Type} (l : List α) (f : α → PyData) (i : Nat) : PyData := (l[i]?.map f).getD .none
theorem pAt_eq {α : Type} {l : List α} {p : α → Bool} {i : Nat} {x : α} (h : l[i]? = some x) : pAt l p i = p x := by
  unfold pAt
  rw [h]
  rfl
theorem dAt_eq {α : Type} {l : List α} {f : α → PyData} {i : Nat} {x : α} (h : l[i]? = some x) : dAt l f i = f x := by
  unfold dAt
  rw [h]
  rfl
theorem dAt_tupd {α : Type} {l : List α} {f : α → PyData} (h : ∀ x ∈ l, tupd (f x) = true) (i : Nat) : tupd (dAt l f i) = true := by
  unfold dAt
  cases e : l[i]? with
  | none => rfl
  | some x => exact h x (List.mem_of_getElem? e)
theorem keptD_list {α : Type} (l : List α) (p : α → Bool) (f : α → PyData) : keptD (pAt l p) (dAt l f) l.length = (l.filter p).map f := by
  have go : ∀ n, n ≤ l.length → keptD (pAt l p) (dAt l f) n = ((l.take n).filter p).map f := by
    intro n
    induction n with
    | zero => intro _; simp [keptD]
    | succ n ih =>
      intro hn
      have hx : l[n]? = some l[n] := List.getElem?_eq_getElem (by omega)
      have et : l.take (n + 1) = l.take n ++ [l[n]] := by rw [List.take_add_one, hx]; rfl
      cases e : pAt l p n with
      | true =>
        rw [keptD_yes e, ih (by omega), dAt_eq hx, et, List.filter_append, List.map_append]
        rw [pAt_eq hx] at e
        simp [e]
      | false =>
        rw [keptD_no e, ih (by omega), et, List.filter_append, List.map_append]
        rw [pAt_eq hx] at e
        simp [e]
  rw [go l.length (Nat.le_refl _), List.take_length]
theorem keptD_map {α : Type} (l : List α) (f : α → PyData) : keptD (fun _ => true) (dAt l f) l.length = l.map f := by
  have e := keptD_list l (fun _ => true) f
  have e2 : keptD (pAt l fun _ => true) (dAt l f) l.length = keptD (fun _ => true) (dAt l f) l.length := by
    unfold keptD
    congr 1
    apply List.filter_congr
    intro i hi
    have hi' : i < l.length := List.mem_range.mp hi
    rw [pAt_eq (List.getElem?_eq_getElem hi')]
  rw [← e2, e, List.filter_eq_self.mpr (fun _ _ => rfl)]
theorem map_bool {α : Type} (l : List α) (f : α → Bool) : (l.map fun c => PyData.bool (f c)) = (l.map f).map PyData.bool := by rw [List.map_map]; rfl
theorem s_yes {σ : L2.St} {H : Hp} {Q : Bool → Hp → Prop} (q : Q true H) : tYes σ H Q := q
theorem s_all {K : Fg} {H : Hp} {Q : VK} {a : Addr} {bs : List Bool} (h : SqL K H a (bs.map V.bl)) (q : Q (.bl (bs.all id)) H) : rAll K [.ref a] H Q := ⟨a, bs, rfl, h, q⟩
theorem s_lenT {K : Fg} {H : Hp} {p : Addr} {xs : List V} {R : Nat → Prop} (h : SqT K H p xs) (q : R xs.length) : ∃ x n, ([V.ref p] : List V) = [x] ∧ LenV K x H n ∧ R n := ⟨_, _, rfl, .inr ⟨xs, h, rfl⟩, q⟩
theorem s_lenL {K : Fg} {H : Hp} {p : Addr} {xs : List V} {R : Nat → Prop} (h : SqL K H p xs) (q : R xs.length) : ∃ x n, ([V.ref p] : List V) = [x] ∧ LenV K x H n ∧ R n := ⟨_, _, rfl, .inl ⟨xs, h, rfl⟩, q⟩
mutual
def short : PyData → Bool
  | .none => true
  | .bool _ => true
  | .int _ => true
  | .str z => decide (z.cps.size ≤ 40000)
  | .list xs => shorts xs
  | .tuple xs => shorts xs
  | .dict _ => true
def shorts : List PyData → Bool
  | [] => true
  | d :: ds => short d && shorts ds
end
theorem newS {H H2 : Hp} {p : Addr} {o : HO} (hp : H p = none) (e : upd H p o = H2) : Same H H2 := by
  subst e
  exact Same.new hp
theorem newE {H H2 : Hp} {p : Addr} {o : HO} (e : upd H p o = H2) : H2 p = some o := by
  subst e
  exact upd_same
section
variable {K : Fg} {σ : L2.St} {H : Hp} {P : L2.St → Hp → Prop} {a : Addr} {xs r : List V} {v y : V} {Q : VK} {kvs : List (Key × V)} {k : Key}
theorem s_gtup {n : Nat} {t : TGs} (h : SqT K H a xs) (hl : xs.length = n) (q : t xs σ H P) : gTup K n t (.ref a) σ H P := ⟨a, xs, rfl, h, hl, q⟩
theorem s_gcons {t : TG} {u : TGs} (q : t v σ H fun σ' H' => u r σ' H' P) : gCons t u (v :: r) σ H P := ⟨v, r, rfl, q⟩
theorem s_gnil (q : P σ H) : gNil [] σ H P := ⟨rfl, q⟩
theorem s_din {ty td : TE} (q : ty σ H fun y H1 => td σ H1 fun x H2 => ∃ a o, x = .ref a ∧ DGet H2 a y o ∧ Q (.bl o.isSome) H2) : tDIn ty td σ H Q := q
theorem s_dnin {ty td : TE} (q : ty σ H fun y H1 => td σ H1 fun x H2 => ∃ a o, x = .ref a ∧ DGet H2 a y o ∧ Q (.bl (!o.isSome)) H2) : tDNotIn ty td σ H Q := q
theorem s_dget {ty td : TE} (q : td σ H fun x H1 => ty σ H1 fun y H2 => ∃ a v, x = .ref a ∧ DGet H2 a y (some v) ∧ Q v H2) : tDGet td ty σ H Q := q
theorem s_dgS {z : Str} {R : V → Prop} (h : H a = some (.dK kvs)) (e : valV kvs (.inr z) = some v) (q : R v) : ∃ b u, V.ref a = .ref b ∧ DGet H b (.str z) (some u) ∧ R u := ⟨a, v, rfl, by rw [← e]; exact DGet.k (k := Sum.inr z) h, q⟩
end
section
variable {K : Fg} {σ : L2.St} {H : Hp} {Q : VK} {ta tv : TE} {t : TA} {r : V → List V → Hp → VK → Prop} {l : Addr} {xs : List V} {x y v : V} {f m : Str} {C dx : Addr} {fs : List (Str × V)} {ea ec ed : L2.St → Hp → Prop} {eb : VK}
theorem s_bm {T : String} (q : ta σ H fun x H1 => tyV K T x H1 ∧ t σ H1 fun xs H2 => r x xs H2 Q) : tBM K T r ta t σ H Q := q
theorem s_bm0 {T : String} (q : ta σ H fun x H1 => tyV K T x H1 ∧ r x [] H1 Q) : tBM0 K T r ta σ H Q := q
theorem s_tyL {R : Prop} (h : H l = some (.lst xs)) (q : R) : tyV K "list" (.ref l) H ∧ R := ⟨Or.inl ⟨rfl, xs, SqL.of h⟩, q⟩
theorem s_append (h : H l = some (.lst xs)) (hl : xs.length < sizeLine) (q : Q .non (upd H l (.lst (xs ++ [y])))) : rAppend (.ref l) [y] H Q := ⟨l, xs, y, rfl, rfl, h, hl, q⟩
theorem s_fldg (q : ta σ H fun x H1 => ∃ a C dx fs v, x = .ref a ∧ H1 a = some (.ins C dx fs) ∧ Cls K C ∧ NoAttr K C f ∧ fs.lookup f = some v ∧ Q v H1) : tFld K ta f σ H Q := q
theorem s_fldat {a : Addr} {R : V → Prop} (h : H a = some (.ins C dx fs)) (c : Cls K C) (n : NoAttr K C f) (e : fs.lookup f = some v) (q : R v) : ∃ b C dx fs v, V.ref a = .ref b ∧ H b = some (.ins C dx fs) ∧ Cls K C ∧ NoAttr K C f ∧ fs.lookup f = some v ∧ R v := ⟨a, C, dx, fs, v, rfl, h, c, n, e, q⟩
theorem s_meth {sp : Sp} {dvs : List V} {E : XK} (q : ta σ H fun x H1 => ∃ a dx fs, x = .ref a ∧ H1 a = some (.ins C dx fs) ∧ fs.lookup m = none ∧ t σ H1 fun vs H2 => sp (x :: (vs ++ dvs)) H2 Q E) : tMeth C m sp dvs E ta t σ H Q := q
theorem s_methat {a : Addr} {R : Prop} (h : H a = some (.ins C dx fs)) (e : fs.lookup m = none) (q : R) : ∃ b dx fs, V.ref a = .ref b ∧ H b = some (.ins C dx fs) ∧ fs.lookup m = none ∧ R := ⟨a, dx, fs, rfl, h, e, q⟩
theorem s_prop {sp : Sp} {E : XK} (q : ta σ H fun x H1 => ∃ a dx fs, x = .ref a ∧ H1 a = some (.ins C dx fs) ∧ sp [.ref a] H1 Q E) : tProp C sp [] E ta σ H Q := q
theorem s_propat {a : Addr} {R : Addr → Prop} (h : H a = some (.ins C dx fs)) (q : R a) : ∃ b dx fs, V.ref a = .ref b ∧ H b = some (.ins C dx fs) ∧ R b := ⟨a, dx, fs, rfl, h, q⟩
end
end Z
set_option maxHeartbeats 1000000
namespace Z
open PySem PySem.Spec PyProof.Rows L2
open AutoSeq1 (wpAny_loadPart')
end Z
set_option maxHeartbeats 1000000
namespace Z
open PySem PySem.Spec PyProof.Rows L2
section
variable {X : Cx}
def rEq0 (K : Fg) (neg : Bool) : R2 := fun x y H Q => ∃ a b xs, x = .ref a ∧ y = .ref b ∧ ((SqL K H a xs ∧ SqL K H b []) ∨ (SqT K H a xs ∧ SqT K H b [])) ∧ Q (.bl (if neg then !xs.isEmpty else xs.isEmpty)) H
theorem vals_nil {us : List Value} (r : Vals [] us) : us = [] := by cases r; rfl
theorem op_ne0 (hu : X.A.units + 64 < cLine) : OpR X (compareOp .NotEq) (rEq0 X.K true) := by
  intro pins s σ H x y v u Q I rx ry h
  obtain ⟨a, b, xs, rfl, rfl, hq, q⟩ := h
  obtain rfl : v = Value.ref a := rx
  obtain rfl : u = Value.ref b := ry
  rcases hq with ⟨ha, hb⟩ | ⟨ha, hb⟩
  · obtain ⟨its, r1, p1, _⟩ := I.list ha
    obtain ⟨its2, r2, p2, _⟩ := I.list hb
    cases vals_nil r2
    cases xs with
    | nil =>
      cases vals_nil r1
      exact SeqAt.RcNeAt.lists (e := fun _ => true) p1.isList p2.isList rfl (by omega) (fun j h1 _ => absurd h1 (Nat.not_lt_zero _)) _ _ _ _ ⟨.bl false, H, I, rfl, q⟩
    | cons z zs =>
      cases r1
      exact SeqAt.RcNeAt.lists_lengths p1.isList p2.isList (by simp) (by omega) _ _ _ _ ⟨.bl true, H, I, rfl, q⟩
  · obtain ⟨its, r1, p1, _⟩ := I.tuple ha
    obtain ⟨its2, r2, p2, _⟩ := I.tuple hb
    cases vals_nil r2
    cases xs with
    | nil =>
      cases vals_nil r1
      exact SeqAt.RcNeAt.tuples (e := fun _ => true) p1 p2 (by omega) (fun j h1 _ => absurd h1 (Nat.not_lt_zero _)) _ _ _ _ ⟨.bl false, H, I, rfl, q⟩
    | cons z zs =>
      cases r1
      refine SeqAt.RcNeAt.tuples (e := fun _ => true) p1 p2 (by omega) (fun j _ h1 => absurd h1 (Nat.not_lt_zero _)) _ _ _ _ ⟨.bl true, H, I, ?_, q⟩
      show Value.bool _ = Value.bool true
      simp
theorem get_listZ : PGet X (rIxL X.K) := by
  intro pins s σ H x y v u Q I rx ry h
  obtain ⟨p, xs, i, z, rfl, rfl, hq, he, q⟩ := h
  cases rx
  obtain ⟨t, rfl⟩ := ry
  obtain ⟨its, r, pl, hz⟩ := I.list hq
  obtain ⟨j, h1, h2, h3, h4, h5⟩ := atI_get he
  obtain ⟨w, ew, rw'⟩ := r.get h2
  have hl := r.length
  have hn := line63
  have fin : EP X pins σ Q w s := ⟨z, H, I, rw', q⟩
  by_cases h0 : 0 ≤ i
  · have hj : i.toNat = j := by
      rw [seqIndex_of h0 h5] at h1
      exact Option.some.inj h1
    exact wpAny_getItem_list pl.isList h0 (by omega) (by rw [hj]; simpa using ew) fin
  · have hj : (i + (its.toArray.size : Int)).toNat = j := by
      rw [seqIndex_neg (by omega) h4] at h1
      rw [List.size_toArray, ← hl]
      exact Option.some.inj h1
    exact wpAny_getItem_list_neg pl.isList (by omega) (by rw [List.size_toArray] <;> omega) (by omega) (by rw [hj]; simpa using ew) fin
end
end Z
set_option maxHeartbeats 1000000
namespace Z
open PySem PySem.Spec PyProof.Rows L2
section
variable {X : Cx} (K : Fg) {e : Expr} {es : List Expr} {ta : TE} {t : TA} {tg : TGs} {f : Str} {T : String} {r : V → List V → Hp → VK → Prop} {n : Nat} {x y : Expr}
theorem ix_tupK (hK : X.K = K := by rfl) : IxR X (rIxT K) := by subst hK; exact ix_tup
theorem ix_listK (hK : X.K = K := by rfl) : IxR X (rIxL K) := by subst hK; exact ix_list
theorem op_in_seqK (hK : X.K = K := by rfl) : OpR X (compareOp .In) (rIn K false) := by subst hK; exact op_in_seq
theorem call_isiDK (hK : X.K = K := by rfl) : CallR X (.builtin "isinstance") (rIsiD K) := by subst hK; exact call_isiD
theorem call_lenK (hK : X.K = K := by rfl) : CallR X (.builtin "len") (fun xs H Q => ∃ x n, xs = [x] ∧ LenV K x H n ∧ Q (.int n) H) := by subst hK; exact call_len
theorem cr_allK (hc : X.calm = true) (hK : X.K = K := by rfl) : CallR X (.builtin "all") (rAll K) := by subst hK; exact cr_all hc
theorem call_tuple_ofK (hK : X.K = K := by rfl) : CallR X (.type "tuple") (fun xs H Q => ∃ p ys, xs = [.ref p] ∧ ((SqL K H p ys ∧ ∀ l, H l = none → Q (.ref l) (upd H l (.tup ys))) ∨ (SqT K H p ys ∧ Q (.ref p) H))) := by subst hK; exact call_tuple_of
theorem op_ne0K (hu : X.A.units + 64 < cLine) (hK : X.K = K := by rfl) : OpR X (compareOp .NotEq) (rEq0 K true) := by subst hK; exact op_ne0 hu
theorem op_eqDK (hu : X.A.units + 64 < cLine) (hK : X.K = K := by rfl) : OpR X (compareOp .Eq) (rEqD K) := by subst hK; exact op_eqD hu
theorem op_neDK (hu : X.A.units + 64 < cLine) (hK : X.K = K := by rfl) : OpR X (compareOp .NotEq) (rNeD K) := by subst hK; exact op_neD hu
theorem get_listK (hK : X.K = K := by rfl) : PGet X (rIxL K) := by subst hK; exact get_listZ
theorem sl_listK (hK : X.K = K := by rfl) : SlR X (rSlL K) := by subst hK; exact sl_list
theorem sl_tupAK (hK : X.K = K := by rfl) : SlR X (rSlA K) := by subst hK; exact sl_tupA
theorem op_catAK (hK : X.K = K := by rfl) : OpR X (binaryOp .Add) (rCatA K) := by subst hK; exact op_catA
theorem kBM (h : PE X e (tBM X.K T r ta t)) (hK : X.K = K := by rfl) : PE X e (tBM K T r ta t) := by subst hK; exact h
theorem kGT (h : PG X e (gTup X.K n tg)) (hK : X.K = K := by rfl) : PG X e (gTup K n tg) := by subst hK; exact h
theorem kIT (h : PI X x y (iTup X.K ta)) (hK : X.K = K := by rfl) : PI X x y (iTup K ta) := by subst hK; exact h
theorem kIL (h : PI X x y (iList X.K ta)) (hK : X.K = K := by rfl) : PI X x y (iList K ta) := by subst hK; exact h
theorem kIE (h : PI X x y (iEnum X.K t)) (hK : X.K = K := by rfl) : PI X x y (iEnum K t) := by subst hK; exact h
end
theorem _root_.L2.Room.units5 {k : Nat} {A : Around} (r : Room k A) : A.units + 65 < cLine := by have := r.un; omega
end Z
set_option maxHeartbeats 1000000
namespace Z
open PySem PySem.Spec PyProof.Rows L2
end Z
set_option maxHeartbeats 1000000
namespace Z
open PySem PySem.Spec PyProof.Rows L2
end Z
set_option maxHeartbeats 1000000
namespace Z
open PySem PySem.Spec PyProof.Rows L2
end Z
namespace Z
open PySem PySem.Spec PyProof.Rows L2
section
variable {X : Cx} (K : Fg)
theorem cr_maxK (hc : X.calm = true) (hK : X.K = K := by rfl) : CallR X (.builtin "max") (rMax K) := by subst hK; exact cr_max hc
end
section
variable {K : Fg} {H : Hp} {a : Addr} {Q : VK} {ns : List Int}
theorem s_max (h : SqL K H a (ns.map V.int)) (hn : ns ≠ []) (q : ∀ m, m ∈ ns → (∀ y, y ∈ ns → y ≤ m) → Q (.int m) H) : rMax K [.ref a] H Q := ⟨a, ns, rfl, h, List.length_pos_iff.mpr hn, q⟩
end
end Z
set_option maxHeartbeats 1000000
namespace Z
open PySem PySem.Spec PyProof.Rows L2
end Z
set_option maxHeartbeats 1000000
namespace Z
open PySem PySem.Spec PyProof.Rows L2
end Z
set_option maxHeartbeats 1000000
namespace Z
open PySem PySem.Spec PyProof.Rows L2
end Z
set_option maxHeartbeats 1000000
namespace Z
open PySem PySem.Spec PyProof.Rows L2
end Z
set_option maxHeartbeats 1000000
namespace Z
open PySem PySem.Spec PyProof.Rows L2
end Z
set_option maxHeartbeats 1000000
namespace Z
open PySem PySem.Spec PyProof.Rows L2
end Z
set_option maxHeartbeats 1000000
namespace Z
open PySem PySem.Spec PyProof.Rows L2
end Z
set_option maxHeartbeats 1000000
namespace Z
open PySem PySem.Spec PyProof.Rows L2
open He (ga ma)
end Z
set_option maxHeartbeats 1000000
namespace Z
open PySem PySem.Spec PyProof.Rows L2
open He (ga ma)
end Z
set_option maxHeartbeats 1000000
namespace Z
open PySem PySem.Spec PyProof.Rows L2
open PySem.W (minD AlikeAll min_list_data)
open He (ga ma)
def ltII (p q : Int × Int) : Bool := decide (p.1 < q.1 ∨ (p.1 = q.1 ∧ p.2 < q.2))
def minII (x : Int × Int) (r : List (Int × Int)) : Int × Int := r.foldl (fun b y => if ltII y b = true then y else b) x
section
variable {X : Cx}
theorem reads_of {pins : List (Addr × Obj)} {σ : L2.St} {H : Hp} {s : Shared} (I : Inv X pins σ H s) : ∀ {xs : List V} {us : List Value} {ds : List PyData}, Vals xs us → DpAll X.K H xs ds → ∃ as, ReadsAll s.heap us ds as
  | _, _, _, .nil, .nil => ⟨[], .nil⟩
  | _, _, _, .cons r t, .cons d e => by
    obtain ⟨as, h1⟩ := Dp.reads I _ _ _ d r
    obtain ⟨bs, h2⟩ := reads_of I t e
    exact ⟨_, .cons h1 h2⟩
def tCallI (C : Addr) (sp : Sp) (dvs : List V) (E : XK) (tf : TE) (t : TA) : TE := fun σ H Q => tf σ H fun y H1 => ∃ a, y = V.ref a ∧ t σ H1 fun vs H2 => (∃ dx fs, H2 a = some (.ins C dx fs)) ∧ sp ((V.ref a :: vs) ++ dvs) H2 Q E
variable {k : Nat} {f C : Addr} {ps : List Str} {sp : Sp} {dvs : List V} {pos : Pos} {e fe : Expr} {es : List Expr} {tf : TE} {t : TA} {E : XK}
end
theorem s_callI {σ : L2.St} {H : Hp} {Q : VK} {C : Addr} {sp : Sp} {dvs : List V} {E : XK} {tf : TE} {t : TA} (q : tf σ H fun y H1 => ∃ a, y = V.ref a ∧ t σ H1 fun vs H2 => (∃ dx fs, H2 a = some (.ins C dx fs)) ∧ sp ((V.ref a :: vs) ++ dvs) H2 Q E) : tCallI C sp dvs E tf t σ H Q := q
end Z
set_option maxHeartbeats 1000000
namespace Z
open PySem PySem.Spec PyProof.Rows L2
end Z
set_option maxHeartbeats 2000000
namespace Z
open PySem PySem.Spec PyProof.Rows L2
end Z
set_option maxHeartbeats 2000000
namespace Z
open PySem PySem.Spec PyProof.Rows L2
end Z
set_option maxHeartbeats 1000000
namespace Z
open PySem PySem.Spec PyProof.Rows L2
def isIntD (lo hi : Int) : PyData → Bool
  | .int i => decide (lo ≤ i ∧ i ≤ hi)
  | _ => false
def letters : List Nat := ("abcdefghijklmnopqrstuvwxyz" : Str).cps.toList
def isWord : PyData → Bool
  | .str z => !decide (V.str z = V.str "") && z.cps.toList.all fun c => decide (c ∈ letters)
  | _ => false
def isName (d : PyData) : Bool := isWord d && match d with
  | .str z => decide ((z.length : Int) ≤ 8)
  | _ => false
def isKind : PyData → Bool
  | .str z => inV (.str z) [.str "edge", .str "level"]
  | _ => false
def isSteps (n : Nat) : PyData → Bool
  | .tuple xs => decide ((1 : Int) ≤ xs.length) && decide ((xs.length : Int) ≤ n)
  | _ => false
def isLine : PyData → Bool
  | .tuple [a, b, c, e] => isName a && (isKind b && (isIntD 1 9 c && isSteps 8 e))
  | _ => false
def isWork : PyData → Bool
  | .tuple [a, b, c] => isName a && (isIntD 1 9 b && isIntD 1 99 c)
  | _ => false
abbrev lineWords : List V := [.str "ring", .str "quiet", .str "mask", .str "unmask"]
abbrev flagWords : List V := [.str "set", .str "clear", .str "await"]
def isStepX (kvs : List (Key × V)) (ws : List V) (w : Str) (x : PyData) : Bool :=
  if inV (.str w) lineWords = true then (match x with
    | .str y => (valV kvs (.inr y)).isSome && (!decide (V.str w = V.str "quiet") || decide (valV kvs (.inr y) = some (.str "level")))
    | _ => false)
  else if decide (V.str w = V.str "later") = true then (match x with
    | .str y => inV (.str y) ws
    | _ => false)
  else if inV (.str w) flagWords = true then isIntD 0 7 x
  else (decide (V.str w = V.str "run") && isIntD 1 99 x) || (decide (V.str w = V.str "bar") && isIntD 0 9 x)
def isStep (kvs : List (Key × V)) (ws : List V) : PyData → Bool
  | .tuple [.str w, x] => isStepX kvs ws w x
  | _ => false
theorem inV_strs {x : Str} : ∀ {l : List Str}, inV (.str x) (l.map V.str) = decide (x ∈ l)
  | [] => rfl
  | y :: l => by
    show ((y == x) || inV (.str x) (l.map V.str)) = _
    rw [inV_strs (l := l)]
    by_cases h : x = y
    · subst h
      simp
    · have : (y == x) = false := beq_eq_false_iff_ne.mpr fun z => h z.symm
      simp [this, h]
end Z
set_option maxHeartbeats 1000000
namespace Z
open PySem PySem.Spec PyProof.Rows L2
open He (ga ma)
def tupO : HO → Bool
  | .tup _ => true
  | .frz _ _ => true
  | _ => false
def Fr (A : List Addr) (H H' : Hp) : Prop := (∀ a o, H a = some o → (a ∉ A ∨ tupO o = true) → H' a = some o) ∧ ∀ a, H' a = none → H a = none
section
variable {A B : List Addr} {H H1 H2 : Hp} {a : Addr} {o o' : HO}
theorem Fr.refl : Fr A H H := ⟨fun _ _ h _ => h, fun _ h => h⟩
theorem Fr.trans (x : Fr A H H1) (y : Fr A H1 H2) : Fr A H H2 := ⟨fun a o h n => y.1 a o (x.1 a o h n) n, fun a h => x.2 a (y.2 a h)⟩
theorem Fr.mono (x : Fr A H H1) (s : ∀ a ∈ A, a ∈ B) : Fr B H H1 := ⟨fun a o h n => x.1 a o h (n.imp (fun z z' => z (s a z')) id), x.2⟩
theorem Fr.same (x : Fr [] H H1) : Same H H1 := fun a o h => x.1 a o h (.inl (by simp))
theorem _root_.L2.Same.fr (s : Same H H1) : Fr A H H1 := ⟨fun a o h _ => s a o h, fun a h => by
  cases e : H a with
  | none => rfl
  | some o => rw [s a o e] at h; cases h⟩
theorem Fr.tk (x : Fr A H H1) : Tk H H1 := fun a h => by
  rcases h with ⟨xs, h⟩ | ⟨o, u, h⟩
  · rw [h, x.1 a _ h (.inr rfl)]
  · rw [h, x.1 a _ h (.inr rfl)]
theorem Fr.new (h : H a = none) : Fr A H (upd H a o) := (Same.new h).fr
theorem Fr.upd (hm : a ∈ A) (h : H a = some o) (ht : tupO o = false) : Fr A H (upd H a o') := by
  refine ⟨fun c u e n => ?_, fun c e => ?_⟩
  · by_cases z : c = a
    · subst z
      rw [h] at e
      cases e
      rcases n with n | n
      · exact absurd hm n
      · rw [ht] at n
        cases n
    · rw [upd_ne z]
      exact e
  · by_cases z : c = a
    · subst z
      rw [upd_same] at e
      cases e
    · rw [upd_ne z] at e
      exact e
theorem Fr.at (x : Fr A H H1) (h : H a = some o) (n : a ∉ A) : H1 a = some o := x.1 a o h (.inl n)
theorem Fr.back (x : Fr A H H1) (h : H1 a = none) : H a = none := x.2 a h
end
def kD : Key → PyData
  | .inl i => .int i
  | .inr z => .str z
structure Ln where
  nm : Str
  kd : Str
  rk : Int
  st : List (Str × Key)
structure Wk where
  nm : Str
  rk : Int
  tk : Int
structure Pl where
  ls : List Ln
  ws : List Wk
def dSt (s : Str × Key) : PyData := .tuple [.str s.1, kD s.2]
def dLn (l : Ln) : PyData := .tuple [.str l.nm, .str l.kd, .int l.rk, .tuple (l.st.map dSt)]
def dWk (w : Wk) : PyData := .tuple [.str w.nm, .int w.rk, .int w.tk]
def Pl.kinds (P : Pl) : List (Key × V) := P.ls.map fun l => (.inr l.nm, .str l.kd)
def Pl.names (P : Pl) : List Str := P.ls.map (·.nm)
def Pl.wnames (P : Pl) : List Str := P.ws.map (·.nm)
structure Pl.Ok (P : Pl) : Prop where
  ne : P.ls ≠ []
  l12 : P.ls.length ≤ 12
  w8 : P.ws.length ≤ 8
  lok : ∀ l ∈ P.ls, isLine (dLn l) = true
  wok : ∀ w ∈ P.ws, isWork (dWk w) = true
  lnd : P.names.Nodup
  wnd : P.wnames.Nodup
  sok : ∀ l ∈ P.ls, ∀ s ∈ l.st, isStep P.kinds (P.wnames.map V.str) (dSt s) = true
  shl : ∀ l ∈ P.ls, short (dLn l) = true
  shw : ∀ w ∈ P.ws, short (dWk w) = true ∧ (PyData.str w.nm).canLay0 = true
theorem tupd_kD (k : Key) : tupd (kD k) = true := by cases k <;> rfl
theorem tupds_map {α : Type} {f : α → PyData} (h : ∀ x, tupd (f x) = true) : ∀ l : List α, tupds (l.map f) = true
  | [] => rfl
  | x :: l => by
    show (tupd (f x) && tupds (l.map f)) = true
    rw [h x, tupds_map h l]
    rfl
theorem tupd_dSt (s : Str × Key) : tupd (dSt s) = true := by
  show (true && (tupd (kD s.2) && true)) = true
  rw [tupd_kD]
  rfl
theorem tupd_dLn (l : Ln) : tupd (dLn l) = true := by
  show (true && (true && (true && (tupds (l.st.map dSt) && true)))) = true
  rw [tupds_map tupd_dSt]
  rfl
theorem tupd_dWk (w : Wk) : tupd (dWk w) = true := rfl
def Pl.ln (P : Pl) (z : Str) : Ln := (P.ls.find? fun l => l.nm == z).getD ⟨z, "", 0, []⟩
def Pl.wk (P : Pl) (z : Str) : Wk := (P.ws.find? fun w => w.nm == z).getD ⟨z, 0, 0⟩
theorem find_nd {α : Type} {f : α → Str} : ∀ {l : List α} {x : α}, (l.map f).Nodup → x ∈ l → (l.find? fun y => f y == f x) = some x
  | y :: l, x, hn, hm => by
    rw [List.map_cons, List.nodup_cons] at hn
    rcases List.mem_cons.mp hm with rfl | hm
    · simp
    · have : (f y == f x) = false := beq_eq_false_iff_ne.mpr fun e => hn.1 (by rw [e]; exact List.mem_map_of_mem hm)
      rw [List.find?_cons, this]
      exact find_nd hn.2 hm
theorem Pl.Ok.ln_eq {P : Pl} (h : P.Ok) {l : Ln} (hl : l ∈ P.ls) : P.ln l.nm = l := by
  unfold Pl.ln
  rw [find_nd (f := Ln.nm) h.lnd hl]
  rfl
theorem Pl.Ok.wk_eq {P : Pl} (h : P.Ok) {w : Wk} (hl : w ∈ P.ws) : P.wk w.nm = w := by
  unfold Pl.wk
  rw [find_nd (f := Wk.nm) h.wnd hl]
  rfl
theorem Pl.Ok.ln_mem {P : Pl} (h : P.Ok) {z : Str} (hz : z ∈ P.names) : P.ln z ∈ P.ls ∧ (P.ln z).nm = z := by
  obtain ⟨l, hl, rfl⟩ := List.mem_map.mp hz
  rw [h.ln_eq hl]
  exact ⟨hl, rfl⟩
theorem Pl.Ok.wk_mem {P : Pl} (h : P.Ok) {z : Str} (hz : z ∈ P.wnames) : P.wk z ∈ P.ws ∧ (P.wk z).nm = z := by
  obtain ⟨l, hl, rfl⟩ := List.mem_map.mp hz
  rw [h.wk_eq hl]
  exact ⟨hl, rfl⟩
structure DictOf {α : Type} (K : Fg) (H : Hp) (rd : Addr) (nm : α → Str) (d : α → PyData) (l : List α) : Prop where
  at_ : ∃ kvs, H rd = some (.dK kvs) ∧ (∀ z, (valV kvs (.inr z)).isSome = decide (z ∈ l.map nm)) ∧ ∀ x ∈ l, ∃ v, valV kvs (.inr (nm x)) = some v ∧ Dp K H v (d x)
theorem DictOf.keep {α : Type} {K : Fg} {H H' : Hp} {rd : Addr} {nm : α → Str} {d : α → PyData} {l : List α} (h : DictOf K H rd nm d l) (e : H' rd = H rd) (t : Tk H H') (hd : ∀ x, tupd (d x) = true) : DictOf K H' rd nm d l := by
  obtain ⟨kvs, h1, h2, h3⟩ := h.at_
  refine ⟨kvs, by rw [e]; exact h1, h2, fun x hx => ?_⟩
  obtain ⟨v, h4, h5⟩ := h3 x hx
  exact ⟨v, h4, h5.tk t (hd x)⟩
def planF (a b rd wd : Addr) : List (Str × V) := [("line_rows", .ref a), ("work_rows", .ref b), ("rows_by_name", .ref rd), ("works_by_name", .ref wd)]
structure PA where
  p : Addr
  rd : Addr
  wd : Addr
def PA.own (D : PA) : List Addr := [D.p, D.rd, D.wd]
structure PlanAt (K : Fg) (H : Hp) (D : PA) (P : Pl) : Prop where
  ok : P.Ok
  ins : ∃ dx a b, H D.p = some (.ins (ga K "Setup") dx (planF a b D.rd D.wd)) ∧ Dp K H (.ref a) (.tuple (P.ls.map dLn)) ∧ Dp K H (.ref b) (.tuple (P.ws.map dWk))
  rows : DictOf K H D.rd (·.nm) dLn P.ls
  works : DictOf K H D.wd (·.nm) dWk P.ws
theorem PlanAt.keep {K : Fg} {H H' : Hp} {D : PA} {P : Pl} (h : PlanAt K H D P) {A : List Addr} (f : Fr A H H') (n : ∀ a ∈ D.own, a ∉ A) : PlanAt K H' D P := by
  obtain ⟨dx, a, b, h1, h2, h3⟩ := h.ins
  have e1 := f.at h1 (n _ (by simp [PA.own]))
  have e2 : H' D.rd = H D.rd := by
    obtain ⟨kvs, h1, _⟩ := h.rows.at_
    rw [h1, f.at h1 (n _ (by simp [PA.own]))]
  have e3 : H' D.wd = H D.wd := by
    obtain ⟨kvs, h1, _⟩ := h.works.at_
    rw [h1, f.at h1 (n _ (by simp [PA.own]))]
  refine ⟨h.ok, ⟨dx, a, b, e1, h2.tk f.tk (tupds_map tupd_dLn _), h3.tk f.tk (tupds_map tupd_dWk _)⟩, h.rows.keep e2 f.tk tupd_dLn, h.works.keep e3 f.tk tupd_dWk⟩
theorem PlanAt.same {K : Fg} {H H' : Hp} {D : PA} {P : Pl} (h : PlanAt K H D P) (f : Same H H') : PlanAt K H' D P := h.keep (A := []) f.fr (by simp)
end Z
set_option maxHeartbeats 1000000
namespace Z
open PySem PySem.Spec PyProof.Rows L2
open LamX (lamCx lamEnv inv_table run_ofS CodeO codeO_ne TabB TabS among_app)
theorem ixU {α : Type} : ∀ {l : List α} {i j : Nat} {x : α}, l.Nodup → l[i]? = some x → l[j]? = some x → i = j
  | [], _, _, _, _, h, _ => by simp at h
  | _ :: _, 0, 0, _, _, _, _ => rfl
  | y :: l, 0, j + 1, x, n, h1, h2 => by
    have e : y = x := by simpa using h1
    have m : x ∈ l := List.mem_of_getElem? (by simpa using h2)
    exact absurd (e ▸ m) (List.nodup_cons.mp n).1
  | y :: l, i + 1, 0, x, n, h1, h2 => by
    have e : y = x := by simpa using h2
    have m : x ∈ l := List.mem_of_getElem? (by simpa using h1)
    exact absurd (e ▸ m) (List.nodup_cons.mp n).1
  | _ :: l, i + 1, j + 1, x, n, h1, h2 => congrArg Nat.succ (ixU (l := l) (x := x) (List.nodup_cons.mp n).2 (by simpa using h1) (by simpa using h2))
section
variable {X : Cx} {pins : List (Addr × Obj)} {σ : L2.St} {H : Hp} {s : Shared}
theorem lamMake {c P : Addr} {params : Arguments} {body : Expr} {scope : Scope} {pos : Pos} {E Q : Value → Shared → Prop} (I : Inv X pins σ H s) (TB : TabB X.base X.mg c P) (hcode : X.env.code = .ref c) (hT : TabS H P (X.env.qual ++ "<lambda>")) (hdef : defaultsOf params X.env = ([], []))
    (hfree : ∀ y ∈ scope.names, y.2 = .free → ∃ c, X.env.cells.lookup y.1 = some c)
    (h : ∀ (f c' : Addr) (pm ctv : Value) (H1 : Hp) (s' : Shared), Inv X pins σ H1 s' → Fr [P] H H1 → TabS H1 P (X.env.qual ++ "<lambda>") → s'.heap.get? f = some (PySem.W.kla_obj "<lambda>" (X.env.qual ++ "<lambda>") params body scope (cloFrom X.env.cells scope.names []) pm c' ctv) → H1 f = none → f ∉ frs X.stack →
      H1 c' = some (CodeO c' (X.env.qual ++ "<lambda>")) → Q (.ref f) s') : wpAny (model X.prog X.w) X.A (eval (.Lambda params body scope pos) X.env) Q E s := by
  obtain ⟨ps, hP, ht, ha⟩ := hT
  refine PySem.W.kla_eval hdef ?_
  have pB : s.heap.BuiltinsAt X.mg P := TB.bm.keeps I.bk
  have pO : s.heap.get? P = some { cls := .none, data := .fields ps } := I.hok P _ hP
  have away : ∀ f, s.heap.objs.size ≤ f → f ∉ frs X.stack := fun f hf z => (List.mem_cons.mp (I.stkSub _ z)).elim (fun e => absurd (Nat.lt_of_lt_of_le (e ▸ I.lt) hf) (Nat.lt_irrefl _)) (I.nofs hf)
  cases hc : codeAmong pos ps.toList with
  | some cv =>
    obtain ⟨c', rfl, hco⟩ := ha pos cv hc
    refine PySem.W.kla_makeFunctionHit (mg := X.mg) (c := c) (P := P) (ps := ps) (closure_ok hfree) I.ok.glob (I.mod.glob.keeps I.bk) hcode (TB.code.keeps I.bk) pO ht hc pB fun ctv h' tk hx hz => ?_
    exact h h'.objs.size c' ((X.mg "__name__").getD .none) ctv H _ (I.kept fun b o e => Heap.get?_push_of_some _ (hx b o e)) Fr.refl ⟨ps, hP, ht, ha⟩ (Heap.get?_push_size _ rfl) (I.hok.fresh hz) (away _ hz) hco
  | none =>
    refine PySem.W.kla_makeFunction (mg := X.mg) (c := c) (P := P) (ps := ps) (closure_ok hfree) I.ok.glob (I.mod.glob.keeps I.bk) hcode (TB.code.keeps I.bk) pO ht hc TB.gP pB fun c' ctv h' tk hx hge hlt hrec htb => ?_
    obtain ⟨_, oc, vs, t, e2, ho, hd, hv⟩ := hrec
    cases e2
    have hz : s.heap.objs.size ≤ h'.objs.size := Nat.le_trans hge (Nat.le_of_lt hlt)
    have nc : H c' = none := I.hok.fresh hge
    have I1 := inv_table (t' := tk) (more := #[rawInt pos.line, rawInt pos.col, .ref c']) (h' := h'.push (PySem.W.kla_obj "<lambda>" (X.env.qual ++ "<lambda>") params body scope (cloFrom X.env.cells scope.names []) ((X.mg "__name__").getD .none) c' ctv)) I hP
      (fun b o hb e => Heap.get?_push_of_some _ (hx b o hb e)) (Heap.get?_push_of_some _ htb) hge ⟨oc, vs, t, Heap.get?_push_of_some _ ho, hd, hv⟩
    have nPc : P ≠ c' := ne_of_none hP nc
    have f1 : Fr [P] H (upd H P (.tbl (ps ++ #[rawInt pos.line, rawInt pos.col, .ref c']))) := Fr.upd (by simp) hP rfl
    have nc1 : (upd H P (.tbl (ps ++ #[rawInt pos.line, rawInt pos.col, .ref c']))) c' = none := by rw [upd_ne (Ne.symm nPc)]; exact nc
    have f2 := f1.trans (Fr.new (o := CodeO c' (X.env.qual ++ "<lambda>")) nc1)
    refine h h'.objs.size c' ((X.mg "__name__").getD .none) ctv _ _ I1 f2 ⟨ps ++ #[rawInt pos.line, rawInt pos.col, .ref c'], by rw [upd_ne nPc, upd_same], ?_, fun p' cv k => ?_⟩ (Heap.get?_push_size _ rfl) ?_ (away _ hz) upd_same
    · rw [Array.toList_append]
      exact PySem.TriplesOk_snoc _ _ _ _ ht
    · rw [Array.toList_append] at k
      rcases among_app _ ht k with k | k
      · obtain ⟨c0, e1, e2⟩ := ha p' cv k
        refine ⟨c0, e1, ?_⟩
        have n1 : c0 ≠ P := fun e => by
          rw [e, hP] at e2
          exact codeO_ne ps (Option.some.inj e2).symm
        rw [upd_ne (ne_of_none e2 nc), upd_ne n1]
        exact e2
      · exact ⟨c', k, upd_same⟩
    · rw [upd_ne (Nat.ne_of_gt hlt), upd_ne (Nat.ne_of_gt (Nat.lt_of_lt_of_le (Heap.lt_size pO) hz))]
      exact I.hok.fresh hz
end
section
variable {X : Cx} {pins : List (Addr × Obj)} {σ : L2.St} {H HZ : Hp} {s s1 : Shared}
abbrev inCx (X : Cx) (Ng : List Str) (qg : Str) (sg : Scope) (g : Addr) (cdg : Value) (s : Shared) (H : Hp) (E : XK) : Cx := cxOf (L2.CX X.prog X.w) X.prog X.w X.K X.mg X.base Ng qg sg g cdg X.A X.stack s H E
end
section
variable {X : Cx}
def codA (K : Fg) (f : Addr) : Addr := match (fdOf K f).code with
  | .ref c => c
  | _ => 0
def tabA (K : Fg) (f : Addr) : Addr := He.tabOf K (codA K f)
theorem okC {P : Program} {w : World} {K : Fg} {mg : Str → Option Value} {base : Heap} {x qual : Str} {params : Arguments} {body : List Stmt} {scope : Scope} {dvs : List V} {kws : List (Str × V)} {f : Addr} {CX : CXT} {N ps : List Str} {k : Nat} {sp : Sp} (F : FunD K x qual params body scope dvs kws f (fdOf K f)) (S : FnScope N ps scope)
    (len : ∀ vs H Q E, sp vs H Q E → vs.length = ps.length)
    (hbody : ∀ (A : Around) (outer : List Env) (s : Shared) (H : Hp) (vs : List V) (Q : VK) (E : XK), Room k (A.deeper (envOfC qual scope s.heap.objs.size f (.ref (codA K f)))) → sp vs H Q E →
      ∃ t, PSs (cxOf CX P w K mg base N qual scope f (.ref (codA K f)) A outer s H E) body t ∧ t { nx := fun _ H' => Q .non H', rt := Q } (L2.start N vs) H) : FnOk P w K mg base CX (k + 1) f (fdOf K f) ps sp := by
  obtain ⟨oc, od, dV, kV, doc, pm, an, cdv, ct, osl, e, lk, hcd, _, _⟩ := F.ex
  obtain ⟨c, rfl⟩ := He.codeIn_ref hcd
  have ec : codA K f = c := by
    unfold codA
    rw [e]
  rw [ec] at hbody
  rw [e] at lk ⊢
  exact fn_of lk hcd S len fun A outer s H vs Q E hr hsp => hbody A outer s H vs Q E hr hsp
end
end Z
set_option maxHeartbeats 1000000
namespace Z
open PySem PySem.Spec PyProof.Rows L2
open He (ga ma)
section
variable {K : Fg} {σ : L2.St} {H H1 : Hp} {Q : VK} {g : TG} {tt : TT} {te tk tv tl : TE} {vs : List Nat} {x : V} {a : Addr} {xs : List V} {α : Type} {l : List α} {da : α → PyData}
def LcQ (J : It) (g : TG) (tt : TT) (te : TE) (vs : List Nat) (σ : L2.St) (Q : VK) (H1 : Hp) : Prop := ∀ D, H1 D = none → ∃ W : Nat → Nat → Hp → Prop, (∃ m, W 0 m (upd H1 D (.lst []))) ∧ ∀ i m H, W i m H →
  (J.stop i H ∧ Q (.ref D) H) ∨ (J.go i H ∧ ∃ Nx : Hp → Prop, (∀ H', Nx H' → ∃ m', m' < m ∧ W (i + 1) m' H') ∧ ∀ x H', J.yld i H x H' → g x (wipe σ vs) H' fun σ2 H2 => wipe σ2 vs = wipe σ vs ∧ tt σ2 H2 fun b H3 =>
    if b = true then te σ2 H3 fun y H4 => ∃ acc, H4 D = some (.lst acc) ∧ acc.length < sizeLine ∧ Nx (upd H4 D (.lst (acc ++ [y]))) else Nx H3)
def LcT (K : Fg) (g : TG) (tt : TT) (te : TE) (vs : List Nat) (σ : L2.St) (Q : VK) (x : V) (H1 : Hp) : Prop := ∃ a, x = .ref a ∧ (∃ xs, SqT K H1 a xs) ∧ LcQ (Itt K a) g tt te vs σ Q H1
def LcL (K : Fg) (g : TG) (tt : TT) (te : TE) (vs : List Nat) (σ : L2.St) (Q : VK) (x : V) (H1 : Hp) : Prop := ∃ a, x = .ref a ∧ (∃ xs, SqL K H1 a xs) ∧ LcQ (Itl K a) g tt te vs σ Q H1
theorem s_lcT (q : tl σ H fun x H1 => LcT K g tt te vs σ Q x H1) : tLc (iTup K tl) g tt te vs σ H Q := q
theorem s_lcL (q : tl σ H fun x H1 => LcL K g tt te vs σ Q x H1) : tLc (iList K tl) g tt te vs σ H Q := q
def DcT (K : Fg) (g : TG) (tt : TT) (tk tv : TE) (vs : List Nat) (σ : L2.St) (Q : VK) (x : V) (H1 : Hp) : Prop := ∃ a, x = .ref a ∧ (∃ xs, SqT K H1 a xs) ∧ ∀ D, H1 D = none → ∃ W : Nat → Nat → Hp → Prop, (∃ m, W 0 m (upd H1 D (.dK []))) ∧ ∀ i m H, W i m H →
  ((Itt K a).stop i H ∧ Q (.ref D) H) ∨ ((Itt K a).go i H ∧ ∃ Nx : Hp → Prop, (∀ H', Nx H' → ∃ m', m' < m ∧ W (i + 1) m' H') ∧ ∀ x H', (Itt K a).yld i H x H' → g x (wipe σ vs) H' fun σ2 H2 => wipe σ2 vs = wipe σ vs ∧ tt σ2 H2 fun b H3 =>
    if b = true then tk σ2 H3 fun y H4 => tv σ2 H4 fun z H5 => ∃ kvs k, y = kV k ∧ H5 D = some (.dK kvs) ∧ kvs.length < sizeLine ∧ Nx (upd H5 D (.dK (putK kvs k z))) else Nx H3)
theorem s_dcT (q : tl σ H fun x H1 => DcT K g tt tk tv vs σ Q x H1) : tDc (iTup K tl) g tt tk tv vs σ H Q := q
theorem s_cvalg {ta : TE} {f : Str} (q : ta σ H fun x H1 => ∃ C mc v u, x = .ref C ∧ ClX.CRead K C mc ∧ ClX.CVal K C mc f v u ∧ Q v H1) : ClX.tCVal K ta f σ H Q := q
theorem s_ixO {C : Addr} {sp : Sp} {E : XK} {ta tb : TE} (q : ta σ H fun x H1 => tb σ H1 fun y H2 => ∃ a dx fs, x = .ref a ∧ H2 a = some (.ins C dx fs) ∧ sp [.ref a, y] H2 Q E) : tIxO C sp E ta tb σ H Q := q
variable {ea ec ed : L2.St → Hp → Prop} {eb : VK}
theorem s_fldS {ta tv : TE} {f : Str} (q : tv σ H fun y H1 => ta σ H1 fun x H2 => ∃ a C dx fs, x = .ref a ∧ H2 a = some (.ins C dx fs) ∧ Cls K C ∧ NoAttr K C f ∧ fs.length < 1000 ∧ ea σ (upd H2 a (.ins C dx (putF f y fs)))) : sFld K ta tv f (.mk ea eb ec ed) σ H := q
end
end Z
set_option maxHeartbeats 1000000
namespace Z
open PySem PySem.Spec PyProof.Rows L2
open He (ga ma)
def kI : Key → Int
  | .inl i => i
  | .inr _ => 0
def ordD (l : Ln) : PyData := .tuple [.int (0 - l.rk), .str l.nm]
def Pl.order (P : Pl) : List Str := (P.ls.mergeSort (PySem.W.dataLe false ordD)).map (·.nm)
theorem Pl.order_perm (P : Pl) : P.order.Perm P.names := (List.mergeSort_perm _ _).map _
def ticksOf (l : Ln) : Int := ((l.st.filter fun s => decide (s.1 = ("run" : Str))).map fun s => kI s.2).sum
theorem inV_str {w : Str} {l : List Str} (h : inV (.str w) (l.map V.str) = true) : w ∈ l := by
  rw [inV_strs] at h
  exact of_decide_eq_true h
theorem kinds_val {P : Pl} {z : Str} {v : V} (h : valV P.kinds (.inr z) = some v) : ∃ l ∈ P.ls, l.nm = z ∧ v = .str l.kd := by
  unfold valV at h
  obtain ⟨kv, h1, h2⟩ := Option.map_eq_some_iff.mp h
  obtain ⟨l, hl, rfl⟩ := List.mem_map.mp (List.mem_of_find?_eq_some h1)
  have h3 := List.find?_some h1
  exact ⟨l, hl, Sum.inr.inj (of_decide_eq_true h3), h2.symm⟩
theorem Pl.Ok.steps8 {P : Pl} (ok : P.Ok) {l : Ln} (hl : l ∈ P.ls) : l.st.length ≤ 8 := by
  have hk := ok.lok l hl
  simp only [isLine, dLn, isSteps, Bool.and_eq_true, decide_eq_true_eq, List.length_map] at hk
  omega
inductive StepIs (P : Pl) : Str × Key → Prop
  | run (i : Int) : 1 ≤ i → i ≤ 99 → StepIs P ("run", .inl i)
  | bar (i : Int) : 0 ≤ i → i ≤ 9 → StepIs P ("bar", .inl i)
  | later (z : Str) : z ∈ P.wnames → StepIs P ("later", .inr z)
  | flag (w : Str) (i : Int) : w ∈ (["set", "clear", "await"] : List Str) → 0 ≤ i → i ≤ 7 → StepIs P (w, .inl i)
  | line (w z : Str) : w ∈ (["ring", "quiet", "mask", "unmask"] : List Str) → z ∈ P.names → (w = "quiet" → (P.ln z).kd = "level") → StepIs P (w, .inr z)
theorem isInt_k {lo hi : Int} {k : Key} (h : isIntD lo hi (kD k) = true) : ∃ i, k = .inl i ∧ lo ≤ i ∧ i ≤ hi := by
  cases k with
  | inl i => exact ⟨i, rfl, of_decide_eq_true (show decide (lo ≤ i ∧ i ≤ hi) = true from h)⟩
  | inr z => cases h
theorem Pl.Ok.step {P : Pl} (ok : P.Ok) {l : Ln} (hl : l ∈ P.ls) {s : Str × Key} (hs : s ∈ l.st) : StepIs P s := by
  obtain ⟨w, k⟩ := s
  have h := ok.sok l hl _ hs
  have h' : isStepX P.kinds (P.wnames.map V.str) w (kD k) = true := h
  unfold isStepX at h'
  split at h'
  · rename_i hw
    have hw' : w ∈ (["ring", "quiet", "mask", "unmask"] : List Str) := inV_str (show inV (.str w) ((["ring", "quiet", "mask", "unmask"] : List Str).map V.str) = true from hw)
    cases k with
    | inl i => cases h'
    | inr z =>
      have h2 : ((valV P.kinds (.inr z)).isSome && (!decide (V.str w = V.str "quiet") || decide (valV P.kinds (.inr z) = some (.str "level")))) = true := h'
      obtain ⟨h3, h4⟩ := Bool.and_eq_true_iff.mp h2
      obtain ⟨v, hv⟩ := Option.isSome_iff_exists.mp h3
      obtain ⟨m, hm, rfl, rfl⟩ := kinds_val hv
      refine .line w _ hw' (List.mem_map_of_mem hm) fun e => ?_
      rw [ok.ln_eq hm]
      subst e
      rw [hv] at h4
      simpa using h4
  · split at h'
    · rename_i hw
      have hw' : w = "later" := by simpa using hw
      subst hw'
      cases k with
      | inl i => cases h'
      | inr z => exact .later z (inV_str h')
    · split at h'
      · rename_i hw
        have hw' : w ∈ (["set", "clear", "await"] : List Str) := inV_str (show inV (.str w) ((["set", "clear", "await"] : List Str).map V.str) = true from hw)
        obtain ⟨i, rfl, h1, h2⟩ := isInt_k h'
        exact .flag w i hw' h1 h2
      · rcases Bool.or_eq_true_iff.mp h' with h' | h'
        · obtain ⟨h1, h2⟩ := Bool.and_eq_true_iff.mp h'
          obtain ⟨i, rfl, h3, h4⟩ := isInt_k h2
          have hw' : w = "run" := by simpa using h1
          subst hw'
          exact .run i h3 h4
        · obtain ⟨h1, h2⟩ := Bool.and_eq_true_iff.mp h'
          obtain ⟨i, rfl, h3, h4⟩ := isInt_k h2
          have hw' : w = "bar" := by simpa using h1
          subst hw'
          exact .bar i h3 h4
theorem StepIs.run_int {P : Pl} {s : Str × Key} (h : StepIs P s) (e : s.1 = "run") : ∃ i, s.2 = .inl i ∧ 1 ≤ i ∧ i ≤ 99 := by
  cases h with
  | run i h1 h2 => exact ⟨i, rfl, h1, h2⟩
  | bar i _ _ => exact absurd (show ("bar" : Str) = "run" from e) (by decide)
  | later z _ => exact absurd (show ("later" : Str) = "run" from e) (by decide)
  | flag w i hw _ _ => simp only at e; subst e; exact absurd hw (by decide)
  | line w z hw _ _ => simp only at e; subst e; exact absurd hw (by decide)
theorem plF_lr {a b rd wd : Addr} : (planF a b rd wd).lookup ("line_rows" : Str) = some (.ref a) := by kernel_rfl
theorem plF_wr {a b rd wd : Addr} : (planF a b rd wd).lookup ("work_rows" : Str) = some (.ref b) := by kernel_rfl
theorem plF_rn {a b rd wd : Addr} : (planF a b rd wd).lookup ("rows_by_name" : Str) = some (.ref rd) := by kernel_rfl
theorem plF_wn {a b rd wd : Addr} : (planF a b rd wd).lookup ("works_by_name" : Str) = some (.ref wd) := by kernel_rfl
end Z
set_option maxHeartbeats 1000000
namespace Z
open PySem PySem.Spec PyProof.Rows L2
open He (ga ma)
inductive Ft where
  | op
  | me (n : Int)
  | se (t : Int) (p : Option Int)
structure Bd where
  shut : List Str
  wanted : List Str
  high : List Str
  taken : List Str
  raised : List Int
  joined : List (Str × Int)
  time : Int
  here : Option Int
  spots : List (Str × Int)
  rung : List (Int × Str)
  results : List Ft
  wanting : List (Str × Int)
def delK (l : List (Str × Int)) (z : Str) : List (Str × Int) := l.filter fun x => !decide (x.1 = z)
def getK (l : List (Str × Int)) (z : Str) : Option Int := (l.find? fun x => decide (x.1 = z)).map (·.2)
def putL {α : Type} [DecidableEq α] (l : List α) (x : α) (b : Bool) : List α × Bool := if decide (x ∈ l) = b then (l, false) else (if b = true then l ++ [x] else l.erase x, true)
def bump (l : List (Str × Int)) (z : Str) : List (Str × Int) := l.map fun x => if x.1 = z then (x.1, x.2 + 1) else x
def Bd.tell (B : Bd) (z : Str) (f : Ft) : Bd := { B with rung := B.rung ++ [(B.time, z)], results := B.results ++ [f] }
def Bd.ring (P : Pl) (B : Bd) (z : Str) : Bd × Bool :=
  if (P.ln z).kd = "edge" then (if z ∈ B.wanted then (Bd.tell { B with joined := bump B.joined z } z (.me ((getK B.wanting z).getD 0)), false) else (Bd.tell { B with wanted := B.wanted ++ [z], wanting := B.wanting ++ [(z, (B.rung.length : Int))] } z .op, true))
  else (if z ∈ B.high then ({ B with joined := bump B.joined z }, false) else ({ B with high := B.high ++ [z] }, true))
def Bd.waiting (B : Bd) (z : Str) : Bool := decide (z ∈ B.wanted) || (decide (z ∈ B.high) && !decide (z ∈ B.taken))
def Bd.can (B : Bd) (z : Str) : Bool := B.waiting z && (!decide (z ∈ B.shut) && !decide (z ∈ B.taken))
def Bd.begun (B : Bd) (z : Str) : Bd := { B with taken := B.taken ++ [z], wanted := (putL B.wanted z false).1, spots := delK B.spots z, wanting := delK B.wanting z, results := match getK B.wanting z with
  | none => B.results
  | some n => B.results.set n.toNat (.se B.time B.here) }
def Bd.ended (B : Bd) (z : Str) : Bd := { B with taken := B.taken.erase z }
def kS : Key → Str
  | .inl _ => ""
  | .inr z => z
def Bd.carry (P : Pl) (B : Bd) (s : Str × Key) : Bd × Bool :=
  if s.1 = "ring" then B.ring P (kS s.2)
  else if s.1 = "quiet" then ({ B with high := (putL B.high (kS s.2) false).1, spots := delK B.spots (kS s.2) }, (putL B.high (kS s.2) false).2)
  else if s.1 = "mask" then ({ B with shut := (putL B.shut (kS s.2) true).1 }, (putL B.shut (kS s.2) true).2)
  else if s.1 = "unmask" then ({ B with shut := (putL B.shut (kS s.2) false).1 }, (putL B.shut (kS s.2) false).2)
  else if s.1 = "set" then ({ B with raised := (putL B.raised (kI s.2) true).1 }, (putL B.raised (kI s.2) true).2)
  else ({ B with raised := (putL B.raised (kI s.2) false).1 }, (putL B.raised (kI s.2) false).2)
structure Sub {α : Type} (l m : List α) : Prop where
  nd : l.Nodup
  sub : ∀ x ∈ l, x ∈ m
theorem Sub.nil {α : Type} {m : List α} : Sub [] m := ⟨.nil, by simp⟩
theorem Sub.add {α : Type} {l m : List α} {x : α} (h : Sub l m) (hn : x ∉ l) (hx : x ∈ m) : Sub (l ++ [x]) m := by
  refine ⟨?_, fun y hy => ?_⟩
  · rw [List.nodup_append]
    exact ⟨h.nd, by simp, fun a ha b hb e => by simp at hb; subst hb; subst e; exact hn ha⟩
  · rcases List.mem_append.mp hy with hy | hy
    · exact h.sub y hy
    · simp at hy
      subst hy
      exact hx
theorem Sub.erase {α : Type} [BEq α] [LawfulBEq α] {l m : List α} (x : α) (h : Sub l m) : Sub (l.erase x) m := ⟨h.nd.erase x, fun y hy => h.sub y (List.mem_of_mem_erase hy)⟩
theorem Sub.len {α : Type} [BEq α] [LawfulBEq α] : ∀ {l m : List α}, Sub l m → l.length ≤ m.length
  | [], _, _ => Nat.zero_le _
  | x :: l, m, h => by
    have hx := h.sub x (by simp)
    have hn := List.nodup_cons.mp h.nd
    have : Sub l (m.erase x) := ⟨hn.2, fun y hy => (List.mem_erase_of_ne fun e => hn.1 (by rw [← e]; exact hy)).mpr (h.sub y (List.mem_cons_of_mem _ hy))⟩
    have := this.len
    rw [List.length_erase_of_mem hx] at this
    have : 0 < m.length := List.length_pos_of_mem hx
    rw [List.length_cons]
    omega
theorem Sub.put {α : Type} [DecidableEq α] {l m : List α} {x : α} {b : Bool} (h : Sub l m) (hx : x ∈ m) : Sub (putL l x b).1 m := by
  unfold putL
  split
  · exact h
  · rename_i hn
    split
    · rename_i hb
      subst hb
      exact h.add (by simpa using hn) hx
    · exact h.erase x
def flagL : List Int := [0, 1, 2, 3, 4, 5, 6, 7]
theorem flagL_mem {i : Int} (h0 : 0 ≤ i) (h7 : i ≤ 7) : i ∈ flagL := by
  have : i = 0 ∨ i = 1 ∨ i = 2 ∨ i = 3 ∨ i = 4 ∨ i = 5 ∨ i = 6 ∨ i = 7 := by omega
  simp [flagL, this]
structure Bd.Ok (P : Pl) (B : Bd) : Prop where
  sh : Sub B.shut P.names
  wa : Sub B.wanted P.names
  hi : Sub B.high P.names
  ta : Sub B.taken P.names
  ra : Sub B.raised flagL
  jk : B.joined.map (·.1) = P.order
  sn : (B.spots.map (·.1)).Nodup
  ss : ∀ x ∈ B.spots, x.1 ∈ P.names
  wn : (B.wanting.map (·.1)).Nodup
  wk : ∀ z, z ∈ B.wanting.map (·.1) ↔ z ∈ B.wanted
  wi : ∀ x ∈ B.wanting, 0 ≤ x.2 ∧ x.2 < B.rung.length
  rl : B.results.length = B.rung.length
theorem delK_map {l : List (Str × Int)} {z : Str} : (delK l z).map (·.1) = (l.map (·.1)).filter fun y => !decide (y = z) := by
  unfold delK
  rw [List.filter_map]
  rfl
theorem delK_nd {l : List (Str × Int)} {z : Str} (h : (l.map (·.1)).Nodup) : ((delK l z).map (·.1)).Nodup := by
  rw [delK_map]
  exact h.sublist List.filter_sublist
theorem delK_mem {l : List (Str × Int)} {z : Str} {x : Str × Int} : x ∈ delK l z ↔ x ∈ l ∧ x.1 ≠ z := by
  unfold delK
  rw [List.mem_filter]
  simp
theorem delK_key {l : List (Str × Int)} {z y : Str} : y ∈ (delK l z).map (·.1) ↔ y ∈ l.map (·.1) ∧ y ≠ z := by
  rw [delK_map, List.mem_filter]
  simp
theorem putL_off {l : List Str} {z y : Str} (h : l.Nodup) : y ∈ (putL l z false).1 ↔ y ∈ l ∧ y ≠ z := by
  unfold putL
  split
  · rename_i q
    have q : z ∉ l := by simpa using q
    exact ⟨fun k => ⟨k, fun e => q (e ▸ k)⟩, fun k => k.1⟩
  · rw [if_neg (by decide)]
    rw [h.mem_erase_iff]
    exact ⟨fun k => ⟨k.2, k.1⟩, fun k => ⟨k.2, k.1⟩⟩
theorem bump_fst (l : List (Str × Int)) (z : Str) : (bump l z).map (·.1) = l.map (·.1) := by
  unfold bump
  rw [List.map_map]
  apply List.map_congr_left
  intro x _
  show (if x.1 = z then (x.1, x.2 + 1) else x).1 = x.1
  split <;> rfl
theorem Bd.Ok.ring {P : Pl} {B : Bd} (h : B.Ok P) {z : Str} (hz : z ∈ P.names) : (B.ring P z).1.Ok P := by
  unfold Bd.ring
  split
  · split
    · refine ⟨h.sh, h.wa, h.hi, h.ta, h.ra, by show (bump B.joined z).map (·.1) = _; rw [bump_fst]; exact h.jk, h.sn, h.ss, h.wn, h.wk, fun x hx => ?_, ?_⟩
      · have := h.wi x hx
        show 0 ≤ x.2 ∧ x.2 < ((B.rung ++ [(B.time, z)]).length : Nat)
        rw [List.length_append, List.length_singleton]
        omega
      · show (B.results ++ [_]).length = (B.rung ++ [_]).length
        rw [List.length_append, List.length_append, List.length_singleton, List.length_singleton, h.rl]
    · rename_i hn
      have hk : z ∉ B.wanting.map (·.1) := fun k => hn ((h.wk z).mp k)
      refine ⟨h.sh, h.wa.add hn hz, h.hi, h.ta, h.ra, h.jk, h.sn, h.ss, ?_, fun y => ?_, fun x hx => ?_, ?_⟩
      · show (List.map (fun x : Str × Int => x.1) (B.wanting ++ [(z, _)])).Nodup
        rw [List.map_append, List.nodup_append]
        exact ⟨h.wn, by simp, fun a ha b hb e => by simp at hb; subst hb; subst e; exact hk ha⟩
      · show y ∈ List.map (fun x : Str × Int => x.1) (B.wanting ++ [(z, _)]) ↔ y ∈ B.wanted ++ [z]
        rw [List.map_append, List.mem_append, List.mem_append, h.wk y]
        simp
      · show 0 ≤ x.2 ∧ x.2 < ((B.rung ++ [(B.time, z)]).length : Nat)
        rw [List.length_append, List.length_singleton]
        rcases List.mem_append.mp hx with hx | hx
        · have := h.wi x hx
          omega
        · rw [List.mem_singleton.mp hx]
          dsimp only
          omega
      · show (B.results ++ [_]).length = (B.rung ++ [_]).length
        rw [List.length_append, List.length_append, List.length_singleton, List.length_singleton, h.rl]
  · split
    · exact ⟨h.sh, h.wa, h.hi, h.ta, h.ra, by show (bump B.joined z).map (·.1) = _; rw [bump_fst]; exact h.jk, h.sn, h.ss, h.wn, h.wk, h.wi, h.rl⟩
    · rename_i hn
      exact ⟨h.sh, h.wa, h.hi.add hn hz, h.ta, h.ra, h.jk, h.sn, h.ss, h.wn, h.wk, h.wi, h.rl⟩
theorem Bd.Ok.begun {P : Pl} {B : Bd} (h : B.Ok P) {z : Str} (hz : z ∈ P.names) (hn : z ∉ B.taken) : (B.begun z).Ok P := by
  refine ⟨h.sh, h.wa.put hz, h.hi, h.ta.add hn hz, h.ra, h.jk, delK_nd h.sn, fun x hx => h.ss x (delK_mem.mp hx).1, delK_nd h.wn, fun y => ?_, fun x hx => h.wi x (delK_mem.mp hx).1, ?_⟩
  · show y ∈ (delK B.wanting z).map (·.1) ↔ y ∈ (putL B.wanted z false).1
    rw [delK_key, putL_off h.wa.nd, h.wk y]
  · show (match getK B.wanting z with
      | none => B.results
      | some n => B.results.set n.toNat (.se B.time B.here) : List Ft).length = _
    split
    · exact h.rl
    · rw [List.length_set]
      exact h.rl
theorem Bd.Ok.ended {P : Pl} {B : Bd} (h : B.Ok P) (z : Str) : (B.ended z).Ok P := ⟨h.sh, h.wa, h.hi, h.ta.erase z, h.ra, h.jk, h.sn, h.ss, h.wn, h.wk, h.wi, h.rl⟩
def CarryIs (P : Pl) (s : Str × Key) : Prop := (s.1 ∈ (["ring", "quiet", "mask", "unmask"] : List Str) ∧ ∃ z, s.2 = .inr z ∧ z ∈ P.names) ∨ (s.1 ∈ (["set", "clear"] : List Str) ∧ ∃ i, s.2 = .inl i ∧ 0 ≤ i ∧ i ≤ 7)
theorem Bd.Ok.carry {P : Pl} {B : Bd} (h : B.Ok P) {s : Str × Key} (hs : CarryIs P s) : (B.carry P s).1.Ok P := by
  obtain ⟨w, k⟩ := s
  rcases hs with ⟨hw, z, e, hz⟩ | ⟨hw, i, e, h0, h7⟩
  · simp only at e hw
    subst e
    simp only [List.mem_cons, List.not_mem_nil, or_false] at hw
    rcases hw with rfl | rfl | rfl | rfl
    · exact h.ring hz
    · exact ⟨h.sh, h.wa, h.hi.put hz, h.ta, h.ra, h.jk, delK_nd h.sn, fun x hx => h.ss x (delK_mem.mp hx).1, h.wn, h.wk, h.wi, h.rl⟩
    · exact ⟨h.sh.put hz, h.wa, h.hi, h.ta, h.ra, h.jk, h.sn, h.ss, h.wn, h.wk, h.wi, h.rl⟩
    · exact ⟨h.sh.put hz, h.wa, h.hi, h.ta, h.ra, h.jk, h.sn, h.ss, h.wn, h.wk, h.wi, h.rl⟩
  · simp only at e hw
    subst e
    simp only [List.mem_cons, List.not_mem_nil, or_false] at hw
    rcases hw with rfl | rfl
    · exact ⟨h.sh, h.wa, h.hi, h.ta, h.ra.put (flagL_mem h0 h7), h.jk, h.sn, h.ss, h.wn, h.wk, h.wi, h.rl⟩
    · exact ⟨h.sh, h.wa, h.hi, h.ta, h.ra.put (flagL_mem h0 h7), h.jk, h.sn, h.ss, h.wn, h.wk, h.wi, h.rl⟩
theorem Pl.Ok.len {P : Pl} (ok : P.Ok) : P.names.length ≤ 12 := by
  unfold Pl.names
  rw [List.length_map]
  exact ok.l12
theorem Sub.len12 {P : Pl} (ok : P.Ok) {l : List Str} (h : Sub l P.names) : l.length ≤ 12 := Nat.le_trans h.len ok.len
structure BA where
  b : Addr
  sh : Addr
  wa : Addr
  hi : Addr
  ta : Addr
  ra : Addr
  jo : Addr
  sp : Addr
  ru : Addr
  re : Addr
  wt : Addr
def BA.own (D : BA) : List Addr := [D.b, D.sh, D.wa, D.hi, D.ta, D.ra, D.jo, D.sp, D.ru, D.re, D.wt]
def optV : Option Int → V
  | none => .non
  | some i => .int i
def optD : Option Int → PyData
  | none => .none
  | some i => .int i
def dFt : Ft → PyData
  | .op => .none
  | .me n => .tuple [.str "merged", .int n]
  | .se t p => .tuple [.str "served", .int t, optD p]
def dRg (x : Int × Str) : PyData := .tuple [.int x.1, .str x.2]
def boardF (p : Addr) (D : BA) (B : Bd) : List (Str × V) := [("plan", .ref p), ("shut", .ref D.sh), ("wanted", .ref D.wa), ("high", .ref D.hi), ("taken", .ref D.ta), ("raised", .ref D.ra), ("joined", .ref D.jo), ("time", .int B.time), ("here", optV B.here), ("spots", .ref D.sp), ("rung", .ref D.ru), ("results", .ref D.re), ("wanting", .ref D.wt)]
theorem bdF_plan {p : Addr} {D : BA} {B : Bd} : (boardF p D B).lookup ("plan" : Str) = some (.ref p) := by kernel_rfl
theorem bdF_sh {p : Addr} {D : BA} {B : Bd} : (boardF p D B).lookup ("shut" : Str) = some (.ref D.sh) := by kernel_rfl
theorem bdF_wa {p : Addr} {D : BA} {B : Bd} : (boardF p D B).lookup ("wanted" : Str) = some (.ref D.wa) := by kernel_rfl
theorem bdF_hi {p : Addr} {D : BA} {B : Bd} : (boardF p D B).lookup ("high" : Str) = some (.ref D.hi) := by kernel_rfl
theorem bdF_ta {p : Addr} {D : BA} {B : Bd} : (boardF p D B).lookup ("taken" : Str) = some (.ref D.ta) := by kernel_rfl
theorem bdF_ra {p : Addr} {D : BA} {B : Bd} : (boardF p D B).lookup ("raised" : Str) = some (.ref D.ra) := by kernel_rfl
theorem bdF_jo {p : Addr} {D : BA} {B : Bd} : (boardF p D B).lookup ("joined" : Str) = some (.ref D.jo) := by kernel_rfl
theorem bdF_tm {p : Addr} {D : BA} {B : Bd} : (boardF p D B).lookup ("time" : Str) = some (.int B.time) := by kernel_rfl
theorem bdF_hr {p : Addr} {D : BA} {B : Bd} : (boardF p D B).lookup ("here" : Str) = some (optV B.here) := by kernel_rfl
theorem bdF_sp {p : Addr} {D : BA} {B : Bd} : (boardF p D B).lookup ("spots" : Str) = some (.ref D.sp) := by kernel_rfl
theorem bdF_ru {p : Addr} {D : BA} {B : Bd} : (boardF p D B).lookup ("rung" : Str) = some (.ref D.ru) := by kernel_rfl
theorem bdF_re {p : Addr} {D : BA} {B : Bd} : (boardF p D B).lookup ("results" : Str) = some (.ref D.re) := by kernel_rfl
theorem bdF_wt {p : Addr} {D : BA} {B : Bd} : (boardF p D B).lookup ("wanting" : Str) = some (.ref D.wt) := by kernel_rfl
def joinK (l : List (Str × Int)) : List (Key × V) := l.map fun x => (.inr x.1, .int x.2)
structure BoardAt (K : Fg) (H : Hp) (p : Addr) (D : BA) (B : Bd) : Prop where
  nd : D.own.Nodup
  ins : ∃ dx, H D.b = some (.ins (ga K "HouseBoard") dx (boardF p D B))
  sh : H D.sh = some (.lst (B.shut.map V.str))
  wa : H D.wa = some (.lst (B.wanted.map V.str))
  hi : H D.hi = some (.lst (B.high.map V.str))
  ta : H D.ta = some (.lst (B.taken.map V.str))
  ra : H D.ra = some (.lst (B.raised.map V.int))
  jo : H D.jo = some (.dK (joinK B.joined))
  sp : H D.sp = some (.dK (joinK B.spots))
  wt : H D.wt = some (.dK (joinK B.wanting))
  ru : ∃ ys, H D.ru = some (.lst ys) ∧ DpAll K H ys (B.rung.map dRg)
  re : ∃ ys, H D.re = some (.lst ys) ∧ DpAll K H ys (B.results.map dFt)
theorem tupd_ft (f : Ft) : tupd (dFt f) = true := by
  cases f with
  | op => rfl
  | me n => rfl
  | se t p => cases p <;> rfl
theorem tupd_rg (x : Int × Str) : tupd (dRg x) = true := rfl
section
variable {K : Fg} {H H' : Hp} {p : Addr} {D : BA} {B : Bd}
theorem BoardAt.keep (h : BoardAt K H p D B) {A : List Addr} (f : Fr A H H') (n : ∀ a ∈ D.own, a ∉ A) : BoardAt K H' p D B := by
  have n' : D.b ∉ A ∧ D.sh ∉ A ∧ D.wa ∉ A ∧ D.hi ∉ A ∧ D.ta ∉ A ∧ D.ra ∉ A ∧ D.jo ∉ A ∧ D.sp ∉ A ∧ D.ru ∉ A ∧ D.re ∉ A ∧ D.wt ∉ A := by simpa [BA.own] using n
  obtain ⟨nb, nsh, nwa, nhi, nta, nra, njo, nsp, nru, nre, nwt⟩ := n'
  obtain ⟨dx, e⟩ := h.ins
  obtain ⟨ys, e1, a1⟩ := h.ru
  obtain ⟨zs, e2, a2⟩ := h.re
  exact ⟨h.nd, ⟨dx, f.at e nb⟩, f.at h.sh nsh, f.at h.wa nwa, f.at h.hi nhi, f.at h.ta nta, f.at h.ra nra, f.at h.jo njo, f.at h.sp nsp, f.at h.wt nwt, ⟨ys, f.at e1 nru, a1.tk f.tk (tupds_map tupd_rg _)⟩, ⟨zs, f.at e2 nre, a2.tk f.tk (tupds_map tupd_ft _)⟩⟩
theorem BoardAt.same (h : BoardAt K H p D B) (s : Same H H') : BoardAt K H' p D B := h.keep (A := []) s.fr (by simp)
local macro_rules | `(tactic| walk_at "bd") => `(tactic| (rw [upd_ne (by first | assumption | (apply Ne.symm; assumption))]; assumption))
local macro_rules | `(tactic| walk_at "bd") => `(tactic| exact upd_same)
end
theorem inV_int {x : Int} : ∀ {l : List Int}, inV (.int x) (l.map V.int) = decide (x ∈ l)
  | [] => rfl
  | y :: l => by
    show ((y == x) || inV (.int x) (l.map V.int)) = _
    rw [inV_int (l := l)]
    by_cases h : x = y
    · subst h
      simp
    · have : (y == x) = false := beq_eq_false_iff_ne.mpr fun z => h z.symm
      simp [this, h]
end Z
set_option maxHeartbeats 2000000
namespace Z
open PySem PySem.Spec PyProof.Rows L2
def dKi (x : Str × Int) : PyData := .tuple [.str x.1, .int x.2]
def srtK (l : List (Str × Int)) : List (Str × Int) := l.mergeSort (PySem.W.dataLe false dKi)
end Z
set_option maxHeartbeats 2000000
namespace Z
open PySem PySem.Spec PyProof.Rows L2
def rCntD (K : Fg) : V → List V → Hp → VK → Prop := fun x xs H Q => ∃ (a : Addr) (y : V) (d : PyData) (ds : List PyData), x = V.ref a ∧ xs = [y] ∧ Dp K H (V.ref a) (.list ds) ∧ Dp K H y d ∧
  SeqAt.shaped (.list ds) = true ∧ SeqAt.shaped d = true ∧ Q (.int (ds.countP fun z => PyData.eqv z d : Nat)) H
section
variable {X : Cx}
theorem mt_countD (hu : X.A.units + 65 < cLine) : MtR X "list.count" (rCntD X.K) := by
  intro pins s σ H x xs v us Q I rx rxs h
  obtain ⟨a, y, d, ds, rfl, rfl, hl, hy, sl, sd, q⟩ := h
  cases rx
  cases rxs with
  | cons ry rt =>
    rename_i uy ut
    cases rt
    obtain ⟨bs, r1⟩ := Dp.reads I d y uy hy ry
    have hxs : PyData.canLayAll0 ds = true := SeqAt.canLay_of_shaped sl
    have hroom : X.A.units + 1 + min (PyData.depthAll ds) d.depth < cLine := room_in_shaped sd hu
    cases hl with
    | lst hs ha =>
      obtain ⟨its, rv, ⟨⟨cls, dd, data, sls⟩, n, ho, hc, hdn, hdt⟩, hlen⟩ := I.list hs
      simp only at hc hdt
      subst hc hdt
      obtain ⟨as, h4⟩ := Dp.readsAll I ds _ its ha rv
      have hmap : its.map (SeqAt.readOf s.heap) = ds := SeqAt.readsAll_map ds its as hxs h4
      refine call_meets PySem.F.slot_list_count ⟨_, ho, rfl⟩ PySem.F.entry_list_count (PySem.F.args_list_count_2 _ _)
        (SeqAt.list_countAt a its.toArray n dd sls uy (fun u => PyData.eqv (SeqAt.readOf s.heap u) d)) ⟨ho, SeqAt.items_eqAt (vs := its.toArray) (show ReadsAll s.heap its.toArray.toList ds as from h4) r1 hxs (SeqAt.canLay_of_shaped sd) hroom, ?_⟩
      have ec : its.toArray.toList.countP (fun u => PyData.eqv (SeqAt.readOf s.heap u) d) = ds.countP fun z => PyData.eqv z d := by
        rw [← hmap, List.countP_map]
        rfl
      refine ⟨.int (ds.countP fun z => PyData.eqv z d : Nat), H, I.tok _, ⟨s.toks, ?_⟩, q⟩
      show Value.int ((its.toArray.toList.countP (fun u => PyData.eqv (SeqAt.readOf s.heap u) d) : Nat) : Int) s.toks = Value.int ((ds.countP fun z => PyData.eqv z d : Nat) : Int) s.toks
      rw [ec]
theorem mt_countDK (K : Fg) (hu : X.A.units + 65 < cLine) (hK : X.K = K := by rfl) : MtR X "list.count" (rCntD K) := by subst hK; exact mt_countD hu
end
end Z
set_option maxHeartbeats 1000000
namespace Z
open PySem PySem.Spec PyProof.Rows L2
open LamX (lamCx lamEnv run_ofS CodeO TabB TabS LamS pe_act)
open He (ga ma)
def oexB (x : Str) (K : Fg) : Bool := (match K.lookup (ga K x) with
  | some ⟨.type "type", _, .cls cd, sl⟩ => (match cd.mro, sl.toList with
    | .ref c :: bm, [_, _, _, _, some (.builtin n), _] => decide (c = ga K x) && (decide (n = "ValueError.__new__") && (cd.hasDict && (!cd.hasDel && PySem.HandSPX.refsVE bm)))
    | _, _ => false)
  | _ => false) && (decide (PySem.W.findIn K (.ref (ga K x)) "__setattr__" = some (some (.builtin "object.__setattr__"))) && (decide (PySem.W.subIn K (.ref (ga K x)) (.type "BaseException") = some true) && (decide (PySem.W.typeIn K (.ref (ga K x)) = some (.type "type")) && PySem.W.keepIn K (.ref (ga K x)))))
theorem oexB_ok {x : Str} {K : Fg} (h : oexB x K = true) : OexC K (ga K x) := by
  unfold oexB at h
  simp only [Bool.and_eq_true, decide_eq_true_eq] at h
  obtain ⟨h1, h2, h3, h4, h5⟩ := h
  refine ⟨?_, h2, h3, h4, h5⟩
  split at h1
  · rename_i dd cd sl e
    split at h1
    · rename_i c bm a0 a1 a2 a3 n a5 em es
      simp only [Bool.and_eq_true, decide_eq_true_eq, Bool.not_eq_true'] at h1
      obtain ⟨rfl, rfl, hd, hl, hr⟩ := h1
      obtain ⟨nm, bs, mro, ns, qn, hdc, sn, sb, ab, col, del⟩ := cd
      dsimp only at em hd hl
      subst em hd hl
      obtain ⟨l⟩ := sl
      have es : l = _ := es
      subst es
      exact ⟨_, _, _, _, _, _, _, _, _, _, _, _, _, _, _, e, hr⟩
    · cases h1
  · cases h1
structure OexI (K : Fg) (C f : Addr) : Prop where
  i : PySem.W.findIn K (.ref C) "__init__" = some (some (.ref f))
  t : PySem.W.typeIn K (.ref f) = some (.type "function")
def fOexI (x : Str) (K : Fg) : Bool := decide (PySem.W.findIn K (.ref (ga K x)) "__init__" = some (some (.ref (ma K (ga K x) "__init__")))) && decide (PySem.W.typeIn K (.ref (ma K (ga K x) "__init__")) = some (.type "function"))
theorem fOexI_ok {x : Str} {K : Fg} (h : fOexI x K = true) : OexI K (ga K x) (ma K (ga K x) "__init__") := by
  unfold fOexI at h
  simp only [Bool.and_eq_true, decide_eq_true_eq] at h
  exact ⟨h.1, h.2⟩
def excCB (x : Str) (K : Fg) : Bool := decide (PySem.W.findIn K (.ref (ga K x)) "__getattribute__" = some (some (.builtin "BaseException.__getattribute__"))) && (decide (PySem.W.findIn K (.ref (ga K x)) "__getattr__" = some none) && (decide (PySem.W.subIn K (.ref (ga K x)) (.type "BaseException") = some true) &&
  (PySem.W.hasDictIn K (ga K x) && (decide (PySem.W.findIn K (.ref (ga K x)) "__class__" = some (some (.builtin "object.__class__"))) && (decide (PySem.W.specialIn K (.builtin "object.__class__") "__get__" = some (some (.builtin "getset_descriptor.__get__"))) &&
  (decide (PySem.W.takesIn K (.builtin "object.__class__") = some true) && decide (PySem.W.mroIn K (ga K x) (.type "object") = some true)))))))
theorem excCB_ok {x : Str} {K : Fg} (h : excCB x K = true) : ExcC K (ga K x) := by
  unfold excCB at h
  simp only [Bool.and_eq_true, decide_eq_true_eq] at h
  obtain ⟨h1, h2, h3, h4, h5, h6, h7, h8⟩ := h
  exact ⟨h1, h2, h3, h4, h5, h6, h7, h8⟩
theorem ExcC.xf {K : Fg} {C : Addr} (h : ExcC K C) : XfC K C := ⟨h.hg, h.hk, h.hs, h.hd⟩
structure VeIn (K : Fg) (B : Addr) : Prop where
  r : ClX.CRead K B (.type "type")
  v : PySem.W.findCls K (.ref B) (.type "type") "__init__" = some (.val (.builtin "ValueError.__init__"))
def fVeIn (x : Str) (K : Fg) : Bool := PySem.W.readsIn K (ga K x) (.type "type") && (decide (PySem.W.specialIn K (.ref (ga K x)) "__getattribute__" = some (some (.builtin "type.__getattribute__"))) && (match PySem.W.findCls K (.ref (ga K x)) (.type "type") "__init__" with
  | some (.val (.builtin n)) => decide (n = "ValueError.__init__")
  | _ => false))
theorem fVeIn_ok {x : Str} {K : Fg} (h : fVeIn x K = true) : VeIn K (ga K x) := by
  unfold fVeIn at h
  simp only [Bool.and_eq_true, decide_eq_true_eq] at h
  obtain ⟨h1, h2, h3⟩ := h
  refine ⟨⟨h1, h2⟩, ?_⟩
  split at h3
  · rename_i n e
    rw [e, of_decide_eq_true h3]
  · cases h3
section
variable {X : Cx} {B : Addr} {o e : Expr} {es : List Expr} {to : TE} {ta : TA} {pos apos : Pos}
def tBin (B : Addr) (to t : TE) : TE := fun σ H Q => to σ H fun x H1 => x = .ref B ∧ t σ H1 Q
theorem z_veinit {pl : Sem Bool} (ho : PE X o to) (hB : VeIn X.K B) (ha : L2.PA X (e :: es) ta)
    (hst : starEach (e :: es) X.env = (false, eval e X.env) :: starEach es X.env := by rfl) (hpl : (backTo pos (starEach es X.env)).any (·.1) = false := by rfl)
    (ht : eval (.Call (.Attribute o "__init__" apos) (e :: es) [] pos) X.env = (do
      let ov ← eval o X.env
      standAt apos.atName
      let (f, first) ← holding [ov] (getMethod ov "__init__" pl)
      callWith pos f first (backTo pos (starEach (e :: es) X.env)) (backToKw pos (keywordEach [] X.env))) := by rfl) :
    PE X (.Call (.Attribute o "__init__" apos) (e :: es) [] pos) (tBin B to (tVeI X.K ta)) := by
  refine ⟨fun pins s σ H Q I h => ?_⟩
  refine PySem.W.methodCall_KW (pl := pl) (thn (ho.run pins s σ H _ I h) fun u s1 ⟨x, H1, I1, rx, ex, q⟩ => ?_) ht
  subst ex
  obtain rfl : u = Value.ref B := rx
  refine PySem.W.method_cls I1.kIn hB.r.ga (PySem.W.cls_value I1.kIn hB.r.rd hB.v (by rfl) ?_)
  have I2 := I1.tok (s1.toks + 1)
  refine PyProof.Rows.callWith_method1 (thn (ha.run pos pins _ σ H1 _ I2 q) fun us s2 ⟨vs, H2, I3, r2, a, C, ws, ev, hl, T, ea, q2⟩ => ?_) hst hpl
  subst ev
  cases r2 with
  | @cons _ u0 _ ur ra rw' =>
    obtain rfl : u0 = Value.ref a := ra
    have hn : ur.length ≤ sizeLine := by
      rw [← Paired.length rw', sizeLine_eq]
      omega
    exact oinit_ok T I3 ea hn fun s' J => ⟨.non, H2, J, rfl, q2⟩
end
def rIsX (K : Fg) (a : Addr) (cls : Value) (d : Option Addr) : List V → Hp → VK → Prop := fun xs H Q => ∃ (D : Addr) (c : V) (cv : Value) (b : Bool), xs = [.ref a, c] ∧ cls = .ref D ∧ ExcC K D ∧ (∀ u, RelV c u → u = cv) ∧ PySem.W.kitOne K cls cv = some b ∧ (∀ dd, d = some dd → ∃ fs, H dd = some (.xd fs)) ∧ Q (.bl b) H
theorem cr_isX {X : Cx} {a : Addr} {cls : Value} {d : Option Addr} {oe : Obj} {pn : List (Addr × Obj)} (hz : Zc cls d oe) (hf : ∃ vs, oe.data = .fields vs) : CallR (X.suite a ((a, oe) :: pn)) (.builtin "isinstance") (rIsX X.K a cls d) := by
  intro pins s σ H xs us Q I r h
  obtain ⟨D, c, cv, b, rfl, rfl, C, hcv, e, hdd, q⟩ := h
  cases r with | cons rx rr => ?_
  cases rr with | cons rt rr => ?_
  cases rr
  cases rx
  obtain rfl := hcv _ rt
  have hcl : (PySem.W.clsIn X.K D).isSome = true := by
    obtain ⟨cd, hc, _⟩ := PySem.W.any_some C.hd
    rw [hc]
    rfl
  obtain ⟨hget, _⟩ := I.pin (a, oe) (List.mem_append.mpr (.inl List.mem_cons_self))
  obtain ⟨vs, hv⟩ := hf
  obtain ⟨oc, od, oda, osl⟩ := oe
  obtain ⟨h1, h2⟩ := hz
  dsimp only at h1 h2 hv
  subst h1 h2 hv
  cases od with
  | none =>
    have J : PySem.W.InstAt s.heap a ⟨.ref D, none, .fields vs, osl⟩ D none := ⟨hget, rfl, rfl, trivial⟩
    exact PySem.W.kia_one (PySem.W.kitx_exc hcl C.hg C.hk C.hs C.ha C.hn C.ht C.hm) I.kIn J e (fun z => nomatch z) fun tk => ⟨.bl b, H, I.kept (t' := tk) fun _ _ z => z, rfl, q⟩
  | some dd =>
    obtain ⟨fs, hx⟩ := hdd dd rfl
    have ox : ObjOk X.prog X.w H s.heap dd (.xd fs) := I.hok dd _ hx
    obtain ⟨mA, hns, _⟩ := ox
    obtain ⟨od, ho, _⟩ := lookIn_ns hns
    have J : PySem.W.InstAt s.heap a ⟨.ref D, some dd, .fields vs, osl⟩ D (some od) := ⟨hget, rfl, rfl, ho⟩
    exact PySem.W.kia_one (PySem.W.kitx_exc hcl C.hg C.hk C.hs C.ha C.hn C.ht C.hm) I.kIn J e (fun z => nomatch z) fun tk => ⟨.bl b, H, I.kept (t' := tk) fun _ _ z => z, rfl, q⟩
theorem takes_len {X : Cx} {W : WX} (tk : Takes X W) : Takes X (fun cls d σ H => σ.length = X.N.length → W cls d σ H) := fun u s' ⟨a, B, sI, pins, σ, H, cls, d, e, I, nb, up, sky, na, os, ag, w⟩ => tk u s' ⟨a, B, sI, pins, σ, H, cls, d, e, I, nb, up, sky, na, os, ag, w I.len⟩
def GivesR (X : Cx) (Ng : List Str) (x : Str) (sg : Scope) (g : Addr) (cdg : Value) (bg : List Stmt) (a q : Str) (TT : (XK → Hp → VK → Prop) → Hp → VK → Prop) : Prop :=
  ∀ (f c' : Addr) (s : Shared) (H : Hp) (Q : VK) (tl : XK → Hp → VK → Prop), Room 2 (X.A.deeper (envOfC x sg s.heap.objs.size g cdg)) →
    (∀ (W : WX) (pn : List (Addr × Obj)) (xe : Value → Shared → Prop) (E : XK) (p1 p2 : Pos), Takes ((inCx X Ng x sg g cdg s H E0).tr pn xe) W → (∀ cls d (σ' : L2.St) H', σ'.length = Ng.length → E cls d H' → W cls d σ' H') →
      PE ((inCx X Ng x sg g cdg s H E0).tr pn xe) (.Call (.Name a p1) [] [] p2) (fun σZ HZ Q => σZ[0]? = some (some (.ref f)) ∧ HZ c' = some (CodeO c' q) ∧ tl E HZ Q)) →
    H c' = some (CodeO c' q) → TT tl H Q →
    ∃ t, PSs (inCx X Ng x sg g cdg s H E0) bg t ∧ t { nx := fun _ H' => Q .non H', rt := Q } (L2.start Ng [.ref f]) H
def tLamR (P : Addr) (q : Str) (TT : (XK → Hp → VK → Prop) → Hp → VK → Prop) (t : XK → TE) : TE := fun σ H Q => TabS H P q ∧ ∀ H3, Fr [P] H H3 → TabS H3 P q → TT (fun E H' Q' => t E σ H' Q') H3 Q
theorem z_lamR {X : Cx} {TT : (XK → Hp → VK → Prop) → Hp → VK → Prop} {x a : Str} {g c P : Addr} {k : Nat} {pg : Arguments} {bg : List Stmt} {sg : Scope} {Ng : List Str}
    {params : Arguments} {body : Expr} {scope : Scope} {t : XK → TE} {p lpos pos : Pos} (F : FunD X.K x x pg bg sg [] [] g (fdOf X.K g)) (cal : Cal X.K g [a] []) (hg : Gl X x) (hm : X.mg x = some (.ref g)) (Sg : FnScope Ng [a] sg) (hNg : Ng[0]? = some a) (hva : Vis sg a)
    (hG : ∀ cdv, GivesR X Ng x sg g cdv bg a (X.env.qual ++ "<lambda>") TT)
    (TB : TabB X.base X.mg c P) (hcode : X.env.code = .ref c) (hr : Room (k + 3) X.A) {sc : Scope} (hsc : X.env.scope = sc) (L : LamS sc scope) (hdef : defaultsOf params X.env = ([], []))
    (hbind : ∀ (q : Str) (cl : List (Str × Addr)) (pm cv ctv : Value), bindArgs (PySem.W.kla_fn "<lambda>" q params body scope cl pm cv ctv) ⟨[], []⟩ = pure [])
    (hbody : ∀ (A : Around) (outer : List Env) (s : Shared) (H : Hp) (E : XK) (f c' : Addr), Room k (A.deeper (lamEnv X scope s.heap.objs.size f c')) → PE (lamCx X A outer s H E scope f c') body (t E))
    (hdb : (x == ("__debug__" : Str)) = false := by decide) (hd : (a == ("__debug__" : Str)) = false := by decide) (hcd : (a == ("__classdict__" : Str)) = false := by decide) :
    PE X (.Call (.Name x p) [.Lambda params body scope lpos] [] pos) (tLamR P (X.env.qual ++ "<lambda>") TT t) := by
  subst hsc
  obtain ⟨oc, od, dV, kV, doc, pm, an, cdv, ct, osl, e, lk, hcg, _, _⟩ := F.ex
  obtain ⟨ds, hb, hds⟩ := cal.b
  cases hds
  rw [e] at lk hb
  refine ⟨fun pins s σ H Q I h => ?_⟩
  obtain ⟨hT, h⟩ := h
  refine wpAny_Call_Name_kw (ld_glob I hg hm ?_ hdb)
  refine PySem.W.callWith_K (h₀ := X.base) I.ok.mod.kin F.kp ?_ (by rfl) (by rfl)
  show wpAny _ _ (spliced ((false, eval (.Lambda params body scope lpos) X.env) :: backTo pos (starEach [] X.env))) _ _ s
  refine Calls.spliced_cons (lamMake I TB hcode hT hdef (L.has I.ok) fun f c' pm' ctv H3 s3 I3 eN T3 hf hfn hfr hco => ?_)
  refine Calls.spliced_nil ⟨I3.kIn, ?_⟩
  have rc : codeAny (model X.prog X.w) X.A (.call (.ref g) ⟨[.ref f], []⟩) (CR (L2.CX X.prog X.w) X.stack X.prog X.w H3 s3 Q E0) s3 := by
    refine run_ofS (N := Ng) (ps := [a]) (us := [.ref f]) (vs := [.ref f]) lk hcg Sg (k := k + 2) hr I3.env0 (by
      have := hb s3 [.ref f] I3.kIn rfl
      simpa using this) (.cons rfl .nil) rfl fun hr' => ?_
    exact hG cdv f c' s3 H3 Q (fun E H' Q' => t E σ H' Q') (hr'.mono (by omega)) (fun W pn xe E p1 p2 tk hW => pe_act (CXg := L2.CX X.prog X.w) (i := 0) (k := k) I3 L hf hfn hfr (hbind _ _ _ _ _) (takes_len tk) (fun cls d σ' H' h l => hW cls d σ' H' l h) (hr'.mono (by omega)) (fun A outer s H hr2 => hbody A outer s H E f c' hr2) hNg hva hd hcd) hco (h H3 eN T3)
  refine wpAny_call (codeAny_mono rc fun r s' hq => ?_)
  cases r with
  | error e => exact passL (X := X) pins σ H3 s3 e s' I3 hq
  | ok fl =>
    cases fl with
    | ret u => exact I3.after hq
    | next => exact False.elim hq
    | brk => exact False.elim hq
    | cont => exact False.elim hq
def tActR (W : WX) (n : Nat) (R : XK → TE) : TS := fun D σ H => ∃ E : XK, (∀ cls d (σ' : L2.St) H', σ'.length = n → E cls d H' → W cls d σ' H') ∧ R E σ H fun _ H' => D.nx σ H'
theorem z_actR {X : Cx} {e : Expr} {W : WX} {n : Nat} {R : XK → TE} {pos : Pos} (h : ∀ E : XK, (∀ cls d (σ' : L2.St) H', σ'.length = n → E cls d H' → W cls d σ' H') → PE X e (R E)) (hs : swapsWith e none pos.line X.env = pure false := by rfl) : PS X (.Expr e pos) (tActR W n R) := by
  refine ⟨fun pins s σ H D I h' => ?_⟩
  obtain ⟨E, hW, q⟩ := h'
  exact (ps_expr (pos := pos) (h E hW) hs).run pins s σ H D I q
theorem z_mkX {X : Cx} {x : Str} {C f : Addr} {k : Nat} {ps : List Str} {sp : Sp} {dvs : List V} {e : Expr} {es : List Expr} {ta : TA} {p pos : Pos} (T : OexC X.K C) (i : OexI X.K C f) (F1 : FnX X k f ps sp) (c : Cal X.K f ps dvs) (hr : Room (k + 1) X.A) (hg : Gl X x) (hm : X.mg x = some (.ref C)) (ha : L2.PA X (e :: es) ta)
    (hdb : (x == ("__debug__" : Str)) = false := by decide) (he : starEach (e :: es) X.env = (false, eval e X.env) :: starEach es X.env := by rfl) (hpl : (backTo pos (starEach es X.env)).any (·.1) = false := by rfl) : PMk X (.Call (.Name x p) (e :: es) [] pos) (tMkO C sp dvs ta) := by
  obtain ⟨ds, hb, hd⟩ := c.b
  exact pmk_oex T i.i i.t F1 hr hb hd passL hg hm ha hdb he hpl
end Z
set_option maxHeartbeats 1000000
namespace Z
open PySem PySem.Spec PyProof.Rows L2
open He (ga ma)
theorem _root_.L2.ExcC.xf {K : Fg} {C : Addr} (h : L2.ExcC K C) : XfC K C := ⟨h.hg, h.hk, h.hs, h.hd⟩
theorem s_bin {σ : L2.St} {H : Hp} {B : Addr} {to t : TE} {Q : VK} (q : to σ H fun x H1 => x = .ref B ∧ t σ H1 Q) : tBin B to t σ H Q := q
theorem same_xd {H : Hp} {a d : Addr} {o o2 u : HO} {fs : List (Str × V)} (ha : H a = none) (hd : H d = none) (n : d ≠ a) : Same H (upd (del (upd (upd (upd H a o) d u) a o2) a) d (.xd fs)) := fun b v e => by
  have b1 : b ≠ a := fun z => by
    rw [z, ha] at e
    cases e
  have b2 : b ≠ d := fun z => by
    rw [z, hd] at e
    cases e
  rw [upd_ne b2, del_ne b1, upd_ne b1, upd_ne b2, upd_ne b1]
  exact e
theorem str_len_app (a b : Str) : (a ++ b).length = a.length + b.length := by
  show (a.cps ++ b.cps).size = a.cps.size + b.cps.size
  exact Array.size_append
theorem mt_indexK {X : Cx} (K : Fg) (hK : X.K = K := by rfl) : MtR X "list.index" (rIndex K) := by subst hK; exact mt_index
end Z
set_option maxHeartbeats 1000000
namespace Z
open PySem PySem.Spec PyProof.Rows L2
open He (ga ma)
def fmtV : V → Option Str
  | .str y => if y.length ≤ 1000 then some y else none
  | .int i => if i.natAbs.log2 < 1920 then some (toString i) else none
  | .non => some "None"
  | .bl b => some (if b then "True" else "False")
  | _ => none
end Z
set_option maxHeartbeats 1000000
namespace Z
open PySem PySem.Spec PyProof.Rows L2
open LamX (lamCx lamEnv inv_table run_ofS CodeO codeO_ne TabB TabS among_app)
structure Lm where
  ps : Arguments
  body : Expr
  scope : Scope
  own : Option (Nat × Str × V)
def FnO (env : Env) (d : Lm) (dV : Value) (c' f : Addr) : HO := .ext fun h => ∃ doc pm ctv, h.get? f = some (PySem.W.kdv_obj "<lambda>" (env.qual ++ "<lambda>") d.ps (.expr d.body) d.scope (cloFrom env.cells d.scope.names []) dV doc pm c' ctv)
theorem fnO_ok {P : Program} {w : World} {H : Hp} {h : Heap} {env : Env} {d : Lm} {dV doc pm ctv : Value} {c' f : Addr} (e : h.get? f = some (PySem.W.kdv_obj "<lambda>" (env.qual ++ "<lambda>") d.ps (.expr d.body) d.scope (cloFrom env.cells d.scope.names []) dV doc pm c' ctv)) : ObjOk P w H h f (FnO env d dV c' f) :=
  ⟨⟨doc, pm, ctv, e⟩, ⟨_, e⟩, fun h1 h2 ⟨a, b, c, k⟩ st => ⟨a, b, c, st _ k⟩⟩
def DfltAt (d : Lm) (dV : Value) (H : Hp) : Prop := match d.own with
  | none => dV = .none
  | some (_, _, v) => ∃ t, dV = .ref t ∧ H t = some (.tup [v])
def Kept (env : Env) (d : Lm) (f : Addr) (H : Hp) : Prop := ∃ (c' : Addr) (dV : Value), H c' = some (CodeO c' (env.qual ++ "<lambda>")) ∧ H f = some (FnO env d dV c' f) ∧ DfltAt d dV H
theorem DfltAt.ext {d : Lm} {dV : Value} {H H' : Hp} (h : DfltAt d dV H) (e : ∀ t xs, H t = some (.tup xs) → H' t = some (.tup xs)) : DfltAt d dV H' := by
  unfold DfltAt at h ⊢
  split at h
  · exact h
  · obtain ⟨t, e1, e2⟩ := h
    exact ⟨t, e1, e _ _ e2⟩
theorem Kept.same {env : Env} {d : Lm} {f : Addr} {H H' : Hp} (h : Kept env d f H) (s : Same H H') : Kept env d f H' := by
  obtain ⟨c', dV, h1, h2, h3⟩ := h
  exact ⟨c', dV, s _ _ h1, s _ _ h2, h3.ext fun t xs e => s _ _ e⟩
def NoE (H : Hp) (a : Addr) : Prop := ∀ φ, H a ≠ some (.ext φ)
theorem Kept.fr {env : Env} {d : Lm} {f : Addr} {N : List Addr} {H H' : Hp} (h : Kept env d f H) (s : Fr N H H') (n : ∀ a ∈ N, NoE H a) : Kept env d f H' := by
  obtain ⟨c', dV, h1, h2, h3⟩ := h
  refine ⟨c', dV, s.at h1 fun z => n _ z _ h1, s.at h2 fun z => n _ z _ h2, h3.ext fun t xs e => ?_⟩
  exact s.1 t _ e (.inr rfl)
section
variable {X : Cx} {pins : List (Addr × Obj)} {σ : L2.St} {H : Hp} {s : Shared}
theorem lamTail {c P : Addr} {d : Lm} {dV : Value} {pos : Pos} {E Q : Value → Shared → Prop} (I : Inv X pins σ H s) (TB : TabB X.base X.mg c P) (hcode : X.env.code = .ref c) (hT : TabS H P (X.env.qual ++ "<lambda>"))
    (hfree : ∀ y ∈ d.scope.names, y.2 = .free → ∃ c, X.env.cells.lookup y.1 = some c)
    (h : ∀ (f c' : Addr) (H1 : Hp) (s' : Shared), Inv X pins σ H1 s' → Fr [P] H H1 → TabS H1 P (X.env.qual ++ "<lambda>") → H f = none → H1 f = some (FnO X.env d dV c' f) → H1 c' = some (CodeO c' (X.env.qual ++ "<lambda>")) → Q (.ref f) s') :
    wpAny (model X.prog X.w) X.A (makeTail "<lambda>" (X.env.qual ++ "<lambda>") d.ps (.expr d.body) d.scope X.env dV .none none pos pos.line) Q E s := by
  have hT0 := hT
  obtain ⟨ps, hP, ht, ha⟩ := hT
  have pB : s.heap.BuiltinsAt X.mg P := TB.bm.keeps I.bk
  have pO : s.heap.get? P = some { cls := .none, data := .fields ps } := I.hok P _ hP
  cases hc : codeAmong pos ps.toList with
  | some cv =>
    obtain ⟨c', rfl, hco⟩ := ha pos cv hc
    refine PySem.W.kdv_makeTailHit (mg := X.mg) (c := c) (P := P) (ps := ps) (closure_ok hfree) I.ok.glob (I.mod.glob.keeps I.bk) hcode (TB.code.keeps I.bk) pO ht hc pB fun ctv doc h' tk hx hz => ?_
    have nf : H h'.objs.size = none := I.hok.fresh hz
    have I1 := I.laid (a := h'.objs.size) (o := FnO X.env d dV c' h'.objs.size) (t' := tk) (h' := h'.push (PySem.W.kdv_obj "<lambda>" (X.env.qual ++ "<lambda>") d.ps (.expr d.body) d.scope (cloFrom X.env.cells d.scope.names []) dV doc ((X.mg "__name__").getD .none) c' ctv)) (fun b o e => Heap.get?_push_of_some _ (hx b o e)) hz (fnO_ok (Heap.get?_push_size _ rfl))
    refine h h'.objs.size c' _ _ I1 (Fr.new nf) (hT0.ext fun b o e => ?_) nf upd_same ?_
    · rw [upd_ne (ne_of_none e nf)]; exact e
    · rw [upd_ne (ne_of_none hco nf)]; exact hco
  | none =>
    refine PySem.W.kdv_makeTail (mg := X.mg) (c := c) (P := P) (ps := ps) (closure_ok hfree) I.ok.glob (I.mod.glob.keeps I.bk) hcode (TB.code.keeps I.bk) pO ht hc TB.gP pB fun c' ctv doc h' tk hx hge hlt hrec htb => ?_
    obtain ⟨_, oc, vs, t, e2, ho, hd, hv⟩ := hrec
    cases e2
    have hz : s.heap.objs.size ≤ h'.objs.size := Nat.le_trans hge (Nat.le_of_lt hlt)
    have nc : H c' = none := I.hok.fresh hge
    have nPc : P ≠ c' := ne_of_none hP nc
    have I1 := inv_table (t' := tk) (more := #[rawInt pos.line, rawInt pos.col, .ref c']) (h' := h') I hP (fun b o hb e => hx b o hb e) htb hge ⟨oc, vs, t, ho, hd, hv⟩
    generalize hH1 : upd (upd H P (.tbl (ps ++ #[rawInt pos.line, rawInt pos.col, .ref c']))) c' (CodeO c' (X.env.qual ++ "<lambda>")) = H1 at I1
    have nf : H1 h'.objs.size = none := I1.hok.fresh (Nat.le_refl _)
    have nf0 : H h'.objs.size = none := I.hok.fresh hz
    have f1 : Fr [P] H (upd H P (.tbl (ps ++ #[rawInt pos.line, rawInt pos.col, .ref c']))) := Fr.upd (by simp) hP rfl
    have nc1 : (upd H P (.tbl (ps ++ #[rawInt pos.line, rawInt pos.col, .ref c']))) c' = none := by rw [upd_ne (Ne.symm nPc)]; exact nc
    have f2 : Fr [P] H H1 := by
      rw [← hH1]
      exact f1.trans (Fr.new (o := CodeO c' (X.env.qual ++ "<lambda>")) nc1)
    have tb1 : TabS H1 P (X.env.qual ++ "<lambda>") := by
      rw [← hH1]
      refine ⟨ps ++ #[rawInt pos.line, rawInt pos.col, .ref c'], by rw [upd_ne nPc, upd_same], ?_, fun p' cv k => ?_⟩
      · rw [Array.toList_append]
        exact PySem.TriplesOk_snoc _ _ _ _ ht
      · rw [Array.toList_append] at k
        rcases among_app _ ht k with k | k
        · obtain ⟨c0, e1, e2⟩ := ha p' cv k
          refine ⟨c0, e1, ?_⟩
          have n1 : c0 ≠ P := fun e => by
            rw [e, hP] at e2
            exact codeO_ne ps (Option.some.inj e2).symm
          rw [upd_ne (ne_of_none e2 nc), upd_ne n1]
          exact e2
        · exact ⟨c', k, upd_same⟩
    have co1 : H1 c' = some (CodeO c' (X.env.qual ++ "<lambda>")) := by rw [← hH1]; exact upd_same
    have I2 := I1.laid (a := h'.objs.size) (o := FnO X.env d dV c' h'.objs.size) (t' := tk) (h' := h'.push (PySem.W.kdv_obj "<lambda>" (X.env.qual ++ "<lambda>") d.ps (.expr d.body) d.scope (cloFrom X.env.cells d.scope.names []) dV doc ((X.mg "__name__").getD .none) c' ctv)) (fun b o e => Heap.get?_push_of_some _ e) (Nat.le_refl _) (fnO_ok (Heap.get?_push_size _ rfl))
    refine h h'.objs.size c' _ _ I2 (f2.trans (Fr.new nf)) (tb1.ext fun b o e => ?_) nf0 upd_same ?_
    · rw [upd_ne (ne_of_none e nf)]; exact e
    · rw [upd_ne (ne_of_none co1 nf)]; exact co1
def tLamV (env : Env) (P : Addr) (d : Lm) : TE := fun σ H Q => TabS H P (env.qual ++ "<lambda>") ∧ ∀ f H1, Fr [P] H H1 → TabS H1 P (env.qual ++ "<lambda>") → H f = none → Kept env d f H1 → Q (.ref f) H1
theorem s_lamV {env : Env} {P : Addr} {d : Lm} {Q : VK} (q : TabS H P (env.qual ++ "<lambda>") ∧ ∀ f H1, Fr [P] H H1 → TabS H1 P (env.qual ++ "<lambda>") → H f = none → Kept env d f H1 → Q (.ref f) H1) : tLamV env P d σ H Q := q
theorem z_lamV0 {c P : Addr} {params : Arguments} {body : Expr} {scope : Scope} {pos : Pos} (TB : TabB X.base X.mg c P) (hcode : X.env.code = .ref c) {sc : Scope} (hsc : X.env.scope = sc)
    (hfr : ∀ y ∈ scope.names, y.2 = .free → sc.names.lookup y.1 = some .cell ∨ sc.names.lookup y.1 = some .free) (hdef : defaultsOf params X.env = ([], [])) : PE X (.Lambda params body scope pos) (tLamV X.env P ⟨params, body, scope, none⟩) := by
  subst hsc
  refine ⟨fun pins s σ H Q I h => ?_⟩
  obtain ⟨hT, h⟩ := h
  refine PySem.W.kla_eval hdef ?_
  rw [makeFunction_eq]
  simp only [List.zip_nil_right, List.filterMap_nil, List.isEmpty_nil, if_true, pure_bind]
  have hfree : ∀ y ∈ scope.names, y.2 = .free → ∃ c, X.env.cells.lookup y.1 = some c := fun y hy e => by
    rcases hfr y hy e with k | k
    · exact I.ok.has _ (.inl k)
    · exact I.ok.has _ (.inr k)
  exact lamTail (d := ⟨params, body, scope, none⟩) (dV := .none) I TB hcode hT hfree fun f c' H1 s' I1 fr t1 nf hf hc => ⟨.ref f, H1, I1, rfl, h f H1 fr t1 nf ⟨c', .none, hc, hf, rfl⟩⟩
theorem z_lamV1 {c P : Addr} {params : Arguments} {body e : Expr} {scope : Scope} {pos : Pos} {i : Nat} {y : Str} {v : V} (TB : TabB X.base X.mg c P) (hcode : X.env.code = .ref c) {sc : Scope} (hsc : X.env.scope = sc)
    (hfr : ∀ y ∈ scope.names, y.2 = .free → sc.names.lookup y.1 = some .cell ∨ sc.names.lookup y.1 = some .free) (hd : params.defaults = [e]) (hk : params.kw_defaults = []) (he : ∀ H s pins σ, Inv X pins σ H s → wpAny (model X.prog X.w) X.A (eval e X.env) (fun u s' => Inv X pins σ H s' ∧ RelV v u) X.xe s) :
    PE X (.Lambda params body scope pos) (tLamV X.env P ⟨params, body, scope, some (i, y, v)⟩) := by
  subst hsc
  refine ⟨fun pins s σ H Q I h => ?_⟩
  obtain ⟨hT, h⟩ := h
  refine PySem.W.kdv_lam (by rw [hd]; rfl) hk ?_
  rw [hd]
  refine PySem.W.kdv_all1 (thn (he H s pins σ I) fun u s1 ⟨I1, ru⟩ => PySem.W.kdv_all0 ?_)
  rw [makeFunction_eq]
  simp only [List.zip_nil_right, List.filterMap_nil, List.isEmpty_nil, if_true, pure_bind, List.isEmpty_cons, Bool.false_eq_true, if_false]
  refine wpAny_bind (wpAny_newTextTuple ?_)
  have hfree : ∀ y ∈ scope.names, y.2 = .free → ∃ c, X.env.cells.lookup y.1 = some c := fun y hy e => by
    rcases hfr y hy e with k | k
    · exact I.ok.has _ (.inl k)
    · exact I.ok.has _ (.inr k)
  have nt : H s1.heap.objs.size = none := I1.hok.fresh (Nat.le_refl _)
  have I2 := I1.laid (a := s1.heap.objs.size) (o := .tup [v]) (t' := s1.toks) (h' := s1.heap.push { cls := .type "tuple", data := .seq ([u] : List Value).toArray }) (fun b o e => Heap.get?_push_of_some _ e) (Nat.le_refl _) ⟨by rw [sizeLine_eq, List.length_singleton]; decide, [u], .cons ru .nil, IsTup.new s1.heap _⟩
  have s2 : Same H (upd H s1.heap.objs.size (.tup [v])) := fun b o e => by rw [upd_ne (ne_of_none e nt)]; exact e
  exact lamTail (d := ⟨params, body, scope, some (i, y, v)⟩) (dV := .ref s1.heap.objs.size) I2 TB hcode (hT.ext fun b o e => s2 _ _ e) hfree fun f c' H1 s' I3 fr t1 nf hf hc =>
    ⟨.ref f, H1, I3, rfl, h f H1 ((Fr.new nt).trans fr) t1 (by
      cases e : H f with
      | none => rfl
      | some o => rw [s2 _ _ e] at nf; cases nf) ⟨c', _, hc, hf, _, rfl, fr.1 _ _ upd_same (.inr rfl)⟩⟩
end
end Z
set_option maxHeartbeats 1000000
namespace Z
open PySem PySem.Spec PyProof.Rows L2
open LamX (lamCx lamEnv run_ofS CodeO TabB TabS)
structure LmS (sc scope : Scope) (y : Option Str) : Prop where
  kind : scope.kind = .function
  co : scope.isCoroutine = false
  gen : scope.isGenerator = false
  par : ∀ x, y = some x → scope.names.lookup x = some .local
  own : ∀ z ∈ scope.names, z.2 ≠ .cell ∧ (z.2 = .local → y = some z.1)
  free : ∀ z ∈ scope.names, z.2 = .free → sc.names.lookup z.1 = some .cell ∨ sc.names.lookup z.1 = some .free
def lmSB (sc scope : Scope) (y : Option Str) : Bool :=
  decide (scope.kind = .function) && (!scope.isCoroutine && (!scope.isGenerator && ((match y with
    | none => true
    | some x => decide (scope.names.lookup x = some .local)) && scope.names.all fun z => !decide (z.2 = .cell) && ((!decide (z.2 = .local) || decide (y = some z.1)) && (!decide (z.2 = .free) || (decide (sc.names.lookup z.1 = some .cell) || decide (sc.names.lookup z.1 = some .free)))))))
theorem lmS_by {sc scope : Scope} {y : Option Str} (h : lmSB sc scope y = true) : LmS sc scope y := by
  unfold lmSB at h
  simp only [Bool.and_eq_true, Bool.or_eq_true, Bool.not_eq_true', decide_eq_true_eq, decide_eq_false_iff_not, List.all_eq_true] at h
  obtain ⟨a, b, c, d, e⟩ := h
  refine ⟨a, b, c, fun x k => ?_, fun z hz => ⟨(e z hz).1, fun k => ?_⟩, fun z hz k => ?_⟩
  · subst k
    simpa using d
  · exact (e z hz).2.1.elim (fun n => absurd k n) id
  · exact (e z hz).2.2.elim (fun n => absurd k n) id
def setOwn (o : Option (Nat × Str × V)) (σ : L2.St) : L2.St := match o with
  | none => σ
  | some (i, _, v) => σ.set i (some v)
def OwnB (N : List Str) (o : Option (Nat × Str × V)) (bs : List (Str × Value)) : Prop := match o with
  | none => bs = []
  | some (i, y, v) => N[i]? = some y ∧ ∃ u, RelV v u ∧ bs = [(y, u)]
section
variable {X : Cx} {pins : List (Addr × Obj)} {σ : L2.St} {H HZ : Hp} {s s1 : Shared}
theorem lm_start {A : Around} {outer : List Env} {E : XK} {scope : Scope} {f c' : Addr} {h1 : Heap} {tk : Nat} {o : Option (Nat × Str × V)} {bs : List (Str × Value)} {ex : List Addr} (I : Inv X pins σ H s) (L : LmS X.env.scope scope (o.map (·.2.1))) (ho : OwnB X.N o bs) (hnd : X.N.Nodup)
    (e0 : Env0 X.prog X.w X.K X.mg X.base A outer s1 HZ) (hd : A.handled = none) (un : Un (frs X.stack) ex H HZ s.heap s1.heap) (hex : ∀ z c, X.env.cells.lookup z = some c → c ∉ ex) (hns : h1.Ns s1.heap.objs.size fun z => bs.reverse.lookup z) (kp : ∀ b o, s1.heap.get? b = some o → h1.get? b = some o) :
    Inv (lamCx X A outer s1 HZ E scope f c') [] (setOwn o σ) HZ { s1 with heap := h1, toks := tk } := by
  have hth : ∀ z ∈ scope.names, z.2 = .free → ∃ c, X.env.cells.lookup z.1 = some c := fun z hz e => (L.free z hz e).elim (fun k => I.ok.has _ (.inl k)) fun k => I.ok.has _ (.inr k)
  have back : ∀ {z c}, (cloFrom X.env.cells scope.names []).lookup z = some c → X.env.cells.lookup z = some c := fun {z c} e => by
    rcases cloFrom_mem (PySem.mem_of_lookup e) with k | ⟨k1, k2⟩
    · cases k
    · obtain ⟨d, hc⟩ := hth _ k1 rfl
      have hc : X.env.cells.lookup z = some d := hc
      rw [show c = d by rw [k2, hc] <;> rfl]
      exact hc
  have find : ∀ {z}, scope.names.lookup z = some .free → ∃ c, (cloFrom X.env.cells scope.names []).lookup z = some c := fun {z} hl =>
    mem_lookup (cloFrom_has (cells := X.env.cells) (acc := []) (show (z, NameKind.free) ∈ scope.names from PySem.mem_of_lookup hl))
  have cellS : ∀ {c : Addr} {v : Option Value}, H c = none → c ∉ ex → s.heap.IsCell c v → h1.IsCell c v := fun {c v} n nx ⟨o, ho, hd⟩ => by
    obtain ⟨sl, q⟩ := un.any ho n nx
    exact ⟨_, kp _ _ q, hd⟩
  have none_ : ∀ b : Addr, b ∉ (lamCx X A outer s1 HZ E scope f c').ex := fun b z => by
    have z : b ∈ ([] : List Addr) := z
    simp at z
  have hl0 : (setOwn o σ).length = X.N.length := by
    rw [← I.len]
    unfold setOwn
    split
    · rfl
    · exact List.length_set
  refine ⟨⟨e0.mod, L.kind, rfl, rfl, Nat.le_refl _, fun z z' c e1 e2 => I.ok.inj z z' c (back e1) (back e2), fun z hz => ?_, fun z c k _ => ?_, fun _ => hd, Around.frames_deeper e0.frames, .inr ⟨rfl, rfl⟩, fun b z => absurd z (none_ b), e0.bs, e0.bsz, fun b _ _ => none_ b, fun b z => absurd z (none_ b), e0.funs, e0.frf⟩,
    rfl, e0.bare, Un.kept kp, ⟨_, hns, fun j z v' e1 e2 e3 => ?_⟩, fun z c e => ?_, e0.hok.fresh (Nat.le_refl _), fun z c e => ?_, fun q hq => ?_, e0.hok.kept kp, ?_⟩
  · have hz : scope.names.lookup z = some .cell ∨ scope.names.lookup z = some .free := hz
    rcases hz with hz | hz
    · exact absurd rfl (L.own _ (PySem.mem_of_lookup hz)).1
    · exact find hz
  · have z' : false = true := k
    cases z'
  · have e1 : X.N[j]? = some z := e1
    have e3 : Vis scope z := e3
    rcases e3 with k | k | k
    · have ez := (L.own _ (PySem.mem_of_lookup k)).2 rfl
      unfold OwnB at ho
      unfold setOwn at e2
      cases o with
      | none => cases ez
      | some w =>
        obtain ⟨i, y, v⟩ := w
        dsimp only at ho e2
        obtain ⟨hi, u, ru, rfl⟩ := ho
        cases ez
        have ej : j = i := ixU hnd e1 hi
        subst ej
        have hil : j < σ.length := by
          rw [I.len]
          exact (List.getElem?_eq_some_iff.mp hi).1
        rw [List.getElem?_set_self hil] at e2
        have e2 : v = v' := Option.some.inj (Option.some.inj e2)
        subst e2
        refine ⟨u, ru, .inl ⟨k, ?_⟩⟩
        simp
    · exact absurd rfl (L.own _ (PySem.mem_of_lookup k)).1
    · have e2 : σ[j]? = some (some v') := by
        unfold OwnB at ho
        unfold setOwn at e2
        cases o with
        | none => exact e2
        | some w =>
          obtain ⟨i, y, v⟩ := w
          dsimp only at ho e2
          obtain ⟨hi, _⟩ := ho
          have hj : i ≠ j := fun e => by
            subst e
            rw [hi] at e1
            have e1 : y = z := Option.some.inj e1
            have kp2 := L.par y rfl
            rw [e1, k] at kp2
            cases kp2
          rw [List.getElem?_set_ne hj] at e2
          exact e2
      obtain ⟨m, hn, hl⟩ := I.loc
      have vis : Vis X.env.scope z := .inr (L.free _ (PySem.mem_of_lookup k) rfl)
      obtain ⟨w', r, q⟩ := hl j z v' e1 e2 vis
      obtain ⟨c2, h2⟩ := find k
      refine ⟨w', r, .inr ⟨.inr k, c2, h2, ?_⟩⟩
      have c1 := back h2
      rcases q with ⟨k', _⟩ | ⟨_, c3, e', zz⟩
      · have k' : X.env.scope.names.lookup z = some .local := k'
        rcases L.free _ (PySem.mem_of_lookup k) rfl with k2 | k2 <;> rw [show X.env.scope.names.lookup z = _ from k2] at k' <;> cases k'
      · rw [c1] at e'
        cases e'
        exact cellS (I.freeC z _ c1) (hex _ _ c1) zz
  · obtain ⟨w', k⟩ := I.cell z c (back e)
    exact ⟨w', cellS (I.freeC z c (back e)) (hex _ _ (back e)) k⟩
  · obtain ⟨v', o, ho, hd⟩ := I.cell z c (back e)
    exact un.free c o ho (I.freeC z c (back e)) (hex _ _ (back e))
  · have hq : q ∈ ([] : List (Addr × Obj)) ++ [] := hq
    simp at hq
  · exact hl0
def BindL (d : Lm) : Prop := ∀ (q : Str) (cl : List (Str × Addr)) (dV doc pm cv ctv : Value), match d.own with
  | none => dV = .none → bindArgs (PySem.W.kdv_fn "<lambda>" q d.ps (.expr d.body) d.scope cl dV doc pm cv ctv) ⟨[], []⟩ = pure []
  | some (_, y, _) => ∃ k, bindArgs (PySem.W.kdv_fn "<lambda>" q d.ps (.expr d.body) d.scope cl dV doc pm cv ctv) ⟨[], []⟩ = seqItems? dV >>= k ∧ ∀ u : Value, k (some #[u]) = pure [(y, u)]
theorem pe_actK {CXg : CXT} {Eg : XK} {Ng : List Str} {qg : Str} {sg : Scope} {g f : Addr} {cdg : Value} {d : Lm} {k i : Nat} {a : Str} {pn : List (Addr × Obj)} {xe : Value → Shared → Prop} {W : WX} {E : XK} {tb : TE} {p1 p2 : Pos} {s0 : Shared} {H0 : Hp} {ex : List Addr} {c' : Addr}
    (I : Inv X pins σ H0 s0) (un : Un (frs X.stack) ex H0 H s0.heap s.heap) (hex : ∀ z c, X.env.cells.lookup z = some c → c ∉ ex) (hnd : X.N.Nodup) (L : LmS X.env.scope d.scope (d.own.map (·.2.1))) (hi : ∀ i y v, d.own = some (i, y, v) → X.N[i]? = some y) (hb : BindL d)
    (tk : Takes ((cxOf CXg X.prog X.w X.K X.mg X.base Ng qg sg g cdg X.A X.stack s H Eg).tr pn xe) W) (hW : ∀ cls d σ' H', E cls d H' → W cls d σ' H') (hr : Room (k + 1) (X.A.deeper (envOfC qg sg s.heap.objs.size g cdg)))
    (hbody : ∀ (A : Around) (outer : List Env) (s : Shared) (H : Hp) (c' : Addr), Room k (A.deeper (lamEnv X d.scope s.heap.objs.size f c')) → PE (lamCx X A outer s H E d.scope f c') d.body tb)
    (hN : Ng[i]? = some a) (hv : Vis sg a) (hd : (a == ("__debug__" : Str)) = false := by decide) (hcd : (a == ("__classdict__" : Str)) = false := by decide) :
    PE ((cxOf CXg X.prog X.w X.K X.mg X.base Ng qg sg g cdg X.A X.stack s H Eg).tr pn xe) (.Call (.Name a p1) [] [] p2)
      (fun σZ HZ Q => σZ[i]? = some (some (.ref f)) ∧ Kept X.env d f HZ ∧ tb (setOwn d.own σ) HZ Q) := by
  refine ⟨fun pinsZ sZ σZ HZ Q IZ h => ?_⟩
  obtain ⟨hs, hk, ht⟩ := h
  refine wpAny_Call_Name_kw (thn ((pe_var (pos := p1) (i := i) hN hv hd hcd).run pinsZ sZ σZ HZ (fun v H1 => v = .ref f ∧ H1 = HZ) IZ ⟨.ref f, hs, rfl, rfl⟩) fun u s1 ⟨v, H1, I1, r1, q1⟩ => ?_)
  obtain ⟨ev, eH⟩ := q1
  subst ev
  rw [eH] at I1
  obtain rfl : u = Value.ref f := r1
  obtain ⟨c1, dV, hc, hf, hdf⟩ := hk
  obtain ⟨⟨doc, pm, ctv, of1⟩, _, _⟩ := I1.hok f _ hf
  refine PySem.W.callWith_F0 ⟨_, _, _, _, of1⟩ ?_
  have un1 : Un (frs X.stack) [] H HZ s.heap s1.heap := I1.base
  have un2 : Un (frs X.stack) ex H0 HZ s0.heap s1.heap := un.trans (un1.mono (fun _ z => z) fun b z => absurd z (by simp))
  obtain ⟨⟨oc, vs, t, hoc, hdc, hvc⟩, _, _⟩ := I1.hok c1 _ hc
  have rc : codeAny (model X.prog X.w) (X.A.deeper (envOfC qg sg s.heap.objs.size g cdg)) (.call (.ref f) ⟨[], []⟩) (CR (L2.CX X.prog X.w) (envOfC qg sg s.heap.objs.size g cdg :: X.stack) X.prog X.w HZ s1 Q E) s1 := by
    have fin : ∀ bs : List (Str × Value), OwnB X.N d.own bs → (∀ y ∈ bs, d.scope.names.lookup y.1 = some .local) → wpAny (model X.prog X.w) (X.A.deeper (envOfC qg sg s.heap.objs.size g cdg)).in1
        (newFunctionEnv d.scope mainGlobals (cloFrom X.env.cells d.scope.names []) bs ((X.env.qual ++ "<lambda>") ++ ".<locals>.") (some f) (.ref c1) none builtinsNs)
        (fun env s₂ => s₂.heap.NoLimit ∧ codeAny (model X.prog X.w) (X.A.deeper (envOfC qg sg s.heap.objs.size g cdg)) (.expr d.body env) (CR (L2.CX X.prog X.w) (envOfC qg sg s.heap.objs.size g cdg :: X.stack) X.prog X.w HZ s1 Q E) s₂) (fun e s' => CR (L2.CX X.prog X.w) (envOfC qg sg s.heap.objs.size g cdg :: X.stack) X.prog X.w HZ s1 Q E (.error e) s') s1 := by
      intro bs hob hloc
      refine wpAny_newFunctionEnv (fun y hy => (L.own y hy).1) hloc (fun h₁ hns hsb => ⟨I1.nolimit.fresh _ hsb, ?_⟩) L.kind
      show codeAny _ _ (.expr d.body (lamEnv X d.scope s1.heap.objs.size f c1)) _ _
      have kp : ∀ b o, s1.heap.get? b = some o → h₁.get? b = some o := fun b o e => hsb.extBut b o (Nat.ne_of_lt (Heap.lt_size e)) (Heap.get?_push_of_some _ e)
      have J := lm_start (E := E) (f := f) (c' := c1) (tk := s1.toks + bs.length) (A := X.A.deeper (envOfC qg sg s.heap.objs.size g cdg)) (outer := envOfC qg sg s.heap.objs.size g cdg :: X.stack) I L hob hnd I1.env0 hr.hd un2 hex hns kp
      refine PySem.W.kla_codeExpr (wpAny_mono ((hbody _ _ s1 HZ c1 (hr.deeper _)).run [] _ _ HZ Q J ht) (fun v s' hq => ?_) fun e s' hq => hq)
      obtain ⟨w', H', J', rv, q⟩ := hq
      exact ⟨w', H', J'.os, J'.bare, J'.base, J'.hok, rv, q⟩
    refine PySem.W.kla_callFunE hr.depth of1 rfl L.co L.gen rfl ⟨c1, oc, vs, t, rfl, hoc, hdc, hvc⟩ ?_
    have hb := hb (X.env.qual ++ "<lambda>") (cloFrom X.env.cells d.scope.names []) dV doc pm (.ref c1) ctv
    unfold DfltAt at hdf
    cases e : d.own with
    | none =>
      rw [e] at hb hdf
      have hb := hb hdf
      rw [hb]
      exact wpAny_pure (fin [] (by rw [e]; rfl) (by simp))
    | some w =>
      obtain ⟨i, y, v⟩ := w
      rw [e] at hb hdf
      obtain ⟨kk, hb1, hb2⟩ := hb
      obtain ⟨T0, rfl, hT0⟩ := hdf
      obtain ⟨_, its, rv, ob, hob, hcl, n, hdt⟩ := I1.hok T0 _ hT0
      obtain ⟨u, rfl, ru⟩ : ∃ u, its = [u] ∧ RelV v u := by
        cases rv with
        | cons h t =>
          cases t
          exact ⟨_, rfl, h⟩
      refine BindsTo.of_defaults (binds := [(y, u)]) rfl hob hdt hb1 (hb2 u) _ _ _ _ ?_
      exact fin [(y, u)] (by rw [e]; exact ⟨hi i y v e, u, ru, rfl⟩) (by
        intro z hz
        rw [List.mem_singleton.mp hz]
        exact L.par y (by rw [e]; rfl))
  have hx : Passes (L2.CX X.prog X.w) ((cxOf CXg X.prog X.w X.K X.mg X.base Ng qg sg g cdg X.A X.stack s H Eg).tr pn xe) E := passes_call tk hW
  refine wpAny_call (codeAny_mono rc fun r s' hq => ?_)
  cases r with
  | error e => exact hx pinsZ σZ HZ s1 e s' I1 hq
  | ok fl =>
    cases fl with
    | ret u => exact I1.after hq
    | next => exact False.elim hq
    | brk => exact False.elim hq
    | cont => exact False.elim hq
end
end Z
set_option maxHeartbeats 1000000
namespace Z
open PySem PySem.Spec PyProof.Rows L2
open LamX (lamCx lamEnv run_ofS CodeO TabB TabS)
structure LmT where
  d : Lm
  t : XK → TE
def tCallL (env : Env) (ds : List LmT) (TT : (XK → Hp → VK → Prop) → Hp → VK → Prop) (te : TE) (σ0 : L2.St) : TE := fun σ H Q => te σ H fun v H1 => ∃ f z, v = .ref f ∧ z ∈ ds ∧ Kept env z.d f H1 ∧ TT (fun E H' Q' => Kept env z.d f H' ∧ z.t E (setOwn z.d.own σ0) H' Q') H1 Q
theorem s_callL {env : Env} {ds : List LmT} {TT : (XK → Hp → VK → Prop) → Hp → VK → Prop} {te : TE} {σ0 σ : L2.St} {H : Hp} {Q : VK} (q : te σ H fun v H1 => ∃ f z, v = .ref f ∧ z ∈ ds ∧ Kept env z.d f H1 ∧ TT (fun E H' Q' => Kept env z.d f H' ∧ z.t E (setOwn z.d.own σ0) H' Q') H1 Q) : tCallL env ds TT te σ0 σ H Q := q
structure LmOk (X : Cx) (k : Nat) (z : LmT) : Prop where
  s : LmS X.env.scope z.d.scope (z.d.own.map (·.2.1))
  i : ∀ i y v, z.d.own = some (i, y, v) → X.N[i]? = some y
  b : BindL z.d
  p : ∀ (A : Around) (outer : List Env) (s : Shared) (H : Hp) (E : XK) (f c' : Addr), Room k (A.deeper (lamEnv X z.d.scope s.heap.objs.size f c')) → PE (lamCx X A outer s H E z.d.scope f c') z.d.body (z.t E)
section
variable {X : Cx} {k : Nat} {ds : List LmT} {TT : (XK → Hp → VK → Prop) → Hp → VK → Prop} {x a : Str} {g : Addr} {pg : Arguments} {bg : List Stmt} {sg : Scope} {Ng : List Str}
theorem callL_at {s0 sY sI : Shared} {H0 HY H : Hp} {envY : Env} {outY : List Env} {exY : List Addr} {fnY : Str → Bool} {calmY : Bool} {pnY pins pinsY : List (Addr × Obj)} {xeY : Value → Shared → Prop} {σ0 σ : L2.St} {ex : List Addr} {z : LmT} {f : Addr} {Q : VK}
    (F : FunD X.K x x pg bg sg [] [] g (fdOf X.K g)) (cal : Cal X.K g [a] []) (Sg : FnScope Ng [a] sg) (hNg : Ng[0]? = some a) (hva : Vis sg a) (hG : ∀ cdv, GivesR X Ng x sg g cdv bg a (X.env.qual ++ "<lambda>") TT) (hr : Room (k + 3) X.A)
    (I0 : Inv X pins σ0 H0 s0) (un : Un (frs X.stack) ex H0 H s0.heap sI.heap) (hex : ∀ z c, X.env.cells.lookup z = some c → c ∉ ex) (hnd : X.N.Nodup) (hz : LmOk X k z)
    (I : Inv { X with s_0 := sY, H_0 := HY, env := envY, outer := outY, ex := exY, fn := fnY, calm := calmY, pn := pnY, xe := xeY } pinsY σ H sI) (hk : Kept X.env z.d f H) (h : TT (fun E H' Q' => Kept X.env z.d f H' ∧ z.t E (setOwn z.d.own σ0) H' Q') H Q) (hd : (a == ("__debug__" : Str)) = false) (hcd : (a == ("__classdict__" : Str)) = false) :
    wpAny (model X.prog X.w) X.A (call (.ref g) [.ref f]) (EP { X with s_0 := sY, H_0 := HY, env := envY, outer := outY, ex := exY, fn := fnY, calm := calmY, pn := pnY, xe := xeY } pinsY σ Q) xeY sI := by
  obtain ⟨oc, od, dV, kV, doc, pm, an, cdv, ct, osl, e, lk, hcg, _, _⟩ := F.ex
  obtain ⟨dz, hb, hdz⟩ := cal.b
  cases hdz
  rw [e] at lk hb
  have hk0 := hk
  obtain ⟨c', dV', hco, _, _⟩ := hk0
  have rc : codeAny (model X.prog X.w) X.A (.call (.ref g) ⟨[.ref f], []⟩) (CR (L2.CX X.prog X.w) X.stack X.prog X.w H sI Q E0) sI := by
    refine run_ofS (N := Ng) (ps := [a]) (us := [.ref f]) (vs := [.ref f]) lk hcg Sg (k := k + 2) hr I.env0 (by
      have := hb sI [.ref f] I.kIn rfl
      simpa using this) (.cons rfl .nil) rfl fun hr' => ?_
    refine hG cdv f c' sI H Q _ (hr'.mono (by omega)) (fun W pn xe E p1 p2 tk hW => ?_) hco h
    have P1 := pe_actK (CXg := L2.CX X.prog X.w) (i := 0) (k := k) (p1 := p1) (p2 := p2) (tb := z.t E) (c' := c') I0 un hex hnd hz.s hz.i hz.b (takes_len tk) (fun cls d σ' H' h l => hW cls d σ' H' l h) (hr'.mono (by omega)) (fun A outer s H c2 hr2 => hz.p A outer s H E f c2 hr2) hNg hva hd hcd
    exact ⟨fun pz sz σz Hz Qz Iz hh => P1.run pz sz σz Hz Qz Iz ⟨hh.1, hh.2.2.1, hh.2.2.2⟩⟩
  refine wpAny_call (codeAny_mono rc fun r s' hq => ?_)
  cases r with
  | error e => exact passL (X := { X with s_0 := sY, H_0 := HY, env := envY, outer := outY, ex := exY, fn := fnY, calm := calmY, pn := pnY, xe := xeY }) pinsY σ H sI e s' I hq
  | ok fl =>
    cases fl with
    | ret u => exact I.after hq
    | next => exact False.elim hq
    | brk => exact False.elim hq
    | cont => exact False.elim hq
theorem z_callLB {e : Expr} {te : TE} {p pos : Pos} {scope : Scope} {cl : List (Str × Addr)} {C : Addr} {fp : List Addr} {pins : List (Addr × Obj)} {σ0 : L2.St} {H0 : Hp} {s0 : Shared} (I0 : Inv X pins σ0 H0 s0) (hfp : ∀ b ∈ fp, FpOk X pins H0 b) (hds : ∀ z ∈ ds, LmOk X k z) (hnd : X.N.Nodup)
    (F : FunD X.K x x pg bg sg [] [] g (fdOf X.K g)) (cal : Cal X.K g [a] []) (hg : Gl (X.blk s0 H0 scope (compEnvC scope cl C X.env) fp) x) (hm : X.mg x = some (.ref g)) (Sg : FnScope Ng [a] sg) (hNg : Ng[0]? = some a) (hva : Vis sg a)
    (hG : ∀ cdv, GivesR X Ng x sg g cdv bg a (X.env.qual ++ "<lambda>") TT) (hr : Room (k + 3) X.A) (he : PE (X.blk s0 H0 scope (compEnvC scope cl C X.env) fp) e te)
    (hst : starEach [e] (compEnvC scope cl C X.env) = (false, eval e (compEnvC scope cl C X.env)) :: starEach [] (compEnvC scope cl C X.env) := by rfl) (hpl : (backTo pos (starEach [] (compEnvC scope cl C X.env))).any (·.1) = false := by rfl) (hbk : backTo pos (starEach [e] (compEnvC scope cl C X.env)) = [(false, eval e (compEnvC scope cl C X.env))] := by rfl)
    (hdb : (x == ("__debug__" : Str)) = false := by decide) (hd : (a == ("__debug__" : Str)) = false := by decide) (hcd : (a == ("__classdict__" : Str)) = false := by decide) :
    PE (X.blk s0 H0 scope (compEnvC scope cl C X.env) fp) (.Call (.Name x p) [e] [] pos) (tCallL X.env ds TT te σ0) := by
  refine ⟨fun pins1 s σ H Q I h => ?_⟩
  refine wpAny_Call_Name_kw (ld_glob I hg hm ?_ hdb)
  refine PySem.W.callWith_K (h₀ := X.base) I.ok.mod.kin F.kp ?_ hst hpl
  rw [hbk]
  refine Calls.spliced_cons (thn (he.run pins1 s σ H _ I h) fun u s1 ⟨v, H1, I1, r1, f, z, ev, hz, hk, q⟩ => ?_)
  subst ev
  obtain rfl : u = Value.ref f := r1
  refine Calls.spliced_nil ⟨I1.kIn, ?_⟩
  have un : Un (frs X.stack) fp H0 H1 s0.heap s1.heap := I1.base
  exact callL_at (X := X) (sY := s0) (HY := H0) (envY := compEnvC scope cl C X.env) (outY := X.stack) (exY := fp) (fnY := fun x => scope.names.lookup x == some .cell) (calmY := X.calm) (pnY := []) (xeY := fun _ _ => False) F cal Sg hNg hva hG hr I0 un (fun y c e k => (hfp c k).2.2.2.2.1 y c e rfl) hnd (hds z hz) I1 hk q hd hcd
end
section
variable {X : Cx}
def tLcKept (wi : TI) (g : TG) (tt : L2.St → TT) (te : L2.St → TE) (vs : List Nat) : TE := fun σ => tLc wi g (tt σ) (te σ) vs σ
theorem s_lcKept {wi : TI} {g : TG} {tt : L2.St → TT} {te : L2.St → TE} {vs : List Nat} {σ : L2.St} {H : Hp} {Q : VK} (q : tLc wi g (tt σ) (te σ) vs σ H Q) : tLcKept wi g tt te vs σ H Q := q
theorem pe_lcKept {elt tg iter : Expr} {ifs : List Expr} {scope : Scope} {own : List (Str × Nat)} {pos : Pos} {wi : TI} {g : TG} {tt : L2.St → TT} {te : L2.St → TE} (calm : X.calm = true) (nd : X.N.Nodup) (pi : PI X tg iter wi) (ok : BlkOk X.N X.env.scope scope own)
    (hg : ∀ (s : Shared) (H : Hp) (C : Addr) (cl : List (Str × Addr)) (fp : List Addr), PG (X.blk s H scope (compEnvC scope cl C X.env) fp) tg g)
    (ht : ∀ (s : Shared) (H : Hp) (C : Addr) (cl : List (Str × Addr)) (fp : List Addr) (pins : List (Addr × Obj)) (σ : L2.St), Inv X pins σ H s → (∀ b ∈ fp, FpOk X pins H b) → PTs (X.blk s H scope (compEnvC scope cl C X.env) fp) ifs (tt σ))
    (he : ∀ (s : Shared) (H : Hp) (C : Addr) (cl : List (Str × Addr)) (fp : List Addr) (pins : List (Addr × Obj)) (σ : L2.St), Inv X pins σ H s → (∀ b ∈ fp, FpOk X pins H b) → PE (X.blk s H scope (compEnvC scope cl C X.env) fp) elt (te σ))
    (hs : ∀ x, foldedSetIterable iter X.env x = pure x := by intro _; rfl) :
    PE X (.ListComp elt [⟨tg, iter, ifs, 0⟩] scope pos) (tLcKept wi g tt te (own.map (·.2))) := by
  refine ⟨fun pins s0 σ H0 Q J0 wish => ?_⟩
  rw [eval_ListComp]
  have has : ∀ y ∈ scope.names, y.2 = .free → ∃ c, X.env.cells.lookup y.1 = some c := fun y hy e => (ok.free y hy e).elim (fun k => J0.ok.has _ (.inl k)) fun k => J0.ok.has _ (.inr k)
  -- what is walked, then the new list at D
  refine wpAny_comprehension_free (use := none) rfl hs (closure_ok has) ok.kind (fun y hy e => by rw [ok.uniq y hy, e]) (thn (pi.run pins s0 σ H0 _ J0 wish) fun xv sa hx => thn hx fun iv sb hb => ?_)
  obtain ⟨it, fp, tn, W0, Hb, ei, Jb, tu, stb, fb, q⟩ := hb
  subst ei
  refine wpAny_newObj_type (newEnv_comp ?_) (by show 0 ≤ sizeLine; decide)
  have Dn : Hb sb.heap.objs.size = none := Jb.hok.fresh (Nat.le_refl _)
  obtain ⟨W, ⟨m0, w0⟩, turn⟩ := q _ Dn
  obtain ⟨sc, esc⟩ : ∃ sc : Shared, ({ sb with heap := sb.heap.push { cls := .type "list", data := .seq ([] : List Value).toArray } } : Shared) = sc := ⟨_, rfl⟩
  have hpc : sc.heap = sb.heap.push { cls := .type "list", data := .seq ([] : List Value).toArray } := by rw [← esc]
  have Jc0 : Inv X pins σ (upd Hb sb.heap.objs.size (.lst [])) sc := by
    rw [← esc]
    exact Jb.laid (t' := sb.toks) (fun b o e => Heap.get?_push_of_some _ e) (Nat.le_refl _) ⟨Nat.zero_le _, [], 0, .nil, Heap.get?_push_size _ rfl⟩
  generalize eHc : upd Hb sb.heap.objs.size (.lst []) = Hc at w0 Jc0
  generalize eD : sb.heap.objs.size = D at *
  have young : ∀ b ∈ fp, b < sb.heap.objs.size := fun b hb => by
    obtain ⟨o, e, _⟩ := tu.obj _ _ stb b hb
    exact Heap.lt_size e
  have fc : ∀ b ∈ fp, FpOk X pins Hc b ∧ b < sc.heap.objs.size := fun b hb => by
    have lt := young b hb
    obtain ⟨z1, z2⟩ := fb b hb
    refine ⟨⟨?_, z2⟩, by rw [hpc, Heap.size_push]; exact Nat.lt_succ_of_lt lt⟩
    rw [← eHc, upd_ne (by rw [← eD]; exact Nat.ne_of_lt lt)]
    exact z1
  have stc : tn 0 sc.heap := tu.keep _ _ _ stb fun b _ o e => by rw [hpc]; exact Heap.get?_push_of_some _ e
  have Jd := block_start Jc0 ok nd fc
  have pg := hg sc Hc sc.heap.objs.size (cellsFrom (sc.heap.objs.size + 1) scope.names (cloFrom X.env.cells scope.names [])) fp
  have pt := ht sc Hc sc.heap.objs.size (cellsFrom (sc.heap.objs.size + 1) scope.names (cloFrom X.env.cells scope.names [])) fp pins σ Jc0 fun b hb => (fc b hb).1
  have pe := he sc Hc sc.heap.objs.size (cellsFrom (sc.heap.objs.size + 1) scope.names (cloFrom X.env.cells scope.names [])) fp pins σ Jc0 fun b hb => (fc b hb).1
  rw [esc]
  show codeAny _ _ (.compStart (.ListComp elt [⟨tg, iter, ifs, 0⟩] scope pos) 0 (.ref it) (.ref D) (compEnvC scope (cellsFrom (sc.heap.objs.size + 1) scope.names (cloFrom X.env.cells scope.names [])) sc.heap.objs.size X.env)) (compPost (model X.prog X.w) X.A X.xe none (EP X pins σ Q) (.ref D) sc.heap.objs.size) { sc with heap := pushCells (sc.heap.push { cls := .type "dict", data := .dict #[] }) scope.names }
  generalize ece : compEnvC scope (cellsFrom (sc.heap.objs.size + 1) scope.names (cloFrom X.env.cells scope.names [])) sc.heap.objs.size X.env = ce at Jd pg pt pe ⊢
  have eL : ce.locals = sc.heap.objs.size := by rw [← ece]; rfl
  have std : tn 0 (pushCells (sc.heap.push { cls := .type "dict", data := .dict #[] }) scope.names) := tu.keep _ _ _ stc fun b _ o e => pushCells_keeps _ _ _ _ (Heap.get?_push_of_some _ e)
  have free_ : ∀ {σ' : L2.St} {H' : Hp} {s' : Shared}, Inv (X.blk sc Hc scope ce fp) [] σ' H' s' → (∀ b ∈ fp, H' b = none) → ∀ b ∈ fp, FpOk (X.blk sc Hc scope ce fp) [] H' b := fun {σ' H' s'} J n b hb =>
    ⟨n b hb, (J.ok.exf b hb).1, J.ok.exfs b hb, .inl hb, fun x c e => (J.ok.exf b hb).2 x c e, fun p hp => absurd (show p ∈ ([] : List (Addr × Obj)) ++ [] from hp) (by simp)⟩
  have loop : codeAny (model X.prog X.w) X.A (.compLoop (.ListComp elt [⟨tg, iter, ifs, 0⟩] scope pos) 0 (.ref it) (.ref D) ce) (compPost (model X.prog X.w) X.A X.xe none (EP X pins σ Q) (.ref D) sc.heap.objs.size) { sc with heap := pushCells (sc.heap.push { cls := .type "dict", data := .dict #[] }) scope.names } := by
    refine compLoop_any (fun n s' => ∃ i H', Inv (X.blk sc Hc scope ce fp) [] (wipe σ (own.map (·.2))) H' s' ∧ tn i s'.heap ∧ (∀ b ∈ fp, H' b = none) ∧ W i n H') (fun n s5 inv => ?_) m0 ⟨0, Hc, Jd, std, fun b hb => (fc b hb).1.1, w0⟩
    obtain ⟨i, H5, J5, st5, n5, w5⟩ := inv
    rcases turn i n H5 w5 with ⟨stop, fin⟩ | ⟨go, Nx, less, step⟩
    · refine thnF (tu.done (X.blk sc Hc scope ce fp) rfl rfl rfl calm i [] s5 _ H5 (fun _ _ => False) J5 (free_ J5 n5) st5 stop) fun r s6 ⟨er, J6⟩ => ?_
      subst er
      -- behind the block: the def's own context again
      have back : Inv X pins σ H5 s6 := Jc0.call' (ch := fp) J6.os J6.base J6.hok J6.bare fun b hb => by
        obtain ⟨⟨_, z2, z3, z4, z5, z6⟩, _⟩ := fc b hb
        exact ⟨z4, z2, z5, z6⟩
      have nL : H5 sc.heap.objs.size = none := by
        have z : H5 ce.locals = none := J6.free
        rwa [eL] at z
      obtain ⟨m, hn, _⟩ := J6.loc
      have hn : s6.heap.Ns ce.locals m := hn
      rw [eL] at hn
      obtain ⟨z0, z1, z2, z3, z4, z5⟩ := Jc0.fpOk (H' := H5) (Nat.le_refl _) nL
      exact ⟨m, hn, fun h'' sm => ⟨.ref D, H5, back.turned (t' := s6.toks) (fun b o hb e => (sm.2 b hb).trans e) z0 z1 z3 z4 z5, rfl, fin⟩⟩
    · refine thnF (tu.item (X.blk sc Hc scope ce fp) rfl rfl rfl calm i [] s5 _ H5 (fun _ _ => False) J5 (free_ J5 n5) st5 go) fun r s6 ⟨u, hr, h6⟩ => ?_
      subst hr
      refine thnF h6 fun _ s7 ⟨xv, H7, J7, r7, y7, st7, n7⟩ => ?_
      refine thnF (pg.run _ s7 _ H7 xv u _ (J7.pinned (free_ J7 n7) (tu.obj _ _ st7)) r7 (step xv H7 y7)) fun _ s8 ⟨σ8, H8, J8, hw, q8⟩ => ?_
      refine thnF (pt.run _ s8 σ8 H8 _ J8 q8) fun b s9 ⟨H9, J9, q9⟩ => ?_
      have close : ∀ {s' : Shared} {H' : Hp}, Inv (X.blk sc Hc scope ce fp) ([] ++ pinsAt fp s7.heap) σ8 H' s' → Nx H' → ∃ m, m < n ∧ ∃ i H', Inv (X.blk sc Hc scope ce fp) [] (wipe σ (own.map (·.2))) H' s' ∧ tn i s'.heap ∧ (∀ b ∈ fp, H' b = none) ∧ W i m H' := fun {s' H'} J nx => by
        obtain ⟨m', lt, w'⟩ := less H' nx
        have stay : ∀ b ∈ fp, ∀ o, s7.heap.get? b = some o → s'.heap.get? b = some o ∧ H' b = none := fun b hb o e => by
          obtain ⟨z1, z2, _⟩ := J.pin (b, o) (List.mem_append_right _ (List.mem_append_right _ (mem_pinsAt hb e)))
          exact ⟨z1, z2⟩
        refine ⟨m', lt, i + 1, H', (J.unpinned (pins := [])).weak (by rw [← wipe_length σ8, hw]) (fun j v e => ?_), tu.keep _ _ _ st7 fun b hb o e => (stay b hb o e).1, fun b hb => ?_, w'⟩
        · rw [← hw] at e
          exact (wipe_some e).1
        · obtain ⟨o, e, _⟩ := tu.obj _ _ st7 b hb
          exact (stay b hb o e).2
      cases b with
      | false =>
        simp only [Bool.false_eq_true, if_false] at q9 ⊢
        exact close J9 q9
      | true =>
        simp only [if_true] at q9 ⊢
        refine thnF (pe.run _ s9 σ8 H9 _ J9 q9) fun zv s10 ⟨yv, H10, J10, r10, acc, eD10, lz, nx⟩ => ?_
        exact app_ok (X := X.blk sc Hc scope ce fp) J10 eD10 lz r10 fun s11 J11 => close J11 nx
  exact codeAny_compStart_list loop (tu.self X.A 0 _ _ _ std loop)
end
end Z
set_option maxHeartbeats 1000000
namespace Z
open PySem PySem.Spec PyProof.Rows L2
open LamX (TabB TabS CodeO)
def stIn : Stmt → Nat → Stmt
  | .For _ _ b _ _, k => b.getD k (.Pass ⟨0, 0, 0, 0⟩)
  | .While _ b _ _, k => b.getD k (.Pass ⟨0, 0, 0, 0⟩)
  | .If _ b _ _, k => b.getD k (.Pass ⟨0, 0, 0, 0⟩)
  | s, _ => s
def noEx : Expr := .Name "" ⟨0, 0, 0, 0⟩
def stEx : Stmt → Expr
  | .Assign _ e _ => e
  | .Expr e _ => e
  | .Return (some e) _ => e
  | .If e _ _ _ => e
  | _ => noEx
def exIn : Expr → Nat → Expr
  | .List es _, k => es.getD k noEx
  | .Tuple es _ _, k => es.getD k noEx
  | .BinOp l _ r _, k => if k = 0 then l else r
  | .BoolOp _ es _, k => es.getD k noEx
  | .Compare l _ cs _, k => if k = 0 then l else cs.getD (k - 1) noEx
  | .Call f as _ _, k => if k = 0 then f else as.getD (k - 1) noEx
  | e, _ => e
def lmAt (e : Expr) (own : Option (Nat × Str × V)) : Lm := match e with
  | .Lambda ps b sc _ => ⟨ps, b, sc, own⟩
  | e => ⟨⟨[], [], none, [], [], none, []⟩, e, { kind := .function, names := [], isGenerator := false, isCoroutine := false }, own⟩
section
variable {X : Cx} {d : Lm}
theorem z_lam0 {c P : Addr} {params : Arguments} {body : Expr} {scope : Scope} {pos : Pos} (d : Lm) (hd : d = ⟨params, body, scope, none⟩) (TB : TabB X.base X.mg c P) (hcode : X.env.code = .ref c) {sc : Scope} (hsc : X.env.scope = sc) (L : LmS sc d.scope none)
    (hdef : defaultsOf params X.env = ([], [])) : PE X (.Lambda params body scope pos) (tLamV X.env P d) := by
  subst hd
  exact z_lamV0 TB hcode hsc L.free hdef
theorem z_lam1 {c P : Addr} {params : Arguments} {body e : Expr} {scope : Scope} {pos : Pos} {i : Nat} {y : Str} {v : V} (d : Lm) (hd : d = ⟨params, body, scope, some (i, y, v)⟩) (TB : TabB X.base X.mg c P) (hcode : X.env.code = .ref c) {sc : Scope} (hsc : X.env.scope = sc) (L : LmS sc d.scope (some y))
    (hdd : params.defaults = [e]) (hk : params.kw_defaults = []) (he : PE X e (tC v)) : PE X (.Lambda params body scope pos) (tLamV X.env P d) := by
  subst hd
  refine z_lamV1 TB hcode hsc L.free hdd hk fun H s pins σ I => thn (he.run pins s σ H (fun x H1 => x = v ∧ H1 = H) I ⟨rfl, rfl⟩) fun u s' ⟨x, H1, I1, r, ex, eH⟩ => ?_
  subst ex eH
  exact ⟨I1, r⟩
theorem own0 {N : List Str} (h : d.own = none) : ∀ i y v, d.own = some (i, y, v) → N[i]? = some y := fun i y v e => by
  rw [h] at e
  cases e
theorem own1 {N : List Str} {j : Nat} {x : Str} {u : V} (h : d.own = some (j, x, u)) (hN : N[j]? = some x) : ∀ i y v, d.own = some (i, y, v) → N[i]? = some y := fun i y v e => by
  rw [h] at e
  cases e
  exact hN
theorem bindL0 (h : d.own = none) (b : ∀ (q : Str) (cl : List (Str × Addr)) (doc pm cv ctv : Value), bindArgs (PySem.W.kdv_fn "<lambda>" q d.ps (.expr d.body) d.scope cl .none doc pm cv ctv) ⟨[], []⟩ = pure []) : BindL d := fun q cl dV doc pm cv ctv => by
  rw [h]
  intro e
  subst e
  exact b q cl doc pm cv ctv
theorem bindL1 {j : Nat} {x : Str} {w : V} (h : d.own = some (j, x, w)) (b : ∀ (q : Str) (cl : List (Str × Addr)) (dV doc pm cv ctv : Value), ∃ k, bindArgs (PySem.W.kdv_fn "<lambda>" q d.ps (.expr d.body) d.scope cl dV doc pm cv ctv) ⟨[], []⟩ = seqItems? dV >>= k ∧ ∀ u : Value, k (some #[u]) = pure [(x, u)]) : BindL d := fun q cl dV doc pm cv ctv => by
  rw [h]
  exact b q cl dV doc pm cv ctv
theorem lms_nil {k : Nat} : ∀ z ∈ ([] : List LmT), LmOk X k z := fun _ h => nomatch h
theorem lms_cons {k : Nat} {z : LmT} {ds : List LmT} (h : LmOk X k z) (t : ∀ z ∈ ds, LmOk X k z) : ∀ y ∈ z :: ds, LmOk X k y := fun y hy => by
  rcases List.mem_cons.mp hy with rfl | hy
  · exact h
  · exact t y hy
theorem lmOk {k : Nat} {t : XK → TE} {sc : Scope} (d : Lm) (hsc : X.env.scope = sc) (s : LmS sc d.scope (d.own.map (·.2.1))) (i : ∀ i y v, d.own = some (i, y, v) → X.N[i]? = some y) (b : BindL d)
    (p : ∀ (A : Around) (outer : List Env) (s : Shared) (H : Hp) (E : XK) (f c' : Addr), Room k (A.deeper (LamX.lamEnv X d.scope s.heap.objs.size f c')) → PE (LamX.lamCx X A outer s H E d.scope f c') d.body (t E)) : LmOk X k ⟨d, t⟩ := by
  subst hsc
  exact ⟨s, i, b, p⟩
end
end Z
set_option maxHeartbeats 1000000
namespace Z
open PySem PySem.Spec PyProof.Rows L2
def FmtOk (K : Fg) (H : Hp) (v : V) : Prop := (∃ y, fmtV v = some y ∧ y.length ≤ 1000) ∨ ∃ a l, v = .ref a ∧ SqT K H a (l.map V.str) ∧ (∀ y ∈ l, ∀ c ∈ y.cps.toList, c < 16 ^ 8) ∧ fmtCost l + 7 ≤ 1000
theorem FmtOk.same {K : Fg} {H H' : Hp} {v : V} (h : FmtOk K H v) (s : Same H H') : FmtOk K H' v := by
  rcases h with h | ⟨a, l, e, h1, h2, h3⟩
  · exact .inl h
  · exact .inr ⟨a, l, e, s.sqT h1, h2, h3⟩
theorem FmtOk.tk {K : Fg} {H H' : Hp} {v : V} (h : FmtOk K H v) (s : Tk H H') : FmtOk K H' v := by
  rcases h with h | ⟨a, l, e, h1, h2, h3⟩
  · exact .inl h
  · exact .inr ⟨a, l, e, s.sqT h1, h2, h3⟩
end Z
set_option maxHeartbeats 1000000
namespace Z
open PySem PySem.Spec PyProof.Rows L2
end Z
set_option maxHeartbeats 1000000
namespace Z
open PySem PySem.Spec PyProof.Rows L2
open PySem.W (maxD AlikeAll max_tuple_data maxD_ints)
def rMaxT (K : Fg) : List V → Hp → VK → Prop := fun vs H Q => ∃ (a : Addr) (ns : List Int), vs = [.ref a] ∧ SqT K H a (ns.map V.int) ∧ ns ≠ [] ∧ ∀ m, m ∈ ns → (∀ y, y ∈ ns → y ≤ m) → Q (.int m) H
theorem fold_max_mem : ∀ (r : List Int) (a : Int), (r.foldl max a = a ∨ r.foldl max a ∈ r) ∧ a ≤ r.foldl max a ∧ ∀ x ∈ r, x ≤ r.foldl max a
  | [], a => ⟨.inl rfl, Int.le_refl a, fun x hx => nomatch hx⟩
  | y :: r, a => by
    obtain ⟨h1, h2, h3⟩ := fold_max_mem r (max a y)
    rw [List.foldl_cons]
    refine ⟨?_, by omega, fun x hx => ?_⟩
    · rcases h1 with h1 | h1
      · by_cases h : a ≤ y
        · exact .inr (by rw [h1, Int.max_eq_right h]; exact List.mem_cons_self)
        · exact .inl (by rw [h1]; omega)
      · exact .inr (List.mem_cons_of_mem _ h1)
    · rcases List.mem_cons.mp hx with rfl | hx
      · omega
      · exact h3 x hx
theorem dpa_ints {K : Fg} {H : Hp} : ∀ ns : List Int, DpAll K H (ns.map V.int) (ns.map PyData.int)
  | [] => .nil
  | n :: ns => .cons (.int n) (dpa_ints ns)
section
variable {X : Cx} (K : Fg)
theorem cr_minK (hc : X.calm = true) (hK : X.K = K := by rfl) : CallR X (.builtin "min") (rMin K) := by subst hK; exact cr_min hc
end
section
variable {X : Cx}
theorem cr_maxT (hc : X.calm = true) (hu : X.A.units + 64 < cLine) : CallR X (.builtin "max") (rMaxT X.K) := by
  intro pins s σ H vs us Q I r h
  obtain ⟨a, ns, rfl, hs, hne, q⟩ := h
  obtain ⟨x, l, rfl⟩ := List.exists_cons_of_ne_nil hne
  obtain ⟨its, rv, hl, hz⟩ := I.tuple hs
  rw [Vals.ref1 r]
  obtain ⟨as, hr⟩ := reads_of I rv (dpa_ints (x :: l))
  rw [List.map_cons] at hr
  have al : AlikeAll (PyData.int x :: l.map PyData.int) := by
    rw [← List.map_cons]
    refine ⟨fun p hp y hy => ?_, fun p hp => ?_⟩
    · obtain ⟨p, _, rfl⟩ := List.mem_map.mp hp
      obtain ⟨y, _, rfl⟩ := List.mem_map.mp hy
      simp [PySem.W.alike]
    · obtain ⟨p, _, rfl⟩ := List.mem_map.mp hp
      intro e
      cases e
  have dp : PyData.depthAll (PyData.int x :: l.map PyData.int) ≤ 60 := by
    rw [← List.map_cons]
    generalize x :: l = m
    induction m with
    | nil => exact Nat.zero_le _
    | cons y m ih =>
      show max (PyData.int y).depth _ ≤ 60
      exact Nat.max_le.mpr ⟨of_decide_eq_true rfl, ih⟩
  refine max_tuple_data (I.ok.hd hc) hl hr al (by omega) fun i v h' tk bs hi hr2 hk => ?_
  rw [maxD_ints] at hr2
  have hi' : its[i]? = some v := by simpa using hi
  have I2 : Inv X pins σ H { s with heap := h', toks := tk } := I.kept hk
  obtain ⟨y, hy, ry⟩ : ∃ y, ((x :: l).map V.int)[i]? = some y ∧ RelV y v := by
    have hlen := rv.length
    have hi1 := (List.getElem?_eq_some_iff.mp hi').1
    obtain ⟨u, h1, h2⟩ := rv.get (List.getElem?_eq_getElem (show i < ((x :: l).map V.int).length by omega))
    rw [hi'] at h1
    cases h1
    exact ⟨_, List.getElem?_eq_getElem _, h2⟩
  rw [List.getElem?_map] at hy
  obtain ⟨p, hp, rfl⟩ := Option.map_eq_some_iff.mp hy
  obtain ⟨cs, hr3⟩ := Dp.reads I2 _ _ _ (Dp.int p) ry
  have e := PySem.W.alike_unique _ _ _ _ _ (by simp [PySem.W.alike]) hr3 hr2
  obtain ⟨h1, h2, h3⟩ := fold_max_mem l x
  have e2 : p = l.foldl max x := by injection e
  refine ⟨.int p, H, I2, ry, q p (List.mem_of_getElem? hp) fun y hy => ?_⟩
  rw [e2]
  rcases List.mem_cons.mp hy with rfl | hy
  · exact h2
  · exact h3 y hy
theorem cr_maxTK {K : Fg} (hc : X.calm = true) (hu : X.A.units + 64 < cLine) (hK : X.K = K := by rfl) : CallR X (.builtin "max") (rMaxT K) := by
  subst hK
  exact cr_maxT hc hu
end
end Z
set_option maxHeartbeats 1000000
namespace Z
open PySem PySem.Spec PyProof.Rows L2
open He (ga ma)
end Z
set_option maxHeartbeats 4000000
namespace Z
open PySem PySem.Spec PyProof.Rows L2
theorem zsep {n a b : Nat} (h1 : a < n) (h2 : b < n) : ZipSep2 (n + 4) (n + 2) (n + 3) n (n + 1) [n, a] [n + 1, b] := by
  have z : ∀ {x y : Nat}, x ≠ y → (show Addr from x) ≠ (show Addr from y) := fun h => h
  constructor
  all_goals first
    | exact z (by omega)
    | (simp only [List.mem_cons, List.not_mem_nil, or_false, not_or, true_or]; done)
    | (intro hm
       simp only [List.mem_cons, List.not_mem_nil, or_false] at hm
       rcases hm with e | e
       · exact absurd e (z (by omega))
       · exact absurd e (z (by omega)))
theorem tuple_mul1 (l : Addr) (items : Array Value) (n : Nat) (dd : Option Addr) (sl : Array (Option Value)) (u : Tok) :
    Meets (Builtin.«tuple.__mul__» ⟨[.ref l, .int 1 u], []⟩) (fun _ R s => s.heap.get? l = some { cls := .type "tuple", dict := dd, data := .seq items n, slots := sl } ∧ R (.ok (.ret (Value.ref l))) s) :=
  .of_wp fun prog w A R s h => by
    obtain ⟨hp, g, d, tk, os⟩ := s
    obtain ⟨hl, h⟩ := h
    have f1 := AutoSeq1.idx_int
    wp_walk using wpAny_loadPart' hl
    exact ⟨_, rfl, h⟩
def rRepU (K : Fg) : R2 := fun x y H Q => ∃ l k xs, x = .ref l ∧ y = .int k ∧ SqT K H l xs ∧ xs ≠ [] ∧ 1 ≤ k ∧ k ≤ 1000 ∧ xs.length ≤ 1000 ∧ ∀ p H', Same H H' → SqT K H' p (List.replicate k.toNat xs).flatten → Q (.ref p) H'
theorem op_repU (K : Fg) {X : Cx} (hK : X.K = K := by rfl) : OpR X (binaryOp .Mult) (rRepU K) := by
  subst hK
  intro pins s σ H x y v u Q I rx ry ⟨l, k, xs, ex, ey, hT, hne, h1, h2, hz, q⟩
  by_cases hk : k = 1
  · subst ex ey hk
    cases rx
    obtain ⟨t, rfl⟩ := ry
    obtain ⟨its, r, ⟨⟨cls, dd, data, sl⟩, ho, hc, n, hd⟩, hs⟩ := I.tuple hT
    simp only at hc hd
    subst hc hd
    have key : ∃ v' H', L2.Inv X pins σ H' s ∧ RelV v' (.ref l) ∧ Q v' H' := by
      refine ⟨.ref l, H, I, rfl, q l H (fun a o h => h) ?_⟩
      have e : (List.replicate (1 : Int).toNat xs).flatten = xs := by simp
      rw [e]
      exact hT
    exact wpAny_binaryOp_repeat_ref (T := "tuple") (U := "int") (by decide) ⟨_, ho, rfl⟩ (fun s' => typeIs_int s' 1 t) noFill_tuple_mul F.fills_int_mul F.slot_int_rmul repeat_tuple F.slot_int_index.lookup
      (call_meets F.slot_int_rmul (typeIs_int s 1 t) F.entry_int_rmul (F.args_int_rmul_2 _ _) (int_rmul_tuple 1 t l its.toArray n dd sl)
        ⟨ho, rfl, ⟨_, ho, rfl⟩, call_meets F.slot_tuple_mul ⟨_, ho, rfl⟩ F.entry_tuple_mul (F.args_tuple_mul_2 _ _) (tuple_mul1 l its.toArray n dd sl t) ⟨ho, key⟩⟩)
  · refine op_repT pins s σ H x y v u Q I rx ry ⟨l, k, xs, ex, ey, hT, hne, by omega, h2, hz, fun p hp => q p _ (Same.new hp) ?_⟩
    exact SqT.of upd_same
theorem s_repU {K : Fg} {H : Hp} {Q : VK} {l : Addr} {k : Int} {xs : List V} (hT : SqT K H l xs) (hne : xs ≠ []) (h1 : 1 ≤ k) (h2 : k ≤ 1000) (hz : xs.length ≤ 1000) (q : ∀ p H', Same H H' → SqT K H' p (List.replicate k.toNat xs).flatten → Q (.ref p) H') : rRepU K (.ref l) (.int k) H Q := ⟨l, k, xs, rfl, rfl, hT, hne, h1, h2, hz, q⟩
end Z
set_option maxHeartbeats 4000000
namespace Z
open PySem PySem.Spec PyProof.Rows L2
def ItzN (K : Fg) (a b : Addr) : It where
  go := fun i H => ∃ xs ys x y, SqT K H a xs ∧ SqL K H b ys ∧ xs[i]? = some x ∧ ys[i]? = some y
  yld := fun i H v H' => ∃ T x y, v = .ref T ∧ H T = none ∧ H' = upd H T (.tup [x, y]) ∧ (∀ xs, SqT K H a xs → xs[i]? = some x) ∧ ∀ ys, SqL K H b ys → ys[i]? = some y
  stop := fun i H => ∃ xs ys, SqT K H a xs ∧ SqL K H b ys ∧ i ≤ xs.length ∧ i ≤ ys.length ∧ (i = xs.length ∨ i = ys.length)
theorem turn_zipN {P : Program} {w : World} {K : Fg} {elts : List Expr} {kk : Nat} {tpos : Pos} {a b z TI TO i1 i2 : Addr} (S : ZipSep2 z TI TO i1 i2 [i1, a] [i2, b]) (n1 : a ≠ i1) (n2 : b ≠ i2) :
    Turn P w K (.Tuple elts kk tpos) (ItzN K a b) [z, TI, TO, i1, i2] z (fun i h => IsZip h z TI TO .none ∧ IsTupOf2 h TI (.ref i1) (.ref i2) ∧ (∃ x y, IsTupOf2 h TO x y) ∧ h.IsTupleIter i1 a i ∧ h.IsListIter i2 b i) where
  mem := List.mem_cons_self
  obj := by
    rintro i h ⟨hz, hTI, ⟨x, y, hTO⟩, ⟨o1, e1, _, d1⟩, o2, e2, _, d2⟩ c hc
    simp only [List.mem_cons, List.not_mem_nil, or_false] at hc
    rcases hc with rfl | rfl | rfl | rfl | rfl
    · exact ⟨_, hz, fun v q => nomatch q⟩
    · exact ⟨_, hTI, fun v q => nomatch q⟩
    · exact ⟨_, hTO, fun v q => nomatch q⟩
    · exact ⟨o1, e1, fun v q => by rw [d1] at q; cases q⟩
    · exact ⟨o2, e2, fun v q => by rw [d2] at q; cases q⟩
  keep := by
    rintro i h h' ⟨hz, hTI, ⟨x, y, hTO⟩, h1, h2⟩ k
    exact ⟨k z (by simp) _ hz, k TI (by simp) _ hTI, ⟨x, y, k TO (by simp) _ hTO⟩, h1.at (k i1 (by simp)), h2.at (k i2 (by simp))⟩
  item := by
    rintro X rfl rfl rfl hc i pins s σ H E I hf ⟨hz, hTI, ⟨x0, y0, hTO⟩, h1, h2⟩ ⟨xs, ys, x, y, hqx, hqy, hx, hy⟩
    obtain ⟨its, rv, p, _⟩ := I.tuple hqx
    obtain ⟨its2, rv2, p2, _⟩ := I.list hqy
    obtain ⟨u, hu, ru⟩ := rv.get hx
    obtain ⟨u2, hu2, ru2⟩ := rv2.get hy
    have hzl : z < s.heap.objs.size := Heap.lt_size hz
    have lt1 : i < its.toArray.size := by rw [List.size_toArray]; exact (List.getElem?_eq_some_iff.mp hu).1
    have lt2 : i < its2.toArray.size := by rw [List.size_toArray]; exact (List.getElem?_eq_some_iff.mp hu2).1
    refine wpAny_pyNext_zipD2_item S (Draws.tuple (prog := X.prog) (w := X.w) (A := X.A.in1) (I.ok.hd hc) i1 a n1 its.toArray) (Draws.list (prog := X.prog) (w := X.w) (A := X.A.in1) (I.ok.hd hc) i2 b n2 its2.toArray) hz hTI hTO ⟨h1, p⟩ ⟨h2, p2.isList⟩ lt1 lt2 ?_
    intro v1 v2 h' tk q1 q2 z' TO' t1 t2 hT hsz hk
    have e1 : v1 = u := by simpa [hu] using q1.symm
    have e2 : v2 = u2 := by simpa [hu2] using q2.symm
    subst e1 e2
    refine ⟨_, rfl, wpAny_letOwnedTupleGo_zip (s := { s with heap := h', toks := tk }) z' fun h'' z'' sb => ?_⟩
    have hT2 : h''.get? s.heap.objs.size = some { cls := .type "tuple", data := .seq #[v1, v2] } := (sb.2 _ (Nat.ne_of_gt hzl)).trans hT
    have new : ObjOk X.prog X.w (upd H s.heap.objs.size (.tup [x, y])) h'' s.heap.objs.size (.tup [x, y]) := ⟨by show 2 ≤ sizeLine; decide, [v1, v2], .cons ru (.cons ru2 .nil), _, hT2, rfl, _, rfl⟩
    have five : ∀ {c : Addr}, c ∉ [z, TI, TO, i1, i2] → c ≠ z ∧ c ≠ TO ∧ c ≠ i1 ∧ c ≠ i2 := fun hn => by
      simp only [List.mem_cons, List.not_mem_nil, or_false, not_or] at hn
      exact ⟨hn.1, hn.2.2.1, hn.2.2.2.1, hn.2.2.2.2⟩
    refine ⟨.ref s.heap.objs.size, _, I.turnedNew (t' := tk) (ch := [z, TI, TO, i1, i2]) (fun c o hb q => ?_) hf (Nat.le_refl _) new, rfl, ⟨_, x, y, rfl, I.hok.fresh (Nat.le_refl _), rfl, fun l hl => by rw [I.tuple_inj hl hqx]; exact hx, fun l hl => by rw [I.list_inj hl hqy]; exact hy⟩, ⟨z'', ?_, ⟨v1, v2, ?_⟩, ?_, ?_⟩, fun c hcm => ?_⟩
    · obtain ⟨c1, c2, c3, c4⟩ := five hb
      exact (sb.2 _ c1).trans (hk c o c1 c2 c3 c4 q)
    · exact (sb.2 _ S.TIz).trans (hk _ _ S.TIz S.TITO S.TIi1 S.TIi2 hTI)
    · exact (sb.2 _ S.TOz).trans TO'
    · exact t1.1.at fun o q => (sb.2 _ (Ne.symm S.zi1)).trans q
    · exact t2.1.at fun o q => (sb.2 _ (Ne.symm S.zi2)).trans q
    · have hlt : c < s.heap.objs.size := by
        simp only [List.mem_cons, List.not_mem_nil, or_false] at hcm
        rcases hcm with rfl | rfl | rfl | rfl | rfl
        · exact hzl
        · exact Heap.lt_size hTI
        · exact Heap.lt_size hTO
        · exact Heap.lt_size h1.choose_spec.1
        · exact Heap.lt_size h2.choose_spec.1
      rw [upd_ne (Nat.ne_of_lt hlt)]
      exact (hf c hcm).1
  done := by
    rintro X rfl rfl rfl hc i pins s σ H E I hf ⟨hz, hTI, ⟨x0, y0, hTO⟩, h1, h2⟩ ⟨xs, ys, hqx, hqy, le1, le2, hend⟩
    obtain ⟨its, rv, p, _⟩ := I.tuple hqx
    obtain ⟨its2, rv2, p2, _⟩ := I.list hqy
    have l1 := rv.length
    have l2 := rv2.length
    refine wpAny_pyNext_zipD2_end S (Draws.tuple (prog := X.prog) (w := X.w) (A := X.A.in1) (I.ok.hd hc) i1 a n1 its.toArray) (Draws.list (prog := X.prog) (w := X.w) (A := X.A.in1) (I.ok.hd hc) i2 b n2 its2.toArray) hz hTI hTO ⟨h1, p⟩ ⟨h2, p2.isList⟩ (by rw [List.size_toArray]; omega) (by rw [List.size_toArray]; omega) (by rw [List.size_toArray, List.size_toArray]; omega) fun h' tk hk => ?_
    refine ⟨rfl, I.turnedL (t' := tk) (ch := [z, TI, TO, i1, i2]) (fun c o hb q => ?_) hf⟩
    simp only [List.mem_cons, List.not_mem_nil, or_false, not_or] at hb
    exact hk c o hb.1 hb.2.2.1 hb.2.2.2.1 hb.2.2.2.2 q
  self := fun A i s Q E st h => wpAny_pyIter_zip st.1 h
def iZipN (K : Fg) (ta : TA) : TI := fun σ H R => ta σ H fun vs H1 => ∃ a b xs ys, vs = [.ref a, .ref b] ∧ SqT K H1 a xs ∧ SqL K H1 b ys ∧ R (ItzN K a b) H1
theorem pi_zipN {X : Cx} {e e2 : Expr} {ta : TA} {p pos tpos : Pos} {elts : List Expr} {kk : Nat} (hg : Gl X "zip") (hm : X.mg "zip" = none) (ha : L2.PA X [e, e2] ta)
    (hs : starEach [e, e2] X.env = (false, eval e X.env) :: starEach [e2] X.env := by rfl) (hpl : (backTo pos (starEach [e2] X.env)).any (·.1) = false := by rfl) :
    PI X (.Tuple elts kk tpos) (.Call (.Name "zip" p) [e, e2] [] pos) (iZipN X.K ta) := by
  refine ⟨fun pins s σ H R I h => Call_ (ld_blt I hg hm PyProof.Rows.boot_zip (PyProof.Rows.callWith_type1 (thn (ha.run pos pins s σ H _ I h) ?_) hs hpl))⟩
  rintro us s1 ⟨vs, H1, I1, r1, a, b, xs, ys, rfl, hqx, hqy, q⟩
  cases r1 with | cons r rr => ?_
  cases rr with | cons r' rr => ?_
  cases rr
  cases r
  cases r'
  obtain ⟨its, rv, p1, _⟩ := I1.tuple hqx
  obtain ⟨its2, rv2, p2, _⟩ := I1.list hqy
  have la : a < s1.heap.objs.size := Heap.lt_size p1.choose_spec.1
  have lb : b < s1.heap.objs.size := p2.lt
  refine zip_begins2 (begins_tuple a its.toArray) (begins_list b its2.toArray) p1 p2.isList fun h' hz hTI hTO g1 g2 hsz hk => wpAny_pyIter_zip hz ?_
  refine ⟨s1.heap.objs.size + 4, [s1.heap.objs.size + 4, s1.heap.objs.size + 2, s1.heap.objs.size + 3, s1.heap.objs.size, s1.heap.objs.size + 1], _, _, H1, rfl, I1.kept (t' := s1.toks) hk, turn_zipN (zsep la lb) (Nat.ne_of_lt la) (Nat.ne_of_lt (Nat.lt_succ_of_lt lb)), ⟨hz, hTI, ⟨_, _, hTO⟩, ⟨_, g1, rfl, rfl⟩, ⟨_, g2, rfl, rfl⟩⟩, fun c hcm => ?_, q⟩
  have hle : s1.heap.objs.size ≤ c := by
    simp only [List.mem_cons, List.not_mem_nil, or_false] at hcm
    rcases hcm with rfl | rfl | rfl | rfl | rfl
    · exact Nat.le_add_right _ _
    · exact Nat.le_add_right _ _
    · exact Nat.le_add_right _ _
    · exact Nat.le_refl _
    · exact Nat.le_add_right _ _
  exact I1.fpOk hle (I1.hok.fresh hle)
theorem kIZN {X : Cx} (K : Fg) {tg e : Expr} {ta : TA} (h : PI X tg e (iZipN X.K ta)) (hK : X.K = K := by rfl) : PI X tg e (iZipN K ta) := by subst hK; exact h
theorem s_zipN {K : Fg} {ta : TA} {σ : L2.St} {H : Hp} {R : It → Hp → Prop} (q : ta σ H fun vs H1 => ∃ a b xs ys, vs = [.ref a, .ref b] ∧ SqT K H1 a xs ∧ SqL K H1 b ys ∧ R (ItzN K a b) H1) : iZipN K ta σ H R := q
theorem walk_zipN {K : Fg} {a b : Addr} {xs ys : List V} (hn : xs.length = ys.length) : Walk (ItzN K a b) xs.length (fun H => SqT K H a xs ∧ SqL K H b ys) (YPair (fun i => xs[i]?) (fun i => ys[i]?)) := by
  refine ⟨fun i _ hi q => ?_, fun _ q => ⟨xs, ys, q.1, q.2, Nat.le_refl _, by omega, .inl rfl⟩, fun i H v H' _ q y => ?_⟩
  · have h2 : i < ys.length := by omega
    exact ⟨xs, ys, xs[i], ys[i], q.1, q.2, List.getElem?_eq_getElem hi, List.getElem?_eq_getElem h2⟩
  · obtain ⟨T, x, z, h1, h2, h3, h4, h5⟩ := y
    exact ⟨T, x, z, h1, h2, h3, h4 xs q.1, h5 ys q.2⟩
end Z
set_option maxHeartbeats 3200000
namespace Z
open PySem PySem.Spec PyProof.Rows L2 PySem.Froz
end Z
set_option maxHeartbeats 1000000
namespace Z
open PySem PySem.Spec PyProof.Rows L2
abbrev SeenT : Type := Seen × Bool
def tabGood (g : Addr → Option Obj) (tf : List (Fg → Addr)) (K : Fg) : Bool := tf.all fun d =>
  PySem.W.codeHdIn K (codA K (d K)) (tabA K (d K)) && (match g (tabA K (d K)) with
    | none => false
    | some u => He.emptyTab u)
def seeE (as : List Addr) (fa : List (Fg → Bool)) (fn : List DefZ) (tf : List (Fg → Addr)) (g : Addr → Option Obj) : SeenT :=
  (lookZ fa fn (He.frT g as), tabGood g tf (He.frT g as))
structure TabIn (K : Fg) (h : Heap) (f : Addr) : Prop where
  cd : PySem.W.codeHdIn K (codA K f) (tabA K f) = true
  out : K.lookup (tabA K f) = none
  emp : h.get? (tabA K f) = some { cls := .none, data := .fields #[] }
theorem tabIn_of {as : List Addr} {tf : List (Fg → Addr)} {h : Heap} (e : tabGood h.get? tf (He.frT h.get? as) = true) : ∀ d ∈ tf, TabIn (He.frT h.get? as) h (d (He.frT h.get? as)) := fun d hd => by
  obtain ⟨k1, k2⟩ := He.ba (List.all_eq_true.mp e d hd)
  cases q : h.get? (tabA (He.frT h.get? as) (d (He.frT h.get? as))) with
  | none =>
    rw [q] at k2
    cases k2
  | some u =>
    rw [q] at k2
    have k2 : He.emptyTab u = true := k2
    exact ⟨k1, He.frT_none q k2, by rw [q, He.emptyTab_eq k2]⟩
def hookE (as : List Addr) (fa : List (Fg → Bool)) (fn : List DefZ) (tf : List (Fg → Addr)) : PySem.W.Hook where
  α := SeenT
  obs := fun s => seeE as fa fn tf s.heap.get?
  val := fun _ => ((true, fn.map DefZ.due), true)
  says := fun _ h => ∃ K : Fg, K.In h ∧ SaysZ fa fn K ∧ ∀ d ∈ tf, TabIn K h (d K)
  of := fun _ _ e => ⟨_, He.frT_in, congrArg (fun z : SeenT => z.1) e, tabIn_of (congrArg (fun z : SeenT => z.2) e)⟩
  keeps := fun _ _ _ ⟨K, hK, c, t⟩ k => ⟨K, PySem.W.Frag.In.keeps hK k, c, fun d hd => ⟨(t d hd).cd, (t d hd).out, k _ _ (t d hd).emp⟩⟩
theorem seeE_eq {as : List Addr} {fa : List (Fg → Bool)} {fn : List DefZ} {tf : List (Fg → Addr)} {g : Addr → Option Obj} {s : Shared} (h : ∀ a, g a = s.heap.get? a) : seeE as fa fn tf g = (hookE as fa fn tf).obs s := by
  obtain rfl : g = s.heap.get? := funext h
  rfl
theorem walkET {l : PySem.W.OpenLaw} {n k : Nat} {q : Program} {ls : List Str} {XP : (Str → Option Value) → Heap → Prop} {YP : World → Heap → Prop} {d : DefRec} {x : Str} (hn : l.most = some n) (hz : n ≤ sizeLine) (hdf : d.params.defaults = []) (room : Room k callerA)
    (F : ∀ (w : World) (mg : Str → Option Value) (f : Addr) (h : Heap), YP w h → h.Ns mainGlobals mg → mg d.name = some (.ref f) → ∃ (K : Fg) (fd : FuncData) (sp : Sp) (tf : List Addr), K.In h ∧ (∀ u ∈ tf, TabIn K h u) ∧ (∀ (s : Shared) (u : Value), BindsTo s fd ⟨[u], []⟩ [(x, u)]) ∧
      (∀ (H : Hp) (a : Addr) (ns : List Int), ns.length ≤ n → (∀ u ∈ tf, H (tabA K u) = some (.tbl #[])) → SqL K H a (ns.map V.int) → sp [.ref a] H (fun v _ => v = .bl true) fun _ _ _ => False) ∧
      ∀ base : Heap, K.In base → base.Ns mainGlobals mg → (∀ u ∈ tf, LamX.TabB base mg (codA K u) (tabA K u)) → FnOk l.prog w K mg base (L2.CX l.prog w) k f fd [x] sp) :
    PySem.W.WalkO q ls XP YP l.row.toRowW d [] (fun f vs => PySem.call f vs) := by
  refine Att.attach_callB hn hdf fun w _ s1 mg _ f _ _ _ _ a _ ns G Y _ _ _ hm ho hi hl _ hg => ?_
  obtain ⟨K, fd, sp, tf, KX, ht, hb, hsp, hF⟩ := F w mg f _ Y G.T.g hm
  have all : ∀ {R : Addr × Addr → Prop}, (∀ u ∈ tf, R (codA K u, tabA K u)) → ∀ p ∈ tf.map (fun u => (codA K u, tabA K u)), R p := fun {R} h p hp => by
    obtain ⟨u, hu, rfl⟩ := List.mem_map.mp hp
    exact h u hu
  have back : ∀ {R : Addr × Addr → Prop}, (∀ p ∈ tf.map (fun u => (codA K u, tabA K u)), R p) → ∀ u ∈ tf, R (codA K u, tabA K u) := fun {R} h u hu => h _ (List.mem_map_of_mem hu)
  refine LamX.law_callTs (cs := tf.map fun u => (codA K u, tabA K u)) KX G.T.g G.T.b G.T.builtins G.T.nolimit hg (all (R := fun p => s1.heap.get? p.2 = some { cls := .none, data := .fields #[] }) fun u hu => (ht u hu).emp) (all (R := fun p => K.lookup p.2 = none) fun u hu => (ht u hu).out)
    (all (R := fun p => PySem.W.CodeHd s1.heap p.1 p.2) fun u hu => PySem.W.codeHd_of_K KX (ht u hu).cd) G.T.bmain ho hi (Nat.le_trans hl hz) room (fun base h1 h2 h3 => hF base h1 h2 (back (R := fun p => LamX.TabB base mg p.1 p.2) h3)) hb
    (fun H h3 hS => hsp H a ns hl (back (R := fun p => H p.2 = some (.tbl #[])) h3) hS) fun H e s' z => ?_
  obtain ⟨_, _, _, _, _, _, _, _, _, _, _, _, z⟩ := z
  exact z
theorem seeE_parts {as : List Addr} {fa : List (Fg → Bool)} {fn : List DefZ} {tf : List (Fg → Addr)} {g : Addr → Option Obj} (n : Nat) (hA : tabGood g tf (He.frT g as) = true) (hB : (fa.all fun f => f (He.frT g as)) = true)
    (hC : (((fn.take n).all fun d => d.good (He.frT g as)), (fn.take n).map fun d => DefZ.see (He.frT g as) (d.at_ (He.frT g as))) = (true, (fn.take n).map DefZ.due))
    (hD : (((fn.drop n).all fun d => d.good (He.frT g as)), (fn.drop n).map fun d => DefZ.see (He.frT g as) (d.at_ (He.frT g as))) = (true, (fn.drop n).map DefZ.due)) : seeE as fa fn tf g = ((true, fn.map DefZ.due), true) := by
  have e := (List.take_append_drop n fn).symm
  generalize fn.take n = u at *
  generalize fn.drop n = v at *
  subst e
  obtain ⟨c1, c2⟩ := Prod.mk.inj hC
  obtain ⟨d1, d2⟩ := Prod.mk.inj hD
  unfold seeE lookZ
  rw [hA, hB, List.all_append, c1, d1, List.map_append, c2, d2, List.map_append]
  rfl
theorem map_some {S A : Type} {m : Option S} {f : S → A} {a : A} (h : m.map f = some a) : ∃ s, m = some s ∧ f s = a := Option.map_eq_some_iff.mp h
end Z
set_option maxHeartbeats 1000000
namespace T
open PySem PySem.Spec PyProof.Rows L2 Z
open He (ga ma)
def top (i : Nat) : Stmt := PySem.Challenge.pw_callbells_k72_moves_refused.main.body.getD i (.Pass ⟨0, 0, 0, 0⟩)
abbrev s_InvalidMove_init : Stmt := inClass (top 3) 0
def d_InvalidMove_init : DefZ := ⟨fun K => ma K (ga K "InvalidMove") "__init__", "__init__", "InvalidMove.__init__", s_InvalidMove_init, []⟩
abbrev n_InvalidMove_init : List Str := ["self", "index"]
theorem sc_InvalidMove_init : FnScope n_InvalidMove_init ["self", "index"] (defScope s_InvalidMove_init) := ⟨rfl, rfl, rfl, by decide +kernel, rfl, by decide +kernel, by decide +kernel⟩
abbrev s_is_integer : Stmt := top 5
def d_is_integer : DefZ := ⟨fun K => ga K "is_integer", "is_integer", "is_integer", s_is_integer, []⟩
abbrev n_is_integer : List Str := ["value", "low", "high"]
theorem sc_is_integer : FnScope n_is_integer ["value", "low", "high"] (defScope s_is_integer) := ⟨rfl, rfl, rfl, by decide +kernel, rfl, by decide +kernel, by decide +kernel⟩
abbrev s_check_number : Stmt := top 6
def d_check_number : DefZ := ⟨fun K => ga K "check_number", "check_number", "check_number", s_check_number, []⟩
abbrev n_check_number : List Str := ["number", "low", "high"]
theorem sc_check_number : FnScope n_check_number ["number", "low", "high"] (defScope s_check_number) := ⟨rfl, rfl, rfl, by decide +kernel, rfl, by decide +kernel, by decide +kernel⟩
abbrev s_check_loads : Stmt := top 11
def d_check_loads : DefZ := ⟨fun K => ga K "check_loads", "check_loads", "check_loads", s_check_loads, []⟩
abbrev n_check_loads : List Str := ["loads", "places", "count", "load", "place"]
theorem sc_check_loads : FnScope n_check_loads ["loads", "places", "count"] (defScope s_check_loads) := ⟨rfl, rfl, rfl, by decide +kernel, rfl, by decide +kernel, by decide +kernel⟩
abbrev s_spread_of : Stmt := top 12
def d_spread_of : DefZ := ⟨fun K => ga K "spread_of", "spread_of", "spread_of", s_spread_of, []⟩
abbrev n_spread_of : List Str := ["loads", "places", "count", "sums", "load", "place"]
theorem sc_spread_of : FnScope n_spread_of ["loads", "places", "count"] (defScope s_spread_of) := ⟨rfl, rfl, rfl, by decide +kernel, rfl, by decide +kernel, by decide +kernel⟩
abbrev s_fewest_moves : Stmt := top 14
def d_fewest_moves : DefZ := ⟨fun K => ga K "fewest_moves", "fewest_moves", "fewest_moves", s_fewest_moves, []⟩
abbrev n_fewest_moves : List Str := ["loads", "places", "count", "bound", "mover", "many", "moves", "goal"]
theorem sc_fewest_moves : FnScope n_fewest_moves ["loads", "places", "count", "bound"] (defScope s_fewest_moves) := ⟨rfl, rfl, rfl, by decide +kernel, rfl, by decide +kernel, by decide +kernel⟩
abbrev s_least_spread : Stmt := top 15
def d_least_spread : DefZ := ⟨fun K => ga K "least_spread", "least_spread", "least_spread", s_least_spread, []⟩
abbrev n_least_spread : List Str := ["loads", "places", "count", "most", "best", "mover", "many", "moves", "goal"]
theorem sc_least_spread : FnScope n_least_spread ["loads", "places", "count", "most"] (defScope s_least_spread) := ⟨rfl, rfl, rfl, by decide +kernel, rfl, by decide +kernel, by decide +kernel⟩
abbrev s_judge_moves : Stmt := top 16
def d_judge_moves : DefZ := ⟨fun K => ga K "judge_moves", "judge_moves", "judge_moves", s_judge_moves, []⟩
abbrev n_judge_moves : List Str := ["loads", "places", "count", "moves", "now", "known", "index", "move"]
theorem sc_judge_moves : FnScope n_judge_moves ["loads", "places", "count", "moves"] (defScope s_judge_moves) := ⟨rfl, rfl, rfl, by decide +kernel, rfl, by decide +kernel, by decide +kernel⟩
abbrev s_w_taken : Stmt := top 18
def d_w_taken : DefZ := ⟨fun K => ga K "_law_taken", "_law_taken", "_law_taken", s_w_taken, []⟩
abbrev n_w_taken : List Str := ["_law_row", "_law_many", "_law_found", "_law_cell"]
theorem sc_w_taken : FnScope n_w_taken ["_law_row", "_law_many"] (defScope s_w_taken) := ⟨rfl, rfl, rfl, by decide +kernel, rfl, by decide +kernel, by decide +kernel⟩
abbrev s_w_raised : Stmt := top 19
def d_w_raised : DefZ := ⟨fun K => ga K "_law_raised", "_law_raised", "_law_raised", s_w_raised, []⟩
abbrev n_w_raised : List Str := ["_law_work", "e", "_law_kinds"]
theorem sc_w_raised : FnScope n_w_raised ["_law_work"] (defScope s_w_raised) := ⟨rfl, rfl, rfl, by decide +kernel, rfl, by decide +kernel, by decide +kernel⟩
abbrev s_w_loads : Stmt := top 20
def d_w_loads : DefZ := ⟨fun K => ga K "_law_loads", "_law_loads", "_law_loads", s_w_loads, []⟩
abbrev n_w_loads : List Str := ["_law_row", "_law_most", "_law_count", "_law_size", "_law_loads_here", "_law_k", "_law_load"]
theorem sc_w_loads : FnScope n_w_loads ["_law_row", "_law_most"] (defScope s_w_loads) := ⟨rfl, rfl, rfl, by decide +kernel, rfl, by decide +kernel, by decide +kernel⟩
abbrev s_w_spoilt : Stmt := top 21
def d_w_spoilt : DefZ := ⟨fun K => ga K "_law_spoilt", "_law_spoilt", "_law_spoilt", s_w_spoilt, []⟩
abbrev n_w_spoilt : List Str := ["_law_row", "_law_loads_here", "_law_places", "_law_count", "_law_way", "_law_k"]
theorem sc_w_spoilt : FnScope n_w_spoilt ["_law_row", "_law_loads_here", "_law_places", "_law_count"] (defScope s_w_spoilt) := ⟨rfl, rfl, rfl, by decide +kernel, rfl, by decide +kernel, by decide +kernel⟩
abbrev s_law : Stmt := top 22
def d_law : DefZ := ⟨fun K => ga K "law", "law", "law", s_law, []⟩
abbrev n_law : List Str := ["_law_script", "_law_row", "_law_turn", "_law_loads_here", "_law_places", "_law_count", "_law_a", "_law_b", "_law_c", "_law_works", "_law_moves", "_law_bad", "_law_k", "_law_spoilt_here", "_law_twice", "_law_found", "_law_x", "_law_work"]
theorem sc_law : FnScope n_law ["_law_script"] (defScope s_law) := ⟨rfl, rfl, rfl, by decide +kernel, rfl, by decide +kernel, by decide +kernel⟩
structure Txt0 (K : Fg) (mg : Str → Option Value) : Prop where
  i_MAX_LOADS : ∃ t, mg "MAX_LOADS" = some (.int 7 t)
  i_MAX_LOAD : ∃ t, mg "MAX_LOAD" = some (.int 1000 t)
  i_MAX_PROCESSORS : ∃ t, mg "MAX_PROCESSORS" = some (.int 4 t)
  g_is_integer : mg "is_integer" = some (.ref (ga K "is_integer"))
  g_check_number : mg "check_number" = some (.ref (ga K "check_number"))
  g_check_loads : mg "check_loads" = some (.ref (ga K "check_loads"))
  g_spread_of : mg "spread_of" = some (.ref (ga K "spread_of"))
  g_fewest_moves : mg "fewest_moves" = some (.ref (ga K "fewest_moves"))
  g_least_spread : mg "least_spread" = some (.ref (ga K "least_spread"))
  g_judge_moves : mg "judge_moves" = some (.ref (ga K "judge_moves"))
  g_w_taken : mg "_law_taken" = some (.ref (ga K "_law_taken"))
  g_w_raised : mg "_law_raised" = some (.ref (ga K "_law_raised"))
  g_w_loads : mg "_law_loads" = some (.ref (ga K "_law_loads"))
  g_w_spoilt : mg "_law_spoilt" = some (.ref (ga K "_law_spoilt"))
  g_law : mg "law" = some (.ref (ga K "law"))
  F_InvalidMove_init : FunZ K d_InvalidMove_init
  c_InvalidMove_init : Cal K (ma K (ga K "InvalidMove") "__init__") ["self", "index"] []
  F_is_integer : FunZ K d_is_integer
  c_is_integer : Cal K (ga K "is_integer") ["value", "low", "high"] []
  F_check_number : FunZ K d_check_number
  c_check_number : Cal K (ga K "check_number") ["number", "low", "high"] []
  F_check_loads : FunZ K d_check_loads
  c_check_loads : Cal K (ga K "check_loads") ["loads", "places", "count"] []
  F_spread_of : FunZ K d_spread_of
  c_spread_of : Cal K (ga K "spread_of") ["loads", "places", "count"] []
  F_fewest_moves : FunZ K d_fewest_moves
  c_fewest_moves : Cal K (ga K "fewest_moves") ["loads", "places", "count", "bound"] []
  F_least_spread : FunZ K d_least_spread
  c_least_spread : Cal K (ga K "least_spread") ["loads", "places", "count", "most"] []
  F_judge_moves : FunZ K d_judge_moves
structure Txt1 (K : Fg) (mg : Str → Option Value) : Prop where
  c_judge_moves : Cal K (ga K "judge_moves") ["loads", "places", "count", "moves"] []
  F_w_taken : FunZ K d_w_taken
  c_w_taken : Cal K (ga K "_law_taken") ["_law_row", "_law_many"] []
  F_w_raised : FunZ K d_w_raised
  c_w_raised : Cal K (ga K "_law_raised") ["_law_work"] []
  F_w_loads : FunZ K d_w_loads
  c_w_loads : Cal K (ga K "_law_loads") ["_law_row", "_law_most"] []
  F_w_spoilt : FunZ K d_w_spoilt
  c_w_spoilt : Cal K (ga K "_law_spoilt") ["_law_row", "_law_loads_here", "_law_places", "_law_count"] []
  F_law : FunZ K d_law
  c_law : Cal K (ga K "law") ["_law_script"] []
  g_BellError : mg "BellError" = some (.ref (ga K "BellError"))
  vi_BellError : VeIn K (ga K "BellError")
  g_InvalidMove : mg "InvalidMove" = some (.ref (ga K "InvalidMove"))
  xc_InvalidMove : ExcC K (ga K "InvalidMove")
  xn_InvalidMove_index : NoAttr K (ga K "InvalidMove") "index"
  g_InvalidNumber : mg "InvalidNumber" = some (.ref (ga K "InvalidNumber"))
  xc_InvalidNumber : ExcC K (ga K "InvalidNumber")
  xo_InvalidMove : OexC K (ga K "InvalidMove")
  xi_InvalidMove : OexI K (ga K "InvalidMove") (ma K (ga K "InvalidMove") "__init__")
  xm_InvalidMove : PySem.W.exmOne K (.ref (ga K "InvalidMove")) (.ref (ga K "BellError")) = some true
  xv_InvalidMove : PySem.W.kitOne K (.ref (ga K "InvalidMove")) (.type "ValueError") = some true
  xk_InvalidMove_InvalidMove : PySem.W.kitOne K (.ref (ga K "InvalidMove")) (.ref (ga K "InvalidMove")) = some true
  xk_InvalidMove_InvalidNumber : PySem.W.kitOne K (.ref (ga K "InvalidMove")) (.ref (ga K "InvalidNumber")) = some false
  xr_InvalidNumber : PySem.W.excIn K (ga K "InvalidNumber") He.veBase "ValueError.__new__" = true ∧ PySem.W.keepIn K (.ref (ga K "InvalidNumber")) = true ∧ PySem.W.subIn K (.ref (ga K "InvalidNumber")) (.type "BaseException") = some true ∧ PySem.W.typeIn K (.ref (ga K "InvalidNumber")) = some (.type "type")
  xm_InvalidNumber : PySem.W.exmOne K (.ref (ga K "InvalidNumber")) (.ref (ga K "BellError")) = some true
  xv_InvalidNumber : PySem.W.kitOne K (.ref (ga K "InvalidNumber")) (.type "ValueError") = some true
  xk_InvalidNumber_InvalidMove : PySem.W.kitOne K (.ref (ga K "InvalidNumber")) (.ref (ga K "InvalidMove")) = some false
  xk_InvalidNumber_InvalidNumber : PySem.W.kitOne K (.ref (ga K "InvalidNumber")) (.ref (ga K "InvalidNumber")) = some true
  u_isinstance : mg "isinstance" = none
structure Txt2 (K : Fg) (mg : Str → Option Value) : Prop where
  u_bool : mg "bool" = none
  u_int : mg "int" = none
  u_len : mg "len" = none
  u_tuple : mg "tuple" = none
  u_all : mg "all" = none
  u_max : mg "max" = none
  u_zip : mg "zip" = none
  u_min : mg "min" = none
  u_range : mg "range" = none
  u_list : mg "list" = none
  u_enumerate : mg "enumerate" = none
  u_ValueError : mg "ValueError" = none
structure Txt (K : Fg) (mg : Str → Option Value) : Prop where
  p0 : Txt0 K mg
  p1 : Txt1 K mg
  p2 : Txt2 K mg
section
variable {K : Fg} {mg : Str → Option Value} (T : Txt K mg) 
include T
theorem Txt.i_MAX_LOADS : ∃ t, mg "MAX_LOADS" = some (.int 7 t) := T.p0.i_MAX_LOADS
theorem Txt.i_MAX_LOAD : ∃ t, mg "MAX_LOAD" = some (.int 1000 t) := T.p0.i_MAX_LOAD
theorem Txt.i_MAX_PROCESSORS : ∃ t, mg "MAX_PROCESSORS" = some (.int 4 t) := T.p0.i_MAX_PROCESSORS
theorem Txt.g_is_integer : mg "is_integer" = some (.ref (ga K "is_integer")) := T.p0.g_is_integer
theorem Txt.g_check_number : mg "check_number" = some (.ref (ga K "check_number")) := T.p0.g_check_number
theorem Txt.g_check_loads : mg "check_loads" = some (.ref (ga K "check_loads")) := T.p0.g_check_loads
theorem Txt.g_spread_of : mg "spread_of" = some (.ref (ga K "spread_of")) := T.p0.g_spread_of
theorem Txt.g_fewest_moves : mg "fewest_moves" = some (.ref (ga K "fewest_moves")) := T.p0.g_fewest_moves
theorem Txt.g_least_spread : mg "least_spread" = some (.ref (ga K "least_spread")) := T.p0.g_least_spread
theorem Txt.g_judge_moves : mg "judge_moves" = some (.ref (ga K "judge_moves")) := T.p0.g_judge_moves
theorem Txt.g_w_taken : mg "_law_taken" = some (.ref (ga K "_law_taken")) := T.p0.g_w_taken
theorem Txt.g_w_raised : mg "_law_raised" = some (.ref (ga K "_law_raised")) := T.p0.g_w_raised
theorem Txt.g_w_loads : mg "_law_loads" = some (.ref (ga K "_law_loads")) := T.p0.g_w_loads
theorem Txt.g_w_spoilt : mg "_law_spoilt" = some (.ref (ga K "_law_spoilt")) := T.p0.g_w_spoilt
theorem Txt.g_law : mg "law" = some (.ref (ga K "law")) := T.p0.g_law
theorem Txt.F_InvalidMove_init : FunZ K d_InvalidMove_init := T.p0.F_InvalidMove_init
theorem Txt.c_InvalidMove_init : Cal K (ma K (ga K "InvalidMove") "__init__") ["self", "index"] [] := T.p0.c_InvalidMove_init
theorem Txt.F_is_integer : FunZ K d_is_integer := T.p0.F_is_integer
theorem Txt.c_is_integer : Cal K (ga K "is_integer") ["value", "low", "high"] [] := T.p0.c_is_integer
theorem Txt.F_check_number : FunZ K d_check_number := T.p0.F_check_number
theorem Txt.c_check_number : Cal K (ga K "check_number") ["number", "low", "high"] [] := T.p0.c_check_number
theorem Txt.F_check_loads : FunZ K d_check_loads := T.p0.F_check_loads
theorem Txt.c_check_loads : Cal K (ga K "check_loads") ["loads", "places", "count"] [] := T.p0.c_check_loads
theorem Txt.F_spread_of : FunZ K d_spread_of := T.p0.F_spread_of
theorem Txt.c_spread_of : Cal K (ga K "spread_of") ["loads", "places", "count"] [] := T.p0.c_spread_of
theorem Txt.F_fewest_moves : FunZ K d_fewest_moves := T.p0.F_fewest_moves
theorem Txt.c_fewest_moves : Cal K (ga K "fewest_moves") ["loads", "places", "count", "bound"] [] := T.p0.c_fewest_moves
theorem Txt.F_least_spread : FunZ K d_least_spread := T.p0.F_least_spread
theorem Txt.c_least_spread : Cal K (ga K "least_spread") ["loads", "places", "count", "most"] [] := T.p0.c_least_spread
theorem Txt.F_judge_moves : FunZ K d_judge_moves := T.p0.F_judge_moves
theorem Txt.c_judge_moves : Cal K (ga K "judge_moves") ["loads", "places", "count", "moves"] [] := T.p1.c_judge_moves
theorem Txt.F_w_taken : FunZ K d_w_taken := T.p1.F_w_taken
theorem Txt.c_w_taken : Cal K (ga K "_law_taken") ["_law_row", "_law_many"] [] := T.p1.c_w_taken
theorem Txt.F_w_raised : FunZ K d_w_raised := T.p1.F_w_raised
theorem Txt.c_w_raised : Cal K (ga K "_law_raised") ["_law_work"] [] := T.p1.c_w_raised
theorem Txt.F_w_loads : FunZ K d_w_loads := T.p1.F_w_loads
theorem Txt.c_w_loads : Cal K (ga K "_law_loads") ["_law_row", "_law_most"] [] := T.p1.c_w_loads
theorem Txt.F_w_spoilt : FunZ K d_w_spoilt := T.p1.F_w_spoilt
theorem Txt.c_w_spoilt : Cal K (ga K "_law_spoilt") ["_law_row", "_law_loads_here", "_law_places", "_law_count"] [] := T.p1.c_w_spoilt
theorem Txt.F_law : FunZ K d_law := T.p1.F_law
theorem Txt.g_BellError : mg "BellError" = some (.ref (ga K "BellError")) := T.p1.g_BellError
theorem Txt.vi_BellError : VeIn K (ga K "BellError") := T.p1.vi_BellError
theorem Txt.g_InvalidMove : mg "InvalidMove" = some (.ref (ga K "InvalidMove")) := T.p1.g_InvalidMove
theorem Txt.xc_InvalidMove : ExcC K (ga K "InvalidMove") := T.p1.xc_InvalidMove
theorem Txt.xn_InvalidMove_index : NoAttr K (ga K "InvalidMove") "index" := T.p1.xn_InvalidMove_index
theorem Txt.g_InvalidNumber : mg "InvalidNumber" = some (.ref (ga K "InvalidNumber")) := T.p1.g_InvalidNumber
theorem Txt.xc_InvalidNumber : ExcC K (ga K "InvalidNumber") := T.p1.xc_InvalidNumber
theorem Txt.xo_InvalidMove : OexC K (ga K "InvalidMove") := T.p1.xo_InvalidMove
theorem Txt.xi_InvalidMove : OexI K (ga K "InvalidMove") (ma K (ga K "InvalidMove") "__init__") := T.p1.xi_InvalidMove
theorem Txt.xm_InvalidMove : PySem.W.exmOne K (.ref (ga K "InvalidMove")) (.ref (ga K "BellError")) = some true := T.p1.xm_InvalidMove
theorem Txt.xv_InvalidMove : PySem.W.kitOne K (.ref (ga K "InvalidMove")) (.type "ValueError") = some true := T.p1.xv_InvalidMove
theorem Txt.xk_InvalidMove_InvalidMove : PySem.W.kitOne K (.ref (ga K "InvalidMove")) (.ref (ga K "InvalidMove")) = some true := T.p1.xk_InvalidMove_InvalidMove
theorem Txt.xk_InvalidMove_InvalidNumber : PySem.W.kitOne K (.ref (ga K "InvalidMove")) (.ref (ga K "InvalidNumber")) = some false := T.p1.xk_InvalidMove_InvalidNumber
theorem Txt.xr_InvalidNumber : PySem.W.excIn K (ga K "InvalidNumber") He.veBase "ValueError.__new__" = true ∧ PySem.W.keepIn K (.ref (ga K "InvalidNumber")) = true ∧ PySem.W.subIn K (.ref (ga K "InvalidNumber")) (.type "BaseException") = some true ∧ PySem.W.typeIn K (.ref (ga K "InvalidNumber")) = some (.type "type") := T.p1.xr_InvalidNumber
theorem Txt.xm_InvalidNumber : PySem.W.exmOne K (.ref (ga K "InvalidNumber")) (.ref (ga K "BellError")) = some true := T.p1.xm_InvalidNumber
theorem Txt.xv_InvalidNumber : PySem.W.kitOne K (.ref (ga K "InvalidNumber")) (.type "ValueError") = some true := T.p1.xv_InvalidNumber
theorem Txt.xk_InvalidNumber_InvalidMove : PySem.W.kitOne K (.ref (ga K "InvalidNumber")) (.ref (ga K "InvalidMove")) = some false := T.p1.xk_InvalidNumber_InvalidMove
theorem Txt.xk_InvalidNumber_InvalidNumber : PySem.W.kitOne K (.ref (ga K "InvalidNumber")) (.ref (ga K "InvalidNumber")) = some true := T.p1.xk_InvalidNumber_InvalidNumber
theorem Txt.u_isinstance : mg "isinstance" = none := T.p1.u_isinstance
theorem Txt.u_bool : mg "bool" = none := T.p2.u_bool
theorem Txt.u_int : mg "int" = none := T.p2.u_int
theorem Txt.u_len : mg "len" = none := T.p2.u_len
theorem Txt.u_tuple : mg "tuple" = none := T.p2.u_tuple
theorem Txt.u_all : mg "all" = none := T.p2.u_all
theorem Txt.u_max : mg "max" = none := T.p2.u_max
theorem Txt.u_zip : mg "zip" = none := T.p2.u_zip
theorem Txt.u_min : mg "min" = none := T.p2.u_min
theorem Txt.u_range : mg "range" = none := T.p2.u_range
theorem Txt.u_list : mg "list" = none := T.p2.u_list
theorem Txt.u_enumerate : mg "enumerate" = none := T.p2.u_enumerate
theorem Txt.u_ValueError : mg "ValueError" = none := T.p2.u_ValueError
end
theorem _root_.Z.SaysZ.factC {fa : List (Fg → Bool)} {fn : List DefZ} {K : Fg} (c : SaysZ fa fn K) (l : List (Fg → Bool)) (i : Nat) (s : ∀ f, f ∈ l → f ∈ fa) {f : Fg → Bool} (h : l[i]? = some f) : f K = true := by
  obtain ⟨j, hj, e⟩ := List.mem_iff_getElem.mp (s f (List.mem_of_getElem? h))
  exact c.fact j (by rw [List.getElem?_eq_getElem hj, e])
theorem _root_.Z.SaysZ.defC {fa : List (Fg → Bool)} {fn : List DefZ} {K : Fg} (c : SaysZ fa fn K) (l : List DefZ) (i : Nat) (s : ∀ f, f ∈ l → f ∈ fn) {d : DefZ} (h : l[i]? = some d) : FunZ K d := by
  obtain ⟨j, hj, e⟩ := List.mem_iff_getElem.mp (s d (List.mem_of_getElem? h))
  exact c.def_ j (by rw [List.getElem?_eq_getElem hj, e])
def fa_0 : List (Fg → Bool) := [fInt "MAX_LOADS" 7, fInt "MAX_LOAD" 1000, fInt "MAX_PROCESSORS" 4, fGlo "is_integer", fGlo "check_number", fGlo "check_loads", fGlo "spread_of", fGlo "fewest_moves", fGlo "least_spread", fGlo "judge_moves", fGlo "_law_taken", fGlo "_law_raised", fGlo "_law_loads", fGlo "_law_spoilt", fGlo "law", fGlo "BellError", fVeIn "BellError", fGlo "InvalidMove", excCB "InvalidMove", fNo "InvalidMove" "index", fGlo "InvalidNumber", excCB "InvalidNumber", oexB "InvalidMove", fOexI "InvalidMove", (fun K => (He.Fa.exm "InvalidMove" "BellError" true).ok K), (fun K => PySem.W.kitOne K (.ref (ga K "InvalidMove")) (.type "ValueError") == some true), (fun K => PySem.W.kitOne K (.ref (ga K "InvalidMove")) (.ref (ga K "InvalidMove")) == some true), (fun K => PySem.W.kitOne K (.ref (ga K "InvalidMove")) (.ref (ga K "InvalidNumber")) == some false), (fun K => (He.Fa.exc "InvalidNumber").ok K), (fun K => (He.Fa.exm "InvalidNumber" "BellError" true).ok K)]
def fa_1 : List (Fg → Bool) := [(fun K => PySem.W.kitOne K (.ref (ga K "InvalidNumber")) (.type "ValueError") == some true), (fun K => PySem.W.kitOne K (.ref (ga K "InvalidNumber")) (.ref (ga K "InvalidMove")) == some false), (fun K => PySem.W.kitOne K (.ref (ga K "InvalidNumber")) (.ref (ga K "InvalidNumber")) == some true), fFree "isinstance", fFree "bool", fFree "int", fFree "len", fFree "tuple", fFree "all", fFree "max", fFree "zip", fFree "min", fFree "range", fFree "list", fFree "enumerate", fFree "ValueError"]
def fa : List (Fg → Bool) := fa_0 ++ (fa_1)
def fn_0 : List DefZ := [d_InvalidMove_init, d_is_integer, d_check_number, d_check_loads, d_spread_of, d_fewest_moves, d_least_spread, d_judge_moves, d_w_taken, d_w_raised, d_w_loads, d_w_spoilt, d_law]
def fn : List DefZ := fn_0
theorem ia_0 : ∀ f, f ∈ fa_0 → f ∈ fa := fun f h => List.mem_append_left _ h
theorem ia_1 : ∀ f, f ∈ fa_1 → f ∈ fa := fun f h => List.mem_append_right _ (h)
theorem in_0 : ∀ f, f ∈ fn_0 → f ∈ fn := fun f h => h
theorem txt_of {K : Fg} {h : Heap} {mg : Str → Option Value} (X : K.In h) (G : h.Ns mainGlobals mg) (c : SaysZ fa fn K) : Txt K mg where
  p0 := ⟨He.int_ok X G (c.factC fa_0 0 ia_0 rfl), He.int_ok X G (c.factC fa_0 1 ia_0 rfl), He.int_ok X G (c.factC fa_0 2 ia_0 rfl), He.glo_ok X G (c.factC fa_0 3 ia_0 rfl), He.glo_ok X G (c.factC fa_0 4 ia_0 rfl), He.glo_ok X G (c.factC fa_0 5 ia_0 rfl), He.glo_ok X G (c.factC fa_0 6 ia_0 rfl), He.glo_ok X G (c.factC fa_0 7 ia_0 rfl), He.glo_ok X G (c.factC fa_0 8 ia_0 rfl), He.glo_ok X G (c.factC fa_0 9 ia_0 rfl), He.glo_ok X G (c.factC fa_0 10 ia_0 rfl), He.glo_ok X G (c.factC fa_0 11 ia_0 rfl), He.glo_ok X G (c.factC fa_0 12 ia_0 rfl), He.glo_ok X G (c.factC fa_0 13 ia_0 rfl), He.glo_ok X G (c.factC fa_0 14 ia_0 rfl), (c.defC fn_0 0 in_0 rfl), ⟨(c.defC fn_0 0 in_0 (d := d_InvalidMove_init) rfl).kp, [], FunD.bindsN (c.defC fn_0 0 in_0 (d := d_InvalidMove_init) rfl) (fun _ _ _ _ _ _ us hl => match us, hl with | [_, _], _ => rfl), .nil⟩, (c.defC fn_0 1 in_0 rfl), ⟨(c.defC fn_0 1 in_0 (d := d_is_integer) rfl).kp, [], FunD.bindsN (c.defC fn_0 1 in_0 (d := d_is_integer) rfl) (fun _ _ _ _ _ _ us hl => match us, hl with | [_, _, _], _ => rfl), .nil⟩, (c.defC fn_0 2 in_0 rfl), ⟨(c.defC fn_0 2 in_0 (d := d_check_number) rfl).kp, [], FunD.bindsN (c.defC fn_0 2 in_0 (d := d_check_number) rfl) (fun _ _ _ _ _ _ us hl => match us, hl with | [_, _, _], _ => rfl), .nil⟩, (c.defC fn_0 3 in_0 rfl), ⟨(c.defC fn_0 3 in_0 (d := d_check_loads) rfl).kp, [], FunD.bindsN (c.defC fn_0 3 in_0 (d := d_check_loads) rfl) (fun _ _ _ _ _ _ us hl => match us, hl with | [_, _, _], _ => rfl), .nil⟩, (c.defC fn_0 4 in_0 rfl), ⟨(c.defC fn_0 4 in_0 (d := d_spread_of) rfl).kp, [], FunD.bindsN (c.defC fn_0 4 in_0 (d := d_spread_of) rfl) (fun _ _ _ _ _ _ us hl => match us, hl with | [_, _, _], _ => rfl), .nil⟩, (c.defC fn_0 5 in_0 rfl), ⟨(c.defC fn_0 5 in_0 (d := d_fewest_moves) rfl).kp, [], FunD.bindsN (c.defC fn_0 5 in_0 (d := d_fewest_moves) rfl) (fun _ _ _ _ _ _ us hl => match us, hl with | [_, _, _, _], _ => rfl), .nil⟩, (c.defC fn_0 6 in_0 rfl), ⟨(c.defC fn_0 6 in_0 (d := d_least_spread) rfl).kp, [], FunD.bindsN (c.defC fn_0 6 in_0 (d := d_least_spread) rfl) (fun _ _ _ _ _ _ us hl => match us, hl with | [_, _, _, _], _ => rfl), .nil⟩, (c.defC fn_0 7 in_0 rfl)⟩
  p1 := ⟨⟨(c.defC fn_0 7 in_0 (d := d_judge_moves) rfl).kp, [], FunD.bindsN (c.defC fn_0 7 in_0 (d := d_judge_moves) rfl) (fun _ _ _ _ _ _ us hl => match us, hl with | [_, _, _, _], _ => rfl), .nil⟩, (c.defC fn_0 8 in_0 rfl), ⟨(c.defC fn_0 8 in_0 (d := d_w_taken) rfl).kp, [], FunD.bindsN (c.defC fn_0 8 in_0 (d := d_w_taken) rfl) (fun _ _ _ _ _ _ us hl => match us, hl with | [_, _], _ => rfl), .nil⟩, (c.defC fn_0 9 in_0 rfl), ⟨(c.defC fn_0 9 in_0 (d := d_w_raised) rfl).kp, [], FunD.bindsN (c.defC fn_0 9 in_0 (d := d_w_raised) rfl) (fun _ _ _ _ _ _ us hl => match us, hl with | [_], _ => rfl), .nil⟩, (c.defC fn_0 10 in_0 rfl), ⟨(c.defC fn_0 10 in_0 (d := d_w_loads) rfl).kp, [], FunD.bindsN (c.defC fn_0 10 in_0 (d := d_w_loads) rfl) (fun _ _ _ _ _ _ us hl => match us, hl with | [_, _], _ => rfl), .nil⟩, (c.defC fn_0 11 in_0 rfl), ⟨(c.defC fn_0 11 in_0 (d := d_w_spoilt) rfl).kp, [], FunD.bindsN (c.defC fn_0 11 in_0 (d := d_w_spoilt) rfl) (fun _ _ _ _ _ _ us hl => match us, hl with | [_, _, _, _], _ => rfl), .nil⟩, (c.defC fn_0 12 in_0 rfl), ⟨(c.defC fn_0 12 in_0 (d := d_law) rfl).kp, [], FunD.bindsN (c.defC fn_0 12 in_0 (d := d_law) rfl) (fun _ _ _ _ _ _ us hl => match us, hl with | [_], _ => rfl), .nil⟩, He.glo_ok X G (c.factC fa_0 15 ia_0 rfl), fVeIn_ok (c.factC fa_0 16 ia_0 rfl), He.glo_ok X G (c.factC fa_0 17 ia_0 rfl), excCB_ok (c.factC fa_0 18 ia_0 rfl), He.noat_ok (c.factC fa_0 19 ia_0 rfl), He.glo_ok X G (c.factC fa_0 20 ia_0 rfl), excCB_ok (c.factC fa_0 21 ia_0 rfl), oexB_ok (c.factC fa_0 22 ia_0 rfl), fOexI_ok (c.factC fa_0 23 ia_0 rfl), (He.exm_ok (c.factC fa_0 24 ia_0 rfl)), (eq_of_beq (c.factC fa_0 25 ia_0 rfl)), (eq_of_beq (c.factC fa_0 26 ia_0 rfl)), (eq_of_beq (c.factC fa_0 27 ia_0 rfl)), (He.exc_ok (c.factC fa_0 28 ia_0 rfl)), (He.exm_ok (c.factC fa_0 29 ia_0 rfl)), (eq_of_beq (c.factC fa_1 0 ia_1 rfl)), (eq_of_beq (c.factC fa_1 1 ia_1 rfl)), (eq_of_beq (c.factC fa_1 2 ia_1 rfl)), He.free_ok X G (c.factC fa_1 3 ia_1 rfl)⟩
  p2 := ⟨He.free_ok X G (c.factC fa_1 4 ia_1 rfl), He.free_ok X G (c.factC fa_1 5 ia_1 rfl), He.free_ok X G (c.factC fa_1 6 ia_1 rfl), He.free_ok X G (c.factC fa_1 7 ia_1 rfl), He.free_ok X G (c.factC fa_1 8 ia_1 rfl), He.free_ok X G (c.factC fa_1 9 ia_1 rfl), He.free_ok X G (c.factC fa_1 10 ia_1 rfl), He.free_ok X G (c.factC fa_1 11 ia_1 rfl), He.free_ok X G (c.factC fa_1 12 ia_1 rfl), He.free_ok X G (c.factC fa_1 13 ia_1 rfl), He.free_ok X G (c.factC fa_1 14 ia_1 rfl), He.free_ok X G (c.factC fa_1 15 ia_1 rfl)⟩
def names : List PySem.Str := (["BellError", "InvalidNumber", "InvalidMove", "is_integer", "check_number", "MAX_LOADS", "MAX_LOAD", "MAX_PROCESSORS", "check_loads", "spread_of", "Mover", "fewest_moves", "least_spread", "judge_moves", "_law_taken", "_law_raised", "_law_loads", "_law_spoilt"] : List PySem.Str)
end T
set_option maxHeartbeats 0
namespace T
open PySem PySem.Spec PyProof.Rows L2 Z
open He (ga ma)
open PySem.W PySem.Calls HandSHeadRun
abbrev R : PySem.W.OpenRow := PySem.W.OpenLaw.row PySem.Challenge.rw_callbells_k72_moves_refused
abbrev tf : List (Fg → Addr) := [fun K => ga K "law"]
abbrev adL : List Addr := cStatics :: mainGlobals :: [2, 3, 4, 5, 6, 10, 14, 17, 21, 23, 24, 30, 34, 36, 37, 42, 46, 55, 56, 87, 91, 107, 108, 53, 52, 65, 64, 72, 71, 77, 76, 84, 83, 119, 118, 126, 125, 133, 132, 140, 139, 147, 146, 152, 151, 159, 158, 164, 163, 12, 15, 22, 25, 26, 27, 28, 35, 38, 39, 40, 44, 54, 57, 58, 85, 89, 109, 110, 111, 112]
abbrev hk : PySem.W.Hook := hookE adL fa fn tf
def ob (s : PySem.W.SharedT) : Z.SeenT := seeE adL fa fn tf (HandSHeadRun.getT s)
theorem ob_eq (s : PySem.W.SharedT) : ob s = hk.obs s.abs := seeE_eq (HandSHeadRun.getT_eq s)
abbrev hdP : Program := PySem.W.view R.prog [22]
noncomputable abbrev hdM (w : World) (os : OsState) {A : Type} (f : PySem.W.SharedT → A) : Option A := (endF (stepQ (denQ tabQ) R.prog w) 10500 R.prog w os).map f
def hdK (s : PySem.W.SharedT) : Fg := He.frT (getT s) adL
theorem runA (w : World) (os : OsState) : hdM w os (fun s => (looksF R.prog (boot_heap w.params) s.abs, seenQ hdP names (importedModules R.prog.main.body) (fun s => xlAt hdP [] s && recOk R.toRowW.records s) s.abs, tabGood (getT s) tf (hdK s))) = some (true, openGood hdP names, true) := by kernel_rfl
theorem runB (w : World) (os : OsState) : hdM w os (fun s => fa.all fun f => f (hdK s)) = some true := by kernel_rfl
theorem runC (w : World) (os : OsState) : hdM w os (fun s => (((fn.take 55).all fun d => d.good (hdK s)), (fn.take 55).map fun d => DefZ.see (hdK s) (d.at_ (hdK s)))) = some (true, (fn.take 55).map DefZ.due) := by kernel_rfl
theorem runD (w : World) (os : OsState) : hdM w os (fun s => (((fn.drop 55).all fun d => d.good (hdK s)), (fn.drop 55).map fun d => DefZ.see (hdK s) (d.at_ (hdK s)))) = some (true, (fn.drop 55).map DefZ.due) := by kernel_rfl
theorem run (w : World) : HandSHeadRun.RunEq R hdP hk ob 10500 names w := by
  intro os
  obtain ⟨s, es, a⟩ := map_some (runA w os)
  obtain ⟨s2, e2, b⟩ := map_some (runB w os)
  obtain ⟨s3, e3, c⟩ := map_some (runC w os)
  obtain ⟨s4, e4, d⟩ := map_some (runD w os)
  rw [es] at e2 e3 e4
  cases e2
  cases e3
  cases e4
  simp only [Prod.mk.injEq] at a
  obtain ⟨a1, a2, a3⟩ := a
  rw [es]
  have o : ob s = ((true, fn.map DefZ.due), true) := seeE_parts 55 a3 b c d
  show some (looksF R.prog (boot_heap w.params) s.abs, seenQ hdP names (importedModules R.prog.main.body) (fun s => xlAt hdP [] s && recOk R.toRowW.records s) s.abs, ob s) = some (true, openGood hdP names, ((true, fn.map DefZ.due), true))
  rw [a1, a2, o]
end T
set_option maxHeartbeats 0
namespace T
open PySem PySem.Spec PyProof.Rows L2 Z
open He (ga ma)
open PySem.W PySem.Calls
theorem early (F : ∀ (w : World) (mg : Str → Option Value) (f : Addr) (h : Heap), (∃ K : Fg, K.In h ∧ SaysZ fa fn K ∧ ∀ d ∈ tf, TabIn K h (d K)) → h.Ns mainGlobals mg → mg ("law" : Str) = some (.ref f) → ∃ (K : Fg) (fd : FuncData) (sp : Sp) (tf : List Addr), K.In h ∧ (∀ u ∈ tf, TabIn K h u) ∧ (∀ (s : Shared) (u : Value), BindsTo s fd ⟨[u], []⟩ [("_law_script", u)]) ∧
      (∀ (H : Hp) (a : Addr) (ns : List Int), ns.length ≤ 63 → (∀ u ∈ tf, H (tabA K u) = some (.tbl #[])) → SqL K H a (ns.map V.int) → sp [.ref a] H (fun v _ => v = .bl true) fun _ _ _ => False) ∧
      ∀ base : Heap, K.In base → base.Ns mainGlobals mg → (∀ u ∈ tf, LamX.TabB base mg (codA K u) (tabA K u)) → FnOk (PySem.Challenge.rw_callbells_k72_moves_refused).prog w K mg base (L2.CX (PySem.Challenge.rw_callbells_k72_moves_refused).prog w) 32 f fd ["_law_script"] sp) : PySem.Challenge.rw_callbells_k72_moves_refused.Holds := by
  w_on; o_law
  refine HandSHeadRun.head_any (r := OpenLaw.row PySem.Challenge.rw_callbells_k72_moves_refused) (q := view (OpenLaw.row PySem.Challenge.rw_callbells_k72_moves_refused).prog [22]) (H := T.hk) (ob := T.ob) (M := 10500) (loose := T.names) (d := HandSHeadRun.topDef (OpenLaw.row PySem.Challenge.rw_callbells_k72_moves_refused).prog 22) (kwd := []) T.ob_eq
    (by kernel_rfl) (fun s => by kernel_rfl) T.run (by kernel_rfl) (by kernel_rfl) (by kernel_rfl) (by rfl) (by first | assumption | decide +kernel) (by decide +kernel) ⟨rfl, rfl, rfl, rfl, rfl, by decide +kernel⟩ ?hw ?hc
  case hw => w_witness2
  case hc =>
    refine Z.walkET (l := PySem.Challenge.rw_callbells_k72_moves_refused) (n := 63) (k := 32) (x := "_law_script") rfl (by decide) (by kernel_rfl) ⟨rfl, by decide, by decide⟩ ?_
    intro w mg f h Y G hm0
    have hm : mg ("law" : PySem.Str) = some (.ref f) := by
      have e : (HandSHeadRun.topDef (OpenLaw.row PySem.Challenge.rw_callbells_k72_moves_refused).prog 22).name = ("law" : PySem.Str) := by kernel_rfl
      rw [← e]
      exact hm0
    exact F w mg f h Y G hm
end T
set_option maxHeartbeats 1000000
namespace Z
open PySem PySem.Spec PyProof.Rows L2
open He (ga ma)
section
variable {K : Fg} {σ : L2.St} {H H1 : Hp} {Q : VK} {te tk tv tl td ty : TE} {a : Addr} {xs : List V} {kvs : List (Key × V)} {ea ec ed : L2.St → Hp → Prop} {eb : VK}
theorem s_daugg {rd : V → V → Hp → VK → Prop} (q : td σ H fun x H1 => ty σ H1 fun y H2 => ∃ a v, x = .ref a ∧ DGet H2 a y (some v) ∧ tv σ H2 fun y2 H3 => rd v y2 H3 fun z H4 => ∃ H5, DPut H4 a y z H5 ∧ ea σ H5) : sDAug td ty tv rd (.mk ea eb ec ed) σ H := q
theorem s_add {i j : Int} (q : Q (.int (i + j)) H) : rAdd (.int i) (.int j) H Q := ⟨i, j, rfl, rfl, q⟩
theorem s_disp {trs : List (TE × TE)} (q : ∀ p, H p = none → tPairs trs σ (upd H p (.dK [])) fun ps H2 => H2 p = some (.dK []) ∧ ∃ kvs : List (Key × V), ps = kvs.map (fun kv => (kV kv.1, kv.2)) ∧ kvs.length ≤ 15 ∧ Q (.ref p) (upd H2 p (.dK (mergeK [] kvs)))) : tDisp trs σ H Q := q
theorem s_pnil {R : List (V × V) → Hp → Prop} (q : R [] H) : tPairs [] σ H R := q
theorem s_pcons {R : List (V × V) → Hp → Prop} {trs : List (TE × TE)} (q : tk σ H fun x H1 => tv σ H1 fun y H2 => tPairs trs σ H2 fun ps H3 => R ((x, y) :: ps) H3) : tPairs ((tk, tv) :: trs) σ H R := q
theorem s_setL {p : Addr} {k : Int} {v : V} {j : Nat} {R : Hp → Prop} (h : H p = some (.lst xs)) (e : ixN xs.length k = some j) (q : R (upd H p (.lst (xs.set j v)))) : rSetL (.ref p) (.int k) v H R := ⟨p, xs, k, j, rfl, rfl, h, e, q⟩
theorem s_gsub {to ti : TE} {t : TSet} {v : V} {R : L2.St → Hp → Prop} (q : to σ H fun o H1 => ti σ H1 fun i H2 => t o i v H2 fun H3 => R σ H3) : gSub to ti t v σ H R := q
theorem s_augS {to ti : TE} {tget : V → V → Hp → VK → Prop} {tip : TIp} {tset : TSet} (q : to σ H fun o H1 => ti σ H1 fun i H2 => tget o i H2 fun x H3 => te σ H3 fun y H4 => tip x y H4 fun z H5 => tset o i z H5 fun H6 => ea σ H6) : tAugS to ti te tget tip tset (.mk ea eb ec ed) σ H := q
theorem s_ipI {f : Int → Int → Int} {i j : Int} (q : Q (.int (f i j)) H) : ipI f (.int i) (.int j) H Q := ⟨i, j, rfl, rfl, q⟩
theorem s_cat {b : Addr} {zs : List V} (h : H a = some (.lst xs)) (h2 : H b = some (.lst zs)) (hl : xs.length + zs.length ≤ sizeLine) (q : ∀ p, H p = none → Q (.ref p) (upd H p (.lst (xs ++ zs)))) : rCat (.ref a) (.ref b) H Q := ⟨a, b, xs, zs, rfl, rfl, h, h2, hl, q⟩
theorem s_fldaug {ta : TE} {rd : V → V → Hp → VK → Prop} {f : Str} (q : ta σ H fun x H1 => ∃ a C dx fs v, x = .ref a ∧ H1 a = some (.ins C dx fs) ∧ Cls K C ∧ NoAttr K C f ∧ fs.lookup f = some v ∧
  tv σ H1 fun y H2 => rd v y H2 fun z H3 => ∃ dx' fs', H3 a = some (.ins C dx' fs') ∧ fs'.length < 1000 ∧ ea σ (upd H3 a (.ins C dx' (putF f z fs')))) : sFldAug K ta tv rd f (.mk ea eb ec ed) σ H := q
end
theorem Fr.fresh {A : List Addr} {H H' : Hp} {a : Addr} (f : Fr A H H') (hn : a ∉ A) (h : H' a = none) : H a = none := f.back h
end Z
set_option maxHeartbeats 1000000
namespace Z
open PySem PySem.Spec PyProof.Rows L2
open He (ga ma)
structure Frm where
  ln : Str
  st : Nat
  tk : Nat
  kp : Int
structure Cr where
  frames : List Frm
  limit : Int
  jobs : List (Str × Nat)
abbrev Ev := Str × Str
def dEv (e : Ev) : PyData := .tuple [.str e.1, .str e.2]
def frV (f : Frm) : List V := [.str f.ln, .int f.st, .int f.tk, .int f.kp]
def jbV (j : Str × Nat) : List V := [.str j.1, .int j.2]
def Cr.inner (P : Pl) (C : Cr) : Int := match C.frames.getLast? with
  | none => 0
  | some f => (P.ln f.ln).rk
def Cr.may (P : Pl) (C : Cr) (z : Str) : Bool := decide ((P.ln z).rk > (if C.inner P > C.limit then C.inner P else C.limit))
def leave (jobs : List (Str × Nat)) (z : Str) : List (Str × Nat) := if (z, 0) ∈ jobs then jobs else jobs ++ [(z, 0)]
def stepFx (P : Pl) (lim : Int) (jobs : List (Str × Nat)) (B : Bd) (s : Str × Key) : Int × List (Str × Nat) × Bd :=
  if s.1 = "bar" then (kI s.2, jobs, B) else if s.1 = "later" then (lim, leave jobs (kS s.2), B) else if s.1 ≠ "await" then (lim, jobs, (B.carry P s).1) else (lim, jobs, B)
def stops (B : Bd) (s : Str × Key) : Bool := decide (s.1 = ("run" : Str)) || (decide (s.1 = ("await" : Str)) && !decide (kI s.2 ∈ B.raised))
def passL (P : Pl) (fs : List Frm) (f : Frm) (lim : Int) (jobs : List (Str × Nat)) (B : Bd) : List (Str × Key) → Cr × Bd × List Ev
  | [] => (⟨fs, f.kp, jobs⟩, B.ended f.ln, [("end", f.ln)])
  | s :: r => if stops B s = true then (⟨fs ++ [f], lim, jobs⟩, B, []) else
    passL P fs { f with st := f.st + 1 } (stepFx P lim jobs B s).1 (stepFx P lim jobs B s).2.1 (stepFx P lim jobs B s).2.2 r
def pass (P : Pl) (fs : List Frm) (f : Frm) (lim : Int) (jobs : List (Str × Nat)) (B : Bd) : Cr × Bd × List Ev := passL P fs f lim jobs B ((P.ln f.ln).st.drop f.st)
inductive Lsts (H : Hp) : List Addr → List (List V) → Prop
  | nil : Lsts H [] []
  | cons {a : Addr} {xs : List V} {as : List Addr} {xss : List (List V)} : H a = some (.lst xs) → Lsts H as xss → Lsts H (a :: as) (xs :: xss)
section
variable {H H' : Hp}
theorem Lsts.len : ∀ {as : List Addr} {xss : List (List V)}, Lsts H as xss → as.length = xss.length
  | _, _, .nil => rfl
  | _, _, .cons _ t => by rw [List.length_cons, List.length_cons, t.len]
theorem Lsts.keep {A : List Addr} (f : Fr A H H') : ∀ {as : List Addr} {xss : List (List V)}, Lsts H as xss → (∀ a ∈ as, a ∉ A) → Lsts H' as xss
  | _, _, .nil, _ => .nil
  | _, _, .cons h t, n => .cons (f.at h (n _ (by simp))) (t.keep f fun a ha => n a (List.mem_cons_of_mem _ ha))
theorem Lsts.get : ∀ {as : List Addr} {xss : List (List V)} {i : Nat} {a : Addr}, Lsts H as xss → as[i]? = some a → ∃ xs, xss[i]? = some xs ∧ H a = some (.lst xs)
  | _, _, _, _, .nil, h => by simp at h
  | _, _, 0, _, .cons h _, e => by
    simp at e
    subst e
    exact ⟨_, rfl, h⟩
  | _, _, i + 1, _, .cons _ t, e => by
    obtain ⟨xs, h1, h2⟩ := t.get (i := i) (by simpa using e)
    exact ⟨xs, by simpa using h1, h2⟩
theorem Lsts.app : ∀ {as bs : List Addr} {xss yss : List (List V)}, Lsts H as xss → Lsts H bs yss → Lsts H (as ++ bs) (xss ++ yss)
  | _, _, _, _, .nil, s => s
  | _, _, _, _, .cons h t, s => .cons h (t.app s)
theorem Lsts.snoc {as : List Addr} {xss : List (List V)} {x : List V} (h : Lsts H as (xss ++ [x])) : ∃ bs a, as = bs ++ [a] ∧ Lsts H bs xss ∧ H a = some (.lst x) := by
  induction xss generalizing as with
  | nil =>
    cases h with
    | cons h t =>
      cases t
      exact ⟨[], _, rfl, .nil, h⟩
  | cons y yss ih =>
    cases h with
    | cons h t =>
      obtain ⟨bs, a, rfl, h1, h2⟩ := ih t
      exact ⟨_ :: bs, a, rfl, .cons h h1, h2⟩
theorem Lsts.set : ∀ {as : List Addr} {xss : List (List V)} {a : Addr} {xs : List V} (i : Nat), Lsts H as xss → H a = some (.lst xs) → Lsts H (as.set i a) (xss.set i xs)
  | _, _, _, _, _, .nil, _ => .nil
  | _, _, _, _, 0, .cons h t, e => .cons e t
  | _, _, _, _, i + 1, .cons h t, e => .cons h (t.set i e)
theorem Lsts.take : ∀ {as : List Addr} {xss : List (List V)} (n : Nat), Lsts H as xss → Lsts H (as.take n) (xss.take n)
  | _, _, 0, _ => .nil
  | _, _, _ + 1, .nil => .nil
  | _, _, n + 1, .cons h t => .cons h (t.take n)
theorem Lsts.drop : ∀ {as : List Addr} {xss : List (List V)} (n : Nat), Lsts H as xss → Lsts H (as.drop n) (xss.drop n)
  | _, _, 0, h => h
  | _, _, _ + 1, .nil => .nil
  | _, _, n + 1, .cons _ t => t.drop n
end
structure CA where
  c : Addr
  fr : Addr
  jo : Addr
  fs : List Addr
  js : List Addr
def CA.own (D : CA) : List Addr := D.c :: D.fr :: D.jo :: (D.fs ++ D.js)
def coreF (p fr jo : Addr) (lim : Int) : List (Str × V) := [("plan", .ref p), ("frames", .ref fr), ("limit", .int lim), ("jobs", .ref jo)]
theorem coF_plan {p fr jo : Addr} {lim : Int} : (coreF p fr jo lim).lookup ("plan" : Str) = some (.ref p) := by kernel_rfl
theorem coF_fr {p fr jo : Addr} {lim : Int} : (coreF p fr jo lim).lookup ("frames" : Str) = some (.ref fr) := by kernel_rfl
theorem coF_lim {p fr jo : Addr} {lim : Int} : (coreF p fr jo lim).lookup ("limit" : Str) = some (.int lim) := by kernel_rfl
theorem coF_jo {p fr jo : Addr} {lim : Int} : (coreF p fr jo lim).lookup ("jobs" : Str) = some (.ref jo) := by kernel_rfl
structure CoreAt (K : Fg) (H : Hp) (p : Addr) (D : CA) (C : Cr) : Prop where
  nd : D.own.Nodup
  ins : ∃ dx, H D.c = some (.ins (ga K "Core") dx (coreF p D.fr D.jo C.limit))
  fr : H D.fr = some (.lst (D.fs.map V.ref))
  jo : H D.jo = some (.lst (D.js.map V.ref))
  fs : Lsts H D.fs (C.frames.map frV)
  js : Lsts H D.js (C.jobs.map jbV)
section
variable {K : Fg} {H H' : Hp} {p : Addr} {D : CA} {C : Cr}
theorem CoreAt.keep (h : CoreAt K H p D C) {A : List Addr} (f : Fr A H H') (n : ∀ a ∈ D.own, a ∉ A) : CoreAt K H' p D C := by
  obtain ⟨dx, e⟩ := h.ins
  refine ⟨h.nd, ⟨dx, f.at e (n _ (by simp [CA.own]))⟩, f.at h.fr (n _ (by simp [CA.own])), f.at h.jo (n _ (by simp [CA.own])), h.fs.keep f fun a ha => n a (by simp [CA.own, ha]), h.js.keep f fun a ha => n a (by simp [CA.own, ha])⟩
theorem CoreAt.same (h : CoreAt K H p D C) (s : Same H H') : CoreAt K H' p D C := h.keep (A := []) s.fr (by simp)
structure CA.Sep (D : CA) : Prop where
  cfr : D.c ≠ D.fr
  cjo : D.c ≠ D.jo
  frjo : D.fr ≠ D.jo
  cfs : D.c ∉ D.fs
  cjs : D.c ∉ D.js
  frfs : D.fr ∉ D.fs
  frjs : D.fr ∉ D.js
  jofs : D.jo ∉ D.fs
  jojs : D.jo ∉ D.js
  fsn : D.fs.Nodup
  jsn : D.js.Nodup
  fj : ∀ a ∈ D.fs, a ∉ D.js
theorem CA.sep {D : CA} (h : D.own.Nodup) : D.Sep := by
  simp only [CA.own, List.nodup_cons, List.mem_cons, List.mem_append, not_or] at h
  obtain ⟨⟨h1, h2, h3, h4⟩, ⟨h5, h6, h7⟩, ⟨h8, h9⟩, h10⟩ := h
  obtain ⟨n1, n2, n3⟩ := List.nodup_append.mp h10
  exact ⟨h1, h2, h5, h3, h4, h6, h7, h8, h9, n1, n2, fun a ha hb => n3 a ha a hb rfl⟩
theorem CA.Sep.own {D : CA} (h : D.Sep) : D.own.Nodup := by
  simp only [CA.own, List.nodup_cons, List.mem_cons, List.mem_append, not_or]
  exact ⟨⟨h.cfr, h.cjo, h.cfs, h.cjs⟩, ⟨h.frjo, h.frfs, h.frjs⟩, ⟨h.jofs, h.jojs⟩, List.nodup_append.mpr ⟨h.fsn, h.jsn, fun a ha b hb e => h.fj a ha (by rw [e]; exact hb)⟩⟩
end
def EvAt (K : Fg) (H : Hp) (l : Addr) (es : List Ev) : Prop := ∃ xs, H l = some (.lst xs) ∧ DpAll K H xs (es.map dEv)
theorem tupd_dEv (e : Ev) : tupd (dEv e) = true := rfl
theorem EvAt.keep {K : Fg} {H H' : Hp} {l : Addr} {es : List Ev} {A : List Addr} (h : EvAt K H l es) (f : Fr A H H') (n : l ∉ A) : EvAt K H' l es := by
  obtain ⟨xs, h1, h2⟩ := h
  exact ⟨xs, f.at h1 n, h2.tk f.tk (tupds_map tupd_dEv _)⟩
end Z
set_option maxHeartbeats 1000000
namespace Z
open PySem PySem.Spec PyProof.Rows L2
open He (ga ma)
structure JOk (P : Pl) (jobs : List (Str × Nat)) : Prop where
  sub : ∀ j ∈ jobs, j.1 ∈ P.wnames
  fr : ((jobs.filter fun a => decide (a.2 = 0)).map (·.1)).Nodup
theorem JOk.nil {P : Pl} : JOk P [] := ⟨by simp, .nil⟩
theorem JOk.leave {P : Pl} {jobs : List (Str × Nat)} (h : JOk P jobs) {z : Str} (hz : z ∈ P.wnames) : JOk P (leave jobs z) := by
  unfold Z.leave
  split
  · exact h
  · rename_i hn
    refine ⟨fun j hj => ?_, ?_⟩
    · rcases List.mem_append.mp hj with hj | hj
      · exact h.sub j hj
      · rw [List.mem_singleton.mp hj]
        exact hz
    · rw [List.filter_append, List.map_append, List.nodup_append]
      refine ⟨h.fr, by simp, fun a ha b hb e => hn ?_⟩
      have hb : b = z := by simpa using hb
      obtain ⟨x, hx, rfl⟩ := List.mem_map.mp ha
      obtain ⟨hx1, hx2⟩ := List.mem_filter.mp hx
      have : x = (z, 0) := Prod.ext (e.trans hb) (by simpa using hx2)
      rw [← this]
      exact hx1
theorem JOk.app {P : Pl} {jobs : List (Str × Nat)} (h : JOk P jobs) {z : Str} {n : Nat} (hz : z ∈ P.wnames) (hn : n ≠ 0) : JOk P (jobs ++ [(z, n)]) := by
  refine ⟨fun j hj => ?_, ?_⟩
  · rcases List.mem_append.mp hj with hj | hj
    · exact h.sub j hj
    · rw [List.mem_singleton.mp hj]
      exact hz
  · rw [List.filter_append, List.map_append]
    simpa [hn] using h.fr
def Stands (P : Pl) (f : Frm) : Prop := ∃ s, (P.ln f.ln).st[f.st]? = some s ∧ (s.1 = "run" ∨ s.1 = "await")
structure FOk (P : Pl) (fs : List Frm) (B : Bd) : Prop where
  nm : ∀ f ∈ fs, f.ln ∈ P.names
  tk : ∀ f ∈ fs, f.ln ∈ B.taken
  nd : (fs.map (·.ln)).Nodup
  st : ∀ f ∈ fs, Stands P f
theorem FOk.len {P : Pl} (ok : P.Ok) {fs : List Frm} {B : Bd} (h : FOk P fs B) : fs.length ≤ 12 := by
  have : Sub (fs.map (·.ln)) P.names := ⟨h.nd, fun x hx => by
    obtain ⟨f, hf, rfl⟩ := List.mem_map.mp hx
    exact h.nm f hf⟩
  have := this.len12 ok
  rwa [List.length_map] at this
structure CSt (K : Fg) (H : Hp) (PD : PA) (P : Pl) (D : CA) (C : Cr) (E : BA) (B : Bd) : Prop where
  pl : PlanAt K H PD P
  co : CoreAt K H PD.p D C
  bd : BoardAt K H PD.p E B
  pd : ∀ a ∈ PD.own, a ∉ D.own ∧ a ∉ E.own
  de : ∀ a ∈ D.own, a ∉ E.own
  bok : B.Ok P
  jok : JOk P C.jobs
structure Chg (H : Hp) (D : CA) (E : BA) (H' : Hp) (D' : CA) : Prop where
  fr : Fr (D.own ++ E.own) H H'
  c : D'.c = D.c
  own : ∀ a ∈ D'.own, a ∈ D.own ∨ H a = none
theorem Chg.refl {H : Hp} {D : CA} {E : BA} : Chg H D E H D := ⟨Fr.refl, rfl, fun _ h => .inl h⟩
theorem Chg.trans {H H1 H2 : Hp} {D D1 D2 : CA} {E : BA} (x : Chg H D E H1 D1) (y : Chg H1 D1 E H2 D2) : Chg H D E H2 D2 := by
  refine ⟨⟨fun a o h n => ?_, fun a h => x.fr.back (y.fr.back h)⟩, y.c.trans x.c, fun a ha => ?_⟩
  · refine y.fr.1 a o (x.fr.1 a o h n) ?_
    rcases n with n | n
    · refine .inl fun z => n ?_
      rcases List.mem_append.mp z with z | z
      · rcases x.own a z with z | z
        · exact List.mem_append_left _ z
        · rw [h] at z
          cases z
      · exact List.mem_append_right _ z
    · exact .inr n
  · rcases y.own a ha with h | h
    · exact x.own a h
    · exact .inr (x.fr.back h)
theorem PlanAt.ex {K : Fg} {H : Hp} {D : PA} {P : Pl} (h : PlanAt K H D P) : ∀ a ∈ D.own, H a ≠ none := by
  obtain ⟨_, _, _, h1, _⟩ := h.ins
  obtain ⟨_, h2, _⟩ := h.rows.at_
  obtain ⟨_, h3, _⟩ := h.works.at_
  simp [PA.own, h1, h2, h3]
theorem BoardAt.ex {K : Fg} {H : Hp} {p : Addr} {D : BA} {B : Bd} (h : BoardAt K H p D B) : ∀ a ∈ D.own, H a ≠ none := by
  obtain ⟨_, h1⟩ := h.ins
  obtain ⟨_, h2, _⟩ := h.ru
  obtain ⟨_, h3, _⟩ := h.re
  simp [BA.own, h1, h2, h3, h.sh, h.wa, h.hi, h.ta, h.ra, h.jo, h.sp, h.wt]
theorem Lsts.ex {H : Hp} : ∀ {as : List Addr} {xss : List (List V)}, Lsts H as xss → ∀ a ∈ as, H a ≠ none
  | _, _, .nil, _, h => by simp at h
  | _, _, .cons e t, a, h => by
    rcases List.mem_cons.mp h with rfl | h
    · simp [e]
    · exact t.ex a h
theorem CoreAt.ex {K : Fg} {H : Hp} {p : Addr} {D : CA} {C : Cr} (h : CoreAt K H p D C) : ∀ a ∈ D.own, H a ≠ none := by
  obtain ⟨_, h1⟩ := h.ins
  intro a ha
  simp only [CA.own, List.mem_cons, List.mem_append] at ha
  rcases ha with rfl | rfl | rfl | ha | ha
  · simp [h1]
  · simp [h.fr]
  · simp [h.jo]
  · exact h.fs.ex a ha
  · exact h.js.ex a ha
section
variable {K : Fg} {H H' : Hp} {PD : PA} {P : Pl} {D D' : CA} {C C' : Cr} {E : BA} {B B' : Bd}
theorem CSt.same (h : CSt K H PD P D C E B) (s : Same H H') : CSt K H' PD P D C E B := ⟨h.pl.same s, h.co.same s, h.bd.same s, h.pd, h.de, h.bok, h.jok⟩
theorem CSt.board (h : CSt K H PD P D C E B) (f : Fr E.own H H') (b : BoardAt K H' PD.p E B') (ok : B'.Ok P) : CSt K H' PD P D C E B' :=
  ⟨h.pl.keep f fun a ha => (h.pd a ha).2, h.co.keep f fun a ha => h.de a ha, b, h.pd, h.de, ok, h.jok⟩
theorem Chg.board (f : Fr E.own H H') : Chg H D E H' D := ⟨f.mono fun a ha => List.mem_append_right _ ha, rfl, fun _ h => .inl h⟩
theorem CSt.core (h : CSt K H PD P D C E B) (f : Fr D.own H H') (c : CoreAt K H' PD.p D' C') (o : ∀ a ∈ D'.own, a ∈ D.own ∨ H a = none) (j : JOk P C'.jobs) : CSt K H' PD P D' C' E B := by
  refine ⟨h.pl.keep f fun a ha => (h.pd a ha).1, c, h.bd.keep f fun a ha z => h.de a z ha, fun a ha => ⟨fun z => ?_, (h.pd a ha).2⟩, fun a ha => ?_, h.bok, j⟩
  · rcases o a z with z | z
    · exact (h.pd a ha).1 z
    · exact h.pl.ex a ha z
  · rcases o a ha with z | z
    · exact h.de a z
    · exact fun w => h.bd.ex a w z
theorem Chg.core (f : Fr D.own H H') (c : D'.c = D.c) (o : ∀ a ∈ D'.own, a ∈ D.own ∨ H a = none) : Chg H D E H' D' := ⟨f.mono fun a ha => List.mem_append_left _ ha, c, o⟩
theorem Chg.same (s : Same H H') : Chg H D E H' D := ⟨s.fr, rfl, fun _ h => .inl h⟩
end
end Z
set_option maxHeartbeats 1000000
namespace Z
open PySem PySem.Spec PyProof.Rows L2
open He (ga ma)
theorem Bd.carry_taken {P : Pl} {B : Bd} {s : Str × Key} : (B.carry P s).1.taken = B.taken := by
  unfold Bd.carry Bd.ring
  repeat (first | rfl | split)
theorem stepFx_taken {P : Pl} {lim : Int} {jobs : List (Str × Nat)} {B : Bd} {s : Str × Key} : (stepFx P lim jobs B s).2.2.taken = B.taken := by
  unfold stepFx
  split
  · rfl
  · split
    · rfl
    · split
      · exact Bd.carry_taken
      · rfl
theorem StepIs.carry {P : Pl} {s : Str × Key} (h : StepIs P s) (h1 : s.1 ≠ "run") (h2 : s.1 ≠ "bar") (h3 : s.1 ≠ "later") (h4 : s.1 ≠ "await") : CarryIs P s := by
  cases h with
  | run i _ _ => exact absurd rfl h1
  | bar i _ _ => exact absurd rfl h2
  | later z _ => exact absurd rfl h3
  | flag w i hm h0 h7 =>
    refine .inr ⟨?_, i, rfl, h0, h7⟩
    simp only [List.mem_cons, List.not_mem_nil, or_false] at hm ⊢
    rcases hm with rfl | rfl | rfl
    · exact .inl rfl
    · exact .inr rfl
    · exact absurd rfl h4
  | line w z hm hz _ => exact .inl ⟨hm, z, rfl, hz⟩
theorem StepIs.later_in {P : Pl} {s : Str × Key} (h : StepIs P s) (e : s.1 = "later") : ∃ z, s.2 = .inr z ∧ z ∈ P.wnames := by
  cases h with
  | later z hz => exact ⟨z, rfl, hz⟩
  | run i _ _ => exact absurd (show ("run" : Str) = "later" from e) (by decide)
  | bar i _ _ => exact absurd (show ("bar" : Str) = "later" from e) (by decide)
  | flag w i hw _ _ => simp only at e; subst e; exact absurd hw (by decide)
  | line w z hw _ _ => simp only at e; subst e; exact absurd hw (by decide)
theorem stepFx_ok {P : Pl} {lim : Int} {jobs : List (Str × Nat)} {B : Bd} {s : Str × Key} (hs : StepIs P s) (hr : s.1 ≠ "run") (bok : B.Ok P) (jok : JOk P jobs) : (stepFx P lim jobs B s).2.2.Ok P ∧ JOk P (stepFx P lim jobs B s).2.1 := by
  unfold stepFx
  split
  · exact ⟨bok, jok⟩
  · rename_i h2
    split
    · rename_i h3
      obtain ⟨z, e, hz⟩ := hs.later_in h3
      rw [e]
      exact ⟨bok, jok.leave hz⟩
    · rename_i h3
      split
      · rename_i h4
        exact ⟨bok.carry (hs.carry hr h2 h3 h4), jok⟩
      · exact ⟨bok, jok⟩
theorem stops_no {B : Bd} {s : Str × Key} (h : stops B s = false) : s.1 ≠ "run" := by
  unfold stops at h
  simp only [Bool.or_eq_false_iff, decide_eq_false_iff_not] at h
  exact h.1
theorem stops_yes {B : Bd} {s : Str × Key} (h : stops B s = true) : s.1 = "run" ∨ s.1 = "await" := by
  unfold stops at h
  simp only [Bool.or_eq_true, Bool.and_eq_true, decide_eq_true_eq] at h
  exact h.imp id (·.1)
structure PassOk (P : Pl) (r : Cr × Bd × List Ev) : Prop where
  bok : r.2.1.Ok P
  jok : JOk P r.1.jobs
  fok : FOk P r.1.frames r.2.1
theorem FOk.taken {P : Pl} {fs : List Frm} {B B' : Bd} (h : FOk P fs B) (e : B'.taken = B.taken) : FOk P fs B' := ⟨h.nm, fun f hf => by rw [e]; exact h.tk f hf, h.nd, h.st⟩
theorem FOk.snoc {P : Pl} {fs : List Frm} {f : Frm} {B : Bd} (h : FOk P fs B) (h1 : f.ln ∈ P.names) (h2 : f.ln ∈ B.taken) (h3 : f.ln ∉ fs.map (·.ln)) (h4 : Stands P f) : FOk P (fs ++ [f]) B := by
  refine ⟨fun g hg => ?_, fun g hg => ?_, ?_, fun g hg => ?_⟩
  · rcases List.mem_append.mp hg with hg | hg
    · exact h.nm g hg
    · rw [List.mem_singleton.mp hg]; exact h1
  · rcases List.mem_append.mp hg with hg | hg
    · exact h.tk g hg
    · rw [List.mem_singleton.mp hg]; exact h2
  · rw [List.map_append, List.nodup_append]
    refine ⟨h.nd, by simp, fun a ha b hb e => ?_⟩
    rw [List.map_singleton, List.mem_singleton] at hb
    subst hb
    subst e
    exact h3 ha
  · rcases List.mem_append.mp hg with hg | hg
    · exact h.st g hg
    · rw [List.mem_singleton.mp hg]; exact h4
theorem FOk.init {P : Pl} {fs : List Frm} {f : Frm} {B : Bd} (h : FOk P (fs ++ [f]) B) : FOk P fs B ∧ f.ln ∈ P.names ∧ f.ln ∈ B.taken ∧ f.ln ∉ fs.map (·.ln) ∧ Stands P f := by
  have hn := h.nd
  rw [List.map_append, List.nodup_append] at hn
  refine ⟨⟨fun g hg => h.nm g (List.mem_append_left _ hg), fun g hg => h.tk g (List.mem_append_left _ hg), hn.1, fun g hg => h.st g (List.mem_append_left _ hg)⟩, h.nm f (by simp), h.tk f (by simp), fun hm => ?_, h.st f (by simp)⟩
  exact hn.2.2 _ hm f.ln (by simp) rfl
theorem passL_ok {P : Pl} (ok : P.Ok) {fs : List Frm} {rest : List (Str × Key)} : ∀ {f : Frm} {lim : Int} {jobs : List (Str × Nat)} {B : Bd}, B.Ok P → JOk P jobs → FOk P fs B → f.ln ∈ P.names → f.ln ∈ B.taken → f.ln ∉ fs.map (·.ln) →
    rest = (P.ln f.ln).st.drop f.st → PassOk P (passL P fs f lim jobs B rest) := by
  induction rest with
  | nil =>
    intro f lim jobs B bok jok fok h1 h2 h3 _
    refine ⟨bok.ended _, jok, fok.nm, fun g hg => ?_, fok.nd, fok.st⟩
    show g.ln ∈ B.taken.erase f.ln
    refine (List.mem_erase_of_ne fun e => h3 ?_).mpr (fok.tk g hg)
    rw [← e]
    exact List.mem_map_of_mem hg
  | cons s r ih =>
    intro f lim jobs B bok jok fok h1 h2 h3 hr
    have hg : (P.ln f.ln).st[f.st]? = some s := by
      rw [← List.head?_drop, ← hr]
      rfl
    unfold passL
    cases e : stops B s with
    | true =>
      rw [if_pos rfl]
      exact ⟨bok, jok, fok.snoc h1 h2 h3 ⟨s, hg, stops_yes e⟩⟩
    | false =>
      rw [if_neg (by simp)]
      obtain ⟨b2, j2⟩ := stepFx_ok (lim := lim) (ok.step (ok.ln_mem h1).1 (List.mem_of_getElem? hg)) (stops_no e) bok jok
      refine ih b2 j2 (fok.taken stepFx_taken) h1 (by rw [stepFx_taken]; exact h2) h3 ?_
      show r = (P.ln f.ln).st.drop (f.st + 1)
      rw [← List.tail_drop, ← hr]
      rfl
theorem pass_ok {P : Pl} (ok : P.Ok) {fs : List Frm} {f : Frm} {lim : Int} {jobs : List (Str × Nat)} {B : Bd} (h : B.Ok P) (j : JOk P jobs) (k : FOk P fs B) (h1 : f.ln ∈ P.names) (h2 : f.ln ∈ B.taken) (h3 : f.ln ∉ fs.map (·.ln)) : PassOk P (pass P fs f lim jobs B) := passL_ok ok h j k h1 h2 h3 rfl
def left1 (P : Pl) (f : Frm) : Nat := (P.ln f.ln).st.length - f.st + 1
def left (P : Pl) (fs : List Frm) : Nat := (fs.map (left1 P)).sum
def passing (P : Pl) (B : Bd) (f : Frm) : Bool := match (P.ln f.ln).st[f.st]? with
  | some s => decide (s.1 = ("await" : Str)) && decide (kI s.2 ∈ B.raised)
  | none => false
theorem left_snoc {P : Pl} {fs : List Frm} {f : Frm} : left P (fs ++ [f]) = left P fs + left1 P f := by
  unfold left
  rw [List.map_append, List.sum_append]
  simp
def passAll (P : Pl) : Nat → Cr → Bd → List Ev → Cr × Bd × List Ev
  | 0, C, B, es => (C, B, es)
  | n + 1, C, B, es => match C.frames.getLast? with
    | none => (C, B, es)
    | some f => if passing P B f = true then passAll P n (pass P C.frames.dropLast f C.limit C.jobs B).1 (pass P C.frames.dropLast f C.limit C.jobs B).2.1 (es ++ (pass P C.frames.dropLast f C.limit C.jobs B).2.2) else (C, B, es)
structure Rm (P : Pl) (C : Cr) (B : Bd) : Prop where
  r : B.rung.length + left P C.frames ≤ 4000000
  j : C.jobs.length + left P C.frames ≤ 30000
theorem Bd.ring_rung {P : Pl} {B : Bd} {z : Str} : (B.ring P z).1.rung.length ≤ B.rung.length + 1 := by
  unfold Bd.ring Bd.tell
  split
  · split
    · show (B.rung ++ [_]).length ≤ _
      rw [List.length_append, List.length_singleton]
      exact Nat.le_refl _
    · show (B.rung ++ [_]).length ≤ _
      rw [List.length_append, List.length_singleton]
      exact Nat.le_refl _
  · split
    · exact Nat.le_succ _
    · exact Nat.le_succ _
theorem Bd.carry_rung {P : Pl} {B : Bd} {s : Str × Key} : (B.carry P s).1.rung.length ≤ B.rung.length + 1 := by
  unfold Bd.carry
  repeat (first | exact Bd.ring_rung | exact Nat.le_succ _ | split)
theorem leave_len {jobs : List (Str × Nat)} {z : Str} : (leave jobs z).length ≤ jobs.length + 1 := by
  unfold leave
  split
  · exact Nat.le_succ _
  · rw [List.length_append, List.length_singleton]
    exact Nat.le_refl _
theorem stepFx_rung {P : Pl} {lim : Int} {jobs : List (Str × Nat)} {B : Bd} {s : Str × Key} : (stepFx P lim jobs B s).2.2.rung.length ≤ B.rung.length + 1 := by
  unfold stepFx
  repeat (first | exact Bd.carry_rung | exact Nat.le_succ _ | split)
theorem stepFx_jobs {P : Pl} {lim : Int} {jobs : List (Str × Nat)} {B : Bd} {s : Str × Key} : (stepFx P lim jobs B s).2.1.length ≤ jobs.length + 1 := by
  unfold stepFx
  repeat (first | exact leave_len | exact Nat.le_succ _ | split)
theorem passL_rj {P : Pl} {fs : List Frm} {rest : List (Str × Key)} : ∀ {f : Frm} {lim : Int} {jobs : List (Str × Nat)} {B : Bd}, rest = (P.ln f.ln).st.drop f.st →
    (passL P fs f lim jobs B rest).2.1.rung.length + left P (passL P fs f lim jobs B rest).1.frames ≤ B.rung.length + (left P fs + left1 P f) ∧ (passL P fs f lim jobs B rest).1.jobs.length + left P (passL P fs f lim jobs B rest).1.frames ≤ jobs.length + (left P fs + left1 P f) := by
  induction rest with
  | nil =>
    intro f lim jobs B _
    show B.rung.length + left P fs ≤ _ ∧ jobs.length + left P fs ≤ _
    omega
  | cons s r ih =>
    intro f lim jobs B hr
    have hl : f.st < (P.ln f.ln).st.length := by
      by_cases h : f.st < (P.ln f.ln).st.length
      · exact h
      · rw [List.drop_of_length_le (by omega)] at hr
        cases hr
    unfold passL
    split
    · show B.rung.length + left P (fs ++ [f]) ≤ _ ∧ jobs.length + left P (fs ++ [f]) ≤ _
      rw [left_snoc]
      omega
    · have h2 : r = (P.ln f.ln).st.drop (f.st + 1) := by
        rw [← List.tail_drop, ← hr]
        rfl
      obtain ⟨i1, i2⟩ := ih (f := { f with st := f.st + 1 }) (lim := (stepFx P lim jobs B s).1) (jobs := (stepFx P lim jobs B s).2.1) (B := (stepFx P lim jobs B s).2.2) h2
      have k1 := stepFx_rung (P := P) (lim := lim) (jobs := jobs) (B := B) (s := s)
      have k2 := stepFx_jobs (P := P) (lim := lim) (jobs := jobs) (B := B) (s := s)
      have k3 : left1 P { f with st := f.st + 1 } + 1 = left1 P f := by
        show (P.ln f.ln).st.length - (f.st + 1) + 1 + 1 = (P.ln f.ln).st.length - f.st + 1
        omega
      omega
theorem pass_rj {P : Pl} {fs : List Frm} {f : Frm} {lim : Int} {jobs : List (Str × Nat)} {B : Bd} :
    (pass P fs f lim jobs B).2.1.rung.length + left P (pass P fs f lim jobs B).1.frames ≤ B.rung.length + left P (fs ++ [f]) ∧ (pass P fs f lim jobs B).1.jobs.length + left P (pass P fs f lim jobs B).1.frames ≤ jobs.length + left P (fs ++ [f]) := by
  rw [left_snoc]
  exact passL_rj rfl
theorem Rm.pass {P : Pl} {C : Cr} {B : Bd} {fs : List Frm} {f : Frm} (h : Rm P C B) (e : C.frames = fs ++ [f]) : Rm P (pass P fs f C.limit C.jobs B).1 (pass P fs f C.limit C.jobs B).2.1 := by
  obtain ⟨h1, h2⟩ := h
  rw [e] at h1 h2
  obtain ⟨k1, k2⟩ := pass_rj (P := P) (fs := fs) (f := f) (lim := C.limit) (jobs := C.jobs) (B := B)
  exact ⟨by omega, by omega⟩
theorem Rm.next {P : Pl} {C : Cr} {B : Bd} {fs : List Frm} {f : Frm} (h : Rm P C B) (e : C.frames = fs ++ [f]) : Rm P { C with frames := fs ++ [{ f with tk := 0, st := f.st + 1 }] } B := by
  obtain ⟨h1, h2⟩ := h
  rw [e, left_snoc] at h1 h2
  have k : left1 P { f with tk := 0, st := f.st + 1 } ≤ left1 P f := by
    show (P.ln f.ln).st.length - (f.st + 1) + 1 ≤ (P.ln f.ln).st.length - f.st + 1
    omega
  refine ⟨?_, ?_⟩
  · show B.rung.length + left P (fs ++ [_]) ≤ _
    rw [left_snoc]
    omega
  · show C.jobs.length + left P (fs ++ [_]) ≤ _
    rw [left_snoc]
    omega
end Z
set_option maxHeartbeats 1000000
namespace Z
open PySem PySem.Spec PyProof.Rows L2
open He (ga ma)
section
variable {K : Fg} {H H' : Hp} {a p : Addr} {o : HO} {xs : List V} {v : V} {d : PyData} {ds : List PyData}
theorem at_same (s : Same H H') (h : H a = some o) : H' a = some o := s a o h
theorem sqT_same (s : Same H H') (h : SqT K H a xs) : SqT K H' a xs := s.sqT h
theorem sqL_same (s : Same H H') (h : SqL K H a xs) : SqL K H' a xs := s.seq h
theorem dp_same (s : Same H H') (h : Dp K H v d) : Dp K H' v d := h.same s
theorem dpA_same (s : Same H H') (h : DpAll K H xs ds) : DpAll K H' xs ds := h.same s
theorem pl_same {D : PA} {P : Pl} (s : Same H H') (h : PlanAt K H D P) : PlanAt K H' D P := h.same s
theorem bd_same {D : BA} {B : Bd} (s : Same H H') (h : BoardAt K H p D B) : BoardAt K H' p D B := h.same s
theorem co_same {D : CA} {C : Cr} (s : Same H H') (h : CoreAt K H p D C) : CoreAt K H' p D C := h.same s
theorem cst_same {PD : PA} {P : Pl} {D : CA} {C : Cr} {E : BA} {B : Bd} (s : Same H H') (h : CSt K H PD P D C E B) : CSt K H' PD P D C E B := h.same s
theorem ev_same {l : Addr} {es : List Ev} (s : Same H H') (h : EvAt K H l es) : EvAt K H' l es := h.keep (A := []) s.fr (by simp)
end
theorem at0 {a : V} {r : List V} : atI (a :: r) 0 = some a := at_of (j := 0) rfl rfl
theorem at1 {a b : V} {r : List V} : atI (a :: b :: r) 1 = some b := at_of (j := 1) rfl rfl
theorem at2 {a b c : V} {r : List V} : atI (a :: b :: c :: r) 2 = some c := at_of (j := 2) rfl rfl
theorem at3 {a b c d : V} {r : List V} : atI (a :: b :: c :: d :: r) 3 = some d := at_of (j := 3) rfl rfl
theorem at4 {a b c d e : V} {r : List V} : atI (a :: b :: c :: d :: e :: r) 4 = some e := at_of (j := 4) rfl rfl
end Z
set_option maxHeartbeats 1000000
namespace Z
open PySem PySem.Spec PyProof.Rows L2
open He (ga ma)
def jobD (P : Pl) (x : (Str × Nat) × Nat) : PyData := .tuple [.int (0 - (P.wk x.1.1).rk), .int (x.2 : Int)]
def places (P : Pl) (jobs : List (Str × Nat)) : List Nat := (jobs.zipIdx.mergeSort (PySem.W.dataLe false (jobD P))).map (·.2)
theorem jobLe {P : Pl} {a b : (Str × Nat) × Nat} : PySem.W.dataLe false (jobD P) a b = decide (0 - (P.wk a.1.1).rk < 0 - (P.wk b.1.1).rk ∨ 0 - (P.wk a.1.1).rk = 0 - (P.wk b.1.1).rk ∧ (a.2 : Int) ≤ (b.2 : Int)) := by
  have := congrFun (congrFun (PySem.W.dataLe_ii (fun x : (Str × Nat) × Nat => 0 - (P.wk x.1.1).rk) (fun x => (x.2 : Int))) a) b
  exact this
theorem places_perm (P : Pl) (jobs : List (Str × Nat)) : (places P jobs).Perm (List.range jobs.length) := by
  unfold places
  refine ((List.mergeSort_perm _ _).map _).trans ?_
  rw [List.zipIdx_map_snd, List.range_eq_range']
theorem places_len (P : Pl) (jobs : List (Str × Nat)) : (places P jobs).length = jobs.length := by rw [(places_perm P jobs).length_eq, List.length_range]
theorem places_lt {P : Pl} {jobs : List (Str × Nat)} {k : Nat} (h : k ∈ places P jobs) : k < jobs.length := List.mem_range.mp ((places_perm P jobs).mem_iff.mp h)
theorem places_sorted (P : Pl) (jobs : List (Str × Nat)) : (jobs.zipIdx.mergeSort (PySem.W.dataLe false (jobD P))).Pairwise fun a b => PySem.W.dataLe false (jobD P) a b = true := by
  refine List.pairwise_mergeSort (fun a b c h1 h2 => ?_) (fun a b => ?_) _
  · rw [jobLe] at h1 h2 ⊢
    simp only [decide_eq_true_eq] at h1 h2 ⊢
    omega
  · rw [jobLe, jobLe]
    simp only [Bool.or_eq_true, decide_eq_true_eq]
    omega
theorem places_head {P : Pl} {jobs : List (Str × Nat)} {k : Nat} {r : List Nat} (h : places P jobs = k :: r) : ∃ j, jobs[k]? = some j ∧ ∀ i x, jobs[i]? = some x → x.1 = j.1 → k ≤ i := by
  have hs := places_sorted P jobs
  have hm : ∀ x, x ∈ jobs.zipIdx ↔ x ∈ jobs.zipIdx.mergeSort (PySem.W.dataLe false (jobD P)) := fun x => (List.mergeSort_perm jobs.zipIdx (PySem.W.dataLe false (jobD P))).mem_iff.symm
  unfold places at h
  generalize jobs.zipIdx.mergeSort (PySem.W.dataLe false (jobD P)) = l at h hs hm
  cases l with
  | nil => cases h
  | cons y l =>
    rw [List.map_cons] at h
    have hy : y.2 = k := (List.cons.inj h).1
    have h1 := List.mem_zipIdx_iff_getElem?.mp ((hm y).mpr (by simp))
    rw [hy] at h1
    refine ⟨y.1, h1, fun i x hi e => ?_⟩
    have h2 := (hm (x, i)).mp (List.mem_zipIdx_iff_getElem?.mpr hi)
    rcases List.mem_cons.mp h2 with h2 | h2
    · rw [← h2] at hy
      exact Nat.le_of_eq hy.symm
    · have h3 := (List.pairwise_cons.mp hs).1 _ h2
      rw [jobLe] at h3
      simp only [decide_eq_true_eq, e] at h3
      omega
def doWork (P : Pl) (jobs : List (Str × Nat)) : List (Str × Nat) × List Ev := match places P jobs with
  | [] => (jobs, [])
  | k :: _ => match jobs[k]? with
    | none => (jobs, [])
    | some j => if (j.2 : Int) + 1 < (P.wk j.1).tk then (jobs.set k (j.1, j.2 + 1), []) else (jobs.eraseIdx k, [("done", j.1)])
theorem filter_set_sub {α : Type} (p : α → Bool) {x : α} (hx : p x = false) : ∀ (l : List α) (k : Nat), ((l.set k x).filter p).Sublist (l.filter p)
  | [], k => by simp
  | a :: l, 0 => by
    rw [List.set_cons_zero, List.filter_cons_of_neg (by simp [hx])]
    exact (List.sublist_cons_self a l).filter p
  | a :: l, k + 1 => by
    rw [List.set_cons_succ]
    cases e : p a with
    | true =>
      rw [List.filter_cons_of_pos e, List.filter_cons_of_pos e]
      exact (filter_set_sub p hx l k).cons₂ a
    | false =>
      rw [List.filter_cons_of_neg (by simp [e]), List.filter_cons_of_neg (by simp [e])]
      exact filter_set_sub p hx l k
theorem JOk.setJ {P : Pl} {jobs : List (Str × Nat)} {k : Nat} {j : Str × Nat} (h : JOk P jobs) (hk : jobs[k]? = some j) (hm : ∀ i x, jobs[i]? = some x → x.1 = j.1 → k ≤ i) (n : Nat) (hn : n ≠ 0) : JOk P (jobs.set k (j.1, n)) := by
  refine ⟨fun x hx => ?_, h.fr.sublist ((filter_set_sub _ (by simp [hn]) jobs k).map _)⟩
  rcases List.mem_or_eq_of_mem_set hx with hx | hx
  · exact h.sub x hx
  · rw [hx]
    exact h.sub j (List.mem_of_getElem? hk)
theorem JOk.eraseJ {P : Pl} {jobs : List (Str × Nat)} (h : JOk P jobs) (k : Nat) : JOk P (jobs.eraseIdx k) := ⟨fun x hx => h.sub x (List.mem_of_mem_eraseIdx hx), h.fr.sublist (((List.eraseIdx_sublist _ _).filter _).map _)⟩
theorem JOk.doWork {P : Pl} {jobs : List (Str × Nat)} (h : JOk P jobs) : JOk P (doWork P jobs).1 := by
  unfold Z.doWork
  split
  · exact h
  · rename_i k r e
    obtain ⟨j, hj, hm⟩ := places_head e
    rw [hj]
    dsimp only
    split
    · exact h.setJ hj hm _ (Nat.succ_ne_zero _)
    · exact h.eraseJ k
def stepOf (P : Pl) (f : Frm) : Str × Key := ((P.ln f.ln).st[f.st]?).getD ("", .inl 0)
def spend (P : Pl) (fs : List Frm) (f : Frm) (lim : Int) (jobs : List (Str × Nat)) (B : Bd) : Cr × Bd × List Ev :=
  if (f.tk : Int) + 1 < kI (stepOf P f).2 then (⟨fs ++ [{ f with tk := f.tk + 1 }], lim, jobs⟩, B, []) else pass P fs { f with st := f.st + 1, tk := 0 } lim jobs B
def tickC (P : Pl) (C : Cr) (B : Bd) (es : List Ev) : Str × Cr × Bd × List Ev := match C.frames.getLast? with
  | some f => if (stepOf P f).1 = "await" then ("spun", C, B, es) else ("call", (spend P C.frames.dropLast f C.limit C.jobs B).1, (spend P C.frames.dropLast f C.limit C.jobs B).2.1, es ++ (spend P C.frames.dropLast f C.limit C.jobs B).2.2)
  | none => if C.jobs = [] then ("idle", C, B, es) else ("work", { C with jobs := (doWork P C.jobs).1 }, B, es ++ (doWork P C.jobs).2)
def Cr.tick (P : Pl) (C : Cr) (B : Bd) : Str × Cr × Bd × List Ev := tickC P (passAll P (left P C.frames) C B []).1 (passAll P (left P C.frames) C B []).2.1 (passAll P (left P C.frames) C B []).2.2
structure COk (P : Pl) (C : Cr) (B : Bd) : Prop where
  bok : B.Ok P
  jok : JOk P C.jobs
  fok : FOk P C.frames B
theorem PassOk.cok {P : Pl} {r : Cr × Bd × List Ev} (h : PassOk P r) : COk P r.1 r.2.1 := ⟨h.bok, h.jok, h.fok⟩
theorem COk.pass {P : Pl} (ok : P.Ok) {C : Cr} {B : Bd} {fs : List Frm} {f : Frm} (h : COk P C B) (e : C.frames = fs ++ [f]) : COk P (pass P fs f C.limit C.jobs B).1 (pass P fs f C.limit C.jobs B).2.1 := by
  have hf := h.fok
  rw [e] at hf
  obtain ⟨h1, h2, h3, h4, h5⟩ := hf.init
  exact (pass_ok ok h.bok h.jok h1 h2 h3 h4).cok
theorem FOk.inj {P : Pl} {fs : List Frm} {f g : Frm} {B : Bd} (h : FOk P (fs ++ [f]) B) (e : g.ln = f.ln) (hs : Stands P g) : FOk P (fs ++ [g]) B := by
  obtain ⟨h1, h2, h3, h4, h5⟩ := h.init
  exact h1.snoc (by rw [e]; exact h2) (by rw [e]; exact h3) (by rw [e]; exact h4) hs
theorem COk.spend {P : Pl} (ok : P.Ok) {C : Cr} {B : Bd} {fs : List Frm} {f : Frm} (h : COk P C B) (e : C.frames = fs ++ [f]) : COk P (spend P fs f C.limit C.jobs B).1 (spend P fs f C.limit C.jobs B).2.1 := by
  have hf := h.fok
  rw [e] at hf
  obtain ⟨h1, h2, h3, h4, h5⟩ := hf.init
  unfold Z.spend
  split
  · exact ⟨h.bok, h.jok, hf.inj rfl h5⟩
  · exact (pass_ok (f := { f with st := f.st + 1, tk := 0 }) ok h.bok h.jok h1 h2 h3 h4).cok
theorem COk.tickC {P : Pl} (ok : P.Ok) {C : Cr} {B : Bd} {es : List Ev} (h : COk P C B) : COk P (tickC P C B es).2.1 (tickC P C B es).2.2.1 := by
  unfold Z.tickC
  rcases List.eq_nil_or_concat C.frames with e | ⟨fs, f, e⟩
  · rw [e]
    show COk P (if C.jobs = [] then _ else _ : Str × Cr × Bd × List Ev).2.1 (if C.jobs = [] then _ else _ : Str × Cr × Bd × List Ev).2.2.1
    split
    · exact h
    · exact ⟨h.bok, h.jok.doWork, by have := h.fok; rw [e] at this; exact this⟩
  · rw [List.concat_eq_append] at e
    rw [e, List.getLast?_concat]
    dsimp only
    split
    · exact h
    · rw [List.dropLast_concat]
      exact h.spend ok e
theorem COk.passAll {P : Pl} (ok : P.Ok) : ∀ (n : Nat) {C : Cr} {B : Bd} {es : List Ev}, COk P C B → COk P (passAll P n C B es).1 (passAll P n C B es).2.1
  | 0, _, _, _, h => h
  | n + 1, C, B, es, h => by
    unfold Z.passAll
    rcases List.eq_nil_or_concat C.frames with e | ⟨fs, f, e⟩
    · rw [e]
      exact h
    · rw [List.concat_eq_append] at e
      rw [e, List.getLast?_concat]
      dsimp only
      split
      · rw [List.dropLast_concat]
        exact COk.passAll ok n (h.pass ok e)
      · exact h
theorem COk.tick {P : Pl} (ok : P.Ok) {C : Cr} {B : Bd} (h : COk P C B) : COk P (C.tick P B).2.1 (C.tick P B).2.2.1 := (COk.passAll ok _ h).tickC ok
theorem left_le {P : Pl} (ok : P.Ok) {fs : List Frm} (h : ∀ f ∈ fs, f.ln ∈ P.names) : left P fs ≤ 9 * fs.length := by
  unfold left
  induction fs with
  | nil => exact Nat.le_refl _
  | cons f fs ih =>
    have h1 := ok.steps8 (ok.ln_mem (h f (by simp))).1
    have h2 := ih fun g hg => h g (List.mem_cons_of_mem _ hg)
    rw [List.map_cons, List.sum_cons, List.length_cons]
    have : left1 P f ≤ 9 := by unfold left1; omega
    omega
section
variable {K : Fg} {σ : L2.St} {H H1 : Hp} {Q : VK} {g : TG} {tt : TT} {te : TE} {vs : List Nat} {a : Addr} {xs : List V} {α : Type} {l : List α} {da : α → PyData}
def LcE (K : Fg) (g : TG) (tt : TT) (te : TE) (vs : List Nat) (σ : L2.St) (Q : VK) (us : List V) (H1 : Hp) : Prop := ∃ a xs, us = [.ref a] ∧ SqL K H1 a xs ∧ LcQ (Ite K a) g tt te vs σ Q H1
theorem s_lcE {ta : TA} (q : ta σ H fun us H1 => LcE K g tt te vs σ Q us H1) : tLc (iEnum K ta) g tt te vs σ H Q := q
end
section
variable {K : Fg} {σ : L2.St} {H : Hp} {Q : VK} {a : Addr} {xs : List V}
theorem s_sl {r : V → Option Int → Option Int → Hp → VK → Prop} {te : TE} {tl th : TO} (q : te σ H fun x H1 => tl σ H1 fun l H2 => th σ H2 fun u H3 => r x l u H3 Q) : L2.tSl r te tl th σ H Q := q
theorem s_nop {R : Option Int → Hp → Prop} (q : R none H) : tNoPart σ H R := q
theorem s_part {R : Option Int → Hp → Prop} {t : TE} (q : t σ H fun x H1 => ∃ i, x = .int i ∧ R (some i) H1) : tPart t σ H R := q
theorem s_slL {lo hi : Option Int} (h : SqL K H a xs) (q : ∀ p, H p = none → Q (.ref p) (upd H p (.lst (cutV xs lo hi)))) : rSlL K (.ref a) lo hi H Q := ⟨a, xs, rfl, h, q⟩
theorem cut_take (xs : List V) (k : Nat) : cutV xs none (some (k : Int)) = xs.take k := by
  unfold cutV
  rw [HT.sIx_none, HT.sIx_nat, List.drop_zero, Nat.sub_zero]
  by_cases h : k ≤ xs.length
  · rw [Nat.min_eq_left h]
  · rw [Nat.min_eq_right (by omega), List.take_of_length_le (by omega), List.take_of_length_le (by omega)]
theorem cut_drop (xs : List V) (k : Nat) : cutV xs (some (k : Int)) none = xs.drop k := by
  unfold cutV
  rw [HT.sIx_none, HT.sIx_nat]
  by_cases h : k ≤ xs.length
  · rw [Nat.min_eq_left h, List.take_of_length_le (by rw [List.length_drop]; omega)]
  · rw [Nat.min_eq_right (by omega), List.drop_of_length_le (by omega), List.drop_of_length_le (by omega), List.take_nil]
end
theorem CoreAt.setJ {K : Fg} {H : Hp} {p : Addr} {D : CA} {C : Cr} (h : CoreAt K H p D C) {t : Addr} {g : Str × Nat} (ht : H t = some (.lst (jbV g))) (hn : t ∉ D.own) (k : Nat) : CoreAt K (upd H D.jo (.lst ((D.js.set k t).map V.ref))) p { D with js := D.js.set k t } { C with jobs := C.jobs.set k g } := by
  have s := CA.sep h.nd
  have hm : ∀ a ∈ D.own, a ≠ t := fun a ha e => hn (by rw [← e]; exact ha)
  have hin : ∀ a ∈ D.js.set k t, a ∈ D.js ∨ a = t := fun a ha => List.mem_or_eq_of_mem_set ha
  have f' : Fr [D.jo] H (upd H D.jo (.lst ((D.js.set k t).map V.ref))) := Fr.upd (by simp) h.jo rfl
  obtain ⟨dx, e⟩ := h.ins
  refine ⟨CA.Sep.own ⟨s.cfr, s.cjo, s.frjo, s.cfs, fun z => ?_, s.frfs, fun z => ?_, s.jofs, fun z => ?_, s.fsn, ?_, fun a ha z => ?_⟩, ⟨dx, f'.at e (by simp [s.cjo])⟩, f'.at h.fr (by simp [s.frjo]), upd_same, h.fs.keep f' fun a ha z => s.jofs (by rw [← List.mem_singleton.mp z]; exact ha), ?_⟩
  · rcases hin _ z with z | z
    · exact s.cjs z
    · exact hm D.c (by simp [CA.own]) z
  · rcases hin _ z with z | z
    · exact s.frjs z
    · exact hm D.fr (by simp [CA.own]) z
  · rcases hin _ z with z | z
    · exact s.jojs z
    · exact hm D.jo (by simp [CA.own]) z
  · show (D.js.set k t).Nodup
    refine List.pairwise_iff_getElem.mpr fun i j hi hj hij => ?_
    rw [List.length_set] at hi hj
    have nd := List.pairwise_iff_getElem.mp s.jsn
    have mm : ∀ i (h : i < D.js.length), D.js[i] ≠ t := fun i h => hm _ (by simp [CA.own])
    rw [List.getElem_set, List.getElem_set]
    split
    · split
      · omega
      · exact fun e => mm _ _ e.symm
    · split
      · exact mm _ _
      · exact nd i j hi hj hij
  · rcases hin _ z with z | z
    · exact s.fj a ha z
    · exact hm a (by have ha' : a ∈ D.fs := ha; simp [CA.own, ha']) z
  · show Lsts _ (D.js.set k t) ((C.jobs.set k g).map jbV)
    rw [List.map_set (l := C.jobs)]
    refine (h.js.keep f' fun a ha z => s.jojs (by rw [← List.mem_singleton.mp z]; exact ha)).set k (f'.at ht ?_)
    simp [Ne.symm (hm D.jo (by simp [CA.own]))]
theorem ixN_n {n j : Nat} (hj : j < n) : ixN n (j : Int) = some j := by
  unfold ixN
  rw [if_pos (by omega), if_pos (by omega)]
  rfl
theorem spend_lt {P : Pl} {fs : List Frm} {f : Frm} {lim : Int} {jobs : List (Str × Nat)} {B : Bd} {n : Int} (e : stepOf P f = (("run" : Str), (Sum.inl n : Key))) (h : (f.tk : Int) + 1 < n) : spend P fs f lim jobs B = (⟨fs ++ [{ f with tk := f.tk + 1 }], lim, jobs⟩, B, []) := by
  unfold spend
  rw [e]
  exact if_pos h
theorem spend_ge {P : Pl} {fs : List Frm} {f : Frm} {lim : Int} {jobs : List (Str × Nat)} {B : Bd} {n : Int} (e : stepOf P f = (("run" : Str), (Sum.inl n : Key))) (h : ¬ (f.tk : Int) + 1 < n) : spend P fs f lim jobs B = pass P fs { f with st := f.st + 1, tk := 0 } lim jobs B := by
  unfold spend
  rw [e]
  exact if_neg h
end Z
set_option maxHeartbeats 1000000
namespace Z
open PySem PySem.Spec PyProof.Rows L2
open He (ga ma)
theorem passAll_nil {P : Pl} {n : Nat} {C : Cr} {B : Bd} {es : List Ev} (h : C.frames = []) : passAll P n C B es = (C, B, es) := by
  cases n with
  | zero => rfl
  | succ n =>
    unfold passAll
    rw [h]
    rfl
theorem passAll_no {P : Pl} {n : Nat} {C : Cr} {B : Bd} {es : List Ev} {fs : List Frm} {f : Frm} (h : C.frames = fs ++ [f]) (hp : passing P B f = false) : passAll P n C B es = (C, B, es) := by
  cases n with
  | zero => rfl
  | succ n =>
    unfold passAll
    rw [h, List.getLast?_concat]
    dsimp only
    rw [hp, if_neg (by simp)]
theorem passAll_yes {P : Pl} {n : Nat} {C : Cr} {B : Bd} {es : List Ev} {fs : List Frm} {f : Frm} (h : C.frames = fs ++ [f]) (hp : passing P B f = true) :
    passAll P (n + 1) C B es = passAll P n (pass P fs f C.limit C.jobs B).1 (pass P fs f C.limit C.jobs B).2.1 (es ++ (pass P fs f C.limit C.jobs B).2.2) := by
  conv => lhs; unfold passAll
  rw [h, List.getLast?_concat, List.dropLast_concat]
  dsimp only
  rw [hp, if_pos rfl]
theorem EvAt.ne {K : Fg} {H : Hp} {l : Addr} {es : List Ev} (h : EvAt K H l es) : H l ≠ none := by
  obtain ⟨xs, e, _⟩ := h
  rw [e]
  simp
theorem EvAt.len {K : Fg} {H : Hp} {l : Addr} {es : List Ev} (h : EvAt K H l es) : ∃ xs, H l = some (.lst xs) ∧ xs.length = es.length ∧ DpAll K H xs (es.map dEv) := by
  obtain ⟨xs, e, d⟩ := h
  exact ⟨xs, e, by rw [d.len, List.length_map], d⟩
theorem COk.len {P : Pl} (ok : P.Ok) {C : Cr} {B : Bd} (h : COk P C B) : left P C.frames ≤ 108 := by
  have h1 := left_le ok h.fok.nm
  have h2 := h.fok.len ok
  omega
theorem passing_eq {P : Pl} {B : Bd} {f : Frm} {s : Str × Key} (h : (P.ln f.ln).st[f.st]? = some s) : passing P B f = (decide (s.1 = ("await" : Str)) && decide (kI s.2 ∈ B.raised)) := by
  unfold passing
  rw [h]
theorem doWork_ev {P : Pl} {jobs : List (Str × Nat)} : (doWork P jobs).2.length ≤ 1 := by
  unfold doWork
  split
  · exact Nat.zero_le _
  · split
    · exact Nat.zero_le _
    · split <;> simp
end Z
set_option maxHeartbeats 1000000
namespace Z
open PySem PySem.Spec PyProof.Rows L2
open He (ga ma)
structure Sg where
  B : Bd
  C : Cr
  time : Int
  sums : List (Str × Int)
def sumKeys : List Str := ["call", "spun", "work", "idle"]
def Sg.start (P : Pl) : Sg := ⟨⟨[], [], [], [], [], P.order.map fun z => (z, 0), 0, none, [], [], [], []⟩, ⟨[], 0, []⟩, 0, sumKeys.map fun k => (k, 0)⟩
def ready (P : Pl) (B : Bd) : List Str := P.order.filter B.can
def takeC (P : Pl) (C : Cr) (B : Bd) : Cr × Bd × List Ev := match ready P B with
  | [] => (C, B, [])
  | z :: _ => if C.may P z = true then ((pass P C.frames ⟨z, 0, 0, C.limit⟩ C.limit C.jobs (B.begun z)).1, (pass P C.frames ⟨z, 0, 0, C.limit⟩ C.limit C.jobs (B.begun z)).2.1, ("begin", z) :: (pass P C.frames ⟨z, 0, 0, C.limit⟩ C.limit C.jobs (B.begun z)).2.2) else (C, B, [])
def Sg.tick (P : Pl) (G : Sg) : Sg × List Ev :=
  (⟨((takeC P G.C G.B).1.tick P (takeC P G.C G.B).2.1).2.2.1, ((takeC P G.C G.B).1.tick P (takeC P G.C G.B).2.1).2.1, G.time + 1, bump G.sums ((takeC P G.C G.B).1.tick P (takeC P G.C G.B).2.1).1⟩,
   (takeC P G.C G.B).2.2 ++ ((takeC P G.C G.B).1.tick P (takeC P G.C G.B).2.1).2.2.2)
def Sg.ring (P : Pl) (G : Sg) (z : Str) : Sg := { G with B := (G.B.ring P z).1 }
structure SA where
  s : Addr
  su : Addr
  PD : PA
  D : CA
  E : BA
def SA.own (A : SA) : List Addr := A.s :: A.su :: (A.D.own ++ A.E.own)
def singF (A : SA) (time : Int) : List (Str × V) := [("plan", .ref A.PD.p), ("board", .ref A.E.b), ("core", .ref A.D.c), ("time", .int time), ("sums", .ref A.su)]
theorem sgF_plan {A : SA} {t : Int} : (singF A t).lookup ("plan" : Str) = some (.ref A.PD.p) := by kernel_rfl
theorem sgF_board {A : SA} {t : Int} : (singF A t).lookup ("board" : Str) = some (.ref A.E.b) := by kernel_rfl
theorem sgF_core {A : SA} {t : Int} : (singF A t).lookup ("core" : Str) = some (.ref A.D.c) := by kernel_rfl
theorem sgF_time {A : SA} {t : Int} : (singF A t).lookup ("time" : Str) = some (.int t) := by kernel_rfl
theorem sgF_sums {A : SA} {t : Int} : (singF A t).lookup ("sums" : Str) = some (.ref A.su) := by kernel_rfl
structure SgAt (K : Fg) (H : Hp) (A : SA) (P : Pl) (G : Sg) : Prop where
  cst : CSt K H A.PD P A.D G.C A.E G.B
  fok : FOk P G.C.frames G.B
  ins : ∃ dx, H A.s = some (.ins (ga K "Single") dx (singF A G.time))
  su : H A.su = some (.dK (joinK G.sums))
  sk : G.sums.map (·.1) = sumKeys
  ssu : A.s ≠ A.su
  sn : A.s ∉ A.PD.own ∧ A.s ∉ A.D.own ∧ A.s ∉ A.E.own
  sun : A.su ∉ A.PD.own ∧ A.su ∉ A.D.own ∧ A.su ∉ A.E.own
structure ChS (H : Hp) (A : SA) (H' : Hp) (A' : SA) : Prop where
  fr : Fr A.own H H'
  s : A'.s = A.s
  su : A'.su = A.su
  PD : A'.PD = A.PD
  E : A'.E = A.E
  c : A'.D.c = A.D.c
  own : ∀ a ∈ A'.own, a ∈ A.own ∨ H a = none
theorem ChS.refl {H : Hp} {A : SA} : ChS H A H A := ⟨Fr.refl, rfl, rfl, rfl, rfl, rfl, fun _ h => .inl h⟩
theorem ChS.same {H H' : Hp} {A : SA} (s : Same H H') : ChS H A H' A := ⟨s.fr, rfl, rfl, rfl, rfl, rfl, fun _ h => .inl h⟩
theorem Fr.seq {M N : List Addr} {H H1 H2 : Hp} (x : Fr M H H1) (y : Fr N H1 H2) (h : ∀ a ∈ N, a ∈ M ∨ H a = none) : Fr M H H2 := by
  refine ⟨fun a o e n => y.1 a o (x.1 a o e n) ?_, fun a e => x.back (y.back e)⟩
  rcases n with n | n
  · refine .inl fun z => ?_
    rcases h a z with z | z
    · exact n z
    · rw [e] at z
      cases z
  · exact .inr n
theorem ChS.trans {H H1 H2 : Hp} {A A1 A2 : SA} (x : ChS H A H1 A1) (y : ChS H1 A1 H2 A2) : ChS H A H2 A2 := by
  refine ⟨x.fr.seq y.fr x.own, y.s.trans x.s, y.su.trans x.su, y.PD.trans x.PD, y.E.trans x.E, y.c.trans x.c, fun a ha => ?_⟩
  rcases y.own a ha with h | h
  · exact x.own a h
  · exact .inr (x.fr.back h)
section
variable {K : Fg} {H H' : Hp} {A : SA} {P : Pl} {G : Sg}
theorem SgAt.keep (h : SgAt K H A P G) {N : List Addr} (f : Fr N H H') (n : ∀ a ∈ A.own, a ∉ N) (n2 : ∀ a ∈ A.PD.own, a ∉ N) : SgAt K H' A P G := by
  obtain ⟨dx, e⟩ := h.ins
  have hD : ∀ a ∈ A.D.own, a ∉ N := fun a ha => n a (by simp [SA.own, ha])
  have hE : ∀ a ∈ A.E.own, a ∉ N := fun a ha => n a (by simp [SA.own, ha])
  exact ⟨⟨h.cst.pl.keep f n2, h.cst.co.keep f hD, h.cst.bd.keep f hE, h.cst.pd, h.cst.de, h.cst.bok, h.cst.jok⟩, h.fok, ⟨dx, f.at e (n _ (by simp [SA.own]))⟩, f.at h.su (n _ (by simp [SA.own])), h.sk, h.ssu, h.sn, h.sun⟩
theorem SgAt.same (h : SgAt K H A P G) (s : Same H H') : SgAt K H' A P G := h.keep (N := []) s.fr (by simp) (by simp)
theorem SgAt.ex (h : SgAt K H A P G) : ∀ a ∈ A.own, H a ≠ none := by
  obtain ⟨dx, e⟩ := h.ins
  intro a ha
  simp only [SA.own, List.mem_cons, List.mem_append] at ha
  rcases ha with rfl | rfl | ha | ha
  · simp [e]
  · simp [h.su]
  · exact h.cst.co.ex a ha
  · exact h.cst.bd.ex a ha
theorem sg_same (s : Same H H') (h : SgAt K H A P G) : SgAt K H' A P G := h.same s
end
theorem s_make {C : Addr} {sp : Sp} {dvs : List V} {E : XK} {t : TA} {σ : L2.St} {H : Hp} {Q : VK} (q : t σ H fun vs H1 => ∀ x dx, H1 x = none → H1 dx = none → dx ≠ x →
  sp (.ref x :: (vs ++ dvs)) (upd (upd H1 dx (.own x)) x (.ins C dx [])) (fun v H2 => v = .non ∧ Q (.ref x) H2) E) : tMake C sp dvs E t σ H Q := q
theorem mkS {H H2 : Hp} {x dx : Addr} {o u : HO} (hx : H x = none) (hd : H dx = none) (e : upd (upd H dx o) x u = H2) : Same H H2 := by
  subst e
  intro a v h
  rw [upd_ne (ne_of_none h hx), upd_ne (ne_of_none h hd)]
  exact h
theorem mkE {H H2 : Hp} {x dx : Addr} {o u : HO} (e : upd (upd H dx o) x u = H2) : H2 x = some u := by
  subst e
  exact upd_same
theorem can_names {P : Pl} {B : Bd} {z : Str} {r : List Str} (h : ready P B = z :: r) : z ∈ P.names ∧ B.can z = true := by
  have : z ∈ ready P B := by rw [h]; simp
  unfold ready at this
  obtain ⟨h1, h2⟩ := List.mem_filter.mp this
  exact ⟨P.order_perm.mem_iff.mp h1, h2⟩
theorem can_taken {B : Bd} {z : Str} (h : B.can z = true) : z ∉ B.taken := by
  unfold Bd.can at h
  simp only [Bool.and_eq_true, Bool.not_eq_true', decide_eq_false_iff_not] at h
  exact h.2.2
theorem takeC_ok {P : Pl} (ok : P.Ok) {C : Cr} {B : Bd} (h : COk P C B) : COk P (takeC P C B).1 (takeC P C B).2.1 := by
  unfold takeC
  cases e : ready P B with
  | nil => exact h
  | cons z r =>
    dsimp only
    split
    · obtain ⟨h1, h2⟩ := can_names e
      have h3 := can_taken h2
      have k : FOk P C.frames (B.begun z) := ⟨h.fok.nm, fun f hf => List.mem_append_left _ (h.fok.tk f hf), h.fok.nd, h.fok.st⟩
      exact (pass_ok ok (h.bok.begun h1 h3) h.jok k (f := ⟨z, 0, 0, C.limit⟩) h1 (by simp [Bd.begun]) (fun hm => by
        obtain ⟨g, hg, e⟩ := List.mem_map.mp hm
        have e' : g.ln = z := e
        exact h3 (by rw [← e']; exact h.fok.tk g hg))).cok
    · exact h
end Z
set_option maxHeartbeats 1000000
namespace Z
open PySem PySem.Spec PyProof.Rows L2
open He (ga ma)
def dJob (j : Str × Nat) : PyData := .tuple [.str j.1, .int j.2]
def jobAt (jobs : List (Str × Nat)) (k : Nat) : Str × Nat := (jobs[k]?).getD ("", 0)
def queueOf (P : Pl) (jobs : List (Str × Nat)) : List (Str × Nat) := (places P jobs).map (jobAt jobs)
theorem queue_perm (P : Pl) (jobs : List (Str × Nat)) : (queueOf P jobs).Perm jobs := by
  have h := (places_perm P jobs).map (jobAt jobs)
  have e : (List.range jobs.length).map (jobAt jobs) = jobs := by
    refine List.ext_getElem? fun i => ?_
    rw [List.getElem?_map]
    by_cases hi : i < jobs.length
    · rw [List.getElem?_range hi]
      show some (jobAt jobs i) = _
      unfold jobAt
      rw [List.getElem?_eq_getElem hi]
      rfl
    · rw [List.getElem?_eq_none (by rw [List.length_range]; omega), List.getElem?_eq_none (by omega)]
      rfl
  rw [e] at h
  exact h
theorem Fr.sqL {K : Fg} {N : List Addr} {H H' : Hp} {a : Addr} {xs : List V} (f : Fr N H H') (h : SqL K H a xs) (n : a ∉ N) : SqL K H' a xs := by
  rcases h with (h | ⟨o, h⟩) | h
  · exact .inl (.inl (f.at h n))
  · exact .inl (.inr ⟨o, f.at h n⟩)
  · exact .inr h
theorem Fr.scr {K : Fg} {H H' : Hp} {r a : Addr} {xs : List V} (f : Fr [r] H H') (h : SqL K H a xs) (n : a ≠ r ∨ ∀ H, SqL K H a xs) : SqL K H' a xs := n.elim (fun n => f.sqL h (by simp [n])) fun z => z H'
structure RowAt (K : Fg) (H : Hp) (r sc : Addr) (ns : List Int) : Prop where
  row : ∃ i seed rest : Int, H r = some (.lst [.ref sc, .int i, .int seed, .int rest]) ∧ 0 ≤ i ∧ 0 ≤ seed ∧ seed < 2147483647
  scr : SqL K H sc (ns.map V.int)
  ne : sc ≠ r ∨ ∀ H, SqL K H sc (ns.map V.int)
theorem RowAt.keep {K : Fg} {H H' : Hp} {r sc : Addr} {ns : List Int} {N : List Addr} (h : RowAt K H r sc ns) (f : Fr N H H') (n1 : r ∉ N) (n2 : sc ∉ N ∨ ∀ H, SqL K H sc (ns.map V.int)) : RowAt K H' r sc ns := by
  obtain ⟨i, seed, rest, e, h1⟩ := h.row
  exact ⟨⟨i, seed, rest, f.at e n1, h1⟩, n2.elim (f.sqL h.scr) fun z => z H', h.ne⟩
theorem RowAt.same {K : Fg} {H H' : Hp} {r sc : Addr} {ns : List Int} (h : RowAt K H r sc ns) (s : Same H H') : RowAt K H' r sc ns := h.keep (N := []) s.fr (by simp) (.inl (by simp))
theorem RowAt.ex {K : Fg} {H : Hp} {r sc : Addr} {ns : List Int} (h : RowAt K H r sc ns) : H r ≠ none := by
  obtain ⟨i, seed, rest, e, _⟩ := h.row
  rw [e]
  simp
theorem row_same {K : Fg} {H H' : Hp} {r sc : Addr} {ns : List Int} (s : Same H H') (h : RowAt K H r sc ns) : RowAt K H' r sc ns := h.same s
end Z
set_option maxHeartbeats 1000000
namespace Z
open PySem PySem.Spec PyProof.Rows L2
def runs (l : List (Str × Key)) : Int := ((l.filter fun s => decide (s.1 = ("run" : Str))).map fun s => kI s.2).sum
def prog (P : Pl) (f : Frm) : Int := f.tk + runs ((P.ln f.ln).st.take f.st)
def progs (P : Pl) (fs : List Frm) : Int := (fs.map (prog P)).sum
def jobsum (js : List (Str × Nat)) : Int := (js.map fun j => (j.2 : Int)).sum
def evEnd (P : Pl) (es : List Ev) : Int := ((es.filter fun e => decide (e.1 = ("end" : Str))).map fun e => ticksOf (P.ln e.2)).sum
def evDone (P : Pl) (es : List Ev) : Int := ((es.filter fun e => decide (e.1 = ("done" : Str))).map fun e => (P.wk e.2).tk).sum
def RL (P : Pl) : Prop := ∀ l ∈ P.ls, ∀ s ∈ l.st, s.1 = ("run" : Str) ∨ s.1 = ("later" : Str)
theorem runs_app (a b : List (Str × Key)) : runs (a ++ b) = runs a + runs b := by
  unfold runs
  rw [List.filter_append, List.map_append, List.sum_append]
theorem runs_one_run (n : Int) : runs [(("run" : Str), (.inl n : Key))] = n := by
  unfold runs
  simp [kI]
theorem runs_one_no {s : Str × Key} (h : s.1 ≠ "run") : runs [s] = 0 := by
  unfold runs
  rw [List.filter_cons_of_neg (by simpa using h)]
  rfl
theorem runs_take {l : List (Str × Key)} {i : Nat} {s : Str × Key} (h : l[i]? = some s) : runs (l.take (i + 1)) = runs (l.take i) + runs [s] := by
  rw [List.take_add_one, h, runs_app]
  rfl
theorem progs_app (P : Pl) (a b : List Frm) : progs P (a ++ b) = progs P a + progs P b := by
  unfold progs
  rw [List.map_append, List.sum_append]
theorem progs_one (P : Pl) (f : Frm) : progs P [f] = prog P f := by
  unfold progs
  simp
theorem evEnd_app (P : Pl) (a b : List Ev) : evEnd P (a ++ b) = evEnd P a + evEnd P b := by
  unfold evEnd
  rw [List.filter_append, List.map_append, List.sum_append]
theorem evDone_app (P : Pl) (a b : List Ev) : evDone P (a ++ b) = evDone P a + evDone P b := by
  unfold evDone
  rw [List.filter_append, List.map_append, List.sum_append]
theorem jobsum_leave (js : List (Str × Nat)) (z : Str) : jobsum (leave js z) = jobsum js := by
  unfold leave
  split
  · rfl
  · unfold jobsum
    rw [List.map_append, List.sum_append]
    simp
structure Acc (P : Pl) (C : Cr) : Prop where
  fr : ∀ f ∈ C.frames, ∃ n : Int, (P.ln f.ln).st[f.st]? = some (("run" : Str), (Sum.inl n : Key)) ∧ (f.tk : Int) < n
  jb : ∀ j ∈ C.jobs, (j.2 : Int) < (P.wk j.1).tk
theorem Pl.Ok.wk_pos {P : Pl} (ok : P.Ok) {z : Str} (hz : z ∈ P.wnames) : 0 < (P.wk z).tk := by
  have h := ok.wok _ (ok.wk_mem hz).1
  simp only [isWork, dWk, isIntD, Bool.and_eq_true, decide_eq_true_eq] at h
  omega
structure PassAcc (P : Pl) (base : Int) (jobs : List (Str × Nat)) (r : Cr × Bd × List Ev) : Prop where
  en : evEnd P r.2.2 + progs P r.1.frames = base
  dn : evDone P r.2.2 = 0
  js : jobsum r.1.jobs = jobsum jobs
  ac : Acc P r.1
theorem passL_acc {P : Pl} (ok : P.Ok) (rl : RL P) {fs : List Frm} (hfs : ∀ f ∈ fs, ∃ n : Int, (P.ln f.ln).st[f.st]? = some (("run" : Str), (Sum.inl n : Key)) ∧ (f.tk : Int) < n) {rest : List (Str × Key)} :
    ∀ {f : Frm} {lim : Int} {jobs : List (Str × Nat)} {B : Bd}, f.ln ∈ P.names → f.tk = 0 → (∀ j ∈ jobs, (j.2 : Int) < (P.wk j.1).tk) → rest = (P.ln f.ln).st.drop f.st → PassAcc P (progs P fs + prog P f) jobs (passL P fs f lim jobs B rest) := by
  induction rest with
  | nil =>
    intro f lim jobs B hn ht hj hr
    have hle : (P.ln f.ln).st.length ≤ f.st := by
      have := congrArg List.length hr
      rw [List.length_drop] at this
      simp at this
      omega
    have hp : prog P f = ticksOf (P.ln f.ln) := by
      unfold prog
      rw [ht, List.take_of_length_le hle]
      show ((0 : Nat) : Int) + runs _ = runs _
      simp
    refine ⟨?_, ?_, rfl, hfs, hj⟩
    · show evEnd P [("end", f.ln)] + progs P fs = _
      rw [hp]
      unfold evEnd
      simp
      omega
    · show evDone P [("end", f.ln)] = 0
      unfold evDone
      rw [List.filter_cons_of_neg (by show ¬ decide (("end" : Str) = "done") = true; decide)]
      rfl
  | cons s r ih =>
    intro f lim jobs B hn ht hj hr
    have hg : (P.ln f.ln).st[f.st]? = some s := by
      rw [← List.head?_drop, ← hr]
      rfl
    have hm := List.mem_of_getElem? hg
    have hl := (ok.ln_mem hn).1
    have sis := ok.step hl hm
    have hd : r = (P.ln f.ln).st.drop (f.st + 1) := by
      rw [← List.tail_drop, ← hr]
      rfl
    unfold passL
    rcases rl _ hl s hm with e | e
    · have hst : stops B s = true := by
        unfold stops
        simp [e]
      rw [if_pos hst]
      obtain ⟨n, h1, h2, _⟩ := sis.run_int e
      refine ⟨?_, rfl, rfl, fun g hgm => ?_, hj⟩
      · show evEnd P [] + progs P (fs ++ [f]) = _
        rw [progs_app, progs_one]
        show 0 + _ = _
        omega
      · rcases List.mem_append.mp hgm with hgm | hgm
        · exact hfs g hgm
        · rw [List.mem_singleton.mp hgm]
          refine ⟨n, ?_, by rw [ht]; omega⟩
          rw [hg, ← e, ← h1]
    · have hst : ¬ stops B s = true := by
        unfold stops
        rw [e, decide_eq_false (show ¬ ("later" : Str) = "run" by decide), decide_eq_false (show ¬ ("later" : Str) = "await" by decide)]
        simp
      rw [if_neg hst]
      obtain ⟨z, hz, hzw⟩ := sis.later_in e
      have hfx : stepFx P lim jobs B s = (lim, leave jobs z, B) := by
        unfold stepFx
        rw [if_neg (by rw [e]; decide), if_pos e, hz]
        rfl
      rw [hfx]
      have hpr : prog P { f with st := f.st + 1 } = prog P f := by
        unfold prog
        show (f.tk : Int) + runs ((P.ln f.ln).st.take (f.st + 1)) = _
        rw [runs_take hg, runs_one_no (by rw [e]; decide)]
        omega
      have hj2 : ∀ j ∈ leave jobs z, (j.2 : Int) < (P.wk j.1).tk := fun j hjm => by
        unfold leave at hjm
        split at hjm
        · exact hj j hjm
        · rcases List.mem_append.mp hjm with hjm | hjm
          · exact hj j hjm
          · rw [List.mem_singleton.mp hjm]
            exact ok.wk_pos hzw
      have := ih (f := { f with st := f.st + 1 }) (lim := lim) (jobs := leave jobs z) (B := B) hn ht hj2 hd
      rw [hpr] at this
      exact ⟨this.en, this.dn, by rw [this.js, jobsum_leave], this.ac⟩
theorem RL.no {P : Pl} (ok : P.Ok) (rl : RL P) {B : Bd} {f : Frm} (hn : f.ln ∈ P.names) : passing P B f = false := by
  unfold passing
  cases e : (P.ln f.ln).st[f.st]? with
  | none => rfl
  | some s =>
    have := rl _ (ok.ln_mem hn).1 s (List.mem_of_getElem? e)
    have hne : s.1 ≠ "await" := by
      rcases this with h | h <;> rw [h] <;> decide
    simp [hne]
theorem RL.passAll {P : Pl} (ok : P.Ok) (rl : RL P) {C : Cr} {B : Bd} (hn : ∀ f ∈ C.frames, f.ln ∈ P.names) (n : Nat) (es : List Ev) : passAll P n C B es = (C, B, es) := by
  rcases List.eq_nil_or_concat C.frames with e | ⟨fs, f, e⟩
  · exact passAll_nil e
  · rw [List.concat_eq_append] at e
    exact passAll_no e (rl.no ok (hn f (by rw [e]; simp)))
structure Acct (P : Pl) (G : Sg) (es : List Ev) : Prop where
  cok : COk P G.C G.B
  ac : Acc P G.C
  su : ∃ c k d : Int, G.sums = ([("call", c), ("spun", 0), ("work", k), ("idle", d)] : List (Str × Int)) ∧ c = evEnd P es + progs P G.C.frames ∧ k = evDone P es + jobsum G.C.jobs ∧ c + k + d = G.time
theorem Acct.start (P : Pl) : Acct P (Sg.start P) [] := by
  refine ⟨⟨⟨Sub.nil, Sub.nil, Sub.nil, Sub.nil, Sub.nil, ?_, by simp [Sg.start], by simp [Sg.start], by simp [Sg.start], by simp [Sg.start], by simp [Sg.start], rfl⟩, JOk.nil, ⟨by simp [Sg.start], by simp [Sg.start], by simp [Sg.start], by simp [Sg.start]⟩⟩, ⟨by simp [Sg.start], by simp [Sg.start]⟩, 0, 0, 0, rfl, rfl, rfl, rfl⟩
  show (P.order.map _).map _ = P.order
  rw [List.map_map]
  exact List.map_id _
theorem ring_taken {P : Pl} {B : Bd} {z : Str} : (B.ring P z).1.taken = B.taken := by
  unfold Bd.ring
  repeat (first | rfl | split)
theorem Acct.ring {P : Pl} {G : Sg} {es : List Ev} (h : Acct P G es) {z : Str} (hz : z ∈ P.names) : Acct P (G.ring P z) es := ⟨⟨h.cok.bok.ring hz, h.cok.jok, h.cok.fok.taken ring_taken⟩, h.ac, h.su⟩
theorem takeC_acc {P : Pl} (ok : P.Ok) (rl : RL P) {C : Cr} {B : Bd} (h : COk P C B) (a : Acc P C) : evEnd P (takeC P C B).2.2 + progs P (takeC P C B).1.frames = progs P C.frames ∧ evDone P (takeC P C B).2.2 = 0 ∧ jobsum (takeC P C B).1.jobs = jobsum C.jobs ∧ Acc P (takeC P C B).1 := by
  have no : evEnd P [] + progs P C.frames = progs P C.frames := by
    show 0 + _ = _
    omega
  unfold takeC
  cases e : ready P B with
  | nil => exact ⟨no, rfl, rfl, a⟩
  | cons z r =>
    dsimp only
    split
    · obtain ⟨h1, h2⟩ := can_names e
      have := passL_acc ok rl a.fr (f := ⟨z, 0, 0, C.limit⟩) (lim := C.limit) (jobs := C.jobs) (B := B.begun z) h1 rfl a.jb rfl
      have hp : prog P ⟨z, 0, 0, C.limit⟩ = 0 := rfl
      rw [hp] at this
      have c1 : ∀ es, evEnd P (("begin", z) :: es) = evEnd P es := fun es => by
        unfold evEnd
        rw [List.filter_cons_of_neg (by show ¬ decide (("begin" : Str) = "end") = true; decide)]
      have c2 : ∀ es, evDone P (("begin", z) :: es) = evDone P es := fun es => by
        unfold evDone
        rw [List.filter_cons_of_neg (by show ¬ decide (("begin" : Str) = "done") = true; decide)]
      refine ⟨?_, ?_, this.js, this.ac⟩
      · dsimp only
        rw [c1]
        have := this.en
        unfold pass
        omega
      · dsimp only
        rw [c2]
        exact this.dn
    · exact ⟨no, rfl, rfl, a⟩
theorem sum_set {js : List (Str × Nat)} {k : Nat} {j : Str × Nat} (h : js[k]? = some j) (n : Nat) : jobsum (js.set k (j.1, n)) = jobsum js - j.2 + n := by
  induction js generalizing k with
  | nil => simp at h
  | cons x js ih =>
    cases k with
    | zero =>
      simp at h
      subst h
      unfold jobsum
      simp
      omega
    | succ k =>
      have := ih (k := k) (by simpa using h)
      unfold jobsum at this ⊢
      simp only [List.set_cons_succ, List.map_cons, List.sum_cons]
      omega
theorem sum_erase {js : List (Str × Nat)} {k : Nat} {j : Str × Nat} (h : js[k]? = some j) : jobsum (js.eraseIdx k) = jobsum js - j.2 := by
  induction js generalizing k with
  | nil => simp at h
  | cons x js ih =>
    cases k with
    | zero =>
      simp at h
      subst h
      unfold jobsum
      simp
      omega
    | succ k =>
      have := ih (k := k) (by simpa using h)
      unfold jobsum at this ⊢
      simp only [List.eraseIdx_cons_succ, List.map_cons, List.sum_cons]
      omega
theorem doWork_acc {P : Pl} {jobs : List (Str × Nat)} (hj : ∀ j ∈ jobs, (j.2 : Int) < (P.wk j.1).tk) (hne : jobs ≠ []) : evDone P (doWork P jobs).2 + jobsum (doWork P jobs).1 = jobsum jobs + 1 ∧ evEnd P (doWork P jobs).2 = 0 ∧ ∀ j ∈ (doWork P jobs).1, (j.2 : Int) < (P.wk j.1).tk := by
  unfold doWork
  split
  · rename_i e
    have := places_len P jobs
    rw [e] at this
    exact absurd (List.length_eq_zero_iff.mp this.symm) hne
  · rename_i k r e
    obtain ⟨j, hk, _⟩ := places_head e
    rw [hk]
    dsimp only
    have h1 := hj j (List.mem_of_getElem? hk)
    split
    · rename_i h2
      refine ⟨?_, rfl, fun x hx => ?_⟩
      · show 0 + jobsum _ = _
        rw [sum_set hk]
        omega
      · rcases List.mem_or_eq_of_mem_set hx with hx | hx
        · exact hj x hx
        · rw [hx]
          show (((j.2 + 1 : Nat)) : Int) < (P.wk j.1).tk
          omega
    · rename_i h2
      refine ⟨?_, ?_, fun x hx => hj x (List.mem_of_mem_eraseIdx hx)⟩
      · show evDone P [("done", j.1)] + _ = _
        rw [sum_erase hk]
        unfold evDone
        simp
        omega
      · unfold evEnd
        rw [List.filter_cons_of_neg (by show ¬ decide (("done" : Str) = "end") = true; decide)]
        rfl
theorem spend_acc {P : Pl} (ok : P.Ok) (rl : RL P) {fs : List Frm} {f : Frm} {C : Cr} {B : Bd} (a : Acc P C) (hn : f.ln ∈ P.names) (e : C.frames = fs ++ [f]) : PassAcc P (progs P C.frames + 1) C.jobs (spend P fs f C.limit C.jobs B) := by
  have hfr := a.fr
  rw [e] at hfr
  have hfs := fun g hg => hfr g (List.mem_append_left _ hg)
  obtain ⟨n, h1, h2⟩ := hfr f (by simp)
  have hso : stepOf P f = (("run" : Str), (Sum.inl n : Key)) := by
    unfold stepOf
    rw [h1]
    rfl
  rw [e, progs_app, progs_one]
  by_cases h : (f.tk : Int) + 1 < n
  · rw [spend_lt hso h]
    refine ⟨?_, rfl, rfl, fun g hg => ?_, a.jb⟩
    · show 0 + progs P (fs ++ [{ f with tk := f.tk + 1 }]) = _
      rw [progs_app, progs_one]
      unfold prog
      show 0 + (_ + ((((f.tk + 1 : Nat)) : Int) + runs ((P.ln f.ln).st.take f.st))) = _
      omega
    · rcases List.mem_append.mp hg with hg | hg
      · exact hfs g hg
      · rw [List.mem_singleton.mp hg]
        exact ⟨n, h1, by show (((f.tk + 1 : Nat)) : Int) < n; omega⟩
  · rw [spend_ge hso h]
    have hp : prog P { f with st := f.st + 1, tk := 0 } = prog P f + 1 := by
      unfold prog
      show ((0 : Nat) : Int) + runs ((P.ln f.ln).st.take (f.st + 1)) = _
      rw [runs_take h1, runs_one_run]
      omega
    have := passL_acc ok rl hfs (f := { f with st := f.st + 1, tk := 0 }) (lim := C.limit) (jobs := C.jobs) (B := B) hn rfl a.jb rfl
    rw [hp] at this
    refine ⟨?_, this.dn, this.js, this.ac⟩
    have := this.en
    unfold pass
    omega
theorem tickC_idle {P : Pl} {C : Cr} {B : Bd} {es : List Ev} (e : C.frames = []) (j : C.jobs = []) : tickC P C B es = (("idle" : Str), C, B, es) := by
  unfold tickC
  rw [e]
  exact if_pos j
theorem tickC_work {P : Pl} {C : Cr} {B : Bd} {es : List Ev} (e : C.frames = []) (j : C.jobs ≠ []) : tickC P C B es = (("work" : Str), { C with jobs := (doWork P C.jobs).1 }, B, es ++ (doWork P C.jobs).2) := by
  unfold tickC
  rw [e]
  exact if_neg j
theorem tickC_call {P : Pl} {C : Cr} {B : Bd} {es : List Ev} {fs : List Frm} {f : Frm} (e : C.frames = fs ++ [f]) (j : (stepOf P f).1 ≠ "await") : tickC P C B es = (("call" : Str), (spend P fs f C.limit C.jobs B).1, (spend P fs f C.limit C.jobs B).2.1, es ++ (spend P fs f C.limit C.jobs B).2.2) := by
  unfold tickC
  rw [e, List.getLast?_concat, List.dropLast_concat]
  exact if_neg j
theorem tickC_spun {P : Pl} {C : Cr} {B : Bd} {es : List Ev} {fs : List Frm} {f : Frm} (e : C.frames = fs ++ [f]) (j : (stepOf P f).1 = "await") : tickC P C B es = (("spun" : Str), C, B, es) := by
  unfold tickC
  rw [e, List.getLast?_concat, List.dropLast_concat]
  exact if_pos j
theorem tickC_acc {P : Pl} (ok : P.Ok) (rl : RL P) {C1 : Cr} {B1 : Bd} (cok1 : COk P C1 B1) (t4 : Acc P C1) : ∃ (w : Str) (x y : Int), (tickC P C1 B1 []).1 = w ∧ Acc P (tickC P C1 B1 []).2.1 ∧
    evEnd P (tickC P C1 B1 []).2.2.2 + progs P (tickC P C1 B1 []).2.1.frames = progs P C1.frames + x ∧
    evDone P (tickC P C1 B1 []).2.2.2 + jobsum (tickC P C1 B1 []).2.1.jobs = jobsum C1.jobs + y ∧ ((w = "call" ∧ x = 1 ∧ y = 0) ∨ (w = "work" ∧ x = 0 ∧ y = 1) ∨ (w = "idle" ∧ x = 0 ∧ y = 0)) := by
  rcases List.eq_nil_or_concat C1.frames with e | ⟨fs, f, e⟩
  · by_cases hj : C1.jobs = []
    · rw [tickC_idle e hj]
      refine ⟨"idle", 0, 0, rfl, t4, ?_, ?_, .inr (.inr ⟨rfl, rfl, rfl⟩)⟩
      · show 0 + progs P C1.frames = _
        omega
      · show 0 + jobsum C1.jobs = _
        omega
    · rw [tickC_work e hj]
      obtain ⟨d1, d2, d3⟩ := doWork_acc t4.jb hj
      refine ⟨"work", 0, 1, rfl, ⟨t4.fr, d3⟩, ?_, ?_, .inr (.inl ⟨rfl, rfl, rfl⟩)⟩
      · show evEnd P ([] ++ (doWork P C1.jobs).2) + progs P C1.frames = _
        rw [List.nil_append, d2]
        omega
      · show evDone P ([] ++ (doWork P C1.jobs).2) + jobsum (doWork P C1.jobs).1 = _
        rw [List.nil_append]
        exact d1
  · rw [List.concat_eq_append] at e
    have hfn : f.ln ∈ P.names := cok1.fok.nm f (by rw [e]; simp)
    obtain ⟨n, h1, h2⟩ := t4.fr f (by rw [e]; simp)
    have hso : stepOf P f = (("run" : Str), (Sum.inl n : Key)) := by
      unfold stepOf
      rw [h1]
      rfl
    rw [tickC_call e (by rw [hso]; show ("run" : Str) ≠ "await"; decide)]
    have sp := spend_acc ok rl (B := B1) t4 hfn e
    refine ⟨"call", 1, 0, rfl, sp.ac, ?_, ?_, .inl ⟨rfl, rfl, rfl⟩⟩
    · show evEnd P ([] ++ _) + _ = _
      rw [List.nil_append]
      exact sp.en
    · show evDone P ([] ++ _) + _ = _
      rw [List.nil_append, sp.dn]
      show 0 + jobsum _ = _
      rw [sp.js]
      omega
theorem Acct.tick {P : Pl} (ok : P.Ok) (rl : RL P) {G : Sg} {es : List Ev} (h : Acct P G es) : Acct P (G.tick P).1 (es ++ (G.tick P).2) := by
  obtain ⟨c, k, d, hsu, hc, hk, ht⟩ := h.su
  have cok1 := takeC_ok ok h.cok
  obtain ⟨t1, t2, t3, t4⟩ := takeC_acc ok rl h.cok h.ac
  have pa := rl.passAll ok (C := (takeC P G.C G.B).1) (B := (takeC P G.C G.B).2.1) cok1.fok.nm (left P (takeC P G.C G.B).1.frames) []
  have ctk : (takeC P G.C G.B).1.tick P (takeC P G.C G.B).2.1 = tickC P (takeC P G.C G.B).1 (takeC P G.C G.B).2.1 [] := by
    unfold Cr.tick
    rw [pa]
  have cok2 := cok1.tick ok
  have key := tickC_acc ok rl cok1 t4
  obtain ⟨w, x, y, hw, a1, a2, a3, a4⟩ := key
  rw [← ctk] at hw a1 a2 a3
  refine ⟨cok2, a1, ?_⟩
  have e1 : (G.tick P).1.sums = bump G.sums w := by rw [← hw]; rfl
  have e2 : (G.tick P).1.time = G.time + 1 := rfl
  have e3 : evEnd P (es ++ (G.tick P).2) = evEnd P es + (evEnd P (takeC P G.C G.B).2.2 + evEnd P ((takeC P G.C G.B).1.tick P (takeC P G.C G.B).2.1).2.2.2) := by
    rw [evEnd_app]
    show _ + evEnd P (_ ++ _) = _
    rw [evEnd_app]
  have e4 : evDone P (es ++ (G.tick P).2) = evDone P es + (evDone P (takeC P G.C G.B).2.2 + evDone P ((takeC P G.C G.B).1.tick P (takeC P G.C G.B).2.1).2.2.2) := by
    rw [evDone_app]
    show _ + evDone P (_ ++ _) = _
    rw [evDone_app]
  have e5 : progs P (G.tick P).1.C.frames = progs P ((takeC P G.C G.B).1.tick P (takeC P G.C G.B).2.1).2.1.frames := rfl
  have e6 : jobsum (G.tick P).1.C.jobs = jobsum ((takeC P G.C G.B).1.tick P (takeC P G.C G.B).2.1).2.1.jobs := rfl
  rw [e1, e2, e3, e4, e5, e6, hsu]
  rcases a4 with ⟨rfl, rfl, rfl⟩ | ⟨rfl, rfl, rfl⟩ | ⟨rfl, rfl, rfl⟩
  · refine ⟨c + 1, k, d, by kernel_rfl, ?_, ?_, ?_⟩ <;> omega
  · refine ⟨c, k + 1, d, by kernel_rfl, ?_, ?_, ?_⟩ <;> omega
  · refine ⟨c, k, d + 1, by kernel_rfl, ?_, ?_, ?_⟩ <;> omega
end Z
set_option maxHeartbeats 1000000
namespace Z
open PySem PySem.Spec PyProof.Rows L2
theorem lc_rel {K : Fg} {J : It} {n : Nat} {G : Hp → Prop} {Y : Nat → Hp → V → Hp → Prop} {g : TG} {tt : TT} {te : TE} {vs : List Nat} {σ : L2.St} {H1 : Hp} {D : Addr} {Qd : Hp → Prop} {α : Type} (w : Walk J n G Y) (R : Nat → α → Prop) (f : α → PyData) (A : List Addr) (I : Hp → Prop)
    (hD : H1 D = none) (hn : n ≤ 40000) (hf : ∀ x, tupd (f x) = true) (hA : ∀ a ∈ A, H1 a ≠ none) (hI1 : I H1) (hI : ∀ H H', Fr [D] H H' → I H → I H') (hIs : ∀ H H', Same H H' → I H → I H')
    (hG : ∀ H, Fr A H1 H → I H → G H) (hY : ∀ i H x H', Y i H x H' → Same H H')
    (hs : ∀ (i : Nat) (x : V) (H H' : Hp) (Yes : VK) (No : Hp → Prop), i < n → Fr A H1 H → I H → Y i H x H' → (∀ y H4 a, Fr A H' H4 → I H4 → R i a → Dp K H4 y (f a) → Yes y H4) →
      g x (wipe σ vs) H' fun σ2 H2 => wipe σ2 vs = wipe σ vs ∧ tt σ2 H2 fun b H3 => if b = true then te σ2 H3 Yes else No H3)
    (hd : ∀ H' ys (l : List α), Fr A H1 H' → I H' → H' D = some (.lst ys) → l.length = n → (∀ k x, l[k]? = some x → R k x) → DpAll K H' ys (l.map f) → Qd H') :
    ∃ W : Nat → Nat → Hp → Prop, (∃ m, W 0 m (upd H1 D (.lst []))) ∧ ∀ i m H, W i m H →
      (J.stop i H ∧ Qd H) ∨ (J.go i H ∧ ∃ Nx : Hp → Prop, (∀ H', Nx H' → ∃ m', m' < m ∧ W (i + 1) m' H') ∧ ∀ x H', J.yld i H x H' → g x (wipe σ vs) H' fun σ2 H2 => wipe σ2 vs = wipe σ vs ∧ tt σ2 H2 fun b H3 =>
        if b = true then te σ2 H3 fun y H4 => ∃ acc, H4 D = some (.lst acc) ∧ acc.length < sizeLine ∧ Nx (upd H4 D (.lst (acc ++ [y]))) else Nx H3) := by
  have hDA : D ∉ A := fun z => hA D z hD
  refine lc_it w (fun i H => Fr A H1 H ∧ I H ∧ ∃ (l : List α) (ys : List V), l.length = i ∧ (∀ k x, l[k]? = some x → R k x) ∧ H D = some (.lst ys) ∧ DpAll K H ys (l.map f)) ⟨Fr.new hD, hI _ _ (Fr.new hD) hI1, [], [], rfl, by simp, upd_same, .nil⟩ (fun i H _ p => hG H p.1 p.2.1) (fun i x H H' hi p y => ?_) (fun H p => ?_)
  · obtain ⟨f1, i1, l, ys, hl, hr, e1, a1⟩ := p
    have s2 := hY i H x H' y
    refine hs i x H H' _ _ hi f1 i1 y fun y4 H4 a f4 i4 r4 d4 => ⟨ys, f4.at (s2 _ _ e1) hDA, ?_, ?_, ?_, l ++ [a], ys ++ [y4], ?_, fun k x hk => ?_, upd_same, ?_⟩
    · rw [a1.len, List.length_map, hl, sizeLine_eq]
      omega
    · have f5 : Fr [D] H4 (upd H4 D (.lst (ys ++ [y4]))) := Fr.upd (by simp) (f4.at (s2 _ _ e1) hDA) rfl
      exact (f1.trans (s2.fr.trans f4)).seq f5 (by simp [hD])
    · exact hI _ _ (Fr.upd (by simp) (f4.at (s2 _ _ e1) hDA) rfl) i4
    · rw [List.length_append, hl]
      rfl
    · rcases Nat.lt_or_ge k l.length with h | h
      · rw [List.getElem?_append_left h] at hk
        exact hr k x hk
      · rw [List.getElem?_append_right h] at hk
        have : k - l.length = 0 := by
          cases e : k - l.length with
          | zero => rfl
          | succ m => rw [e] at hk; simp at hk
        rw [this] at hk
        simp at hk
        subst hk
        have : k = i := by omega
        rw [this]
        exact r4
    · have t5 := tk_upd (o := .lst (ys ++ [y4])) (f4.at (s2 _ _ e1) hDA)
      rw [List.map_append]
      exact (((a1.same s2).tk f4.tk (tupds_map hf _)).tk t5 (tupds_map hf _)).app (.cons (d4.tk t5 (hf a)) .nil)
  · obtain ⟨f1, i1, l, ys, hl, hr, e1, a1⟩ := p
    exact hd H ys l f1 i1 e1 hl hr a1
theorem s_for {wi : TI} {g : TG} {tb : TS} {D : Ends} {σ : L2.St} {H : Hp} (q : wi σ H fun J H1 => ∃ W : Nat → Nat → L2.St → Hp → Prop, (∃ m, W 0 m σ H1) ∧ ∀ i m σ H, W i m σ H →
  (J.stop i H ∧ D.nx σ H) ∨ (J.go i H ∧ ∃ N : L2.St → Hp → Prop, (∀ σ' H', N σ' H' → ∃ m', m' < m ∧ W (i + 1) m' σ' H') ∧ ∀ x H', J.yld i H x H' → g x σ H' fun σ2 H2 => tb { D with nx := N, ct := N, bk := D.nx } σ2 H2)) : tFor wi g tb D σ H := q
theorem s_rng1 {ta : TA} {σ : L2.St} {H : Hp} {R : It → Hp → Prop} (q : ta σ H fun vs H1 => ∃ j : Int, vs = [.int j] ∧ -(2 ^ 62) ≤ j ∧ j < 2 ^ 62 ∧ R (Itr 0 j.toNat) H1) : iRng1 ta σ H R := q
theorem s_iT {K : Fg} {tl : TE} {σ : L2.St} {H : Hp} {R : It → Hp → Prop} (q : tl σ H fun x H1 => ∃ a, x = .ref a ∧ (∃ xs, SqT K H1 a xs) ∧ R (Itt K a) H1) : iTup K tl σ H R := q
theorem s_iL {K : Fg} {tl : TE} {σ : L2.St} {H : Hp} {R : It → Hp → Prop} (q : tl σ H fun x H1 => ∃ a, x = .ref a ∧ (∃ xs, SqL K H1 a xs) ∧ R (Itl K a) H1) : iList K tl σ H R := q
theorem s_lc {wi : TI} {g : TG} {tt : TT} {te : TE} {vs : List Nat} {σ : L2.St} {H : Hp} {Q : VK} (q : wi σ H fun J H1 => LcQ J g tt te vs σ Q H1) : tLc wi g tt te vs σ H Q := q
theorem s_slA {K : Fg} {H : Hp} {Q : VK} {a : Addr} {xs : List V} {lo hi : Option Int} (h : SqT K H a xs) (q : ∀ p H', Same H H' → SqT K H' p (cutV xs lo hi) → Q (.ref p) H') : rSlA K (.ref a) lo hi H Q := by
  refine ⟨a, xs, rfl, h, fun ⟨h1, h2⟩ => q a H (Same.refl H) ?_, fun _ p hp => q p _ (Same.new hp) (SqT.of upd_same)⟩
  have e : cutV xs lo hi = xs := by
    unfold cutV
    rw [h1, h2, List.drop_zero, Nat.sub_zero, List.take_length]
  rw [e]
  exact h
end Z
set_option maxHeartbeats 1000000
namespace Z
open PySem PySem.Spec PyProof.Rows L2
def EvOk (P : Pl) (es : List Ev) : Prop := ∀ e ∈ es, (e.1 = ("end" : Str) → e.2 ∈ P.names) ∧ (e.1 = ("done" : Str) → e.2 ∈ P.wnames)
theorem EvOk.nil {P : Pl} : EvOk P [] := by intro e h; simp at h
theorem EvOk.app {P : Pl} {a b : List Ev} (h : EvOk P a) (k : EvOk P b) : EvOk P (a ++ b) := fun e he => by
  rcases List.mem_append.mp he with he | he
  · exact h e he
  · exact k e he
end Z
set_option maxHeartbeats 1000000
namespace Z
open PySem PySem.Spec PyProof.Rows L2
end Z
set_option maxHeartbeats 1000000
namespace Z
open PySem PySem.Spec PyProof.Rows L2
def setK (l : List (Str × Int)) (z : Str) (n : Int) : List (Str × Int) := if z ∈ l.map (·.1) then l.map (fun x => if x.1 = z then (z, n) else x) else l ++ [(z, n)]
theorem setK_new {l : List (Str × Int)} {z : Str} {n : Int} (h : z ∉ l.map (·.1)) : setK l z n = l ++ [(z, n)] := if_neg h
theorem getK_none {l : List (Str × Int)} {z : Str} : getK l z = none ↔ z ∉ l.map (·.1) := by
  unfold getK
  rw [Option.map_eq_none_iff, List.find?_eq_none]
  constructor
  · intro h hm
    obtain ⟨x, hx, rfl⟩ := List.mem_map.mp hm
    exact h x hx (by simp)
  · intro h x hx e
    have e : x.1 = z := by simpa using e
    exact h (by rw [← e]; exact List.mem_map_of_mem hx)
theorem getK_app_new {l : List (Str × Int)} {z : Str} {n : Int} (h : z ∉ l.map (·.1)) : getK (l ++ [(z, n)]) z = some n := by
  have h1 := getK_none.mpr h
  unfold getK at h1 ⊢
  have h1 := Option.map_eq_none_iff.mp h1
  rw [List.find?_append, h1]
  simp
theorem setK_keys {l : List (Str × Int)} {z : Str} {n : Int} : (setK l z n).map (·.1) = if z ∈ l.map (·.1) then l.map (·.1) else l.map (·.1) ++ [z] := by
  unfold setK
  split
  · rw [List.map_map]
    apply List.map_congr_left
    intro x _
    show (if x.1 = z then (z, n) else x).1 = x.1
    split
    · rename_i e
      exact e.symm
    · rfl
  · rw [List.map_append]
    rfl
theorem getK_set {l : List (Str × Int)} {z y : Str} {n : Int} : getK (setK l z n) y = if y = z then some n else getK l y := by
  by_cases h : z ∈ l.map (·.1)
  · unfold setK
    rw [if_pos h]
    induction l with
    | nil => simp at h
    | cons x l ih =>
      rw [List.map_cons]
      by_cases e : x.1 = z
      · rw [if_pos e]
        by_cases e2 : y = z
        · rw [if_pos e2]
          unfold getK
          rw [List.find?_cons_of_pos (by simp [e2])]
          rfl
        · rw [if_neg e2]
          unfold getK
          have e3 : ¬ z = y := fun q => e2 q.symm
          have e4 : ¬ x.1 = y := fun q => e2 (q.symm.trans e)
          rw [List.find?_cons_of_neg (by simpa using e3), List.find?_cons_of_neg (by simpa using e4)]
          by_cases h2 : z ∈ l.map (·.1)
          · have := ih h2
            rw [if_neg e2] at this
            exact this
          · have : l.map (fun x => if x.1 = z then (z, n) else x) = l := by
              rw [List.map_congr_left (g := id), List.map_id]
              intro a ha
              rw [if_neg]
              · rfl
              · rintro rfl
                exact h2 (List.mem_map_of_mem ha)
            rw [this]
      · rw [if_neg e]
        rw [List.map_cons, List.mem_cons] at h
        have ih := ih (h.resolve_left fun q => e q.symm)
        unfold getK at ih ⊢
        by_cases e2 : x.1 = y
        · rw [List.find?_cons_of_pos (by simpa using e2), List.find?_cons_of_pos (by simpa using e2), if_neg (fun q => e (e2.trans q))]
        · rw [List.find?_cons_of_neg (by simpa using e2), List.find?_cons_of_neg (by simpa using e2)]
          exact ih
  · rw [setK_new h]
    by_cases e : y = z
    · rw [if_pos e, e, getK_app_new h]
    · rw [if_neg e]
      unfold getK
      rw [List.find?_append]
      have e2 : ¬ z = y := fun q => e q.symm
      simp [e2]
theorem s_dputg {td ty tv : TE} {σ : L2.St} {H : Hp} {ea ec ed : L2.St → Hp → Prop} {eb : VK} (q : tv σ H fun v H1 => td σ H1 fun x H2 => ty σ H2 fun y H3 => ∃ a H4, x = .ref a ∧ DPut H3 a y v H4 ∧ ea σ H4) : sDPut td ty tv (.mk ea eb ec ed) σ H := q
end Z
set_option maxHeartbeats 1000000
namespace Z
open PySem PySem.Spec PyProof.Rows L2
open He (ga ma)
inductive HEv where
  | four (w : Str) (t : Int) (z : Str) (p : Int)
  | held (t : Int) (z : Str)
  | off (t : Int) (p : Int)
def dHe : HEv → PyData
  | .four w t z p => .tuple [.str w, .int t, .str z, .int p]
  | .held t z => .tuple [.str "held", .int t, .str z]
  | .off t p => .tuple [.str "off", .int t, .int p]
theorem tupd_he (e : HEv) : tupd (dHe e) = true := by cases e <;> rfl
structure Rt where
  ln : Str
  rule : Str
  ps : List Nat
structure Sm where
  ln : Str
  most : Int
  win : Int
  hold : Int
structure HPl where
  n : Nat
  rts : List Rt
  sms : List Sm
def dPs (ps : List Nat) : PyData := .tuple (ps.map fun p => .int (p : Nat))
def dRt (r : Rt) : PyData := .tuple [.str r.ln, .str r.rule, dPs r.ps]
def dRw (r : Rt) : PyData := .tuple [.str r.rule, dPs r.ps]
def dSm (s : Sm) : PyData := .tuple [.str s.ln, .int s.most, .int s.win, .int s.hold]
def dSw (s : Sm) : PyData := .tuple [.int s.most, .int s.win, .int s.hold]
theorem tupds_ints {α : Type} (f : α → Int) : ∀ l : List α, tupds (l.map fun p => PyData.int (f p)) = true
  | [] => rfl
  | x :: l => by
    show (true && tupds (l.map fun p => PyData.int (f p))) = true
    rw [tupds_ints f l]
    rfl
theorem tupd_rw (r : Rt) : tupd (dRw r) = true := by
  show (true && (tupds (r.ps.map fun p => PyData.int ((p : Nat) : Int)) && true)) = true
  rw [tupds_ints]
  rfl
theorem tupd_rt (r : Rt) : tupd (dRt r) = true := by
  show (true && (true && (tupds (r.ps.map fun p => PyData.int ((p : Nat) : Int)) && true))) = true
  rw [tupds_ints]
  rfl
theorem tupd_sm (s : Sm) : tupd (dSm s) = true := rfl
theorem tupd_sw (s : Sm) : tupd (dSw s) = true := rfl
def ruleL : List Str := ["first", "least", "turn"]
structure HPl.Ok (P : Pl) (T : HPl) : Prop where
  n1 : 1 ≤ T.n
  n6 : T.n ≤ 6
  rn : (T.rts.map (·.ln)).Nodup
  rl : ∀ r ∈ T.rts, r.ln ∈ P.names
  rr : ∀ r ∈ T.rts, r.rule ∈ ruleL
  r0 : ∀ r ∈ T.rts, r.ps ≠ []
  rd : ∀ r ∈ T.rts, r.ps.Nodup
  rp : ∀ r ∈ T.rts, ∀ p ∈ r.ps, p < T.n
  sn : (T.sms.map (·.ln)).Nodup
  sl : ∀ s ∈ T.sms, s.ln ∈ P.names
  sb : ∀ s ∈ T.sms, 1 ≤ s.most ∧ s.most ≤ 99 ∧ 1 ≤ s.win ∧ s.win ≤ 99 ∧ 1 ≤ s.hold ∧ s.hold ≤ 99
def HPl.way (T : HPl) (z : Str) : Str × List Nat := match T.rts.find? fun r => r.ln == z with
  | some r => (r.rule, r.ps)
  | none => ("first", List.range T.n)
structure Hs where
  B : Bd
  cs : List Cr
  md : List Str
  turns : List (Str × Int)
  rcs : List (Str × List Int)
  holds : List (Str × Int)
  bs : List (Str × Int)
  ds : List (Str × Int)
  ev : List HEv
def Hs.start (P : Pl) (T : HPl) : Hs := ⟨⟨[], [], [], [], [], P.order.map fun z => (z, 0), 0, none, [], [], [], []⟩, List.replicate T.n ⟨[], 0, []⟩, List.replicate T.n "on", [], [], [], P.ls.map fun l => (l.nm, 0), P.ws.map fun v => (v.nm, 0), []⟩
def Hs.note (X : Hs) (w z : Str) (p : Nat) : Hs := { X with ev := X.ev ++ [.four w X.B.time z p] }
def Hs.noteE (X : Hs) (p : Nat) (e : Ev) : Hs := if e.1 = "done" then { X.note e.1 e.2 p with ds := bump X.ds e.2 } else X.note e.1 e.2 p
def Hs.noteAll (X : Hs) (p : Nat) (es : List Ev) : Hs := es.foldl (fun X e => X.noteE p e) X
def Hs.on (X : Hs) (p : Nat) : Bool := decide (X.md[p]? = some ("on" : Str))
def Hs.core (X : Hs) (p : Nat) : Cr := (X.cs[p]?).getD ⟨[], 0, []⟩
def Hs.load (X : Hs) (p : Nat) : Nat := (X.core p).frames.length + (X.B.spots.filter fun x => decide (x.2 = (p : Int))).length
def Hs.readyK (X : Hs) (ps : List Nat) : List Nat := (ps.zipIdx.filter fun x => X.on x.1).map (·.2)
def minK (f : Nat → Int) (k : Nat) (r : List Nat) : Nat := r.foldl (fun b x => if f x < f b then x else b) k
def Hs.pick (T : HPl) (X : Hs) (z : Str) : Option Nat := match X.readyK (T.way z).2 with
  | [] => none
  | k :: r => some (if (T.way z).1 = "least" then minK (fun j => (X.load ((T.way z).2.getD j 0) : Nat)) k r
    else if (T.way z).1 = "first" then k
    else minK (fun j => ((j : Int) - (getK X.turns z).getD 0) % ((T.way z).2.length : Nat)) k r)
def Hs.turned (T : HPl) (X : Hs) (z : Str) (k : Nat) : Hs := if (T.way z).1 = "least" then X else if (T.way z).1 = "first" then X else { X with turns := setK X.turns z (((k : Int) + 1) % ((T.way z).2.length : Nat)) }
def Hs.putLine (X : Hs) (z : Str) (p : Nat) : Hs := { X with B := { X.B with spots := setK X.B.spots z p } }.note "place" z p
def Hs.free (X : Hs) (z : Str) : Bool := !decide (z ∈ X.B.spots.map (·.1)) && decide ((getK X.holds z).getD (-1) < X.B.time)
def Hs.place1 (T : HPl) (X : Hs) (z : Str) : Hs := if (X.free z && X.B.can z) = true then (match X.pick T z with
  | none => X
  | some k => (X.turned T z k).putLine z ((T.way z).2.getD k 0)) else X
def Hs.place (P : Pl) (T : HPl) (X : Hs) : Hs := P.order.foldl (fun X z => X.place1 T z) X
def getR (l : List (Str × List Int)) (z : Str) : Option (List Int) := (l.find? fun x => decide (x.1 = z)).map (·.2)
def setR (l : List (Str × List Int)) (z : Str) (n : List Int) : List (Str × List Int) := if z ∈ l.map (·.1) then l.map (fun x => if x.1 = z then (z, n) else x) else l ++ [(z, n)]
def Sm.ticks (s : Sm) (X : Hs) : List Int := ((getR X.rcs s.ln).getD []).filter (fun t => decide (t > X.B.time - s.win)) ++ [X.B.time]
def Hs.count (T : HPl) (X : Hs) (z : Str) : Hs := match T.sms.find? fun s => s.ln == z with
  | none => X
  | some s => if ((s.ticks X).length : Int) > s.most then { X with rcs := setR X.rcs z (s.ticks X), holds := setK X.holds z (X.B.time + s.hold), ev := X.ev ++ [.held X.B.time z] } else { X with rcs := setR X.rcs z (s.ticks X) }
def Hs.readyL (P : Pl) (X : Hs) (p : Nat) : List Str := P.order.filter fun z => decide (getK X.B.spots z = some (p : Int)) && X.B.can z
def Hs.begin (P : Pl) (T : HPl) (X : Hs) (p : Nat) (z : Str) : Hs := { (({ X.note "begin" z p with bs := bump X.bs z }).count T z) with B := { X.B with here := some (p : Int) } }
def Hs.beginR (P : Pl) (X : Hs) (p : Nat) (z : Str) : Cr × Bd × List Ev := pass P (X.core p).frames ⟨z, 0, 0, (X.core p).limit⟩ (X.core p).limit (X.core p).jobs (X.B.begun z)
def Hs.goes (X : Hs) (p : Nat) (r : Cr × Bd × List Ev) : Hs := { X with cs := X.cs.set p r.1, B := r.2.1 }.noteAll p r.2.2
def Hs.take (P : Pl) (T : HPl) (X : Hs) (p : Nat) : Hs := match X.readyL P p with
  | [] => X
  | z :: _ => if (X.core p).may P z = true then (X.begin P T p z).goes p ((X.begin P T p z).beginR P p z) else X
def Hs.spend (P : Pl) (X : Hs) (p : Nat) : Hs := X.goes p ((X.core p).tick P X.B).2
def Hs.goal (X : Hs) (p : Nat) : Nat := match (List.range X.md.length).filter X.on with
  | [] => 0
  | k :: r => minK (fun j => ((X.core j).jobs.length : Nat)) k r
def Hs.move1 (X : Hs) (g : Nat) (j : Str × Nat) : Hs := { X with cs := X.cs.set g { X.core g with jobs := if j.2 > 0 then (X.core g).jobs ++ [j] else leave (X.core g).jobs j.1 } }.note "moved" j.1 g
def Hs.leaves (X : Hs) (p : Nat) : Hs := { X with md := X.md.set p "off", ev := X.ev ++ [.off X.B.time p] }
def Hs.off (P : Pl) (X : Hs) (p : Nat) : Hs := { ((places P (X.core p).jobs).foldl (fun Y k => match (X.core p).jobs[k]? with
  | some j => Y.move1 ((X.leaves p).goal p) j
  | none => Y) (X.leaves p)) with cs := (((places P (X.core p).jobs).foldl (fun Y k => match (X.core p).jobs[k]? with
  | some j => Y.move1 ((X.leaves p).goal p) j
  | none => Y) (X.leaves p)).cs.set p { X.core p with jobs := [] }) }
def Hs.takes (P : Pl) (T : HPl) (X : Hs) : Hs := (List.range T.n).foldl (fun X p => if X.on p = true then X.take P T p else X) X
def Hs.spends (P : Pl) (T : HPl) (X : Hs) : Hs := (List.range T.n).foldl (fun X p => if X.md[p]? = some ("off" : Str) then X else X.spend P p) X
def Hs.offs (P : Pl) (T : HPl) (X : Hs) : Hs := (List.range T.n).foldl (fun X p => if X.md[p]? = some ("leaving" : Str) ∧ (X.core p).frames = [] then X.off P p else X) X
def Hs.next (X : Hs) : Hs := { X with B := { X.B with time := X.B.time + 1 } }
def Hs.tick (P : Pl) (T : HPl) (X : Hs) : Hs := ((((X.place P T).takes P T).spends P T).offs P T).next
structure HA where
  h : Addr
  wy : Addr
  li : Addr
  co : Addr
  mo : Addr
  tu : Addr
  rc : Addr
  ho : Addr
  bs : Addr
  ds : Addr
  ev : Addr
  rr : Addr
  sr : Addr
  E : BA
  Ds : List CA
  rl : List Addr
def HA.cells (A : HA) : List Addr := [A.h, A.wy, A.li, A.co, A.mo, A.tu, A.rc, A.ho, A.bs, A.ds, A.ev]
def HA.own (A : HA) : List Addr := A.cells ++ (A.rl ++ (A.E.own ++ A.Ds.flatMap CA.own))
def houseF (p : Addr) (A : HA) (n : Nat) : List (Str × V) := [("plan", .ref p), ("size", .int (n : Nat)), ("route_rows", .ref A.rr), ("storm_rows", .ref A.sr), ("ways", .ref A.wy), ("limits", .ref A.li), ("board", .ref A.E.b), ("cores", .ref A.co), ("modes", .ref A.mo),
  ("turns", .ref A.tu), ("recents", .ref A.rc), ("holds", .ref A.ho), ("begun_sums", .ref A.bs), ("done_sums", .ref A.ds), ("events", .ref A.ev)]
theorem hsF_plan {p : Addr} {A : HA} {n : Nat} : (houseF p A n).lookup ("plan" : Str) = some (.ref p) := by kernel_rfl
theorem hsF_size {p : Addr} {A : HA} {n : Nat} : (houseF p A n).lookup ("size" : Str) = some (.int (n : Nat)) := by kernel_rfl
theorem hsF_rr {p : Addr} {A : HA} {n : Nat} : (houseF p A n).lookup ("route_rows" : Str) = some (.ref A.rr) := by kernel_rfl
theorem hsF_sr {p : Addr} {A : HA} {n : Nat} : (houseF p A n).lookup ("storm_rows" : Str) = some (.ref A.sr) := by kernel_rfl
theorem hsF_wy {p : Addr} {A : HA} {n : Nat} : (houseF p A n).lookup ("ways" : Str) = some (.ref A.wy) := by kernel_rfl
theorem hsF_li {p : Addr} {A : HA} {n : Nat} : (houseF p A n).lookup ("limits" : Str) = some (.ref A.li) := by kernel_rfl
theorem hsF_bd {p : Addr} {A : HA} {n : Nat} : (houseF p A n).lookup ("board" : Str) = some (.ref A.E.b) := by kernel_rfl
theorem hsF_co {p : Addr} {A : HA} {n : Nat} : (houseF p A n).lookup ("cores" : Str) = some (.ref A.co) := by kernel_rfl
theorem hsF_mo {p : Addr} {A : HA} {n : Nat} : (houseF p A n).lookup ("modes" : Str) = some (.ref A.mo) := by kernel_rfl
theorem hsF_tu {p : Addr} {A : HA} {n : Nat} : (houseF p A n).lookup ("turns" : Str) = some (.ref A.tu) := by kernel_rfl
theorem hsF_rc {p : Addr} {A : HA} {n : Nat} : (houseF p A n).lookup ("recents" : Str) = some (.ref A.rc) := by kernel_rfl
theorem hsF_ho {p : Addr} {A : HA} {n : Nat} : (houseF p A n).lookup ("holds" : Str) = some (.ref A.ho) := by kernel_rfl
theorem hsF_bs {p : Addr} {A : HA} {n : Nat} : (houseF p A n).lookup ("begun_sums" : Str) = some (.ref A.bs) := by kernel_rfl
theorem hsF_ds {p : Addr} {A : HA} {n : Nat} : (houseF p A n).lookup ("done_sums" : Str) = some (.ref A.ds) := by kernel_rfl
theorem hsF_ev {p : Addr} {A : HA} {n : Nat} : (houseF p A n).lookup ("events" : Str) = some (.ref A.ev) := by kernel_rfl
inductive CoresAt (K : Fg) (H : Hp) (p : Addr) : List CA → List Cr → Prop
  | nil : CoresAt K H p [] []
  | cons {D : CA} {C : Cr} {Ds : List CA} {Cs : List Cr} : CoreAt K H p D C → CoresAt K H p Ds Cs → CoresAt K H p (D :: Ds) (C :: Cs)
section
variable {K : Fg} {H H' : Hp} {p : Addr}
theorem CoresAt.len : ∀ {Ds : List CA} {Cs : List Cr}, CoresAt K H p Ds Cs → Ds.length = Cs.length
  | _, _, .nil => rfl
  | _, _, .cons _ t => by rw [List.length_cons, List.length_cons, t.len]
theorem CoresAt.get : ∀ {Ds : List CA} {Cs : List Cr} {i : Nat} {C : Cr}, CoresAt K H p Ds Cs → Cs[i]? = some C → ∃ D, Ds[i]? = some D ∧ CoreAt K H p D C
  | _, _, _, _, .nil, h => by simp at h
  | _, _, 0, _, .cons h _, e => by
    simp at e
    subst e
    exact ⟨_, rfl, h⟩
  | _, _, i + 1, _, .cons _ t, e => by
    obtain ⟨D, h1, h2⟩ := t.get (i := i) (by simpa using e)
    exact ⟨D, by simpa using h1, h2⟩
theorem CoresAt.getD : ∀ {Ds : List CA} {Cs : List Cr} {i : Nat} {D : CA}, CoresAt K H p Ds Cs → Ds[i]? = some D → ∃ C, Cs[i]? = some C ∧ CoreAt K H p D C
  | _, _, _, _, .nil, h => by simp at h
  | _, _, 0, _, .cons h _, e => by
    simp at e
    subst e
    exact ⟨_, rfl, h⟩
  | _, _, i + 1, _, .cons _ t, e => by
    obtain ⟨C, h1, h2⟩ := t.getD (i := i) (by simpa using e)
    exact ⟨C, by simpa using h1, h2⟩
theorem CoresAt.keep {N : List Addr} (f : Fr N H H') : ∀ {Ds : List CA} {Cs : List Cr}, CoresAt K H p Ds Cs → (∀ a ∈ Ds.flatMap CA.own, a ∉ N) → CoresAt K H' p Ds Cs
  | _, _, .nil, _ => .nil
  | _, _, .cons h t, n => .cons (h.keep f fun a ha => n a (by simp [ha])) (t.keep f fun a ha => n a (by rw [List.flatMap_cons]; exact List.mem_append_right _ ha))
theorem CoresAt.ex : ∀ {Ds : List CA} {Cs : List Cr}, CoresAt K H p Ds Cs → ∀ a ∈ Ds.flatMap CA.own, H a ≠ none
  | _, _, .nil, a, ha => by simp at ha
  | _, _, .cons h t, a, ha => by
    rw [List.flatMap_cons] at ha
    rcases List.mem_append.mp ha with ha | ha
    · exact h.ex a ha
    · exact t.ex a ha
theorem CoresAt.set {N : List Addr} (f : Fr N H H') : ∀ {Ds : List CA} {Cs : List Cr} {i : Nat} {D' : CA} {C' : Cr}, CoresAt K H p Ds Cs → CoreAt K H' p D' C' → (∀ j D, Ds[j]? = some D → j ≠ i → ∀ a ∈ D.own, a ∉ N) → CoresAt K H' p (Ds.set i D') (Cs.set i C')
  | _, _, _, _, _, .nil, _, _ => .nil
  | _, _, 0, _, _, .cons h t, c, n => by
    refine .cons c (t.keep f fun a ha => ?_)
    obtain ⟨D, hD, haD⟩ := List.mem_flatMap.mp ha
    obtain ⟨j, hj, ej⟩ := List.mem_iff_getElem.mp hD
    exact n (j + 1) D (by rw [List.getElem?_cons_succ, List.getElem?_eq_getElem hj, ej]) (Nat.succ_ne_zero _) a haD
  | _, _, i + 1, _, _, .cons h t, c, n => .cons (h.keep f (n 0 _ rfl (Nat.succ_ne_zero _).symm)) (t.set f c fun j D hj hne => n (j + 1) D (by simpa using hj) (by omega))
end
def recK (l : List (Str × List Int)) (as : List Addr) : List (Key × V) := (l.zip as).map fun x => ((.inr x.1.1 : Key), V.ref x.2)
structure HsAt (K : Fg) (H : Hp) (A : HA) (PD : PA) (P : Pl) (T : HPl) (X : Hs) : Prop where
  nd : A.own.Nodup
  pd : ∀ a ∈ PD.own, a ∉ A.own
  pl : PlanAt K H PD P
  bd : BoardAt K H PD.p A.E X.B
  cs : CoresAt K H PD.p A.Ds X.cs
  rr : Dp K H (.ref A.rr) (.tuple (T.rts.map dRt))
  sr : Dp K H (.ref A.sr) (.tuple (T.sms.map dSm))
  rle : A.rl.length = X.rcs.length
  rls : Lsts H A.rl (X.rcs.map fun x => x.2.map V.int)
  ins : ∃ dx, H A.h = some (.ins (ga K "House") dx (houseF PD.p A T.n))
  wy : DictOf K H A.wy (·.ln) dRw T.rts
  li : DictOf K H A.li (·.ln) dSw T.sms
  co : H A.co = some (.lst (A.Ds.map fun D => .ref D.c))
  mo : H A.mo = some (.lst (X.md.map V.str))
  tu : H A.tu = some (.dK (joinK X.turns))
  rc : H A.rc = some (.dK (recK X.rcs A.rl))
  ho : H A.ho = some (.dK (joinK X.holds))
  bs : H A.bs = some (.dK (joinK X.bs))
  ds : H A.ds = some (.dK (joinK X.ds))
  ev : ∃ ys, H A.ev = some (.lst ys) ∧ DpAll K H ys (X.ev.map dHe)
structure ChH (H : Hp) (A : HA) (H' : Hp) (A' : HA) : Prop where
  fr : Fr A.own H H'
  h : A'.h = A.h
  own : ∀ a ∈ A'.own, a ∈ A.own ∨ H a = none
theorem ChH.refl {H : Hp} {A : HA} : ChH H A H A := ⟨Fr.refl, rfl, fun _ h => .inl h⟩
theorem ChH.same {H H' : Hp} {A : HA} (s : Same H H') : ChH H A H' A := ⟨s.fr, rfl, fun _ h => .inl h⟩
theorem ChH.trans {H H1 H2 : Hp} {A A1 A2 : HA} (x : ChH H A H1 A1) (y : ChH H1 A1 H2 A2) : ChH H A H2 A2 := by
  refine ⟨x.fr.seq y.fr x.own, y.h.trans x.h, fun a ha => ?_⟩
  rcases y.own a ha with h | h
  · exact x.own a h
  · exact .inr (x.fr.back h)
theorem dictOf_fr {α : Type} {K : Fg} {H H' : Hp} {rd : Addr} {nm : α → Str} {d : α → PyData} {l : List α} {N : List Addr} (h : DictOf K H rd nm d l) (f : Fr N H H') (n : rd ∉ N) (hd : ∀ x, tupd (d x) = true) : DictOf K H' rd nm d l := by
  obtain ⟨kvs, h1, h2, h3⟩ := h.at_
  exact h.keep (by rw [h1]; exact f.at h1 n) f.tk hd
section
variable {K : Fg} {H H' : Hp} {A : HA} {PD : PA} {P : Pl} {T : HPl} {X : Hs}
theorem HsAt.keep (h : HsAt K H A PD P T X) {N : List Addr} (f : Fr N H H') (n : ∀ a ∈ A.own, a ∉ N) (n2 : ∀ a ∈ PD.own, a ∉ N) : HsAt K H' A PD P T X := by
  obtain ⟨dx, e⟩ := h.ins
  obtain ⟨ys, ey, ay⟩ := h.ev
  have c : ∀ a ∈ A.cells, a ∉ N := fun a ha => n a (List.mem_append_left _ ha)
  have r : ∀ a ∈ A.rl ++ (A.E.own ++ A.Ds.flatMap CA.own), a ∉ N := fun a ha => n a (List.mem_append_right _ ha)
  exact ⟨h.nd, h.pd, h.pl.keep f n2, h.bd.keep f fun a ha => r a (by simp [ha]), h.cs.keep f fun a ha => r a (List.mem_append_right _ (List.mem_append_right _ ha)), h.rr.tk f.tk (tupds_map tupd_rt _), h.sr.tk f.tk (tupds_map tupd_sm _), h.rle, h.rls.keep f fun a ha => r a (by simp [ha]),
    ⟨dx, f.at e (c _ (by simp [HA.cells]))⟩, dictOf_fr h.wy f (c _ (by simp [HA.cells])) tupd_rw, dictOf_fr h.li f (c _ (by simp [HA.cells])) tupd_sw, f.at h.co (c _ (by simp [HA.cells])), f.at h.mo (c _ (by simp [HA.cells])), f.at h.tu (c _ (by simp [HA.cells])), f.at h.rc (c _ (by simp [HA.cells])),
    f.at h.ho (c _ (by simp [HA.cells])), f.at h.bs (c _ (by simp [HA.cells])), f.at h.ds (c _ (by simp [HA.cells])), ⟨ys, f.at ey (c _ (by simp [HA.cells])), ay.tk f.tk (tupds_map tupd_he _)⟩⟩
theorem HsAt.same (h : HsAt K H A PD P T X) (s : Same H H') : HsAt K H' A PD P T X := h.keep (N := []) s.fr (by simp) (by simp)
theorem hs_same (s : Same H H') (h : HsAt K H A PD P T X) : HsAt K H' A PD P T X := h.same s
theorem HsAt.ex (h : HsAt K H A PD P T X) : ∀ a ∈ A.own, H a ≠ none := by
  obtain ⟨dx, e⟩ := h.ins
  obtain ⟨ys, ey, ay⟩ := h.ev
  obtain ⟨_, e1, _⟩ := h.wy.at_
  obtain ⟨_, e2, _⟩ := h.li.at_
  intro a ha
  simp only [HA.own, HA.cells, List.mem_append, List.mem_cons, List.not_mem_nil, or_false] at ha
  rcases ha with (rfl | rfl | rfl | rfl | rfl | rfl | rfl | rfl | rfl | rfl | rfl) | ha | ha | ha
  · simp [e]
  · simp [e1]
  · simp [e2]
  · simp [h.co]
  · simp [h.mo]
  · simp [h.tu]
  · simp [h.rc]
  · simp [h.ho]
  · simp [h.bs]
  · simp [h.ds]
  · simp [ey]
  · exact h.rls.ex a ha
  · exact h.bd.ex a ha
  · exact h.cs.ex a ha
theorem HsAt.board (h : HsAt K H A PD P T X) {B' : Bd} (f : Fr A.E.own H H') (b : BoardAt K H' PD.p A.E B') : HsAt K H' A PD P T { X with B := B' } ∧ ChH H A H' A := by
  obtain ⟨dx, e⟩ := h.ins
  obtain ⟨ys, ey, ay⟩ := h.ev
  obtain ⟨n1, n2, n3⟩ := List.nodup_append.mp h.nd
  obtain ⟨m1, m2, m3⟩ := List.nodup_append.mp n2
  obtain ⟨q1, q2, q3⟩ := List.nodup_append.mp m2
  have c : ∀ a ∈ A.cells, a ∉ A.E.own := fun a ha z => n3 a ha a (by simp [z]) rfl
  exact ⟨⟨h.nd, h.pd, h.pl.keep f fun a ha z => h.pd a ha (by simp [HA.own, z]), b, h.cs.keep f fun a ha z => q3 a z a ha rfl, h.rr.tk f.tk (tupds_map tupd_rt _), h.sr.tk f.tk (tupds_map tupd_sm _), h.rle, h.rls.keep f fun a ha z => m3 a ha a (List.mem_append_left _ z) rfl,
    ⟨dx, f.at e (c _ (by simp [HA.cells]))⟩, dictOf_fr h.wy f (c _ (by simp [HA.cells])) tupd_rw, dictOf_fr h.li f (c _ (by simp [HA.cells])) tupd_sw, f.at h.co (c _ (by simp [HA.cells])), f.at h.mo (c _ (by simp [HA.cells])), f.at h.tu (c _ (by simp [HA.cells])), f.at h.rc (c _ (by simp [HA.cells])),
    f.at h.ho (c _ (by simp [HA.cells])), f.at h.bs (c _ (by simp [HA.cells])), f.at h.ds (c _ (by simp [HA.cells])), ⟨ys, f.at ey (c _ (by simp [HA.cells])), ay.tk f.tk (tupds_map tupd_he _)⟩⟩, ⟨f.mono fun a ha => by simp [HA.own, ha], rfl, fun _ h => .inl h⟩⟩
theorem HsAt.cst (h : HsAt K H A PD P T X) {i : Nat} {C : Cr} (hC : X.cs[i]? = some C) (bok : X.B.Ok P) (jok : JOk P C.jobs) : ∃ D, A.Ds[i]? = some D ∧ CSt K H PD P D C A.E X.B := by
  obtain ⟨D, hD, co⟩ := h.cs.get hC
  obtain ⟨n1, n2, n3⟩ := List.nodup_append.mp h.nd
  obtain ⟨m1, m2, m3⟩ := List.nodup_append.mp n2
  obtain ⟨q1, q2, q3⟩ := List.nodup_append.mp m2
  have hm : ∀ a ∈ D.own, a ∈ A.Ds.flatMap CA.own := fun a ha => List.mem_flatMap.mpr ⟨D, List.mem_of_getElem? hD, ha⟩
  exact ⟨D, hD, h.pl, co, h.bd, fun a ha => ⟨fun z => h.pd a ha (List.mem_append_right _ (List.mem_append_right _ (List.mem_append_right _ (hm a z)))), fun z => h.pd a ha (List.mem_append_right _ (List.mem_append_right _ (List.mem_append_left _ z)))⟩, fun a ha z => q3 a z a (hm a ha) rfl, bok, jok⟩
end
end Z
set_option maxHeartbeats 1000000
namespace Z
open PySem PySem.Spec PyProof.Rows L2
section
variable {K : Fg} {σ : L2.St} {H H1 H' : Hp} {Q : VK} {g : TG} {tt : TT} {te tk tv tl td ty tx : TE} {vs : List Nat} {x : V} {a d : Addr} {xs : List V} {α : Type} {l : List α} {o : Obj} {u : HO} {od : Obj}
theorem s_tupRg {t : L2.St → Hp → (Int → Int → Hp → Prop) → Prop} (q : t σ H fun a b H1 => RgOk a b ∧ ∀ q, H1 q = none → Q (.ref q) (upd H1 q (.tup (rgV a b)))) : tTupRg t σ H Q := q
theorem s_lstRg {t : L2.St → Hp → (Int → Int → Hp → Prop) → Prop} (q : t σ H fun a b H1 => RgOk a b ∧ ∀ q, H1 q = none → Q (.ref q) (upd H1 q (.lst (rgV a b)))) : tLstRg t σ H Q := q
theorem s_rg1 {R : Int → Int → Hp → Prop} (q : te σ H fun x H1 => ∃ n, x = .int n ∧ R 0 n H1) : tRg1 te σ H R := q
theorem s_items {R : It → Hp → Prop} (q : td σ H fun x H1 => ∃ d o kvs, x = .ref d ∧ H1 d = some (.frz o (.dK kvs)) ∧ R (Iti d o kvs) H1) : iItems td σ H R := q
theorem s_get2 (q : td σ H fun x H1 => ∃ a, x = .ref a ∧ IsD H1 a ∧ ty σ H1 fun y H2 => tx σ H2 fun z H3 => ∃ o, DGet H3 a y o ∧ Q (o.getD z) H3) : tDGet2 td ty tx σ H Q := q
end
theorem find_some {α : Type} {l : List α} {f : α → Str} {z : Str} {r : α} (h : l.find? (fun r => f r == z) = some r) : r ∈ l ∧ f r = z := ⟨List.mem_of_find?_eq_some h, by simpa using List.find?_some h⟩
theorem core_get {X : Hs} {p : Nat} (h : p < X.cs.length) : X.cs[p]? = some (X.core p) := by
  unfold Hs.core
  rw [List.getElem?_eq_getElem h]
  rfl
end Z
set_option maxHeartbeats 1000000
namespace Z
open PySem PySem.Spec PyProof.Rows L2
def modeL : List Str := ["on", "leaving", "off"]
def lnsOf (cs : List Cr) : List Str := cs.flatMap fun C => C.frames.map (·.ln)
structure Hs.Ok (P : Pl) (T : HPl) (X : Hs) : Prop where
  bok : X.B.Ok P
  cn : X.cs.length = T.n
  mn : X.md.length = T.n
  mw : ∀ m ∈ X.md, m ∈ modeL
  jok : ∀ C ∈ X.cs, JOk P C.jobs
  nm : ∀ C ∈ X.cs, ∀ f ∈ C.frames, f.ln ∈ P.names
  st : ∀ C ∈ X.cs, ∀ f ∈ C.frames, Stands P f
  tk : X.B.taken.Perm (lnsOf X.cs)
  sp : ∀ x ∈ X.B.spots, ∃ p : Nat, x.2 = (p : Int) ∧ p < T.n
  bk : X.bs.map (·.1) = P.ls.map (·.nm)
  dk : X.ds.map (·.1) = P.ws.map (·.nm)
  tn : (X.turns.map (·.1)).Nodup
  ts : ∀ x ∈ X.turns, x.1 ∈ P.names
  tv : ∀ x ∈ X.turns, 0 ≤ x.2 ∧ x.2 < ((T.way x.1).2.length : Nat)
  hn : (X.holds.map (·.1)).Nodup
  hs : ∀ x ∈ X.holds, x.1 ∈ P.names
  rn : (X.rcs.map (·.1)).Nodup
  rs : ∀ x ∈ X.rcs, x.1 ∈ P.names
  rl : ∀ x ∈ X.rcs, x.2.length ≤ X.ev.length
section
variable {P : Pl} {T : HPl} {X : Hs}
theorem Hs.Ok.fok (h : X.Ok P T) {i : Nat} {C : Cr} (hC : X.cs[i]? = some C) : FOk P C.frames X.B := by
  have hm := List.mem_of_getElem? hC
  have hn : (lnsOf X.cs).Nodup := h.tk.nodup_iff.mp h.bok.ta.nd
  refine ⟨h.nm C hm, fun f hf => h.tk.mem_iff.mpr (List.mem_flatMap.mpr ⟨C, hm, List.mem_map_of_mem hf⟩), ?_, h.st C hm⟩
  unfold lnsOf at hn
  rw [List.nodup_iff_pairwise_ne, List.pairwise_flatMap] at hn
  exact hn.1 C hm
theorem Hs.Ok.frl (h : X.Ok P T) (ok : P.Ok) {p : Nat} (hp : p < X.cs.length) : (X.core p).frames.length ≤ 12 := (h.fok (core_get hp)).len ok
theorem HPl.Ok.way (t : T.Ok P) (z : Str) : (T.way z).1 ∈ ruleL ∧ (T.way z).2 ≠ [] ∧ (T.way z).2.Nodup ∧ (∀ p ∈ (T.way z).2, p < T.n) ∧ (T.way z).2.length ≤ 6 := by
  have len6 : ∀ {l : List Nat}, l.Nodup → (∀ p ∈ l, p < T.n) → l.length ≤ 6 := fun {l} h1 h2 => by
    have : Sub l (List.range T.n) := ⟨h1, fun x hx => List.mem_range.mpr (h2 x hx)⟩
    have := this.len
    rw [List.length_range] at this
    exact Nat.le_trans this t.n6
  unfold HPl.way
  cases e : T.rts.find? fun r => r.ln == z with
  | none =>
    dsimp only
    have h1 : ∀ p ∈ List.range T.n, p < T.n := fun p hp => List.mem_range.mp hp
    refine ⟨by decide, fun e => ?_, List.nodup_range, h1, len6 List.nodup_range h1⟩
    have h := congrArg List.length e
    rw [List.length_range, List.length_nil] at h
    have := t.n1
    omega
  | some r =>
    obtain ⟨m, _⟩ := find_some e
    exact ⟨t.rr r m, t.r0 r m, t.rd r m, t.rp r m, len6 (t.rd r m) (t.rp r m)⟩
theorem minK_mem (f : Nat → Int) : ∀ (r : List Nat) (k : Nat), minK f k r ∈ k :: r
  | [], k => by simp [minK]
  | y :: r, k => by
    unfold minK
    rw [List.foldl_cons]
    have := minK_mem f r (if f y < f k then y else k)
    unfold minK at this
    rcases List.mem_cons.mp this with h | h
    · rw [h]
      split <;> simp
    · exact List.mem_cons_of_mem _ (List.mem_cons_of_mem _ h)
theorem readyK_mem {ps : List Nat} {k : Nat} (h : k ∈ X.readyK ps) : ∃ p, ps[k]? = some p ∧ X.on p = true := by
  unfold Hs.readyK at h
  obtain ⟨y, hy, rfl⟩ := List.mem_map.mp h
  obtain ⟨h1, h2⟩ := List.mem_filter.mp hy
  obtain ⟨a, i⟩ := y
  have := List.mem_zipIdx_iff_getElem?.mp h1
  exact ⟨a, this, h2⟩
theorem pick_mem {z : Str} {k : Nat} (h : X.pick T z = some k) : k ∈ X.readyK (T.way z).2 := by
  unfold Hs.pick at h
  split at h
  · cases h
  · rename_i j r e
    rw [e]
    have h := Option.some.inj h
    subst h
    split
    · exact minK_mem _ _ _
    · split
      · simp
      · exact minK_mem _ _ _
theorem noteE_ev {p : Nat} {e : Ev} : (X.noteE p e).ev.length = X.ev.length + 1 ∧ (X.noteE p e).ds.map (·.1) = X.ds.map (·.1) := by
  unfold Hs.noteE
  split
  · refine ⟨?_, ?_⟩
    · show (X.ev ++ [_]).length = _
      rw [List.length_append, List.length_singleton]
    · show (bump X.ds e.2).map (·.1) = _
      exact bump_fst _ _
  · refine ⟨?_, rfl⟩
    show (X.ev ++ [_]).length = _
    rw [List.length_append, List.length_singleton]
theorem noteAll_cons {p : Nat} {e : Ev} {es : List Ev} : X.noteAll p (e :: es) = (X.noteE p e).noteAll p es := rfl
theorem noteAll_ev {p : Nat} {es : List Ev} : (X.noteAll p es).ev.length = X.ev.length + es.length := by
  induction es generalizing X with
  | nil => rfl
  | cons e es ih =>
    rw [noteAll_cons, ih, noteE_ev.1, List.length_cons]
    omega
theorem noteAll_dk {p : Nat} {es : List Ev} : (X.noteAll p es).ds.map (·.1) = X.ds.map (·.1) := by
  induction es generalizing X with
  | nil => rfl
  | cons e es ih => rw [noteAll_cons, ih, noteE_ev.2]
structure SameH (X Y : Hs) : Prop where
  B : Y.B = X.B
  cs : Y.cs = X.cs
  md : Y.md = X.md
  turns : Y.turns = X.turns
  rcs : Y.rcs = X.rcs
  holds : Y.holds = X.holds
  bs : Y.bs = X.bs
theorem noteE_same {p : Nat} {e : Ev} : SameH X (X.noteE p e) := by
  unfold Hs.noteE
  split <;> exact ⟨rfl, rfl, rfl, rfl, rfl, rfl, rfl⟩
theorem SameH.trans {X Y W : Hs} (a : SameH X Y) (b : SameH Y W) : SameH X W := ⟨b.B.trans a.B, b.cs.trans a.cs, b.md.trans a.md, b.turns.trans a.turns, b.rcs.trans a.rcs, b.holds.trans a.holds, b.bs.trans a.bs⟩
theorem noteAll_same {p : Nat} {es : List Ev} : SameH X (X.noteAll p es) := by
  induction es generalizing X with
  | nil => exact ⟨rfl, rfl, rfl, rfl, rfl, rfl, rfl⟩
  | cons e es ih => exact noteE_same.trans ih
theorem turned_ev {z : Str} {k : Nat} : (X.turned T z k).ev = X.ev ∧ (X.turned T z k).B = X.B := by
  unfold Hs.turned
  split
  · exact ⟨rfl, rfl⟩
  · split <;> exact ⟨rfl, rfl⟩
theorem place1_ev {z : Str} : (X.place1 T z).ev.length ≤ X.ev.length + 1 := by
  unfold Hs.place1
  split
  · split
    · exact Nat.le_succ _
    · rename_i k _
      show ((X.turned T z k).ev ++ [_]).length ≤ _
      rw [turned_ev.1, List.length_append, List.length_singleton]
      exact Nat.le_refl _
  · exact Nat.le_succ _
theorem Hs.Ok.log (h : X.Ok P T) {e : List HEv} (hl : X.ev.length ≤ e.length) : ({ X with ev := e } : Hs).Ok P T := ⟨h.bok, h.cn, h.mn, h.mw, h.jok, h.nm, h.st, h.tk, h.sp, h.bk, h.dk, h.tn, h.ts, h.tv, h.hn, h.hs, h.rn, h.rs, fun x hx => Nat.le_trans (h.rl x hx) hl⟩
theorem Bd.Ok.spots (h : X.B.Ok P) {l : List (Str × Int)} (h1 : (l.map (·.1)).Nodup) (h2 : ∀ x ∈ l, x.1 ∈ P.names) : ({ X.B with spots := l } : Bd).Ok P := ⟨h.sh, h.wa, h.hi, h.ta, h.ra, h.jk, h1, h2, h.wn, h.wk, h.wi, h.rl⟩
theorem setK_nd {l : List (Str × Int)} {z : Str} {n : Int} (h : (l.map (·.1)).Nodup) : ((setK l z n).map (·.1)).Nodup := by
  rw [setK_keys]
  split
  · exact h
  · rename_i hz
    rw [List.nodup_append]
    exact ⟨h, by simp, fun a ha b hb e => hz (by rw [← List.mem_singleton.mp hb, ← e]; exact ha)⟩
theorem setK_mem {l : List (Str × Int)} {z : Str} {n : Int} {x : Str × Int} (h : x ∈ setK l z n) : x ∈ l ∨ x = (z, n) := by
  unfold setK at h
  split at h
  · obtain ⟨y, hy, rfl⟩ := List.mem_map.mp h
    split
    · exact .inr rfl
    · exact .inl hy
  · rcases List.mem_append.mp h with h | h
    · exact .inl h
    · exact .inr (List.mem_singleton.mp h)
theorem Hs.Ok.turned (h : X.Ok P T) (t : T.Ok P) {z : Str} (hz : z ∈ P.names) {k : Nat} : (X.turned T z k).Ok P T := by
  unfold Hs.turned
  split
  · exact h
  · split
    · exact h
    · have w := List.length_pos_iff.mpr (t.way z).2.1
      refine ⟨h.bok, h.cn, h.mn, h.mw, h.jok, h.nm, h.st, h.tk, h.sp, h.bk, h.dk, setK_nd h.tn, fun x hx => ?_, fun x hx => ?_, h.hn, h.hs, h.rn, h.rs, h.rl⟩
      · rcases setK_mem hx with hx | rfl
        · exact h.ts x hx
        · exact hz
      · rcases setK_mem hx with hx | rfl
        · exact h.tv x hx
        · exact ⟨Int.emod_nonneg _ (by omega), Int.emod_lt_of_pos _ (by omega)⟩
theorem Hs.Ok.putLine (h : X.Ok P T) {z : Str} (hz : z ∈ P.names) {p : Nat} (hp : p < T.n) : (X.putLine z p).Ok P T := by
  refine ⟨Bd.Ok.spots h.bok (setK_nd h.bok.sn) (fun x hx => ?_), h.cn, h.mn, h.mw, h.jok, h.nm, h.st, h.tk, fun x hx => ?_, h.bk, h.dk, h.tn, h.ts, h.tv, h.hn, h.hs, h.rn, h.rs, fun x hx => ?_⟩
  · rcases setK_mem hx with hx | rfl
    · exact h.bok.ss x hx
    · exact hz
  · rcases setK_mem hx with hx | rfl
    · exact h.sp x hx
    · exact ⟨p, rfl, hp⟩
  · refine Nat.le_trans (h.rl x hx) ?_
    show _ ≤ (X.ev ++ [_]).length
    rw [List.length_append]
    exact Nat.le_add_right _ _
theorem pick_lt (t : T.Ok P) {z : Str} {k : Nat} (h : X.pick T z = some k) : (T.way z).2.getD k 0 < T.n := by
  obtain ⟨p, h1, _⟩ := readyK_mem (pick_mem h)
  rw [List.getD_eq_getElem?_getD, h1]
  exact (t.way z).2.2.2.1 p (List.mem_of_getElem? h1)
theorem Hs.Ok.place1 (h : X.Ok P T) (t : T.Ok P) {z : Str} (hz : z ∈ P.names) : (X.place1 T z).Ok P T := by
  unfold Hs.place1
  split
  · split
    · exact h
    · rename_i k e
      exact (h.turned t hz).putLine hz (pick_lt t e)
  · exact h
theorem Hs.Ok.place (h : X.Ok P T) (t : T.Ok P) : (X.place P T).Ok P T := by
  unfold Hs.place
  have : ∀ z ∈ P.order, z ∈ P.names := fun z hz => P.order_perm.mem_iff.mp hz
  generalize P.order = l at this
  induction l generalizing X with
  | nil => exact h
  | cons z l ih => exact ih (h.place1 t (this z (by simp))) fun y hy => this y (by simp [hy])
end
end Z
set_option maxHeartbeats 1000000
namespace Z
open PySem PySem.Spec PyProof.Rows L2
open He (ga ma)
end Z
set_option maxHeartbeats 1000000
namespace Z
open PySem PySem.Spec PyProof.Rows L2
open He (ga ma)
structure Go (P : Pl) (C : Cr) (B : Bd) (r : Cr × Bd × List Ev) (k : Nat) : Prop where
  tk : ∀ rest, B.taken.Perm (C.frames.map (·.ln) ++ rest) → r.2.1.taken.Perm (r.1.frames.map (·.ln) ++ rest)
  sp : ∀ x ∈ r.2.1.spots, x ∈ B.spots
  tm : r.2.1.time = B.time
  hr : r.2.1.here = B.here
  ms : r.2.1.rung.length + r.1.jobs.length + left P r.1.frames ≤ B.rung.length + C.jobs.length + left P C.frames
  ev : r.2.2.length + left P r.1.frames ≤ left P C.frames + k
  wd : ∀ e ∈ r.2.2, e.1 = "end" ∨ (e.1 = "done" ∧ e.2 ∈ P.wnames)
section
variable {P : Pl}
theorem Go.refl {C : Cr} {B : Bd} : Go P C B (C, B, []) 0 := ⟨fun _ h => h, fun _ h => h, rfl, rfl, Nat.le_refl _, by simp, by simp⟩
theorem Go.trans {C C1 : Cr} {B B1 : Bd} {es : List Ev} {r : Cr × Bd × List Ev} {j k : Nat} (a : Go P C B (C1, B1, es) j) (b : Go P C1 B1 r k) : Go P C B (r.1, r.2.1, es ++ r.2.2) (j + k) := by
  refine ⟨fun rest h => b.tk rest (a.tk rest h), fun x h => a.sp x (b.sp x h), b.tm.trans a.tm, b.hr.trans a.hr, Nat.le_trans b.ms a.ms, ?_, fun e he => ?_⟩
  · have h1 := a.ev
    have h2 := b.ev
    dsimp only at h1 h2 ⊢
    rw [List.length_append]
    omega
  · rcases List.mem_append.mp he with he | he
    · exact a.wd e he
    · exact b.wd e he
theorem Go.mono {C : Cr} {B : Bd} {r : Cr × Bd × List Ev} {j k : Nat} (a : Go P C B r j) (h : j ≤ k) : Go P C B r k := ⟨a.tk, a.sp, a.tm, a.hr, a.ms, Nat.le_trans a.ev (by omega), a.wd⟩
theorem stepFx_spots {lim : Int} {jobs : List (Str × Nat)} {B : Bd} {s : Str × Key} : (∀ x ∈ (stepFx P lim jobs B s).2.2.spots, x ∈ B.spots) ∧ (stepFx P lim jobs B s).2.2.time = B.time ∧ (stepFx P lim jobs B s).2.2.here = B.here := by
  have hc : (∀ x ∈ (B.carry P s).1.spots, x ∈ B.spots) ∧ (B.carry P s).1.time = B.time ∧ (B.carry P s).1.here = B.here := by
    unfold Bd.carry
    split
    · unfold Bd.ring Bd.tell
      repeat (first | exact ⟨fun _ h => h, rfl, rfl⟩ | split)
    · split
      · exact ⟨fun x h => (delK_mem.mp h).1, rfl, rfl⟩
      · repeat (first | exact ⟨fun _ h => h, rfl, rfl⟩ | split)
  unfold stepFx
  split
  · exact ⟨fun _ h => h, rfl, rfl⟩
  · split
    · exact ⟨fun _ h => h, rfl, rfl⟩
    · split
      · exact hc
      · exact ⟨fun _ h => h, rfl, rfl⟩
theorem stepFx_rj {lim : Int} {jobs : List (Str × Nat)} {B : Bd} {s : Str × Key} : (stepFx P lim jobs B s).2.2.rung.length + (stepFx P lim jobs B s).2.1.length ≤ B.rung.length + jobs.length + 1 := by
  unfold stepFx
  split
  · exact Nat.le_succ _
  · split
    · have := leave_len (jobs := jobs) (z := kS s.2)
      dsimp only
      omega
    · split
      · have := Bd.carry_rung (P := P) (B := B) (s := s)
        dsimp only
        omega
      · exact Nat.le_succ _
theorem goL {fs : List Frm} {rest : List (Str × Key)} : ∀ {f : Frm} {lim : Int} {jobs : List (Str × Nat)} {B : Bd}, rest = (P.ln f.ln).st.drop f.st → Go P ⟨fs ++ [f], lim, jobs⟩ B (passL P fs f lim jobs B rest) 0 := by
  induction rest with
  | nil =>
    intro f lim jobs B _
    refine ⟨fun rest h => ?_, fun _ h => h, rfl, rfl, ?_, ?_, fun e he => ?_⟩
    · show (B.taken.erase f.ln).Perm (fs.map (·.ln) ++ rest)
      have h1 := h.erase f.ln
      refine h1.trans ?_
      have h2 : ((fs ++ [f]).map (·.ln) ++ rest).Perm (f.ln :: (fs.map (·.ln) ++ rest)) := by
        rw [List.map_append, List.append_assoc]
        exact List.perm_middle
      refine (h2.erase f.ln).trans ?_
      rw [List.erase_cons_head]
    · show B.rung.length + jobs.length + left P fs ≤ B.rung.length + jobs.length + left P (fs ++ [f])
      rw [left_snoc]
      omega
    · show 1 + left P fs ≤ left P (fs ++ [f]) + 0
      rw [left_snoc]
      unfold left1
      omega
    · rw [List.mem_singleton.mp he]
      exact .inl rfl
  | cons s r ih =>
    intro f lim jobs B hr
    have hl : f.st < (P.ln f.ln).st.length := by
      by_cases h : f.st < (P.ln f.ln).st.length
      · exact h
      · rw [List.drop_of_length_le (by omega)] at hr
        cases hr
    unfold passL
    split
    · exact Go.refl
    · have h2 : r = (P.ln f.ln).st.drop (f.st + 1) := by
        rw [← List.tail_drop, ← hr]
        rfl
      have i := ih (f := { f with st := f.st + 1 }) (lim := (stepFx P lim jobs B s).1) (jobs := (stepFx P lim jobs B s).2.1) (B := (stepFx P lim jobs B s).2.2) h2
      have k1 := stepFx_rj (P := P) (lim := lim) (jobs := jobs) (B := B) (s := s)
      obtain ⟨k2, k4, k5⟩ := stepFx_spots (P := P) (lim := lim) (jobs := jobs) (B := B) (s := s)
      have k3 : left1 P { f with st := f.st + 1 } + 1 = left1 P f := by
        show (P.ln f.ln).st.length - (f.st + 1) + 1 + 1 = (P.ln f.ln).st.length - f.st + 1
        omega
      refine ⟨fun rest h => i.tk rest ?_, fun x h => k2 x (i.sp x h), i.tm.trans k4, i.hr.trans k5, Nat.le_trans i.ms ?_, Nat.le_trans i.ev ?_, i.wd⟩
      · rw [stepFx_taken]
        rw [List.map_append] at h ⊢
        exact h
      · show (stepFx P lim jobs B s).2.2.rung.length + (stepFx P lim jobs B s).2.1.length + left P (fs ++ [_]) ≤ B.rung.length + jobs.length + left P (fs ++ [f])
        rw [left_snoc, left_snoc]
        omega
      · show left P (fs ++ [_]) + 0 ≤ left P (fs ++ [f]) + 0
        rw [left_snoc, left_snoc]
        omega
theorem goP {fs : List Frm} {f : Frm} {lim : Int} {jobs : List (Str × Nat)} {B : Bd} : Go P ⟨fs ++ [f], lim, jobs⟩ B (pass P fs f lim jobs B) 0 := goL rfl
theorem goC {C : Cr} {B : Bd} {fs : List Frm} {f : Frm} (e : C.frames = fs ++ [f]) : Go P C B (pass P fs f C.limit C.jobs B) 0 := by
  have := goP (P := P) (fs := fs) (f := f) (lim := C.limit) (jobs := C.jobs) (B := B)
  rw [← e] at this
  exact this
theorem goAll : ∀ (n : Nat) {C : Cr} {B : Bd} {es : List Ev}, ∃ es', passAll P n C B es = ((passAll P n C B es).1, (passAll P n C B es).2.1, es ++ es') ∧ Go P C B ((passAll P n C B es).1, (passAll P n C B es).2.1, es') 0
  | 0, C, B, es => ⟨[], by simp [passAll], Go.refl⟩
  | n + 1, C, B, es => by
    rcases List.eq_nil_or_concat C.frames with e | ⟨fs, f, e⟩
    · rw [passAll_nil e]
      exact ⟨[], by simp, Go.refl⟩
    · rw [List.concat_eq_append] at e
      cases hp : passing P B f with
      | false =>
        rw [passAll_no e hp]
        exact ⟨[], by simp, Go.refl⟩
      | true =>
        rw [passAll_yes e hp]
        obtain ⟨es', h1, h2⟩ := goAll n (C := (pass P fs f C.limit C.jobs B).1) (B := (pass P fs f C.limit C.jobs B).2.1) (es := es ++ (pass P fs f C.limit C.jobs B).2.2)
        refine ⟨(pass P fs f C.limit C.jobs B).2.2 ++ es', ?_, (goC e).trans h2⟩
        rw [← List.append_assoc]
        exact h1
theorem goS {C : Cr} {B : Bd} {fs : List Frm} {f : Frm} (e : C.frames = fs ++ [f]) : Go P C B (spend P fs f C.limit C.jobs B) 0 := by
  unfold spend
  split
  · have el : left P (fs ++ [{ f with tk := f.tk + 1 }]) = left P C.frames := by
      rw [e, left_snoc, left_snoc]
      rfl
    refine ⟨fun rest h => ?_, fun _ h => h, rfl, rfl, ?_, ?_, by simp⟩
    · rw [e, List.map_append] at h
      show B.taken.Perm ((fs ++ [{ f with tk := f.tk + 1 }]).map (fun g : Frm => g.ln) ++ rest)
      rw [List.map_append]
      exact h
    · show B.rung.length + C.jobs.length + left P (fs ++ [{ f with tk := f.tk + 1 }]) ≤ _
      rw [el]
      exact Nat.le_refl _
    · show 0 + left P (fs ++ [{ f with tk := f.tk + 1 }]) ≤ _
      rw [el]
      omega
  · have g := goP (P := P) (fs := fs) (f := { f with st := f.st + 1, tk := 0 }) (lim := C.limit) (jobs := C.jobs) (B := B)
    have el : left P (fs ++ [{ f with st := f.st + 1, tk := 0 }]) ≤ left P C.frames := by
      rw [e, left_snoc, left_snoc]
      have : left1 P { f with st := f.st + 1, tk := 0 } ≤ left1 P f := by
        show (P.ln f.ln).st.length - (f.st + 1) + 1 ≤ (P.ln f.ln).st.length - f.st + 1
        omega
      omega
    refine ⟨fun rest h => g.tk rest ?_, g.sp, g.tm, g.hr, Nat.le_trans g.ms ?_, Nat.le_trans g.ev ?_, g.wd⟩
    · rw [e, List.map_append] at h
      show B.taken.Perm ((fs ++ [{ f with st := f.st + 1, tk := 0 }]).map (fun g : Frm => g.ln) ++ rest)
      rw [List.map_append]
      exact h
    · show B.rung.length + C.jobs.length + left P (fs ++ [{ f with st := f.st + 1, tk := 0 }]) ≤ _
      omega
    · show left P (fs ++ [{ f with st := f.st + 1, tk := 0 }]) + 0 ≤ _
      omega
theorem doWork_le {jobs : List (Str × Nat)} : (doWork P jobs).1.length ≤ jobs.length := by
  unfold doWork
  split
  · exact Nat.le_refl _
  · split
    · exact Nat.le_refl _
    · split
      · rw [List.length_set]
        exact Nat.le_refl _
      · exact List.length_eraseIdx_le _ _
theorem doWork_wd {jobs : List (Str × Nat)} (h : ∀ j ∈ jobs, j.1 ∈ P.wnames) : ∀ e ∈ (doWork P jobs).2, e.1 = "end" ∨ (e.1 = "done" ∧ e.2 ∈ P.wnames) := by
  intro e he
  unfold doWork at he
  split at he
  · simp at he
  · split at he
    · simp at he
    · rename_i j hj
      split at he
      · simp at he
      · rw [List.mem_singleton.mp he]
        exact .inr ⟨rfl, h j (List.mem_of_getElem? hj)⟩
theorem goT {C : Cr} {B : Bd} (hj : ∀ {C' : Cr} {B' : Bd} {es : List Ev}, Go P C B (C', B', es) 0 → C' = (passAll P (left P C.frames) C B []).1 → ∀ j ∈ C'.jobs, j.1 ∈ P.wnames) : Go P C B (C.tick P B).2 1 := by
  unfold Cr.tick
  obtain ⟨es', h1, h2⟩ := goAll (P := P) (left P C.frames) (C := C) (B := B) (es := [])
  have hj' := hj h2 rfl
  rw [h1]
  generalize (passAll P (left P C.frames) C B []).1 = C1 at *
  generalize (passAll P (left P C.frames) C B []).2.1 = B1 at *
  rw [List.nil_append]
  dsimp only
  unfold tickC
  rcases List.eq_nil_or_concat C1.frames with e | ⟨fs, f, e⟩
  · rw [e]
    show Go P C B (if C1.jobs = [] then ("idle", C1, B1, es') else ("work", ⟨[], C1.limit, (doWork P C1.jobs).1⟩, B1, es' ++ (doWork P C1.jobs).2) : Str × Cr × Bd × List Ev).2 1
    split
    · exact h2.mono (Nat.zero_le _)
    · have g : Go P C1 B1 ({ C1 with jobs := (doWork P C1.jobs).1 }, B1, (doWork P C1.jobs).2) 1 := by
        refine ⟨fun _ h => h, fun _ h => h, rfl, rfl, ?_, ?_, doWork_wd hj'⟩
        · have := doWork_le (P := P) (jobs := C1.jobs)
          show B1.rung.length + (doWork P C1.jobs).1.length + left P C1.frames ≤ _
          omega
        · have := doWork_ev (P := P) (jobs := C1.jobs)
          show (doWork P C1.jobs).2.length + left P C1.frames ≤ left P C1.frames + 1
          omega
      have h3 := h2.trans g
      simp only [e] at h3
      exact h3
  · rw [List.concat_eq_append] at e
    rw [e, List.getLast?_concat]
    dsimp only
    split
    · exact h2.mono (Nat.zero_le _)
    · rw [List.dropLast_concat]
      exact (h2.trans (goS e)).mono (Nat.zero_le _)
end
def potC (P : Pl) (C : Cr) : Nat := C.jobs.length + left P C.frames
def pot (P : Pl) (X : Hs) : Nat := X.B.rung.length + (X.cs.map (potC P)).sum
theorem sumN_set {α : Type} (f : α → Nat) : ∀ {l : List α} {i : Nat} {x y : α}, l[i]? = some x → ((l.set i y).map f).sum + f x = (l.map f).sum + f y
  | [], _, _, _, h => by simp at h
  | a :: l, 0, x, y, h => by
    simp at h
    subst h
    rw [List.set_cons_zero, List.map_cons, List.map_cons, List.sum_cons, List.sum_cons]
    omega
  | a :: l, i + 1, x, y, h => by
    have ih := sumN_set f (l := l) (i := i) (x := x) (y := y) (by simpa using h)
    rw [List.set_cons_succ, List.map_cons, List.map_cons, List.sum_cons, List.sum_cons]
    omega
theorem sumN_get {α : Type} (f : α → Nat) : ∀ {l : List α} {i : Nat} {x : α}, l[i]? = some x → f x ≤ (l.map f).sum
  | [], _, _, h => by simp at h
  | a :: l, 0, x, h => by
    simp at h
    subst h
    rw [List.map_cons, List.sum_cons]
    exact Nat.le_add_right _ _
  | a :: l, i + 1, x, h => by
    have ih := sumN_get f (l := l) (i := i) (x := x) (by simpa using h)
    rw [List.map_cons, List.sum_cons]
    omega
theorem pot_core {P : Pl} {X : Hs} {p : Nat} (h : p < X.cs.length) : X.B.rung.length + (X.core p).jobs.length + left P (X.core p).frames ≤ pot P X := by
  have := sumN_get (potC P) (core_get h)
  unfold pot
  unfold potC at this ⊢
  omega
end Z
set_option maxHeartbeats 1000000
namespace Z
open PySem PySem.Spec PyProof.Rows L2
open He (ga ma)
theorem lnsOf_set {cs : List Cr} {i : Nat} {C : Cr} (h : i < cs.length) : (lnsOf (cs.set i C)).Perm (C.frames.map (·.ln) ++ lnsOf (cs.eraseIdx i)) := by
  induction cs generalizing i with
  | nil => simp at h
  | cons a l ih =>
    cases i with
    | zero => exact List.Perm.refl _
    | succ i =>
      have ih := ih (i := i) (by simpa using h)
      rw [List.set_cons_succ, List.eraseIdx_cons_succ]
      show (a.frames.map (·.ln) ++ lnsOf (l.set i C)).Perm (C.frames.map (·.ln) ++ (a.frames.map (·.ln) ++ lnsOf (l.eraseIdx i)))
      refine (ih.append_left _).trans ?_
      rw [← List.append_assoc, ← List.append_assoc]
      exact (List.perm_append_comm).append_right _
theorem lnsOf_get {cs : List Cr} {i : Nat} {C : Cr} (h : cs[i]? = some C) : (lnsOf cs).Perm (C.frames.map (·.ln) ++ lnsOf (cs.eraseIdx i)) := by
  have hl := (List.getElem?_eq_some_iff.mp h)
  obtain ⟨h1, h2⟩ := hl
  have := lnsOf_set (cs := cs) (C := C) h1
  rw [← h2, List.set_getElem_self] at this
  rw [← h2]
  exact this
section
variable {P : Pl} {T : HPl} {X : Hs}
theorem Hs.Ok.note (h : X.Ok P T) {w z : Str} {p : Nat} : (X.note w z p).Ok P T := h.log (by
  show X.ev.length ≤ (X.ev ++ [_]).length
  rw [List.length_append]
  exact Nat.le_add_right _ _)
theorem Hs.Ok.sameH {Y : Hs} (h : X.Ok P T) (s : SameH X Y) (h1 : Y.ds.map (·.1) = X.ds.map (·.1)) (h2 : X.ev.length ≤ Y.ev.length) : Y.Ok P T :=
  ⟨by rw [s.B]; exact h.bok, by rw [s.cs]; exact h.cn, by rw [s.md]; exact h.mn, by rw [s.md]; exact h.mw, by rw [s.cs]; exact h.jok, by rw [s.cs]; exact h.nm, by rw [s.cs]; exact h.st, by rw [s.cs, s.B]; exact h.tk, by rw [s.B]; exact h.sp, by rw [s.bs]; exact h.bk, by rw [h1]; exact h.dk,
    by rw [s.turns]; exact h.tn, by rw [s.turns]; exact h.ts, by rw [s.turns]; exact h.tv, by rw [s.holds]; exact h.hn, by rw [s.holds]; exact h.hs, by rw [s.rcs]; exact h.rn, by rw [s.rcs]; exact h.rs, by rw [s.rcs]; exact fun x hx => Nat.le_trans (h.rl x hx) h2⟩
theorem Hs.Ok.noteAll (h : X.Ok P T) {p : Nat} {es : List Ev} : (X.noteAll p es).Ok P T := h.sameH noteAll_same noteAll_dk (by rw [noteAll_ev]; exact Nat.le_add_right _ _)
theorem Hs.Ok.step (h : X.Ok P T) {p : Nat} {C' : Cr} {B' : Bd} (hp : p < X.cs.length) (ck : COk P C' B') (tk : ∀ rest, X.B.taken.Perm ((X.core p).frames.map (·.ln) ++ rest) → B'.taken.Perm (C'.frames.map (·.ln) ++ rest)) (sp : ∀ x ∈ B'.spots, x ∈ X.B.spots) : ({ X with cs := X.cs.set p C', B := B' } : Hs).Ok P T := by
  have hm : ∀ C ∈ X.cs.set p C', C ∈ X.cs ∨ C = C' := fun C hC => List.mem_or_eq_of_mem_set hC
  refine ⟨ck.bok, by show (X.cs.set p C').length = _; rw [List.length_set]; exact h.cn, h.mn, h.mw, fun C hC => ?_, fun C hC => ?_, fun C hC => ?_, ?_, fun x hx => h.sp x (sp x hx), h.bk, h.dk, h.tn, h.ts, h.tv, h.hn, h.hs, h.rn, h.rs, h.rl⟩
  · rcases hm C hC with k | rfl
    · exact h.jok C k
    · exact ck.jok
  · rcases hm C hC with k | rfl
    · exact h.nm C k
    · exact ck.fok.nm
  · rcases hm C hC with k | rfl
    · exact h.st C k
    · exact ck.fok.st
  · have h1 := tk (lnsOf (X.cs.eraseIdx p)) (h.tk.trans (lnsOf_get (core_get hp)))
    exact h1.trans (lnsOf_set hp).symm
theorem Hs.Ok.cok (h : X.Ok P T) {p : Nat} (hp : p < X.cs.length) : COk P (X.core p) X.B := ⟨h.bok, h.jok _ (List.mem_of_getElem? (core_get hp)), h.fok (core_get hp)⟩
theorem goTick (ok : P.Ok) (h : X.Ok P T) {p : Nat} (hp : p < X.cs.length) : Go P (X.core p) X.B ((X.core p).tick P X.B).2 1 := goT fun {C' B' es} g e j hj => by
  have := COk.passAll ok (left P (X.core p).frames) (es := []) (h.cok hp)
  rw [e] at hj
  exact this.jok.sub j hj
theorem Hs.Ok.spend (ok : P.Ok) (h : X.Ok P T) {p : Nat} (hp : p < X.cs.length) : (X.spend P p).Ok P T := by
  have g := goTick ok h hp
  exact (h.step hp (COk.tick ok (h.cok hp)) g.tk g.sp).noteAll
theorem pot_step {p : Nat} {C' : Cr} {B' : Bd} {k : Nat} (hp : p < X.cs.length) (h : B'.rung.length + C'.jobs.length + left P C'.frames ≤ X.B.rung.length + (X.core p).jobs.length + left P (X.core p).frames + k) : pot P { X with cs := X.cs.set p C', B := B' } ≤ pot P X + k := by
  have h1 := sumN_set (potC P) (y := C') (core_get hp)
  have h2 := sumN_get (potC P) (core_get hp)
  have e1 : potC P (X.core p) = (X.core p).jobs.length + left P (X.core p).frames := rfl
  have e2 : potC P C' = C'.jobs.length + left P C'.frames := rfl
  show B'.rung.length + ((X.cs.set p C').map (potC P)).sum ≤ X.B.rung.length + (X.cs.map (potC P)).sum + k
  omega
theorem pot_same {Y : Hs} (s : SameH X Y) : pot P Y = pot P X := by
  unfold pot
  rw [s.B, s.cs]
theorem pot_noteAll {p : Nat} {es : List Ev} : pot P (X.noteAll p es) = pot P X := pot_same noteAll_same
theorem pot_spend (ok : P.Ok) (h : X.Ok P T) {p : Nat} (hp : p < X.cs.length) : pot P (X.spend P p) ≤ pot P X := by
  unfold Hs.spend Hs.goes
  rw [pot_noteAll]
  exact pot_step (k := 0) hp (goTick ok h hp).ms
theorem ev_spend (ok : P.Ok) (h : X.Ok P T) {p : Nat} (hp : p < X.cs.length) : (X.spend P p).ev.length ≤ X.ev.length + 109 := by
  unfold Hs.spend Hs.goes
  rw [noteAll_ev]
  have h1 := (goTick ok h hp).ev
  have h2 := (h.cok hp).len ok
  show X.ev.length + _ ≤ _
  omega
theorem count_B {z : Str} : (X.count T z).B = X.B ∧ (X.count T z).cs = X.cs ∧ (X.count T z).md = X.md ∧ (X.count T z).bs = X.bs ∧ (X.count T z).ds = X.ds ∧ (X.count T z).turns = X.turns := by
  unfold Hs.count
  split
  · exact ⟨rfl, rfl, rfl, rfl, rfl, rfl⟩
  · split <;> exact ⟨rfl, rfl, rfl, rfl, rfl, rfl⟩
theorem count_ev {z : Str} : X.ev.length ≤ (X.count T z).ev.length ∧ (X.count T z).ev.length ≤ X.ev.length + 1 := by
  unfold Hs.count
  split
  · exact ⟨Nat.le_refl _, Nat.le_succ _⟩
  · split
    · show X.ev.length ≤ (X.ev ++ [_]).length ∧ (X.ev ++ [_]).length ≤ _
      rw [List.length_append, List.length_singleton]
      omega
    · exact ⟨Nat.le_refl _, Nat.le_succ _⟩
theorem setR_mem {l : List (Str × List Int)} {z : Str} {n : List Int} {x : Str × List Int} (h : x ∈ setR l z n) : x ∈ l ∨ x = (z, n) := by
  unfold setR at h
  split at h
  · obtain ⟨y, hy, rfl⟩ := List.mem_map.mp h
    split
    · exact .inr rfl
    · exact .inl hy
  · rcases List.mem_append.mp h with h | h
    · exact .inl h
    · exact .inr (List.mem_singleton.mp h)
theorem setR_nd {l : List (Str × List Int)} {z : Str} {n : List Int} (h : (l.map (·.1)).Nodup) : ((setR l z n).map (·.1)).Nodup := by
  unfold setR
  split
  · have : (l.map (fun x => if x.1 = z then (z, n) else x)).map (·.1) = l.map (·.1) := by
      rw [List.map_map]
      apply List.map_congr_left
      intro x _
      show (if x.1 = z then (z, n) else x).1 = x.1
      split
      · rename_i e
        exact e.symm
      · rfl
    rw [this]
    exact h
  · rename_i hz
    rw [List.map_append, List.nodup_append]
    exact ⟨h, by simp, fun a ha b hb e => hz (by
      have hb : b = z := by simpa using hb
      rw [← hb, ← e]
      exact ha)⟩
theorem getR_mem {l : List (Str × List Int)} {z : Str} {ns : List Int} (h : getR l z = some ns) : (z, ns) ∈ l := by
  unfold getR at h
  obtain ⟨x, h1, rfl⟩ := Option.map_eq_some_iff.mp h
  have h2 := List.find?_some h1
  have h3 : x.1 = z := of_decide_eq_true h2
  rw [← h3]
  exact List.mem_of_find?_eq_some h1
theorem Hs.Ok.count (h : X.Ok P T) {z : Str} (hz : z ∈ P.names) (he : ∀ x ∈ X.rcs, x.2.length < X.ev.length) (he0 : 1 ≤ X.ev.length) : (X.count T z).Ok P T := by
  have hl : ∀ s : Sm, (s.ticks X).length ≤ X.ev.length := fun s => by
    unfold Sm.ticks
    rw [List.length_append, List.length_singleton]
    cases e : getR X.rcs s.ln with
    | none =>
      show ([].filter _).length + 1 ≤ _
      exact he0
    | some ns =>
      have := he _ (getR_mem e)
      have h2 := List.length_filter_le (fun t => decide (t > X.B.time - s.win)) ns
      show (ns.filter _).length + 1 ≤ _
      dsimp only at this
      omega
  unfold Hs.count
  split
  · exact h
  · rename_i s _
    split
    · refine ⟨h.bok, h.cn, h.mn, h.mw, h.jok, h.nm, h.st, h.tk, h.sp, h.bk, h.dk, h.tn, h.ts, h.tv, setK_nd h.hn, fun x hx => ?_, setR_nd h.rn, fun x hx => ?_, fun x hx => ?_⟩
      · rcases setK_mem hx with hx | rfl
        · exact h.hs x hx
        · exact hz
      · rcases setR_mem hx with hx | rfl
        · exact h.rs x hx
        · exact hz
      · show _ ≤ (X.ev ++ [_]).length
        rw [List.length_append]
        rcases setR_mem hx with hx | rfl
        · have := h.rl x hx
          omega
        · have := hl s
          dsimp only
          omega
    · refine ⟨h.bok, h.cn, h.mn, h.mw, h.jok, h.nm, h.st, h.tk, h.sp, h.bk, h.dk, h.tn, h.ts, h.tv, h.hn, h.hs, setR_nd h.rn, fun x hx => ?_, fun x hx => ?_⟩
      · rcases setR_mem hx with hx | rfl
        · exact h.rs x hx
        · exact hz
      · rcases setR_mem hx with hx | rfl
        · exact h.rl x hx
        · exact hl s
theorem Bd.Ok.here {B : Bd} (h : B.Ok P) (o : Option Int) : ({ B with here := o } : Bd).Ok P := ⟨h.sh, h.wa, h.hi, h.ta, h.ra, h.jk, h.sn, h.ss, h.wn, h.wk, h.wi, h.rl⟩
theorem Bd.Ok.timed {B : Bd} (h : B.Ok P) (t : Int) : ({ B with time := t } : Bd).Ok P := ⟨h.sh, h.wa, h.hi, h.ta, h.ra, h.jk, h.sn, h.ss, h.wn, h.wk, h.wi, h.rl⟩
theorem Hs.Ok.board {B' : Bd} (h : X.Ok P T) (b : B'.Ok P) (e1 : B'.taken = X.B.taken) (e2 : ∀ x ∈ B'.spots, x ∈ X.B.spots) : ({ X with B := B' } : Hs).Ok P T := ⟨b, h.cn, h.mn, h.mw, h.jok, h.nm, h.st, by show B'.taken.Perm _; rw [e1]; exact h.tk, fun x hx => h.sp x (e2 x hx), h.bk, h.dk, h.tn, h.ts, h.tv, h.hn, h.hs, h.rn, h.rs, h.rl⟩
theorem Hs.Ok.begin (h : X.Ok P T) {p : Nat} {z : Str} (hz : z ∈ P.names) : (X.begin P T p z).Ok P T := by
  have h1 : ({ X.note "begin" z p with bs := bump X.bs z } : Hs).Ok P T := by
    have k := h.note (w := "begin") (z := z) (p := p)
    exact ⟨k.bok, k.cn, k.mn, k.mw, k.jok, k.nm, k.st, k.tk, k.sp, by show (bump X.bs z).map (·.1) = _; rw [bump_fst]; exact h.bk, k.dk, k.tn, k.ts, k.tv, k.hn, k.hs, k.rn, k.rs, k.rl⟩
  have el : ({ X.note "begin" z p with bs := bump X.bs z } : Hs).ev.length = X.ev.length + 1 := by
    show (X.ev ++ [_]).length = _
    rw [List.length_append, List.length_singleton]
  have h2 := h1.count hz (fun x hx => by rw [el]; have := h.rl x hx; omega) (by rw [el]; omega)
  have h3 := h2.board (B' := { X.B with here := some (p : Int) }) (h.bok.here _) (by rw [count_B.1]; rfl) (by rw [count_B.1]; exact fun _ h => h)
  exact h3
theorem begin_parts {p : Nat} {z : Str} : (X.begin P T p z).B = { X.B with here := some (p : Int) } ∧ (X.begin P T p z).cs = X.cs ∧ (X.begin P T p z).md = X.md := ⟨rfl, count_B.2.1, count_B.2.2.1⟩
theorem begin_ev {p : Nat} {z : Str} : (X.begin P T p z).ev.length ≤ X.ev.length + 2 := by
  have := (count_ev (X := { X.note "begin" z p with bs := bump X.bs z }) (T := T) (z := z)).2
  have el : ({ X.note "begin" z p with bs := bump X.bs z } : Hs).ev.length = X.ev.length + 1 := by
    show (X.ev ++ [_]).length = _
    rw [List.length_append, List.length_singleton]
  rw [el] at this
  exact this
theorem pot_begin {p : Nat} {z : Str} : pot P (X.begin P T p z) = pot P X := by
  unfold pot
  rw [begin_parts.1, begin_parts.2.1]
theorem goBegin (ok : P.Ok) {C : Cr} {B : Bd} {z : Str} (hz : z ∈ P.names) : ∀ {r : Cr × Bd × List Ev}, r = pass P C.frames ⟨z, 0, 0, C.limit⟩ C.limit C.jobs (B.begun z) →
    (∀ rest, B.taken.Perm (C.frames.map (·.ln) ++ rest) → r.2.1.taken.Perm (r.1.frames.map (·.ln) ++ rest)) ∧ (∀ x ∈ r.2.1.spots, x ∈ B.spots) ∧ r.2.1.time = B.time ∧ r.2.1.rung.length + r.1.jobs.length + left P r.1.frames ≤ B.rung.length + C.jobs.length + left P C.frames + 9 ∧ r.2.2.length + left P r.1.frames ≤ left P C.frames + 9 ∧ ∀ e ∈ r.2.2, e.1 = "end" ∨ (e.1 = "done" ∧ e.2 ∈ P.wnames) := by
  rintro r rfl
  have g := goP (P := P) (fs := C.frames) (f := ⟨z, 0, 0, C.limit⟩) (lim := C.limit) (jobs := C.jobs) (B := B.begun z)
  have h8 := ok.steps8 (ok.ln_mem hz).1
  have hl : left1 P ⟨z, 0, 0, C.limit⟩ = (P.ln z).st.length - 0 + 1 := rfl
  have hs : left P (C.frames ++ [⟨z, 0, 0, C.limit⟩]) ≤ left P C.frames + 9 := by
    rw [left_snoc]
    omega
  refine ⟨fun rest h => g.tk rest ?_, fun x hx => (delK_mem.mp (g.sp x hx)).1, g.tm, ?_, ?_, g.wd⟩
  · show (B.taken ++ [z]).Perm ((C.frames ++ [(⟨z, 0, 0, C.limit⟩ : Frm)]).map (fun f : Frm => f.ln) ++ rest)
    rw [List.map_append, List.append_assoc]
    refine (h.append_right [z]).trans ?_
    rw [List.append_assoc]
    exact (List.perm_append_comm).append_left _
  · have := g.ms
    have e1 : (B.begun z).rung = B.rung := rfl
    rw [e1] at this
    dsimp only at this
    omega
  · have := g.ev
    dsimp only at this
    omega
theorem readyL_mem {p : Nat} {z : Str} (h : z ∈ X.readyL P p) : z ∈ P.names ∧ getK X.B.spots z = some (p : Int) ∧ X.B.can z = true := by
  unfold Hs.readyL at h
  obtain ⟨h1, h2⟩ := List.mem_filter.mp h
  simp only [Bool.and_eq_true, decide_eq_true_eq] at h2
  exact ⟨P.order_perm.mem_iff.mp h1, h2.1, h2.2⟩
theorem can_notaken {B : Bd} {z : Str} (h : B.can z = true) : z ∉ B.taken := by
  unfold Bd.can at h
  simp only [Bool.and_eq_true, Bool.not_eq_true', decide_eq_false_iff_not] at h
  exact h.2.2
theorem beginR_eq {p : Nat} {z : Str} : (X.begin P T p z).beginR P p z = pass P (X.core p).frames ⟨z, 0, 0, (X.core p).limit⟩ (X.core p).limit (X.core p).jobs (({ X.B with here := some (p : Int) } : Bd).begun z) := by
  unfold Hs.beginR
  have : (X.begin P T p z).core p = X.core p := by
    unfold Hs.core
    rw [begin_parts.2.1]
  rw [this]
  rfl
theorem begin_core {p q : Nat} {z : Str} : (X.begin P T p z).core q = X.core q := by
  unfold Hs.core
  rw [begin_parts.2.1]
theorem Hs.Ok.take (ok : P.Ok) (h : X.Ok P T) {p : Nat} (hp : p < X.cs.length) : (X.take P T p).Ok P T := by
  unfold Hs.take
  split
  · exact h
  · rename_i z r e
    split
    · obtain ⟨hz, _, hc⟩ := readyL_mem (P := P) (X := X) (p := p) (z := z) (by rw [e]; simp)
      have hb := h.begin (p := p) hz
      have hp2 : p < (X.begin P T p z).cs.length := by rw [begin_parts.2.1]; exact hp
      have hnt : z ∉ (X.begin P T p z).B.taken := can_notaken hc
      have hfk := hb.cok hp2
      have hnf : z ∉ ((X.begin P T p z).core p).frames.map (·.ln) := fun q => hnt (by
        obtain ⟨f, hf, rfl⟩ := List.mem_map.mp q
        exact hfk.fok.tk f hf)
      obtain ⟨g1, g2, _⟩ := goBegin ok (C := (X.begin P T p z).core p) (B := (X.begin P T p z).B) hz rfl
      have fk : FOk P ((X.begin P T p z).core p).frames ((X.begin P T p z).B.begun z) := ⟨hfk.fok.nm, fun f hf => List.mem_append_left _ (hfk.fok.tk f hf), hfk.fok.nd, hfk.fok.st⟩
      exact (hb.step hp2 (pass_ok ok (hfk.bok.begun hz hnt) hfk.jok fk hz (by show z ∈ _ ++ [z]; simp) hnf).cok g1 g2).noteAll
    · exact h
theorem pot_take (ok : P.Ok) {p : Nat} (hp : p < X.cs.length) : pot P (X.take P T p) ≤ pot P X + 9 := by
  unfold Hs.take
  split
  · exact Nat.le_add_right _ _
  · rename_i z r e
    split
    · obtain ⟨hz, _, hc⟩ := readyL_mem (P := P) (X := X) (p := p) (z := z) (by rw [e]; simp)
      have hp2 : p < (X.begin P T p z).cs.length := by rw [begin_parts.2.1]; exact hp
      obtain ⟨_, _, _, g3, _⟩ := goBegin ok (C := (X.begin P T p z).core p) (B := (X.begin P T p z).B) hz rfl
      unfold Hs.goes
      rw [pot_noteAll]
      have := pot_step (X := X.begin P T p z) hp2 g3
      rw [pot_begin] at this
      exact this
    · exact Nat.le_add_right _ _
theorem ev_take (ok : P.Ok) (h : X.Ok P T) {p : Nat} (hp : p < X.cs.length) : (X.take P T p).ev.length ≤ X.ev.length + 119 := by
  unfold Hs.take
  split
  · exact Nat.le_add_right _ _
  · rename_i z r e
    split
    · obtain ⟨hz, _, hc⟩ := readyL_mem (P := P) (X := X) (p := p) (z := z) (by rw [e]; simp)
      obtain ⟨_, _, _, _, g4, _⟩ := goBegin ok (C := (X.begin P T p z).core p) (B := (X.begin P T p z).B) hz rfl
      unfold Hs.goes
      rw [noteAll_ev]
      have h1 := begin_ev (X := X) (P := P) (T := T) (p := p) (z := z)
      have h2 := (h.cok hp).len ok
      rw [begin_core] at g4
      have e2 : (X.begin P T p z).beginR P p z = pass P (X.core p).frames ⟨z, 0, 0, (X.core p).limit⟩ (X.core p).limit (X.core p).jobs ((X.begin P T p z).B.begun z) := by
        unfold Hs.beginR
        rw [begin_core]
      rw [e2]
      show (X.begin P T p z).ev.length + _ ≤ _
      omega
    · exact Nat.le_add_right _ _
theorem HsAt.fresh {K : Fg} {H : Hp} {A : HA} {PD : PA} {P : Pl} {T : HPl} {X : Hs} (h : HsAt K H A PD P T X) {i : Nat} {D' : CA} {l : Addr} (hl : H l = none) (nl : l ∉ D'.own) : l ∉ HA.own { A with Ds := A.Ds.set i D' } := fun z => by
  have ex : ∀ a ∈ A.own, a ≠ l := fun a ha e => h.ex a ha (by rw [e]; exact hl)
  rcases List.mem_append.mp z with z | z
  · exact ex l (List.mem_append_left _ z) rfl
  rcases List.mem_append.mp z with z | z
  · exact ex l (List.mem_append_right _ (List.mem_append_left _ z)) rfl
  rcases List.mem_append.mp z with z | z
  · exact ex l (List.mem_append_right _ (List.mem_append_right _ (List.mem_append_left _ z))) rfl
  obtain ⟨D2, h2, ha⟩ := List.mem_flatMap.mp z
  rcases List.mem_or_eq_of_mem_set h2 with h2 | h2
  · exact ex l (List.mem_append_right _ (List.mem_append_right _ (List.mem_append_right _ (List.mem_flatMap.mpr ⟨D2, h2, ha⟩)))) rfl
  · rw [h2] at ha
    exact nl ha
end
end Z
set_option maxHeartbeats 1000000
namespace Z
open PySem PySem.Spec PyProof.Rows L2
open He (ga ma)
section
variable {P : Pl} {T : HPl} {X : Hs}
theorem core_set {X : Hs} {p q : Nat} {C : Cr} (hp : p < X.cs.length) : ({ X with cs := X.cs.set p C } : Hs).core q = if q = p then C else X.core q := by
  unfold Hs.core
  show ((X.cs.set p C)[q]?).getD _ = _
  rw [List.getElem?_set]
  by_cases e : q = p
  · subst e
    rw [if_pos rfl, if_pos hp, if_pos rfl]
    rfl
  · rw [if_neg (fun h => e h.symm), if_neg e]
theorem Hs.Ok.jobs (h : X.Ok P T) {g : Nat} {js : List (Str × Nat)} (hg : g < X.cs.length) (hj : JOk P js) : ({ X with cs := X.cs.set g { X.core g with jobs := js } } : Hs).Ok P T := by
  have hm : ∀ C ∈ X.cs.set g { X.core g with jobs := js }, C ∈ X.cs ∨ C = { X.core g with jobs := js } := fun C hC => List.mem_or_eq_of_mem_set hC
  have hc := List.mem_of_getElem? (core_get hg)
  refine ⟨h.bok, by show (X.cs.set g _).length = _; rw [List.length_set]; exact h.cn, h.mn, h.mw, fun C hC => ?_, fun C hC => ?_, fun C hC => ?_, ?_, h.sp, h.bk, h.dk, h.tn, h.ts, h.tv, h.hn, h.hs, h.rn, h.rs, h.rl⟩
  · rcases hm C hC with k | rfl
    · exact h.jok C k
    · exact hj
  · rcases hm C hC with k | rfl
    · exact h.nm C k
    · exact h.nm (X.core g) hc
  · rcases hm C hC with k | rfl
    · exact h.st C k
    · exact h.st (X.core g) hc
  · have h1 := h.tk.trans (lnsOf_get (core_get hg))
    exact h1.trans (lnsOf_set (C := { X.core g with jobs := js }) hg).symm
def moveJ (js : List (Str × Nat)) (j : Str × Nat) : List (Str × Nat) := if j.2 > 0 then js ++ [j] else leave js j.1
theorem move1_eq {g : Nat} {j : Str × Nat} : X.move1 g j = ({ X with cs := X.cs.set g { X.core g with jobs := moveJ (X.core g).jobs j } } : Hs).note "moved" j.1 g := rfl
theorem core_move1 {g q : Nat} {j : Str × Nat} (hg : g < X.cs.length) : (X.move1 g j).core q = if q = g then { X.core g with jobs := moveJ (X.core g).jobs j } else X.core q := core_set hg
theorem moveJ_ok {js : List (Str × Nat)} {j : Str × Nat} (h : JOk P js) (hj : j.1 ∈ P.wnames) : JOk P (moveJ js j) := by
  unfold moveJ
  split
  · rename_i q
    exact h.app hj (by omega)
  · exact h.leave hj
theorem moveJ_len {js : List (Str × Nat)} {j : Str × Nat} : (moveJ js j).length ≤ js.length + 1 := by
  unfold moveJ
  split
  · rw [List.length_append, List.length_singleton]
    exact Nat.le_refl _
  · exact leave_len
theorem Hs.Ok.move1 (h : X.Ok P T) {g : Nat} {j : Str × Nat} (hg : g < X.cs.length) (hj : j.1 ∈ P.wnames) : (X.move1 g j).Ok P T := by
  rw [move1_eq]
  exact (h.jobs hg (moveJ_ok (h.jok _ (List.mem_of_getElem? (core_get hg))) hj)).note
theorem Hs.Ok.leaves (h : X.Ok P T) {p : Nat} : (X.leaves p).Ok P T := by
  have h1 : ({ X with md := X.md.set p "off" } : Hs).Ok P T := ⟨h.bok, h.cn, by show (X.md.set p _).length = _; rw [List.length_set]; exact h.mn, fun m hm => by
    rcases List.mem_or_eq_of_mem_set hm with k | rfl
    · exact h.mw m k
    · decide, h.jok, h.nm, h.st, h.tk, h.sp, h.bk, h.dk, h.tn, h.ts, h.tv, h.hn, h.hs, h.rn, h.rs, h.rl⟩
  exact h1.log (by
    show X.ev.length ≤ (X.ev ++ [_]).length
    rw [List.length_append]
    exact Nat.le_add_right _ _)
def Hs.moved (P : Pl) (X : Hs) (p : Nat) (ks : List Nat) : Hs := ks.foldl (fun Y k => match (X.core p).jobs[k]? with
  | some j => Y.move1 ((X.leaves p).goal p) j
  | none => Y) (X.leaves p)
theorem off_eq {p : Nat} : X.off P p = { X.moved P p (places P (X.core p).jobs) with cs := (X.moved P p (places P (X.core p).jobs)).cs.set p { X.core p with jobs := [] } } := rfl
theorem moved_snoc {p k : Nat} {ks : List Nat} {j : Str × Nat} (h : (X.core p).jobs[k]? = some j) : X.moved P p (ks ++ [k]) = (X.moved P p ks).move1 ((X.leaves p).goal p) j := by
  unfold Hs.moved
  rw [List.foldl_append]
  show (match (X.core p).jobs[k]? with
    | some j => _
    | none => _) = _
  rw [h]
theorem goal_on {p : Nat} (h : ∃ q, X.on q = true) : X.on (X.goal p) = true ∧ X.goal p < X.md.length := by
  obtain ⟨q, hq⟩ := h
  have hql : q < X.md.length := by
    unfold Hs.on at hq
    have := of_decide_eq_true hq
    exact (List.getElem?_eq_some_iff.mp this).1
  unfold Hs.goal
  have hm : q ∈ (List.range X.md.length).filter X.on := List.mem_filter.mpr ⟨List.mem_range.mpr hql, hq⟩
  cases e : (List.range X.md.length).filter X.on with
  | nil => rw [e] at hm; simp at hm
  | cons k r =>
    dsimp only
    have := minK_mem (fun j => ((X.core j).jobs.length : Int)) r k
    rw [← e] at this
    obtain ⟨h1, h2⟩ := List.mem_filter.mp this
    exact ⟨h2, List.mem_range.mp h1⟩
theorem leaves_on {p q : Nat} (h : X.on q = true) (hne : q ≠ p) : (X.leaves p).on q = true := by
  unfold Hs.on at *
  show decide ((X.md.set p "off")[q]? = some "on") = true
  rw [List.getElem?_set_ne (fun e => hne e.symm)]
  exact h
theorem leaves_off {p : Nat} : (X.leaves p).on p = false := by
  unfold Hs.on
  show decide ((X.md.set p "off")[p]? = some "on") = false
  rw [List.getElem?_set_self']
  cases X.md[p]? with
  | none => rfl
  | some m =>
    show decide (some ("off" : Str) = some ("on" : Str)) = false
    decide +kernel
structure MvOk (P : Pl) (T : HPl) (X : Hs) (p : Nat) (Y : Hs) (i : Nat) : Prop where
  ok : Y.Ok P T
  cp : Y.core p = X.core p
  gl : (Y.core ((X.leaves p).goal p)).jobs.length ≤ (X.core ((X.leaves p).goal p)).jobs.length + i
  ev : Y.ev.length ≤ X.ev.length + 1 + i
  pt : pot P Y ≤ pot P X + i
  oth : Y.md = (X.leaves p).md ∧ Y.B = X.B
theorem MvOk.start (h : X.Ok P T) {p : Nat} : MvOk P T X p (X.leaves p) 0 := ⟨h.leaves, rfl, Nat.le_refl _, by show (X.ev ++ [_]).length ≤ _; rw [List.length_append, List.length_singleton]; exact Nat.le_refl _, Nat.le_refl _, rfl, rfl⟩
theorem MvOk.next {p i : Nat} {Y : Hs} (h : MvOk P T X p Y i) (hg : (X.leaves p).goal p < T.n) (hne : (X.leaves p).goal p ≠ p) {j : Str × Nat} (hj : j.1 ∈ P.wnames) : MvOk P T X p (Y.move1 ((X.leaves p).goal p) j) (i + 1) := by
  have hgc : (X.leaves p).goal p < Y.cs.length := by rw [h.ok.cn]; exact hg
  refine ⟨h.ok.move1 hgc hj, ?_, ?_, ?_, ?_, h.oth⟩
  · rw [core_move1 hgc, if_neg (fun e => hne e.symm)]
    exact h.cp
  · rw [core_move1 hgc, if_pos rfl]
    have := moveJ_len (js := (Y.core ((X.leaves p).goal p)).jobs) (j := j)
    have := h.gl
    dsimp only
    omega
  · show (Y.ev ++ [_]).length ≤ _
    rw [List.length_append, List.length_singleton]
    have := h.ev
    omega
  · have e : pot P (Y.move1 ((X.leaves p).goal p) j) = pot P { Y with cs := Y.cs.set ((X.leaves p).goal p) { Y.core ((X.leaves p).goal p) with jobs := moveJ (Y.core ((X.leaves p).goal p)).jobs j }, B := Y.B } := rfl
    rw [e]
    have h1 := pot_step (P := P) (X := Y) (C' := { Y.core ((X.leaves p).goal p) with jobs := moveJ (Y.core ((X.leaves p).goal p)).jobs j }) (B' := Y.B) (k := 1) hgc (by
      have := moveJ_len (js := (Y.core ((X.leaves p).goal p)).jobs) (j := j)
      dsimp only
      omega)
    have := h.pt
    omega
theorem moved_ok (h : X.Ok P T) {p : Nat} (hp : p < X.cs.length) (hg : (X.leaves p).goal p < T.n) (hne : (X.leaves p).goal p ≠ p) : ∀ (n : Nat), n ≤ (places P (X.core p).jobs).length → MvOk P T X p (X.moved P p ((places P (X.core p).jobs).take n)) n
  | 0, _ => by
    rw [List.take_zero]
    exact MvOk.start h
  | n + 1, hn => by
    have hx : (places P (X.core p).jobs)[n]? = some (places P (X.core p).jobs)[n] := List.getElem?_eq_getElem (by omega)
    have hk := places_lt (List.getElem_mem (show n < (places P (X.core p).jobs).length by omega))
    have hj : (X.core p).jobs[(places P (X.core p).jobs)[n]]? = some (X.core p).jobs[(places P (X.core p).jobs)[n]] := List.getElem?_eq_getElem hk
    have ht : (places P (X.core p).jobs).take (n + 1) = (places P (X.core p).jobs).take n ++ [(places P (X.core p).jobs)[n]] := by
      rw [List.take_add_one, hx]
      rfl
    rw [ht, moved_snoc hj]
    exact (moved_ok h hp hg hne n (by omega)).next hg hne ((h.jok _ (List.mem_of_getElem? (core_get hp))).sub _ (List.mem_of_getElem? hj))
theorem Hs.Ok.off (h : X.Ok P T) {p : Nat} (hp : p < X.cs.length) (hg : (X.leaves p).goal p < T.n) (hne : (X.leaves p).goal p ≠ p) : (X.off P p).Ok P T := by
  have m := moved_ok h hp hg hne _ (Nat.le_refl _)
  rw [List.take_length] at m
  have k := m.ok.jobs (g := p) (by rw [m.ok.cn, ← h.cn]; exact hp) JOk.nil
  rw [m.cp] at k
  rw [off_eq]
  exact k
theorem pot_off (h : X.Ok P T) {p : Nat} (hp : p < X.cs.length) (hg : (X.leaves p).goal p < T.n) (hne : (X.leaves p).goal p ≠ p) : pot P (X.off P p) ≤ pot P X ∧ (X.off P p).ev.length ≤ X.ev.length + 1 + (X.core p).jobs.length := by
  have m := moved_ok h hp hg hne _ (Nat.le_refl _)
  rw [List.take_length, places_len] at m
  have hpm : p < (X.moved P p (places P (X.core p).jobs)).cs.length := by rw [m.ok.cn, ← h.cn]; exact hp
  refine ⟨?_, m.ev⟩
  rw [off_eq]
  have h1 := sumN_set (potC P) (y := { X.core p with jobs := [] }) (core_get hpm)
  rw [m.cp] at h1
  have e1 : potC P (X.core p) = (X.core p).jobs.length + left P (X.core p).frames := rfl
  have e2 : potC P { X.core p with jobs := [] } = 0 + left P (X.core p).frames := rfl
  have h2 := m.pt
  show (X.moved P p (places P (X.core p).jobs)).B.rung.length + (((X.moved P p (places P (X.core p).jobs)).cs.set p { X.core p with jobs := [] }).map (potC P)).sum ≤ _
  unfold pot at h2
  rw [m.oth.2] at h2 ⊢
  unfold pot
  omega
end
end Z
set_option maxHeartbeats 1000000
namespace Z
open PySem PySem.Spec PyProof.Rows L2
open He (ga ma)
section
variable {P : Pl} {T : HPl} {X : Hs}
def take1 (P : Pl) (T : HPl) (X : Hs) (p : Nat) : Hs := if X.on p = true then X.take P T p else X
def spend1 (P : Pl) (X : Hs) (p : Nat) : Hs := if X.md[p]? = some ("off" : Str) then X else X.spend P p
def off1 (P : Pl) (X : Hs) (p : Nat) : Hs := if X.md[p]? = some ("leaving" : Str) ∧ (X.core p).frames = [] then X.off P p else X
def takesN (P : Pl) (T : HPl) (X : Hs) (n : Nat) : Hs := (List.range n).foldl (fun X p => take1 P T X p) X
def spendsN (P : Pl) (X : Hs) (n : Nat) : Hs := (List.range n).foldl (fun X p => spend1 P X p) X
def offsN (P : Pl) (X : Hs) (n : Nat) : Hs := (List.range n).foldl (fun X p => off1 P X p) X
theorem takesN_succ {n : Nat} : takesN P T X (n + 1) = take1 P T (takesN P T X n) n := by
  unfold takesN
  rw [List.range_succ, List.foldl_append]
  rfl
theorem spendsN_succ {n : Nat} : spendsN P X (n + 1) = spend1 P (spendsN P X n) n := by
  unfold spendsN
  rw [List.range_succ, List.foldl_append]
  rfl
theorem offsN_succ {n : Nat} : offsN P X (n + 1) = off1 P (offsN P X n) n := by
  unfold offsN
  rw [List.range_succ, List.foldl_append]
  rfl
theorem tick_eq : X.tick P T = (offsN P (spendsN P (takesN P T (X.place P T) T.n) T.n) T.n).next := rfl
theorem take_md {p : Nat} : (X.take P T p).md = X.md := by
  unfold Hs.take
  split
  · rfl
  · split
    · unfold Hs.goes
      rw [noteAll_same.md]
      exact (begin_parts (P := P)).2.2
    · rfl
theorem spend_md {p : Nat} : (X.spend P p).md = X.md := by
  unfold Hs.spend Hs.goes
  rw [noteAll_same.md]
theorem place1_md {z : Str} : (X.place1 T z).md = X.md ∧ (X.place1 T z).cs = X.cs ∧ (X.place1 T z).B.rung = X.B.rung ∧ (X.place1 T z).B.time = X.B.time := by
  unfold Hs.place1 Hs.turned
  split
  · split
    · exact ⟨rfl, rfl, rfl, rfl⟩
    · split
      · exact ⟨rfl, rfl, rfl, rfl⟩
      · split <;> exact ⟨rfl, rfl, rfl, rfl⟩
  · exact ⟨rfl, rfl, rfl, rfl⟩
theorem place_parts : (X.place P T).md = X.md ∧ (X.place P T).cs = X.cs ∧ (X.place P T).B.rung = X.B.rung ∧ (X.place P T).B.time = X.B.time ∧ (X.place P T).ev.length ≤ X.ev.length + P.order.length := by
  unfold Hs.place
  generalize P.order = l
  induction l generalizing X with
  | nil => exact ⟨rfl, rfl, rfl, rfl, Nat.le_refl _⟩
  | cons z l ih =>
    obtain ⟨h1, h2, h3, h4, h5⟩ := ih (X := X.place1 T z)
    obtain ⟨k1, k2, k3, k4⟩ := place1_md (X := X) (T := T) (z := z)
    have k5 := place1_ev (X := X) (T := T) (z := z)
    refine ⟨h1.trans k1, h2.trans k2, h3.trans k3, h4.trans k4, ?_⟩
    rw [List.foldl_cons, List.length_cons]
    omega
theorem pot_place : pot P (X.place P T) = pot P X := by
  obtain ⟨_, h2, h3, _⟩ := place_parts (X := X) (P := P) (T := T)
  unfold pot
  rw [h2, h3]
structure Trn (P : Pl) (T : HPl) (X Y : Hs) (a b : Nat) : Prop where
  ok : Y.Ok P T
  pt : pot P Y ≤ pot P X + a
  ev : Y.ev.length ≤ X.ev.length + b
theorem takesN_ok (ok : P.Ok) (h : X.Ok P T) : ∀ n, n ≤ T.n → Trn P T X (takesN P T X n) (9 * n) (119 * n) ∧ (takesN P T X n).md = X.md
  | 0, _ => ⟨⟨h, Nat.le_refl _, Nat.le_refl _⟩, rfl⟩
  | n + 1, hn => by
    obtain ⟨⟨h1, h2, h3⟩, h4⟩ := takesN_ok ok h n (by omega)
    have hp : n < (takesN P T X n).cs.length := by rw [h1.cn]; omega
    rw [takesN_succ]
    unfold take1
    split
    · have k1 := pot_take (P := P) (T := T) ok hp
      have k2 := ev_take (P := P) (T := T) ok h1 hp
      exact ⟨⟨h1.take ok hp, by omega, by omega⟩, take_md.trans h4⟩
    · exact ⟨⟨h1, by omega, by omega⟩, h4⟩
theorem spendsN_ok (ok : P.Ok) (h : X.Ok P T) : ∀ n, n ≤ T.n → Trn P T X (spendsN P X n) 0 (109 * n) ∧ (spendsN P X n).md = X.md
  | 0, _ => ⟨⟨h, Nat.le_refl _, Nat.le_refl _⟩, rfl⟩
  | n + 1, hn => by
    obtain ⟨⟨h1, h2, h3⟩, h4⟩ := spendsN_ok ok h n (by omega)
    have hp : n < (spendsN P X n).cs.length := by rw [h1.cn]; omega
    rw [spendsN_succ]
    unfold spend1
    split
    · exact ⟨⟨h1, by omega, by omega⟩, h4⟩
    · have k1 := pot_spend (P := P) (T := T) ok h1 hp
      have k2 := ev_spend (P := P) (T := T) ok h1 hp
      exact ⟨⟨h1.spend ok hp, by omega, by omega⟩, spend_md.trans h4⟩
theorem off_md (h : X.Ok P T) {p : Nat} (hp : p < X.cs.length) (hg : (X.leaves p).goal p < T.n) (hne : (X.leaves p).goal p ≠ p) : (X.off P p).md = X.md.set p "off" := by
  have m := moved_ok h hp hg hne _ (Nat.le_refl _)
  rw [List.take_length] at m
  rw [off_eq]
  exact m.oth.1
theorem goal_facts {p : Nat} (h : X.Ok P T) (hon : ∃ q, X.on q = true ∧ q ≠ p) : (X.leaves p).goal p < T.n ∧ (X.leaves p).goal p ≠ p := by
  obtain ⟨q0, hq0, hqp⟩ := hon
  have gon := goal_on (p := p) ⟨q0, leaves_on hq0 hqp⟩
  have ok3 := h.leaves (p := p)
  refine ⟨by rw [← ok3.mn]; exact gon.2, fun e => ?_⟩
  have := gon.1
  rw [e, leaves_off] at this
  cases this
theorem off1_on {p q : Nat} (h : X.Ok P T) (hp : p < T.n) (hq : X.on q = true) : (off1 P X p).on q = true := by
  unfold off1
  split
  · rename_i hl
    have hpq : q ≠ p := fun e => by
      unfold Hs.on at hq
      rw [e, hl.1] at hq
      revert hq
      decide +kernel
    obtain ⟨g1, g2⟩ := goal_facts (p := p) h ⟨q, hq, hpq⟩
    unfold Hs.on at hq ⊢
    rw [off_md h (by rw [h.cn]; exact hp) g1 g2, List.getElem?_set_ne (fun e => hpq e.symm)]
    exact hq
  · exact hq
theorem offsN_ok (h : X.Ok P T) (hon : ∃ q, X.on q = true) : ∀ n, n ≤ T.n → (offsN P X n).Ok P T ∧ pot P (offsN P X n) ≤ pot P X ∧ (offsN P X n).ev.length ≤ X.ev.length + n * (1 + pot P X) ∧ (∀ q, X.on q = true → (offsN P X n).on q = true)
  | 0, _ => ⟨h, Nat.le_refl _, by show X.ev.length ≤ _; omega, fun _ h => h⟩
  | n + 1, hn => by
    obtain ⟨h1, h2, h3, h4⟩ := offsN_ok h hon n (by omega)
    have hp : n < (offsN P X n).cs.length := by rw [h1.cn]; omega
    have hmul : (n + 1) * (1 + pot P X) = n * (1 + pot P X) + (1 + pot P X) := Nat.succ_mul _ _
    rw [offsN_succ]
    refine ⟨?_, ?_, ?_, fun q hq => off1_on h1 (by omega) (h4 q hq)⟩
    all_goals
      unfold off1
      split
      · rename_i hl
        obtain ⟨q, hq⟩ := hon
        have hq1 := h4 q hq
        have hpq : q ≠ n := fun e => by
          unfold Hs.on at hq1
          rw [e, hl.1] at hq1
          revert hq1
          decide +kernel
        obtain ⟨g1, g2⟩ := goal_facts (p := n) h1 ⟨q, hq1, hpq⟩
        have ho := h1.off hp g1 g2
        obtain ⟨k1, k2⟩ := pot_off (P := P) h1 hp g1 g2
        have k3 := pot_core (P := P) hp
        first
          | exact ho
          | omega
      · first
          | exact h1
          | omega
theorem next_ok (h : X.Ok P T) : X.next.Ok P T ∧ pot P X.next = pot P X ∧ X.next.ev = X.ev := ⟨h.board (h.bok.timed _) rfl fun _ h => h, rfl, rfl⟩
theorem tick_ok (ok : P.Ok) (t : T.Ok P) (h : X.Ok P T) (hon : ∃ q, X.on q = true) : (X.tick P T).Ok P T ∧ pot P (X.tick P T) ≤ pot P X + 54 ∧ (X.tick P T).ev.length ≤ X.ev.length + 2000 + 6 * (pot P X + 55) ∧ ∀ q, X.on q = true → (X.tick P T).on q = true := by
  have n6 := t.n6
  have h1 := h.place t
  obtain ⟨m1, _, _, _, e1⟩ := place_parts (X := X) (P := P) (T := T)
  have p1 := pot_place (X := X) (P := P) (T := T)
  have lo : P.order.length ≤ 12 := by rw [P.order_perm.length_eq]; exact ok.len
  obtain ⟨⟨h2, p2, e2⟩, m2⟩ := takesN_ok ok h1 T.n (Nat.le_refl _)
  obtain ⟨⟨h3, p3, e3⟩, m3⟩ := spendsN_ok ok h2 T.n (Nat.le_refl _)
  have on3 : ∀ q, X.on q = true → (spendsN P (takesN P T (X.place P T) T.n) T.n).on q = true := fun q hq => by
    unfold Hs.on at hq ⊢
    rw [m3, m2, m1]
    exact hq
  obtain ⟨h4, p4, e4, o4⟩ := offsN_ok h3 (hon.imp on3) T.n (Nat.le_refl _)
  obtain ⟨h5, p5, e5⟩ := next_ok h4
  rw [tick_eq]
  have hm : T.n * (1 + pot P (spendsN P (takesN P T (X.place P T) T.n) T.n)) ≤ 6 * (1 + pot P (spendsN P (takesN P T (X.place P T) T.n) T.n)) := Nat.mul_le_mul_right _ n6
  refine ⟨h5, by rw [p5]; omega, by rw [e5]; omega, fun q hq => o4 q (on3 q hq)⟩
end
end Z
set_option maxHeartbeats 1000000
namespace Z
open PySem PySem.Spec PyProof.Rows L2
open He (ga ma)
def mcK (fr jo : Addr) (lim : Int) : List (Key × V) := [((.inr "calls" : Key), .ref fr), (.inr "bar", .int lim), (.inr "jobs", .ref jo)]
theorem mc_ca {fr jo : Addr} {lim : Int} : valV (mcK fr jo lim) (.inr "calls") = some (.ref fr) := by kernel_rfl
theorem mc_bar {fr jo : Addr} {lim : Int} : valV (mcK fr jo lim) (.inr "bar") = some (.int lim) := by kernel_rfl
theorem mc_jo {fr jo : Addr} {lim : Int} : valV (mcK fr jo lim) (.inr "jobs") = some (.ref jo) := by kernel_rfl
structure MCoreAt (K : Fg) (H : Hp) (D : CA) (C : Cr) : Prop where
  nd : D.own.Nodup
  dk : H D.c = some (.dK (mcK D.fr D.jo C.limit))
  fr : H D.fr = some (.lst (D.fs.map V.ref))
  jo : H D.jo = some (.lst (D.js.map V.ref))
  fs : Lsts H D.fs (C.frames.map frV)
  js : Lsts H D.js (C.jobs.map jbV)
section
variable {K : Fg} {H H' : Hp} {D : CA} {C : Cr}
theorem MCoreAt.keep (h : MCoreAt K H D C) {A : List Addr} (f : Fr A H H') (n : ∀ a ∈ D.own, a ∉ A) : MCoreAt K H' D C := by
  have e := h.dk
  refine ⟨h.nd, f.at e (n _ (by simp [CA.own])), f.at h.fr (n _ (by simp [CA.own])), f.at h.jo (n _ (by simp [CA.own])), h.fs.keep f fun a ha => n a (by simp [CA.own, ha]), h.js.keep f fun a ha => n a (by simp [CA.own, ha])⟩
theorem MCoreAt.same (h : MCoreAt K H D C) (s : Same H H') : MCoreAt K H' D C := h.keep (A := []) s.fr (by simp)
end
theorem MCoreAt.ex {K : Fg} {H : Hp} {D : CA} {C : Cr} (h : MCoreAt K H D C) : ∀ a ∈ D.own, H a ≠ none := by
  have h1 := h.dk
  intro a ha
  simp only [CA.own, List.mem_cons, List.mem_append] at ha
  rcases ha with rfl | rfl | rfl | ha | ha
  · simp [h1]
  · simp [h.fr]
  · simp [h.jo]
  · exact h.fs.ex a ha
  · exact h.js.ex a ha
end Z
set_option maxHeartbeats 1000000
namespace Z
open PySem PySem.Spec PyProof.Rows L2
open He (ga ma)
structure MD where
  m : Addr
  mo : Addr
  co : Addr
  od : Addr
  sh : Addr
  wa : Addr
  hi : Addr
  fl : Addr
  lg : Addr
  rg : Addr
  ft : Addr
  ln : Addr
  wk : Addr
  rt : Addr
  st : Addr
  sp : Addr
  tu : Addr
  ho : Addr
  la : Addr
  bg : Addr
  tm : Addr
  dn : Addr
  bl : List Addr
  Ds : List CA
def MD.cells (A : MD) : List Addr := [A.m, A.mo, A.co, A.od, A.sh, A.wa, A.hi, A.fl, A.lg, A.rg, A.ft, A.ln, A.wk, A.rt, A.st, A.sp, A.tu, A.ho, A.la, A.bg, A.tm, A.dn]
def MD.own (A : MD) : List Addr := A.cells ++ (A.bl ++ A.Ds.flatMap CA.own)
def mhK (A : MD) (now : Int) : List (Key × V) := [((.inr "modes" : Key), .ref A.mo), ((.inr "cores" : Key), .ref A.co), ((.inr "now" : Key), .int now), ((.inr "order" : Key), .ref A.od), ((.inr "shut" : Key), .ref A.sh), ((.inr "wanted" : Key), .ref A.wa), ((.inr "high" : Key), .ref A.hi), ((.inr "flags" : Key), .ref A.fl), ((.inr "log" : Key), .ref A.lg), ((.inr "rings" : Key), .ref A.rg), ((.inr "fates" : Key), .ref A.ft), ((.inr "lines" : Key), .ref A.ln), ((.inr "works" : Key), .ref A.wk), ((.inr "routes" : Key), .ref A.rt), ((.inr "storms" : Key), .ref A.st), ((.inr "spots" : Key), .ref A.sp), ((.inr "turns" : Key), .ref A.tu), ((.inr "holds" : Key), .ref A.ho), ((.inr "last" : Key), .ref A.la), ((.inr "begun" : Key), .ref A.bg), ((.inr "times" : Key), .ref A.tm), ((.inr "done" : Key), .ref A.dn)]
theorem mh_modes {A : MD} {n : Int} : valV (mhK A n) (.inr "modes") = some (.ref A.mo) := by kernel_rfl
theorem mh_cores {A : MD} {n : Int} : valV (mhK A n) (.inr "cores") = some (.ref A.co) := by kernel_rfl
theorem mh_now {A : MD} {n : Int} : valV (mhK A n) (.inr "now") = some (.int n) := by kernel_rfl
theorem mh_order {A : MD} {n : Int} : valV (mhK A n) (.inr "order") = some (.ref A.od) := by kernel_rfl
theorem mh_shut {A : MD} {n : Int} : valV (mhK A n) (.inr "shut") = some (.ref A.sh) := by kernel_rfl
theorem mh_wanted {A : MD} {n : Int} : valV (mhK A n) (.inr "wanted") = some (.ref A.wa) := by kernel_rfl
theorem mh_high {A : MD} {n : Int} : valV (mhK A n) (.inr "high") = some (.ref A.hi) := by kernel_rfl
theorem mh_flags {A : MD} {n : Int} : valV (mhK A n) (.inr "flags") = some (.ref A.fl) := by kernel_rfl
theorem mh_log {A : MD} {n : Int} : valV (mhK A n) (.inr "log") = some (.ref A.lg) := by kernel_rfl
theorem mh_rings {A : MD} {n : Int} : valV (mhK A n) (.inr "rings") = some (.ref A.rg) := by kernel_rfl
theorem mh_fates {A : MD} {n : Int} : valV (mhK A n) (.inr "fates") = some (.ref A.ft) := by kernel_rfl
theorem mh_lines {A : MD} {n : Int} : valV (mhK A n) (.inr "lines") = some (.ref A.ln) := by kernel_rfl
theorem mh_works {A : MD} {n : Int} : valV (mhK A n) (.inr "works") = some (.ref A.wk) := by kernel_rfl
theorem mh_routes {A : MD} {n : Int} : valV (mhK A n) (.inr "routes") = some (.ref A.rt) := by kernel_rfl
theorem mh_storms {A : MD} {n : Int} : valV (mhK A n) (.inr "storms") = some (.ref A.st) := by kernel_rfl
theorem mh_spots {A : MD} {n : Int} : valV (mhK A n) (.inr "spots") = some (.ref A.sp) := by kernel_rfl
theorem mh_turns {A : MD} {n : Int} : valV (mhK A n) (.inr "turns") = some (.ref A.tu) := by kernel_rfl
theorem mh_holds {A : MD} {n : Int} : valV (mhK A n) (.inr "holds") = some (.ref A.ho) := by kernel_rfl
theorem mh_last {A : MD} {n : Int} : valV (mhK A n) (.inr "last") = some (.ref A.la) := by kernel_rfl
theorem mh_begun {A : MD} {n : Int} : valV (mhK A n) (.inr "begun") = some (.ref A.bg) := by kernel_rfl
theorem mh_times {A : MD} {n : Int} : valV (mhK A n) (.inr "times") = some (.ref A.tm) := by kernel_rfl
theorem mh_done {A : MD} {n : Int} : valV (mhK A n) (.inr "done") = some (.ref A.dn) := by kernel_rfl
def dLn3 (l : Ln) : PyData := .tuple [.str l.kd, .int l.rk, .tuple (l.st.map dSt)]
def dWk2 (v : Wk) : PyData := .tuple [.int v.rk, .int v.tk]
theorem tupd_ln3 (l : Ln) : tupd (dLn3 l) = true := by
  show (true && (true && (tupds (l.st.map dSt) && true))) = true
  rw [tupds_map tupd_dSt]
  rfl
theorem tupd_wk2 (v : Wk) : tupd (dWk2 v) = true := rfl
def dRoute (T : HPl) (l : Ln) : PyData := .tuple [.str (T.way l.nm).1, dPs (T.way l.nm).2]
theorem tupd_route (T : HPl) (l : Ln) : tupd (dRoute T l) = true := tupd_rw ⟨l.nm, (T.way l.nm).1, (T.way l.nm).2⟩
structure LOk (P : Pl) (B : Bd) (L : List (Str × Int)) : Prop where
  nd : (L.map (·.1)).Nodup
  nm : ∀ x ∈ L, x.1 ∈ P.names
  eq : ∀ z n, getK B.wanting z = some n → getK L z = some n
structure GOk (P : Pl) (T : HPl) (X : Hs) (G : List (Str × List Int)) : Prop where
  nd : (G.map (·.1)).Nodup
  nm : ∀ x ∈ G, x.1 ∈ P.names
  ln : ∀ x ∈ G, x.2.length ≤ X.ev.length
  eq : ∀ s ∈ T.sms, ∀ t, X.B.time ≤ t → ((getR X.rcs s.ln).getD []).filter (fun k => decide (k > t - s.win)) = ((getR G s.ln).getD []).filter (fun k => decide (k > t - s.win))
inductive MCores (K : Fg) (H : Hp) : List CA → List Cr → Prop
  | nil : MCores K H [] []
  | cons {D : CA} {C : Cr} {Ds : List CA} {Cs : List Cr} : MCoreAt K H D C → MCores K H Ds Cs → MCores K H (D :: Ds) (C :: Cs)
structure MHAt (K : Fg) (H : Hp) (A : MD) (P : Pl) (T : HPl) (X : Hs) : Prop where
  nd : A.own.Nodup
  cs : MCores K H A.Ds X.cs
  m : H A.m = some (.dK (mhK A X.B.time))
  mo : H A.mo = some (.lst (X.md.map V.str))
  co : H A.co = some (.lst (A.Ds.map fun D => .ref D.c))
  od : H A.od = some (.lst (P.order.map V.str))
  sh : H A.sh = some (.lst (X.B.shut.map V.str))
  wa : H A.wa = some (.lst (X.B.wanted.map V.str))
  hi : H A.hi = some (.lst (X.B.high.map V.str))
  fl : H A.fl = some (.lst (X.B.raised.map V.int))
  lg : ∃ ys, H A.lg = some (.lst ys) ∧ DpAll K H ys (X.ev.map dHe)
  rg : ∃ ys, H A.rg = some (.lst ys) ∧ DpAll K H ys (X.B.rung.map dRg)
  ft : ∃ ys, H A.ft = some (.lst ys) ∧ DpAll K H ys (X.B.results.map dFt)
  ln : DictOf K H A.ln (·.nm) dLn3 P.ls
  wk : DictOf K H A.wk (·.nm) dWk2 P.ws
  rt : DictOf K H A.rt (·.nm) (dRoute T) P.ls
  st : DictOf K H A.st (·.ln) dSw T.sms
  sp : H A.sp = some (.dK (joinK X.B.spots))
  tu : H A.tu = some (.dK (joinK X.turns))
  ho : H A.ho = some (.dK (joinK X.holds))
  la : ∃ L, H A.la = some (.dK (joinK L)) ∧ LOk P X.B L
  bg : ∃ G, H A.bg = some (.dK (recK G A.bl)) ∧ A.bl.length = G.length ∧ Lsts H A.bl (G.map fun x => x.2.map V.int) ∧ GOk P T X G
  tm : H A.tm = some (.dK (joinK X.bs))
  dn : H A.dn = some (.dK (joinK X.ds))
structure ChM (H : Hp) (A : MD) (H' : Hp) (A' : MD) : Prop where
  fr : Fr A.own H H'
  m : A'.m = A.m
  own : ∀ a ∈ A'.own, a ∈ A.own ∨ H a = none
theorem ChM.refl {H : Hp} {A : MD} : ChM H A H A := ⟨Fr.refl, rfl, fun _ h => .inl h⟩
theorem ChM.same {H H' : Hp} {A : MD} (s : Same H H') : ChM H A H' A := ⟨s.fr, rfl, fun _ h => .inl h⟩
theorem ChM.trans {H H1 H2 : Hp} {A A1 A2 : MD} (x : ChM H A H1 A1) (y : ChM H1 A1 H2 A2) : ChM H A H2 A2 := by
  refine ⟨x.fr.seq y.fr x.own, y.m.trans x.m, fun a ha => ?_⟩
  rcases y.own a ha with h | h
  · exact x.own a h
  · exact .inr (x.fr.back h)
section
variable {K : Fg} {H H' : Hp}
theorem MCores.len : ∀ {Ds : List CA} {Cs : List Cr}, MCores K H Ds Cs → Ds.length = Cs.length
  | _, _, .nil => rfl
  | _, _, .cons _ t => by rw [List.length_cons, List.length_cons, t.len]
theorem MCores.get : ∀ {Ds : List CA} {Cs : List Cr} {i : Nat} {C : Cr}, MCores K H Ds Cs → Cs[i]? = some C → ∃ D, Ds[i]? = some D ∧ MCoreAt K H D C
  | _, _, _, _, .nil, h => by simp at h
  | _, _, 0, _, .cons h _, e => by
    simp at e
    subst e
    exact ⟨_, rfl, h⟩
  | _, _, i + 1, _, .cons _ t, e => by
    obtain ⟨D, h1, h2⟩ := t.get (i := i) (by simpa using e)
    exact ⟨D, by simpa using h1, h2⟩
theorem MCores.keep {N : List Addr} (f : Fr N H H') : ∀ {Ds : List CA} {Cs : List Cr}, MCores K H Ds Cs → (∀ a ∈ Ds.flatMap CA.own, a ∉ N) → MCores K H' Ds Cs
  | _, _, .nil, _ => .nil
  | _, _, .cons h t, n => .cons (h.keep f fun a ha => n a (by simp [ha])) (t.keep f fun a ha => n a (by rw [List.flatMap_cons]; exact List.mem_append_right _ ha))
theorem MCores.ex : ∀ {Ds : List CA} {Cs : List Cr}, MCores K H Ds Cs → ∀ a ∈ Ds.flatMap CA.own, H a ≠ none
  | _, _, .nil, a, ha => by simp at ha
  | _, _, .cons h t, a, ha => by
    rw [List.flatMap_cons] at ha
    rcases List.mem_append.mp ha with ha | ha
    · exact h.ex a ha
    · exact t.ex a ha
theorem MCores.set {N : List Addr} (f : Fr N H H') : ∀ {Ds : List CA} {Cs : List Cr} {i : Nat} {D' : CA} {C' : Cr}, MCores K H Ds Cs → MCoreAt K H' D' C' → (∀ j D, Ds[j]? = some D → j ≠ i → ∀ a ∈ D.own, a ∉ N) → MCores K H' (Ds.set i D') (Cs.set i C')
  | _, _, _, _, _, .nil, _, _ => .nil
  | _, _, 0, _, _, .cons h t, c, n => by
    refine .cons c (t.keep f fun a ha => ?_)
    obtain ⟨D, hD, haD⟩ := List.mem_flatMap.mp ha
    obtain ⟨j, hj, ej⟩ := List.mem_iff_getElem.mp hD
    exact n (j + 1) D (by rw [List.getElem?_cons_succ, List.getElem?_eq_getElem hj, ej]) (Nat.succ_ne_zero _) a haD
  | _, _, i + 1, _, _, .cons h t, c, n => .cons (h.keep f (n 0 _ rfl (Nat.succ_ne_zero _).symm)) (t.set f c fun j D hj hne => n (j + 1) D (by simpa using hj) (by omega))
end
section
variable {K : Fg} {H H' : Hp} {A : MD} {P : Pl} {T : HPl} {X : Hs}
theorem MHAt.to (h : MHAt K H A P T X) {Y : Hs} (e1 : Y.md = X.md) (e2 : Y.cs = X.cs) (e3 : Y.turns = X.turns) (e4 : Y.holds = X.holds) (e5 : Y.bs = X.bs) (e6 : Y.ds = X.ds) (e7 : Y.ev = X.ev) (e8 : Y.rcs = X.rcs) (b1 : Y.B.shut = X.B.shut) (b2 : Y.B.wanted = X.B.wanted) (b3 : Y.B.high = X.B.high) (b4 : Y.B.raised = X.B.raised) (b5 : Y.B.time = X.B.time) (b6 : Y.B.spots = X.B.spots) (b7 : Y.B.rung = X.B.rung) (b8 : Y.B.results = X.B.results)
    (b9 : ∀ z n, getK Y.B.wanting z = some n → getK X.B.wanting z = some n) : MHAt K H A P T Y := by
  obtain ⟨L, l1, l2⟩ := h.la
  obtain ⟨G, g1, g2, g3, g4⟩ := h.bg
  exact ⟨h.nd, by rw [e2]; exact h.cs, by rw [b5]; exact h.m, by rw [e1]; exact h.mo, h.co, h.od, by rw [b1]; exact h.sh, by rw [b2]; exact h.wa, by rw [b3]; exact h.hi, by rw [b4]; exact h.fl, by rw [e7]; exact h.lg, by rw [b7]; exact h.rg, by rw [b8]; exact h.ft, h.ln, h.wk, h.rt, h.st, by rw [b6]; exact h.sp, by rw [e3]; exact h.tu, by rw [e4]; exact h.ho,
    ⟨L, l1, l2.nd, l2.nm, fun z n hz => l2.eq z n (b9 z n hz)⟩, ⟨G, g1, g2, g3, g4.nd, g4.nm, by rw [e7]; exact g4.ln, by rw [e8, b5]; exact g4.eq⟩, by rw [e5]; exact h.tm, by rw [e6]; exact h.dn⟩
theorem MHAt.keep (h : MHAt K H A P T X) {N : List Addr} (f : Fr N H H') (n : ∀ a ∈ A.own, a ∉ N) : MHAt K H' A P T X := by
  obtain ⟨ylg, elg, alg⟩ := h.lg
  obtain ⟨yrg, erg, arg⟩ := h.rg
  obtain ⟨yft, eft, aft⟩ := h.ft
  obtain ⟨L, l1, l2⟩ := h.la
  obtain ⟨G, g1, g2, g3, g4⟩ := h.bg
  have c : ∀ a ∈ A.cells, a ∉ N := fun a ha => n a (List.mem_append_left _ ha)
  have r : ∀ a ∈ A.bl ++ A.Ds.flatMap CA.own, a ∉ N := fun a ha => n a (List.mem_append_right _ ha)
  have k1 : ∀ a ∈ A.bl, a ∉ N := fun a ha => r a (List.mem_append_left _ ha)
  exact ⟨h.nd, h.cs.keep f fun a ha => r a (List.mem_append_right _ ha), f.at h.m (c _ (by simp [MD.cells])), f.at h.mo (c _ (by simp [MD.cells])), f.at h.co (c _ (by simp [MD.cells])), f.at h.od (c _ (by simp [MD.cells])), f.at h.sh (c _ (by simp [MD.cells])), f.at h.wa (c _ (by simp [MD.cells])), f.at h.hi (c _ (by simp [MD.cells])), f.at h.fl (c _ (by simp [MD.cells])), ⟨ylg, f.at elg (c _ (by simp [MD.cells])), alg.tk f.tk (tupds_map tupd_he _)⟩, ⟨yrg, f.at erg (c _ (by simp [MD.cells])), arg.tk f.tk (tupds_map tupd_rg _)⟩, ⟨yft, f.at eft (c _ (by simp [MD.cells])), aft.tk f.tk (tupds_map tupd_ft _)⟩, dictOf_fr h.ln f (c _ (by simp [MD.cells])) tupd_ln3, dictOf_fr h.wk f (c _ (by simp [MD.cells])) tupd_wk2, dictOf_fr h.rt f (c _ (by simp [MD.cells])) (tupd_route T), dictOf_fr h.st f (c _ (by simp [MD.cells])) tupd_sw, f.at h.sp (c _ (by simp [MD.cells])), f.at h.tu (c _ (by simp [MD.cells])), f.at h.ho (c _ (by simp [MD.cells])), ⟨L, f.at l1 (c _ (by simp [MD.cells])), l2.nd, l2.nm, l2.eq⟩, ⟨G, f.at g1 (c _ (by simp [MD.cells])), g2, g3.keep f k1, g4.nd, g4.nm, g4.ln, g4.eq⟩, f.at h.tm (c _ (by simp [MD.cells])), f.at h.dn (c _ (by simp [MD.cells]))⟩
theorem MHAt.same (h : MHAt K H A P T X) (s : Same H H') : MHAt K H' A P T X := h.keep (N := []) s.fr (by simp)
theorem mh_same (s : Same H H') (h : MHAt K H A P T X) : MHAt K H' A P T X := h.same s
theorem MHAt.ex (h : MHAt K H A P T X) : ∀ a ∈ A.own, H a ≠ none := by
  obtain ⟨ylg, elg, alg⟩ := h.lg
  obtain ⟨yrg, erg, arg⟩ := h.rg
  obtain ⟨yft, eft, aft⟩ := h.ft
  obtain ⟨L, l1, l2⟩ := h.la
  obtain ⟨G, g1, g2, g3, g4⟩ := h.bg
  obtain ⟨_, e1, _⟩ := h.ln.at_
  obtain ⟨_, e2, _⟩ := h.wk.at_
  obtain ⟨_, e3, _⟩ := h.rt.at_
  obtain ⟨_, e4, _⟩ := h.st.at_
  intro a ha
  rcases List.mem_append.mp ha with ha | ha
  · simp only [MD.cells, List.mem_cons, List.not_mem_nil, or_false] at ha
    rcases ha with rfl | rfl | rfl | rfl | rfl | rfl | rfl | rfl | rfl | rfl | rfl | rfl | rfl | rfl | rfl | rfl | rfl | rfl | rfl | rfl | rfl | rfl
    · simp [h.m]
    · simp [h.mo]
    · simp [h.co]
    · simp [h.od]
    · simp [h.sh]
    · simp [h.wa]
    · simp [h.hi]
    · simp [h.fl]
    · simp [elg]
    · simp [erg]
    · simp [eft]
    · simp [e1]
    · simp [e2]
    · simp [e3]
    · simp [e4]
    · simp [h.sp]
    · simp [h.tu]
    · simp [h.ho]
    · simp [l1]
    · simp [g1]
    · simp [h.tm]
    · simp [h.dn]
  · rcases List.mem_append.mp ha with ha | ha
    · exact g3.ex a ha
    · exact h.cs.ex a ha
end
end Z
set_option maxHeartbeats 1000000
namespace Z
open PySem PySem.Spec PyProof.Rows L2
open He (ga ma)
end Z
set_option maxHeartbeats 1000000
namespace Z
open PySem PySem.Spec PyProof.Rows L2
open He (ga ma)
theorem LOk.set {P : Pl} {B : Bd} {L : List (Str × Int)} (h : LOk P B L) {z : Str} {n : Int} (hz : z ∈ P.names) {B' : Bd} (e : ∀ y k, getK B'.wanting y = some k → if y = z then k = n else getK B.wanting y = some k) : LOk P B' (setK L z n) := by
  refine ⟨?_, fun x hx => ?_, fun y k hy => ?_⟩
  · rw [setK_keys]
    split
    · exact h.nd
    · rename_i hn
      rw [List.nodup_append]
      exact ⟨h.nd, by simp, fun a ha b hb e2 => by rw [List.mem_singleton.mp hb] at e2; rw [e2] at ha; exact hn ha⟩
  · have : x.1 ∈ (setK L z n).map (·.1) := List.mem_map_of_mem hx
    rw [setK_keys] at this
    split at this
    · obtain ⟨y, hy, e⟩ := List.mem_map.mp this
      rw [← e]
      exact h.nm y hy
    · rcases List.mem_append.mp this with k | k
      · obtain ⟨y, hy, e⟩ := List.mem_map.mp k
        rw [← e]
        exact h.nm y hy
      · rw [List.mem_singleton.mp k]
        exact hz
  · rw [getK_set]
    have := e y k hy
    split at this
    · rename_i e1
      rw [if_pos e1, this]
    · rename_i e1
      rw [if_neg e1]
      exact h.eq y k this
end Z
set_option maxHeartbeats 1000000
namespace Z
open PySem PySem.Spec PyProof.Rows L2
open He (ga ma)
def SameD (D' D : CA) : Prop := D'.c = D.c ∧ D'.fr = D.fr ∧ D'.jo = D.jo
theorem SameD.trans {A B C : CA} (h : SameD A B) (k : SameD B C) : SameD A C := ⟨h.1.trans k.1, h.2.1.trans k.2.1, h.2.2.trans k.2.2⟩
end Z
set_option maxHeartbeats 1000000
namespace Z
open PySem PySem.Spec PyProof.Rows L2
open He (ga ma)
end Z
set_option maxHeartbeats 1000000
namespace Z
open PySem PySem.Spec PyProof.Rows L2
open He (ga ma)
theorem getR_set {l : List (Str × List Int)} {z y : Str} {n : List Int} : getR (setR l z n) y = if y = z then some n else getR l y := by
  unfold setR
  split
  · rename_i hz
    induction l with
    | nil => simp at hz
    | cons x l ih =>
      unfold getR at ih ⊢
      rw [List.map_cons]
      by_cases e : x.1 = z
      · rw [if_pos e]
        by_cases k : y = z
        · rw [List.find?_cons_of_pos (by simpa using k.symm), if_pos k]
          rfl
        · rw [List.find?_cons_of_neg (by simpa using fun q : z = y => k q.symm), if_neg k, List.find?_cons_of_neg (by rw [e]; simpa using fun q : z = y => k q.symm)]
          by_cases hz2 : z ∈ l.map (·.1)
          · have := ih hz2
            rw [if_neg k] at this
            exact this
          · have hm : (l.map fun x => if x.1 = z then (z, n) else x) = l := by
              conv => rhs; rw [← List.map_id l]
              apply List.map_congr_left
              intro a ha
              rw [if_neg fun q => hz2 (by rw [← q]; exact List.mem_map_of_mem ha)]
              rfl
            rw [hm]
      · rw [if_neg e]
        by_cases k : x.1 = y
        · have hyz : ¬ y = z := fun q => e (k.trans q)
          rw [List.find?_cons_of_pos (by simpa using k), if_neg hyz, List.find?_cons_of_pos (by simpa using k)]
        · rw [List.find?_cons_of_neg (by simpa using k), List.find?_cons_of_neg (by simpa using k)]
          refine ih ?_
          rw [List.map_cons] at hz
          exact (List.mem_cons.mp hz).resolve_left fun q => e q.symm
  · rename_i hz
    unfold getR
    rw [List.find?_append]
    by_cases k : y = z
    · have : l.find? (fun x => decide (x.1 = y)) = none := List.find?_eq_none.mpr fun x hx => by
        have : ¬ x.1 = y := fun q => hz (by rw [← k, ← q]; exact List.mem_map_of_mem hx)
        simpa using this
      rw [this, if_pos k]
      simp [k]
    · rw [if_neg k]
      have : ¬ z = y := fun q => k q.symm
      simp [this]
theorem filter_later {l : List Int} {a b : Int} (h : a ≤ b) : (l.filter fun k => decide (k > a)).filter (fun k => decide (k > b)) = l.filter fun k => decide (k > b) := by
  rw [List.filter_filter]
  refine List.filter_congr fun x _ => ?_
  by_cases q : x > b
  · have : x > a := by omega
    simp [q, this]
  · simp [q]
theorem GOk.add {P : Pl} {T : HPl} {X : Hs} {G : List (Str × List Int)} (g : GOk P T X G) (tok : T.Ok P) {z : Str} (hz : z ∈ P.names) (hl : ∀ x ∈ G, x.2.length + 1 ≤ X.ev.length) (h1 : 1 ≤ X.ev.length) {R : List (Str × List Int)} (hR : R = match T.sms.find? fun s => s.ln == z with
  | none => X.rcs
  | some s => setR X.rcs z (s.ticks X)) : GOk P T { X with rcs := R } (setR G z ((getR G z).getD [] ++ [X.B.time])) := by
  refine ⟨setR_nd g.nd, fun x hx => ?_, fun x hx => ?_, fun s hs t ht => ?_⟩
  · rcases setR_mem hx with h | h
    · exact g.nm x h
    · rw [h]
      exact hz
  · rcases setR_mem hx with h | h
    · exact g.ln x h
    · rw [h]
      show ((getR G z).getD [] ++ [X.B.time]).length ≤ _
      rw [List.length_append, List.length_singleton]
      cases e : getR G z with
      | none => exact h1
      | some ns => exact hl _ (getR_mem e)
  · have ht : X.B.time ≤ t := ht
    have gq := g.eq s hs t ht
    show ((getR R s.ln).getD []).filter _ = _
    rw [getR_set]
    by_cases e : s.ln = z
    · have hf : T.sms.find? (fun s => s.ln == z) = some s := by
        have := find_nd (f := fun s : Sm => s.ln) tok.sn hs
        rw [e] at this
        exact this
      rw [hf] at hR
      dsimp only at hR
      rw [hR, getR_set, if_pos e, if_pos e]
      show ((s.ticks X).filter _) = (_ ++ [X.B.time]).filter _
      unfold Sm.ticks
      rw [List.filter_append, List.filter_append, filter_later (by omega), gq, e]
    · rw [if_neg e, ← gq, hR]
      cases T.sms.find? (fun s => s.ln == z) with
      | none => rfl
      | some s' =>
        dsimp only
        rw [getR_set, if_neg e]
theorem GOk.ticks {P : Pl} {T : HPl} {X : Hs} {G : List (Str × List Int)} (g : GOk P T X G) (tok : T.Ok P) {z : Str} {s : Sm} (hf : T.sms.find? (fun s => s.ln == z) = some s) : ((getR G z).getD [] ++ [X.B.time]).filter (fun k => decide (k > X.B.time - s.win)) = s.ticks X := by
  obtain ⟨hm, e⟩ := find_some hf
  have := g.eq s hm X.B.time (Int.le_refl _)
  rw [e] at this
  unfold Sm.ticks
  rw [List.filter_append, ← this, e]
  have := (tok.sb s hm).2.2.1
  have : X.B.time > X.B.time - s.win := by omega
  simp [this]
end Z
set_option maxHeartbeats 1000000
namespace Z
open PySem PySem.Spec PyProof.Rows L2
open He (ga ma)
def AtOk (P : Pl) (f : Frm) : Prop := ∃ s, (P.ln f.ln).st[f.st]? = some s ∧ ((s.1 = "run" ∧ ∃ n : Int, s.2 = .inl n ∧ (f.tk : Int) < n) ∨ (s.1 = "await" ∧ f.tk = 0))
structure TkC (P : Pl) (C : Cr) : Prop where
  rt : ∀ f ∈ C.frames, AtOk P f
  jb : ∀ j ∈ C.jobs, (j.2 : Int) < (P.wk j.1).tk
theorem passL_tk {P : Pl} (ok : P.Ok) {fs : List Frm} (hfs : ∀ f ∈ fs, AtOk P f) {rest : List (Str × Key)} : ∀ {f : Frm} {lim : Int} {jobs : List (Str × Nat)} {B : Bd}, f.ln ∈ P.names → f.tk = 0 → (∀ j ∈ jobs, (j.2 : Int) < (P.wk j.1).tk) →
    rest = (P.ln f.ln).st.drop f.st → TkC P (passL P fs f lim jobs B rest).1 := by
  induction rest with
  | nil =>
    intro f lim jobs B hn ht hj hr
    exact ⟨hfs, hj⟩
  | cons s r ih =>
    intro f lim jobs B hn ht hj hr
    have hg : (P.ln f.ln).st[f.st]? = some s := by
      rw [← List.head?_drop, ← hr]
      rfl
    have hdr : r = (P.ln f.ln).st.drop (f.st + 1) := by
      rw [← List.tail_drop, ← hr]
      rfl
    have sis := ok.step (ok.ln_mem hn).1 (List.mem_of_getElem? hg)
    unfold passL
    cases e : stops B s with
    | true =>
      rw [if_pos rfl]
      refine ⟨fun g hgm => ?_, hj⟩
      rcases List.mem_append.mp hgm with hgm | hgm
      · exact hfs g hgm
      · rw [List.mem_singleton.mp hgm]
        rcases stops_yes e with h | h
        · obtain ⟨n, h1, h2, _⟩ := sis.run_int h
          exact ⟨s, hg, .inl ⟨h, n, h1, by rw [ht]; omega⟩⟩
        · exact ⟨s, hg, .inr ⟨h, ht⟩⟩
    | false =>
      rw [if_neg (by simp)]
      refine ih (f := { f with st := f.st + 1 }) hn ht (fun j hj' => ?_) hdr
      unfold stepFx at hj'
      by_cases h1 : s.1 = "bar"
      · rw [if_pos h1] at hj'; exact hj j hj'
      · rw [if_neg h1] at hj'
        by_cases h2 : s.1 = "later"
        · rw [if_pos h2] at hj'
          obtain ⟨z, hz, hzw⟩ := sis.later_in h2
          unfold leave at hj'
          split at hj'
          · exact hj j hj'
          · rcases List.mem_append.mp hj' with hj' | hj'
            · exact hj j hj'
            · rw [List.mem_singleton.mp hj', hz]
              exact ok.wk_pos hzw
        · rw [if_neg h2] at hj'
          split at hj' <;> exact hj j hj'
theorem pass_tk {P : Pl} (ok : P.Ok) {fs : List Frm} {f : Frm} {lim : Int} {jobs : List (Str × Nat)} {B : Bd} (hfs : ∀ f ∈ fs, AtOk P f) (hn : f.ln ∈ P.names) (ht : f.tk = 0) (hj : ∀ j ∈ jobs, (j.2 : Int) < (P.wk j.1).tk) : TkC P (pass P fs f lim jobs B).1 := passL_tk ok hfs hn ht hj rfl
theorem AtOk.await {P : Pl} {B : Bd} {f : Frm} (h : AtOk P f) (hp : passing P B f = true) : f.tk = 0 := by
  obtain ⟨s, hs, hh⟩ := h
  rw [passing_eq hs] at hp
  simp only [Bool.and_eq_true, decide_eq_true_eq] at hp
  rcases hh with ⟨h1, _⟩ | ⟨_, h2⟩
  · rw [h1] at hp
    exact absurd hp.1 (by decide)
  · exact h2
theorem TkC.pass {P : Pl} (ok : P.Ok) {C : Cr} {B : Bd} {fs : List Frm} {f : Frm} (h : TkC P C) (c : COk P C B) (e : C.frames = fs ++ [f]) (hp : passing P B f = true) : TkC P (pass P fs f C.limit C.jobs B).1 :=
  pass_tk ok (fun g hg => h.rt g (by rw [e]; exact List.mem_append_left _ hg)) (c.fok.nm f (by rw [e]; simp)) ((h.rt f (by rw [e]; simp)).await hp) h.jb
theorem TkC.passAll {P : Pl} (ok : P.Ok) : ∀ (n : Nat) {C : Cr} {B : Bd} {es : List Ev}, COk P C B → TkC P C → TkC P (passAll P n C B es).1
  | 0, C, B, es, _, h => h
  | n + 1, C, B, es, c, h => by
    rcases List.eq_nil_or_concat C.frames with e | ⟨fs, f, e⟩
    · rw [passAll_nil e]
      exact h
    · rw [List.concat_eq_append] at e
      cases hp : passing P B f with
      | false =>
        rw [passAll_no e hp]
        exact h
      | true =>
        rw [passAll_yes e hp]
        exact TkC.passAll ok n (c.pass ok e) (h.pass ok c e hp)
theorem TkC.spend {P : Pl} (ok : P.Ok) {C : Cr} {B : Bd} {fs : List Frm} {f : Frm} (h : TkC P C) (c : COk P C B) (e : C.frames = fs ++ [f]) {n : Int} (hs : (P.ln f.ln).st[f.st]? = some (("run" : Str), (Sum.inl n : Key))) : TkC P (spend P fs f C.limit C.jobs B).1 := by
  have hso : stepOf P f = (("run" : Str), (Sum.inl n : Key)) := by unfold stepOf; rw [hs]; rfl
  have hfs : ∀ g ∈ fs, AtOk P g := fun g hg => h.rt g (by rw [e]; exact List.mem_append_left _ hg)
  by_cases q : (f.tk : Int) + 1 < n
  · rw [spend_lt hso q]
    refine ⟨fun g hg => ?_, h.jb⟩
    rcases List.mem_append.mp hg with hg | hg
    · exact hfs g hg
    · rw [List.mem_singleton.mp hg]
      exact ⟨_, hs, .inl ⟨rfl, n, rfl, by show ((f.tk + 1 : Nat) : Int) < n; omega⟩⟩
  · rw [spend_ge hso q]
    exact pass_tk ok hfs (c.fok.nm f (by rw [e]; simp)) rfl h.jb
theorem TkC.tickC {P : Pl} (ok : P.Ok) {C : Cr} {B : Bd} {es : List Ev} (c : COk P C B) (h : TkC P C) : TkC P (tickC P C B es).2.1 := by
  rcases List.eq_nil_or_concat C.frames with e | ⟨fs, f, e⟩
  · by_cases hj : C.jobs = []
    · rw [tickC_idle e hj]
      exact h
    · rw [tickC_work e hj]
      exact ⟨h.rt, (doWork_acc h.jb hj).2.2⟩
  · rw [List.concat_eq_append] at e
    obtain ⟨s, hs, hh⟩ := h.rt f (by rw [e]; simp)
    have hso : stepOf P f = s := by unfold stepOf; rw [hs]; rfl
    rcases hh with ⟨hw, n, hn, _⟩ | ⟨hw, _⟩
    · obtain ⟨w, k⟩ := s
      simp only at hw hn
      subst hw
      subst hn
      rw [tickC_call e (by rw [hso]; show ("run" : Str) ≠ "await"; decide)]
      exact h.spend ok c e hs
    · rw [tickC_spun e (by rw [hso]; exact hw)]
      exact h
theorem TkC.tick {P : Pl} (ok : P.Ok) {C : Cr} {B : Bd} (c : COk P C B) (h : TkC P C) : TkC P (C.tick P B).2.1 := TkC.tickC ok (COk.passAll ok _ c) (TkC.passAll ok _ c h)
end Z
set_option maxHeartbeats 1000000
namespace Z
open PySem PySem.Spec PyProof.Rows L2
open He (ga ma)
theorem Lsts.updI {H : Hp} {a : Addr} {x : List V} : ∀ {as : List Addr} {xss : List (List V)} {k : Nat}, Lsts H as xss → as.Nodup → as[k]? = some a → Lsts (upd H a (.lst x)) as (xss.set k x)
  | _, _, _, .nil, _, h => by simp at h
  | b :: as, _, 0, .cons h t, n, e => by
    have e : b = a := by simpa using e
    subst e
    have hn := List.nodup_cons.mp n
    refine .cons upd_same (t.keep (A := [b]) (Fr.upd (by simp) h rfl) fun c hc z => ?_)
    rw [List.mem_singleton.mp z] at hc
    exact hn.1 hc
  | b :: as, _, k + 1, .cons h t, n, e => by
    have hn := List.nodup_cons.mp n
    have e : as[k]? = some a := by simpa using e
    refine .cons ?_ (t.updI hn.2 e)
    rw [upd_ne (fun q => hn.1 (by rw [q]; exact List.mem_of_getElem? e))]
    exact h
theorem Lsts.eraseI {H : Hp} : ∀ {as : List Addr} {xss : List (List V)} {k : Nat}, Lsts H as xss → Lsts H (as.eraseIdx k) (xss.eraseIdx k)
  | _, _, _, .nil => .nil
  | _, _, 0, .cons _ t => t
  | _, _, k + 1, .cons h t => .cons h (t.eraseI (k := k))
theorem erase_mapI {α β : Type} (f : α → β) : ∀ (l : List α) (k : Nat), (l.eraseIdx k).map f = (l.map f).eraseIdx k
  | [], _ => rfl
  | _ :: _, 0 => rfl
  | x :: l, k + 1 => by
    show f x :: (l.eraseIdx k).map f = f x :: (l.map f).eraseIdx k
    rw [erase_mapI f l k]
section
variable {K : Fg} {H : Hp} {D : CA} {C : Cr}
theorem MCoreAt.setJ (h : MCoreAt K H D C) {k : Nat} {a : Addr} {j : Str × Nat} (ha : D.js[k]? = some a) : MCoreAt K (upd H a (.lst (jbV j))) D { C with jobs := C.jobs.set k j } := by
  have s := CA.sep h.nd
  obtain ⟨xs, _, h2⟩ := h.js.get ha
  have f : Fr [a] H (upd H a (.lst (jbV j))) := Fr.upd (by simp) h2 rfl
  have hm := List.mem_of_getElem? ha
  refine ⟨h.nd, f.at h.dk fun z => s.cjs ?_, f.at h.fr fun z => s.frjs ?_, f.at h.jo fun z => s.jojs ?_, h.fs.keep f fun c hc z => s.fj c hc ?_, ?_⟩
  · rw [List.mem_singleton.mp z]; exact hm
  · rw [List.mem_singleton.mp z]; exact hm
  · rw [List.mem_singleton.mp z]; exact hm
  · rw [List.mem_singleton.mp z]; exact hm
  · show Lsts _ D.js ((C.jobs.set k j).map jbV)
    rw [List.map_set]
    exact h.js.updI s.jsn ha
theorem MCoreAt.eraseJ (h : MCoreAt K H D C) {k : Nat} : MCoreAt K (upd H D.jo (.lst ((D.js.eraseIdx k).map V.ref))) { D with js := D.js.eraseIdx k } { C with jobs := C.jobs.eraseIdx k } := by
  have s := CA.sep h.nd
  have f : Fr [D.jo] H (upd H D.jo (.lst ((D.js.eraseIdx k).map V.ref))) := Fr.upd (by simp) h.jo rfl
  have hm : ∀ a ∈ D.js.eraseIdx k, a ∈ D.js := fun a ha => List.mem_of_mem_eraseIdx ha
  refine ⟨CA.Sep.own ⟨s.cfr, s.cjo, s.frjo, s.cfs, fun z => s.cjs (hm _ z), s.frfs, fun z => s.frjs (hm _ z), s.jofs, fun z => s.jojs (hm _ z), s.fsn, s.jsn.sublist (List.eraseIdx_sublist _ _), fun c hc z => s.fj c hc (hm _ z)⟩, f.at h.dk (by simp [s.cjo]), f.at h.fr (by simp [s.frjo]), upd_same, h.fs.keep f fun a ha z => s.jofs (by rw [← List.mem_singleton.mp z]; exact ha), ?_⟩
  show Lsts _ (D.js.eraseIdx k) ((C.jobs.eraseIdx k).map jbV)
  rw [erase_mapI (f := jbV)]
  exact (h.js.eraseI).keep f fun a ha z => s.jojs (by rw [← List.mem_singleton.mp z]; exact hm _ ha)
end
end Z
set_option maxHeartbeats 1000000
namespace Z
open PySem PySem.Spec PyProof.Rows L2
open He (ga ma)
end Z
set_option maxHeartbeats 1000000
namespace Z
open PySem PySem.Spec PyProof.Rows L2
open He (ga ma)
def Hs.Tk (P : Pl) (X : Hs) : Prop := ∀ C ∈ X.cs, TkC P C
section
variable {P : Pl} {T : HPl} {X : Hs}
theorem Hs.Tk.core (h : X.Tk P) {p : Nat} (hp : p < X.cs.length) : TkC P (X.core p) := h _ (List.mem_of_getElem? (core_get hp))
theorem Hs.Tk.cs (h : X.Tk P) {Y : Hs} (e : Y.cs = X.cs) : Y.Tk P := fun C hC => h C (by rw [← e]; exact hC)
theorem Hs.Tk.set (h : X.Tk P) {Y : Hs} {p : Nat} {C : Cr} (hC : TkC P C) (e : Y.cs = X.cs.set p C) : Y.Tk P := fun D hD => by
  rw [e] at hD
  rcases List.mem_or_eq_of_mem_set hD with k | k
  · exact h D k
  · rw [k]
    exact hC
theorem Hs.Tk.goes (h : X.Tk P) {p : Nat} {r : Cr × Bd × List Ev} (hr : TkC P r.1) : (X.goes p r).Tk P := h.set (p := p) hr (by
  unfold Hs.goes
  rw [noteAll_same.cs])
theorem Hs.Tk.place (h : X.Tk P) : (X.place P T).Tk P := h.cs place_parts.2.1
theorem Hs.Tk.take (ok : P.Ok) (o : X.Ok P T) (h : X.Tk P) {p : Nat} (hp : p < X.cs.length) : (X.take P T p).Tk P := by
  unfold Hs.take
  split
  · exact h
  · rename_i z l e
    split
    · obtain ⟨hz, _⟩ := readyL_mem (P := P) (X := X) (p := p) (z := z) (by rw [e]; simp)
      have hb : (X.begin P T p z).Tk P := h.cs begin_parts.2.1
      refine hb.goes ?_
      unfold Hs.beginR
      rw [begin_core]
      exact pass_tk ok (h.core hp).rt hz rfl (h.core hp).jb
    · exact h
theorem Hs.Tk.spend (ok : P.Ok) (o : X.Ok P T) (h : X.Tk P) {p : Nat} (hp : p < X.cs.length) : (X.spend P p).Tk P := h.goes (TkC.tick ok (o.cok hp) (h.core hp))
theorem TkC.move {C : Cr} (h : TkC P C) {j : Str × Nat} (hj : (j.2 : Int) < (P.wk j.1).tk) : TkC P { C with jobs := moveJ C.jobs j } := by
  refine ⟨h.rt, fun x hx => ?_⟩
  have hx : x ∈ moveJ C.jobs j := hx
  unfold moveJ leave at hx
  split at hx
  · rcases List.mem_append.mp hx with hx | hx
    · exact h.jb x hx
    · rw [List.mem_singleton.mp hx]
      exact hj
  · split at hx
    · exact h.jb x hx
    · rcases List.mem_append.mp hx with hx | hx
      · exact h.jb x hx
      · rw [List.mem_singleton.mp hx]
        show ((0 : Nat) : Int) < _
        dsimp only
        omega
theorem tkc_empty : TkC P ⟨[], 0, []⟩ := ⟨by simp, by simp⟩
theorem Hs.Tk.coreA (h : X.Tk P) (p : Nat) : TkC P (X.core p) := by
  by_cases hp : p < X.cs.length
  · exact h.core hp
  · unfold Hs.core
    rw [List.getElem?_eq_none (by omega)]
    exact tkc_empty
theorem Hs.Tk.move1 (h : X.Tk P) {g : Nat} {j : Str × Nat} (hj : (j.2 : Int) < (P.wk j.1).tk) : (X.move1 g j).Tk P := h.set (p := g) (C := { X.core g with jobs := moveJ (X.core g).jobs j }) ((h.coreA g).move hj) (by
  rw [move1_eq]
  rfl)
theorem Hs.Tk.moved (h : X.Tk P) {p : Nat} (ks : List Nat) : (X.moved P p ks).Tk P := by
  have hl : (X.leaves p).Tk P := h.cs rfl
  unfold Hs.moved
  generalize X.leaves p = Y at *
  have : ∀ (Z : Hs) (g : Nat), Z.Tk P → (ks.foldl (fun Y k => match (X.core p).jobs[k]? with
      | some j => Y.move1 g j
      | none => Y) Z).Tk P := by
    intro Z g
    induction ks generalizing Z with
    | nil => exact fun z => z
    | cons k ks ih =>
      intro z
      rw [List.foldl_cons]
      refine ih _ ?_
      split
      · rename_i j e
        exact z.move1 ((h.coreA p).jb j (List.mem_of_getElem? e))
      · exact z
  exact this _ _ hl
theorem Hs.Tk.off (h : X.Tk P) {p : Nat} : (X.off P p).Tk P := by
  rw [off_eq]
  exact (h.moved (p := p) (places P (X.core p).jobs)).set (p := p) (C := { X.core p with jobs := [] }) ⟨(h.coreA p).rt, by simp⟩ rfl
end
end Z
set_option maxHeartbeats 1000000
namespace Z
open PySem PySem.Spec PyProof.Rows L2
open He (ga ma)
section
variable {P : Pl} {T : HPl} {X : Hs}
def takesL (P : Pl) (T : HPl) (X : Hs) (l : List Nat) : Hs := l.foldl (fun X p => X.take P T p) X
def spendsL (P : Pl) (X : Hs) (l : List Nat) : Hs := l.foldl (fun X p => X.spend P p) X
theorem takes_filter {md : List Str} : ∀ (l : List Nat) {X : Hs}, X.md = md → l.foldl (fun X p => take1 P T X p) X = takesL P T X (l.filter fun p => decide (md[p]? = some ("on" : Str)))
  | [], X, _ => rfl
  | p :: l, X, h => by
    have on : X.on p = decide (md[p]? = some ("on" : Str)) := by unfold Hs.on; rw [h]
    rw [List.foldl_cons]
    by_cases q : md[p]? = some ("on" : Str)
    · rw [List.filter_cons_of_pos (by simpa using q)]
      show _ = takesL P T (X.take P T p) _
      rw [show take1 P T X p = X.take P T p from if_pos (by rw [on]; exact decide_eq_true q)]
      exact takes_filter l (take_md.trans h)
    · rw [List.filter_cons_of_neg (by simpa using q), show take1 P T X p = X from if_neg (by rw [on]; simpa using q)]
      exact takes_filter l h
theorem spends_filter {md : List Str} : ∀ (l : List Nat) {X : Hs}, X.md = md → l.foldl (fun X p => spend1 P X p) X = spendsL P X (l.filter fun p => !decide (md[p]? = some ("off" : Str)))
  | [], X, _ => rfl
  | p :: l, X, h => by
    rw [List.foldl_cons]
    by_cases q : md[p]? = some ("off" : Str)
    · rw [List.filter_cons_of_neg (by simpa using q), show spend1 P X p = X from if_pos (by rw [h]; exact q)]
      exact spends_filter l h
    · rw [List.filter_cons_of_pos (by simpa using q)]
      show _ = spendsL P (X.spend P p) _
      rw [show spend1 P X p = X.spend P p from if_neg (by rw [h]; exact q)]
      exact spends_filter l (spend_md.trans h)
theorem takesL_ok (ok : P.Ok) : ∀ (l : List Nat) {X : Hs}, X.Ok P T → X.Tk P → (∀ p ∈ l, p < T.n) → Trn P T X (takesL P T X l) (9 * l.length) (119 * l.length) ∧ (takesL P T X l).md = X.md ∧ (takesL P T X l).Tk P
  | [], X, h, t, _ => ⟨⟨h, Nat.le_refl _, Nat.le_refl _⟩, rfl, t⟩
  | p :: l, X, h, t, hl => by
    have hp : p < X.cs.length := by rw [h.cn]; exact hl p List.mem_cons_self
    have k1 := pot_take (P := P) (T := T) ok hp
    have k2 := ev_take (P := P) (T := T) ok h hp
    obtain ⟨⟨h1, h2, h3⟩, h4, h5⟩ := takesL_ok ok l (h.take ok hp) (t.take ok h hp) fun q hq => hl q (List.mem_cons_of_mem _ hq)
    refine ⟨⟨h1, ?_, ?_⟩, h4.trans take_md, h5⟩
    · rw [List.length_cons]
      show pot P (takesL P T (X.take P T p) l) ≤ _
      omega
    · rw [List.length_cons]
      show (takesL P T (X.take P T p) l).ev.length ≤ _
      omega
theorem spendsL_ok (ok : P.Ok) : ∀ (l : List Nat) {X : Hs}, X.Ok P T → X.Tk P → (∀ p ∈ l, p < T.n) → Trn P T X (spendsL P X l) 0 (109 * l.length) ∧ (spendsL P X l).md = X.md ∧ (spendsL P X l).Tk P
  | [], X, h, t, _ => ⟨⟨h, Nat.le_refl _, Nat.le_refl _⟩, rfl, t⟩
  | p :: l, X, h, t, hl => by
    have hp : p < X.cs.length := by rw [h.cn]; exact hl p List.mem_cons_self
    have k1 := pot_spend (P := P) (T := T) ok h hp
    have k2 := ev_spend (P := P) (T := T) ok h hp
    obtain ⟨⟨h1, h2, h3⟩, h4, h5⟩ := spendsL_ok ok l (h.spend ok hp) (t.spend ok h hp) fun q hq => hl q (List.mem_cons_of_mem _ hq)
    refine ⟨⟨h1, ?_, ?_⟩, h4.trans spend_md, h5⟩
    · show pot P (spendsL P (X.spend P p) l) ≤ _
      omega
    · rw [List.length_cons]
      show (spendsL P (X.spend P p) l).ev.length ≤ _
      omega
end
end Z
set_option maxHeartbeats 1000000
namespace Z
open PySem PySem.Spec PyProof.Rows L2
open He (ga ma)
section
variable {P : Pl} {T : HPl} {X : Hs}
def offC (P : Pl) (X : Hs) (p : Nat) : Hs := if (X.core p).frames = [] then X.off P p else X
def offsL (P : Pl) (X : Hs) (l : List Nat) : Hs := l.foldl (fun X p => offC P X p) X
theorem on_ne {p q : Nat} (hq : X.on q = true) (hl : X.md[p]? = some ("leaving" : Str)) : q ≠ p := fun e => by
  unfold Hs.on at hq
  rw [e, hl] at hq
  revert hq
  decide +kernel
theorem offC_ok (h : X.Ok P T) (t : X.Tk P) (hon : ∃ q, X.on q = true) {p : Nat} (hp : p < T.n) (hl : X.md[p]? = some ("leaving" : Str)) :
    (offC P X p).Ok P T ∧ pot P (offC P X p) ≤ pot P X ∧ (offC P X p).ev.length ≤ X.ev.length + (1 + pot P X) ∧ (∀ q, X.on q = true → (offC P X p).on q = true) ∧ (∀ q, q ≠ p → (offC P X p).md[q]? = X.md[q]?) ∧ (offC P X p).Tk P := by
  have hpc : p < X.cs.length := by rw [h.cn]; exact hp
  obtain ⟨q0, hq0⟩ := hon
  obtain ⟨g1, g2⟩ := goal_facts (p := p) h ⟨q0, hq0, on_ne hq0 hl⟩
  unfold offC
  split
  · have em := off_md h hpc g1 g2
    obtain ⟨k1, k2⟩ := pot_off (P := P) h hpc g1 g2
    have k3 := pot_core (P := P) hpc
    refine ⟨h.off hpc g1 g2, k1, by omega, fun q hq => ?_, fun q hq => ?_, t.off⟩
    · have hne := on_ne hq hl
      unfold Hs.on at hq ⊢
      rw [em, List.getElem?_set_ne (fun e => hne e.symm)]
      exact hq
    · rw [em, List.getElem?_set_ne (fun e => hq e.symm)]
  · exact ⟨h, Nat.le_refl _, by omega, fun _ h => h, fun _ _ => rfl, t⟩
theorem offsL_ok : ∀ (l : List Nat) {X : Hs}, X.Ok P T → X.Tk P → (∃ q, X.on q = true) → l.Nodup → (∀ p ∈ l, p < T.n ∧ X.md[p]? = some ("leaving" : Str)) →
    (offsL P X l).Ok P T ∧ pot P (offsL P X l) ≤ pot P X ∧ (offsL P X l).ev.length ≤ X.ev.length + l.length * (1 + pot P X) ∧ (∀ q, X.on q = true → (offsL P X l).on q = true) ∧ (∀ q, q ∉ l → (offsL P X l).md[q]? = X.md[q]?) ∧ (offsL P X l).Tk P
  | [], X, h, t, _, _, _ => ⟨h, Nat.le_refl _, by show X.ev.length ≤ _; omega, fun _ h => h, fun _ _ => rfl, t⟩
  | p :: l, X, h, t, hon, hn, hl => by
    have hn' := List.nodup_cons.mp hn
    obtain ⟨hp, hlp⟩ := hl p List.mem_cons_self
    obtain ⟨a1, a2, a3, a4, a5, a6⟩ := offC_ok h t hon hp hlp
    obtain ⟨b1, b2, b3, b4, b5, b6⟩ := offsL_ok l a1 a6 (hon.imp fun q hq => a4 q hq) hn'.2 fun q hq => by
      have hne : q ≠ p := fun e => hn'.1 (by rw [← e]; exact hq)
      exact ⟨(hl q (List.mem_cons_of_mem _ hq)).1, by rw [a5 q hne]; exact (hl q (List.mem_cons_of_mem _ hq)).2⟩
    have hm : l.length * (1 + pot P (offC P X p)) ≤ l.length * (1 + pot P X) := Nat.mul_le_mul_left _ (by omega)
    have hs : (l.length + 1) * (1 + pot P X) = l.length * (1 + pot P X) + (1 + pot P X) := Nat.succ_mul _ _
    refine ⟨b1, ?_, ?_, fun q hq => b4 q (a4 q hq), fun q hq => ?_, b6⟩
    · show pot P (offsL P (offC P X p) l) ≤ _
      omega
    · show (offsL P (offC P X p) l).ev.length ≤ _
      rw [List.length_cons]
      omega
    · show (offsL P (offC P X p) l).md[q]? = _
      rw [b5 q fun e => hq (List.mem_cons_of_mem _ e), a5 q fun e => hq (by rw [e]; exact List.mem_cons_self)]
theorem offs_filter {md : List Str} : ∀ (l : List Nat) {X : Hs}, X.Ok P T → X.Tk P → (∃ q, X.on q = true) → l.Nodup → (∀ p ∈ l, p < T.n) → (∀ p ∈ l, X.md[p]? = md[p]?) → l.foldl (fun X p => off1 P X p) X = offsL P X (l.filter fun p => decide (md[p]? = some ("leaving" : Str)))
  | [], X, _, _, _, _, _, _ => rfl
  | p :: l, X, h, t, hon, hn, hlt, hm => by
    have hn' := List.nodup_cons.mp hn
    have hp := hlt p List.mem_cons_self
    have hmp := hm p List.mem_cons_self
    rw [List.foldl_cons]
    by_cases q : md[p]? = some ("leaving" : Str)
    · rw [List.filter_cons_of_pos (by simpa using q)]
      have hl : X.md[p]? = some ("leaving" : Str) := hmp.trans q
      have e : off1 P X p = offC P X p := by
        unfold off1 offC
        by_cases k : (X.core p).frames = []
        · rw [if_pos ⟨hl, k⟩, if_pos k]
        · rw [if_neg (fun z => k z.2), if_neg k]
      obtain ⟨a1, a2, a3, a4, a5, a6⟩ := offC_ok h t hon hp hl
      show _ = offsL P (offC P X p) _
      rw [e]
      exact offs_filter l a1 a6 (hon.imp fun q hq => a4 q hq) hn'.2 (fun q hq => hlt q (List.mem_cons_of_mem _ hq)) fun q hq => by
        rw [a5 q fun e => hn'.1 (by rw [← e]; exact hq)]
        exact hm q (List.mem_cons_of_mem _ hq)
    · rw [List.filter_cons_of_neg (by simpa using q), show off1 P X p = X from if_neg (fun z => q (hmp.symm.trans z.1))]
      exact offs_filter l h t hon hn'.2 (fun q hq => hlt q (List.mem_cons_of_mem _ hq)) fun q hq => hm q (List.mem_cons_of_mem _ hq)
end
end Z
set_option maxHeartbeats 1000000
namespace Z
open PySem PySem.Spec PyProof.Rows L2
open He (ga ma)
section
variable {P : Pl} {T : HPl} {X : Hs}
theorem tick_tk (ok : P.Ok) (t : T.Ok P) (h : X.Ok P T) (k : X.Tk P) (hon : ∃ q, X.on q = true) : (X.tick P T).Tk P := by
  have h1 := h.place t
  have k1 : (X.place P T).Tk P := k.place
  obtain ⟨m1, _, _, _, _⟩ := place_parts (X := X) (P := P) (T := T)
  obtain ⟨q0, hq0⟩ := hon
  have on1 : (X.place P T).on q0 = true := by
    unfold Hs.on at hq0 ⊢
    rw [m1]
    exact hq0
  have flt : ∀ (c : Nat → Bool), ∀ p ∈ (List.range T.n).filter c, p < T.n := fun c p hp => List.mem_range.mp (List.mem_filter.mp hp).1
  rw [tick_eq]
  generalize X.place P T = X1 at *
  obtain ⟨⟨h2, _, _⟩, m2, k2⟩ := takesL_ok ok ((List.range T.n).filter fun p => decide (X1.md[p]? = some ("on" : Str))) h1 k1 (flt _)
  rw [← takes_filter (P := P) (T := T) (List.range T.n) (X := X1) rfl] at h2 m2 k2
  have on2 : (takesN P T X1 T.n).on q0 = true := by
    unfold Hs.on at on1 ⊢
    rw [show (takesN P T X1 T.n).md = X1.md from m2]
    exact on1
  have h2 : (takesN P T X1 T.n).Ok P T := h2
  have k2 : (takesN P T X1 T.n).Tk P := k2
  generalize takesN P T X1 T.n = X2 at *
  obtain ⟨⟨h3, _, _⟩, m3, k3⟩ := spendsL_ok ok ((List.range T.n).filter fun p => !decide (X2.md[p]? = some ("off" : Str))) h2 k2 (flt _)
  rw [← spends_filter (P := P) (List.range T.n) (X := X2) rfl] at h3 m3 k3
  have on3 : (spendsN P X2 T.n).on q0 = true := by
    unfold Hs.on at on2 ⊢
    rw [show (spendsN P X2 T.n).md = X2.md from m3]
    exact on2
  have h3 : (spendsN P X2 T.n).Ok P T := h3
  have k3 : (spendsN P X2 T.n).Tk P := k3
  generalize spendsN P X2 T.n = X3 at *
  have e4 : offsN P X3 T.n = _ := offs_filter (P := P) (T := T) (md := X3.md) (List.range T.n) h3 k3 ⟨q0, on3⟩ List.nodup_range (fun k hk => List.mem_range.mp hk) fun _ _ => rfl
  rw [e4]
  have := offsL_ok (T := T) ((List.range T.n).filter fun p => decide (X3.md[p]? = some ("leaving" : Str))) h3 k3 ⟨q0, on3⟩ (List.nodup_range.sublist List.filter_sublist) fun p hp => ⟨flt _ p hp, by simpa using (List.mem_filter.mp hp).2⟩
  exact this.2.2.2.2.2.cs rfl
theorem start_tk : (Hs.start P T).Tk P := fun C hC => by
  rw [show C = ⟨[], 0, []⟩ from List.eq_of_mem_replicate hC]
  exact tkc_empty
theorem start_on (t : T.Ok P) : ∃ q, (Hs.start P T).on q = true := by
  refine ⟨0, ?_⟩
  have := t.n1
  refine decide_eq_true ?_
  show (List.replicate T.n ("on" : Str))[0]? = some ("on" : Str)
  rw [List.getElem?_replicate, if_pos (by omega)]
theorem pot_start : pot P (Hs.start P T) = 0 := by
  unfold pot
  show 0 + ((List.replicate T.n (⟨[], 0, []⟩ : Cr)).map (potC P)).sum = 0
  rw [List.map_replicate, show potC P ⟨[], 0, []⟩ = 0 from rfl, Nat.zero_add]
  induction T.n with
  | zero => rfl
  | succ n ih => rw [List.replicate_succ, List.sum_cons, ih]
theorem start_ok (ok : P.Ok) : (Hs.start P T).Ok P T := by
  refine ⟨?_, List.length_replicate, List.length_replicate, fun m hm => ?_, fun C hC => ?_, fun C hC f hf => ?_, fun C hC f hf => ?_, ?_, fun x hx => ?_, ?_, ?_, .nil, fun x hx => ?_, fun x hx => ?_, .nil, fun x hx => ?_, .nil, fun x hx => ?_, fun x hx => ?_⟩
  · refine ⟨⟨.nil, by simp [Hs.start]⟩, ⟨.nil, by simp [Hs.start]⟩, ⟨.nil, by simp [Hs.start]⟩, ⟨.nil, by simp [Hs.start]⟩, ⟨.nil, by simp [Hs.start]⟩, ?_, .nil, by simp [Hs.start], .nil, by simp [Hs.start], by simp [Hs.start], rfl⟩
    show (P.order.map fun z => (z, (0 : Int))).map (·.1) = _
    rw [List.map_map]
    exact List.map_id _
  · rw [List.eq_of_mem_replicate hm]
    decide +kernel
  · rw [List.eq_of_mem_replicate hC]
    exact JOk.nil
  · rw [List.eq_of_mem_replicate hC] at hf
    cases hf
  · rw [List.eq_of_mem_replicate hC] at hf
    cases hf
  · have : lnsOf (Hs.start P T).cs = [] := by
      unfold lnsOf
      refine List.flatMap_eq_nil_iff.mpr fun C hC => ?_
      rw [show C = ⟨[], 0, []⟩ from List.eq_of_mem_replicate hC]
      rfl
    rw [this]
    exact List.Perm.refl _
  · cases hx
  · show (P.ls.map fun l => (l.nm, (0 : Int))).map (·.1) = _
    rw [List.map_map]
    rfl
  · show (P.ws.map fun l => (l.nm, (0 : Int))).map (·.1) = _
    rw [List.map_map]
    rfl
  all_goals cases hx
end
end Z
set_option maxHeartbeats 1000000
namespace Z
open PySem PySem.Spec PyProof.Rows L2
open He (ga ma)
def waitsD (B : Bd) (z : Str) : PyData := .tuple [.str "waits", optD (getK B.spots z)]
def fateD (B : Bd) (n : Nat) : PyData := match B.results[n]? with
  | none => .none
  | some .op => waitsD B ((B.rung.map (·.2)).getD n "")
  | some f => dFt f
end Z
set_option maxHeartbeats 1000000
namespace Z
open PySem PySem.Spec PyProof.Rows L2
open He (ga ma)
structure NewG (H H' : Hp) (G : List Addr) : Prop where
  nd : G.Nodup
  no : ∀ a ∈ G, H a = none
  ex : ∀ a ∈ G, H' a ≠ none
theorem Fr.ex {A : List Addr} {H H' : Hp} {a : Addr} (f : Fr A H H') (h : H a ≠ none) : H' a ≠ none := fun e => h (f.back e)
theorem NewG.app {A B : List Addr} {H H1 H2 : Hp} {G1 G2 : List Addr} (x : NewG H H1 G1) (y : NewG H1 H2 G2) (f : Fr A H H1) (g : Fr B H1 H2) : NewG H H2 (G1 ++ G2) := by
  refine ⟨List.nodup_append.mpr ⟨x.nd, y.nd, fun a ha b hb e => x.ex a ha (by rw [e]; exact y.no b hb)⟩, fun a ha => ?_, fun a ha => ?_⟩
  · rcases List.mem_append.mp ha with h | h
    · exact x.no a h
    · exact f.back (y.no a h)
  · rcases List.mem_append.mp ha with h | h
    · exact g.ex (x.ex a h)
    · exact y.ex a h
theorem NewG.one {H H' : Hp} {a : Addr} {o : HO} (h : H a = none) (e : H' a = some o) : NewG H H' [a] := ⟨by simp, by simpa using h, by simp [e]⟩
theorem NewG.nil {H H' : Hp} : NewG H H' [] := ⟨.nil, by simp, by simp⟩
theorem NewG.on {A : List Addr} {H H1 H2 : Hp} {G : List Addr} (x : NewG H H1 G) (f : Fr A H1 H2) : NewG H H2 G := ⟨x.nd, x.no, fun a ha => f.ex (x.ex a ha)⟩
theorem s_repT {H : Hp} {a : Addr} {Q : VK} {xs : List V} {k : Int} (h : H a = some (.lst xs)) (h0 : 0 ≤ k) (h1 : k ≤ 1000) (hl : xs.length ≤ 1000) (q : ∀ p, H p = none → Q (.ref p) (upd H p (.lst (List.replicate k.toNat xs).flatten))) : rRep (.ref a) (.int k) H Q := by
  have h2 : xs.length * k.toNat ≤ 1000 * 1000 := Nat.mul_le_mul hl (by omega)
  exact ⟨a, k, xs, rfl, rfl, h, by omega, by omega, by rw [sizeLine_eq]; omega, q⟩
theorem CoresAt.snoc {K : Fg} {H : Hp} {p : Addr} {D : CA} {C : Cr} (c : CoreAt K H p D C) : ∀ {Ds : List CA} {Cs : List Cr}, CoresAt K H p Ds Cs → CoresAt K H p (Ds ++ [D]) (Cs ++ [C])
  | _, _, .nil => .cons c .nil
  | _, _, .cons h t => .cons h (t.snoc c)
end Z
set_option maxHeartbeats 1000000
namespace Z
open PySem PySem.Spec PyProof.Rows L2
open He (ga ma)
end Z
namespace Z
open PySem PySem.Spec PyProof.Rows L2
open He (ga ma)
end Z
set_option maxHeartbeats 1000000
namespace Z
open PySem PySem.Spec PyProof.Rows L2
end Z
set_option maxHeartbeats 1000000
namespace Z
open PySem PySem.Spec PyProof.Rows L2
open He (ga ma)
structure Hs.Tell (P : Pl) (T : HPl) (X : Hs) : Prop where
  pok : P.Ok
  tok : T.Ok P
  ok : X.Ok P T
  pt : pot P X ≤ 14000
  ev : X.ev.length < 15990000
section
variable {P : Pl} {T : HPl} {X : Hs}
theorem Hs.Tell.n6 (h : X.Tell P T) : X.cs.length ≤ 6 := by rw [h.ok.cn]; exact h.tok.n6
theorem Hs.Tell.fr (h : X.Tell P T) : ∀ C ∈ X.cs, C.frames.length ≤ 1000 := fun C hC => by
  obtain ⟨i, hi, e⟩ := List.mem_iff_getElem.mp hC
  have := h.ok.frl h.pok hi
  have e2 : X.core i = C := by
    have := core_get hi
    rw [List.getElem?_eq_getElem hi, e] at this
    exact (Option.some.inj this).symm
  rw [e2] at this
  omega
theorem Hs.Tell.jn (h : X.Tell P T) {p : Nat} (hp : p < X.cs.length) : ∀ j ∈ (X.core p).jobs, j.1 ∈ P.wnames := (h.ok.jok _ (List.mem_of_getElem? (core_get hp))).sub
theorem Hs.Tell.rl (h : X.Tell P T) : X.B.rung.length ≤ 14000 := by
  have := h.pt
  unfold pot at this
  omega
end
end Z
set_option maxHeartbeats 1000000
namespace Z
open PySem PySem.Spec PyProof.Rows L2
open He (ga ma)
theorem lay_name {z : Str} (h : isName (.str z) = true) : (PyData.str z).canLay0 = true := by
  unfold isName at h
  have h1 := (Bool.and_eq_true_iff.mp h).1
  unfold isWord at h1
  have h2 := List.all_eq_true.mp (Bool.and_eq_true_iff.mp h1).2
  have h3 : ∀ x ∈ letters, decide (x < 1114112) = true := by decide +kernel
  show (z.cps.all fun x => decide (x < 1114112)) = true
  rw [← Array.all_toList]
  exact List.all_eq_true.mpr fun x hx => h3 x (of_decide_eq_true (h2 x hx))
def NmOk (P : Pl) (z : Str) : Prop := z ∈ P.names ∨ z ∈ P.wnames
theorem NmOk.lay {P : Pl} (ok : P.Ok) {z : Str} (h : NmOk P z) : (PyData.str z).canLay0 = true := by
  rcases h with h | h
  · have h2 := ok.lok _ (ok.ln_mem h).1
    rw [← (ok.ln_mem h).2]
    exact lay_name (Bool.and_eq_true_iff.mp (show (isName (.str (P.ln z).nm) && _) = true from h2)).1
  · have h2 := (ok.shw _ (ok.wk_mem h).1).2
    rw [(ok.wk_mem h).2] at h2
    exact h2
def hvW : List Str := ["place", "begin", "end", "done", "moved"]
theorem hvW_lay : ∀ w ∈ hvW, (PyData.str w).canLay0 = true := by decide +kernel
theorem modeL_lay : ∀ w ∈ modeL, (PyData.str w).canLay0 = true := by decide +kernel
def HevOk (P : Pl) : HEv → Prop
  | .four w _ z _ => w ∈ hvW ∧ NmOk P z
  | .held _ z => z ∈ P.names
  | .off _ _ => True
def EwOk (P : Pl) (es : List Ev) : Prop := ∀ e ∈ es, e.1 ∈ hvW ∧ NmOk P e.2
def RgOkN (P : Pl) (B : Bd) : Prop := ∀ x ∈ B.rung, x.2 ∈ P.names
structure Hs.Laid (P : Pl) (X : Hs) : Prop where
  ev : ∀ e ∈ X.ev, HevOk P e
  rg : RgOkN P X.B
section
variable {P : Pl} {T : HPl} {X : Hs}
theorem EwOk.nil : EwOk P [] := by intro e h; simp at h
theorem EwOk.app {a b : List Ev} (h : EwOk P a) (k : EwOk P b) : EwOk P (a ++ b) := fun e he => (List.mem_append.mp he).elim (h e) (k e)
theorem EwOk.one {w z : Str} (h : w ∈ hvW) (k : NmOk P z) : EwOk P [(w, z)] := fun e he => by
  rw [List.mem_singleton.mp he]
  exact ⟨h, k⟩
theorem RgOkN.ring {B : Bd} (h : RgOkN P B) {z : Str} (hz : z ∈ P.names) : RgOkN P (B.ring P z).1 := by
  have ad : ∀ f : Ft, ∀ x ∈ B.rung ++ [(B.time, z)], x.2 ∈ P.names := fun _ x hx => by
    rcases List.mem_append.mp hx with hx | hx
    · exact h x hx
    · rw [List.mem_singleton.mp hx]
      exact hz
  unfold Bd.ring
  split
  · split
    · exact ad .op
    · exact ad .op
  · split
    · exact h
    · exact h
theorem RgOkN.carry {B : Bd} (h : RgOkN P B) {s : Str × Key} (hs : CarryIs P s) : RgOkN P (B.carry P s).1 := by
  unfold Bd.carry
  split
  · rename_i e
    rcases hs with ⟨_, z, hz, hn⟩ | ⟨hw, _⟩
    · rw [hz]
      exact h.ring hn
    · rw [e] at hw
      exact absurd hw (by decide)
  · repeat (first | exact h | split)
theorem passL_laid (ok : P.Ok) {fs : List Frm} {rest : List (Str × Key)} : ∀ {f : Frm} {lim : Int} {jobs : List (Str × Nat)} {B : Bd}, f.ln ∈ P.names → (∀ s ∈ rest, StepIs P s) → RgOkN P B → EwOk P (passL P fs f lim jobs B rest).2.2 ∧ RgOkN P (passL P fs f lim jobs B rest).2.1 := by
  induction rest with
  | nil =>
    intro f lim jobs B hn _ hB
    exact ⟨EwOk.one (by decide) (.inl hn), hB⟩
  | cons s r ih =>
    intro f lim jobs B hn hs hB
    unfold passL
    cases e : stops B s with
    | true =>
      rw [if_pos rfl]
      exact ⟨EwOk.nil, hB⟩
    | false =>
      rw [if_neg (by simp)]
      refine ih (f := { f with st := f.st + 1 }) hn (fun x hx => hs x (List.mem_cons_of_mem _ hx)) ?_
      unfold stepFx
      have hr : s.1 ≠ "run" := fun k => by
        unfold stops at e
        rw [decide_eq_true k] at e
        cases e
      by_cases h1 : s.1 = "bar"
      · rw [if_pos h1]; exact hB
      · rw [if_neg h1]
        by_cases h2 : s.1 = "later"
        · rw [if_pos h2]; exact hB
        · rw [if_neg h2]
          by_cases h3 : s.1 = "await"
          · rw [if_neg (by simp [h3])]; exact hB
          · rw [if_pos h3]
            exact hB.carry ((hs s (by simp)).carry hr h1 h2 h3)
theorem pass_laid (ok : P.Ok) {fs : List Frm} {f : Frm} {lim : Int} {jobs : List (Str × Nat)} {B : Bd} (hn : f.ln ∈ P.names) (hB : RgOkN P B) : EwOk P (pass P fs f lim jobs B).2.2 ∧ RgOkN P (pass P fs f lim jobs B).2.1 :=
  passL_laid ok hn (fun s hs => ok.step (ok.ln_mem hn).1 (List.mem_of_mem_drop hs)) hB
theorem spend_laid (ok : P.Ok) {fs : List Frm} {f : Frm} {lim : Int} {jobs : List (Str × Nat)} {B : Bd} (hn : f.ln ∈ P.names) (hB : RgOkN P B) : EwOk P (spend P fs f lim jobs B).2.2 ∧ RgOkN P (spend P fs f lim jobs B).2.1 := by
  unfold spend
  split
  · exact ⟨EwOk.nil, hB⟩
  · exact pass_laid ok (f := { f with st := f.st + 1, tk := 0 }) hn hB
theorem passAll_laid (ok : P.Ok) : ∀ (n : Nat) {C : Cr} {B : Bd} {es : List Ev}, COk P C B → EwOk P es → RgOkN P B → EwOk P (passAll P n C B es).2.2 ∧ RgOkN P (passAll P n C B es).2.1
  | 0, _, _, _, _, h, k => ⟨h, k⟩
  | n + 1, C, B, es, h, k, hB => by
    rcases List.eq_nil_or_concat C.frames with e | ⟨fs, f, e⟩
    · rw [passAll_nil e]; exact ⟨k, hB⟩
    · rw [List.concat_eq_append] at e
      cases hp : passing P B f with
      | false => rw [passAll_no e hp]; exact ⟨k, hB⟩
      | true =>
        rw [passAll_yes e hp]
        obtain ⟨p1, p2⟩ := pass_laid ok (fs := fs) (lim := C.limit) (jobs := C.jobs) (h.fok.nm f (by rw [e]; simp)) hB
        exact passAll_laid ok n (h.pass ok e) (k.app p1) p2
theorem doWork_laid {jobs : List (Str × Nat)} (h : ∀ j ∈ jobs, j.1 ∈ P.wnames) : EwOk P (doWork P jobs).2 := by
  unfold doWork
  split
  · exact EwOk.nil
  · split
    · exact EwOk.nil
    · rename_i j hj
      split
      · exact EwOk.nil
      · exact EwOk.one (by decide) (.inr (h j (List.mem_of_getElem? hj)))
theorem tick_laid (ok : P.Ok) {C : Cr} {B : Bd} (h : COk P C B) (hB : RgOkN P B) : EwOk P (C.tick P B).2.2.2 ∧ RgOkN P (C.tick P B).2.2.1 := by
  have h1 := passAll_laid ok (left P C.frames) h EwOk.nil hB
  have h3 := COk.passAll ok (left P C.frames) (es := []) h
  unfold Cr.tick
  generalize passAll P (left P C.frames) C B [] = r at h1 h3
  rcases List.eq_nil_or_concat r.1.frames with e | ⟨fs, f, e⟩
  · by_cases hj : r.1.jobs = []
    · rw [tickC_idle e hj]; exact h1
    · rw [tickC_work e hj]; exact ⟨h1.1.app (doWork_laid h3.jok.sub), h1.2⟩
  · rw [List.concat_eq_append] at e
    by_cases hw : (stepOf P f).1 = "await"
    · rw [tickC_spun e hw]; exact h1
    · rw [tickC_call e hw]
      obtain ⟨k1, k2⟩ := spend_laid ok (fs := fs) (lim := r.1.limit) (jobs := r.1.jobs) (h3.fok.nm f (by rw [e]; simp)) h1.2
      exact ⟨h1.1.app k1, k2⟩
theorem Hs.Laid.add (h : X.Laid P) {Y : Hs} {e : HEv} (he : HevOk P e) (e1 : Y.ev = X.ev ++ [e]) (e2 : Y.B.rung = X.B.rung) : Y.Laid P := by
  refine ⟨fun x hx => ?_, fun x hx => h.rg x (by rw [← e2]; exact hx)⟩
  rw [e1] at hx
  rcases List.mem_append.mp hx with hx | hx
  · exact h.ev x hx
  · rw [List.mem_singleton.mp hx]
    exact he
theorem Hs.Laid.to (h : X.Laid P) {Y : Hs} (e1 : Y.ev = X.ev) (e2 : Y.B.rung = X.B.rung) : Y.Laid P := ⟨by rw [e1]; exact h.ev, fun x hx => h.rg x (by rw [← e2]; exact hx)⟩
theorem Hs.Laid.noteAll {p : Nat} {es : List Ev} (he : EwOk P es) : ∀ {X : Hs}, X.Laid P → (X.noteAll p es).Laid P := by
  induction es with
  | nil => exact fun h => h
  | cons e es ih =>
    intro X h
    rw [noteAll_cons]
    refine ih (fun x hx => he x (List.mem_cons_of_mem _ hx)) ?_
    have hk := he e (by simp)
    unfold Hs.noteE
    split
    · exact h.add (e := .four e.1 X.B.time e.2 p) hk rfl rfl
    · exact h.add (e := .four e.1 X.B.time e.2 p) hk rfl rfl
theorem Hs.Laid.place1 (h : X.Laid P) {z : Str} (hz : z ∈ P.names) : (X.place1 T z).Laid P := by
  unfold Hs.place1
  split
  · split
    · exact h
    · rename_i k _
      exact (h.to turned_ev.1 (by rw [turned_ev.2])).add (X := X.turned T z k) (Y := (X.turned T z k).putLine z ((T.way z).2.getD k 0)) (e := .four "place" (X.turned T z k).B.time z ((T.way z).2.getD k 0 : Nat)) ⟨by decide, .inl hz⟩ rfl rfl
  · exact h
theorem Hs.Laid.place (h : X.Laid P) : (X.place P T).Laid P := by
  unfold Hs.place
  have : ∀ z ∈ P.order, z ∈ P.names := fun z hz => P.order_perm.mem_iff.mp hz
  generalize P.order = l at this
  induction l generalizing X with
  | nil => exact h
  | cons z l ih =>
    rw [List.foldl_cons]
    exact ih (h.place1 (this z (by simp))) fun x hx => this x (List.mem_cons_of_mem _ hx)
theorem Hs.Laid.goes (h : X.Laid P) {p : Nat} {r : Cr × Bd × List Ev} (h1 : EwOk P r.2.2) (h2 : RgOkN P r.2.1) : (X.goes p r).Laid P := by
  unfold Hs.goes
  exact Hs.Laid.noteAll h1 (X := { X with cs := X.cs.set p r.1, B := r.2.1 }) ⟨h.ev, h2⟩
theorem Hs.Laid.count (h : X.Laid P) {z : Str} (hz : z ∈ P.names) : (X.count T z).Laid P := by
  unfold Hs.count
  split
  · exact h
  · split
    · exact h.add (e := .held X.B.time z) hz rfl rfl
    · exact h.to rfl rfl
theorem Hs.Laid.begin (h : X.Laid P) {p : Nat} {z : Str} (hz : z ∈ P.names) : (X.begin P T p z).Laid P := by
  have h1 : ({ X.note "begin" z p with bs := bump X.bs z } : Hs).Laid P := h.add (e := .four "begin" X.B.time z (p : Nat)) ⟨by decide, .inl hz⟩ rfl rfl
  have h2 := h1.count (T := T) hz
  exact ⟨h2.ev, h.rg⟩
theorem Hs.Laid.take (ok : P.Ok) (h : X.Laid P) {p : Nat} : (X.take P T p).Laid P := by
  unfold Hs.take
  split
  · exact h
  · rename_i z l e
    split
    · obtain ⟨hz, _⟩ := readyL_mem (P := P) (X := X) (p := p) (z := z) (by rw [e]; simp)
      have hb := h.begin (T := T) (p := p) hz
      have hB : RgOkN P ((X.begin P T p z).B.begun z) := hb.rg
      obtain ⟨k1, k2⟩ := pass_laid ok (fs := ((X.begin P T p z).core p).frames) (f := ⟨z, 0, 0, ((X.begin P T p z).core p).limit⟩) (lim := ((X.begin P T p z).core p).limit) (jobs := ((X.begin P T p z).core p).jobs) hz hB
      exact hb.goes k1 k2
    · exact h
theorem Hs.Laid.spend (ok : P.Ok) (o : X.Ok P T) (h : X.Laid P) {p : Nat} (hp : p < X.cs.length) : (X.spend P p).Laid P := by
  obtain ⟨k1, k2⟩ := tick_laid ok (o.cok hp) h.rg
  exact h.goes k1 k2
theorem Hs.Laid.off (h : X.Laid P) {p : Nat} (hj : ∀ j ∈ (X.core p).jobs, j.1 ∈ P.wnames) : (X.off P p).Laid P := by
  rw [off_eq]
  have hl : (X.leaves p).Laid P := h.add (e := .off X.B.time p) trivial rfl rfl
  have : ∀ (ks : List Nat) (g : Nat) (Z : Hs), Z.Laid P → (ks.foldl (fun Y k => match (X.core p).jobs[k]? with
      | some j => Y.move1 g j
      | none => Y) Z).Laid P := by
    intro ks g
    induction ks with
    | nil => exact fun Z z => z
    | cons k ks ih =>
      intro Z z
      rw [List.foldl_cons]
      refine ih _ ?_
      split
      · rename_i j e
        rw [move1_eq]
        exact z.add (e := .four "moved" Z.B.time j.1 (g : Nat)) ⟨by decide, .inr (hj j (List.mem_of_getElem? e))⟩ rfl rfl
      · exact z
  exact (this (places P (X.core p).jobs) ((X.leaves p).goal p) _ hl).to rfl rfl
theorem takesN_laid (ok : P.Ok) (h : X.Laid P) : ∀ n, (takesN P T X n).Laid P
  | 0 => h
  | n + 1 => by
    rw [takesN_succ]
    unfold take1
    split
    · exact (takesN_laid ok h n).take ok
    · exact takesN_laid ok h n
theorem spendsN_laid (ok : P.Ok) (o : X.Ok P T) (h : X.Laid P) : ∀ n, n ≤ T.n → (spendsN P X n).Laid P
  | 0, _ => h
  | n + 1, hn => by
    obtain ⟨⟨h1, _, _⟩, _⟩ := spendsN_ok ok o n (by omega)
    rw [spendsN_succ]
    unfold spend1
    split
    · exact spendsN_laid ok o h n (by omega)
    · exact (spendsN_laid ok o h n (by omega)).spend ok h1 (by rw [h1.cn]; omega)
theorem offsN_laid (o : X.Ok P T) (hon : ∃ q, X.on q = true) (h : X.Laid P) : ∀ n, n ≤ T.n → (offsN P X n).Laid P
  | 0, _ => h
  | n + 1, hn => by
    obtain ⟨h1, _, _, _⟩ := offsN_ok o hon n (by omega)
    have hp : n < (offsN P X n).cs.length := by rw [h1.cn]; omega
    rw [offsN_succ]
    unfold off1
    split
    · exact (offsN_laid o hon h n (by omega)).off (h1.jok _ (List.mem_of_getElem? (core_get hp))).sub
    · exact offsN_laid o hon h n (by omega)
theorem Hs.Laid.tick (ok : P.Ok) (t : T.Ok P) (o : X.Ok P T) (hon : ∃ q, X.on q = true) (h : X.Laid P) : (X.tick P T).Laid P := by
  have h1 := o.place t
  have k1 : (X.place P T).Laid P := h.place
  obtain ⟨m1, _, _, _, _⟩ := place_parts (X := X) (P := P) (T := T)
  obtain ⟨q0, hq0⟩ := hon
  obtain ⟨⟨h2, _, _⟩, m2⟩ := takesN_ok (T := T) ok h1 T.n (Nat.le_refl _)
  have k2 := takesN_laid (T := T) ok k1 T.n
  obtain ⟨⟨h3, _, _⟩, m3⟩ := spendsN_ok (T := T) ok h2 T.n (Nat.le_refl _)
  have k3 := spendsN_laid (T := T) ok h2 k2 T.n (Nat.le_refl _)
  have on3 : (spendsN P (takesN P T (X.place P T) T.n) T.n).on q0 = true := by
    unfold Hs.on at hq0 ⊢
    rw [m3, m2, m1]
    exact hq0
  rw [tick_eq]
  exact (offsN_laid h3 ⟨q0, on3⟩ k3 T.n (Nat.le_refl _)).to rfl rfl
theorem start_laid : (Hs.start P T).Laid P := ⟨fun e h => by simp [Hs.start] at h, fun e h => by simp [Hs.start] at h⟩
theorem Hs.Laid.ring (h : X.Laid P) {z : Str} (hz : z ∈ P.names) : ({ X with B := (X.B.ring P z).1 } : Hs).Laid P := ⟨h.ev, h.rg.ring hz⟩
end
end Z
set_option maxHeartbeats 1000000
namespace Z
open PySem PySem.Spec PyProof.Rows L2
open He (ga ma)
abbrev NK := List (Str × Str)
inductive FitSt (nk : NK) (ws : List Str) : Str × Key → Prop where
  | run {n : Int} (h1 : 1 ≤ n) (h2 : n ≤ 99) : FitSt nk ws ("run", .inl n)
  | bar {n : Int} (h1 : 0 ≤ n) (h2 : n ≤ 9) : FitSt nk ws ("bar", .inl n)
  | flag {w : Str} {n : Int} (hw : w ∈ (["set", "clear", "await"] : List Str)) (h1 : 0 ≤ n) (h2 : n ≤ 7) : FitSt nk ws (w, .inl n)
  | line {w : Str} {z : Str} (hw : w ∈ (["ring", "mask", "unmask"] : List Str)) (hz : z ∈ nk.map (·.1)) : FitSt nk ws (w, .inr z)
  | quiet {z : Str} (hz : (z, ("level" : Str)) ∈ nk) : FitSt nk ws ("quiet", .inr z)
  | later {z : Str} (hz : z ∈ ws) : FitSt nk ws ("later", .inr z)
theorem RowAt.kept {K : Fg} {H H1 H2 : Hp} {r sc : Addr} {ns : List Int} {N : List Addr} (h0 : RowAt K H r sc ns) (h : RowAt K H1 r sc ns) (f : Fr N H1 H2) (hN : ∀ a ∈ N, H a = none) : RowAt K H2 r sc ns := by
  refine h.keep f (fun z => h0.ex (hN _ z)) ?_
  rcases h0.scr with (k | ⟨o, k⟩) | k
  · exact .inl fun z => by rw [hN _ z] at k; cases k
  · exact .inl fun z => by rw [hN _ z] at k; cases k
  · exact .inr fun _ => .inr k
section
variable {K : Fg} {σ : L2.St} {H1 : Hp} {Q : VK} {g : TG} {tt : TT} {te : TE} {vs : List Nat} {a r sc : Addr} {ns : List Int} {zs : List V} {α : Type}
theorem lcL_row (e : H1 a = some (.lst zs)) (ar : a ≠ r) (row1 : RowAt K H1 r sc ns) (hl : zs.length ≤ 40000) (R : Nat → α → Prop) (f : α → PyData) (hf : ∀ x, tupd (f x) = true)
    (hs : ∀ (i : Nat) (x : V) (Ha : Hp) (Yes : VK) (No : Hp → Prop), zs[i]? = some x → Fr [r] H1 Ha → RowAt K Ha r sc ns → (∀ y H4 b, Fr [r] Ha H4 → RowAt K H4 r sc ns → R i b → Dp K H4 y (f b) → Yes y H4) →
      g x (wipe σ vs) Ha fun σ2 H2 => wipe σ2 vs = wipe σ vs ∧ tt σ2 H2 fun b H3 => if b = true then te σ2 H3 Yes else No H3)
    (hd : ∀ D H' ys (l : List α), H1 D = none → Fr [r] H1 H' → RowAt K H' r sc ns → H' D = some (.lst ys) → l.length = zs.length → (∀ k x, l[k]? = some x → R k x) → DpAll K H' ys (l.map f) → Q (.ref D) H') : LcL K g tt te vs σ Q (.ref a) H1 := by
  refine ⟨a, rfl, ⟨_, SqL.of e⟩, fun D hD => lc_rel (K := K) (walk_list (xs := zs)) R f [r] (fun Ha => RowAt K Ha r sc ns) hD hl hf (fun b hb => by rw [List.mem_singleton.mp hb]; exact row1.ex) row1 (fun Ha Hb fr h => row1.kept h fr (by simpa using hD)) (fun Ha Hb s h => h.same s) (fun Ha fr h => fr.sqL (SqL.of e) (by simp [ar])) (fun i Ha x Hb y => by rw [y.1]; exact Same.refl _) (fun i x Ha Hb Yes No hi fa rowa y yes => ?_) (fun H4 ys l f4 row4 e4 hl4 hr4 a4 => hd D H4 ys l hD f4 row4 e4 hl4 hr4 a4)⟩
  obtain ⟨rfl, hx⟩ := y
  exact hs i x Hb Yes No hx fa rowa yes
theorem lcR_row {n : Nat} (row1 : RowAt K H1 r sc ns) (hl : n ≤ 40000) (R : Nat → α → Prop) (f : α → PyData) (hf : ∀ x, tupd (f x) = true)
    (hs : ∀ (i : Nat) (Ha : Hp) (Yes : VK) (No : Hp → Prop), i < n → Fr [r] H1 Ha → RowAt K Ha r sc ns → (∀ y H4 b, Fr [r] Ha H4 → RowAt K H4 r sc ns → R i b → Dp K H4 y (f b) → Yes y H4) →
      g (.int i) (wipe σ vs) Ha fun σ2 H2 => wipe σ2 vs = wipe σ vs ∧ tt σ2 H2 fun b H3 => if b = true then te σ2 H3 Yes else No H3)
    (hd : ∀ D H' ys (l : List α), H1 D = none → Fr [r] H1 H' → RowAt K H' r sc ns → H' D = some (.lst ys) → l.length = n → (∀ k x, l[k]? = some x → R k x) → DpAll K H' ys (l.map f) → Q (.ref D) H') : LcQ (Itr 0 n) g tt te vs σ Q H1 := by
  refine fun D hD => lc_rel (K := K) (walk_range (lo := 0) (n := n)) R f [r] (fun Ha => RowAt K Ha r sc ns) hD hl hf (fun b hb => by rw [List.mem_singleton.mp hb]; exact row1.ex) row1 (fun Ha Hb fr h => row1.kept h fr (by simpa using hD)) (fun Ha Hb s h => h.same s) (fun _ _ _ => True.intro) (fun i Ha x Hb y => by rw [y.1]; exact Same.refl _) (fun i x Ha Hb Yes No hi fa rowa y yes => ?_) (fun H4 ys l f4 row4 e4 hl4 hr4 a4 => hd D H4 ys l hD f4 row4 e4 hl4 hr4 a4)
  obtain ⟨rfl, rfl⟩ := y
  have := hs i Hb Yes No hi fa rowa yes
  dsimp only
  rw [Int.zero_add]
  exact this
end
theorem rel_all {α : Type} {R : Nat → α → Prop} {l : List α} (h : ∀ k x, l[k]? = some x → R k x) : ∀ x ∈ l, ∃ k, R k x := fun x hx => by
  obtain ⟨i, hi⟩ := List.mem_iff_getElem?.mp hx
  exact ⟨i, h i x hi⟩
theorem row_new {K : Fg} {H H1 : Hp} {r sc : Addr} {ns : List Int} (hsc : SqL K H sc (ns.map V.int)) (hr : H r = none) (s1 : Same H H1) (e1 : H1 r = some (.lst [.ref sc, .int 0, .int 0, .int 0])) : RowAt K H1 r sc ns := by
  have hS0 : H sc ≠ none ∨ ∀ H, SqL K H sc (ns.map V.int) := by
    rcases hsc with (h | ⟨o, h⟩) | h
    · exact .inl (by rw [h]; simp)
    · exact .inl (by rw [h]; simp)
    · exact .inr fun H => .inr h
  exact ⟨⟨0, 0, 0, e1, by omega, by omega, by omega⟩, s1.seq hsc, hS0.imp (fun h e => h (by rw [e]; exact hr)) id⟩
theorem tds_st (l : List (Str × Key)) : tupds (l.map dSt) = true := tupds_map tupd_dSt l
structure StAt (K : Fg) (H1 H : Hp) (r l sc : Addr) (ns : List Int) (nk : NK) (ws : List Str) (i : Nat) : Prop where
  fr : Fr [r, l] H1 H
  row : RowAt K H r sc ns
  at_ : ∃ (st : List (Str × Key)) (xs : List V), H l = some (.lst xs) ∧ DpAll K H xs (st.map dSt) ∧ st.length = i ∧ ∀ s ∈ st, FitSt nk ws s
theorem StAt.push {K : Fg} {H0 H1 H H2 : Hp} {r l sc : Addr} {ns : List Int} {nk : NK} {ws : List Str} {i : Nat} {v : V} {s : Str × Key} (h : StAt K H1 H r l sc ns nk ws i) (h0 : RowAt K H0 r sc ns) (l0 : H0 l = none) (lr : l ≠ r) (f : Fr [r] H H2) (row : RowAt K H2 r sc ns) (dv : Dp K H2 v (dSt s)) (fit : FitSt nk ws s) :
    ∃ xs, H2 l = some (.lst xs) ∧ xs.length = i ∧ StAt K H1 (upd H2 l (.lst (xs ++ [v]))) r l sc ns nk ws (i + 1) := by
  obtain ⟨st, xs, e, d, hl, hf⟩ := h.at_
  have e2 := f.at e (by simp [lr])
  have fD : Fr [l] H2 (upd H2 l (.lst (xs ++ [v]))) := Fr.upd (by simp) e2 rfl
  refine ⟨xs, e2, by rw [d.len, List.length_map, hl], (h.fr.trans (f.mono (by simp))).trans (fD.mono (by simp)), h0.kept row fD (by simp [l0]), st ++ [s], _, upd_same, ?_, by rw [List.length_append, hl]; rfl, fun x hx => ?_⟩
  · rw [List.map_append]
    exact ((d.tk f.tk (tds_st st)).tk fD.tk (tds_st st)).app (.cons (dv.tk fD.tk (tupd_dSt s)) .nil)
  · rcases List.mem_append.mp hx with hx | hx
    · exact hf x hx
    · rw [List.mem_singleton.mp hx]
      exact fit
end Z
set_option maxHeartbeats 1000000
namespace Z
open PySem PySem.Spec PyProof.Rows L2
open He (ga ma)
end Z
set_option maxHeartbeats 1000000
namespace Z
open PySem PySem.Spec PyProof.Rows L2
open He (ga ma)
theorem MCores.snoc {K : Fg} {H : Hp} {D : CA} {C : Cr} (c : MCoreAt K H D C) : ∀ {Ds : List CA} {Cs : List Cr}, MCores K H Ds Cs → MCores K H (Ds ++ [D]) (Cs ++ [C])
  | _, _, .nil => .cons c .nil
  | _, _, .cons h t => .cons h (t.snoc c)
def wordsK (kv : List (Key × V)) (ws : List Str) (as : List Addr) : List (Key × V) := (ws.zip as).foldl (fun m x => putK m (.inr x.1) (.ref x.2)) kv
theorem words_len (kv : List (Key × V)) : ∀ (ws : List Str) (as : List Addr), (wordsK kv ws as).length ≤ kv.length + ws.length := by
  intro ws
  induction ws generalizing kv with
  | nil => intro as; exact Nat.le_refl _
  | cons w ws ih =>
    intro as
    cases as with
    | nil => exact Nat.le_add_right _ _
    | cons a as =>
      have h1 := ih (putK kv (.inr w) (.ref a)) as
      have h2 := length_putK kv (Sum.inr w : Key) (.ref a)
      show (wordsK (putK kv (.inr w) (.ref a)) ws as).length ≤ _
      rw [List.length_cons]
      omega
structure WordsAt (H0 H : Hp) (h : Addr) (kv : List (Key × V)) (ws : List Str) (o : HO) (i : Nat) : Prop where
  fr : Fr [h] H0 H
  at_ : ∃ as : List Addr, as.length = i ∧ NewG H0 H as ∧ H h = some (.dK (wordsK kv (ws.take i) as)) ∧ ∀ a ∈ as, H a = some o
theorem WordsAt.next {H0 H H2 : Hp} {h a : Addr} {kv : List (Key × V)} {ws : List Str} {o : HO} {i : Nat} {w : Str} (x : WordsAt H0 H h kv ws o i) (h0 : H0 h ≠ none) (hw : ws[i]? = some w) (hl : kv.length + ws.length < 60) (ha : H a = none) (s : Same H H2) (e : H2 a = some o) :
    ∃ kvs, H2 h = some (.dK kvs) ∧ kvs.length < sizeLine ∧ WordsAt H0 (upd H2 h (.dK (putK kvs (.inr w) (.ref a)))) h kv ws o (i + 1) := by
  obtain ⟨as, l1, ng, eh, ea⟩ := x.at_
  have wl := words_len kv (ws.take i) as
  have e2 := s _ _ eh
  have f3 : Fr [h] H2 (upd H2 h (.dK (putK (wordsK kv (ws.take i) as) (.inr w) (.ref a)))) := Fr.upd (by simp) e2 rfl
  have nh : ∀ {b : Addr}, H0 b = none → b ∉ [h] := fun hb z => h0 (by rw [← List.mem_singleton.mp z]; exact hb)
  refine ⟨_, e2, by rw [sizeLine_eq]; rw [List.length_take] at wl; omega, (x.fr.trans (s.fr : Fr [h] H H2)).trans f3, as ++ [a], by rw [List.length_append, l1]; rfl, ?_, ?_, fun b hb => ?_⟩
  · exact ng.app (H2 := upd H2 h _) (NewG.one ha (f3.at e (nh (x.fr.back ha)))) x.fr ((s.fr : Fr [h] H H2).trans f3)
  · have hi : i < ws.length := (List.getElem?_eq_some_iff.mp hw).1
    rw [upd_same, List.take_add_one, hw]
    unfold wordsK
    rw [show (some w).toList = [w] from rfl, List.zip_append (by rw [List.length_take, l1]; omega), List.foldl_append]
    rfl
  · rcases List.mem_append.mp hb with hb | hb
    · exact f3.at (s _ _ (ea b hb)) (nh (ng.no b hb))
    · rw [List.mem_singleton.mp hb]
      exact f3.at e (nh (x.fr.back ha))
structure DicN {α : Type} (K : Fg) (H : Hp) (rd : Addr) (nm : α → Str) (d : α → PyData) (l : List α) (m : Nat) : Prop where
  at_ : ∃ kvs, H rd = some (.dK kvs) ∧ kvs.length ≤ m ∧ (∀ z, (valV kvs (.inr z)).isSome = decide (z ∈ l.map nm)) ∧ ∀ x ∈ l, ∃ v, valV kvs (.inr (nm x)) = some v ∧ Dp K H v (d x)
section
variable {α : Type} {K : Fg} {H H' : Hp} {rd : Addr} {nm : α → Str} {d : α → PyData} {l : List α} {m : Nat}
theorem DicN.dict (h : DicN K H rd nm d l m) : DictOf K H rd nm d l := by
  obtain ⟨kvs, h1, _, h2, h3⟩ := h.at_
  exact ⟨kvs, h1, h2, h3⟩
theorem DicN.fr {N : List Addr} (h : DicN K H rd nm d l m) (f : Fr N H H') (n : rd ∉ N) (hd : ∀ x, tupd (d x) = true) : DicN K H' rd nm d l m := by
  obtain ⟨kvs, h1, hm, h2, h3⟩ := h.at_
  refine ⟨kvs, f.at h1 n, hm, h2, fun x hx => ?_⟩
  obtain ⟨v, h4, h5⟩ := h3 x hx
  exact ⟨v, h4, h5.tk f.tk (hd x)⟩
theorem DicN.same (h : DicN K H rd nm d l m) (s : Same H H') (hd : ∀ x, tupd (d x) = true) : DicN K H' rd nm d l m := h.fr (N := []) s.fr (by simp) hd
theorem DicN.put (h : DicN K H rd nm d l m) {x : α} {v : V} (hx : nm x ∉ l.map nm) (hv : Dp K H v (d x)) (hd : ∀ x, tupd (d x) = true) (hm : m < 60) :
    ∃ kvs, H rd = some (.dK kvs) ∧ kvs.length < sizeLine ∧ DicN K (upd H rd (.dK (putK kvs (.inr (nm x)) v))) rd nm d (l ++ [x]) (m + 1) := by
  obtain ⟨kvs, h1, hl, h2, h3⟩ := h.at_
  have f : Fr [rd] H (upd H rd (.dK (putK kvs (.inr (nm x)) v))) := Fr.upd (by simp) h1 rfl
  refine ⟨kvs, h1, by rw [sizeLine_eq]; omega, _, upd_same, Nat.le_trans (length_putK _ _ _) (by omega), fun z => ?_, fun y hy => ?_⟩
  · rw [valV_put, List.map_append]
    by_cases e : z = nm x
    · rw [if_pos (by rw [e]), decide_eq_true (by simp [e])]
      rfl
    · rw [if_neg (fun q => e (Sum.inr.inj q)), h2 z]
      simp [e]
  · rcases List.mem_append.mp hy with hy | hy
    · obtain ⟨u, h4, h5⟩ := h3 y hy
      refine ⟨u, ?_, h5.tk f.tk (hd y)⟩
      rw [valV_put, if_neg (fun q => hx (by rw [← Sum.inr.inj q]; exact List.mem_map_of_mem hy)), h4]
    · rw [List.mem_singleton.mp hy]
      exact ⟨v, by rw [valV_put, if_pos rfl], hv.tk f.tk (hd x)⟩
theorem DicN.to {d2 : α → PyData} (h : DicN K H rd nm d l m) (e : ∀ x ∈ l, d2 x = d x) : DicN K H rd nm d2 l m := by
  obtain ⟨kvs, h1, hl, h2, h3⟩ := h.at_
  refine ⟨kvs, h1, hl, h2, fun x hx => ?_⟩
  obtain ⟨v, h4, h5⟩ := h3 x hx
  exact ⟨v, h4, by rw [e x hx]; exact h5⟩
end
end Z
set_option maxHeartbeats 1000000
namespace Z
open PySem PySem.Spec PyProof.Rows L2
open He (ga ma)
section
variable {P : Pl} {T : HPl} {X : Hs}
theorem ring_keep {B : Bd} {z : Str} : (B.ring P z).1.taken = B.taken ∧ (B.ring P z).1.spots = B.spots ∧ (B.ring P z).1.rung.length ≤ B.rung.length + 1 := by
  unfold Bd.ring
  repeat (first | exact ⟨rfl, rfl, by simp [Bd.tell]⟩ | exact ⟨rfl, rfl, Nat.le_succ _⟩ | split)
structure Hs.Fits (P : Pl) (T : HPl) (X : Hs) (k j : Nat) : Prop where
  ok : X.Ok P T
  tk : X.Tk P
  on : ∃ q, X.on q = true
  la : X.Laid P
  pt : pot P X ≤ 70 * k + j
  ev : X.ev.length ≤ 90000 * k + j
theorem Hs.Fits.start (ok : P.Ok) (t : T.Ok P) : (Hs.start P T).Fits P T 0 0 := ⟨start_ok ok, start_tk, start_on t, start_laid, by rw [pot_start]; exact Nat.zero_le _, Nat.zero_le _⟩
theorem Hs.Fits.tick {k j : Nat} (ok : P.Ok) (t : T.Ok P) (h : X.Fits P T k j) (hk : k < 200) (hj : j ≤ 16) : (X.tick P T).Fits P T (k + 1) 0 := by
  obtain ⟨h1, h2, h3, h4⟩ := tick_ok ok t h.ok h.on
  have h5 := h.pt
  have h6 := h.ev
  obtain ⟨q, hq⟩ := h.on
  exact ⟨h1, tick_tk ok t h.ok h.tk h.on, ⟨q, h4 q hq⟩, h.la.tick ok t h.ok h.on, by omega, by omega⟩
theorem Hs.Fits.pot9 {k j : Nat} (h : X.Fits P T k j) (hk : k < 170) (hj : j ≤ 16) : pot P X ≤ 13900 ∧ X.ev.length < 15600000 ∧ X.B.rung.length < 4000000 := by
  have h5 := h.pt
  have h6 := h.ev
  unfold pot at h5 ⊢
  exact ⟨by omega, by omega, by omega⟩
theorem Hs.Fits.tell {k j : Nat} (ok : P.Ok) (t : T.Ok P) (h : X.Fits P T k j) (hk : k < 170) (hj : j ≤ 16) : X.Tell P T := by
  obtain ⟨h1, h2, _⟩ := h.pot9 hk hj
  exact ⟨ok, t, h.ok, by omega, by omega⟩
end
def plainO : HO → Bool
  | .tbl _ => false
  | .ext _ => false
  | _ => true
def NoX (H : Hp) (a : Addr) : Prop := ∀ o, H a = some o → plainO o = true
theorem NoX.of {H : Hp} {a : Addr} {o : HO} (h : H a = some o) (k : plainO o = true) : NoX H a := fun o2 h2 => by
  rw [h] at h2
  cases h2
  exact k
theorem NoX.none {H : Hp} {a : Addr} (h : H a = none) : NoX H a := fun o2 h2 => by
  rw [h] at h2
  cases h2
theorem tabs_keep {H H' : Hp} {N : List Addr} {t : Addr} {q : Str} (h : LamX.TabS H t q) (f : Fr N H H') (n : ∀ a ∈ N, NoX H a) : LamX.TabS H' t q := by
  obtain ⟨ps, e, h2, h3⟩ := h
  refine ⟨ps, f.at e fun z => ?_, h2, fun pos cv k => ?_⟩
  · exact absurd (n _ z _ e) (by simp [plainO])
  · obtain ⟨c, e1, e2⟩ := h3 pos cv k
    refine ⟨c, e1, f.at e2 fun z => ?_⟩
    exact absurd (n _ z _ e2) (by simp [plainO, LamX.CodeO])
theorem RowAt.nox {K : Fg} {H : Hp} {r sc : Addr} {ns : List Int} (h : RowAt K H r sc ns) : NoX H r := by
  obtain ⟨_, _, _, e, _⟩ := h.row
  exact NoX.of e rfl
theorem Lsts.nox {H : Hp} : ∀ {as : List Addr} {xss : List (List V)}, Lsts H as xss → ∀ a ∈ as, NoX H a
  | _, _, .nil, _, h => by simp at h
  | _, _, .cons e t, a, h => by
    rcases List.mem_cons.mp h with rfl | h
    · exact NoX.of e rfl
    · exact t.nox a h
theorem BoardAt.nox {K : Fg} {H : Hp} {p : Addr} {D : BA} {B : Bd} (h : BoardAt K H p D B) : ∀ a ∈ D.own, NoX H a := by
  obtain ⟨_, h1⟩ := h.ins
  obtain ⟨_, h2, _⟩ := h.ru
  obtain ⟨_, h3, _⟩ := h.re
  intro a ha
  simp only [BA.own, List.mem_cons, List.not_mem_nil, or_false] at ha
  rcases ha with z | z | z | z | z | z | z | z | z | z | z <;> rw [z] <;> first | exact NoX.of h1 rfl | exact NoX.of h2 rfl | exact NoX.of h3 rfl | exact NoX.of h.sh rfl | exact NoX.of h.wa rfl | exact NoX.of h.hi rfl | exact NoX.of h.ta rfl | exact NoX.of h.ra rfl | exact NoX.of h.jo rfl | exact NoX.of h.sp rfl | exact NoX.of h.wt rfl
theorem CoreAt.nox {K : Fg} {H : Hp} {p : Addr} {D : CA} {C : Cr} (h : CoreAt K H p D C) : ∀ a ∈ D.own, NoX H a := by
  obtain ⟨_, h1⟩ := h.ins
  intro a ha
  simp only [CA.own, List.mem_cons, List.mem_append] at ha
  rcases ha with rfl | rfl | rfl | ha | ha
  · exact NoX.of h1 rfl
  · exact NoX.of h.fr rfl
  · exact NoX.of h.jo rfl
  · exact h.fs.nox a ha
  · exact h.js.nox a ha
section
variable {K : Fg} {H : Hp} {p : Addr}
theorem CoresAt.nox : ∀ {Ds : List CA} {Cs : List Cr}, CoresAt K H p Ds Cs → ∀ a ∈ Ds.flatMap CA.own, NoX H a
  | _, _, .nil, a, ha => by simp at ha
  | _, _, .cons h t, a, ha => by
    rw [List.flatMap_cons] at ha
    rcases List.mem_append.mp ha with ha | ha
    · exact h.nox a ha
    · exact t.nox a ha
end
section
variable {K : Fg} {H : Hp} {A : HA} {PD : PA} {P : Pl} {T : HPl} {X : Hs}
theorem HsAt.nox (h : HsAt K H A PD P T X) : ∀ a ∈ A.own, NoX H a := by
  obtain ⟨dx, e⟩ := h.ins
  obtain ⟨ys, ey, ay⟩ := h.ev
  obtain ⟨_, e1, _⟩ := h.wy.at_
  obtain ⟨_, e2, _⟩ := h.li.at_
  intro a ha
  simp only [HA.own, HA.cells, List.mem_append, List.mem_cons, List.not_mem_nil, or_false] at ha
  rcases ha with (rfl | rfl | rfl | rfl | rfl | rfl | rfl | rfl | rfl | rfl | rfl) | ha | ha | ha
  · exact NoX.of e rfl
  · exact NoX.of e1 rfl
  · exact NoX.of e2 rfl
  · exact NoX.of h.co rfl
  · exact NoX.of h.mo rfl
  · exact NoX.of h.tu rfl
  · exact NoX.of h.rc rfl
  · exact NoX.of h.ho rfl
  · exact NoX.of h.bs rfl
  · exact NoX.of h.ds rfl
  · exact NoX.of ey rfl
  · exact h.rls.nox a ha
  · exact h.bd.nox a ha
  · exact h.cs.nox a ha
end
theorem MCoreAt.nox {K : Fg} {H : Hp} {D : CA} {C : Cr} (h : MCoreAt K H D C) : ∀ a ∈ D.own, NoX H a := by
  have h1 := h.dk
  intro a ha
  simp only [CA.own, List.mem_cons, List.mem_append] at ha
  rcases ha with rfl | rfl | rfl | ha | ha
  · exact NoX.of h1 rfl
  · exact NoX.of h.fr rfl
  · exact NoX.of h.jo rfl
  · exact h.fs.nox a ha
  · exact h.js.nox a ha
section
variable {K : Fg} {H : Hp}
theorem MCores.nox : ∀ {Ds : List CA} {Cs : List Cr}, MCores K H Ds Cs → ∀ a ∈ Ds.flatMap CA.own, NoX H a
  | _, _, .nil, a, ha => by simp at ha
  | _, _, .cons h t, a, ha => by
    rw [List.flatMap_cons] at ha
    rcases List.mem_append.mp ha with ha | ha
    · exact h.nox a ha
    · exact t.nox a ha
end
section
variable {K : Fg} {H : Hp} {A : MD} {P : Pl} {T : HPl} {X : Hs}
theorem MHAt.nox (h : MHAt K H A P T X) : ∀ a ∈ A.own, NoX H a := by
  obtain ⟨ylg, elg, alg⟩ := h.lg
  obtain ⟨yrg, erg, arg⟩ := h.rg
  obtain ⟨yft, eft, aft⟩ := h.ft
  obtain ⟨L, l1, l2⟩ := h.la
  obtain ⟨G, g1, g2, g3, g4⟩ := h.bg
  obtain ⟨_, e1, _⟩ := h.ln.at_
  obtain ⟨_, e2, _⟩ := h.wk.at_
  obtain ⟨_, e3, _⟩ := h.rt.at_
  obtain ⟨_, e4, _⟩ := h.st.at_
  intro a ha
  rcases List.mem_append.mp ha with ha | ha
  · simp only [MD.cells, List.mem_cons, List.not_mem_nil, or_false] at ha
    rcases ha with rfl | rfl | rfl | rfl | rfl | rfl | rfl | rfl | rfl | rfl | rfl | rfl | rfl | rfl | rfl | rfl | rfl | rfl | rfl | rfl | rfl | rfl
    · exact NoX.of h.m rfl
    · exact NoX.of h.mo rfl
    · exact NoX.of h.co rfl
    · exact NoX.of h.od rfl
    · exact NoX.of h.sh rfl
    · exact NoX.of h.wa rfl
    · exact NoX.of h.hi rfl
    · exact NoX.of h.fl rfl
    · exact NoX.of elg rfl
    · exact NoX.of erg rfl
    · exact NoX.of eft rfl
    · exact NoX.of e1 rfl
    · exact NoX.of e2 rfl
    · exact NoX.of e3 rfl
    · exact NoX.of e4 rfl
    · exact NoX.of h.sp rfl
    · exact NoX.of h.tu rfl
    · exact NoX.of h.ho rfl
    · exact NoX.of l1 rfl
    · exact NoX.of g1 rfl
    · exact NoX.of h.tm rfl
    · exact NoX.of h.dn rfl
  · rcases List.mem_append.mp ha with ha | ha
    · exact g3.nox a ha
    · exact h.cs.nox a ha
end
structure Both (K : Fg) (H0 H : Hp) (A : HA) (PD : PA) (M : MD) (P : Pl) (T : HPl) (X Y : Hs) (r sc : Addr) (ns : List Int) (t : Addr) (q : Str) : Prop where
  h : HsAt K H A PD P T X
  m : MHAt K H M P T Y
  sep : ∀ a ∈ M.own, a ∉ A.own ∧ a ∉ PD.own
  na : ∀ a ∈ A.own, H0 a = none
  np : ∀ a ∈ PD.own, H0 a = none
  nm : ∀ a ∈ M.own, H0 a = none
  row0 : RowAt K H0 r sc ns
  row : RowAt K H r sc ns
  tab : LamX.TabS H t q
  bk : ∀ a, H a = none → H0 a = none
section
variable {K : Fg} {H0 H H' : Hp} {A A' : HA} {PD : PA} {M M' : MD} {P : Pl} {T : HPl} {X Y Z : Hs} {r sc t : Addr} {ns : List Int} {q : Str}
theorem Both.draw (x : Both K H0 H A PD M P T X Y r sc ns t q) (f : Fr [r] H H') (row : RowAt K H' r sc ns) : Both K H0 H' A PD M P T X Y r sc ns t q := by
  have n : ∀ {a : Addr}, H0 a = none → a ∉ [r] := fun h z => x.row0.ex (by rw [← List.mem_singleton.mp z]; exact h)
  exact ⟨x.h.keep f (fun a ha => n (x.na a ha)) fun a ha => n (x.np a ha), x.m.keep f fun a ha => n (x.nm a ha), x.sep, x.na, x.np, x.nm, x.row0, row, tabs_keep x.tab f fun a ha => by rw [List.mem_singleton.mp ha]; exact x.row.nox, fun a ha => x.bk a (f.back ha)⟩
theorem Both.same (x : Both K H0 H A PD M P T X Y r sc ns t q) (s : Same H H') : Both K H0 H' A PD M P T X Y r sc ns t q := x.draw s.fr (x.row.same s)
end
theorem RowAt.tab {K : Fg} {H H' : Hp} {r sc t : Addr} {ns : List Int} {q : Str} (h : RowAt K H r sc ns) (x : LamX.TabS H t q) (f : Fr [t] H H') : RowAt K H' r sc ns := by
  obtain ⟨ps, e, _⟩ := x
  refine h.keep f (fun z => ?_) ?_
  · have := h.nox _ (by rw [List.mem_singleton.mp z]; exact e)
    simp [plainO] at this
  · rcases h.scr with (k | ⟨o, k⟩) | k
    · exact .inl fun z => by rw [List.mem_singleton.mp z, e] at k; cases k
    · exact .inl fun z => by rw [List.mem_singleton.mp z, e] at k; cases k
    · exact .inr fun _ => .inr k
end Z
set_option maxHeartbeats 1000000
namespace Z
open PySem PySem.Spec PyProof.Rows L2
open He (ga ma)
section
variable {P : Pl} {T : HPl} {X : Hs}
theorem carry_keep {B : Bd} {s : Str × Key} : (B.carry P s).1.taken = B.taken ∧ (∀ x ∈ (B.carry P s).1.spots, x ∈ B.spots) ∧ (B.carry P s).1.rung.length ≤ B.rung.length + 1 := by
  unfold Bd.carry
  split
  · obtain ⟨h1, h2, h3⟩ := ring_keep (P := P) (B := B) (z := kS s.2)
    exact ⟨h1, by rw [h2]; exact fun _ h => h, h3⟩
  · split
    · exact ⟨rfl, fun x h => (delK_mem.mp h).1, Nat.le_succ _⟩
    · repeat (first | exact ⟨rfl, fun _ h => h, Nat.le_succ _⟩ | split)
def Hs.acts (P : Pl) (X : Hs) (s : Str × Key) : Hs := { X with B := (X.B.carry P s).1 }
theorem Hs.Ok.acts (h : X.Ok P T) {s : Str × Key} (ci : CarryIs P s) : (X.acts P s).Ok P T :=
  ⟨h.bok.carry ci, h.cn, h.mn, h.mw, h.jok, h.nm, h.st, by
    show (X.B.carry P s).1.taken.Perm _
    rw [carry_keep.1]
    exact h.tk, fun x hx => h.sp x (carry_keep.2.1 x hx), h.bk, h.dk, h.tn, h.ts, h.tv, h.hn, h.hs, h.rn, h.rs, h.rl⟩
theorem Hs.Fits.acts {k j : Nat} (h : X.Fits P T k j) {s : Str × Key} (ci : CarryIs P s) : (X.acts P s).Fits P T k (j + 1) := by
  refine ⟨h.ok.acts ci, h.tk, h.on, ⟨h.la.ev, h.la.rg.carry ci⟩, ?_, Nat.le_succ_of_le h.ev⟩
  have h1 := (carry_keep (P := P) (B := X.B) (s := s)).2.2
  have h2 := h.pt
  unfold pot at h2 ⊢
  show (X.B.carry P s).1.rung.length + (X.cs.map (potC P)).sum ≤ _
  omega
theorem Hs.Fits.more {k j i : Nat} (h : X.Fits P T k j) (hj : j ≤ i) : X.Fits P T k i := ⟨h.ok, h.tk, h.on, h.la, Nat.le_trans h.pt (by omega), Nat.le_trans h.ev (by omega)⟩
def Hs.spotted (P : Pl) (X : Hs) (p : Nat) : List Str := P.order.filter fun z => decide (getK X.B.spots z = some (p : Int))
def Hs.left (P : Pl) (X : Hs) (p : Nat) : Hs := { X with md := X.md.set p "leaving", B := { X.B with spots := (X.spotted P p).foldl delK X.B.spots } }
def Hs.came (X : Hs) (p : Nat) : Hs := { X with md := X.md.set p "on" }
theorem dels_mem {l : List Str} : ∀ {m : List (Str × Int)} {x : Str × Int}, x ∈ l.foldl delK m → x ∈ m := by
  induction l with
  | nil => exact fun h => h
  | cons z l ih => exact fun h => (delK_mem.mp (ih h)).1
theorem dels_nd {l : List Str} : ∀ {m : List (Str × Int)}, (m.map (·.1)).Nodup → ((l.foldl delK m).map (·.1)).Nodup := by
  induction l with
  | nil => exact fun h => h
  | cons z l ih => exact fun h => ih (delK_nd h)
theorem md_set {l : List Str} {p : Nat} {w : Str} (hw : w ∈ modeL) (h : ∀ m ∈ l, m ∈ modeL) : ∀ m ∈ l.set p w, m ∈ modeL := fun m hm => by
  rcases List.mem_or_eq_of_mem_set hm with k | k
  · exact h m k
  · rw [k]
    exact hw
theorem Bd.Ok.unspot {B : Bd} (h : B.Ok P) {l : List (Str × Int)} (h1 : (l.map (·.1)).Nodup) (h2 : ∀ x ∈ l, x ∈ B.spots) : ({ B with spots := l } : Bd).Ok P :=
  ⟨h.sh, h.wa, h.hi, h.ta, h.ra, h.jk, h1, fun x hx => h.ss x (h2 x hx), h.wn, h.wk, h.wi, h.rl⟩
theorem Hs.Ok.left (h : X.Ok P T) {p : Nat} : (X.left P p).Ok P T :=
  ⟨h.bok.unspot (dels_nd h.bok.sn) fun x hx => dels_mem hx, h.cn, (List.length_set ..).trans h.mn, md_set (by decide) h.mw, h.jok, h.nm, h.st, h.tk, fun x hx => h.sp x (dels_mem hx), h.bk, h.dk, h.tn, h.ts, h.tv, h.hn, h.hs, h.rn, h.rs, h.rl⟩
theorem Hs.Ok.came (h : X.Ok P T) {p : Nat} : (X.came p).Ok P T :=
  ⟨h.bok, h.cn, (List.length_set ..).trans h.mn, md_set (by decide) h.mw, h.jok, h.nm, h.st, h.tk, h.sp, h.bk, h.dk, h.tn, h.ts, h.tv, h.hn, h.hs, h.rn, h.rs, h.rl⟩
theorem Hs.Fits.came {k j p : Nat} (h : X.Fits P T k j) : (X.came p).Fits P T k j := by
  refine ⟨h.ok.came, h.tk, ?_, h.la.to rfl rfl, h.pt, h.ev⟩
  obtain ⟨q, hq⟩ := h.on
  have hq := of_decide_eq_true hq
  refine ⟨q, decide_eq_true ?_⟩
  show (X.md.set p "on")[q]? = some ("on" : Str)
  by_cases e : p = q
  · rw [e, List.getElem?_set_self (List.getElem?_eq_some_iff.mp hq).1]
  · rw [List.getElem?_set_ne e]
    exact hq
theorem Hs.Fits.left {k j p : Nat} (h : X.Fits P T k j) (ho : ∃ q, q ≠ p ∧ X.on q = true) : (X.left P p).Fits P T k j := by
  refine ⟨h.ok.left, h.tk, ?_, h.la.to rfl rfl, h.pt, h.ev⟩
  obtain ⟨q, hn, hq⟩ := ho
  have hq := of_decide_eq_true hq
  refine ⟨q, decide_eq_true ?_⟩
  show (X.md.set p "leaving")[q]? = some ("on" : Str)
  rw [List.getElem?_set_ne (fun e => hn e.symm)]
  exact hq
end
end Z
set_option maxHeartbeats 1000000
namespace Z
open PySem PySem.Spec PyProof.Rows L2
open He (ga ma)
inductive Deed where
  | act (w : Str) (k : Key)
  | leave (p : Nat)
  | come (p : Nat)
  | move (z : Str) (p : Nat)
def Deed.Can (P : Pl) (T : HPl) (X : Hs) : Deed → Prop
  | .act w k => CarryIs P (w, k) ∧ (w = "quiet" → ∃ z, k = .inr z ∧ (P.ln z).kd = "level")
  | .leave p => p < T.n ∧ X.on p = true ∧ ∃ q, q ≠ p ∧ X.on q = true
  | .come p => p < T.n ∧ ∃ m : Str, X.md[p]? = some m ∧ m ≠ ("on" : Str)
  | .move z p => z ∈ P.names ∧ p < T.n ∧ X.on p = true ∧ X.B.waiting z = true ∧ z ∉ X.B.taken ∧ p ∈ (T.way z).2
def Hs.deed (P : Pl) (X : Hs) : Deed → Hs
  | .act w k => X.acts P (w, k)
  | .leave p => X.left P p
  | .come p => X.came p
  | .move z p => X.putLine z p
def Hs.deedD (P : Pl) (X : Hs) : Deed → PyData
  | .act w k => if w = ("ring" : Str) then .str (if (X.B.carry P (w, k)).2 = true then "waits" else "merged") else .bool (X.B.carry P (w, k)).2
  | .leave p => .list ((X.spotted P p).map PyData.str)
  | .come p => .bool (decide (X.md[p]? = some ("leaving" : Str)))
  | .move z p => optD (getK X.B.spots z)
section
variable {P : Pl} {T : HPl} {X : Hs}
theorem Hs.Fits.deed {k j : Nat} (h : X.Fits P T k j) {d : Deed} (c : d.Can P T X) : (X.deed P d).Fits P T k (j + 1) := by
  cases d with
  | act w k => exact h.acts c.1
  | leave p => exact (h.left c.2.2).more (Nat.le_succ j)
  | come p => exact h.came.more (Nat.le_succ j)
  | move z p =>
    obtain ⟨hz, hp, _⟩ := c
    refine ⟨h.ok.putLine hz hp, h.tk, h.on, h.la.add (e := .four "place" X.B.time z (p : Nat)) ⟨by decide, .inl hz⟩ rfl rfl, Nat.le_succ_of_le h.pt, ?_⟩
    show (X.ev ++ [_]).length ≤ _
    rw [List.length_append]
    have := h.ev
    simp
    omega
theorem getK_delK_ne {l : List (Str × Int)} {z y : Str} (h : y ≠ z) : getK (delK l z) y = getK l y := by
  unfold getK delK
  congr 1
  induction l with
  | nil => rfl
  | cons x l ih =>
    by_cases e : x.1 = z
    · rw [List.filter_cons_of_neg (by simp [e]), List.find?_cons_of_neg (by simp [e]; exact fun k => h k.symm)]
      exact ih
    · rw [List.filter_cons_of_pos (by simp [e])]
      by_cases k : x.1 = y
      · rw [List.find?_cons_of_pos (by simp [k]), List.find?_cons_of_pos (by simp [k])]
      · rw [List.find?_cons_of_neg (by simp [k]), List.find?_cons_of_neg (by simp [k])]
        exact ih
end
end Z
set_option maxHeartbeats 1000000
namespace Z
open PySem PySem.Spec PyProof.Rows L2
open He (ga ma)
end Z
set_option maxHeartbeats 1000000
namespace Z
open PySem PySem.Spec PyProof.Rows L2
open He (ga ma)
inductive Rch (P : Pl) (T : HPl) : List (Nat × Deed) → Nat → Nat → Hs → Prop
  | start : Rch P T [] 0 0 (Hs.start P T)
  | deed {ds : List (Nat × Deed)} {k j : Nat} {X : Hs} {d : Deed} : Rch P T ds k j X → d.Can P T X → j < 16 → Rch P T (ds ++ [(k, d)]) k (j + 1) (X.deed P d)
  | tick {ds : List (Nat × Deed)} {k j : Nat} {X : Hs} : Rch P T ds k j X → k < 160 → Rch P T ds (k + 1) 0 (X.tick P T)
theorem Rch.all {P : Pl} {T : HPl} (ok : P.Ok) (t : T.Ok P) {ds : List (Nat × Deed)} {k j : Nat} {X : Hs} (h : Rch P T ds k j X) : X.Fits P T k j ∧ j ≤ 16 ∧ k ≤ 160 ∧ ds.length ≤ 16 * k + j := by
  induction h with
  | start => exact ⟨Hs.Fits.start ok t, by omega, by omega, Nat.zero_le _⟩
  | deed _ c hj ih =>
    refine ⟨ih.1.deed c, by omega, ih.2.2.1, ?_⟩
    rw [List.length_append]
    have := ih.2.2.2
    simp
    omega
  | tick _ hk ih => exact ⟨ih.1.tick ok t (by omega) ih.2.1, by omega, by omega, by omega⟩
section
variable {K : Fg} {H0 H H' : Hp} {A : HA} {PD : PA} {M : MD} {P : Pl} {T : HPl} {X Y : Hs} {r sc t : Addr} {ns : List Int} {q : Str}
theorem Both.put (x : Both K H0 H A PD M P T X Y r sc ns t q) {N : List Addr} (f : Fr N H H') (h0 : ∀ a ∈ N, H0 a = none) (hx : ∀ a ∈ N, NoX H a) (a1 : ∀ a ∈ N, a ∉ A.own) (a2 : ∀ a ∈ N, a ∉ PD.own) (a3 : ∀ a ∈ N, a ∉ M.own) : Both K H0 H' A PD M P T X Y r sc ns t q :=
  ⟨x.h.keep f (fun a ha z => a1 a z ha) fun a ha z => a2 a z ha, x.m.keep f fun a ha z => a3 a z ha, x.sep, x.na, x.np, x.nm, x.row0, x.row0.kept x.row f h0, tabs_keep x.tab f hx, fun a ha => x.bk a (f.back ha)⟩
end
end Z
set_option maxHeartbeats 1000000
namespace Z
open PySem PySem.Spec PyProof.Rows L2
open He (ga ma)
def BdR (B : Bd) : Prop := ∀ x ∈ B.spots, B.waiting x.1 = true ∧ x.1 ∉ B.taken
structure BdGo (B B' : Bd) : Prop where
  r : BdR B → BdR B'
  s : ∀ x ∈ B'.spots, x ∈ B.spots
theorem BdGo.refl {B : Bd} : BdGo B B := ⟨fun h => h, fun _ h => h⟩
theorem BdGo.trans {A B C : Bd} (h : BdGo A B) (k : BdGo B C) : BdGo A C := ⟨fun x => k.r (h.r x), fun x hx => h.s x (k.s x hx)⟩
theorem wait_iff {B : Bd} {z : Str} : B.waiting z = true ↔ z ∈ B.wanted ∨ z ∈ B.high ∧ z ∉ B.taken := by
  unfold Bd.waiting
  simp
theorem putL_ne {l : List Str} {z y : Str} (h : y ≠ z) (hy : y ∈ l) {b : Bool} : y ∈ (putL l z b).1 := by
  unfold putL
  split
  · exact hy
  · split
    · exact List.mem_append_left _ hy
    · exact (List.mem_erase_of_ne h).mpr hy
section
variable {P : Pl} {T : HPl} {X : Hs} {B : Bd}
theorem go_more {B' : Bd} (h1 : ∀ z ∈ B.wanted, z ∈ B'.wanted) (h2 : ∀ z ∈ B.high, z ∈ B'.high) (h3 : ∀ z ∈ B'.taken, z ∈ B.taken) (h4 : B'.spots = B.spots) : BdGo B B' := by
  refine ⟨fun h x hx => ?_, fun x hx => by rw [← h4]; exact hx⟩
  rw [h4] at hx
  obtain ⟨a, b⟩ := h x hx
  refine ⟨wait_iff.mpr ?_, fun k => b (h3 _ k)⟩
  rcases wait_iff.mp a with a | ⟨a, _⟩
  · exact .inl (h1 _ a)
  · exact .inr ⟨h2 _ a, fun k => b (h3 _ k)⟩
theorem go_ring {z : Str} : BdGo B (B.ring P z).1 := by
  unfold Bd.ring
  split
  · split
    · exact go_more (fun _ h => h) (fun _ h => h) (fun _ h => h) rfl
    · exact go_more (fun _ h => List.mem_append_left _ h) (fun _ h => h) (fun _ h => h) rfl
  · split
    · exact go_more (fun _ h => h) (fun _ h => h) (fun _ h => h) rfl
    · exact go_more (fun _ h => h) (fun _ h => List.mem_append_left _ h) (fun _ h => h) rfl
theorem go_carry {s : Str × Key} : BdGo B (B.carry P s).1 := by
  unfold Bd.carry
  split
  · exact go_ring
  · split
    · refine ⟨fun h x hx => ?_, fun x hx => (delK_mem.mp hx).1⟩
      obtain ⟨hx1, hx2⟩ := delK_mem.mp hx
      obtain ⟨a, b⟩ := h x hx1
      refine ⟨wait_iff.mpr ?_, b⟩
      rcases wait_iff.mp a with a | ⟨a, c⟩
      · exact .inl a
      · exact .inr ⟨putL_ne hx2 a, c⟩
    · repeat (first | exact ⟨fun h => h, fun _ h => h⟩ | split)
theorem go_begun {z : Str} : BdGo B (B.begun z) := by
  refine ⟨fun h x hx => ?_, fun x hx => (delK_mem.mp hx).1⟩
  obtain ⟨hx1, hx2⟩ := delK_mem.mp hx
  obtain ⟨a, b⟩ := h x hx1
  have nt : x.1 ∉ B.taken ++ [z] := fun k => by
    rcases List.mem_append.mp k with k | k
    · exact b k
    · exact hx2 (List.mem_singleton.mp k)
  refine ⟨wait_iff.mpr ?_, nt⟩
  rcases wait_iff.mp a with a | ⟨a, c⟩
  · exact .inl (putL_ne hx2 a)
  · exact .inr ⟨a, nt⟩
theorem go_ended {z : Str} : BdGo B (B.ended z) := go_more (fun _ h => h) (fun _ h => h) (fun _ h => List.mem_of_mem_erase h) rfl
theorem go_stepFx {lim : Int} {jobs : List (Str × Nat)} {s : Str × Key} : BdGo B (stepFx P lim jobs B s).2.2 := by
  unfold stepFx
  split
  · exact BdGo.refl
  · split
    · exact BdGo.refl
    · split
      · exact go_carry
      · exact BdGo.refl
abbrev lnL (fs : List Frm) : List Str := fs.map (·.ln)
theorem go_passL {fs : List Frm} {rest : List (Str × Key)} : ∀ {f : Frm} {lim : Int} {jobs : List (Str × Nat)} {B : Bd}, BdGo B (passL P fs f lim jobs B rest).2.1 ∧ (lnL (passL P fs f lim jobs B rest).1.frames <+: lnL fs ++ [f.ln]) := by
  induction rest with
  | nil =>
    intro f lim jobs B
    exact ⟨go_ended, List.prefix_append _ _⟩
  | cons s r ih =>
    intro f lim jobs B
    unfold passL
    split
    · refine ⟨BdGo.refl, ?_⟩
      show lnL (fs ++ [f]) <+: _
      rw [show lnL (fs ++ [f]) = lnL fs ++ [f.ln] by simp]
      exact List.prefix_refl _
    · obtain ⟨h1, h2⟩ := ih (f := { f with st := f.st + 1 }) (lim := (stepFx P lim jobs B s).1) (jobs := (stepFx P lim jobs B s).2.1) (B := (stepFx P lim jobs B s).2.2)
      exact ⟨go_stepFx.trans h1, h2⟩
theorem go_pass {fs : List Frm} {f : Frm} {lim : Int} {jobs : List (Str × Nat)} : BdGo B (pass P fs f lim jobs B).2.1 ∧ (lnL (pass P fs f lim jobs B).1.frames <+: lnL fs ++ [f.ln]) := go_passL
theorem go_spend {fs : List Frm} {f : Frm} {lim : Int} {jobs : List (Str × Nat)} : BdGo B (spend P fs f lim jobs B).2.1 ∧ (lnL (spend P fs f lim jobs B).1.frames <+: lnL fs ++ [f.ln]) := by
  unfold spend
  split
  · refine ⟨BdGo.refl, ?_⟩
    show lnL (fs ++ [{ f with tk := f.tk + 1 }]) <+: _
    rw [show lnL (fs ++ [{ f with tk := f.tk + 1 }]) = lnL fs ++ [f.ln] by simp]
    exact List.prefix_refl _
  · exact go_pass (f := { f with st := f.st + 1, tk := 0 })
theorem go_passAll : ∀ (n : Nat) {C : Cr} {B : Bd} {es : List Ev}, BdGo B (passAll P n C B es).2.1 ∧ lnL (passAll P n C B es).1.frames <+: lnL C.frames
  | 0, _, _, _ => ⟨BdGo.refl, List.prefix_refl _⟩
  | n + 1, C, B, es => by
    rcases List.eq_nil_or_concat C.frames with e | ⟨fs, f, e⟩
    · rw [passAll_nil e]; exact ⟨BdGo.refl, List.prefix_refl _⟩
    · rw [List.concat_eq_append] at e
      cases hp : passing P B f with
      | false => rw [passAll_no e hp]; exact ⟨BdGo.refl, List.prefix_refl _⟩
      | true =>
        rw [passAll_yes e hp]
        obtain ⟨h1, h2⟩ := go_pass (P := P) (B := B) (fs := fs) (f := f) (lim := C.limit) (jobs := C.jobs)
        obtain ⟨h3, h4⟩ := go_passAll n (C := (pass P fs f C.limit C.jobs B).1) (B := (pass P fs f C.limit C.jobs B).2.1) (es := es ++ (pass P fs f C.limit C.jobs B).2.2)
        refine ⟨h1.trans h3, h4.trans ?_⟩
        rw [show lnL C.frames = lnL fs ++ [f.ln] by rw [e]; simp]
        exact h2
theorem go_tick {C : Cr} : BdGo B (C.tick P B).2.2.1 ∧ lnL (C.tick P B).2.1.frames <+: lnL C.frames := by
  obtain ⟨h1, h2⟩ := go_passAll (P := P) (left P C.frames) (C := C) (B := B) (es := [])
  unfold Cr.tick
  generalize passAll P (left P C.frames) C B [] = r at h1 h2
  rcases List.eq_nil_or_concat r.1.frames with e | ⟨fs, f, e⟩
  · by_cases hj : r.1.jobs = []
    · rw [tickC_idle e hj]; exact ⟨h1, h2⟩
    · rw [tickC_work e hj]; exact ⟨h1, h2⟩
  · rw [List.concat_eq_append] at e
    by_cases hw : (stepOf P f).1 = "await"
    · rw [tickC_spun e hw]; exact ⟨h1, h2⟩
    · rw [tickC_call e hw]
      obtain ⟨k1, k2⟩ := go_spend (P := P) (B := r.2.1) (fs := fs) (f := f) (lim := r.1.limit) (jobs := r.1.jobs)
      refine ⟨h1.trans k1, List.IsPrefix.trans k2 ?_⟩
      rw [show lnL fs ++ [f.ln] = lnL r.1.frames by rw [e]; simp]
      exact h2
def rkL (P : Pl) (fs : List Frm) : List Int := (lnL fs).map fun z => (P.ln z).rk
structure Hs.Right (P : Pl) (T : HPl) (X : Hs) : Prop where
  rk : ∀ p, (rkL P (X.core p).frames).Pairwise (· < ·)
  of : ∀ p : Nat, X.md[p]? = some ("off" : Str) → (X.core p).frames = [] ∧ (X.core p).jobs = []
  wy : ∀ p, ∀ z ∈ lnL (X.core p).frames, p ∈ (T.way z).2
  bd : BdR X.B
  sp : ∀ x ∈ X.B.spots, ∃ p : Nat, x.2 = (p : Int) ∧ X.on p = true ∧ p ∈ (T.way x.1).2
theorem Hs.Right.to (h : X.Right P T) {Y : Hs} (e1 : Y.cs = X.cs) (e2 : Y.md = X.md) (e3 : Y.B = X.B) : Y.Right P T := by
  have c : ∀ p, Y.core p = X.core p := fun p => by unfold Hs.core; rw [e1]
  have o : ∀ p, Y.on p = X.on p := fun p => by unfold Hs.on; rw [e2]
  exact ⟨fun p => by rw [c]; exact h.rk p, fun p k => by rw [c]; exact h.of p (by rw [← e2]; exact k), fun p => by rw [c]; exact h.wy p, by rw [e3]; exact h.bd, fun x hx => by
    obtain ⟨p, h1, h2, h3⟩ := h.sp x (by rw [← e3]; exact hx)
    exact ⟨p, h1, by rw [o]; exact h2, h3⟩⟩
theorem Hs.Right.goes (h : X.Right P T) {p : Nat} (hp : p < X.cs.length) {r : Cr × Bd × List Ev} (hb : BdGo X.B r.2.1) (hk : (rkL P r.1.frames).Pairwise (· < ·)) (hw : ∀ z ∈ lnL r.1.frames, p ∈ (T.way z).2) (hn : X.md[p]? ≠ some ("off" : Str)) : (X.goes p r).Right P T := by
  unfold Hs.goes
  have s := noteAll_same (X := ({ X with cs := X.cs.set p r.1, B := r.2.1 } : Hs)) (p := p) (es := r.2.2)
  refine Hs.Right.to (X := ({ X with cs := X.cs.set p r.1, B := r.2.1 } : Hs)) ?_ s.cs s.md s.B
  have c : ∀ q, ({ X with cs := X.cs.set p r.1, B := r.2.1 } : Hs).core q = if q = p then r.1 else X.core q := fun q => core_set (X := X) hp
  refine ⟨fun q => ?_, fun q k => ?_, fun q => ?_, hb.r h.bd, fun x hx => h.sp x (hb.s x hx)⟩
  · rw [c]
    split
    · exact hk
    · exact h.rk q
  · rw [c]
    split
    · rename_i e
      rw [e] at k
      exact absurd k hn
    · exact h.of q k
  · rw [c]
    split
    · rename_i e
      rw [e]
      exact hw
    · exact h.wy q
theorem rk_prefix {fs gs : List Frm} (h : lnL fs <+: lnL gs) (k : (rkL P gs).Pairwise (· < ·)) : (rkL P fs).Pairwise (· < ·) := by
  unfold rkL at k ⊢
  exact List.Pairwise.sublist (h.sublist.map _) k
theorem Hs.Right.spend (h : X.Right P T) {p : Nat} (hp : p < X.cs.length) (hn : X.md[p]? ≠ some ("off" : Str)) : (X.spend P p).Right P T := by
  obtain ⟨h1, h2⟩ := go_tick (P := P) (B := X.B) (C := X.core p)
  exact h.goes hp h1 (rk_prefix h2 (h.rk p)) (fun z hz => h.wy p z (h2.subset hz)) hn
theorem last_rk {C : Cr} {z : Str} (h : (rkL P C.frames).Pairwise (· < ·)) (hm : C.may P z = true) : (rkL P C.frames ++ [(P.ln z).rk]).Pairwise (· < ·) := by
  have hm := of_decide_eq_true hm
  rw [List.pairwise_append]
  refine ⟨h, List.pairwise_singleton _ _, fun a ha b hb => ?_⟩
  rw [List.mem_singleton.mp hb]
  rcases List.eq_nil_or_concat C.frames with e | ⟨fs, f, e⟩
  · rw [e] at ha
    simp [rkL] at ha
  · rw [List.concat_eq_append] at e
    have hi : C.inner P = (P.ln f.ln).rk := by
      unfold Cr.inner
      rw [e, List.getLast?_concat]
    have hf : (P.ln f.ln).rk < (P.ln z).rk := by
      rw [hi] at hm
      split at hm <;> omega
    rw [e] at ha h
    have ea : rkL P (fs ++ [f]) = rkL P fs ++ [(P.ln f.ln).rk] := by simp [rkL]
    rw [ea] at ha h
    rcases List.mem_append.mp ha with ha | ha
    · have := (List.pairwise_append.mp h).2.2 a ha _ (List.mem_singleton.mpr rfl)
      omega
    · rw [List.mem_singleton.mp ha]
      exact hf
theorem getK_in {l : List (Str × Int)} {z : Str} {n : Int} (h : getK l z = some n) : (z, n) ∈ l := by
  unfold getK at h
  obtain ⟨x, hx, e⟩ := Option.map_eq_some_iff.mp h
  have h1 := List.mem_of_find?_eq_some hx
  have h2 := List.find?_some hx
  have h3 : x.1 = z := by simpa using h2
  rw [← h3, ← e]
  exact h1
theorem Hs.Right.take (h : X.Right P T) {p : Nat} (hp : p < X.cs.length) (hon : X.on p = true) : (X.take P T p).Right P T := by
  unfold Hs.take
  split
  · exact h
  · rename_i z r e
    split
    · rename_i hm
      obtain ⟨hz, hs, hc⟩ := readyL_mem (P := P) (X := X) (p := p) (z := z) (by rw [e]; simp)
      have hb : (X.begin P T p z).Right P T := by
        obtain ⟨b1, b2, b3⟩ : (X.begin P T p z).cs = X.cs ∧ (X.begin P T p z).md = X.md ∧ (X.begin P T p z).B = { X.B with here := some (p : Int) } := by
          refine ⟨begin_parts.2.1, ?_, ?_⟩
          · unfold Hs.begin Hs.count
            repeat (first | rfl | split)
          · unfold Hs.begin Hs.count
            repeat (first | rfl | split)
        have h1 : ({ X with B := { X.B with here := some (p : Int) } } : Hs).Right P T := ⟨h.rk, h.of, h.wy, h.bd, h.sp⟩
        exact h1.to b1 b2 b3
      have hp2 : p < (X.begin P T p z).cs.length := by rw [begin_parts.2.1]; exact hp
      have hmd : (X.begin P T p z).md = X.md := by
        unfold Hs.begin Hs.count
        repeat (first | rfl | split)
      rw [beginR_eq]
      have eB : (X.begin P T p z).B = { X.B with here := some (p : Int) } := by
        unfold Hs.begin Hs.count
        repeat (first | rfl | split)
      obtain ⟨g1, g2⟩ := go_pass (P := P) (B := ({ X.B with here := some (p : Int) } : Bd).begun z) (fs := (X.core p).frames) (f := ⟨z, 0, 0, (X.core p).limit⟩) (lim := (X.core p).limit) (jobs := (X.core p).jobs)
      refine hb.goes hp2 (by rw [eB]; exact go_begun.trans g1) ?_ (fun y hy => ?_) ?_
      · unfold rkL
        refine List.Pairwise.sublist (g2.sublist.map _) ?_
        rw [List.map_append]
        exact last_rk (h.rk p) hm
      · rcases List.mem_append.mp (g2.subset hy) with k | k
        · exact h.wy p y k
        · rw [List.mem_singleton.mp k]
          obtain ⟨q, e1, _, e3⟩ := h.sp _ (getK_in hs)
          have : q = p := by
            have e1 : (p : Int) = (q : Int) := e1
            omega
          rw [← this]
          exact e3
      · rw [hmd]
        rw [of_decide_eq_true hon]
        exact fun k => absurd (Option.some.inj k) (by decide)
    · exact h
theorem Hs.Right.place1 (t : T.Ok P) (h : X.Right P T) {z : Str} : (X.place1 T z).Right P T := by
  unfold Hs.place1
  split
  · rename_i hc
    split
    · exact h
    · rename_i k e
      obtain ⟨p, hp1, hp2⟩ := readyK_mem (pick_mem e)
      have hcan : X.B.can z = true := (Bool.and_eq_true_iff.mp hc).2
      have hw : X.B.waiting z = true := by
        unfold Bd.can at hcan
        exact (Bool.and_eq_true_iff.mp hcan).1
      have hnt := can_notaken hcan
      have ep : (T.way z).2.getD k 0 = p := by rw [List.getD_eq_getElem?_getD, hp1]; rfl
      have ht : (X.turned T z k).Right P T := by
        refine h.to ?_ ?_ turned_ev.2
        · unfold Hs.turned
          repeat (first | rfl | split)
        · unfold Hs.turned
          repeat (first | rfl | split)
      have e1 : (X.turned T z k).B = X.B := turned_ev.2
      have e2 : (X.turned T z k).md = X.md := by
        unfold Hs.turned
        repeat (first | rfl | split)
      rw [ep]
      refine ⟨ht.rk, ht.of, ht.wy, fun x hx => ?_, fun x hx => ?_⟩
      · have hx : x ∈ setK (X.turned T z k).B.spots z (p : Int) := hx
        rcases setK_mem hx with hx | rfl
        · exact ht.bd x hx
        · show (X.turned T z k).B.waiting z = true ∧ z ∉ (X.turned T z k).B.taken
          rw [e1]
          exact ⟨hw, hnt⟩
      · have hx : x ∈ setK (X.turned T z k).B.spots z (p : Int) := hx
        rcases setK_mem hx with hx | rfl
        · exact ht.sp x hx
        · refine ⟨p, rfl, ?_, List.mem_of_getElem? hp1⟩
          show decide ((X.turned T z k).md[p]? = some ("on" : Str)) = true
          rw [e2]
          exact hp2
  · exact h
theorem Hs.Right.place (t : T.Ok P) (h : X.Right P T) : (X.place P T).Right P T := by
  unfold Hs.place
  generalize P.order = l
  induction l generalizing X with
  | nil => exact h
  | cons z l ih =>
    rw [List.foldl_cons]
    exact ih (h.place1 t)
theorem moved_keep {J : List (Str × Nat)} {g : Nat} : ∀ (ks : List Nat) (Z : Hs), g < Z.cs.length → (ks.foldl (fun Y k => match J[k]? with
      | some j => Y.move1 g j
      | none => Y) Z).md = Z.md ∧ (ks.foldl (fun Y k => match J[k]? with
      | some j => Y.move1 g j
      | none => Y) Z).B = Z.B ∧ (ks.foldl (fun Y k => match J[k]? with
      | some j => Y.move1 g j
      | none => Y) Z).cs.length = Z.cs.length ∧ (∀ q, ((ks.foldl (fun Y k => match J[k]? with
      | some j => Y.move1 g j
      | none => Y) Z).core q).frames = (Z.core q).frames) ∧ ∀ q, q ≠ g → (ks.foldl (fun Y k => match J[k]? with
      | some j => Y.move1 g j
      | none => Y) Z).core q = Z.core q
  | [], _, _ => ⟨rfl, rfl, rfl, fun _ => rfl, fun _ _ => rfl⟩
  | k :: ks, Z, hg => by
    rw [List.foldl_cons]
    cases e : J[k]? with
    | none => exact moved_keep ks Z hg
    | some j =>
      have hl : (Z.move1 g j).cs.length = Z.cs.length := List.length_set ..
      have hc : ∀ q, (Z.move1 g j).core q = if q = g then { Z.core g with jobs := moveJ (Z.core g).jobs j } else Z.core q := fun q => core_set (X := Z) hg
      obtain ⟨a, b, c, d, f⟩ := moved_keep (J := J) ks (Z.move1 g j) (by rw [hl]; exact hg)
      refine ⟨a, b, c.trans hl, fun q => (d q).trans ?_, fun q hq => (f q hq).trans ?_⟩
      · rw [hc]
        split
        · rename_i e2
          rw [e2]
        · rfl
      · rw [hc, if_neg hq]
theorem Hs.Right.off (h : X.Right P T) {p : Nat} (hp : p < X.cs.length) (hl : X.md[p]? = some ("leaving" : Str)) (hf : (X.core p).frames = []) (hg : (X.leaves p).goal p < X.cs.length) (hon : (X.leaves p).on ((X.leaves p).goal p) = true) : (X.off P p).Right P T := by
  obtain ⟨a, b, c, d, f⟩ := moved_keep (J := (X.core p).jobs) (g := (X.leaves p).goal p) (places P (X.core p).jobs) (X.leaves p) hg
  have hgp : (X.leaves p).goal p ≠ p := fun e => by
    rw [e] at hon
    have := of_decide_eq_true hon
    have e2 : (X.md.set p ("off" : Str))[p]? = some ("on" : Str) := this
    rw [List.getElem?_set_self (List.getElem?_eq_some_iff.mp hl).1] at e2
    exact absurd (Option.some.inj e2) (by decide)
  unfold Hs.off
  generalize ((places P (X.core p).jobs).foldl (fun Y k => match (X.core p).jobs[k]? with
    | some j => Y.move1 ((X.leaves p).goal p) j
    | none => Y) (X.leaves p)) = Z at a b c d f
  have hc : ∀ q, ({ Z with cs := Z.cs.set p { X.core p with jobs := [] } } : Hs).core q = if q = p then { X.core p with jobs := [] } else Z.core q := fun q => core_set (X := Z) (by rw [c]; exact hp)
  have on : ∀ q, X.on q = true → decide (Z.md[q]? = some ("on" : Str)) = true := fun q hq => by
    rw [a]
    show decide ((X.md.set p ("off" : Str))[q]? = some ("on" : Str)) = true
    rw [List.getElem?_set_ne (fun e => by
      rw [← e] at hq
      have := of_decide_eq_true hq
      rw [hl] at this
      exact absurd (Option.some.inj this) (by decide))]
    exact hq
  refine ⟨fun q => ?_, fun q k => ?_, fun q z hz => ?_, ?_, fun x hx => ?_⟩
  · rw [hc]
    split
    · show (rkL P (X.core p).frames).Pairwise (· < ·)
      exact h.rk p
    · rw [show (Z.core q).frames = (X.core q).frames from d q]
      exact h.rk q
  · rw [hc]
    split
    · exact ⟨hf, rfl⟩
    · rename_i hq
      have k : Z.md[q]? = some ("off" : Str) := k
      have hqg : q ≠ (X.leaves p).goal p := fun e => by
        rw [a, e] at k
        have := of_decide_eq_true hon
        rw [this] at k
        exact absurd (Option.some.inj k) (by decide)
      rw [f q hqg]
      refine h.of q ?_
      rw [a] at k
      have k : (X.md.set p ("off" : Str))[q]? = some ("off" : Str) := k
      rw [List.getElem?_set_ne (fun e => hq e.symm)] at k
      exact k
  · rw [hc] at hz
    split at hz
    · rename_i e
      rw [e]
      exact h.wy p z hz
    · rw [show (Z.core q).frames = (X.core q).frames from d q] at hz
      exact h.wy q z hz
  · show BdR Z.B
    rw [b]
    exact h.bd
  · have hx : x ∈ Z.B.spots := hx
    rw [b] at hx
    obtain ⟨q, h1, h2, h3⟩ := h.sp x hx
    exact ⟨q, h1, on q h2, h3⟩
theorem takesN_right (ok : P.Ok) (o : X.Ok P T) (h : X.Right P T) : ∀ n, n ≤ T.n → (takesN P T X n).Right P T
  | 0, _ => h
  | n + 1, hn => by
    obtain ⟨⟨h1, _, _⟩, _⟩ := takesN_ok ok o n (by omega)
    rw [takesN_succ]
    unfold take1
    split
    · rename_i hon
      exact (takesN_right ok o h n (by omega)).take (by rw [h1.cn]; omega) hon
    · exact takesN_right ok o h n (by omega)
theorem spendsN_right (ok : P.Ok) (o : X.Ok P T) (h : X.Right P T) : ∀ n, n ≤ T.n → (spendsN P X n).Right P T
  | 0, _ => h
  | n + 1, hn => by
    obtain ⟨⟨h1, _, _⟩, _⟩ := spendsN_ok ok o n (by omega)
    rw [spendsN_succ]
    unfold spend1
    split
    · exact spendsN_right ok o h n (by omega)
    · rename_i hne
      exact (spendsN_right ok o h n (by omega)).spend (by rw [h1.cn]; omega) hne
theorem offsN_right (o : X.Ok P T) (hon : ∃ q, X.on q = true) (h : X.Right P T) : ∀ n, n ≤ T.n → (offsN P X n).Right P T
  | 0, _ => h
  | n + 1, hn => by
    obtain ⟨h1, _, _, k4⟩ := offsN_ok o hon n (by omega)
    have hp : n < (offsN P X n).cs.length := by rw [h1.cn]; omega
    rw [offsN_succ]
    unfold off1
    split
    · rename_i hq
      obtain ⟨q0, hq0⟩ := hon
      have hq1 := k4 q0 hq0
      have hne : q0 ≠ n := fun e => by
        rw [e] at hq1
        have := of_decide_eq_true hq1
        rw [hq.1] at this
        exact absurd (Option.some.inj this) (by decide)
      obtain ⟨g1, g2⟩ := goal_facts (p := n) h1 ⟨q0, hq1, hne⟩
      have hon2 : ∃ q, ((offsN P X n).leaves n).on q = true := ⟨q0, by
        show decide (((offsN P X n).md.set n ("off" : Str))[q0]? = some ("on" : Str)) = true
        rw [List.getElem?_set_ne (fun e => hne e.symm)]
        exact hq1⟩
      have hgo : ((offsN P X n).leaves n).on (((offsN P X n).leaves n).goal n) = true := (goal_on (X := (offsN P X n).leaves n) hon2).1
      exact (offsN_right o ⟨q0, hq0⟩ h n (by omega)).off hp hq.1 hq.2 (by rw [h1.cn]; exact g1) hgo
    · exact offsN_right o hon h n (by omega)
theorem Hs.Right.tick (ok : P.Ok) (t : T.Ok P) (o : X.Ok P T) (hon : ∃ q, X.on q = true) (h : X.Right P T) : (X.tick P T).Right P T := by
  have h1 := o.place t
  obtain ⟨m1, _, _, _, _⟩ := place_parts (X := X) (P := P) (T := T)
  obtain ⟨q0, hq0⟩ := hon
  obtain ⟨⟨h2, _, _⟩, m2⟩ := takesN_ok (T := T) ok h1 T.n (Nat.le_refl _)
  obtain ⟨⟨h3, _, _⟩, m3⟩ := spendsN_ok (T := T) ok h2 T.n (Nat.le_refl _)
  have on3 : (spendsN P (takesN P T (X.place P T) T.n) T.n).on q0 = true := by
    unfold Hs.on at hq0 ⊢
    rw [m3, m2, m1]
    exact hq0
  have k1 := takesN_right ok h1 (h.place t) T.n (Nat.le_refl _)
  have k2 := spendsN_right (T := T) ok h2 k1 T.n (Nat.le_refl _)
  have k3 := offsN_right h3 ⟨q0, on3⟩ k2 T.n (Nat.le_refl _)
  rw [tick_eq]
  exact ⟨k3.rk, k3.of, k3.wy, k3.bd, k3.sp⟩
theorem dels_out {l : List Str} : ∀ {m : List (Str × Int)} {x : Str × Int}, x ∈ l.foldl delK m → x ∈ m ∧ x.1 ∉ l := by
  induction l with
  | nil => exact fun h => ⟨h, by simp⟩
  | cons z l ih =>
    intro m x h
    obtain ⟨h1, h2⟩ := ih (m := delK m z) h
    obtain ⟨h3, h4⟩ := delK_mem.mp h1
    exact ⟨h3, fun k => (List.mem_cons.mp k).elim h4 h2⟩
theorem getK_of_mem : ∀ {l : List (Str × Int)}, (l.map (·.1)).Nodup → ∀ {z : Str} {n : Int}, (z, n) ∈ l → getK l z = some n
  | [], _, _, _, h => by cases h
  | x :: l, hn, z, n, h => by
    rw [List.map_cons, List.nodup_cons] at hn
    unfold getK
    rcases List.mem_cons.mp h with e | h
    · rw [← e, List.find?_cons_of_pos (by simp)]
      rfl
    · have hne : x.1 ≠ z := fun e => hn.1 (by rw [e]; exact List.mem_map_of_mem (f := (·.1)) h)
      rw [List.find?_cons_of_neg (by simp [hne])]
      exact getK_of_mem hn.2 h
theorem Hs.Right.deed (o : X.Ok P T) (h : X.Right P T) {d : Deed} (can : d.Can P T X) : (X.deed P d).Right P T := by
  cases d with
  | act w k =>
    obtain ⟨g1, g2⟩ := go_carry (P := P) (B := X.B) (s := (w, k))
    exact ⟨h.rk, h.of, h.wy, g1 h.bd, fun x hx => h.sp x (g2 x hx)⟩
  | leave p =>
    refine ⟨h.rk, fun q k => ?_, h.wy, fun x hx => h.bd x (dels_mem hx), fun x hx => ?_⟩
    · have k : (X.md.set p ("leaving" : Str))[q]? = some ("off" : Str) := k
      by_cases e : p = q
      · rw [← e] at k
        have hpm : X.md[p]? = some ("on" : Str) := of_decide_eq_true can.2.1
        rw [List.getElem?_set_self (List.getElem?_eq_some_iff.mp hpm).1] at k
        exact absurd (Option.some.inj k) (by decide)
      · rw [List.getElem?_set_ne e] at k
        exact h.of q k
    · obtain ⟨h1, h2⟩ := dels_out hx
      obtain ⟨q, e1, e2, e3⟩ := h.sp x h1
      refine ⟨q, e1, ?_, e3⟩
      have hne : p ≠ q := fun e => h2 (List.mem_filter.mpr ⟨P.order_perm.mem_iff.mpr (o.bok.ss x h1), decide_eq_true (getK_of_mem o.bok.sn (by rw [e, ← e1]; exact h1))⟩)
      show decide ((X.md.set p ("leaving" : Str))[q]? = some ("on" : Str)) = true
      rw [List.getElem?_set_ne hne]
      exact e2
  | come p =>
    obtain ⟨hp, m, hm, hne⟩ := can
    refine ⟨h.rk, fun q k => ?_, h.wy, h.bd, fun x hx => ?_⟩
    · have k : (X.md.set p ("on" : Str))[q]? = some ("off" : Str) := k
      by_cases e : p = q
      · rw [← e, List.getElem?_set_self (List.getElem?_eq_some_iff.mp hm).1] at k
        exact absurd (Option.some.inj k) (by decide)
      · rw [List.getElem?_set_ne e] at k
        exact h.of q k
    · obtain ⟨q, e1, e2, e3⟩ := h.sp x hx
      refine ⟨q, e1, ?_, e3⟩
      show decide ((X.md.set p ("on" : Str))[q]? = some ("on" : Str)) = true
      by_cases e : p = q
      · rw [← e, List.getElem?_set_self (List.getElem?_eq_some_iff.mp hm).1]
        simp
      · rw [List.getElem?_set_ne e]
        exact e2
  | move z p =>
    obtain ⟨hz, hp, hon, hw, hnt, hwy⟩ := can
    refine ⟨h.rk, h.of, h.wy, fun x hx => ?_, fun x hx => ?_⟩
    · have hx : x ∈ setK X.B.spots z (p : Int) := hx
      rcases setK_mem hx with hx | rfl
      · exact h.bd x hx
      · exact ⟨hw, hnt⟩
    · have hx : x ∈ setK X.B.spots z (p : Int) := hx
      rcases setK_mem hx with hx | rfl
      · exact h.sp x hx
      · exact ⟨p, rfl, hon, hwy⟩
end
end Z
set_option maxHeartbeats 1000000
namespace Z
open PySem PySem.Spec PyProof.Rows L2
open He (ga ma)
def Bd.rl1 (B : Bd) (k : Nat) (z : Str) : Prop := ∃ t, B.rung[k]? = some (t, z)
structure Fat (B : Bd) : Prop where
  len : B.results.length = B.rung.length
  nd : (B.wanting.map (·.1)).Nodup
  wnd : B.wanted.Nodup
  wk : ∀ z, (∃ n, getK B.wanting z = some n) ↔ z ∈ B.wanted
  tm : ∀ (k : Nat) (t : Int) (z : Str), B.rung[k]? = some (t, z) → t ≤ B.time
  /-- the open ring of a line is the one with which it waits -/
  op : ∀ (k : Nat) (z : Str), B.rl1 k z → (B.results[k]? = some .op ↔ getK B.wanting z = some (k : Int))
  wi : ∀ (z : Str) (n : Int), getK B.wanting z = some n → ∃ k : Nat, n = (k : Int) ∧ B.rl1 k z
  /-- a merged ring names an earlier one of the line that was open then -/
  me : ∀ (k : Nat) (t : Int) (z : Str) (n : Int), B.rung[k]? = some (t, z) → B.results[k]? = some (.me n) → ∃ j : Nat, n = (j : Int) ∧ j < k ∧ B.rl1 j z ∧ (∀ m, B.results[j]? ≠ some (.me m)) ∧ ∀ t2 p, B.results[j]? = some (.se t2 p) → t ≤ t2
  /-- a ring is not served ahead of its tick, nor later than now -/
  se : ∀ (k : Nat) (t : Int) (z : Str) (t2 : Int) (p : Option Int), B.rung[k]? = some (t, z) → B.results[k]? = some (.se t2 p) → t ≤ t2 ∧ t2 ≤ B.time
  /-- behind an open ring of a line stand merged ones alone -/
  af : ∀ (j k : Nat) (z : Str), j < k → B.rl1 j z → B.rl1 k z → B.results[j]? = some .op → ∃ n, B.results[k]? = some (.me n)
  /-- they are served in their order -/
  up : ∀ (j k : Nat) (z : Str) (t1 t2 : Int) (p1 p2 : Option Int), j < k → B.rl1 j z → B.rl1 k z → B.results[j]? = some (.se t1 p1) → B.results[k]? = some (.se t2 p2) → t1 < t2
  /-- a line that is placed has not begun in this tick -/
  sp : ∀ x ∈ B.spots, ∀ (k : Nat) (t : Int) (p : Option Int), B.rl1 k x.1 → B.results[k]? = some (.se t p) → t < B.time
theorem Fat.to {B B' : Bd} (h : Fat B) (e1 : B'.results = B.results) (e2 : B'.rung = B.rung) (e3 : B'.wanting = B.wanting) (e4 : B'.time = B.time) (e5 : ∀ x ∈ B'.spots, x ∈ B.spots) (e6 : B'.wanted = B.wanted) : Fat B' := by
  have r : ∀ k z, B'.rl1 k z ↔ B.rl1 k z := fun k z => by unfold Bd.rl1; rw [e2]
  refine ⟨by rw [e1, e2]; exact h.len, by rw [e3]; exact h.nd, by rw [e6]; exact h.wnd, fun z => by rw [e3, e6]; exact h.wk z, fun k t z => by rw [e2, e4]; exact h.tm k t z, fun k z hk => by rw [e1, e3]; exact h.op k z ((r k z).mp hk), fun z n hn => ?_, fun k t z n a b => ?_, fun k t z t2 p a b => ?_, fun j k z hj a b => by rw [e1]; exact h.af j k z hj ((r j z).mp a) ((r k z).mp b), fun j k z t1 t2 p1 p2 hj a b => by rw [e1]; exact h.up j k z t1 t2 p1 p2 hj ((r j z).mp a) ((r k z).mp b), fun x hx k t p a => by rw [e1, e4]; exact h.sp x (e5 x hx) k t p ((r k x.1).mp a)⟩
  · rw [e3] at hn
    obtain ⟨k, e, hk⟩ := h.wi z n hn
    exact ⟨k, e, (r k z).mpr hk⟩
  · rw [e2] at a
    rw [e1] at b
    obtain ⟨j, a1, a2, a3, a4, a5⟩ := h.me k t z n a b
    exact ⟨j, a1, a2, (r j z).mpr a3, by rw [e1]; exact a4, by rw [e1]; exact a5⟩
  · rw [e2] at a
    rw [e1] at b
    rw [e4]
    exact h.se k t z t2 p a b
section
variable {P : Pl} {B : Bd}
theorem rl1_snoc {B B' : Bd} {x : Int × Str} (e : B'.rung = B.rung ++ [x]) {k : Nat} {z : Str} : B'.rl1 k z ↔ B.rl1 k z ∨ k = B.rung.length ∧ x.2 = z := by
  unfold Bd.rl1
  rw [e]
  constructor
  · rintro ⟨t, h⟩
    by_cases hk : k < B.rung.length
    · rw [List.getElem?_append_left hk] at h
      exact .inl ⟨t, h⟩
    · have : k = B.rung.length := by
        have := (List.getElem?_eq_some_iff.mp h).1
        rw [List.length_append] at this
        simp at this
        omega
      subst this
      rw [List.getElem?_append_right (Nat.le_refl _)] at h
      simp at h
      exact .inr ⟨rfl, by rw [h]⟩
  · rintro (⟨t, h⟩ | ⟨rfl, e2⟩)
    · exact ⟨t, by rw [List.getElem?_append_left (List.getElem?_eq_some_iff.mp h).1]; exact h⟩
    · exact ⟨x.1, by rw [List.getElem?_append_right (Nat.le_refl _)]; simp [← e2]⟩
theorem Fat.tell (h : Fat B) {z : Str} {f : Ft} {B' : Bd} (e1 : B'.results = B.results ++ [f]) (e2 : B'.rung = B.rung ++ [(B.time, z)]) (e4 : B'.time = B.time) (e5 : B'.spots = B.spots)
    (hf : (f = .op ∧ getK B.wanting z = none ∧ B'.wanting = B.wanting ++ [(z, (B.rung.length : Int))]) ∨ (∃ n, f = .me n ∧ getK B.wanting z = some n ∧ B'.wanting = B.wanting))
    (hw : (getK B.wanting z = none → B'.wanted = B.wanted ++ [z]) ∧ (getK B.wanting z ≠ none → B'.wanted = B.wanted)) : Fat B' := by
  have rl := @rl1_snoc B B' (B.time, z) e2
  have len := h.len
  have old : ∀ {k : Nat}, k < B.rung.length → B'.results[k]? = B.results[k]? := fun {k} hk => by rw [e1, List.getElem?_append_left (by omega)]
  have new : B'.results[B.rung.length]? = some f := by rw [e1, List.getElem?_append_right (by omega), len]; simp
  have lt : ∀ {k : Nat} {y : Str}, B.rl1 k y → k < B.rung.length := fun ⟨t, ht⟩ => (List.getElem?_eq_some_iff.mp ht).1
  have ru : ∀ {k : Nat} {t : Int} {y : Str}, B'.rung[k]? = some (t, y) → B.rung[k]? = some (t, y) ∨ k = B.rung.length ∧ t = B.time ∧ y = z := fun {k t y} hk => by
    rw [e2] at hk
    by_cases hl : k < B.rung.length
    · rw [List.getElem?_append_left hl] at hk
      exact .inl hk
    · have hl2 := (List.getElem?_eq_some_iff.mp hk).1
      rw [List.length_append] at hl2
      simp at hl2
      have : k = B.rung.length := by omega
      subst this
      rw [List.getElem?_append_right (Nat.le_refl _)] at hk
      simp at hk
      exact .inr ⟨rfl, hk.1.symm, hk.2.symm⟩
  have lt2 : ∀ {k : Nat} {t : Int} {y : Str}, B.rung[k]? = some (t, y) → k < B.rung.length := fun ht => (List.getElem?_eq_some_iff.mp ht).1
  have wold : ∀ y, y ≠ z → getK B'.wanting y = getK B.wanting y := fun y hy => by
    rcases hf with ⟨_, _, e⟩ | ⟨_, _, _, e⟩
    · rw [e]
      unfold getK
      rw [List.find?_append]
      cases B.wanting.find? (fun x => decide (x.1 = y)) with
      | none => simp [Ne.symm hy]
      | some x => rfl
    · rw [e]
  have snoc : getK B.wanting z = none → ∀ y, getK (B.wanting ++ [(z, (B.rung.length : Int))]) y = if y = z then some (B.rung.length : Int) else getK B.wanting y := fun hn y => by
    unfold getK at hn ⊢
    rw [List.find?_append]
    by_cases hy : y = z
    · subst hy
      rw [if_pos rfl]
      cases q : B.wanting.find? (fun x => decide (x.1 = y)) with
      | none => simp
      | some x => rw [q] at hn; cases hn
    · rw [if_neg hy]
      cases B.wanting.find? (fun x => decide (x.1 = y)) with
      | none => simp [Ne.symm hy]
      | some x => rfl
  refine ⟨by rw [e1, e2, List.length_append, List.length_append, len]; rfl, ?_, ?_, fun y => ?_, fun k t y hk => ?_, fun k y hk => ?_, fun y n hn => ?_, fun k t y n a b => ?_, fun k t y t2 p a b => ?_, fun j k y hj a b c => ?_, fun j k y t1 t2 p1 p2 hj a b c d => ?_, fun x hx k t p a b => ?_⟩
  · rcases hf with ⟨_, hn, e⟩ | ⟨_, _, _, e⟩
    · rw [e, List.map_append, List.nodup_append]
      refine ⟨h.nd, by simp, fun a ha b hb e9 => ?_⟩
      rw [List.map_singleton, List.mem_singleton] at hb
      obtain ⟨x, hx, e3⟩ := List.mem_map.mp ha
      have ex : x.1 = z := e3.trans (e9.trans hb)
      have : getK B.wanting z = some x.2 := getK_of_mem h.nd (by rw [← ex]; exact hx)
      rw [hn] at this
      cases this
    · rw [e]
      exact h.nd
  · rcases hf with ⟨_, hn, e⟩ | ⟨_, _, hn, e⟩
    · rw [hw.1 hn, List.nodup_append]
      refine ⟨h.wnd, by simp, fun a ha b hb e9 => ?_⟩
      rw [List.mem_singleton] at hb
      obtain ⟨n, hn2⟩ := (h.wk a).mpr ha
      rw [e9.trans hb, hn] at hn2
      cases hn2
    · rw [hw.2 (by rw [hn]; simp)]
      exact h.wnd
  · rcases hf with ⟨_, hn, e⟩ | ⟨_, _, hn, e⟩
    · rw [hw.1 hn, e, snoc hn, List.mem_append, List.mem_singleton]
      by_cases hy : y = z
      · rw [if_pos hy]
        exact ⟨fun _ => .inr hy, fun _ => ⟨_, rfl⟩⟩
      · rw [if_neg hy, h.wk y]
        exact ⟨.inl, fun k => k.elim id fun k => absurd k hy⟩
    · rw [hw.2 (by rw [hn]; simp), e]
      exact h.wk y
  · rcases ru hk with k1 | ⟨_, k2, _⟩
    · rw [e4]
      exact h.tm k t y k1
    · rw [e4, k2]
      exact Int.le_refl _
  · rcases rl.mp hk with k1 | ⟨rfl, k2⟩
    · rw [old (lt k1)]
      by_cases hy : y = z
      · subst hy
        rcases hf with ⟨_, hn, e⟩ | ⟨_, _, _, e⟩
        · rw [h.op k y k1, hn, e]
          have : getK (B.wanting ++ [(y, (B.rung.length : Int))]) y = some (B.rung.length : Int) := by
            unfold getK at hn ⊢
            rw [List.find?_append]
            cases q : B.wanting.find? (fun x => decide (x.1 = y)) with
            | none => simp
            | some x => rw [q] at hn; cases hn
          rw [this]
          constructor
          · intro q
            cases q
          · intro q
            have := Option.some.inj q
            have := lt k1
            omega
        · rw [e]
          exact h.op k y k1
      · rw [wold y hy]
        exact h.op k y k1
    · have k2 : z = y := k2
      subst k2
      rw [new]
      rcases hf with ⟨rfl, hn, e⟩ | ⟨n, rfl, hn, e⟩
      · have : getK B'.wanting z = some (B.rung.length : Int) := by
          rw [e]
          unfold getK at hn ⊢
          rw [List.find?_append]
          cases q : B.wanting.find? (fun x => decide (x.1 = z)) with
          | none => simp
          | some x => rw [q] at hn; cases hn
        rw [this]
        exact ⟨fun _ => rfl, fun _ => rfl⟩
      · rw [e, hn]
        constructor
        · intro q
          cases q
        · intro q
          obtain ⟨k, e3, hk3⟩ := h.wi z n hn
          have := Option.some.inj q
          have := lt hk3
          omega
  · by_cases hy : y = z
    · subst hy
      rcases hf with ⟨_, hn0, e⟩ | ⟨m, _, hn0, e⟩
      · rw [e] at hn
        have : getK (B.wanting ++ [(y, (B.rung.length : Int))]) y = some (B.rung.length : Int) := by
          unfold getK at hn0 ⊢
          rw [List.find?_append]
          cases q : B.wanting.find? (fun x => decide (x.1 = y)) with
          | none => simp
          | some x => rw [q] at hn0; cases hn0
        rw [this] at hn
        exact ⟨B.rung.length, (Option.some.inj hn).symm, rl.mpr (.inr ⟨rfl, rfl⟩)⟩
      · rw [e] at hn
        obtain ⟨k, e3, hk3⟩ := h.wi y n hn
        exact ⟨k, e3, rl.mpr (.inl hk3)⟩
    · rw [wold y hy] at hn
      obtain ⟨k, e3, hk3⟩ := h.wi y n hn
      exact ⟨k, e3, rl.mpr (.inl hk3)⟩
  · rcases ru a with k1 | ⟨rfl, rfl, rfl⟩
    · rw [old (lt2 k1)] at b
      obtain ⟨j, a1, a2, a3, a4, a5⟩ := h.me k t y n k1 b
      exact ⟨j, a1, a2, rl.mpr (.inl a3), by rw [old (lt a3)]; exact a4, by rw [old (lt a3)]; exact a5⟩
    · rw [new] at b
      rcases hf with ⟨rfl, _, _⟩ | ⟨m, rfl, hm, _⟩
      · cases b
      · have : m = n := by
          have := Option.some.inj b
          injection this
        subst this
        obtain ⟨j, e3, hj3⟩ := h.wi y m hm
        have ho : B.results[j]? = some .op := (h.op j y hj3).mpr (by rw [hm, e3])
        refine ⟨j, e3, lt hj3, rl.mpr (.inl hj3), fun m2 q => ?_, fun t2 p q => ?_⟩
        · rw [old (lt hj3), ho] at q
          cases q
        · rw [old (lt hj3), ho] at q
          cases q
  · rcases ru a with k1 | ⟨rfl, rfl, rfl⟩
    · rw [old (lt2 k1)] at b
      rw [e4]
      exact h.se k t y t2 p k1 b
    · rw [new] at b
      rcases hf with ⟨rfl, _, _⟩ | ⟨m, rfl, hm, _⟩ <;> cases b
  · rcases rl.mp a with a1 | ⟨rfl, a2⟩
    · rw [old (lt a1)] at c
      rcases rl.mp b with b1 | ⟨rfl, b2⟩
      · rw [old (lt b1)]
        exact h.af j k y hj a1 b1 c
      · have b2 : z = y := b2
        subst b2
        rw [new]
        have := (h.op j z a1).mp c
        rcases hf with ⟨_, hn, _⟩ | ⟨m, rfl, _, _⟩
        · rw [hn] at this
          cases this
        · exact ⟨m, rfl⟩
    · rcases rl.mp b with b1 | ⟨rfl, _⟩
      · have := lt b1
        omega
      · omega
  · rcases rl.mp a with a1 | ⟨rfl, a2⟩
    · rw [old (lt a1)] at c
      rcases rl.mp b with b1 | ⟨rfl, b2⟩
      · rw [old (lt b1)] at d
        exact h.up j k y t1 t2 p1 p2 hj a1 b1 c d
      · rw [new] at d
        rcases hf with ⟨rfl, _, _⟩ | ⟨m, rfl, _, _⟩ <;> cases d
    · rcases rl.mp b with b1 | ⟨rfl, _⟩
      · have := lt b1
        omega
      · omega
  · rw [e5] at hx
    rw [e4]
    rcases rl.mp a with a1 | ⟨rfl, a2⟩
    · rw [old (lt a1)] at b
      exact h.sp x hx k t p a1 b
    · rw [new] at b
      rcases hf with ⟨rfl, _, _⟩ | ⟨m, rfl, _, _⟩ <;> cases b
theorem Fat.ring (h : Fat B) {z : Str} : Fat (B.ring P z).1 := by
  unfold Bd.ring
  split
  · split
    · rename_i hw
      obtain ⟨n, hn⟩ := (h.wk z).mpr hw
      exact h.tell (f := .me ((getK B.wanting z).getD 0)) rfl rfl rfl rfl (.inr ⟨n, by rw [hn]; rfl, hn, rfl⟩) ⟨fun k => (by rw [hn] at k; cases k), fun _ => rfl⟩
    · rename_i hw
      have hn : getK B.wanting z = none := by
        cases q : getK B.wanting z with
        | none => rfl
        | some n => exact absurd ((h.wk z).mp ⟨n, q⟩) hw
      exact h.tell (f := .op) rfl rfl rfl rfl (.inl ⟨rfl, hn, rfl⟩) ⟨fun _ => rfl, fun k => absurd hn k⟩
  · split
    · exact h.to rfl rfl rfl rfl (fun _ h => h) rfl
    · exact h.to rfl rfl rfl rfl (fun _ h => h) rfl
theorem Fat.carry (h : Fat B) {s : Str × Key} : Fat (B.carry P s).1 := by
  unfold Bd.carry
  split
  · exact h.ring
  · split
    · exact h.to rfl rfl rfl rfl (fun x hx => (delK_mem.mp hx).1) rfl
    · repeat (first | exact h.to rfl rfl rfl rfl (fun _ h => h) rfl | split)
theorem rl1_one {k : Nat} {y z : Str} (a : B.rl1 k y) (b : B.rl1 k z) : y = z := by
  obtain ⟨t, a⟩ := a
  obtain ⟨u, b⟩ := b
  rw [a] at b
  have := Option.some.inj b
  injection this
theorem getK_delK_self {l : List (Str × Int)} {z : Str} : getK (delK l z) z = none := by
  unfold getK delK
  rw [List.find?_eq_none.mpr fun x hx => by
    have := (List.mem_filter.mp hx).2
    simpa using this]
  rfl
theorem Fat.begun (h : Fat B) {z : Str} (hz : ∃ x ∈ B.spots, x.1 = z) : Fat (B.begun z) := by
  have hw2 : ∀ y, y ∈ (putL B.wanted z false).1 ↔ y ∈ B.wanted ∧ y ≠ z := fun y => by
    unfold putL
    split
    · rename_i q
      have q : z ∉ B.wanted := by simpa using q
      exact ⟨fun k => ⟨k, fun e => q (by rw [← e]; exact k)⟩, fun k => k.1⟩
    · rw [if_neg (by decide), List.Nodup.mem_erase_iff h.wnd]
      exact And.comm
  have hwn : (putL B.wanted z false).1.Nodup := by
    unfold putL
    split
    · exact h.wnd
    · rw [if_neg (by decide)]
      exact List.Nodup.erase _ h.wnd
  have hdn : ((delK B.wanting z).map (·.1)).Nodup := delK_nd h.nd
  have hwk : ∀ y, (∃ n, getK (delK B.wanting z) y = some n) ↔ y ∈ (putL B.wanted z false).1 := fun y => by
    rw [hw2]
    by_cases hy : y = z
    · subst hy
      rw [getK_delK_self]
      exact ⟨fun ⟨_, k⟩ => (by cases k), fun k => absurd rfl k.2⟩
    · rw [getK_delK_ne hy, h.wk y]
      exact ⟨fun k => ⟨k, hy⟩, fun k => k.1⟩
  have sub : ∀ x ∈ delK B.spots z, x ∈ B.spots ∧ x.1 ≠ z := fun x hx => delK_mem.mp hx
  unfold Bd.begun
  cases q : getK B.wanting z with
  | none =>
    have e : ∀ y, getK (delK B.wanting z) y = getK B.wanting y := fun y => by
      by_cases hy : y = z
      · rw [hy, getK_delK_self, q]
      · exact getK_delK_ne hy
    exact ⟨h.len, hdn, hwn, hwk, h.tm, fun k y hk => by rw [e]; exact h.op k y hk, fun y n hn => by rw [e] at hn; exact h.wi y n hn, h.me, h.se, h.af, h.up, fun x hx => h.sp x (sub x hx).1⟩
  | some n =>
    obtain ⟨k, rfl, hk⟩ := h.wi z n q
    have ho : B.results[k]? = some .op := (h.op k z hk).mpr q
    have hkl : k < B.results.length := (List.getElem?_eq_some_iff.mp ho).1
    dsimp only
    rw [show ((k : Int)).toNat = k by omega]
    have at1 : (B.results.set k (.se B.time B.here))[k]? = some (.se B.time B.here) := List.getElem?_set_self hkl
    have ne : ∀ {j : Nat}, j ≠ k → (B.results.set k (.se B.time B.here))[j]? = B.results[j]? := fun {j} hj => List.getElem?_set_ne (Ne.symm hj)
    obtain ⟨tk, htk⟩ := hk
    refine ⟨by show (B.results.set k _).length = _; rw [List.length_set]; exact h.len, hdn, hwn, hwk, h.tm, fun j y hj => ?_, fun y n hn => ?_, fun j t y n a b => ?_, fun j t y t2 p a b => ?_, fun i j y hij a b c => ?_, fun i j y t1 t2 p1 p2 hij a b c d => ?_, fun x hx j t p a b => ?_⟩
    · have hj : B.rl1 j y := hj
      show (B.results.set k (.se B.time B.here))[j]? = some .op ↔ getK (delK B.wanting z) y = some (j : Int)
      by_cases e : j = k
      · subst e
        rw [at1, rl1_one hj ⟨tk, htk⟩, getK_delK_self]
        exact ⟨fun c => (by cases c), fun c => (by cases c)⟩
      · rw [ne e]
        by_cases hy : y = z
        · subst hy
          rw [getK_delK_self, h.op j y hj, q]
          exact ⟨fun c => absurd (Option.some.inj c) (by omega), fun c => (by cases c)⟩
        · rw [getK_delK_ne hy]
          exact h.op j y hj
    · have hn : getK (delK B.wanting z) y = some n := hn
      by_cases hy : y = z
      · rw [hy, getK_delK_self] at hn
        cases hn
      · rw [getK_delK_ne hy] at hn
        exact h.wi y n hn
    · have b : (B.results.set k (.se B.time B.here))[j]? = some (.me n) := b
      have hne : j ≠ k := fun e => by rw [e, at1] at b; cases b
      rw [ne hne] at b
      obtain ⟨i, a1, a2, a3, a4, a5⟩ := h.me j t y n a b
      refine ⟨i, a1, a2, a3, fun m c => ?_, fun t2 p c => ?_⟩
      · have c : (B.results.set k (.se B.time B.here))[i]? = some (.me m) := c
        by_cases e : i = k
        · rw [e, at1] at c
          cases c
        · rw [ne e] at c
          exact a4 m c
      · have c : (B.results.set k (.se B.time B.here))[i]? = some (.se t2 p) := c
        by_cases e : i = k
        · rw [e, at1] at c
          have := Option.some.inj c
          injection this with e1 _
          rw [← e1]
          exact h.tm j t y a
        · rw [ne e] at c
          exact a5 t2 p c
    · have b : (B.results.set k (.se B.time B.here))[j]? = some (.se t2 p) := b
      by_cases e : j = k
      · rw [e, at1] at b
        have := Option.some.inj b
        injection this with e1 _
        rw [← e1]
        exact ⟨h.tm j t y a, Int.le_refl _⟩
      · rw [ne e] at b
        exact h.se j t y t2 p a b
    · have c : (B.results.set k (.se B.time B.here))[i]? = some .op := c
      have hi : i ≠ k := fun e => by rw [e, at1] at c; cases c
      rw [ne hi] at c
      obtain ⟨m, hm⟩ := h.af i j y hij a b c
      have hj : j ≠ k := fun e => by rw [e, ho] at hm; cases hm
      exact ⟨m, by show (B.results.set k (.se B.time B.here))[j]? = _; rw [ne hj]; exact hm⟩
    · have c : (B.results.set k (.se B.time B.here))[i]? = some (.se t1 p1) := c
      have d : (B.results.set k (.se B.time B.here))[j]? = some (.se t2 p2) := d
      by_cases ei : i = k
      · subst ei
        have hy := rl1_one a ⟨tk, htk⟩
        obtain ⟨m, hm⟩ := h.af i j y hij a b ho
        have hj : j ≠ i := by omega
        rw [ne hj, hm] at d
        cases d
      · rw [ne ei] at c
        by_cases ej : j = k
        · have hy := rl1_one (by rw [← ej]; exact b) ⟨tk, htk⟩
          rw [ej, at1] at d
          have := Option.some.inj d
          injection this with e1 _
          obtain ⟨x, hx, ex⟩ := hz
          rw [← e1]
          exact h.sp x hx i t1 p1 (by rw [ex, ← hy]; exact a) c
        · rw [ne ej] at d
          exact h.up i j y t1 t2 p1 p2 hij a b c d
    · obtain ⟨hx1, hx2⟩ := sub x hx
      have b : (B.results.set k (.se B.time B.here))[j]? = some (.se t p) := b
      have hj : j ≠ k := fun e => hx2 (by rw [e] at a; exact rl1_one a ⟨tk, htk⟩)
      rw [ne hj] at b
      exact h.sp x hx1 j t p a b
theorem Fat.ended (h : Fat B) {z : Str} : Fat (B.ended z) := h.to rfl rfl rfl rfl (fun _ h => h) rfl
theorem Fat.stepFx (h : Fat B) {lim : Int} {jobs : List (Str × Nat)} {s : Str × Key} : Fat (stepFx P lim jobs B s).2.2 := by
  unfold Z.stepFx
  split
  · exact h
  · split
    · exact h
    · split
      · exact h.carry
      · exact h
end
end Z
set_option maxHeartbeats 1000000
namespace Z
open PySem PySem.Spec PyProof.Rows L2
open He (ga ma)
def Fre (B : Bd) : Prop := ∀ (k : Nat) (t : Int) (z : Str) (t2 : Int) (p : Option Int), B.rung[k]? = some (t, z) → B.results[k]? = some (.se t2 p) → t2 < B.time
section
variable {P : Pl} {T : HPl} {X : Hs} {B : Bd}
theorem Fre.to (h : Fre B) {B' : Bd} (e1 : B'.results = B.results) (e2 : B'.rung = B.rung) (e4 : B'.time = B.time) : Fre B' := fun k t z t2 p a b => by
  rw [e2] at a
  rw [e1] at b
  rw [e4]
  exact h k t z t2 p a b
theorem Fre.tell (h : Fre B) (len : B.results.length = B.rung.length) {f : Ft} {x : Int × Str} {B' : Bd} (e1 : B'.results = B.results ++ [f]) (e2 : B'.rung = B.rung ++ [x]) (e4 : B'.time = B.time) (hf : ∀ t p, f ≠ .se t p) : Fre B' := fun k t z t2 p a b => by
  rw [e2] at a
  rw [e1] at b
  rw [e4]
  by_cases hk : k < B.rung.length
  · rw [List.getElem?_append_left hk] at a
    rw [List.getElem?_append_left (by omega)] at b
    exact h k t z t2 p a b
  · have := (List.getElem?_eq_some_iff.mp a).1
    rw [List.length_append] at this
    simp at this
    have : k = B.results.length := by omega
    rw [this, List.getElem?_append_right (Nat.le_refl _)] at b
    simp at b
    exact absurd b (hf t2 p)
theorem Fre.ring (len : B.results.length = B.rung.length) (h : Fre B) {z : Str} : Fre (B.ring P z).1 := by
  unfold Bd.ring
  split
  · split
    · exact h.tell len rfl rfl rfl fun _ _ k => by cases k
    · exact h.tell len rfl rfl rfl fun _ _ k => by cases k
  · split
    · exact h.to rfl rfl rfl
    · exact h.to rfl rfl rfl
theorem Fre.carry (len : B.results.length = B.rung.length) (h : Fre B) {s : Str × Key} : Fre (B.carry P s).1 := by
  unfold Bd.carry
  split
  · exact h.ring len
  · split
    · exact h.to rfl rfl rfl
    · repeat (first | exact h.to rfl rfl rfl | split)
theorem Fat.spots (h : Fat B) (f : Fre B) {s : List (Str × Int)} : Fat { B with spots := s } :=
  ⟨h.len, h.nd, h.wnd, h.wk, h.tm, h.op, h.wi, h.me, h.se, h.af, h.up, fun x _ k t p ⟨t0, a⟩ b => f k t0 x.1 t p a b⟩
end
end Z
set_option maxHeartbeats 1000000
namespace Z
open PySem PySem.Spec PyProof.Rows L2
open He (ga ma)
def dFrm (f : Frm) : PyData := .tuple [.str f.ln, .int f.st, .int f.tk, .int f.kp]
def sortS (l : List Str) : List Str := l.mergeSort (PySem.W.dataLe false PyData.str)
def sortI (l : List Int) : List Int := l.mergeSort (PySem.W.dataLe false PyData.int)
theorem sortS_perm (l : List Str) : (sortS l).Perm l := List.mergeSort_perm _ _
def dStrs (l : List Str) : PyData := .tuple (l.map PyData.str)
def dInts (l : List Int) : PyData := .tuple (l.map PyData.int)
def bdD (B : Bd) : PyData := .tuple [dStrs (sortS B.shut), dStrs (sortS B.wanted), dStrs (sortS B.high), dStrs (sortS B.taken), dInts (sortI B.raised)]
def crD (P : Pl) (C : Cr) : PyData := .tuple [.tuple (C.frames.map dFrm), .int C.limit, .tuple ((queueOf P C.jobs).map dJob)]
theorem perm_rise {α : Type} (f : α → Nat) : ∀ {l m : List α}, l.Perm m → l.Pairwise (fun a b => f a < f b) → m.Pairwise (fun a b => f a < f b) → l = m
  | [], m, p, _, _ => (List.Perm.nil_eq p)
  | x :: l, [], p, _, _ => by have := p.length_eq; simp at this
  | x :: l, y :: m, p, hl, hm => by
    obtain ⟨l1, l2⟩ := List.pairwise_cons.mp hl
    obtain ⟨m1, m2⟩ := List.pairwise_cons.mp hm
    have e : x = y := by
      rcases List.mem_cons.mp (p.mem_iff.mp (List.mem_cons_self (a := x) (l := l))) with h | h
      · exact h
      · rcases List.mem_cons.mp (p.mem_iff.mpr (List.mem_cons_self (a := y) (l := m))) with q | q
        · exact q.symm
        · have := m1 _ h
          have := l1 _ q
          omega
    subst e
    rw [perm_rise f (List.Perm.cons_inv p) l2 m2]
def rkJ (P : Pl) (j : Str × Nat) : Int := (P.wk j.1).rk
def srtJ (P : Pl) (jobs : List (Str × Nat)) : List ((Str × Nat) × Nat) := jobs.zipIdx.mergeSort (PySem.W.dataLe false (jobD P))
theorem queue_srt (P : Pl) (jobs : List (Str × Nat)) : queueOf P jobs = (srtJ P jobs).map (·.1) := by
  unfold queueOf places
  rw [List.map_map]
  apply List.map_congr_left
  intro x hx
  have hx : x ∈ jobs.zipIdx := List.mem_mergeSort.mp hx
  have h := List.mem_zipIdx_iff_getElem?.mp hx
  show jobAt jobs x.2 = x.1
  unfold jobAt
  rw [h]
  rfl
theorem queue_sorted (P : Pl) (jobs : List (Str × Nat)) : (queueOf P jobs).Pairwise fun a b => rkJ P b ≤ rkJ P a := by
  rw [queue_srt]
  refine List.Pairwise.map _ (fun a b h => ?_) (places_sorted P jobs)
  rw [jobLe, decide_eq_true_eq] at h
  show (P.wk b.1.1).rk ≤ (P.wk a.1.1).rk
  omega
theorem zipIdx_rise {α : Type} : ∀ (l : List α) (n : Nat), (l.zipIdx n).Pairwise fun a b => a.2 < b.2
  | [], _ => .nil
  | x :: l, n => by
    rw [List.zipIdx_cons, List.pairwise_cons]
    refine ⟨fun y hy => ?_, zipIdx_rise l (n + 1)⟩
    have := (List.mem_zipIdx hy).1
    show n < y.2
    omega
theorem filt_fst {α : Type} (p : α → Bool) : ∀ (l : List α) (n : Nat), ((l.zipIdx n).filter fun x => p x.1).map (·.1) = l.filter p
  | [], _ => rfl
  | x :: l, n => by
    rw [List.zipIdx_cons]
    by_cases h : p x = true
    · rw [List.filter_cons_of_pos (p := fun x : α × Nat => p x.1) (a := (x, n)) h, List.filter_cons_of_pos h, List.map_cons, filt_fst p l (n + 1)]
    · rw [List.filter_cons_of_neg (p := fun x : α × Nat => p x.1) (a := (x, n)) h, List.filter_cons_of_neg h, filt_fst p l (n + 1)]
theorem queue_filter (P : Pl) (jobs : List (Str × Nat)) (r : Int) : (queueOf P jobs).filter (fun j => decide (rkJ P j = r)) = jobs.filter fun j => decide (rkJ P j = r) := by
  rw [queue_srt, List.filter_map, ← filt_fst (fun j => decide (rkJ P j = r)) jobs 0]
  have e : (srtJ P jobs).filter ((fun j => decide (rkJ P j = r)) ∘ fun x => x.1) = jobs.zipIdx.filter fun x => decide (rkJ P x.1 = r) := by
    refine perm_rise (fun x => x.2) ((List.mergeSort_perm _ _).filter _) ?_ ((zipIdx_rise jobs 0).sublist List.filter_sublist)
    have nd : (srtJ P jobs).Pairwise fun a b => a.2 ≠ b.2 := by
      have h : ((srtJ P jobs).map (·.2)).Nodup := by
        have := (places_perm P jobs).nodup_iff.mpr List.nodup_range
        exact this
      exact List.pairwise_map.mp h
    have h2 := (places_sorted P jobs)
    have h3 : ((srtJ P jobs).filter ((fun j => decide (rkJ P j = r)) ∘ fun x => x.1)).Pairwise fun a b => (PySem.W.dataLe false (jobD P) a b = true ∧ a.2 ≠ b.2) := (List.Pairwise.and h2 nd).sublist List.filter_sublist
    refine h3.imp_of_mem fun {a b} ha hb h => ?_
    have ra : rkJ P a.1 = r := of_decide_eq_true (List.mem_filter.mp ha).2
    have rb : rkJ P b.1 = r := of_decide_eq_true (List.mem_filter.mp hb).2
    obtain ⟨h4, h5⟩ := h
    rw [jobLe, decide_eq_true_eq] at h4
    unfold rkJ at ra rb
    omega
  rw [e]
def JR (P : Pl) (l m : List (Str × Nat)) : Prop := ∀ r, l.filter (fun j => decide (rkJ P j = r)) = m.filter fun j => decide (rkJ P j = r)
theorem JR.mem {P : Pl} {l m : List (Str × Nat)} (h : JR P l m) {j : Str × Nat} : j ∈ l ↔ j ∈ m := by
  have e := h (rkJ P j)
  have h1 : j ∈ l ↔ j ∈ l.filter fun x => decide (rkJ P x = rkJ P j) := by simp [List.mem_filter]
  have h2 : j ∈ m ↔ j ∈ m.filter fun x => decide (rkJ P x = rkJ P j) := by simp [List.mem_filter]
  rw [h1, h2, e]
theorem sorted_one2 {P : Pl} : ∀ {l m : List (Str × Nat)}, l.Pairwise (fun a b => rkJ P b ≤ rkJ P a) → m.Pairwise (fun a b => rkJ P b ≤ rkJ P a) → JR P l m → l = m
  | [], [], _, _, _ => rfl
  | [], y :: m, _, _, h => by have := h.mem.mpr (List.mem_cons_self (a := y) (l := m)); cases this
  | x :: l, [], _, _, h => by have := h.mem.mp (List.mem_cons_self (a := x) (l := l)); cases this
  | x :: l, y :: m, hl, hm, h => by
    obtain ⟨l1, l2⟩ := List.pairwise_cons.mp hl
    obtain ⟨m1, m2⟩ := List.pairwise_cons.mp hm
    have r1 : rkJ P x ≤ rkJ P y := by
      rcases List.mem_cons.mp (h.mem.mp (List.mem_cons_self (a := x) (l := l))) with q | q
      · rw [q]; exact Int.le_refl _
      · exact m1 _ q
    have r2 : rkJ P y ≤ rkJ P x := by
      rcases List.mem_cons.mp (h.mem.mpr (List.mem_cons_self (a := y) (l := m))) with q | q
      · rw [q]; exact Int.le_refl _
      · exact l1 _ q
    have re : rkJ P x = rkJ P y := by omega
    have e := h (rkJ P x)
    rw [List.filter_cons_of_pos (by simp), List.filter_cons_of_pos (by simp [re])] at e
    injection e with e1 e2
    subst e1
    rw [sorted_one2 l2 m2 fun r => ?_]
    by_cases hr : rkJ P x = r
    · rw [← hr]
      exact e2
    · have := h r
      rwa [List.filter_cons_of_neg (by simp [hr]), List.filter_cons_of_neg (by simp [hr])] at this
theorem JR.queue {P : Pl} {l m : List (Str × Nat)} (h : JR P l m) : queueOf P l = queueOf P m := sorted_one2 (queue_sorted P l) (queue_sorted P m) fun r => by rw [queue_filter, queue_filter, h r]
theorem JR.leave {P : Pl} {l m : List (Str × Nat)} (h : JR P l m) (z : Str) : JR P (leave l z) (leave m z) := fun r => by
  unfold Z.leave
  by_cases hz : (z, 0) ∈ l
  · rw [if_pos hz, if_pos (h.mem.mp hz)]
    exact h r
  · rw [if_neg hz, if_neg fun q => hz (h.mem.mpr q), List.filter_append, List.filter_append, h r]
theorem first_work {P : Pl} {jobs : List (Str × Nat)} {k : Nat} {t : List Nat} (h : places P jobs = k :: t) : ∃ j pre post, jobs[k]? = some j ∧ jobs = pre ++ j :: post ∧ pre.length = k ∧ (∀ x ∈ pre, rkJ P x < rkJ P j) ∧ (queueOf P jobs).head? = some j := by
  have hk : k < jobs.length := places_lt (P := P) (by rw [h]; simp)
  refine ⟨jobs[k], jobs.take k, jobs.drop (k + 1), List.getElem?_eq_getElem hk, ?_, by rw [List.length_take]; omega, fun x hx => ?_, ?_⟩
  · rw [← List.drop_eq_getElem_cons hk, List.take_append_drop]
  · obtain ⟨i, hi⟩ := List.mem_iff_getElem?.mp hx
    have hi2 : i < k ∧ jobs[i]? = some x := by
      rw [List.getElem?_take] at hi
      split at hi
      · rename_i q
        exact ⟨q, hi⟩
      · cases hi
    have hs := places_sorted P jobs
    have hsp : ∃ y s', jobs.zipIdx.mergeSort (PySem.W.dataLe false (jobD P)) = y :: s' ∧ y.2 = k := by
      have h' := h
      unfold places at h'
      cases e : jobs.zipIdx.mergeSort (PySem.W.dataLe false (jobD P)) with
      | nil => rw [e] at h'; cases h'
      | cons y s' =>
        rw [e] at h'
        injection h' with h1 h2
        exact ⟨y, s', rfl, h1⟩
    obtain ⟨y, s', hy, hyk⟩ := hsp
    have hyj : y.1 = jobs[k] := by
      have : y ∈ jobs.zipIdx := List.mem_mergeSort.mp (by rw [hy]; simp)
      have := List.mem_zipIdx_iff_getElem?.mp this
      rw [hyk, List.getElem?_eq_getElem hk] at this
      exact (Option.some.inj this).symm
    have hxm : (x, i) ∈ y :: s' := by
      rw [← hy]
      exact List.mem_mergeSort.mpr (List.mem_zipIdx_iff_getElem?.mpr hi2.2)
    rw [hy] at hs
    rcases List.mem_cons.mp hxm with q | q
    · have : i = k := by rw [← hyk, ← q]
      omega
    · have := (List.pairwise_cons.mp hs).1 _ q
      rw [jobLe, decide_eq_true_eq] at this
      show (P.wk x.1).rk < (P.wk jobs[k].1).rk
      rw [← hyj]
      have hi3 := hi2.1
      dsimp only at this
      omega
  · unfold queueOf
    rw [h]
    show some (jobAt jobs k) = _
    unfold jobAt
    rw [List.getElem?_eq_getElem hk]
    rfl
theorem filter_set {P : Pl} {jobs : List (Str × Nat)} {k : Nat} {t : List Nat} (h : places P jobs = k :: t) : ∃ j, jobs[k]? = some j ∧ (queueOf P jobs).head? = some j ∧ ∀ r,
    (∀ n, (jobs.set k (j.1, n)).filter (fun x => decide (rkJ P x = r)) = if rkJ P j = r then (j.1, n) :: (jobs.filter fun x => decide (rkJ P x = r)).tail else jobs.filter fun x => decide (rkJ P x = r)) ∧
    (jobs.eraseIdx k).filter (fun x => decide (rkJ P x = r)) = if rkJ P j = r then (jobs.filter fun x => decide (rkJ P x = r)).tail else jobs.filter fun x => decide (rkJ P x = r) := by
  obtain ⟨j, pre, post, hj, e, hl, hp, hh⟩ := first_work h
  refine ⟨j, hj, hh, fun r => ?_⟩
  have e1 : ∀ n, jobs.set k (j.1, n) = pre ++ (j.1, n) :: post := fun n => by
    rw [e, ← hl, List.set_append_right _ _ (Nat.le_refl _), Nat.sub_self, List.set_cons_zero]
  have e2 : jobs.eraseIdx k = pre ++ post := by
    rw [e, ← hl, List.eraseIdx_append_of_length_le (Nat.le_refl _), Nat.sub_self, List.eraseIdx_cons_zero]
  have e3 : rkJ P j = r → pre.filter (fun x => decide (rkJ P x = r)) = [] := fun hr => List.filter_eq_nil_iff.mpr fun x hx => by
    have := hp x hx
    simp only [decide_eq_true_eq]
    omega
  have rkn : ∀ n, rkJ P (j.1, n) = rkJ P j := fun n => rfl
  refine ⟨fun n => ?_, ?_⟩
  · rw [e1 n, e, List.filter_append, List.filter_append]
    by_cases hr : rkJ P j = r
    · rw [if_pos hr, e3 hr, List.filter_cons_of_pos (by rw [rkn, hr]; simp), List.filter_cons_of_pos (by rw [hr]; simp)]
      rfl
    · rw [if_neg hr, List.filter_cons_of_neg (by rw [rkn]; simpa using hr), List.filter_cons_of_neg (by simpa using hr)]
  · rw [e2, e, List.filter_append, List.filter_append]
    by_cases hr : rkJ P j = r
    · rw [if_pos hr, e3 hr, List.filter_cons_of_pos (by rw [hr]; simp)]
      rfl
    · rw [if_neg hr, List.filter_cons_of_neg (by simpa using hr)]
theorem places_nil {P : Pl} {l : List (Str × Nat)} : places P l = [] ↔ l = [] := by
  constructor
  · intro h
    have := places_len P l
    rw [h] at this
    exact List.eq_nil_of_length_eq_zero this.symm
  · rintro rfl
    exact List.eq_nil_of_length_eq_zero (places_len P [])
theorem JR.nil {P : Pl} {l m : List (Str × Nat)} (h : JR P l m) : l = [] ↔ m = [] := by
  constructor
  · rintro rfl
    cases m with
    | nil => rfl
    | cons y m => have := h.mem.mpr (List.mem_cons_self (a := y) (l := m)); cases this
  · rintro rfl
    cases l with
    | nil => rfl
    | cons y l => have := h.mem.mp (List.mem_cons_self (a := y) (l := l)); cases this
theorem JR.work {P : Pl} {l m : List (Str × Nat)} (h : JR P l m) : JR P (doWork P l).1 (doWork P m).1 ∧ (doWork P m).2 = (doWork P l).2 := by
  unfold doWork
  cases e1 : places P l with
  | nil =>
    have : places P m = [] := places_nil.mpr (h.nil.mp (places_nil.mp e1))
    rw [this]
    exact ⟨h, rfl⟩
  | cons k t =>
    cases e2 : places P m with
    | nil =>
      have : places P l = [] := places_nil.mpr (h.nil.mpr (places_nil.mp e2))
      rw [this] at e1
      cases e1
    | cons k' t' =>
      obtain ⟨j, hj, hh, hf⟩ := filter_set e1
      obtain ⟨j', hj', hh', hf'⟩ := filter_set e2
      have ej : j = j' := by
        rw [h.queue, hh'] at hh
        exact (Option.some.inj hh).symm
      subst ej
      dsimp only
      rw [hj, hj']
      dsimp only
      split
      · exact ⟨fun r => by rw [(hf r).1, (hf' r).1, h r], rfl⟩
      · exact ⟨fun r => by rw [(hf r).2, (hf' r).2, h r], rfl⟩
end Z
set_option maxHeartbeats 1000000
namespace Z
open PySem PySem.Spec PyProof.Rows L2
open He (ga ma)
structure CpC (P : Pl) (C C' : Cr) : Prop where
  fr : C'.frames = C.frames
  lim : C'.limit = C.limit
  jb : JR P C.jobs C'.jobs
structure CpB (B B' : Bd) : Prop where
  sh : B'.shut.Perm B.shut
  wa : B'.wanted.Perm B.wanted
  hi : B'.high.Perm B.high
  ta : B'.taken.Perm B.taken
  ra : B'.raised.Perm B.raised
  jo : B'.joined = B.joined
  tm : B'.time = B.time
  sp : B'.spots = B.spots
  ru : B'.rung = B.rung
  re : B'.results = B.results
  wt : B'.wanting = B.wanting
structure CpR (P : Pl) (r r' : Cr × Bd × List Ev) : Prop where
  c : CpC P r.1 r'.1
  b : CpB r.2.1 r'.2.1
  e : r'.2.2 = r.2.2
theorem putL_perm {α : Type} [DecidableEq α] {l m : List α} (p : m.Perm l) (x : α) (b : Bool) : (putL m x b).1.Perm (putL l x b).1 ∧ (putL m x b).2 = (putL l x b).2 := by
  unfold putL
  have e : decide (x ∈ m) = decide (x ∈ l) := decide_eq_decide.mpr p.mem_iff
  rw [e]
  split
  · exact ⟨p, rfl⟩
  · refine ⟨?_, rfl⟩
    dsimp only
    split
    · exact p.append_right _
    · exact p.erase x
theorem perm_snoc {α : Type} {l m : List α} (p : m.Perm l) (x : α) : (m ++ [x]).Perm (l ++ [x]) := p.append_right _
section
variable {P : Pl} {T : HPl}
theorem CpB.refl (B : Bd) : CpB B B := ⟨.refl _, .refl _, .refl _, .refl _, .refl _, rfl, rfl, rfl, rfl, rfl, rfl⟩
theorem CpB.ring {B B' : Bd} (h : CpB B B') (z : Str) : CpB (B.ring P z).1 (B'.ring P z).1 ∧ (B'.ring P z).2 = (B.ring P z).2 := by
  obtain ⟨h1, h2, h3, h4, h5, h6, h7, h8, h9, h10, h11⟩ := h
  obtain ⟨s, wa, hi, ta, ra, jo, tm, he, sp, ru, re, wt⟩ := B
  obtain ⟨s', wa', hi', ta', ra', jo', tm', he', sp', ru', re', wt'⟩ := B'
  dsimp only at *
  subst h6 h7 h8 h9 h10 h11
  unfold Bd.ring
  dsimp only
  split
  · by_cases hz : z ∈ wa
    · rw [if_pos hz, if_pos (h2.mem_iff.mpr hz)]
      exact ⟨⟨h1, h2, h3, h4, h5, rfl, rfl, rfl, rfl, rfl, rfl⟩, rfl⟩
    · rw [if_neg hz, if_neg fun q => hz (h2.mem_iff.mp q)]
      exact ⟨⟨h1, perm_snoc h2 z, h3, h4, h5, rfl, rfl, rfl, rfl, rfl, rfl⟩, rfl⟩
  · by_cases hz : z ∈ hi
    · rw [if_pos hz, if_pos (h3.mem_iff.mpr hz)]
      exact ⟨⟨h1, h2, h3, h4, h5, rfl, rfl, rfl, rfl, rfl, rfl⟩, rfl⟩
    · rw [if_neg hz, if_neg fun q => hz (h3.mem_iff.mp q)]
      exact ⟨⟨h1, h2, perm_snoc h3 z, h4, h5, rfl, rfl, rfl, rfl, rfl, rfl⟩, rfl⟩
theorem CpB.carry {B B' : Bd} (h : CpB B B') (s : Str × Key) : CpB (B.carry P s).1 (B'.carry P s).1 ∧ (B'.carry P s).2 = (B.carry P s).2 := by
  unfold Bd.carry
  split
  · exact h.ring _
  · split
    · have p := putL_perm h.hi (kS s.2) false
      exact ⟨⟨h.sh, h.wa, p.1, h.ta, h.ra, h.jo, h.tm, by show delK B'.spots _ = delK B.spots _; rw [h.sp], h.ru, h.re, h.wt⟩, p.2⟩
    · split
      · have p := putL_perm h.sh (kS s.2) true
        exact ⟨⟨p.1, h.wa, h.hi, h.ta, h.ra, h.jo, h.tm, h.sp, h.ru, h.re, h.wt⟩, p.2⟩
      · split
        · have p := putL_perm h.sh (kS s.2) false
          exact ⟨⟨p.1, h.wa, h.hi, h.ta, h.ra, h.jo, h.tm, h.sp, h.ru, h.re, h.wt⟩, p.2⟩
        · split
          · have p := putL_perm h.ra (kI s.2) true
            exact ⟨⟨h.sh, h.wa, h.hi, h.ta, p.1, h.jo, h.tm, h.sp, h.ru, h.re, h.wt⟩, p.2⟩
          · have p := putL_perm h.ra (kI s.2) false
            exact ⟨⟨h.sh, h.wa, h.hi, h.ta, p.1, h.jo, h.tm, h.sp, h.ru, h.re, h.wt⟩, p.2⟩
theorem CpB.begun {B B' : Bd} (h : CpB B B') (hh : B'.here = B.here) (z : Str) : CpB (B.begun z) (B'.begun z) := by
  refine ⟨h.sh, (putL_perm h.wa z false).1, h.hi, perm_snoc h.ta z, h.ra, h.jo, h.tm, ?_, h.ru, ?_, ?_⟩
  · show delK B'.spots z = delK B.spots z
    rw [h.sp]
  · show (match getK B'.wanting z with | none => B'.results | some n => B'.results.set n.toNat (.se B'.time B'.here)) = (match getK B.wanting z with | none => B.results | some n => B.results.set n.toNat (.se B.time B.here))
    rw [h.wt, h.re, h.tm, hh]
  · show delK B'.wanting z = delK B.wanting z
    rw [h.wt]
theorem CpB.stops {B B' : Bd} (h : CpB B B') (s : Str × Key) : stops B' s = stops B s := by
  unfold Z.stops
  rw [show decide (kI s.2 ∈ B'.raised) = decide (kI s.2 ∈ B.raised) from decide_eq_decide.mpr h.ra.mem_iff]
theorem CpB.stepFx {B B' : Bd} (h : CpB B B') {jobs jobs' : List (Str × Nat)} (j : JR P jobs jobs') (lim : Int) (s : Str × Key) :
    (stepFx P lim jobs' B' s).1 = (stepFx P lim jobs B s).1 ∧ JR P (stepFx P lim jobs B s).2.1 (stepFx P lim jobs' B' s).2.1 ∧ CpB (stepFx P lim jobs B s).2.2 (stepFx P lim jobs' B' s).2.2 := by
  unfold Z.stepFx
  split
  · exact ⟨rfl, j, h⟩
  · split
    · exact ⟨rfl, j.leave _, h⟩
    · split
      · exact ⟨rfl, j, (h.carry s).1⟩
      · exact ⟨rfl, j, h⟩
theorem cp_passL {fs : List Frm} {rest : List (Str × Key)} : ∀ {f : Frm} {lim : Int} {jobs jobs' : List (Str × Nat)} {B B' : Bd}, CpB B B' → JR P jobs jobs' → CpR P (passL P fs f lim jobs B rest) (passL P fs f lim jobs' B' rest) := by
  induction rest with
  | nil => exact fun h j => ⟨⟨rfl, rfl, j⟩, ⟨h.sh, h.wa, h.hi, h.ta.erase _, h.ra, h.jo, h.tm, h.sp, h.ru, h.re, h.wt⟩, rfl⟩
  | cons s r ih =>
    intro f lim jobs jobs' B B' h j
    unfold passL
    rw [h.stops s]
    split
    · exact ⟨⟨rfl, rfl, j⟩, h, rfl⟩
    · obtain ⟨k1, k2, k3⟩ := h.stepFx j lim s
      rw [k1]
      exact ih k3 k2
theorem cp_pass {fs : List Frm} {f : Frm} {lim : Int} {jobs jobs' : List (Str × Nat)} {B B' : Bd} (h : CpB B B') (j : JR P jobs jobs') : CpR P (pass P fs f lim jobs B) (pass P fs f lim jobs' B') := cp_passL h j
theorem cp_passing {B B' : Bd} (h : CpB B B') (f : Frm) : passing P B' f = passing P B f := by
  unfold passing
  split
  · rw [decide_eq_decide.mpr h.ra.mem_iff]
  · rfl
theorem cp_passAll : ∀ (n : Nat) {C C' : Cr} {B B' : Bd} {es : List Ev}, CpC P C C' → CpB B B' → CpR P (passAll P n C B es) (passAll P n C' B' es)
  | 0, C, C', B, B', es, c, b => ⟨c, b, rfl⟩
  | n + 1, C, C', B, B', es, c, b => by
    unfold passAll
    rw [c.fr]
    cases e : C.frames.getLast? with
    | none => exact ⟨c, b, rfl⟩
    | some f =>
      dsimp only
      rw [cp_passing b f]
      split
      · have r := cp_pass (fs := C.frames.dropLast) (f := f) (lim := C.limit) b c.jb
        rw [c.lim, r.e]
        exact cp_passAll n r.c r.b
      · exact ⟨c, b, rfl⟩
theorem cp_spend {fs : List Frm} {f : Frm} {lim : Int} {jobs jobs' : List (Str × Nat)} {B B' : Bd} (h : CpB B B') (j : JR P jobs jobs') : CpR P (spend P fs f lim jobs B) (spend P fs f lim jobs' B') := by
  unfold spend
  split
  · exact ⟨⟨rfl, rfl, j⟩, h, rfl⟩
  · exact cp_pass h j
theorem cp_tickC {C C' : Cr} {B B' : Bd} {es : List Ev} (c : CpC P C C') (b : CpB B B') : (tickC P C' B' es).1 = (tickC P C B es).1 ∧ CpR P (tickC P C B es).2 (tickC P C' B' es).2 := by
  unfold tickC
  rw [c.fr]
  cases e : C.frames.getLast? with
  | some f =>
    dsimp only
    split
    · exact ⟨rfl, c, b, rfl⟩
    · have r := cp_spend (fs := C.frames.dropLast) (f := f) (lim := C.limit) b c.jb
      rw [c.lim]
      exact ⟨rfl, r.c, r.b, by show es ++ _ = es ++ _; rw [r.e]⟩
  | none =>
    dsimp only
    by_cases hj : C.jobs = []
    · rw [if_pos hj, if_pos (c.jb.nil.mp hj)]
      exact ⟨rfl, c, b, rfl⟩
    · rw [if_neg hj, if_neg fun q => hj (c.jb.nil.mpr q)]
      have w := c.jb.work
      exact ⟨rfl, ⟨rfl, c.lim, w.1⟩, b, by show es ++ _ = es ++ _; rw [w.2]⟩
theorem cp_can {B B' : Bd} (b : CpB B B') : B'.can = B.can := by
  funext z
  unfold Bd.can Bd.waiting
  rw [decide_eq_decide.mpr b.wa.mem_iff, decide_eq_decide.mpr b.hi.mem_iff, decide_eq_decide.mpr b.ta.mem_iff, decide_eq_decide.mpr b.sh.mem_iff]
theorem cp_waiting {B B' : Bd} (b : CpB B B') : B'.waiting = B.waiting := by
  funext z
  unfold Bd.waiting
  rw [decide_eq_decide.mpr b.wa.mem_iff, decide_eq_decide.mpr b.hi.mem_iff, decide_eq_decide.mpr b.ta.mem_iff]
theorem cp_tick {C C' : Cr} {B B' : Bd} (c : CpC P C C') (b : CpB B B') : CpR P (C.tick P B).2 (C'.tick P B').2 := by
  have el : left P C'.frames = left P C.frames := by rw [c.fr]
  have r2 := cp_passAll (left P C.frames) (es := []) c b
  have r3 := cp_tickC (es := (passAll P (left P C.frames) C B []).2.2) r2.c r2.b
  have e' : C'.tick P B' = tickC P (passAll P (left P C.frames) C' B' []).1 (passAll P (left P C.frames) C' B' []).2.1 (passAll P (left P C.frames) C B []).2.2 := by
    unfold Cr.tick
    rw [el, r2.e]
  rw [e']
  exact r3.2
structure CpH (P : Pl) (X Y : Hs) : Prop where
  b : CpB X.B Y.B
  n : Y.cs.length = X.cs.length
  c : ∀ p, CpC P (X.core p) (Y.core p)
  md : Y.md = X.md
  tu : Y.turns = X.turns
  rc : Y.rcs = X.rcs
  ho : Y.holds = X.holds
  bs : Y.bs = X.bs
  ds : Y.ds = X.ds
  ev : Y.ev = X.ev
theorem CpC.refl (C : Cr) : CpC P C C := ⟨rfl, rfl, fun _ => rfl⟩
variable {X Y : Hs}
theorem CpH.refl (X : Hs) : CpH P X X := ⟨.refl _, rfl, fun _ => .refl _, rfl, rfl, rfl, rfl, rfl, rfl, rfl⟩
theorem CpH.on (h : CpH P X Y) (p : Nat) : Y.on p = X.on p := by unfold Hs.on; rw [h.md]
theorem CpH.note (h : CpH P X Y) (w z : Str) (p : Nat) : CpH P (X.note w z p) (Y.note w z p) := by
  refine ⟨h.b, h.n, h.c, h.md, h.tu, h.rc, h.ho, h.bs, h.ds, ?_⟩
  show Y.ev ++ [_] = X.ev ++ [_]
  rw [h.ev, h.b.tm]
theorem CpH.noteE (h : CpH P X Y) (p : Nat) (e : Ev) : CpH P (X.noteE p e) (Y.noteE p e) := by
  unfold Hs.noteE
  split
  · have k := h.note e.1 e.2 p
    exact ⟨k.b, k.n, k.c, k.md, k.tu, k.rc, k.ho, k.bs, by show bump Y.ds _ = bump X.ds _; rw [h.ds], k.ev⟩
  · exact h.note e.1 e.2 p
theorem CpH.noteAll (p : Nat) : ∀ (es : List Ev) {X Y : Hs}, CpH P X Y → CpH P (X.noteAll p es) (Y.noteAll p es)
  | [], _, _, h => h
  | e :: es, _, _, h => CpH.noteAll p es (h.noteE p e)
theorem core_setc {X : Hs} {p q : Nat} {C : Cr} : ({ X with cs := X.cs.set p C } : Hs).core q = if p = q ∧ p < X.cs.length then C else X.core q := by
  unfold Hs.core
  dsimp only
  rw [List.getElem?_set]
  by_cases h : p = q
  · subst h
    by_cases h2 : p < X.cs.length
    · rw [if_pos rfl, if_pos h2, if_pos ⟨rfl, h2⟩]
      rfl
    · rw [if_pos rfl, if_neg h2, if_neg fun k => h2 k.2, List.getElem?_eq_none (by omega)]
  · rw [if_neg h, if_neg fun k => h k.1]
theorem CpH.setc (h : CpH P X Y) {p : Nat} {C C' : Cr} (c : CpC P C C') {B B' : Bd} (b : CpB B B') : CpH P { X with cs := X.cs.set p C, B := B } { Y with cs := Y.cs.set p C', B := B' } := by
  refine ⟨b, by show (Y.cs.set p C').length = (X.cs.set p C).length; rw [List.length_set, List.length_set, h.n], fun q => ?_, h.md, h.tu, h.rc, h.ho, h.bs, h.ds, h.ev⟩
  have e1 : ({ X with cs := X.cs.set p C, B := B } : Hs).core q = if p = q ∧ p < X.cs.length then C else X.core q := core_setc
  have e2 : ({ Y with cs := Y.cs.set p C', B := B' } : Hs).core q = if p = q ∧ p < Y.cs.length then C' else Y.core q := core_setc
  rw [e1, e2, h.n]
  split
  · exact c
  · exact h.c q
theorem CpH.goes (h : CpH P X Y) {p : Nat} {r r' : Cr × Bd × List Ev} (k : CpR P r r') : CpH P (X.goes p r) (Y.goes p r') := by
  unfold Hs.goes
  rw [k.e]
  exact CpH.noteAll p _ (h.setc k.c k.b)
theorem CpH.readyK (h : CpH P X Y) (ps : List Nat) : Y.readyK ps = X.readyK ps := by
  unfold Hs.readyK
  rw [show Y.on = X.on from funext h.on]
theorem CpH.load (h : CpH P X Y) (p : Nat) : Y.load p = X.load p := by
  unfold Hs.load
  rw [(h.c p).fr, h.b.sp]
theorem CpH.pick (h : CpH P X Y) (z : Str) : Y.pick T z = X.pick T z := by
  unfold Hs.pick
  rw [h.readyK, h.tu, show Y.load = X.load from funext h.load]
theorem CpH.turned (h : CpH P X Y) (z : Str) (k : Nat) : CpH P (X.turned T z k) (Y.turned T z k) := by
  unfold Hs.turned
  split
  · exact h
  · split
    · exact h
    · exact ⟨h.b, h.n, h.c, h.md, by show setK Y.turns _ _ = setK X.turns _ _; rw [h.tu], h.rc, h.ho, h.bs, h.ds, h.ev⟩
theorem CpH.spots (h : CpH P X Y) (l : List (Str × Int)) : CpH P { X with B := { X.B with spots := l } } { Y with B := { Y.B with spots := l } } :=
  ⟨⟨h.b.sh, h.b.wa, h.b.hi, h.b.ta, h.b.ra, h.b.jo, h.b.tm, rfl, h.b.ru, h.b.re, h.b.wt⟩, h.n, h.c, h.md, h.tu, h.rc, h.ho, h.bs, h.ds, h.ev⟩
theorem CpH.putLine (h : CpH P X Y) (z : Str) (p : Nat) : CpH P (X.putLine z p) (Y.putLine z p) := by
  unfold Hs.putLine
  rw [h.b.sp]
  exact (h.spots (setK X.B.spots z p)).note "place" z p
theorem CpH.free (h : CpH P X Y) (z : Str) : Y.free z = X.free z := by
  unfold Hs.free
  rw [h.b.sp, h.ho, h.b.tm]
theorem CpH.place1 (h : CpH P X Y) (z : Str) : CpH P (X.place1 T z) (Y.place1 T z) := by
  unfold Hs.place1
  rw [h.free, cp_can h.b, h.pick]
  split
  · cases X.pick T z with
    | none => exact h
    | some k => exact (h.turned z k).putLine z _
  · exact h
theorem fold_two {α β γ : Type} {Q : β → γ → Prop} {f : β → α → β} {g : γ → α → γ} (hf : ∀ X Y x, Q X Y → Q (f X x) (g Y x)) : ∀ (l : List α) (X : β) (Y : γ), Q X Y → Q (l.foldl f X) (l.foldl g Y)
  | [], _, _, h => h
  | x :: l, X, Y, h => fold_two hf l (f X x) (g Y x) (hf X Y x h)
theorem CpH.place (h : CpH P X Y) : CpH P (X.place P T) (Y.place P T) := fold_two (Q := fun X Y => CpH P X Y) (fun _ _ z h => h.place1 z) _ _ _ h
theorem CpH.readyL (h : CpH P X Y) (p : Nat) : Y.readyL P p = X.readyL P p := by
  unfold Hs.readyL
  rw [h.b.sp, cp_can h.b]
theorem CpH.count (h : CpH P X Y) (z : Str) : CpH P (X.count T z) (Y.count T z) := by
  unfold Hs.count
  cases T.sms.find? fun s => s.ln == z with
  | none => exact h
  | some s =>
    dsimp only
    have e : s.ticks Y = s.ticks X := by
      unfold Sm.ticks
      rw [h.rc, h.b.tm]
    rw [e, h.rc, h.ho, h.b.tm, h.ev]
    split
    · exact ⟨h.b, h.n, h.c, h.md, h.tu, rfl, rfl, h.bs, h.ds, rfl⟩
    · exact ⟨h.b, h.n, h.c, h.md, h.tu, rfl, rfl, h.bs, h.ds, rfl⟩
theorem CpH.begin (h : CpH P X Y) (p : Nat) (z : Str) : CpH P (X.begin P T p z) (Y.begin P T p z) ∧ (Y.begin P T p z).B.here = (X.begin P T p z).B.here := by
  have k := h.note "begin" z p
  have k2 : CpH P { X.note "begin" z p with bs := bump X.bs z } { Y.note "begin" z p with bs := bump Y.bs z } := ⟨k.b, k.n, k.c, k.md, k.tu, k.rc, k.ho, by show bump Y.bs z = bump X.bs z; rw [h.bs], k.ds, k.ev⟩
  have k3 := k2.count (T := T) z
  refine ⟨⟨?_, k3.n, k3.c, k3.md, k3.tu, k3.rc, k3.ho, k3.bs, k3.ds, k3.ev⟩, rfl⟩
  exact ⟨h.b.sh, h.b.wa, h.b.hi, h.b.ta, h.b.ra, h.b.jo, h.b.tm, h.b.sp, h.b.ru, h.b.re, h.b.wt⟩
theorem CpH.take (h : CpH P X Y) (p : Nat) : CpH P (X.take P T p) (Y.take P T p) := by
  unfold Hs.take
  rw [h.readyL]
  cases X.readyL P p with
  | nil => exact h
  | cons z r =>
    dsimp only
    have em : (Y.core p).may P z = (X.core p).may P z := by
      unfold Cr.may Cr.inner
      rw [(h.c p).fr, (h.c p).lim]
    rw [em]
    split
    · obtain ⟨k, kh⟩ := h.begin (T := T) p z
      refine k.goes ?_
      unfold Hs.beginR
      have c := k.c p
      have r := cp_pass (P := P) (fs := ((X.begin P T p z).core p).frames) (f := ⟨z, 0, 0, ((X.begin P T p z).core p).limit⟩) (lim := ((X.begin P T p z).core p).limit) (k.b.begun kh z) c.jb
      rw [c.fr, c.lim]
      exact r
    · exact h
theorem CpH.spend (h : CpH P X Y) (p : Nat) : CpH P (X.spend P p) (Y.spend P p) := h.goes (cp_tick (h.c p) h.b)
theorem CpH.takes (h : CpH P X Y) : CpH P (X.takes P T) (Y.takes P T) := fold_two (Q := fun X Y => CpH P X Y) (fun X Y p h => by
  rw [h.on]
  split
  · exact h.take p
  · exact h) _ _ _ h
theorem CpH.spends (h : CpH P X Y) : CpH P (X.spends P T) (Y.spends P T) := fold_two (Q := fun X Y => CpH P X Y) (fun X Y p h => by
  rw [h.md]
  split
  · exact h
  · exact h.spend p) _ _ _ h
theorem JR.perm {l m : List (Str × Nat)} (h : JR P l m) : m.Perm l := (queue_perm P m).symm.trans ((List.Perm.of_eq h.queue.symm).trans (queue_perm P l))
theorem JR.len {l m : List (Str × Nat)} (h : JR P l m) : m.length = l.length := h.perm.length_eq
theorem JR.snoc {l m : List (Str × Nat)} (h : JR P l m) (j : Str × Nat) : JR P (l ++ [j]) (m ++ [j]) := fun r => by rw [List.filter_append, List.filter_append, h r]
theorem CpH.goal (h : CpH P X Y) (p : Nat) : Y.goal p = X.goal p := by
  unfold Hs.goal
  rw [h.md, show Y.on = X.on from funext h.on, show (fun j => (((Y.core j).jobs.length : Nat) : Int)) = fun j => (((X.core j).jobs.length : Nat) : Int) from funext fun j => by rw [(h.c j).jb.len]]
theorem CpH.move1 (h : CpH P X Y) (g : Nat) (j : Str × Nat) : CpH P (X.move1 g j) (Y.move1 g j) := by
  unfold Hs.move1
  refine CpH.note ?_ "moved" j.1 g
  have c : CpC P { X.core g with jobs := if j.2 > 0 then (X.core g).jobs ++ [j] else leave (X.core g).jobs j.1 } { Y.core g with jobs := if j.2 > 0 then (Y.core g).jobs ++ [j] else leave (Y.core g).jobs j.1 } := by
    refine ⟨(h.c g).fr, (h.c g).lim, ?_⟩
    dsimp only
    split
    · exact (h.c g).jb.snoc j
    · exact (h.c g).jb.leave j.1
  exact h.setc c h.b
theorem off_fold (jobs : List (Str × Nat)) (g : Nat) : ∀ (l : List Nat) (X : Hs), (∀ k ∈ l, k < jobs.length) → l.foldl (fun Y k => match jobs[k]? with | some j => Y.move1 g j | none => Y) X = (l.map (jobAt jobs)).foldl (fun Y j => Y.move1 g j) X
  | [], _, _ => rfl
  | k :: l, X, h => by
    rw [List.foldl_cons, List.map_cons, List.foldl_cons]
    have hk : jobs[k]? = some (jobAt jobs k) := by
      unfold jobAt
      rw [List.getElem?_eq_getElem (h k (by simp))]
      rfl
    rw [hk]
    exact off_fold jobs g l _ fun i hi => h i (by simp [hi])
theorem CpH.leaves (h : CpH P X Y) (p : Nat) : CpH P (X.leaves p) (Y.leaves p) :=
  ⟨h.b, h.n, h.c, by show Y.md.set p "off" = X.md.set p "off"; rw [h.md], h.tu, h.rc, h.ho, h.bs, h.ds, by show Y.ev ++ [.off Y.B.time p] = X.ev ++ [.off X.B.time p]; rw [h.ev, h.b.tm]⟩
theorem off_eqQ {X : Hs} {p : Nat} : X.off P p = (fun Z : Hs => { Z with cs := Z.cs.set p { X.core p with jobs := [] } }) ((queueOf P (X.core p).jobs).foldl (fun Z j => Z.move1 ((X.leaves p).goal p) j) (X.leaves p)) :=
  congrArg (fun Z : Hs => { Z with cs := Z.cs.set p { X.core p with jobs := [] } }) (off_fold (X.core p).jobs ((X.leaves p).goal p) (places P (X.core p).jobs) (X.leaves p) fun k hk => places_lt hk)
theorem CpH.off (h : CpH P X Y) (p : Nat) : CpH P (X.off P p) (Y.off P p) := by
  rw [off_eqQ, off_eqQ]
  have hl := h.leaves p
  rw [hl.goal p, ← (h.c p).jb.queue]
  have k : CpH P ((queueOf P (X.core p).jobs).foldl (fun Z j => Z.move1 ((X.leaves p).goal p) j) (X.leaves p)) ((queueOf P (X.core p).jobs).foldl (fun Z j => Z.move1 ((X.leaves p).goal p) j) (Y.leaves p)) := fold_two (Q := fun X Y => CpH P X Y) (fun _ _ j h => h.move1 _ j) _ _ _ hl
  have c : CpC P { X.core p with jobs := [] } { Y.core p with jobs := [] } := ⟨(h.c p).fr, (h.c p).lim, fun _ => rfl⟩
  exact k.setc c k.b
theorem CpH.offs (h : CpH P X Y) : CpH P (X.offs P T) (Y.offs P T) := fold_two (Q := fun X Y => CpH P X Y) (fun X Y p h => by
  rw [h.md, (h.c p).fr]
  split
  · exact h.off p
  · exact h) _ _ _ h
theorem CpH.tick (h : CpH P X Y) : CpH P (X.tick P T) (Y.tick P T) := by
  have k := ((((h.place (T := T)).takes (T := T)).spends (T := T)).offs (T := T))
  unfold Hs.tick Hs.next
  exact ⟨⟨k.b.sh, k.b.wa, k.b.hi, k.b.ta, k.b.ra, k.b.jo, by show _ + 1 = _ + 1; rw [k.b.tm], k.b.sp, k.b.ru, k.b.re, k.b.wt⟩, k.n, k.c, k.md, k.tu, k.rc, k.ho, k.bs, k.ds, k.ev⟩
theorem CpH.spotted (h : CpH P X Y) (p : Nat) : Y.spotted P p = X.spotted P p := by
  unfold Hs.spotted
  rw [h.b.sp]
theorem CpH.deed (h : CpH P X Y) (d : Deed) : CpH P (X.deed P d) (Y.deed P d) ∧ Y.deedD P d = X.deedD P d := by
  cases d with
  | act w k =>
    have c := h.b.carry (P := P) (w, k)
    refine ⟨⟨c.1, h.n, h.c, h.md, h.tu, h.rc, h.ho, h.bs, h.ds, h.ev⟩, ?_⟩
    show (if w = ("ring" : Str) then PyData.str (if (Y.B.carry P (w, k)).2 = true then "waits" else "merged") else .bool (Y.B.carry P (w, k)).2) = _
    rw [c.2]
    rfl
  | leave p =>
    refine ⟨?_, by show PyData.list ((Y.spotted P p).map PyData.str) = .list ((X.spotted P p).map PyData.str); rw [h.spotted]⟩
    show CpH P (X.left P p) (Y.left P p)
    unfold Hs.left
    rw [h.spotted, h.b.sp, h.md]
    have k := h.spots ((X.spotted P p).foldl delK X.B.spots)
    exact ⟨k.b, k.n, k.c, rfl, k.tu, k.rc, k.ho, k.bs, k.ds, k.ev⟩
  | come p =>
    refine ⟨⟨h.b, h.n, h.c, by show Y.md.set p "on" = X.md.set p "on"; rw [h.md], h.tu, h.rc, h.ho, h.bs, h.ds, h.ev⟩, ?_⟩
    show PyData.bool (decide (Y.md[p]? = some ("leaving" : Str))) = _
    rw [h.md]
    rfl
  | move z p => exact ⟨h.putLine z p, by show optD (getK Y.B.spots z) = optD (getK X.B.spots z); rw [h.b.sp]⟩
theorem CpH.can (h : CpH P X Y) {d : Deed} (c : d.Can P T X) : d.Can P T Y := by
  cases d with
  | act w k => exact c
  | leave p =>
    obtain ⟨h1, h2, q, h3, h4⟩ := c
    exact ⟨h1, by rw [h.on]; exact h2, q, h3, by rw [h.on]; exact h4⟩
  | come p =>
    obtain ⟨h1, m, h2, h3⟩ := c
    exact ⟨h1, m, by rw [h.md]; exact h2, h3⟩
  | move z p =>
    obtain ⟨h1, h2, h3, h4, h5, h6⟩ := c
    exact ⟨h1, h2, by rw [h.on]; exact h3, by rw [cp_waiting h.b]; exact h4, fun q => h5 (h.b.ta.mem_iff.mp q), h6⟩
end
theorem CpC.trans {P : Pl} {C C' C'' : Cr} (h : CpC P C C') (k : CpC P C' C'') : CpC P C C'' := ⟨k.fr.trans h.fr, k.lim.trans h.lim, fun r => (h.jb r).trans (k.jb r)⟩
theorem CpB.trans {B B' B'' : Bd} (h : CpB B B') (k : CpB B' B'') : CpB B B'' := ⟨k.sh.trans h.sh, k.wa.trans h.wa, k.hi.trans h.hi, k.ta.trans h.ta, k.ra.trans h.ra, k.jo.trans h.jo, k.tm.trans h.tm, k.sp.trans h.sp, k.ru.trans h.ru, k.re.trans h.re, k.wt.trans h.wt⟩
theorem CpH.trans {P : Pl} {X Y Z : Hs} (h : CpH P X Y) (k : CpH P Y Z) : CpH P X Z := ⟨h.b.trans k.b, k.n.trans h.n, fun p => (h.c p).trans (k.c p), k.md.trans h.md, k.tu.trans h.tu, k.rc.trans h.rc, k.ho.trans h.ho, k.bs.trans h.bs, k.ds.trans h.ds, k.ev.trans h.ev⟩
theorem sortS_one {l m : List Str} (p : m.Perm l) : sortS m = sortS l := by
  have tot : PySem.W.TotalLe (PySem.W.dataLe false PyData.str) := PySem.W.sortLe_total _ _ _
  have hl : PySem.W.dataLe false PyData.str = fun a b : Str => decide (a.cps.toList ≤ b.cps.toList) := PySem.W.dataLe_str fun z : Str => z
  refine PySem.W.Srt.the_of_perm (PySem.W.dataLe false PyData.str) tot.trans (fun a b => Bool.or_eq_true_iff.mpr (tot.total a b)) (fun x y h1 h2 => ?_) ((List.mergeSort_perm _ _).trans p) (List.pairwise_mergeSort tot.trans (fun a b => Bool.or_eq_true_iff.mpr (tot.total a b)) _)
  rw [hl] at h1 h2
  have e : x.cps.toList = y.cps.toList := List.le_antisymm (of_decide_eq_true h1) (of_decide_eq_true h2)
  obtain ⟨a⟩ := x
  obtain ⟨b⟩ := y
  rw [show a = b from Array.toList_inj.mp e]
theorem sortI_one {l m : List Int} (p : m.Perm l) : sortI m = sortI l := by
  have tot : PySem.W.TotalLe (PySem.W.dataLe false PyData.int) := PySem.W.sortLe_total _ _ _
  have hl : PySem.W.dataLe false PyData.int = fun a b : Int => decide (a ≤ b) := PySem.W.dataLe_int fun z : Int => z
  refine PySem.W.Srt.the_of_perm (PySem.W.dataLe false PyData.int) tot.trans (fun a b => Bool.or_eq_true_iff.mpr (tot.total a b)) (fun x y h1 h2 => ?_) ((List.mergeSort_perm _ _).trans p) (List.pairwise_mergeSort tot.trans (fun a b => Bool.or_eq_true_iff.mpr (tot.total a b)) _)
  rw [hl] at h1 h2
  exact Int.le_antisymm (of_decide_eq_true h1) (of_decide_eq_true h2)
theorem CpB.state {B B' : Bd} (h : CpB B B') : bdD B' = bdD B := by
  unfold bdD
  rw [sortS_one h.sh, sortS_one h.wa, sortS_one h.hi, sortS_one h.ta, sortI_one h.ra]
theorem CpC.state {P : Pl} {C C' : Cr} (h : CpC P C C') : crD P C' = crD P C := by
  unfold crD
  rw [h.fr, h.lim, h.jb.queue]
end Z
set_option maxHeartbeats 1000000
namespace Z
open PySem PySem.Spec PyProof.Rows L2
open He (ga ma)
def bgE (z : Str) : HEv → Bool
  | .four w _ y _ => decide (w = ("begin" : Str)) && decide (y = z)
  | _ => false
def dnE (z : Str) : HEv → Bool
  | .four w _ y _ => decide (w = ("done" : Str)) && decide (y = z)
  | _ => false
structure Hs.Cnt (P : Pl) (X : Hs) : Prop where
  b : X.bs = P.ls.map fun l => (l.nm, ((X.ev.countP (bgE l.nm) : Nat) : Int))
  d : X.ds = P.ws.map fun v => (v.nm, ((X.ev.countP (dnE v.nm) : Nat) : Int))
def EwE (es : List Ev) : Prop := ∀ e ∈ es, e.1 = ("end" : Str) ∨ e.1 = ("done" : Str)
theorem EwE.nil : EwE [] := fun e h => by cases h
theorem EwE.app {a b : List Ev} (h : EwE a) (k : EwE b) : EwE (a ++ b) := fun e he => (List.mem_append.mp he).elim (h e) (k e)
theorem EwE.one {w z : Str} (h : w = ("end" : Str) ∨ w = ("done" : Str)) : EwE [(w, z)] := fun e he => by
  rw [List.mem_singleton.mp he]
  exact h
section
variable {P : Pl} {T : HPl} {X : Hs}
theorem passL_words {fs : List Frm} {rest : List (Str × Key)} : ∀ {f : Frm} {lim : Int} {jobs : List (Str × Nat)} {B : Bd}, EwE (passL P fs f lim jobs B rest).2.2 := by
  induction rest with
  | nil =>
    intro f lim jobs B
    exact EwE.one (.inl rfl)
  | cons s r ih =>
    intro f lim jobs B
    unfold passL
    split
    · exact EwE.nil
    · exact ih
theorem pass_words {fs : List Frm} {f : Frm} {lim : Int} {jobs : List (Str × Nat)} {B : Bd} : EwE (pass P fs f lim jobs B).2.2 := passL_words
theorem spend_words {fs : List Frm} {f : Frm} {lim : Int} {jobs : List (Str × Nat)} {B : Bd} : EwE (spend P fs f lim jobs B).2.2 := by
  unfold spend
  split
  · exact EwE.nil
  · exact pass_words
theorem passAll_words : ∀ (n : Nat) {C : Cr} {B : Bd} {es : List Ev}, EwE es → EwE (passAll P n C B es).2.2
  | 0, _, _, _, h => h
  | n + 1, C, B, es, h => by
    rcases List.eq_nil_or_concat C.frames with e | ⟨fs, f, e⟩
    · rw [passAll_nil e]; exact h
    · rw [List.concat_eq_append] at e
      cases hp : passing P B f with
      | false => rw [passAll_no e hp]; exact h
      | true =>
        rw [passAll_yes e hp]
        exact passAll_words n (h.app pass_words)
theorem doWork_words {jobs : List (Str × Nat)} : EwE (doWork P jobs).2 := by
  unfold doWork
  split
  · exact EwE.nil
  · split
    · exact EwE.nil
    · split
      · exact EwE.nil
      · exact EwE.one (.inr rfl)
theorem tick_words {C : Cr} {B : Bd} : EwE (C.tick P B).2.2.2 := by
  have h1 := passAll_words (P := P) (left P C.frames) (C := C) (B := B) EwE.nil
  unfold Cr.tick
  generalize passAll P (left P C.frames) C B [] = r at h1
  rcases List.eq_nil_or_concat r.1.frames with e | ⟨fs, f, e⟩
  · by_cases hj : r.1.jobs = []
    · rw [tickC_idle e hj]; exact h1
    · rw [tickC_work e hj]; exact h1.app doWork_words
  · rw [List.concat_eq_append] at e
    by_cases hw : (stepOf P f).1 = "await"
    · rw [tickC_spun e hw]; exact h1
    · rw [tickC_call e hw]
      exact h1.app spend_words
theorem Hs.Cnt.to (h : X.Cnt P) {Y : Hs} (e1 : Y.ev = X.ev) (e2 : Y.bs = X.bs) (e3 : Y.ds = X.ds) : Y.Cnt P := ⟨by rw [e1, e2]; exact h.b, by rw [e1, e3]; exact h.d⟩
theorem Hs.Cnt.add (h : X.Cnt P) {Y : Hs} {e : HEv} (hb : ∀ z, bgE z e = false) (hd : ∀ z, dnE z e = false) (e1 : Y.ev = X.ev ++ [e]) (e2 : Y.bs = X.bs) (e3 : Y.ds = X.ds) : Y.Cnt P := by
  refine ⟨?_, ?_⟩
  · rw [e1, e2, h.b]
    refine List.map_congr_left fun l _ => ?_
    rw [List.countP_append, List.countP_cons, hb]
    simp
  · rw [e1, e3, h.d]
    refine List.map_congr_left fun l _ => ?_
    rw [List.countP_append, List.countP_cons, hd]
    simp
theorem bump_map {A : Type} {nm : A → Str} {f : A → Int} {z : Str} {L : List A} : bump (L.map fun l => (nm l, f l)) z = L.map fun l => (nm l, if nm l = z then f l + 1 else f l) := by
  unfold bump
  rw [List.map_map]
  refine List.map_congr_left fun l _ => ?_
  show (if nm l = z then (nm l, f l + 1) else (nm l, f l)) = _
  split <;> rfl
theorem cnt_snoc {p : HEv → Bool} {es : List HEv} {e : HEv} : ((es ++ [e]).countP p : Nat) = es.countP p + (if p e = true then 1 else 0) := by
  rw [List.countP_append, List.countP_cons]
  simp
theorem Hs.Cnt.addB (h : X.Cnt P) {Y : Hs} {t : Int} {z : Str} {p : Int} (e1 : Y.ev = X.ev ++ [.four "begin" t z p]) (e2 : Y.bs = bump X.bs z) (e3 : Y.ds = X.ds) : Y.Cnt P := by
  refine ⟨?_, ?_⟩
  · rw [e1, e2, h.b, bump_map]
    refine List.map_congr_left fun l _ => ?_
    rw [cnt_snoc]
    show _ = (l.nm, (((X.ev.countP (bgE l.nm) + (if (decide (("begin" : Str) = "begin") && decide (z = l.nm)) = true then 1 else 0) : Nat)) : Int))
    by_cases k : l.nm = z
    · rw [if_pos k, if_pos (by rw [k]; simp)]
      simp
    · rw [if_neg k, if_neg (by simp; exact fun e => k e.symm)]
      simp
  · rw [e1, e3, h.d]
    refine List.map_congr_left fun l _ => ?_
    rw [cnt_snoc]
    rw [if_neg (by rw [show dnE l.nm (.four "begin" t z p) = false from (by show (decide (("begin" : Str) = "done") && decide (z = l.nm)) = false; rw [decide_eq_false (by decide)]; rfl)]; decide)]
    rfl
theorem Hs.Cnt.addD (h : X.Cnt P) {Y : Hs} {t : Int} {z : Str} {p : Int} (e1 : Y.ev = X.ev ++ [.four "done" t z p]) (e2 : Y.bs = X.bs) (e3 : Y.ds = bump X.ds z) : Y.Cnt P := by
  refine ⟨?_, ?_⟩
  · rw [e1, e2, h.b]
    refine List.map_congr_left fun l _ => ?_
    rw [cnt_snoc]
    rw [if_neg (by rw [show bgE l.nm (.four "done" t z p) = false from (by show (decide (("done" : Str) = "begin") && decide (z = l.nm)) = false; rw [decide_eq_false (by decide)]; rfl)]; decide)]
    rfl
  · rw [e1, e3, h.d, bump_map]
    refine List.map_congr_left fun l _ => ?_
    rw [cnt_snoc]
    show _ = (l.nm, (((X.ev.countP (dnE l.nm) + (if (decide (("done" : Str) = "done") && decide (z = l.nm)) = true then 1 else 0) : Nat)) : Int))
    by_cases k : l.nm = z
    · rw [if_pos k, if_pos (by rw [k]; simp)]
      simp
    · rw [if_neg k, if_neg (by simp; exact fun e => k e.symm)]
      simp
theorem ev_no {w : Str} (h1 : w ≠ "begin") (h2 : w ≠ "done") {t : Int} {y : Str} {p : Int} : (∀ z, bgE z (.four w t y p) = false) ∧ ∀ z, dnE z (.four w t y p) = false :=
  ⟨fun z => by show (decide (w = ("begin" : Str)) && decide (y = z)) = false; rw [decide_eq_false h1]; rfl, fun z => by show (decide (w = ("done" : Str)) && decide (y = z)) = false; rw [decide_eq_false h2]; rfl⟩
theorem Hs.Cnt.noteAll {p : Nat} {es : List Ev} (he : EwE es) : ∀ {X : Hs}, X.Cnt P → (X.noteAll p es).Cnt P := by
  induction es with
  | nil => exact fun h => h
  | cons e es ih =>
    intro X h
    rw [noteAll_cons]
    refine ih (fun x hx => he x (List.mem_cons_of_mem _ hx)) ?_
    have hk := he e (by simp)
    unfold Hs.noteE
    split
    · rename_i k
      refine h.addD (t := X.B.time) (z := e.2) (p := (p : Nat)) ?_ rfl rfl
      show X.ev ++ [.four e.1 X.B.time e.2 (p : Nat)] = _
      rw [k]
    · rename_i k
      obtain ⟨n1, n2⟩ := ev_no (w := e.1) (t := X.B.time) (y := e.2) (p := (p : Nat)) (fun k2 => by
        rcases hk with hk | hk
        · rw [hk] at k2
          exact absurd k2 (by decide)
        · exact k hk) k
      exact h.add (e := .four e.1 X.B.time e.2 (p : Nat)) n1 n2 rfl rfl rfl
theorem turned_sums {z : Str} {k : Nat} : (X.turned T z k).bs = X.bs ∧ (X.turned T z k).ds = X.ds := by
  unfold Hs.turned
  repeat (first | exact ⟨rfl, rfl⟩ | split)
theorem Hs.Cnt.place1 (h : X.Cnt P) {z : Str} : (X.place1 T z).Cnt P := by
  unfold Hs.place1
  split
  · split
    · exact h
    · rename_i k _
      have h1 : (X.turned T z k).Cnt P := h.to turned_ev.1 turned_sums.1 turned_sums.2
      obtain ⟨n1, n2⟩ := ev_no (w := "place") (by decide) (by decide) (t := (X.turned T z k).B.time) (y := z) (p := ((T.way z).2.getD k 0 : Nat))
      exact h1.add (Y := (X.turned T z k).putLine z ((T.way z).2.getD k 0)) (e := .four "place" (X.turned T z k).B.time z ((T.way z).2.getD k 0 : Nat)) n1 n2 rfl rfl rfl
  · exact h
theorem Hs.Cnt.place (h : X.Cnt P) : (X.place P T).Cnt P := by
  unfold Hs.place
  generalize P.order = l
  induction l generalizing X with
  | nil => exact h
  | cons z l ih =>
    rw [List.foldl_cons]
    exact ih h.place1
theorem Hs.Cnt.goes (h : X.Cnt P) {p : Nat} {r : Cr × Bd × List Ev} (h1 : EwE r.2.2) : (X.goes p r).Cnt P := by
  unfold Hs.goes
  exact Hs.Cnt.noteAll h1 (X := { X with cs := X.cs.set p r.1, B := r.2.1 }) ⟨h.b, h.d⟩
theorem Hs.Cnt.count (h : X.Cnt P) {z : Str} : (X.count T z).Cnt P := by
  unfold Hs.count
  split
  · exact h
  · split
    · exact h.add (e := .held X.B.time z) (fun _ => rfl) (fun _ => rfl) rfl rfl rfl
    · exact h.to rfl rfl rfl
theorem Hs.Cnt.begin (h : X.Cnt P) {p : Nat} {z : Str} : (X.begin P T p z).Cnt P := by
  have h1 : ({ X.note "begin" z p with bs := bump X.bs z } : Hs).Cnt P := h.addB (t := X.B.time) (z := z) (p := (p : Nat)) rfl rfl rfl
  have h2 := h1.count (T := T) (z := z)
  exact ⟨h2.b, h2.d⟩
theorem Hs.Cnt.take (h : X.Cnt P) {p : Nat} : (X.take P T p).Cnt P := by
  unfold Hs.take
  split
  · exact h
  · split
    · exact h.begin.goes pass_words
    · exact h
theorem Hs.Cnt.spend (h : X.Cnt P) {p : Nat} : (X.spend P p).Cnt P := h.goes tick_words
theorem Hs.Cnt.off (h : X.Cnt P) {p : Nat} : (X.off P p).Cnt P := by
  rw [off_eq]
  have hl : (X.leaves p).Cnt P := h.add (e := .off X.B.time p) (fun _ => rfl) (fun _ => rfl) rfl rfl rfl
  have : ∀ (ks : List Nat) (g : Nat) (Z : Hs), Z.Cnt P → (ks.foldl (fun Y k => match (X.core p).jobs[k]? with
      | some j => Y.move1 g j
      | none => Y) Z).Cnt P := by
    intro ks g
    induction ks with
    | nil => exact fun Z z => z
    | cons k ks ih =>
      intro Z z
      rw [List.foldl_cons]
      refine ih _ ?_
      split
      · rename_i j e
        rw [move1_eq]
        obtain ⟨n1, n2⟩ := ev_no (w := "moved") (by decide) (by decide) (t := Z.B.time) (y := j.1) (p := (g : Nat))
        exact z.add (e := .four "moved" Z.B.time j.1 (g : Nat)) n1 n2 rfl rfl rfl
      · exact z
  exact (this (places P (X.core p).jobs) ((X.leaves p).goal p) _ hl).to rfl rfl rfl
theorem fold_cnt {f : Hs → Nat → Hs} (hf : ∀ X p, X.Cnt P → (f X p).Cnt P) : ∀ (l : List Nat) {X : Hs}, X.Cnt P → (l.foldl f X).Cnt P
  | [], _, h => h
  | p :: l, X, h => fold_cnt hf l (hf X p h)
theorem Hs.Cnt.tick (h : X.Cnt P) : (X.tick P T).Cnt P := by
  unfold Hs.tick Hs.offs Hs.spends Hs.takes
  refine Hs.Cnt.to (fold_cnt (fun X p h => ?_) _ (fold_cnt (fun X p h => ?_) _ (fold_cnt (fun X p h => ?_) _ h.place))) rfl rfl rfl
  · split
    · exact h.off
    · exact h
  · split
    · exact h
    · exact h.spend
  · split
    · exact h.take
    · exact h
theorem Hs.Cnt.deed (h : X.Cnt P) {d : Deed} : (X.deed P d).Cnt P := by
  cases d with
  | act w k => exact h.to rfl rfl rfl
  | leave p => exact h.to rfl rfl rfl
  | come p => exact h.to rfl rfl rfl
  | move z p =>
    obtain ⟨n1, n2⟩ := ev_no (w := "place") (by decide) (by decide) (t := X.B.time) (y := z) (p := (p : Nat))
    exact h.add (e := .four "place" X.B.time z (p : Nat)) n1 n2 rfl rfl rfl
end
end Z
set_option maxHeartbeats 1000000
namespace Z
open PySem PySem.Spec PyProof.Rows L2
open He (ga ma)
def Hs.Gr (L : List HEv) (X : Hs) : Prop := ∃ es, X.ev = L ++ es
section
variable {P : Pl} {T : HPl} {X : Hs} {L : List HEv}
theorem Hs.Gr.to (h : X.Gr L) {Y : Hs} (e : Y.ev = X.ev) : Y.Gr L := by
  obtain ⟨es, h⟩ := h
  exact ⟨es, e.trans h⟩
theorem Hs.Gr.add (h : X.Gr L) {Y : Hs} {e : HEv} (e1 : Y.ev = X.ev ++ [e]) : Y.Gr L := by
  obtain ⟨es, h⟩ := h
  exact ⟨es ++ [e], by rw [e1, h, List.append_assoc]⟩
theorem Hs.Gr.noteAll {p : Nat} {es : List Ev} : ∀ {X : Hs}, X.Gr L → (X.noteAll p es).Gr L := by
  induction es with
  | nil => exact fun h => h
  | cons e es ih =>
    intro X h
    rw [noteAll_cons]
    refine ih ?_
    unfold Hs.noteE
    split
    · exact h.add (e := .four e.1 X.B.time e.2 p) rfl
    · exact h.add (e := .four e.1 X.B.time e.2 p) rfl
theorem Hs.Gr.place1 (h : X.Gr L) {z : Str} : (X.place1 T z).Gr L := by
  unfold Hs.place1
  split
  · split
    · exact h
    · rename_i k _
      have h1 : (X.turned T z k).Gr L := h.to turned_ev.1
      exact h1.add (Y := (X.turned T z k).putLine z ((T.way z).2.getD k 0)) (e := .four "place" (X.turned T z k).B.time z ((T.way z).2.getD k 0 : Nat)) rfl
  · exact h
theorem Hs.Gr.place (h : X.Gr L) : (X.place P T).Gr L := by
  unfold Hs.place
  generalize P.order = l
  induction l generalizing X with
  | nil => exact h
  | cons z l ih =>
    rw [List.foldl_cons]
    exact ih h.place1
theorem Hs.Gr.goes (h : X.Gr L) {p : Nat} {r : Cr × Bd × List Ev} : (X.goes p r).Gr L := by
  unfold Hs.goes
  exact Hs.Gr.noteAll (X := { X with cs := X.cs.set p r.1, B := r.2.1 }) h
theorem Hs.Gr.count (h : X.Gr L) {z : Str} : (X.count T z).Gr L := by
  unfold Hs.count
  split
  · exact h
  · split
    · exact h.add (e := .held X.B.time z) rfl
    · exact h.to rfl
theorem Hs.Gr.begin (h : X.Gr L) {p : Nat} {z : Str} : (X.begin P T p z).Gr L := by
  have h1 : ({ X.note "begin" z p with bs := bump X.bs z } : Hs).Gr L := h.add (e := .four "begin" X.B.time z (p : Nat)) rfl
  exact (h1.count (T := T) (z := z)).to rfl
theorem Hs.Gr.take (h : X.Gr L) {p : Nat} : (X.take P T p).Gr L := by
  unfold Hs.take
  split
  · exact h
  · split
    · exact h.begin.goes
    · exact h
theorem Hs.Gr.spend (h : X.Gr L) {p : Nat} : (X.spend P p).Gr L := h.goes
theorem Hs.Gr.off (h : X.Gr L) {p : Nat} : (X.off P p).Gr L := by
  rw [off_eq]
  have hl : (X.leaves p).Gr L := h.add (e := .off X.B.time p) rfl
  have : ∀ (ks : List Nat) (g : Nat) (Z : Hs), Z.Gr L → (ks.foldl (fun Y k => match (X.core p).jobs[k]? with
      | some j => Y.move1 g j
      | none => Y) Z).Gr L := by
    intro ks g
    induction ks with
    | nil => exact fun Z z => z
    | cons k ks ih =>
      intro Z z
      rw [List.foldl_cons]
      refine ih _ ?_
      split
      · rename_i j e
        rw [move1_eq]
        exact z.add (e := .four "moved" Z.B.time j.1 (g : Nat)) rfl
      · exact z
  exact (this (places P (X.core p).jobs) ((X.leaves p).goal p) _ hl).to rfl
theorem fold_gr {f : Hs → Nat → Hs} (hf : ∀ X p, X.Gr L → (f X p).Gr L) : ∀ (l : List Nat) {X : Hs}, X.Gr L → (l.foldl f X).Gr L
  | [], _, h => h
  | p :: l, X, h => fold_gr hf l (hf X p h)
theorem Hs.Gr.tick (h : X.Gr L) : (X.tick P T).Gr L := by
  unfold Hs.tick Hs.offs Hs.spends Hs.takes
  refine Hs.Gr.to (fold_gr (fun X p h => ?_) _ (fold_gr (fun X p h => ?_) _ (fold_gr (fun X p h => ?_) _ h.place))) rfl
  · split
    · exact h.off
    · exact h
  · split
    · exact h
    · exact h.spend
  · split
    · exact h.take
    · exact h
end
def flatN (n : Nat) (d : PyData) : Prop := d.canLay0 = true ∧ d.depth ≤ n
theorem shaped_eqv {d : PyData} (h : SeqAt.shaped d = true) : PyData.eqv d d = true := SeqAt.eqv_refl _ (SeqAt.canLay_of_shaped h)
theorem flat_he {P : Pl} (ok : P.Ok) {e : HEv} (h : HevOk P e) : flatN 1 (dHe e) := by
  cases e with
  | four w t z p => exact ⟨by show ((PyData.str w).canLay0 && ((PyData.int t).canLay0 && ((PyData.str z).canLay0 && ((PyData.int p).canLay0 && true)))) = true; rw [hvW_lay _ h.1, h.2.lay ok]; rfl, Nat.le_refl _⟩
  | held t z => exact ⟨by show ((PyData.str "held").canLay0 && ((PyData.int t).canLay0 && ((PyData.str z).canLay0 && true))) = true; rw [NmOk.lay ok (.inl h), show (PyData.str "held").canLay0 = true by decide +kernel]; rfl, Nat.le_refl _⟩
  | off t p => exact ⟨by show ((PyData.str "off").canLay0 && ((PyData.int t).canLay0 && ((PyData.int p).canLay0 && true))) = true; rw [show (PyData.str "off").canLay0 = true by decide +kernel]; rfl, Nat.le_refl _⟩
theorem flat_ki {P : Pl} (ok : P.Ok) {x : Str × Int} (h : NmOk P x.1) : flatN 1 (dKi x) := ⟨by show ((PyData.str x.1).canLay0 && ((PyData.int x.2).canLay0 && true)) = true; rw [h.lay ok]; rfl, Nat.le_refl _⟩
end Z
set_option maxHeartbeats 1000000
namespace Z
open PySem PySem.Spec PyProof.Rows L2
open He (ga ma)
theorem lay_map {α : Type} {g : α → PyData} {n : Nat} : ∀ {l : List α}, (∀ x ∈ l, (g x).canLay0 = true ∧ (g x).depth ≤ n) → PyData.canLayAll0 (l.map g) = true ∧ PyData.depthAll (l.map g) ≤ n
  | [], _ => ⟨rfl, Nat.zero_le _⟩
  | x :: l, h => by
    obtain ⟨h1, h2⟩ := h x (by simp)
    obtain ⟨h3, h4⟩ := lay_map (l := l) fun y hy => h y (by simp [hy])
    refine ⟨?_, ?_⟩
    · show ((g x).canLay0 && PyData.canLayAll0 (l.map g)) = true
      rw [h1, h3]
      rfl
    · show max (g x).depth (PyData.depthAll (l.map g)) ≤ n
      omega
theorem lay_two {a : PyData} {l : List PyData} {n : Nat} (h : flatN n a) (k : PyData.canLayAll0 l = true ∧ PyData.depthAll l ≤ n) : PyData.canLayAll0 (a :: l) = true ∧ PyData.depthAll (a :: l) ≤ n := by
  refine ⟨?_, ?_⟩
  · show (a.canLay0 && PyData.canLayAll0 l) = true
    rw [h.1, k.1]
    rfl
  · show max a.depth (PyData.depthAll l) ≤ n
    have := h.2
    omega
theorem lay_nil {n : Nat} : PyData.canLayAll0 [] = true ∧ PyData.depthAll [] ≤ n := ⟨rfl, Nat.zero_le _⟩
theorem lay_tup {l : List PyData} {n : Nat} (k : PyData.canLayAll0 l = true ∧ PyData.depthAll l ≤ n) : flatN (n + 1) (.tuple l) := ⟨k.1, Nat.succ_le_succ k.2⟩
theorem lay_lst {l : List PyData} {n : Nat} (k : PyData.canLayAll0 l = true ∧ PyData.depthAll l ≤ n) : flatN (n + 1) (.list l) := ⟨k.1, Nat.succ_le_succ k.2⟩
theorem flatN.mono {a : PyData} {m n : Nat} (h : flatN m a) (k : m ≤ n) : flatN n a := ⟨h.1, Nat.le_trans h.2 k⟩
theorem flatN.shaped {a : PyData} {n : Nat} (h : flatN n a) (k : n ≤ 60) : SeqAt.shaped a = true := by
  show (a.canLay0 && decide (a.depth ≤ 64)) = true
  rw [h.1, decide_eq_true (Nat.le_trans h.2 (by omega))]
  rfl
theorem flat_int (i : Int) {n : Nat} : flatN n (.int i) := ⟨rfl, Nat.zero_le _⟩
theorem flat_str {z : Str} {n : Nat} (h : (PyData.str z).canLay0 = true) : flatN n (.str z) := ⟨h, Nat.zero_le _⟩
def Hs.heldL (X : Hs) : List (Str × Int) := (X.holds.filter fun x => decide (x.2 ≥ X.B.time)).map fun x => (x.1, x.2 - X.B.time)
def Sm.agos (s : Sm) (X : Hs) : List Int := (((getR X.rcs s.ln).getD []).filter fun t => decide (t > X.B.time - s.win)).map fun t => X.B.time - t
def Hs.turnL (T : HPl) (X : Hs) : List Int := T.rts.map fun r => (getK X.turns r.ln).getD 0
def Hs.goingD (P : Pl) (T : HPl) (X : Hs) : PyData := .tuple [bdD X.B, .tuple (X.cs.map (crD P)), .tuple (X.md.map PyData.str), .tuple [.tuple ((srtK X.B.spots).map dKi), .tuple ((X.turnL T).map PyData.int)], .tuple (T.sms.map fun s => .tuple ((s.agos X).map PyData.int)), .tuple ((srtK X.heldL).map dKi)]
def fatesL (B : Bd) : List PyData := (List.range B.rung.length).map (fateD B)
def dicE (l m : List (Str × Int)) : Bool := (joinK l).length == (joinK m).length && (joinK l).all fun p => (valV (joinK m) p.1).isSome && decide (valV (joinK m) p.1 = valV (joinK l) p.1)
def sumsE (X Y : Hs) : Nat → Bool
  | 0 => dicE X.bs Y.bs
  | _ => dicE X.ds Y.ds
def wholeE (P : Pl) (T : HPl) (X : Hs) (P' : Pl) (T' : HPl) (Y : Hs) : Nat → Bool
  | 0 => PyData.eqv (.int X.B.time) (.int Y.B.time)
  | 1 => PyData.eqv (X.goingD P T) (Y.goingD P' T')
  | 2 => PyData.eqv (.list (X.B.rung.map dRg)) (.list (Y.B.rung.map dRg))
  | 3 => PyData.eqv (.list (fatesL X.B)) (.list (fatesL Y.B))
  | 4 => (List.range 2).all (sumsE X Y)
  | _ => PyData.eqv (.list (X.ev.map dHe)) (.list (Y.ev.map dHe))
def wholeEq (P : Pl) (T : HPl) (X : Hs) (P' : Pl) (T' : HPl) (Y : Hs) : Bool := (List.range 6).all (wholeE P T X P' T' Y)
section
variable {P P' : Pl} {T T' : HPl} {X Y : Hs}
theorem crs_eq (h : CpH P X Y) : Y.cs.map (crD P) = X.cs.map (crD P) := by
  apply List.ext_getElem?
  intro i
  rw [List.getElem?_map, List.getElem?_map]
  by_cases hi : i < X.cs.length
  · have hi2 : i < Y.cs.length := by rw [h.n]; exact hi
    rw [core_get hi, core_get hi2]
    exact congrArg some ((h.c i).state)
  · have hi2 : ¬ i < Y.cs.length := by rw [h.n]; exact hi
    rw [List.getElem?_eq_none (Nat.le_of_not_lt hi), List.getElem?_eq_none (Nat.le_of_not_lt hi2)]
theorem CpH.going (h : CpH P X Y) : Y.goingD P T = X.goingD P T := by
  unfold Hs.goingD Hs.heldL Hs.turnL
  rw [crs_eq h, h.b.state, h.md, h.b.sp, h.tu, h.ho, h.b.tm]
  have e : ∀ s : Sm, s.agos Y = s.agos X := fun s => by
    unfold Sm.agos
    rw [h.rc, h.b.tm]
  simp only [e]
theorem CpH.fates (h : CpH P X Y) : fatesL Y.B = fatesL X.B := by
  unfold fatesL
  rw [h.b.ru]
  apply List.map_congr_left
  intro n _
  unfold fateD waitsD
  rw [h.b.re, h.b.ru, h.b.sp]
theorem flat_name (ok : P.Ok) {n : Nat} {z : Str} (h : NmOk P z) : flatN n (.str z) := flat_str (h.lay ok)
theorem flat_strsS (ok : P.Ok) {l : List Str} (h : Sub l P.names) : flatN 1 (dStrs (sortS l)) := lay_tup (lay_map fun z hz => flat_name ok (.inl (h.sub z ((sortS_perm l).mem_iff.mp hz))))
theorem flat_dints (l : List Int) : flatN 1 (PyData.tuple (l.map PyData.int)) := lay_tup (lay_map fun z hz => flat_int z)
theorem flat_bd (ok : P.Ok) {B : Bd} (h : B.Ok P) : flatN 2 (bdD B) := lay_tup (lay_two (flat_strsS ok h.sh) (lay_two (flat_strsS ok h.wa) (lay_two (flat_strsS ok h.hi) (lay_two (flat_strsS ok h.ta) (lay_two (flat_dints _) lay_nil)))))
theorem flat_cr (ok : P.Ok) {C : Cr} (hf : ∀ f ∈ C.frames, f.ln ∈ P.names) (hj : JOk P C.jobs) : flatN 3 (crD P C) := by
  have f : flatN 2 (PyData.tuple (C.frames.map dFrm)) := lay_tup (lay_map fun f hm => lay_tup (lay_two (flat_name ok (.inl (hf f hm))) (lay_two (flat_int _) (lay_two (flat_int _) (lay_two (flat_int _) lay_nil)))))
  have q : flatN 2 (PyData.tuple ((queueOf P C.jobs).map dJob)) := lay_tup (lay_map fun j hm => lay_tup (lay_two (flat_name ok (.inr (hj.sub j ((queue_perm P C.jobs).mem_iff.mp hm)))) (lay_two (flat_int _) lay_nil)))
  exact lay_tup (lay_two f (lay_two (flat_int _) (lay_two q lay_nil)))
theorem flat_kis (ok : P.Ok) {l : List (Str × Int)} (h : ∀ x ∈ l, NmOk P x.1) : flatN 2 (.tuple ((srtK l).map dKi)) := lay_tup (lay_map fun x hx => flat_ki ok (h x ((List.mergeSort_perm _ _).mem_iff.mp hx)))
theorem flat_going (pok : P.Ok) (ok : X.Ok P T) : flatN 6 (X.goingD P T) := by
  have c : flatN 4 (.tuple (X.cs.map (crD P))) := lay_tup (lay_map fun C hC => flat_cr pok (ok.nm C hC) (ok.jok C hC))
  have m : flatN 1 (.tuple (X.md.map PyData.str)) := lay_tup (lay_map fun z hz => flat_str (modeL_lay z (ok.mw z hz)))
  have s : flatN 2 (.tuple ((srtK X.B.spots).map dKi)) := flat_kis pok fun x hx => .inl (ok.bok.ss x hx)
  have r : flatN 2 (.tuple (T.sms.map fun s => .tuple ((s.agos X).map PyData.int))) := lay_tup (lay_map fun s _ => flat_dints _)
  have h : flatN 2 (.tuple ((srtK X.heldL).map dKi)) := flat_kis pok fun x hx => by
    obtain ⟨y, hy, rfl⟩ := List.mem_map.mp hx
    exact .inl (ok.hs y (List.mem_filter.mp hy).1)
  have q : flatN 3 (.tuple [.tuple ((srtK X.B.spots).map dKi), .tuple ((X.turnL T).map PyData.int)]) := lay_tup (lay_two s (lay_two ((flat_dints _).mono (by omega)) lay_nil))
  exact lay_tup (lay_two ((flat_bd pok ok.bok).mono (by omega)) (lay_two (c.mono (by omega)) (lay_two (m.mono (by omega)) (lay_two (q.mono (by omega)) (lay_two (r.mono (by omega)) (lay_two (h.mono (by omega)) lay_nil))))))
theorem flat_rgs (pok : P.Ok) (la : X.Laid P) : flatN 2 (.list (X.B.rung.map dRg)) := lay_lst (lay_map fun x hx => lay_tup (lay_two (flat_int _) (lay_two (flat_name pok (.inl (la.rg x hx))) lay_nil)))
theorem flat_optD (o : Option Int) {n : Nat} : flatN n (optD o) := by
  cases o with
  | none => exact ⟨rfl, Nat.zero_le _⟩
  | some i => exact flat_int i
theorem flat_fate (B : Bd) (n : Nat) : flatN 1 (fateD B n) := by
  have w : ∀ z, flatN 1 (waitsD B z) := fun z => by
    unfold waitsD
    exact lay_tup (lay_two (flat_str (by decide +kernel)) (lay_two (flat_optD _) lay_nil))
  unfold fateD
  cases B.results[n]? with
  | none => exact ⟨rfl, Nat.zero_le _⟩
  | some f =>
    cases f with
    | op => exact w _
    | me k => exact lay_tup (lay_two (flat_str (by decide +kernel)) (lay_two (flat_int _) lay_nil))
    | se t p => exact lay_tup (lay_two (flat_str (by decide +kernel)) (lay_two (flat_int _) (lay_two (flat_optD _) lay_nil)))
theorem flat_fates (B : Bd) : flatN 2 (.list (fatesL B)) := lay_lst (lay_map fun n _ => flat_fate B n)
theorem flat_evs (pok : P.Ok) (la : X.Laid P) : flatN 2 (.list (X.ev.map dHe)) := lay_lst (lay_map fun e he => flat_he pok (la.ev e he))
theorem eqv_self {a : PyData} {n : Nat} (h : flatN n a) : PyData.eqv a a = true := SeqAt.eqv_refl _ h.1
theorem dicE_self {l : List (Str × Int)} (nd : (l.map (·.1)).Nodup) : dicE l l = true := by
  unfold dicE
  rw [beq_self_eq_true, Bool.true_and, List.all_eq_true]
  intro p hp
  have nd2 : ((joinK l).map (·.1)).Nodup := by
    unfold joinK
    rw [List.map_map, show ((fun x : Key × V => x.1) ∘ fun x : Str × Int => ((.inr x.1 : Key), V.int x.2)) = (fun z : Str => (.inr z : Key)) ∘ fun x : Str × Int => x.1 from rfl, ← List.map_map]
    exact List.Pairwise.map Sum.inr (fun a b h e => h (Sum.inr.inj e)) nd
  rw [val_nodup nd2 p hp]
  simp
theorem CpH.eq (pok : P.Ok) (ok : X.Ok P T) (la : X.Laid P) (h : CpH P X Y) : wholeEq P T X P T Y = true := by
  have nb : (X.bs.map (·.1)).Nodup := by rw [ok.bk]; exact pok.lnd
  have nw : (X.ds.map (·.1)).Nodup := by rw [ok.dk]; exact pok.wnd
  unfold wholeEq
  rw [List.all_eq_true]
  intro j hj
  have hj : j < 6 := List.mem_range.mp hj
  match j, hj with
  | 0, _ =>
    show PyData.eqv (.int X.B.time) (.int Y.B.time) = true
    rw [h.b.tm]
    exact eqv_self (flat_int (n := 0) _)
  | 1, _ =>
    show PyData.eqv (X.goingD P T) (Y.goingD P T) = true
    rw [h.going]
    exact eqv_self (flat_going pok ok)
  | 2, _ =>
    show PyData.eqv (.list (X.B.rung.map dRg)) (.list (Y.B.rung.map dRg)) = true
    rw [h.b.ru]
    exact eqv_self (flat_rgs pok la)
  | 3, _ =>
    show PyData.eqv (.list (fatesL X.B)) (.list (fatesL Y.B)) = true
    rw [h.fates]
    exact eqv_self (flat_fates _)
  | 4, _ =>
    show (List.range 2).all (sumsE X Y) = true
    rw [List.all_eq_true]
    intro i hi
    have hi : i < 2 := List.mem_range.mp hi
    match i, hi with
    | 0, _ => show dicE X.bs Y.bs = true; rw [h.bs]; exact dicE_self nb
    | 1, _ => show dicE X.ds Y.ds = true; rw [h.ds]; exact dicE_self nw
  | 5, _ =>
    show PyData.eqv (.list (X.ev.map dHe)) (.list (Y.ev.map dHe)) = true
    rw [h.ev]
    exact eqv_self (flat_evs pok la)
end
end Z
set_option maxHeartbeats 1000000
namespace Z
open PySem PySem.Spec PyProof.Rows L2
open He (ga ma)
end Z
set_option maxHeartbeats 1000000
namespace Z
open PySem PySem.Spec PyProof.Rows L2
open He (ga ma)
end Z
set_option maxHeartbeats 1000000
namespace Z
open PySem PySem.Spec PyProof.Rows L2
open He (ga ma)
def TsQ (K : Fg) (H H' : Hp) : Prop := ∀ a xs, SqT K H a xs → SqT K H' a xs
theorem Ts.trans {K : Fg} {H H1 H2 : Hp} (a : TsQ K H H1) (b : TsQ K H1 H2) : TsQ K H H2 := fun _ _ h => b _ _ (a _ _ h)
theorem Sub.perm {α : Type} {l m k : List α} (h : Sub l k) (p : m.Perm l) : Sub m k := ⟨p.nodup_iff.mpr h.nd, fun x hx => h.sub x (p.mem_iff.mp hx)⟩
section
variable {P : Pl} {T : HPl} {X Y : Hs}
theorem CpB.bok {B B' : Bd} (h : CpB B B') (ok : B.Ok P) : B'.Ok P := by
  refine ⟨ok.sh.perm h.sh, ok.wa.perm h.wa, ok.hi.perm h.hi, ok.ta.perm h.ta, ok.ra.perm h.ra, by rw [h.jo]; exact ok.jk, by rw [h.sp]; exact ok.sn, by rw [h.sp]; exact ok.ss, by rw [h.wt]; exact ok.wn, fun z => ?_, by rw [h.wt, h.ru]; exact ok.wi, by rw [h.re, h.ru]; exact ok.rl⟩
  rw [h.wt, h.wa.mem_iff]
  exact ok.wk z
theorem JOk.perm {l m : List (Str × Nat)} (h : JOk P l) (p : m.Perm l) : JOk P m := ⟨fun j hj => h.sub j (p.mem_iff.mp hj), ((p.filter _).map _).nodup_iff.mpr h.fr⟩
theorem cs_core (h : X.cs.length = Y.cs.length) {Q : Cr → Prop} (k : ∀ p, p < X.cs.length → Q (Y.core p)) : ∀ C ∈ Y.cs, Q C := fun C hC => by
  obtain ⟨i, hi⟩ := List.mem_iff_getElem?.mp hC
  have hlt : i < Y.cs.length := (List.getElem?_eq_some_iff.mp hi).1
  rw [core_get hlt] at hi
  rw [← Option.some.inj hi]
  exact k i (by omega)
theorem core_mem {p : Nat} (h : p < X.cs.length) : X.core p ∈ X.cs := List.mem_of_getElem? (core_get h)
theorem CpH.lns (h : CpH P X Y) : lnsOf Y.cs = lnsOf X.cs := by
  have e : Y.cs.map (fun C => C.frames.map (·.ln)) = X.cs.map (fun C => C.frames.map (·.ln)) := by
    apply List.ext_getElem?
    intro i
    rw [List.getElem?_map, List.getElem?_map]
    by_cases hi : i < X.cs.length
    · have hi2 : i < Y.cs.length := by rw [h.n]; exact hi
      rw [core_get hi, core_get hi2]
      show some ((Y.core i).frames.map (·.ln)) = some ((X.core i).frames.map (·.ln))
      rw [(h.c i).fr]
    · have hi2 : ¬ i < Y.cs.length := by rw [h.n]; exact hi
      rw [List.getElem?_eq_none (Nat.le_of_not_lt hi), List.getElem?_eq_none (Nat.le_of_not_lt hi2)]
  unfold lnsOf
  rw [List.flatMap_def, List.flatMap_def, e]
theorem CpH.ok (ok : X.Ok P T) (h : CpH P X Y) : Y.Ok P T := by
  refine ⟨h.b.bok ok.bok, h.n.trans ok.cn, by rw [h.md]; exact ok.mn, by rw [h.md]; exact ok.mw, ?_, ?_, ?_, ?_, by rw [h.b.sp]; exact ok.sp, by rw [h.bs]; exact ok.bk, by rw [h.ds]; exact ok.dk, by rw [h.tu]; exact ok.tn, by rw [h.tu]; exact ok.ts, by rw [h.tu]; exact ok.tv, by rw [h.ho]; exact ok.hn, by rw [h.ho]; exact ok.hs, by rw [h.rc]; exact ok.rn, by rw [h.rc]; exact ok.rs, by rw [h.rc, h.ev]; exact ok.rl⟩
  · exact cs_core h.n.symm (Q := fun C => JOk P C.jobs) fun p hp => (ok.jok _ (core_mem hp)).perm (h.c p).jb.perm
  · exact cs_core h.n.symm (Q := fun C => ∀ f ∈ C.frames, f.ln ∈ P.names) fun p hp => by rw [(h.c p).fr]; exact ok.nm _ (core_mem hp)
  · exact cs_core h.n.symm (Q := fun C => ∀ f ∈ C.frames, Stands P f) fun p hp => by rw [(h.c p).fr]; exact ok.st _ (core_mem hp)
  · rw [h.lns]
    exact h.b.ta.trans ok.tk
theorem Lsts.eqv {H H' : Hp} : ∀ {as : List Addr} {xss : List (List V)}, Lsts H as xss → (∀ a ∈ as, H' a = H a) → Lsts H' as xss
  | _, _, .nil, _ => .nil
  | _, _, .cons e t, h => .cons ((h _ List.mem_cons_self).trans e) (t.eqv fun a ha => h a (List.mem_cons_of_mem _ ha))
end
theorem lcLX_d {K : Fg} {σ : L2.St} {H1 : Hp} {Q : VK} {g : TG} {tt : TT} {te : TE} {vs : List Nat} {a : Addr} {xs : List V} (hT : SqL K H1 a xs) (f : Nat → PyData) (hn : xs.length ≤ 40000) (hf : ∀ i, i < xs.length → tupd (f i) = true)
    (hs : ∀ (i : Nat) (v : V) (H : Hp) (Yes : VK) (No : Hp → Prop), xs[i]? = some v → Same H1 H → (∀ y H4, Same H H4 → Dp K H4 y (f i) → Yes y H4) →
      g v (wipe σ vs) H fun σ2 H2 => wipe σ2 vs = wipe σ vs ∧ tt σ2 H2 fun b H3 => if b = true then te σ2 H3 Yes else No H3)
    (hd : ∀ D H' ys, H1 D = none → Same H1 H' → H' D = some (.lst ys) → DpAll K H' ys ((List.range xs.length).map f) → Q (.ref D) H') : LcL K g tt te vs σ Q (.ref a) H1 := by
  refine ⟨a, rfl, ⟨xs, hT⟩, fun D hD => ?_⟩
  have hz : ∀ {i : Nat}, i < xs.length → (List.range xs.length)[i]? = some i := fun {i} h => List.getElem?_range h
  refine lc_dat (K := K) walk_list (pAt (List.range xs.length) fun _ => true) (dAt (List.range xs.length) f) hD hn (dAt_tupd fun x hx => hf x (List.mem_range.mp hx)) (fun H s => s.seq hT) (fun i H x H' y => by rw [y.1]; exact Same.refl H) (fun i x H H' Yes No hi s1 y yes no => ?_) (fun H' ys s1 e1 a1 => ?_)
  · obtain ⟨rfl, hx⟩ := y
    rw [pAt_eq (hz hi), dAt_eq (hz hi)] at yes
    exact hs i x H' Yes No hx s1 fun y H4 s d => yes rfl y H4 s d
  · have k := keptD_list (l := List.range xs.length) (p := fun _ => true) (f := f)
    rw [List.length_range] at k
    rw [k, List.filter_eq_self.mpr (fun _ _ => rfl)] at a1
    exact hd D H' ys hD s1 e1 a1
end Z
set_option maxHeartbeats 1000000
namespace Z
open PySem PySem.Spec PyProof.Rows L2
def intOf : PyData → Int
  | .int i => i
  | _ => 0
def maxP (ps : List PyData) : Int := (ps.map intOf).foldl max 0
def loadsOk : PyData → PyData → PyData → Bool
  | .tuple ls, .tuple ps, c => decide (1 ≤ ls.length ∧ ls.length ≤ 7) && (ls.all (isIntD 0 1000) && (decide (ps.length = ls.length) && (ps.all (isIntD 0 3) && isIntD (maxP ps + 1) 4 c)))
  | _, _, _ => false
theorem isIntD_inv {lo hi : Int} {d : PyData} (h : isIntD lo hi d = true) : ∃ i, d = .int i ∧ lo ≤ i ∧ i ≤ hi := by
  cases d with
  | int i => exact ⟨i, rfl, of_decide_eq_true h⟩
  | _ => exact absurd h (by simp [isIntD])
theorem ints_inv {lo hi : Int} : ∀ {ds : List PyData}, ds.all (isIntD lo hi) = true → ds = (ds.map intOf).map PyData.int ∧ ∀ i ∈ ds.map intOf, lo ≤ i ∧ i ≤ hi
  | [], _ => ⟨rfl, fun _ h => nomatch h⟩
  | d :: ds, h => by
    rw [List.all_cons, Bool.and_eq_true] at h
    obtain ⟨i, rfl, hi⟩ := isIntD_inv h.1
    obtain ⟨e, a⟩ := ints_inv h.2
    refine ⟨?_, fun j hj => ?_⟩
    · show _ :: _ = _ :: _
      rw [← e]
      rfl
    · rcases List.mem_cons.mp hj with rfl | hj
      · exact hi
      · exact a j hj
theorem dpa_ints_inv {K : Fg} {H : Hp} : ∀ {xs : List V} {ns : List Int}, DpAll K H xs (ns.map PyData.int) → xs = ns.map V.int
  | _, [], .nil => rfl
  | _, n :: ns, .cons a r => by
    cases a
    rw [dpa_ints_inv r]
    rfl
theorem maxP_eq {ns : List Int} {m : Int} (h0 : ∀ i ∈ ns, 0 ≤ i) (hm : m ∈ ns) (h : ∀ y ∈ ns, y ≤ m) : ns.foldl max 0 = m := by
  obtain ⟨h1, h2, h3⟩ := fold_max_mem ns 0
  have a := h3 m hm
  have b := h0 m hm
  rcases h1 with h1 | h1
  · omega
  · have := h _ h1
    omega
def moveD (n c : Int) (s : List Int × List Int) : PyData → Option (List Int × List Int)
  | .tuple [.int k, .int p] => if 0 ≤ k ∧ k ≤ n - 1 ∧ k ∉ s.2 ∧ 0 ≤ p ∧ p ≤ c - 1 ∧ s.1[k.toNat]? ≠ some p then some (s.1.set k.toNat p, s.2 ++ [k]) else none
  | _ => none
def movesD (n c : Int) : List Int × List Int → List PyData → Nat → Option Nat
  | _, [], _ => none
  | s, d :: ds, i => match moveD n c s d with
    | none => some i
    | some s' => movesD n c s' ds (i + 1)
theorem loadsOk_inv {d1 d2 d3 : PyData} (h : loadsOk d1 d2 d3 = true) : ∃ ls ps : List Int, ∃ c : Nat, d1 = .tuple (ls.map PyData.int) ∧ d2 = .tuple (ps.map PyData.int) ∧ d3 = .int (c : Nat) ∧ 1 ≤ ls.length ∧ ls.length ≤ 7 ∧ ps.length = ls.length ∧ 1 ≤ c ∧ c ≤ 4 ∧ ∀ p ∈ ps, 0 ≤ p ∧ p < c := by
  match d1, d2, h with
  | .tuple ls, .tuple ps, h =>
    simp only [loadsOk, Bool.and_eq_true, decide_eq_true_eq] at h
    obtain ⟨⟨n1, n7⟩, a1, len, a2, hc⟩ := h
    obtain ⟨e1, _⟩ := ints_inv a1
    obtain ⟨e2, b2⟩ := ints_inv a2
    obtain ⟨i, rfl, c0, c4⟩ := isIntD_inv hc
    obtain ⟨f1, f2, f3⟩ := fold_max_mem (ps.map intOf) 0
    unfold maxP at c0
    refine ⟨ls.map intOf, ps.map intOf, i.toNat, by rw [← e1], by rw [← e2], ?_, by rw [List.length_map]; exact n1, by rw [List.length_map]; exact n7, by rw [List.length_map, List.length_map]; exact len, by omega, by omega, fun p hp => ?_⟩
    · rw [Int.toNat_of_nonneg (by omega)]
    · have := f3 p hp
      have := (b2 p hp).1
      omega
def judgeD (d1 d2 d3 : PyData) (ds : List PyData) : Option Nat :=
  match d1, d2, d3 with
  | .tuple ls, .tuple ps, .int c => movesD ls.length c (ps.map intOf, []) ds 0
  | _, _, _ => none
theorem judgeD_eq (ls ps : List Int) (c : Int) (ds : List PyData) : judgeD (.tuple (ls.map PyData.int)) (.tuple (ps.map PyData.int)) (.int c) ds = movesD ls.length c (ps, []) ds 0 := by
  show movesD (ls.map PyData.int).length c ((ps.map PyData.int).map intOf, []) ds 0 = _
  rw [List.length_map, List.map_map, show intOf ∘ PyData.int = id from rfl, List.map_id]
theorem moveD_len {n c : Int} {s : List Int × List Int} {es : List PyData} (h : es.length ≠ 2) : moveD n c s (.tuple es) = none := by
  match es, h with
  | [], _ => rfl
  | [.int _], _ => rfl
  | [x], _ => cases x <;> rfl
  | [x, y], h => exact absurd rfl h
  | x :: y :: z :: r, _ => cases x <;> cases y <;> rfl
theorem moveD_k {n c : Int} {s : List Int × List Int} {x y : PyData} (h : isIntD 0 (n - 1) x = false) : moveD n c s (.tuple [x, y]) = none := by
  cases x <;> try rfl
  cases y <;> try rfl
  simp only [isIntD, decide_eq_false_iff_not] at h
  show (if _ then _ else _) = none
  rw [if_neg (by omega)]
theorem moveD_p {n c k : Int} {s : List Int × List Int} {y : PyData} (h : isIntD 0 (c - 1) y = false) : moveD n c s (.tuple [.int k, y]) = none := by
  cases y <;> try rfl
  simp only [isIntD, decide_eq_false_iff_not] at h
  show (if _ then _ else _) = none
  rw [if_neg (by omega)]
theorem moveD_in {n c k : Int} {s : List Int × List Int} {y : PyData} (h : k ∈ s.2) : moveD n c s (.tuple [.int k, y]) = none := by
  cases y <;> try rfl
  show (if _ then _ else _) = none
  rw [if_neg (fun q => q.2.2.1 h)]
theorem moveD_at {n c k p : Int} {s : List Int × List Int} (h : s.1[k.toNat]? = some p) : moveD n c s (.tuple [.int k, .int p]) = none := by
  show (if _ then _ else _) = none
  rw [if_neg (fun q => q.2.2.2.2.2 h)]
theorem moveD_ok {n c k p : Int} {s : List Int × List Int} (h0 : 0 ≤ k) (h1 : k ≤ n - 1) (h2 : k ∉ s.2) (h3 : 0 ≤ p) (h4 : p ≤ c - 1) (h5 : s.1[k.toNat]? ≠ some p) : moveD n c s (.tuple [.int k, .int p]) = some (s.1.set k.toNat p, s.2 ++ [k]) := by
  show (if _ then _ else _) = _
  rw [if_pos ⟨h0, h1, h2, h3, h4, h5⟩]
mutual
theorem dp_tab {K : Fg} {H H' : Hp} {t : Addr} {q : Str} (x : LamX.TabS H t q) (f : Fr [t] H H') : ∀ {v : V} {d : PyData}, Dp K H v d → Dp K H' v d
  | _, _, .non => .non
  | _, _, .bl b => .bl b
  | _, _, .int i => .int i
  | _, _, .str x => .str x
  | _, _, .lst (a := p) s a => by
    refine .lst ?_ (dpA_tab x f a)
    obtain ⟨ps, e, _⟩ := x
    rcases s with (k | ⟨o, k⟩) | k
    · exact f.sqL (.inl (.inl k)) fun z => by rw [List.mem_singleton.mp z, e] at k; cases k
    · exact f.sqL (.inl (.inr ⟨o, k⟩)) fun z => by rw [List.mem_singleton.mp z, e] at k; cases k
    · exact .inr k
  | _, _, .tup s a => .tup (f.tk.sqT s) (dpA_tab x f a)
theorem dpA_tab {K : Fg} {H H' : Hp} {t : Addr} {q : Str} (x : LamX.TabS H t q) (f : Fr [t] H H') : ∀ {v : List V} {d : List PyData}, DpAll K H v d → DpAll K H' v d
  | _, _, .nil => .nil
  | _, _, .cons a b => .cons (dp_tab x f a) (dpA_tab x f b)
end
theorem sp_load {L : List PyData} {d2 d3 b : PyData} (hb : b ∈ L) (h : isIntD 0 1000 b = false) : loadsOk (.tuple L) d2 d3 = false := by
  have : L.all (isIntD 0 1000) = false := by
    rw [List.all_eq_false]
    exact ⟨b, hb, by simp [h]⟩
  cases d2 <;> simp only [loadsOk, this, Bool.false_and, Bool.and_false]
theorem sp_place {P : List PyData} {d1 d3 b : PyData} (hb : b ∈ P) (h : isIntD 0 3 b = false) : loadsOk d1 (.tuple P) d3 = false := by
  have : P.all (isIntD 0 3) = false := by
    rw [List.all_eq_false]
    exact ⟨b, hb, by simp [h]⟩
  cases d1 <;> simp only [loadsOk, this, Bool.false_and, Bool.and_false]
theorem sp_self {P : List PyData} {d1 : PyData} {c : Int} (hb : PyData.int c ∈ P) : loadsOk d1 (.tuple P) (.int c) = false := by
  have h : isIntD (maxP P + 1) 4 (.int c) = false := by
    have := (fold_max_mem (P.map intOf) 0).2.2 c (List.mem_map.mpr ⟨_, hb, rfl⟩)
    refine decide_eq_false fun q => ?_
    unfold maxP at q
    omega
  cases d1 <;> simp only [loadsOk, h, Bool.and_false]
theorem sp_count {d1 d2 d3 : PyData} (h : isIntD 1 4 d3 = false) : loadsOk d1 d2 d3 = false := by
  have k : ∀ P : List PyData, isIntD (maxP P + 1) 4 d3 = false := fun P => by
    cases d3 with
    | int c =>
      have := (fold_max_mem (P.map intOf) 0).2.1
      simp only [isIntD, decide_eq_false_iff_not] at h ⊢
      unfold maxP
      omega
    | _ => rfl
  cases d1 <;> cases d2 <;> simp only [loadsOk, k, Bool.and_false]
theorem sp_len {L P : List PyData} {d3 : PyData} (h : P.length ≠ L.length) : loadsOk (.tuple L) (.tuple P) d3 = false := by
  simp only [loadsOk, decide_eq_false h, Bool.false_and, Bool.and_false]
theorem sp_long {L : List PyData} {d2 d3 : PyData} (h : L.length = 0 ∨ 7 < L.length) : loadsOk (.tuple L) d2 d3 = false := by
  have : decide (1 ≤ L.length ∧ L.length ≤ 7) = false := decide_eq_false (by omega)
  cases d2 <;> simp only [loadsOk, this, Bool.false_and]
theorem dpa_ints' {K : Fg} {H : Hp} : ∀ ns : List Int, DpAll K H (ns.map V.int) (ns.map PyData.int)
  | [] => .nil
  | n :: ns => .cons (.int n) (dpa_ints' ns)
theorem dpa_app {K : Fg} {H : Hp} : ∀ {xs ys : List V} {ds es : List PyData}, DpAll K H xs ds → DpAll K H ys es → DpAll K H (xs ++ ys) (ds ++ es)
  | _, _, _, _, .nil, b => b
  | _, _, _, _, .cons a r, b => .cons a (dpa_app r b)
theorem s_cat72 {K : Fg} {H : Hp} {Q : VK} {a b : Addr} {xs ys : List V} (ha : SqT K H a xs) (hb : SqT K H b ys) (hz : xs.length + ys.length ≤ sizeLine) (q : ∀ c H', Same H H' → SqT K H' c (xs ++ ys) → Q (.ref c) H') : rCatA K (.ref a) (.ref b) H Q := by
  refine ⟨a, b, xs, ys, rfl, rfl, ha, hb, hz, fun e => ?_, fun _ e => ?_, fun _ _ p hp => q p _ (Same.new hp) (SqT.of upd_same)⟩
  · subst e
    exact q b H (Same.refl H) hb
  · subst e
    exact q a H (Same.refl H) (by rw [List.append_nil]; exact ha)
theorem cut_ini72 (xs : List V) : (cutV xs none (some (-1))).length = xs.length - 1 ∧ ∃ ys, xs = cutV xs none (some (-1)) ++ ys := by
  unfold cutV
  have e : HT.sIx xs.length xs.length (some (-1)) = xs.length - 1 := by
    show (if (-1 : Int) < 0 then ((-1 : Int) + (xs.length : Int)).toNat else min (-1 : Int).toNat xs.length) = _
    rw [if_pos (by omega)]
    omega
  rw [e, HT.sIx_none, List.drop_zero, Nat.sub_zero, List.length_take]
  exact ⟨by omega, _, (List.take_append_drop _ _).symm⟩
theorem movesD_ok {n c : Int} {s s' : List Int × List Int} {d : PyData} {ds : List PyData} {i : Nat} (h : moveD n c s d = some s') : movesD n c s (d :: ds) i = movesD n c s' ds (i + 1) := by
  rw [movesD, h]
theorem movesD_no {n c : Int} {s : List Int × List Int} {d : PyData} {ds : List PyData} {i : Nat} (h : moveD n c s d = none) : movesD n c s (d :: ds) i = some i := by
  rw [movesD, h]
def dM (ps : List Int) (c : Nat) (k : Nat) : PyData := .tuple [.int (k : Nat), .int ((ps.getD k 0 + 1) % (c : Int))]
theorem good_moves {ps : List Int} {c : Nat} {n : Nat} (hn : ps.length = n) (c1 : 1 < c) (hp : ∀ p ∈ ps, 0 ≤ p ∧ p < (c : Int)) : ∀ (is : List Nat) (s kn : List Int) (rest : List PyData) (i : Nat), is.Pairwise (· < ·) → (∀ k ∈ is, k < n) → (∀ k ∈ is, s[k]? = ps[k]?) → (∀ k ∈ is, (k : Int) ∉ kn) → s.length = n →
    ∃ s' : List Int, movesD n c (s, kn) (is.map (dM ps c) ++ rest) i = movesD n c (s', kn ++ is.map fun k : Nat => (k : Int)) rest (i + is.length) ∧ s'.length = n ∧ ∀ k, k ∉ is → s'[k]? = s[k]?
  | [], s, kn, rest, i, _, _, _, _, hs => ⟨s, by rw [List.map_nil, List.map_nil, List.append_nil]; rfl, hs, fun _ _ => rfl⟩
  | k :: is, s, kn, rest, i, hpw, hlt, hsk, hkn, hs => by
    have hk := hlt k List.mem_cons_self
    have hpk := hsk k List.mem_cons_self
    have hkk : k < ps.length := by omega
    have hg : ps.getD k 0 = ps[k] := by rw [List.getD_eq_getElem?_getD, List.getElem?_eq_getElem hkk]; rfl
    obtain ⟨p0, p1⟩ := hp ps[k] (List.getElem_mem hkk)
    obtain ⟨hpa, hpb⟩ := List.pairwise_cons.mp hpw
    have m0 := Int.emod_nonneg (ps[k] + 1) (show (c : Int) ≠ 0 by omega)
    have m1 := Int.emod_lt_of_pos (ps[k] + 1) (show (0 : Int) < c by omega)
    have ne : (ps[k] + 1) % (c : Int) ≠ ps[k] := fun e => by
      rcases (by omega : ps[k] + 1 < (c : Int) ∨ (c : Int) ≤ ps[k] + 1) with h | h
      · rw [Int.emod_eq_of_lt (by omega) h] at e
        omega
      · have e2 : ps[k] + 1 = c := by omega
        rw [e2, Int.emod_self] at e
        omega
    have em := moveD_ok (n := n) (c := c) (k := (k : Nat)) (p := (ps[k] + 1) % (c : Int)) (s := (s, kn)) (by omega) (by omega) (hkn k List.mem_cons_self) m0 (by omega) (by
      rw [Int.toNat_natCast, hpk, List.getElem?_eq_getElem hkk]
      intro e
      exact ne (Option.some.inj e).symm)
    obtain ⟨s', h1, h2, h3⟩ := good_moves hn c1 hp is (s.set k ((ps[k] + 1) % (c : Int))) (kn ++ [(k : Int)]) rest (i + 1) hpb (fun j hj => hlt j (List.mem_cons_of_mem _ hj))
      (fun j hj => by rw [List.getElem?_set_ne (by have := hpa j hj; omega)]; exact hsk j (List.mem_cons_of_mem _ hj))
      (fun j hj h => by
        rcases List.mem_append.mp h with h | h
        · exact hkn j (List.mem_cons_of_mem _ hj) h
        · have := hpa j hj
          have := List.mem_singleton.mp h
          omega) (by rw [List.length_set]; exact hs)
    refine ⟨s', ?_, h2, fun j hj => ?_⟩
    · rw [List.map_cons, List.cons_append]
      rw [show dM ps c k = .tuple [.int (k : Nat), .int ((ps[k] + 1) % (c : Int))] from by unfold dM; rw [hg], movesD_ok em]
      show movesD n c (s.set ((k : Nat) : Int).toNat _, kn ++ [(k : Int)]) _ (i + 1) = _
      rw [Int.toNat_natCast, h1, List.append_assoc, List.length_cons, Nat.add_right_comm i 1, Nat.add_assoc]
      rfl
    · rw [h3 j (fun h => hj (List.mem_cons_of_mem _ h)), List.getElem?_set_ne (fun e => hj (by rw [e]; exact List.mem_cons_self))]
inductive BadM (ps : List Int) (n c : Nat) : PyData → Prop
  | here : BadM ps n c (.tuple [.int 0, .int (ps.getD 0 0)])
  | line : BadM ps n c (.tuple [.int (n : Nat), .int 0])
  | neg : BadM ps n c (.tuple [.int (-1), .int 0])
  | goal : BadM ps n c (.tuple [.int 0, .int (c : Nat)])
  | goalN : BadM ps n c (.tuple [.int 0, .int (-1)])
  | one : BadM ps n c (.tuple [.int 0])
  | lst : BadM ps n c (.list [.int 0, .int 0])
  | non : BadM ps n c .none
  | bl : BadM ps n c (.tuple [.bool true, .int 0])
theorem BadM.none {ps : List Int} {n c : Nat} {d : PyData} (h : BadM ps n c d) (hn : ps.length = n) (n1 : 1 ≤ n) {s kn : List Int} {is : List Nat} (ek : kn = is.map fun k : Nat => (k : Int)) (hs : ∀ k, k ∉ is → s[k]? = ps[k]?) : moveD n c (s, kn) d = Option.none := by
  cases h with
  | here =>
    by_cases h0 : 0 ∈ is
    · exact moveD_in (by rw [ek]; exact List.mem_map.mpr ⟨0, h0, rfl⟩)
    · refine moveD_at ?_
      show s[0]? = _
      rw [hs 0 h0, List.getD_eq_getElem?_getD, List.getElem?_eq_getElem (show 0 < ps.length by omega)]
      rfl
  | line => exact moveD_k (decide_eq_false (by omega))
  | neg => exact moveD_k (by simp [isIntD])
  | goal => exact moveD_p (decide_eq_false (by omega))
  | goalN => exact moveD_p (by simp [isIntD])
  | one => rfl
  | lst => rfl
  | non => rfl
  | bl => rfl
theorem judge_bad {ls ps : List Int} {c : Nat} {is rest : List Nat} {d : PyData} (hn : ps.length = ls.length) (n1 : 1 ≤ ls.length) (c1 : is ≠ [] → 1 < c) (hp : ∀ p ∈ ps, 0 ≤ p ∧ p < (c : Int)) (hpw : is.Pairwise (· < ·)) (hlt : ∀ k ∈ is, k < ls.length) (bad : BadM ps ls.length c d) (ds : List PyData) :
    judgeD (.tuple (ls.map PyData.int)) (.tuple (ps.map PyData.int)) (.int (c : Nat)) (is.map (dM ps c) ++ (d :: ds)) = some is.length := by
  rw [judgeD_eq]
  by_cases e : is = []
  · subst e
    show movesD _ _ _ (d :: ds) 0 = some 0
    exact movesD_no (bad.none hn n1 (is := []) rfl (fun _ _ => rfl))
  obtain ⟨s', h1, h2, h3⟩ := good_moves (n := ls.length) hn (c1 e) hp is ps [] (d :: ds) 0 hpw hlt (fun _ _ => rfl) (fun _ _ h => nomatch h) hn
  rw [h1, List.nil_append, movesD_no (bad.none hn n1 (is := is) rfl h3), Nat.zero_add]
theorem judge_twice {ls ps : List Int} {c : Nat} {k : Nat} {is : List Nat} (hn : ps.length = ls.length) (c1 : 1 < c) (hp : ∀ p ∈ ps, 0 ≤ p ∧ p < (c : Int)) (hpw : (k :: is).Pairwise (· < ·)) (hlt : ∀ j ∈ k :: is, j < ls.length) :
    judgeD (.tuple (ls.map PyData.int)) (.tuple (ps.map PyData.int)) (.int (c : Nat)) ((k :: is).map (dM ps c) ++ [dM ps c k]) = some (k :: is).length := by
  rw [judgeD_eq]
  obtain ⟨s', h1, h2, h3⟩ := good_moves (n := ls.length) hn c1 hp (k :: is) ps [] [dM ps c k] 0 hpw hlt (fun _ _ => rfl) (fun _ _ h => nomatch h) hn
  rw [h1, List.nil_append, movesD_no (show moveD ls.length c (s', (k :: is).map fun k : Nat => (k : Int)) (dM ps c k) = none from moveD_in (by simp)), Nat.zero_add]
theorem up_len {n : Nat} : ∀ (is : List Nat) (lo : Nat), lo ≤ n → is.Pairwise (· < ·) → (∀ k ∈ is, lo ≤ k ∧ k < n) → lo + is.length ≤ n
  | [], lo, h, _, _ => h
  | k :: is, lo, _, hp, hk => by
    obtain ⟨h1, h2⟩ := hk k List.mem_cons_self
    obtain ⟨ha, hb⟩ := List.pairwise_cons.mp hp
    have := up_len is (k + 1) (by omega) hb fun j hj => ⟨ha j hj, (hk j (List.mem_cons_of_mem _ hj)).2⟩
    rw [List.length_cons]
    omega
theorem loadsOk_good {ls ps : List Int} {c : Nat} (l1 : 1 ≤ ls.length) (l7 : ls.length ≤ 7) (len : ps.length = ls.length) (c1 : 1 ≤ c) (c4 : c ≤ 4) (hl : ∀ i ∈ ls, 0 ≤ i ∧ i ≤ 1000) (hp : ∀ p ∈ ps, 0 ≤ p ∧ p < (c : Int)) : loadsOk (.tuple (ls.map PyData.int)) (.tuple (ps.map PyData.int)) (.int (c : Nat)) = true := by
  have a1 : (ls.map PyData.int).all (isIntD 0 1000) = true := by
    rw [List.all_eq_true]
    intro x hx
    obtain ⟨i, hi, rfl⟩ := List.mem_map.mp hx
    exact decide_eq_true (hl i hi)
  have a2 : (ps.map PyData.int).all (isIntD 0 3) = true := by
    rw [List.all_eq_true]
    intro x hx
    obtain ⟨i, hi, rfl⟩ := List.mem_map.mp hx
    exact decide_eq_true ⟨(hp i hi).1, by have := (hp i hi).2; omega⟩
  have a3 : isIntD (maxP (ps.map PyData.int) + 1) 4 (.int (c : Nat)) = true := by
    refine decide_eq_true ⟨?_, by omega⟩
    unfold maxP
    rw [List.map_map, show intOf ∘ PyData.int = id from rfl, List.map_id]
    rcases (fold_max_mem ps 0).1 with h | h
    · rw [h]
      omega
    · have := (hp _ h).2
      omega
  simp only [loadsOk, a1, a2, a3, List.length_map, len, l1, l7, and_self, decide_true, Bool.and_self]
theorem shM {k : Nat} (h : k ≤ 6) : SeqAt.shaped (.tuple [.str "move", .int (k : Nat)]) = true := by
  match k, h with
  | 0, _ => decide +kernel
  | 1, _ => decide +kernel
  | 2, _ => decide +kernel
  | 3, _ => decide +kernel
  | 4, _ => decide +kernel
  | 5, _ => decide +kernel
  | 6, _ => decide +kernel
end Z
set_option maxHeartbeats 1000000
namespace Z
open PySem PySem.Spec PyProof.Rows L2
open He (ga ma)
structure Wc where
  ca : List (Str × Nat × Int)
  ba : Int
  jo : List Str
structure Ws where
  wa : List Key
  ma : List Key
  up : List Key
  be : List Int
  cs : List Wc
inductive Mv where
  | beg (z : Str) (n : Nat)
  | stp (n : Nat)
def inY (k : Key) (l : List Key) : Bool := l.any fun y => decide (y = k)
def srtY (l : List Key) : List Key := l.mergeSort (PySem.W.dataLe false kD)
def cutY (l : List Key) (x : Key) : List Key := l.filter fun y => !decide (y = x)
def wPut (l : List Key) (x : Key) (b : Bool) : List Key := if b = true then srtY (cutY l x ++ [x]) else cutY l x
theorem srtY_perm (l : List Key) : (srtY l).Perm l := List.mergeSort_perm _ _
def dMv : Mv → PyData
  | .beg z n => .tuple [.str "begin", .str z, .int (n : Nat)]
  | .stp n => .tuple [.str "step", .int (n : Nat)]
def stp (P : Pl) (x : Str × Nat × Int) : Str × Key := ((P.ln x.1).st[x.2.1]?).getD ("", .inl 0)
def Wc.inner (P : Pl) (c : Wc) : Int := match c.ca.getLast? with
  | none => 0
  | some x => (P.ln x.1).rk
def Ws.busy (s : Ws) : List Str := s.cs.flatMap fun c => c.ca.map (·.1)
def Ws.free (s : Ws) (k : Key) : Bool := !inY k s.ma && !decide (kS k ∈ s.busy)
def Wc.lets (P : Pl) (z : Str) (c : Wc) : Bool := decide ((P.ln z).rk > max c.ba (c.inner P))
def Ws.begs (P : Pl) (s : Ws) (k : Key) : List Mv := if s.free k = true then (s.cs.zipIdx.filter fun x => x.1.lets P (kS k)).map fun x => .beg (kS k) x.2 else []
def Wc.can (P : Pl) (up : List Key) (c : Wc) : Bool := match c.ca.getLast? with
  | none => !c.jo.isEmpty
  | some x => !decide ((stp P x).1 = "await") || inY (stp P x).2 up
def Ws.moves (P : Pl) (s : Ws) : List Mv := s.wa.flatMap (s.begs P) ++ (s.cs.zipIdx.filter fun x => x.1.can P s.up).map fun x => .stp x.2
def jobI (P : Pl) (x : Str × Nat) : Int × Int := (0 - (P.wk x.1).rk, (x.2 : Nat))
def firstW (P : Pl) (l : List Str) : Nat := (match l.zipIdx.map (jobI P) with
  | [] => (0, 0)
  | y :: r => minII y r).2.toNat
def lessW (P : Pl) (l : List Str) : List Str := l.take (firstW P l) ++ l.drop (firstW P l + 1)
def bumpB (P : Pl) (be : List Int) (z : Str) : List Int := (P.names.zip be).map fun x => x.2 + if x.1 = z then 1 else 0
def Wc.gone (P : Pl) (c : Wc) (z : Str) (i : Nat) (k : Int) : Wc :=
  let w := stp P (z, i, k)
  let ba := if w.1 = "bar" then kI w.2 else c.ba
  let jo := if w.1 = "later" ∧ kS w.2 ∉ c.jo then c.jo ++ [kS w.2] else c.jo
  if i + 1 < (P.ln z).st.length then ⟨c.ca.dropLast ++ [(z, i + 1, k)], ba, jo⟩ else ⟨c.ca.dropLast, k, jo⟩
def Ws.did (s : Ws) (w : Str × Key) : Ws :=
  { s with wa := if w.1 = "ring" then wPut s.wa w.2 true else s.wa
           ma := if w.1 = "mask" ∨ w.1 = "unmask" then wPut s.ma w.2 (decide (w.1 = "mask")) else s.ma
           up := if w.1 = "set" ∨ w.1 = "clear" then wPut s.up w.2 (decide (w.1 = "set")) else s.up }
def wc0 : Wc := ⟨[], 0, []⟩
def Ws.after (P : Pl) (s : Ws) : Mv → Ws
  | .beg z n => { s with wa := wPut s.wa (.inr z) false, be := bumpB P s.be z, cs := s.cs.set n { (s.cs[n]?).getD wc0 with ca := ((s.cs[n]?).getD wc0).ca ++ [(z, 0, ((s.cs[n]?).getD wc0).ba)] } }
  | .stp n => match ((s.cs[n]?).getD wc0).ca.getLast? with
    | none => { s with cs := s.cs.set n { (s.cs[n]?).getD wc0 with jo := lessW P ((s.cs[n]?).getD wc0).jo } }
    | some x => { s.did (stp P x) with cs := s.cs.set n (((s.cs[n]?).getD wc0).gone P x.1 x.2.1 x.2.2) }
structure KSub (N : List Key) (l : List Key) : Prop where
  nd : l.Nodup
  sub : ∀ k ∈ l, k ∈ N
theorem KSub.len {N l : List Key} (h : KSub N l) : l.length ≤ N.length := h.nd.length_le_of_subset h.sub
theorem KSub.put {N l : List Key} (h : KSub N l) {x : Key} (hx : x ∈ N) (b : Bool) : KSub N (wPut l x b) := by
  have c : KSub N (cutY l x) := ⟨h.nd.sublist List.filter_sublist, fun k hk => h.sub k (List.mem_filter.mp hk).1⟩
  unfold wPut
  cases b with
  | false => exact c
  | true =>
    rw [if_pos rfl]
    have nx : x ∉ cutY l x := fun hm => by
      have := (List.mem_filter.mp hm).2
      simp at this
    refine ⟨(srtY_perm _).nodup_iff.mpr (List.nodup_append.mpr ⟨c.nd, by simp, fun a ha b hb e => ?_⟩), fun k hk => ?_⟩
    · rw [List.mem_singleton.mp hb] at e
      exact nx (e ▸ ha)
    · rcases List.mem_append.mp ((srtY_perm _).mem_iff.mp hk) with hk | hk
      · exact c.sub k hk
      · rw [List.mem_singleton.mp hk]; exact hx
def flagK : List Key := [0, 1, 2, 3, 4, 5, 6, 7].map Sum.inl
theorem flagK_mem {i : Int} (h0 : 0 ≤ i) (h7 : i ≤ 7) : (.inl i : Key) ∈ flagK := by
  have : i = 0 ∨ i = 1 ∨ i = 2 ∨ i = 3 ∨ i = 4 ∨ i = 5 ∨ i = 6 ∨ i = 7 := by omega
  rcases this with rfl | rfl | rfl | rfl | rfl | rfl | rfl | rfl <;> simp [flagK]
structure Wc.Ok (P : Pl) (c : Wc) : Prop where
  cz : ∀ x ∈ c.ca, x.1 ∈ P.names ∧ x.2.1 < (P.ln x.1).st.length
  cr : c.ca.Pairwise fun x y => (P.ln x.1).rk < (P.ln y.1).rk
  jn : c.jo.Nodup
  jw : ∀ z ∈ c.jo, z ∈ P.wnames
structure Ws.Ok (P : Pl) (n : Nat) (s : Ws) : Prop where
  wa : KSub (P.names.map Sum.inr) s.wa
  ma : KSub (P.names.map Sum.inr) s.ma
  up : KSub flagK s.up
  be : s.be.length = P.names.length
  cs : s.cs.length = n
  co : ∀ c ∈ s.cs, c.Ok P
theorem Pl.Ok.stne {P : Pl} (ok : P.Ok) {z : Str} (hz : z ∈ P.names) : 0 < (P.ln z).st.length := by
  have h := ok.lok _ (ok.ln_mem hz).1
  simp only [isLine, dLn, isSteps, Bool.and_eq_true, decide_eq_true_eq, List.length_map] at h
  omega
theorem Pl.Ok.stp {P : Pl} (ok : P.Ok) {x : Str × Nat × Int} (hz : x.1 ∈ P.names) (hi : x.2.1 < (P.ln x.1).st.length) : (P.ln x.1).st[x.2.1]? = some (Z.stp P x) ∧ StepIs P (Z.stp P x) := by
  have e : (P.ln x.1).st[x.2.1]? = some (P.ln x.1).st[x.2.1] := List.getElem?_eq_getElem hi
  have e2 : Z.stp P x = (P.ln x.1).st[x.2.1] := by unfold Z.stp; rw [e]; rfl
  rw [e2]
  exact ⟨e, ok.step (ok.ln_mem hz).1 (List.getElem_mem hi)⟩
theorem lessW_sub (P : Pl) (l : List Str) : (lessW P l).Sublist l := by
  unfold lessW
  conv => rhs; rw [← List.take_append_drop (firstW P l) l]
  refine List.Sublist.append (List.Sublist.refl _) ?_
  rw [← List.drop_drop]
  exact List.drop_sublist _ _
theorem getLast_mem {α : Type} {l : List α} {x : α} (h : l.getLast? = some x) : x ∈ l := List.mem_of_getLast? h
theorem dropLast_app {α : Type} {l : List α} {x : α} (h : l.getLast? = some x) : l.dropLast ++ [x] = l := by
  obtain ⟨hne, e⟩ := List.getLast?_eq_some_iff.mp h |> fun ⟨ys, e⟩ => (⟨by rw [e]; simp, by rw [e]; simp⟩ : l ≠ [] ∧ l.dropLast ++ [x] = l)
  exact e
theorem mem_setC {l : List Wc} {n : Nat} {c x : Wc} (h : x ∈ l.set n c) : x ∈ l ∨ x = c := List.mem_or_eq_of_mem_set h
theorem moves_mem {P : Pl} {s : Ws} {m : Mv} (h : m ∈ s.moves P) : (∃ z n c, m = .beg z n ∧ (∃ k ∈ s.wa, kS k = z ∧ s.free k = true) ∧ s.cs[n]? = some c ∧ c.lets P z = true) ∨ ∃ n c, m = .stp n ∧ s.cs[n]? = some c ∧ c.can P s.up = true := by
  rcases List.mem_append.mp h with h | h
  · obtain ⟨k, hk, hm⟩ := List.mem_flatMap.mp h
    unfold Ws.begs at hm
    split at hm
    · rename_i hf
      obtain ⟨x, hx, rfl⟩ := List.mem_map.mp hm
      obtain ⟨h1, h2⟩ := List.mem_filter.mp hx
      exact .inl ⟨_, _, x.1, rfl, ⟨k, hk, rfl, hf⟩, List.mem_zipIdx_iff_getElem?.mp h1, h2⟩
    · cases hm
  · obtain ⟨x, hx, rfl⟩ := List.mem_map.mp h
    obtain ⟨h1, h2⟩ := List.mem_filter.mp hx
    exact .inr ⟨_, x.1, rfl, List.mem_zipIdx_iff_getElem?.mp h1, h2⟩
theorem StepIs.lineK {P : Pl} {w : Str × Key} (si : StepIs P w) {q : Str} (e : w.1 = q) (hq : q ∈ (["ring", "mask", "unmask"] : List Str)) : w.2 ∈ P.names.map Sum.inr := by
  rw [← e] at hq
  cases si with
  | run i _ _ => exact absurd (show ("run" : Str) ∈ (["ring", "mask", "unmask"] : List Str) from hq) (by decide)
  | bar i _ _ => exact absurd (show ("bar" : Str) ∈ (["ring", "mask", "unmask"] : List Str) from hq) (by decide)
  | later z _ => exact absurd (show ("later" : Str) ∈ (["ring", "mask", "unmask"] : List Str) from hq) (by decide)
  | flag w i hw _ _ =>
    have hq' : w ∈ (["ring", "mask", "unmask"] : List Str) := hq
    simp only [List.mem_cons, List.not_mem_nil, or_false] at hw
    rcases hw with rfl | rfl | rfl <;> exact absurd hq' (by decide)
  | line w z hw hz _ => exact List.mem_map_of_mem hz
theorem StepIs.flagK {P : Pl} {w : Str × Key} (si : StepIs P w) {q : Str} (e : w.1 = q) (hq : q ∈ (["set", "clear"] : List Str)) : w.2 ∈ Z.flagK := by
  rw [← e] at hq
  cases si with
  | run i _ _ => exact absurd (show ("run" : Str) ∈ (["set", "clear"] : List Str) from hq) (by decide)
  | bar i _ _ => exact absurd (show ("bar" : Str) ∈ (["set", "clear"] : List Str) from hq) (by decide)
  | later z _ => exact absurd (show ("later" : Str) ∈ (["set", "clear"] : List Str) from hq) (by decide)
  | flag w i hw h0 h7 => exact flagK_mem h0 h7
  | line w z hw hz _ =>
    have hq' : w ∈ (["set", "clear"] : List Str) := hq
    simp only [List.mem_cons, List.not_mem_nil, or_false] at hw
    rcases hw with rfl | rfl | rfl | rfl <;> exact absurd hq' (by decide)
theorem StepIs.laterK {P : Pl} {w : Str × Key} (si : StepIs P w) (e : w.1 = "later") : kS w.2 ∈ P.wnames := by
  cases si with
  | run i _ _ => exact absurd (show ("run" : Str) = "later" from e) (by decide)
  | bar i _ _ => exact absurd (show ("bar" : Str) = "later" from e) (by decide)
  | later z hz => exact hz
  | flag w i hw _ _ =>
    have e' : w = "later" := e
    rw [e'] at hw
    exact absurd hw (by decide)
  | line w z hw hz _ =>
    have e' : w = "later" := e
    rw [e'] at hw
    exact absurd hw (by decide)
theorem Ws.Ok.after {P : Pl} {n : Nat} {s : Ws} (h : s.Ok P n) (ok : P.Ok) {m : Mv} (hm : m ∈ s.moves P) : (s.after P m).Ok P n := by
  rcases moves_mem hm with ⟨z, j, c, rfl, ⟨k, hk, rfl, hf⟩, hj, hl⟩ | ⟨j, c, rfl, hj, hc⟩
  · obtain ⟨z, hz, rfl⟩ := List.mem_map.mp (h.wa.sub k hk)
    have hz' : z ∈ P.names := hz
    have cok := h.co c (List.mem_of_getElem? hj)
    unfold Ws.after
    simp only [hj, Option.getD_some]
    refine ⟨h.wa.put (List.mem_map_of_mem hz') false, h.ma, h.up, ?_, ?_, fun x hx => ?_⟩
    · show (bumpB P s.be z).length = _
      unfold bumpB
      rw [List.length_map, List.length_zip, h.be, Nat.min_self]
    · show (List.set _ _ _).length = n
      rw [List.length_set, h.cs]
    · rcases mem_setC hx with hx | rfl
      · exact h.co x hx
      refine ⟨fun y hy => ?_, ?_, cok.jn, cok.jw⟩
      · rcases List.mem_append.mp hy with hy | hy
        · exact cok.cz y hy
        · rw [List.mem_singleton.mp hy]
          exact ⟨hz', ok.stne hz'⟩
      · refine List.pairwise_append.mpr ⟨cok.cr, List.pairwise_singleton _ _, fun y hy x hx => ?_⟩
        rw [List.mem_singleton.mp hx]
        have hl' : (P.ln z).rk > max c.ba (c.inner P) := of_decide_eq_true hl
        unfold Wc.inner at hl'
        cases hg : c.ca.getLast? with
        | none =>
          rw [List.getLast?_eq_none_iff.mp hg] at hy
          cases hy
        | some x =>
          rw [hg] at hl'
          have e := dropLast_app hg
          have hle : (P.ln y.1).rk ≤ (P.ln x.1).rk := by
            rw [← e] at hy
            rcases List.mem_append.mp hy with hy | hy
            · have := (List.pairwise_append.mp (by rw [e]; exact cok.cr : (c.ca.dropLast ++ [x]).Pairwise fun x y => (P.ln x.1).rk < (P.ln y.1).rk)).2.2 y hy x (List.mem_singleton.mpr rfl)
              omega
            · rw [List.mem_singleton.mp hy]; exact Int.le_refl _
          show (P.ln y.1).rk < (P.ln z).rk
          have h2 : (P.ln z).rk > max c.ba (P.ln x.1).rk := hl'
          omega
  · have cok := h.co c (List.mem_of_getElem? hj)
    unfold Ws.after
    simp only [hj, Option.getD_some]
    cases hg : c.ca.getLast? with
    | none =>
      refine ⟨h.wa, h.ma, h.up, h.be, ?_, fun x hx => ?_⟩
      · show (List.set _ _ _).length = n
        rw [List.length_set, h.cs]
      · rcases mem_setC hx with hx | rfl
        · exact h.co x hx
        exact ⟨cok.cz, cok.cr, cok.jn.sublist (lessW_sub P _), fun z hz => cok.jw z ((lessW_sub P _).subset hz)⟩
    | some x =>
      obtain ⟨hz, hi⟩ := cok.cz x (getLast_mem hg)
      obtain ⟨e1, si⟩ := ok.stp hz hi
      have e := dropLast_app hg
      have dl : (c.ca.dropLast).Sublist c.ca := List.dropLast_sublist _
      generalize hw : Z.stp P x = w at si e1
      have lk := fun {q : Str} => si.lineK (q := q)
      have fk := fun {q : Str} => si.flagK (q := q)
      dsimp only
      refine ⟨?_, ?_, ?_, h.be, ?_, fun y hy => ?_⟩
      · show KSub _ (s.did (Z.stp P x)).wa
        rw [hw]
        show KSub _ (if w.1 = "ring" then _ else _)
        split
        · exact h.wa.put (lk ‹_› (by simp)) _
        · exact h.wa
      · show KSub _ (s.did (Z.stp P x)).ma
        rw [hw]
        show KSub _ (if w.1 = "mask" ∨ w.1 = "unmask" then _ else _)
        split
        · rename_i hq
          rcases hq with hq | hq
          · exact h.ma.put (lk hq (by simp)) _
          · exact h.ma.put (lk hq (by simp)) _
        · exact h.ma
      · show KSub _ (s.did (Z.stp P x)).up
        rw [hw]
        show KSub _ (if w.1 = "set" ∨ w.1 = "clear" then _ else _)
        split
        · rename_i hq
          rcases hq with hq | hq
          · exact h.up.put (fk hq (by simp)) _
          · exact h.up.put (fk hq (by simp)) _
        · exact h.up
      · show (List.set _ _ _).length = n
        rw [List.length_set, h.cs]
      · rcases mem_setC hy with hy | rfl
        · exact h.co y hy
        have jok : (if w.1 = "later" ∧ kS w.2 ∉ c.jo then c.jo ++ [kS w.2] else c.jo).Nodup ∧ ∀ z ∈ (if w.1 = "later" ∧ kS w.2 ∉ c.jo then c.jo ++ [kS w.2] else c.jo), z ∈ P.wnames := by
          split
          · rename_i hq
            refine ⟨List.nodup_append.mpr ⟨cok.jn, by simp, fun a ha b hb e => ?_⟩, fun z hz => ?_⟩
            · rw [List.mem_singleton.mp hb] at e
              exact hq.2 (e ▸ ha)
            · rcases List.mem_append.mp hz with hz | hz
              · exact cok.jw z hz
              · rw [List.mem_singleton.mp hz]
                exact si.laterK hq.1
          · exact ⟨cok.jn, cok.jw⟩
        have xe : (x.1, x.2.1, x.2.2) = x := rfl
        unfold Wc.gone
        simp only [xe, hw]
        split
        · refine ⟨fun y hy => ?_, ?_, jok.1, jok.2⟩
          · rcases List.mem_append.mp hy with hy | hy
            · exact cok.cz y (dl.subset hy)
            · rw [List.mem_singleton.mp hy]
              exact ⟨hz, ‹_›⟩
          · have pw := cok.cr
            rw [← e] at pw
            obtain ⟨p1, _, p3⟩ := List.pairwise_append.mp pw
            refine List.pairwise_append.mpr ⟨p1, List.pairwise_singleton _ _, fun a ha b hb => ?_⟩
            rw [List.mem_singleton.mp hb]
            exact p3 a ha x (List.mem_singleton.mpr rfl)
        · exact ⟨fun y hy => cok.cz y (dl.subset hy), cok.cr.sublist dl, jok.1, jok.2⟩
end Z
set_option maxHeartbeats 1000000
namespace Z
open PySem PySem.Spec PyProof.Rows L2
open He (ga ma)
def wvF (p : Addr) (n : Nat) : List (Str × V) := [("plan", .ref p), ("size", .int (n : Nat))]
theorem wvF_plan {p : Addr} {n : Nat} : (wvF p n).lookup ("plan" : Str) = some (.ref p) := by kernel_rfl
theorem wvF_size {p : Addr} {n : Nat} : (wvF p n).lookup ("size" : Str) = some (.int (n : Nat)) := by kernel_rfl
structure WvAt (K : Fg) (H : Hp) (x : Addr) (D : PA) (P : Pl) (n : Nat) : Prop where
  ins : ∃ dx, H x = some (.ins (ga K "Weaver") dx (wvF D.p n))
  pl : PlanAt K H D P
  n6 : n ≤ 6
theorem WvAt.same {K : Fg} {H H' : Hp} {x : Addr} {D : PA} {P : Pl} {n : Nat} (h : WvAt K H x D P n) (s : Same H H') : WvAt K H' x D P n := by
  obtain ⟨dx, e⟩ := h.ins
  exact ⟨⟨dx, s _ _ e⟩, h.pl.same s, h.n6⟩
def KindOk (l : List Key) : Prop := (∀ k ∈ l, ∃ z, k = .inr z) ∨ ∀ k ∈ l, ∃ i, k = .inl i
theorem KindOk.names {N : List Str} {l : List Key} (h : ∀ k ∈ l, k ∈ (N.map Sum.inr : List Key)) : KindOk l := .inl fun k hk => by
  obtain ⟨z, _, e⟩ := List.mem_map.mp (h k hk)
  exact ⟨z, e.symm⟩
theorem KSub.kind {N : List Str} {l : List Key} {k : Key} (h : KSub (N.map Sum.inr) l) (hk : k ∈ (N.map Sum.inr : List Key)) : KindOk (l ++ [k]) := KindOk.names fun y hy => by
  rcases List.mem_append.mp hy with hy | hy
  · exact h.sub y hy
  · rw [List.mem_singleton.mp hy]; exact hk
end Z
set_option maxHeartbeats 1000000
namespace Z
open PySem PySem.Spec PyProof.Rows L2
open He (ga ma)
end Z
set_option maxHeartbeats 1000000
namespace Z
open PySem PySem.Spec PyProof.Rows L2
open He (ga ma)
def flatW (n : Nat) (d : PyData) : Prop := d.canLay0 = true ∧ d.depth ≤ n
theorem flatW.mono {n m : Nat} {d : PyData} (h : flatW n d) (hm : n ≤ m) : flatW m d := ⟨h.1, Nat.le_trans h.2 hm⟩
theorem flatW.shaped {n : Nat} {d : PyData} (h : flatW n d) (hn : n ≤ 64) : SeqAt.shaped d = true := by
  show (d.canLay0 && decide (d.depth ≤ 64)) = true
  rw [h.1, decide_eq_true (Nat.le_trans h.2 hn)]
  rfl
def Ws.go (P : Pl) (s : Ws) (ms : List Mv) : Ws := ms.foldl (fun t m => t.after P m) s
def Ws.Can (P : Pl) (s : Ws) (ms : List Mv) : Prop := ∀ i m, ms[i]? = some m → m ∈ (s.go P (ms.take i)).moves P
theorem Ws.go_snoc {P : Pl} {s : Ws} (ms : List Mv) (m : Mv) : s.go P (ms ++ [m]) = (s.go P ms).after P m := by
  unfold Ws.go
  rw [List.foldl_append]
  rfl
theorem Ws.Can.snoc {P : Pl} {s : Ws} {ms : List Mv} {m : Mv} (h : s.Can P ms) (hm : m ∈ (s.go P ms).moves P) : s.Can P (ms ++ [m]) := fun i x hi => by
  by_cases hlt : i < ms.length
  · rw [List.getElem?_append_left hlt] at hi
    rw [List.take_append_of_le_length (by omega)]
    exact h i x hi
  · have e : i = ms.length := by
      have := (List.getElem?_eq_some_iff.mp hi).1
      rw [List.length_append, List.length_singleton] at this
      omega
    subst e
    rw [List.getElem?_append_right (Nat.le_refl _), Nat.sub_self] at hi
    cases hi
    rw [List.take_left]
    exact hm
theorem Ws.Can.ok {P : Pl} {n : Nat} {s : Ws} (ok : P.Ok) (h0 : s.Ok P n) {ms : List Mv} (h : s.Can P ms) : ∀ i, i ≤ ms.length → (s.go P (ms.take i)).Ok P n
  | 0, _ => h0
  | i + 1, hi => by
    have ih := Ws.Can.ok ok h0 h i (by omega)
    have e : ms[i]? = some ms[i] := List.getElem?_eq_getElem (by omega)
    rw [List.take_add_one, e]
    show (s.go P (ms.take i ++ [ms[i]])).Ok P n
    rw [Ws.go_snoc]
    exact ih.after ok (h i _ e)
end Z
set_option maxHeartbeats 1000000
namespace Z
open PySem PySem.Spec PySem.Calls PyProof.Rows L2 PySem.W
end Z
set_option maxHeartbeats 1000000
namespace Z
open PySem PySem.Spec PyProof.Rows L2
end Z
set_option maxHeartbeats 1000000
namespace Z
open PySem PySem.Spec PyProof.Rows L2
open He (ga ma)
def plainW : HO → Bool
  | .tbl _ => false
  | .ext _ => false
  | _ => true
def NoW (H : Hp) (a : Addr) : Prop := ∀ o, H a = some o → plainW o = true
theorem NoW.of {H : Hp} {a : Addr} {o : HO} (h : H a = some o) (k : plainW o = true) : NoW H a := fun o2 h2 => by
  rw [h] at h2
  cases h2
  exact k
theorem NoW.none {H : Hp} {a : Addr} (h : H a = none) : NoW H a := fun o2 h2 => by
  rw [h] at h2
  cases h2
theorem tabs_kW {H H' : Hp} {N : List Addr} {t : Addr} {q : Str} (h : LamX.TabS H t q) (f : Fr N H H') (n : ∀ a ∈ N, NoW H a) : LamX.TabS H' t q := by
  obtain ⟨ps, e, h2, h3⟩ := h
  refine ⟨ps, f.at e fun z => ?_, h2, fun pos cv k => ?_⟩
  · exact absurd (n _ z _ e) (by simp [plainW])
  · obtain ⟨c, e1, e2⟩ := h3 pos cv k
    refine ⟨c, e1, f.at e2 fun z => ?_⟩
    exact absurd (n _ z _ e2) (by simp [plainW, LamX.CodeO])
theorem RowAt.noW {K : Fg} {H : Hp} {r sc : Addr} {ns : List Int} (h : RowAt K H r sc ns) : NoW H r := by
  obtain ⟨_, _, _, e, _⟩ := h.row
  exact NoW.of e rfl
theorem RowAt.tabW {K : Fg} {H H' : Hp} {r sc t : Addr} {ns : List Int} {q : Str} (h : RowAt K H r sc ns) (x : LamX.TabS H t q) (f : Fr [t] H H') : RowAt K H' r sc ns := by
  obtain ⟨ps, e, _⟩ := x
  refine h.keep f (fun z => ?_) ?_
  · have := h.noW _ (by rw [List.mem_singleton.mp z]; exact e)
    simp [plainW] at this
  · rcases h.scr with (k | ⟨o, k⟩) | k
    · exact .inl fun z => by rw [List.mem_singleton.mp z, e] at k; cases k
    · exact .inl fun z => by rw [List.mem_singleton.mp z, e] at k; cases k
    · exact .inr fun _ => .inr k
def WrD (d : PyData) : Prop := d = .none ∨ (∃ (a : Str) (i : Int), d = .tuple [.str a, .int i]) ∨ ∃ (a b : Str) (i : Int), d = .tuple [.str a, .str b, .int i]
theorem WrD.eqv {d : PyData} (h : WrD d) {m : Mv} (e : PyData.eqv (dMv m) d = true) : d = dMv m := by
  rcases h with rfl | ⟨a, i, rfl⟩ | ⟨a, b, i, rfl⟩
  · cases m <;> simp [dMv, PyData.eqv] at e
  · cases m with
    | beg z n => simp [dMv, PyData.eqv, PyData.eqvAll] at e
    | stp n =>
      simp [dMv, PyData.eqv, PyData.eqvAll] at e
      obtain ⟨e1, e2⟩ := e
      rw [dMv, ← e1, ← e2]
  · cases m with
    | stp n => simp [dMv, PyData.eqv, PyData.eqvAll] at e
    | beg z n =>
      simp [dMv, PyData.eqv, PyData.eqvAll] at e
      obtain ⟨e1, e2, e3⟩ := e
      rw [dMv, ← e1, ← e2, ← e3]
end Z
set_option maxHeartbeats 1000000
namespace T
open PySem PySem.Spec PyProof.Rows L2 Z
open He (ga ma)
local macro_rules | `(tactic| walk_at "z") => `(tactic| with_reducible first | refine ⟨_, _, rfl, rfl, ?_⟩ | refine ⟨_, rfl, ?_⟩)
local macro_rules | `(tactic| walk_at "z") => `(tactic| ((with_reducible refine s_isi (d := ?d1) ?h1 ?h2 ?q1); (case h1 => first | assumption | constructor); (case h2 => decide)))
local macro_rules | `(tactic| walk_at "z") => `(tactic| with_reducible first | refine s_tup ?_ | refine s_lst ?_)
local macro_rules | `(tactic| walk_at "z") => `(tactic| ((with_reducible refine s_ne ?h1 ?q1); (case h1 => exact rfl)))
local macro_rules | `(tactic| walk_at "z") => `(tactic| ((with_reducible refine s_eq ?h1 ?q1); (case h1 => exact rfl)))
local macro_rules | `(tactic| walk_at "z") => `(tactic| with_reducible first | refine s_dcT ?_ | refine s_cvalg ?_ | refine s_fldS ?_ | refine s_I0 ?_ | refine s_U ?_)
local macro_rules | `(tactic| walk_at "z") => `(tactic| with_reducible first | refine s_make ?_ | refine s_sl ?_ | refine s_nop ?_ | refine s_part ?_ | refine s_lcE ?_ | refine s_lc ?_)
local macro_rules | `(tactic| walk_at "z") => `(tactic| with_reducible first | refine s_for ?_ | refine s_rng1 ?_ | refine s_iT ?_ | refine s_iL ?_ | refine Or.inl (Exists.intro _ (And.intro rfl ?_)) | refine Or.inr (Exists.intro _ (And.intro rfl ?_)))
local macro_rules | `(tactic| walk_at "z") => `(tactic| with_reducible first | refine s_tupRg ?_ | refine s_lstRg ?_ | refine s_rg1 ?_ | refine s_items ?_ | refine s_get2 ?_ | refine s_callI ?_)
local macro_rules | `(tactic| walk_at "z") => `(tactic| with_reducible first | refine s_fldaug ?_ | refine s_add ?_ | refine s_ipI ?_ | refine s_ixO ?_ | refine s_lcL ?_ | refine s_dputg ?_)
local macro_rules | `(tactic| walk_at "z") => `(tactic| with_reducible first | refine s_daugg ?_ | refine s_disp ?_ | refine s_pcons ?_ | refine s_pnil ?_ | refine s_gsub ?_ | refine s_augS ?_)
local macro_rules | `(tactic| walk_at "z") => `(tactic| with_reducible first | refine s_bm ?_ | refine s_bm0 ?_ | refine s_fldg ?_ | refine s_meth ?_ | refine s_prop ?_ | refine s_lcT ?_)
local macro_rules | `(tactic| walk_at "z") => `(tactic| with_reducible first | refine s_yes ?_ | refine s_gcons ?_ | refine s_gnil ?_ | refine s_din ?_ | refine s_dnin ?_ | refine s_dget ?_)
local macro_rules | `(tactic| walk_at "z") => `(tactic| with_reducible first | refine s_orV ?_ | refine s_notV ?_ | refine s_if ?_ | refine s_chain ?_ | refine s_call ?_ | refine s_bl ?_)
local macro_rules | `(tactic| walk_at "z") => `(tactic| with_reducible first | refine s_test ?_ | refine s_B ?_ | refine s_and ?_ | refine s_or ?_ | refine s_not ?_ | refine s_andV ?_)
local macro_rules | `(tactic| walk_at "z") => `(tactic| with_reducible first | refine s_op ?_ | refine s_un ?_ | refine s_cb ?_ | refine s_cons ?_ | refine s_nil ?_ | refine s_star ?_)
local macro_rules | `(tactic| walk_at "z") => `(tactic| ((with_reducible refine s_var (v := ?v1) ?h1 ?q1); (case h1 => exact rfl)))
local macro_rules | `(tactic| walk_at "z") => `(tactic| with_reducible refine s_c ?_)
local macro_rules | `(tactic| walk_at "z") => `(tactic| with_reducible first | refine s_drop ?_ | refine s_next ?_ | refine s_cont ?_ | refine s_break ?_ | refine s_par ?_ | refine s_par2 ?_)
local macro_rules | `(tactic| walk_at "z") => `(tactic| with_reducible first | refine s_seq ?_ | refine s_asg ?_ | refine s_gname ?_ | refine s_ret ?_ | refine s_retN ?_ | refine s_ifS ?_)
local macro_rules | `(tactic| walk_at "zi") => `(tactic| ((with_reducible refine ite_t ?h1 ?q1); (case h1 => rfl)))
local macro_rules | `(tactic| walk_at "zi") => `(tactic| ((with_reducible refine ite_f ?h1 ?q1); (case h1 => rfl)))
local macro_rules | `(tactic| walk_at "zi") => `(tactic| walk_at "z")
local macro_rules | `(tactic| walk_at "zn") => `(tactic| (intro p hp; generalize eH : upd _ p _ = H2; have s2 := newS hp eH; have e2 := newE eH; clear eH))
local macro_rules | `(tactic| walk_at "zt") => `(tactic| ((with_reducible refine And.intro ?h1 ?_); (case h1 => exact Nat.le_of_ble_eq_true rfl); intro p hp; generalize eH : upd _ p _ = H2; have s2 := newS hp eH; have e2 := newE eH; clear eH))
local macro_rules | `(tactic| walk_at "hl") => `(tactic| ((with_reducible apply ev_same); (· assumption); · walk_at "hl"))
local macro_rules | `(tactic| walk_at "hl") => `(tactic| ((with_reducible apply mh_same); (· assumption); · walk_at "hl"))
local macro_rules | `(tactic| walk_at "hl") => `(tactic| ((with_reducible apply hs_same); (· assumption); · walk_at "hl"))
local macro_rules | `(tactic| walk_at "hl") => `(tactic| ((with_reducible apply mst_same); (· assumption); · walk_at "hl"))
local macro_rules | `(tactic| walk_at "hl") => `(tactic| ((with_reducible apply plm_same); (· assumption); · walk_at "hl"))
local macro_rules | `(tactic| walk_at "hl") => `(tactic| ((with_reducible apply md_same); (· assumption); · walk_at "hl"))
local macro_rules | `(tactic| walk_at "hl") => `(tactic| ((with_reducible apply row_same); (· assumption); · walk_at "hl"))
local macro_rules | `(tactic| walk_at "hl") => `(tactic| ((with_reducible apply sg_same); (· assumption); · walk_at "hl"))
local macro_rules | `(tactic| walk_at "hl") => `(tactic| ((with_reducible apply cst_same); (· assumption); · walk_at "hl"))
local macro_rules | `(tactic| walk_at "hl") => `(tactic| ((with_reducible apply co_same); (· assumption); · walk_at "hl"))
local macro_rules | `(tactic| walk_at "hl") => `(tactic| ((with_reducible apply bd_same); (· assumption); · walk_at "hl"))
local macro_rules | `(tactic| walk_at "hl") => `(tactic| ((with_reducible apply pl_same); (· assumption); · walk_at "hl"))
local macro_rules | `(tactic| walk_at "hl") => `(tactic| ((with_reducible apply dpA_same); (· assumption); · walk_at "hl"))
local macro_rules | `(tactic| walk_at "hl") => `(tactic| ((with_reducible apply dp_same); (· assumption); · walk_at "hl"))
local macro_rules | `(tactic| walk_at "hl") => `(tactic| ((with_reducible apply SqL.of); · walk_at "hl"))
local macro_rules | `(tactic| walk_at "hl") => `(tactic| ((with_reducible apply SqT.of); · walk_at "hl"))
local macro_rules | `(tactic| walk_at "hl") => `(tactic| ((with_reducible apply sqL_same); (· assumption); · walk_at "hl"))
local macro_rules | `(tactic| walk_at "hl") => `(tactic| ((with_reducible apply sqT_same); (· assumption); · walk_at "hl"))
local macro_rules | `(tactic| walk_at "hl") => `(tactic| ((with_reducible apply at_same); (· assumption); · walk_at "hl"))
local macro_rules | `(tactic| walk_at "hl") => `(tactic| assumption)
local macro_rules | `(tactic| walk_at "lk") => `(tactic| with_reducible first | exact coF_fr | exact coF_lim | exact coF_jo)
local macro_rules | `(tactic| walk_at "lk") => `(tactic| with_reducible first | exact bdF_hi | exact bdF_ta | exact bdF_ra | exact bdF_jo | exact sgF_plan | exact sgF_board | exact sgF_core | exact sgF_time | exact sgF_sums | exact coF_plan)
local macro_rules | `(tactic| walk_at "lk") => `(tactic| with_reducible first | exact hsF_mo | exact hsF_tu | exact hsF_rc | exact hsF_ho | exact hsF_bs | exact hsF_ds | exact hsF_ev | exact bdF_plan | exact bdF_sh | exact bdF_wa)
local macro_rules | `(tactic| walk_at "lk") => `(tactic| with_reducible first | exact bdF_re | exact bdF_wt | exact hsF_plan | exact hsF_size | exact hsF_rr | exact hsF_sr | exact hsF_wy | exact hsF_li | exact hsF_bd | exact hsF_co)
local macro_rules | `(tactic| walk_at "lk") => `(tactic| with_reducible first | exact wvF_plan | exact wvF_size | exact plF_lr | exact plF_wr | exact plF_rn | exact plF_wn | exact bdF_tm | exact bdF_hr | exact bdF_sp | exact bdF_ru)
local macro_rules | `(tactic| walk_at "mk") => `(tactic| with_reducible first | exact mk_bar | exact mk_jo | exact mk_now | exact mk_lg | exact mk_sp | exact mk_jn | exact mk_ln | exact mk_wk)
local macro_rules | `(tactic| walk_at "mk") => `(tactic| with_reducible first | exact mh_times | exact mh_done | exact mc_ca | exact mc_bar | exact mc_jo | exact mk_ca | exact mk_ed | exact mk_hi | exact mk_up | exact mk_sh)
local macro_rules | `(tactic| walk_at "mk") => `(tactic| with_reducible first | exact mh_fates | exact mh_lines | exact mh_works | exact mh_routes | exact mh_storms | exact mh_spots | exact mh_turns | exact mh_holds | exact mh_last | exact mh_begun)
local macro_rules | `(tactic| walk_at "mk") => `(tactic| with_reducible first | exact mh_modes | exact mh_cores | exact mh_now | exact mh_order | exact mh_shut | exact mh_wanted | exact mh_high | exact mh_flags | exact mh_log | exact mh_rings)
local macro_rules | `(tactic| walk_at "cl") => `(tactic| with_reducible exact Txt.cl_InvalidMove (by assumption))
local macro_rules | `(tactic| walk_at "na") => `(tactic| with_reducible exact Txt.n_InvalidMove_index (by assumption))
local macro_rules | `(tactic| walk_at "zz") => `(tactic| walk_at "zt")
local macro_rules | `(tactic| walk_at "zz") => `(tactic| ((with_reducible apply s_dgS); (· walk_at "hl"); (· walk_at "mk")))
local macro_rules | `(tactic| walk_at "zz") => `(tactic| ((with_reducible apply s_ixL); (· walk_at "hl"); (· with_reducible first | exact at0 | exact at1 | exact at2 | exact at3 | exact at4)))
local macro_rules | `(tactic| walk_at "zz") => `(tactic| ((with_reducible apply s_ixT); (· walk_at "hl"); (· with_reducible first | exact at0 | exact at1 | exact at2 | exact at3 | exact at4)))
local macro_rules | `(tactic| walk_at "zz") => `(tactic| ((with_reducible apply s_propat); (· walk_at "hl")))
local macro_rules | `(tactic| walk_at "zz") => `(tactic| ((with_reducible apply s_methat); (· walk_at "hl"); (· kernel_rfl)))
local macro_rules | `(tactic| walk_at "zz") => `(tactic| ((with_reducible apply s_fldat); (· walk_at "hl"); (· walk_at "cl"); (· walk_at "na"); (· walk_at "lk")))
local macro_rules | `(tactic| walk_at "zz") => `(tactic| walk_at "zi")
local macro_rules | `(tactic| walk_at "orz") => `(tactic| walk_at "zt")
local macro_rules | `(tactic| walk_at "orz") => `(tactic| ((with_reducible apply s_dgS); (· walk_at "hl"); (· walk_at "mk")))
local macro_rules | `(tactic| walk_at "orz") => `(tactic| ((with_reducible apply s_ixL); (· walk_at "hl"); (· with_reducible first | exact at0 | exact at1 | exact at2 | exact at3 | exact at4)))
local macro_rules | `(tactic| walk_at "orz") => `(tactic| ((with_reducible apply s_ixT); (· walk_at "hl"); (· with_reducible first | exact at0 | exact at1 | exact at2 | exact at3 | exact at4)))
local macro_rules | `(tactic| walk_at "orz") => `(tactic| ((with_reducible apply s_propat); (· walk_at "hl")))
local macro_rules | `(tactic| walk_at "orz") => `(tactic| ((with_reducible apply s_methat); (· walk_at "hl"); (· kernel_rfl)))
local macro_rules | `(tactic| walk_at "orz") => `(tactic| ((with_reducible apply s_fldat); (· walk_at "hl"); (· walk_at "cl"); (· walk_at "na"); (· walk_at "lk")))
local macro_rules | `(tactic| walk_at "orz") => `(tactic| ((with_reducible apply ite_t); (· rfl)))
local macro_rules | `(tactic| walk_at "orz") => `(tactic| ((with_reducible apply ite_f); (· rfl)))
local macro_rules | `(tactic| walk_at "orz") => `(tactic| with_reducible first | refine ⟨_, _, rfl, rfl, ?_⟩ | refine ⟨_, rfl, ?_⟩)
local macro_rules | `(tactic| walk_at "orz") => `(tactic| ((with_reducible apply s_isi); (· assumption); (· decide)))
local macro_rules | `(tactic| walk_at "orz") => `(tactic| with_reducible first | refine s_tup ?_ | refine s_lst ?_)
local macro_rules | `(tactic| walk_at "orz") => `(tactic| ((with_reducible apply s_ne); (· exact rfl)))
local macro_rules | `(tactic| walk_at "orz") => `(tactic| ((with_reducible apply s_eq); (· exact rfl)))
local macro_rules | `(tactic| walk_at "orz") => `(tactic| with_reducible first | refine s_lcE ?_ | refine s_lc ?_ | refine s_dcT ?_ | refine s_cvalg ?_ | refine s_I0 ?_ | refine s_U ?_)
local macro_rules | `(tactic| walk_at "orz") => `(tactic| with_reducible first | refine Or.inl (Exists.intro _ (And.intro rfl ?_)) | refine Or.inr (Exists.intro _ (And.intro rfl ?_)) | refine s_make ?_ | refine s_sl ?_ | refine s_nop ?_ | refine s_part ?_)
local macro_rules | `(tactic| walk_at "orz") => `(tactic| with_reducible first | refine s_get2 ?_ | refine s_callI ?_ | refine s_for ?_ | refine s_rng1 ?_ | refine s_iT ?_ | refine s_iL ?_)
local macro_rules | `(tactic| walk_at "orz") => `(tactic| with_reducible first | refine s_lcL ?_ | refine s_dputg ?_ | refine s_tupRg ?_ | refine s_lstRg ?_ | refine s_rg1 ?_ | refine s_items ?_)
local macro_rules | `(tactic| walk_at "orz") => `(tactic| with_reducible first | refine s_daugg ?_ | refine s_disp ?_ | refine s_gsub ?_ | refine s_fldaug ?_ | refine s_ipI ?_ | refine s_ixO ?_)
local macro_rules | `(tactic| walk_at "orz") => `(tactic| with_reducible first | refine s_chain ?_ | refine s_yes ?_ | refine s_din ?_ | refine s_dnin ?_ | refine s_bm0 ?_ | refine s_lcT ?_)
local macro_rules | `(tactic| walk_at "orz") => `(tactic| with_reducible first | refine s_un ?_ | refine s_star ?_ | refine s_and ?_ | refine s_or ?_ | refine s_orV ?_ | refine s_notV ?_)
local macro_rules | `(tactic| walk_at "orz") => `(tactic| with_reducible first | refine s_augS ?_ | refine s_retN ?_ | refine s_cont ?_ | refine s_break ?_ | refine s_par ?_ | refine s_par2 ?_)
local macro_rules | `(tactic| walk_at "orz") => `(tactic| with_reducible first | refine s_andV ?_ | refine s_add ?_ | refine s_prop ?_ | refine s_pnil ?_ | refine s_cb ?_ | refine s_not ?_)
local macro_rules | `(tactic| walk_at "orz") => `(tactic| with_reducible first | refine s_call ?_ | refine s_pcons ?_ | refine s_bm ?_ | refine s_if ?_ | refine s_gcons ?_ | refine s_gnil ?_)
local macro_rules | `(tactic| walk_at "orz") => `(tactic| with_reducible first | refine s_next ?_ | refine s_gname ?_ | refine s_drop ?_ | refine s_meth ?_ | refine s_fldS ?_ | refine s_asg ?_)
local macro_rules | `(tactic| walk_at "orz") => `(tactic| with_reducible first | refine s_fldg ?_ | refine s_ifS ?_ | refine s_dget ?_ | refine s_ret ?_ | refine s_B ?_ | refine s_test ?_)
local macro_rules | `(tactic| walk_at "orz") => `(tactic| with_reducible first | refine s_cons ?_ | refine s_c ?_ | refine s_nil ?_ | refine s_seq ?_ | refine s_op ?_ | refine s_bl ?_)
local macro_rules | `(tactic| walk_at "orz") => `(tactic| ((with_reducible apply s_var); (· exact rfl)))
local macro_rules | `(tactic| walk_at "rz") => `(tactic| repeat walk_at "orz")
local macro_rules | `(tactic| walk_at "zm") => `(tactic| (intro x dx hx hdx hne; generalize eH : upd (upd _ dx _) x _ = H2; have s2 := mkS hx hdx eH; have e2 := mkE eH; clear eH hdx hne))
local macro_rules | `(tactic| walk_at "zb") => `(tactic| with_reducible first | refine s_gcons ?_ | refine s_gnil ?_ | refine s_gname ?_ | refine s_seq ?_ | refine s_ifS ?_ | refine s_if ?_ | refine s_next ?_ | refine s_drop ?_ | refine s_ret ?_ | refine s_asg ?_)
def spTaken (K : Fg) : Sp := fun vs H Q _ => ∃ r sc ns many, vs = [.ref r, .int many] ∧ RowAt K H r sc ns ∧ 0 < many ∧ many < 1000000 ∧ ∀ n H', 0 ≤ n → n < many → Fr [r] H H' → RowAt K H' r sc ns → Q (.int n) H'
section
variable {P : Program} {w : World} {K : Fg} {mg : Str → Option Value} {base : Heap}
theorem ok_w_taken (T : Txt K mg) : FnOk P w K mg base (L2.CX P w) 1 (ga K "_law_taken") (fdOf K (ga K "_law_taken")) ["_law_row", "_law_many"] (spTaken K) := by
  refine FunD.ok T.F_w_taken sc_w_taken (fun vs H Q E h => ?_) (fun cdv A outer s H vs Q E hr h => ⟨_, PSs.nox (pss_cons (ps_if (pt_cmpR op_gt (pe_ix (ix_listK K) (pv 0) pe_int (fun _ _ => rfl)) pe_int (nomark _)) (pss_cons (zset 2 sc_w_taken.nd (pe_op op_mod (pe_callTy call_int1 (by rfl) T.u_int (by decide +kernel) (pa_cons (pe_ix (ix_listK K) (pv 0) pe_int (fun _ _ => rfl)) pa_nil)) (pv 1)))
      (pss_cons (ps_asg (pe_op op_fdiv (pe_ix (ix_listK K) (pv 0) pe_int (fun _ _ => rfl)) (pv 1)) (pg_sub (pv 0) pe_int set_list))
      (pss_one (ps_ret (pv 2))))) pss_nil)
      (pss_cons (ps_asg (pe_op op_add (pe_ix (ix_listK K) (pv 0) pe_int (fun _ _ => rfl)) pe_int) (pg_sub (pv 0) pe_int set_list))
      (pss_cons (ps_if (pt_cmpR op_gt (pe_ix (ix_listK K) (pv 0) pe_int (fun _ _ => rfl)) (pe_callB (call_lenK K) (by rfl) T.u_len (by decide +kernel) (pa_cons (pe_ix (ix_listK K) (pv 0) pe_int (fun _ _ => rfl)) pa_nil)) (nomark _)) (pss_cons (ps_asg (pe_op op_mod (pe_callTy call_int1 (by rfl) T.u_int (by decide +kernel) (pa_cons (pe_op op_add (pe_op op_mul (pe_ix (ix_listK K) (pv 0) pe_int (fun _ _ => rfl)) pe_int) pe_int) pa_nil)) pe_int) (pg_sub (pv 0) pe_int set_list))
      (pss_one (ps_ret (pe_op op_mod (pe_callTy call_int1 (by rfl) T.u_int (by decide +kernel) (pa_cons (pe_op op_fdiv (pe_ix (ix_listK K) (pv 0) pe_int (fun _ _ => rfl)) pe_int) pa_nil)) (pv 1))))) pss_nil)
      (pss_cons (zset 3 sc_w_taken.nd (pe_ix (ix_listK K) (pe_ix (ix_listK K) (pv 0) pe_int (fun _ _ => rfl)) (pe_op op_sub (pe_ix (ix_listK K) (pv 0) pe_int (fun _ _ => rfl)) pe_int) (fun _ _ => rfl)))
      (pss_cons (ps_asg (pe_op op_mod (pe_callTy call_int1 (by rfl) T.u_int (by decide +kernel) (pa_cons (pe_op op_add (pe_op op_add (pe_op op_mul (pe_ix (ix_listK K) (pv 0) pe_int (fun _ _ => rfl)) pe_int) (pv 3)) pe_int) pa_nil)) pe_int) (pg_sub (pv 0) pe_int set_list))
      (pss_cons (ps_asg (pe_ifExp (pt_cmpR op_ge (pv 3) (pe_op op_pow pe_int pe_int) (nomark _)) (pe_op op_fdiv (pv 3) (pv 1)) pe_int) (pg_sub (pv 0) pe_int set_list))
      (pss_one (ps_ret (pe_op op_mod (pe_callTy call_int1 (by rfl) T.u_int (by decide +kernel) (pa_cons (pv 3) pa_nil)) (pv 1)))))))))), ?_⟩)
  · obtain ⟨r, sc, ns, many, rfl, _⟩ := h
    rfl
  obtain ⟨r, sc, ns, many, rfl, hrow, hm0, hm1, q⟩ := h
  show (_ : TS) _ [some (.ref r), some (.int many), none, none] H
  try dsimp only [cxOf]
  obtain ⟨i, seed, rest, er, hi, hs0, hs1⟩ := hrow.row
  have hL : SqL K H r [.ref sc, .int i, .int seed, .int rest] := SqL.of er
  have hsc := hrow.scr
  have hne := hrow.ne
  walk_at "rz"
  refine ite_b (fun h => ?_) (fun h => ?_)
  · walk_at "rz"
    refine s_I hm0 ?_
    walk_at "rz"
    refine s_I ⟨hm0, by omega⟩ ?_
    walk_at "rz"
    refine s_setL er (j := 3) rfl ?_
    walk_at "rz"
    refine q _ _ (Int.emod_nonneg _ (by omega)) (Int.emod_lt_of_pos _ hm0) (Fr.upd (by simp) er rfl) ⟨⟨i, seed, rest / many, upd_same, hi, hs0, hs1⟩, (Fr.upd (A := [r]) (by simp) er rfl).scr hsc hne, hne⟩
  · have f1 : ∀ o, Fr [r] H (upd H r o) := fun o => Fr.upd (by simp) er rfl
    walk_at "rz"
    refine s_setL er (j := 1) rfl ?_
    show (_ : L2.St → Hp → Prop) _ (upd H r (.lst [.ref sc, .int (i + 1), .int seed, .int rest]))
    have f1 : Fr [r] H (upd H r (.lst [.ref sc, .int (i + 1), .int seed, .int rest])) := Fr.upd (by simp) er rfl
    have er1 : upd H r (.lst [.ref sc, .int (i + 1), .int seed, .int rest]) r = some (.lst [.ref sc, .int (i + 1), .int seed, .int rest]) := upd_same
    generalize upd H r (.lst [.ref sc, .int (i + 1), .int seed, .int rest]) = H1 at *
    have hL1 : SqL K H1 r [.ref sc, .int (i + 1), .int seed, .int rest] := SqL.of er1
    have hsc1 := f1.scr hsc hne
    walk_at "rz"
    refine s_lenL hsc1 ?_
    rw [List.length_map]
    walk_at "rz"
    refine ite_b (fun h => ?_) (fun h => ?_)
    · walk_at "rz"
      refine s_I (.inl ⟨by omega, by omega⟩) ?_
      walk_at "rz"
      refine s_I (by decide) ?_
      walk_at "rz"
      refine s_setL er1 (j := 2) rfl ?_
      show (_ : L2.St → Hp → Prop) _ (upd H1 r (.lst [.ref sc, .int (i + 1), .int ((seed * 48271 + 11) % 2147483647), .int rest]))
      have f2 : Fr [r] H1 (upd H1 r (.lst [.ref sc, .int (i + 1), .int ((seed * 48271 + 11) % 2147483647), .int rest])) := Fr.upd (by simp) er1 rfl
      have er2 : upd H1 r (.lst [.ref sc, .int (i + 1), .int ((seed * 48271 + 11) % 2147483647), .int rest]) r = some (.lst [.ref sc, .int (i + 1), .int ((seed * 48271 + 11) % 2147483647), .int rest]) := upd_same
      generalize upd H1 r (.lst [.ref sc, .int (i + 1), .int ((seed * 48271 + 11) % 2147483647), .int rest]) = H2 at *
      have hL2 : SqL K H2 r [.ref sc, .int (i + 1), .int ((seed * 48271 + 11) % 2147483647), .int rest] := SqL.of er2
      walk_at "rz"
      refine s_I ⟨by decide, by decide⟩ ?_
      walk_at "rz"
      refine s_I hm0 ?_
      exact q _ _ (Int.emod_nonneg _ (by omega)) (Int.emod_lt_of_pos _ hm0) (f1.trans f2) ⟨⟨_, _, _, er2, by omega, Int.emod_nonneg _ (by omega), Int.emod_lt_of_pos _ (by omega)⟩, f2.scr hsc1 hne, hne⟩
    · have hlt : i.toNat < ns.length := by
        have := of_decide_eq_false h
        omega
      obtain ⟨cell, hcell⟩ : ∃ c, ns[i.toNat]? = some c := ⟨_, List.getElem?_eq_getElem hlt⟩
      walk_at "rz"
      refine s_ixL hsc1 (v := .int cell) (at_of (j := i.toNat) (by omega) (by rw [List.getElem?_map, hcell]; rfl)) ?_
      walk_at "rz"
      refine s_I (.inl ⟨by omega, by omega⟩) ?_
      walk_at "rz"
      refine s_I (by decide) ?_
      walk_at "rz"
      refine s_setL er1 (j := 2) rfl ?_
      show (_ : L2.St → Hp → Prop) _ (upd H1 r (.lst [.ref sc, .int (i + 1), .int ((seed * 48271 + cell + 11) % 2147483647), .int rest]))
      have f2 : Fr [r] H1 (upd H1 r (.lst [.ref sc, .int (i + 1), .int ((seed * 48271 + cell + 11) % 2147483647), .int rest])) := Fr.upd (by simp) er1 rfl
      have er2 : upd H1 r (.lst [.ref sc, .int (i + 1), .int ((seed * 48271 + cell + 11) % 2147483647), .int rest]) r = some (.lst [.ref sc, .int (i + 1), .int ((seed * 48271 + cell + 11) % 2147483647), .int rest]) := upd_same
      generalize upd H1 r (.lst [.ref sc, .int (i + 1), .int ((seed * 48271 + cell + 11) % 2147483647), .int rest]) = H2 at *
      have f12 := f1.trans f2
      have hsc2 := f2.scr hsc1 hne
      have fin : ∀ (H3 : Hp) (x y z : Int), Fr [r] H H3 → SqL K H3 sc (ns.map V.int) → H3 r = some (.lst [.ref sc, .int x, .int y, .int z]) → 0 ≤ x → 0 ≤ y → y < 2147483647 → Q (.int (cell % many)) H3 := fun H3 x y z f hs he h1 h2 h3 =>
        q _ _ (Int.emod_nonneg _ (by omega)) (Int.emod_lt_of_pos _ hm0) f ⟨⟨_, _, _, he, h1, h2, h3⟩, hs, hne⟩
      walk_at "rz"
      refine s_I ⟨by decide, by decide, by decide⟩ ?_
      walk_at "rz"
      have f3 : ∀ o, Fr [r] H2 (upd H2 r o) := fun o => Fr.upd (by simp) er2 rfl
      refine ite_b (fun h => ?_) (fun h => ?_)
      · walk_at "rz"
        refine s_I ⟨hm0, by omega⟩ ?_
        walk_at "rz"
        refine s_setL er2 (j := 3) rfl ?_
        walk_at "rz"
        refine s_I hm0 ?_
        exact fin _ (i + 1) ((seed * 48271 + cell + 11) % 2147483647) (cell / many) (f12.trans (f3 _)) ((f3 _).scr hsc2 hne) upd_same (by omega) (Int.emod_nonneg _ (by omega)) (Int.emod_lt_of_pos _ (by omega))
      · walk_at "rz"
        refine s_setL er2 (j := 3) rfl ?_
        walk_at "rz"
        refine s_I hm0 ?_
        exact fin _ (i + 1) ((seed * 48271 + cell + 11) % 2147483647) 0 (f12.trans (f3 _)) ((f3 _).scr hsc2 hne) upd_same (by omega) (Int.emod_nonneg _ (by omega)) (Int.emod_lt_of_pos _ (by omega))
end
theorem s_take {K : Fg} {H : Hp} {r sc : Addr} {ns : List Int} {many : Int} {Q : VK} {E : XK} (h : RowAt K H r sc ns) (h0 : 0 < many) (h1 : many < 1000000) (q : ∀ n H', 0 ≤ n → n < many → Fr [r] H H' → RowAt K H' r sc ns → Q (.int n) H') : spTaken K [.ref r, .int many] H Q E := ⟨r, sc, ns, many, rfl, h, h0, h1, q⟩
set_option maxHeartbeats 4000000
open PySem PySem.Spec PyProof.Rows L2 Z
open He (ga ma)
open LamX (TabS CodeO)
def spIsInt (K : Fg) : Sp := fun vs H Q _ => ∃ v d lo hi, vs = [v, .int lo, .int hi] ∧ Dp K H v d ∧ Q (.bl (isIntD lo hi d)) H
def spCheckNB (K : Fg) : Sp := fun vs H Q E => ∃ v d, ∃ lo hi : Int, vs = [v, .int lo, .int hi] ∧ Dp K H v d ∧ (isIntD lo hi d = true → Q .non H) ∧ (isIntD lo hi d = false → E (.ref (ga K "InvalidNumber")) none H)
def spLoads (K : Fg) : Sp := fun vs H Q E => ∃ v1 v2 v3 d1 d2 d3, vs = [v1, v2, v3] ∧ Dp K H v1 d1 ∧ Dp K H v2 d2 ∧ Dp K H v3 d3 ∧ (loadsOk d1 d2 d3 = true → ∀ H', Same H H' → Q .non H') ∧ (loadsOk d1 d2 d3 = false → ∀ H', Same H H' → E (.ref (ga K "InvalidNumber")) none H')
def spSpread (K : Fg) : Sp := fun vs H Q _ => ∃ a l, ∃ ls ps : List Int, ∃ c : Nat, vs = [.ref a, .ref l, .int (c : Nat)] ∧ SqT K H a (ls.map V.int) ∧ SqL K H l (ps.map V.int) ∧ ls.length = ps.length ∧ ls.length ≤ 7 ∧ 1 ≤ c ∧ c ≤ 4 ∧ (∀ p ∈ ps, 0 ≤ p ∧ p < c) ∧ ∀ n H', Same H H' → Q (.int n) H'
def spJudge (K : Fg) : Sp := fun vs H Q E => ∃ v1 v2 v3 d1 d2 d3 l ys ds, vs = [v1, v2, v3, .ref l] ∧ Dp K H v1 d1 ∧ Dp K H v2 d2 ∧ Dp K H v3 d3 ∧ SqL K H l ys ∧ DpAll K H ys ds ∧ ds.length ≤ 1000 ∧ (loadsOk d1 d2 d3 = false → ∀ H', Same H H' → E (.ref (ga K "InvalidNumber")) none H') ∧
  (loadsOk d1 d2 d3 = true → ∀ i, judgeD d1 d2 d3 ds = some i → ∀ dx H', Same H H' → H' dx = some (.xd [("index", .int (i : Nat))]) → E (.ref (ga K "InvalidMove")) (some dx) H') ∧
  (loadsOk d1 d2 d3 = true → judgeD d1 d2 d3 ds = none → ∀ n H', Same H H' → Q (.int n) H')
def spExMove (K : Fg) : Sp := fun vs H Q _ => ∃ (a : Addr) (i : Nat), vs = [.ref a, .int (i : Nat)] ∧ H a = some (exo a (ga K "InvalidMove") none) ∧ i ≤ 1000 ∧ ∀ dx H', H dx = none → dx ≠ a → H' = upd (upd H dx (exd dx [("index", .int (i : Nat))])) a (exo a (ga K "InvalidMove") (some dx)) → Q .non H'
theorem freshB {H H' : Hp} {p : Addr} (s : Same H H') (h : H' p = none) : H p = none := by
  cases k : H p with
  | none => rfl
  | some o => rw [s _ _ k] at h; cases h
def spRef (K : Fg) (hi : Int) : Sp := fun vs H _ E => ∃ v1 v2 v3 v4 d1 d2 d3 d4, vs = [v1, v2, v3, v4] ∧ Dp K H v1 d1 ∧ Dp K H v2 d2 ∧ Dp K H v3 d3 ∧ Dp K H v4 d4 ∧ (loadsOk d1 d2 d3 = false ∨ isIntD 0 hi d4 = false) ∧ ∀ H', Same H H' → E (.ref (ga K "InvalidNumber")) none H'
theorem upS {H H' : Hp} {p : Addr} {o : HO} (s : Same H H') (h : H p = none) : Same H (upd H' p o) := fun b o2 hb => by
  rw [upd_ne (fun e => by rw [e, h] at hb; cases hb)]
  exact s _ _ hb
theorem s_enW {K : Fg} {σ : L2.St} {H : Hp} {ta : TA} {R : It → Hp → Prop} (q : ta σ H fun us H1 => ∃ a xs, us = [.ref a] ∧ SqL K H1 a xs ∧ R (Ite K a) H1) : iEnum K ta σ H R := q
section
variable {P : Program} {w : World} {K : Fg} {mg : Str → Option Value} {base : Heap}
theorem ok_is_integer (T : Txt K mg) : FnOk P w K mg base (L2.CX P w) 1 (ga K "is_integer") (fdOf K (ga K "is_integer")) ["value", "low", "high"] (spIsInt K) := by
  refine FunD.ok T.F_is_integer sc_is_integer (fun vs H Q E h => ?_) (fun cdv A outer s H vs Q E hr h => ⟨_, PSs.nox (pss_one (ps_ret (pe_and (pe_callB (call_isiDK K) (by rfl) T.u_isinstance (by decide +kernel) (pa_cons (pv 0) (pa_cons (z_ty (n := "int") T.u_int) pa_nil))) (pe_and (pe_not (pe_callB (call_isiDK K) (by rfl) T.u_isinstance (by decide +kernel) (pa_cons (pv 0) (pa_cons (z_ty (n := "bool") T.u_bool) pa_nil)))) (pe_one (pe_chain op_le op_le (pv 1) (pv 0) (pv 2))))))), ?_⟩)
  · obtain ⟨v, d, lo, hi, rfl, _⟩ := h
    rfl
  obtain ⟨v, d, lo, hi, rfl, hd, q⟩ := h
  show (_ : TS) _ [some v, some (.int lo), some (.int hi)] H
  try dsimp only [cxOf]
  have hd0 := hd
  cases hd <;> (walk_at "rz") <;> try exact q
  rename_i i
  by_cases h1 : lo ≤ i
  · refine ite_t (decide_eq_true h1) ?_
    walk_at "rz"
    have e : isIntD lo hi (.int i) = decide (i ≤ hi) := by simp [isIntD, h1]
    rw [e] at q
    exact q
  · refine ite_f (decide_eq_false h1) ?_
    have e : isIntD lo hi (.int i) = false := by simp [isIntD, h1]
    rw [e] at q
    exact q
theorem ok_check_number_x (T : Txt K mg) : FnOk P w K mg base (L2.CX P w) 2 (ga K "check_number") (fdOf K (ga K "check_number")) ["number", "low", "high"] (spCheckNB K) := by
  refine FunD.ok T.F_check_number sc_check_number (fun vs H Q E h => ?_) (fun cdv A outer s H vs Q E hr h => ⟨_, (pss_one (ps_if (pt_not (pt_val (z_call (ok_is_integer T) T.c_is_integer (hr.mono (by decide)) rfl T.g_is_integer passL (pa_cons (pv 0) (pa_cons (pv 1) (pa_cons (pv 2) pa_nil)))))) (pss_one (ps_raise rfl (takes_of rfl rfl rfl rfl) (pmk_own PySem.F.excBase_ValueError T.xr_InvalidNumber.1 T.g_InvalidNumber T.xr_InvalidNumber.2.1 (raises_own T.xr_InvalidNumber.2.2.1 T.xr_InvalidNumber.2.2.2) rfl))) pss_nil)), ?_⟩)
  · obtain ⟨v, d, lo, hi, rfl, _⟩ := h
    rfl
  obtain ⟨v, d, lo, hi, rfl, hd, q, e⟩ := h
  show (_ : TS) _ [some v, some (.int lo), some (.int hi)] H
  try dsimp only [cxOf]
  walk_at "rz"
  refine ⟨v, d, lo, hi, rfl, hd, ?_⟩
  cases hn : isIntD lo hi d
  · walk_at "rz"
    exact e hn
  · walk_at "rz"
    exact q hn
theorem ok_spread_of (T : Txt K mg) : FnOk P w K mg base (L2.CX P w) 2 (ga K "spread_of") (fdOf K (ga K "spread_of")) ["loads", "places", "count"] (spSpread K) := by
  refine FunD.ok T.F_spread_of sc_spread_of (fun vs H Q E h => ?_) (fun cdv A outer s H vs Q E hr h => ⟨_, PSs.nox (pss_cons (zset 3 sc_spread_of.nd (pe_op op_rep (pe_lst (pa_cons pe_int pa_nil)) (pv 2)))
      (pss_cons (ps_for PassesOwn.never rfl (kIZN K (pi_zipN (by rfl) T.u_zip (pa_cons (pv 0) (pa_cons (pv 1) pa_nil)))) (kGT K (pg_tup (n := 2) rfl (pgs_cons (zg 4 sc_spread_of.nd) (pgs_cons (zg 5 sc_spread_of.nd) pgs_nil))))
      (pss_one (ps_augS (pv 3) (pv 5) (get_listK K) (pv 4) ip_add set_list)))
      (pss_one (ps_ret (pe_op op_sub (pe_callB (cr_maxK K rfl) (by rfl) T.u_max (by decide +kernel) (pa_cons (pv 3) pa_nil)) (pe_callB (cr_minK K rfl) (by rfl) T.u_min (by decide +kernel) (pa_cons (pv 3) pa_nil))))))), ?_⟩)
  · obtain ⟨a, l, ls, ps, c, rfl, _⟩ := h
    rfl
  obtain ⟨a, l, ls, ps, c, rfl, hT, hL, hlen, hl7, c1, c4, hps, q⟩ := h
  show (_ : TS) _ (some (.ref a) :: some (.ref l) :: some (.int (c : Nat)) :: List.replicate 3 none) H
  try dsimp only [cxOf]
  dsimp only [List.replicate]
  walk_at "rz"
  rename_i m0 hm0 H1 s1 e1
  refine s_repT e1 (by omega) (by omega) (by simp) fun m hm => ?_
  generalize eH : upd H1 m _ = H2
  have s2 := newS hm eH
  have e2 := newE eH
  clear eH
  have s02 := s1.trans s2
  have hmN : H m = none := by
    cases k : H m with
    | none => rfl
    | some o => rw [s1 _ _ k] at hm; cases hm
  have er : (List.replicate (c : Int).toNat [V.int 0]).flatten = (List.replicate c (0 : Int)).map V.int := by
    rw [Int.toNat_natCast]
    clear e2 c1 c4 hps
    induction c with
    | zero => rfl
    | succ c ih => rw [List.replicate_succ, List.flatten_cons, ih]; rfl
  rw [er] at e2
  walk_at "rz"
  refine s_zipN ?_
  walk_at "rz"
  refine ⟨a, l, ls.map V.int, ps.map V.int, rfl, s02.sqT hT, sqL_same s02 hL, for_it (walk_zipN (by rw [List.length_map, List.length_map]; exact hlen)) (fun i σ Ha => (∃ ss : List Int, ∃ y4 y5, σ = [some (.ref a), some (.ref l), some (.int (c : Nat)), some (.ref m), y4, y5] ∧ Ha m = some (.lst (ss.map V.int)) ∧ ss.length = c) ∧ Same H Ha) ⟨⟨_, _, _, rfl, e2, List.length_replicate⟩, s02⟩ (fun i σ Ha _ ⟨_, sa⟩ => ⟨sa.sqT hT, sqL_same sa hL⟩) (fun i v σ Ha0 Ha hi ⟨⟨ss, y4, y5, es, em, lss⟩, sa0⟩ yy => ?_) (fun σ Ha ⟨⟨ss, y4, y5, es, em, lss⟩, sa⟩ => ?_)⟩
  · subst es
    obtain ⟨tt, x, y, rfl, htt, rfl, hx, hy⟩ := yy
    have snew : Same Ha0 (upd Ha0 tt (.tup [x, y])) := Same.new htt
    have ett : upd Ha0 tt (.tup [x, y]) tt = some (.tup [x, y]) := upd_same
    generalize upd Ha0 tt (.tup [x, y]) = Ha at *
    have em := snew _ _ em
    have sa := sa0.trans snew
    replace hx : (ls.map V.int)[i]? = some x := hx
    replace hy : (ps.map V.int)[i]? = some y := hy
    rw [List.getElem?_map] at hx hy
    obtain ⟨lo, hlo, rfl⟩ := Option.map_eq_some_iff.mp hx
    obtain ⟨pl, hpl, rfl⟩ := Option.map_eq_some_iff.mp hy
    obtain ⟨p0, p1⟩ := hps pl (List.mem_of_getElem? hpl)
    obtain ⟨pn, rfl⟩ : ∃ k : Nat, pl = (k : Int) := ⟨pl.toNat, by omega⟩
    have lpn : pn < ss.length := by omega
    refine s_gtup (SqT.of ett) rfl ?_
    walk_at "rz"
    refine s_ixL (SqL.of em) (at_of (j := pn) rfl (by rw [List.getElem?_map, List.getElem?_eq_getElem lpn]; rfl)) ?_
    walk_at "rz"
    refine s_setL em (ixN_n (by rw [List.length_map]; exact lpn)) ?_
    walk_at "rz"
    refine ⟨⟨ss.set pn (ss[pn] + lo), _, _, rfl, by rw [upd_same, List.map_set], by rw [List.length_set]; exact lss⟩, fun b o hb => ?_⟩
    rw [upd_ne (fun e => by rw [e, hmN] at hb; cases hb)]
    exact sa _ _ hb
  · subst es
    have ne : ss ≠ [] := fun e => by rw [e] at lss; simp at lss; omega
    walk_at "rz"
    refine s_max (SqL.of em) ne fun m1 _ _ => ?_
    walk_at "rz"
    refine ⟨m, ss, rfl, SqL.of em, List.length_pos_iff.mpr ne, fun m2 _ _ => ?_⟩
    walk_at "rz"
    exact q _ _ sa
theorem ok_check_loads_x (T : Txt K mg) : FnOk P w K mg base (L2.CX P w) 3 (ga K "check_loads") (fdOf K (ga K "check_loads")) ["loads", "places", "count"] (spLoads K) := by
  refine FunD.ok T.F_check_loads sc_check_loads (fun vs H Q E h => ?_) (fun cdv A outer s H vs Q E hr h => ⟨_, (pss_cons (ps_if (PW.pt (pw_or (pt_not (pt_val (pe_callB (call_isiDK K) (by rfl) T.u_isinstance (by decide +kernel) (pa_cons (pv 0) (pa_cons (z_ty (n := "tuple") T.u_tuple) pa_nil))))) (pw_or1 (pt_not (pt_chain op_le op_le pe_int (pe_callB (call_lenK K) (by rfl) T.u_len (by decide +kernel) (pa_cons (pv 0) pa_nil)) (z_int T.i_MAX_LOADS)))))) (pss_one (ps_raise rfl (takes_of rfl rfl rfl rfl) (pmk_own PySem.F.excBase_ValueError T.xr_InvalidNumber.1 T.g_InvalidNumber T.xr_InvalidNumber.2.1 (raises_own T.xr_InvalidNumber.2.2.1 T.xr_InvalidNumber.2.2.2) rfl))) pss_nil)
      (pss_cons (ps_for PassesOwn.leaving rfl (kIT K (pi_tup (pv 0))) (zg 3 sc_check_loads.nd)
      (pss_one (ps_expr (z_call (ok_check_number_x T) T.c_check_number (hr.mono (by decide)) rfl T.g_check_number (passes_call (takes_of rfl rfl rfl rfl) (fun _ _ _ _ h => h)) (pa_cons (pv 3) (pa_cons pe_int (pa_cons (z_int T.i_MAX_LOAD) pa_nil)))))))
      (pss_cons (ps_if (PW.pt (pw_or (pt_not (pt_val (pe_callB (call_isiDK K) (by rfl) T.u_isinstance (by decide +kernel) (pa_cons (pv 1) (pa_cons (z_ty (n := "tuple") T.u_tuple) pa_nil))))) (pw_or1 (pt_cmpR op_ne (pe_callB (call_lenK K) (by rfl) T.u_len (by decide +kernel) (pa_cons (pv 1) pa_nil)) (pe_callB (call_lenK K) (by rfl) T.u_len (by decide +kernel) (pa_cons (pv 0) pa_nil)) (nomark _))))) (pss_one (ps_raise rfl (takes_of rfl rfl rfl rfl) (pmk_own PySem.F.excBase_ValueError T.xr_InvalidNumber.1 T.g_InvalidNumber T.xr_InvalidNumber.2.1 (raises_own T.xr_InvalidNumber.2.2.1 T.xr_InvalidNumber.2.2.2) rfl))) pss_nil)
      (pss_cons (ps_if (pt_not (pt_val (pe_callB (cr_allK K rfl) (by rfl) T.u_all (by decide +kernel) (pa_cons (pe_lc (own := [("place", 4)]) rfl sc_check_loads.nd (kIT K (pi_tup (pv 1))) (blkOk_by (own := [("place", 4)]) (N := n_check_loads) (sc := defScope s_check_loads) (by decide +kernel)) (fun _ _ _ _ _ => (zg 4 sc_check_loads.nd)) (fun _ _ _ _ _ => pts_nil) (fun _ _ _ _ _ => (z_call (ok_is_integer T) T.c_is_integer (hr.mono (by decide)) rfl T.g_is_integer passL (pa_cons (pv 4) (pa_cons pe_int (pa_cons (pe_op op_sub (z_int T.i_MAX_PROCESSORS) pe_int) pa_nil)))))) pa_nil)))) (pss_one (ps_raise rfl (takes_of rfl rfl rfl rfl) (pmk_own PySem.F.excBase_ValueError T.xr_InvalidNumber.1 T.g_InvalidNumber T.xr_InvalidNumber.2.1 (raises_own T.xr_InvalidNumber.2.2.1 T.xr_InvalidNumber.2.2.2) rfl))) pss_nil)
      (pss_one (ps_expr (z_call (ok_check_number_x T) T.c_check_number (hr.mono (by decide)) rfl T.g_check_number (passes_call (takes_of rfl rfl rfl rfl) (fun _ _ _ _ h => h)) (pa_cons (pv 2) (pa_cons (pe_op op_add (pe_callB (cr_maxTK rfl hr.units) (by rfl) T.u_max (by decide +kernel) (pa_cons (pv 1) pa_nil)) pe_int) (pa_cons (z_int T.i_MAX_PROCESSORS) pa_nil)))))))))), ?_⟩)
  · obtain ⟨v1, v2, v3, d1, d2, d3, rfl, _⟩ := h
    rfl
  obtain ⟨v1, v2, v3, d1, d2, d3, rfl, h1, h2, h3, q, e⟩ := h
  show (_ : TS) _ (some v1 :: some v2 :: some v3 :: List.replicate 2 none) H
  try dsimp only [cxOf]
  dsimp only [List.replicate]
  have h10 := h1
  cases h1 <;> (walk_at "rz") <;> try exact e rfl H (Same.refl H)
  rename_i a xs ls hT hA
  have lx := hA.len
  refine s_lenT hT ?_
  walk_at "rz"
  rcases Nat.lt_or_ge ls.length 1 with n1 | n1
  · refine ite_f (decide_eq_false (by omega)) ?_
    walk_at "rz"
    refine e ?_ H (Same.refl H)
    cases d2 <;> try rfl
    simp [loadsOk, Nat.not_le.mpr n1]
  refine ite_t (decide_eq_true (by omega)) ?_
  walk_at "rz"
  rcases Nat.lt_or_ge 7 ls.length with n7 | n7
  · refine ite_t (by rw [decide_eq_false (by omega)]; rfl) ?_
    walk_at "rz"
    refine e ?_ H (Same.refl H)
    cases d2 <;> try rfl
    simp [loadsOk, Nat.not_le.mpr n7]
  refine ite_f (by rw [decide_eq_true (by omega)]; rfl) ?_
  walk_at "rz"
  refine ⟨⟨_, hT⟩, for_it (walk_tup (a := a) (xs := xs)) (fun i σ Ha => (∃ y3, σ = [some (.ref a), some v2, some v3, y3, none]) ∧ Ha = H ∧ ∀ x ∈ ls.take i, isIntD 0 1000 x = true) ⟨⟨_, rfl⟩, rfl, fun x hx => nomatch hx⟩ (fun i σ Ha _ ⟨_, eh, _⟩ => by rw [eh]; exact hT) (fun i v σ Ha0 Ha hi ⟨⟨y3, es⟩, eh, al⟩ yy => ?_) (fun σ Ha ⟨⟨y3, es⟩, eh, al⟩ => ?_)⟩
  · subst es
    subst eh
    obtain ⟨rfl, hv⟩ := yy
    obtain ⟨d, hd, dv⟩ := hA.getv hv
    walk_at "rz"
    refine ⟨v, d, _, _, rfl, dv, fun okd => ?_, fun bad => ?_⟩
    · walk_at "rz"
      refine ⟨⟨_, rfl⟩, rfl, fun x hx => ?_⟩
      rw [List.take_add_one, hd] at hx
      rcases List.mem_append.mp hx with hx | hx
      · exact al x hx
      · rw [List.mem_singleton.mp hx]
        exact okd
    · refine e ?_ Ha (Same.refl Ha)
      cases d2 <;> try rfl
      have : ls.all (isIntD 0 1000) = false := by
        rw [List.all_eq_false]
        exact ⟨d, List.mem_of_getElem? hd, by rw [bad]; simp⟩
      simp only [loadsOk, this, Bool.false_and, Bool.and_false]
  subst es
  subst eh
  rw [lx, List.take_length] at al
  have al1 : ls.all (isIntD 0 1000) = true := List.all_eq_true.mpr al
  walk_at "rz"
  have h20 := h2
  cases h2 <;> (walk_at "rz") <;> try exact e (by simp [loadsOk]) Ha (Same.refl Ha)
  rename_i b ys ps hU hB _
  have ly := hB.len
  refine s_lenT hU ?_
  walk_at "rz"
  refine s_lenT hT ?_
  walk_at "rz"
  refine ite_b (fun hne => ?_) (fun hne => ?_)
  · walk_at "rz"
    refine e ?_ Ha (Same.refl Ha)
    have : decide (ps.length = ls.length) = false := by
      refine decide_eq_false fun e1 => ?_
      simp [lx, ly, e1] at hne
    simp only [loadsOk, this, Bool.false_and, Bool.and_false]
  have len : ps.length = ls.length := by
    simp [lx, ly] at hne
    omega
  walk_at "rz"
  refine ⟨_, rfl, ⟨_, hU⟩, fun D hD => lc_dat (K := K) (walk_tup (a := b) (xs := ys)) (fun _ => true) (dAt ps fun d => .bool (isIntD 0 3 d)) hD (by omega) (dAt_tupd fun _ _ => rfl) (fun H' s' => s'.sqT hU) (fun i H x H' y => by rw [y.1]; exact Same.refl H) (fun i x H H' Yes No hi s1 y yes no => ?_) (fun H' zs s1 e1 a1 => ?_)⟩
  · obtain ⟨rfl, hx⟩ := y
    obtain ⟨d, hd, dv⟩ := hB.getv hx
    refine ⟨rfl, ?_⟩
    walk_at "rz"
    refine ⟨x, d, _, _, rfl, dv.same s1, ?_⟩
    refine yes rfl _ _ (Same.refl _) ?_
    rw [dAt_eq hd]
    exact .bl _
  have e3 := keptD_map ps fun d => PyData.bool (isIntD 0 3 d)
  rw [← ly] at e3
  rw [e3, map_bool] at a1
  rw [dp_bools a1] at e1
  walk_at "rz"
  refine s_all (SqL.of e1) ?_
  have e4 : (ps.map fun d => isIntD 0 3 d).all id = ps.all (isIntD 0 3) := by rw [List.all_map]; rfl
  rw [e4]
  walk_at "rz"
  refine ite_b (fun hall => ?_) (fun hall => ?_)
  · walk_at "rz"
    refine e ?_ H' s1
    have : ps.all (isIntD 0 3) = false := by simpa using hall
    simp only [loadsOk, this, Bool.false_and, Bool.and_false]
  have al2 : ps.all (isIntD 0 3) = true := by simpa using hall
  obtain ⟨ei, hi⟩ := ints_inv al2
  walk_at "rz"
  rw [ei] at hB
  have ey := dpa_ints_inv hB
  rw [ey] at hU
  have hne0 : ps.map intOf ≠ [] := fun e1 => by
    have h := congrArg List.length e1
    rw [List.length_map] at h
    have h : ps.length = 0 := h
    omega
  refine ⟨b, ps.map intOf, rfl, s1.sqT hU, hne0, fun m hm hmx => ?_⟩
  have em : maxP ps = m := maxP_eq (fun i k => (hi i k).1) hm hmx
  walk_at "rz"
  refine ⟨v3, d3, _, _, rfl, h3.same s1, fun okd => ?_, fun bad => ?_⟩
  · walk_at "rz"
    refine q ?_ H' s1
    simp only [loadsOk, al1, al2, len, em, okd, n1, n7, decide_true, Bool.and_true, and_self]
  · refine e ?_ H' s1
    simp only [loadsOk, em, bad, Bool.and_false]
theorem ok_InvalidMove_init (T : Txt K mg) : FnOk P w K mg base (L2.CX P w) 1 (ma K (ga K "InvalidMove") "__init__") (fdOf K (ma K (ga K "InvalidMove") "__init__")) ["self", "index"] (spExMove K) := by
  refine FunD.ok T.F_InvalidMove_init sc_InvalidMove_init (fun vs H Q E h => ?_) (fun cdv A outer s H vs Q E hr h => ⟨_, PSs.nox (pss_cons (ps_expr (z_veinit (z_ref T.g_BellError) T.vi_BellError (pa_cons (pv 0) (pa_cons (pe_joined (.cons pe_str (.cons (pe_fmt (pv 1)) .nil))) pa_nil))))
      (pss_one (ps_ost (pv 0) (pv 1)))), ?_⟩)
  · obtain ⟨a, i, rfl, _⟩ := h
    rfl
  obtain ⟨a, i, rfl, ha, hi, q⟩ := h
  show (_ : TS) _ [some (.ref a), some (.int (i : Nat))] H
  try dsimp only [cxOf]
  walk_at "rz"
  refine s_bin ?_
  walk_at "rz"
  refine ⟨rfl, ?_⟩
  unfold tVeI
  walk_at "rz"
  refine ⟨_, rfl, by decide, ⟨_, rfl, .inr ⟨_, rfl, ?_, ?_⟩⟩⟩
  · show Nat.log2 i < 1920
    exact Nat.lt_of_le_of_lt (Nat.log2_le_self i) (by omega)
  have ly : (Str.ofString (toString ((i : Nat) : Int))).length ≤ 10 := by
    rw [PySem.ofString_length]
    exact Nat.le_trans (int_text_length_le10 (k := 4) (by decide) (by show i < 10 ^ 4; omega)) (by decide)
  refine ⟨_, rfl, ?_, ?_⟩
  · rw [show (Str.empty ++ ("impossible move at index " : Str)) = ("impossible move at index " : Str) from by decide, str_len_app, sizeLine_eq]
    show 25 + _ ≤ _
    omega
  refine ⟨a, ga K "InvalidMove", _, rfl, by simp, T.xo_InvalidMove, ha, ?_⟩
  refine ⟨_, rfl, .ref a, rfl, a, ga K "InvalidMove", rfl, T.xo_InvalidMove, T.xn_InvalidMove_index, .inl ⟨ha, fun dx hdx hne => ?_⟩⟩
  exact q dx _ hdx hne rfl
theorem ok_judge_moves_x (T : Txt K mg) : FnOk P w K mg base (L2.CX P w) 5 (ga K "judge_moves") (fdOf K (ga K "judge_moves")) ["loads", "places", "count", "moves"] (spJudge K) := by
  refine FunD.ok T.F_judge_moves sc_judge_moves (fun vs H Q E h => ?_) (fun cdv A outer s H vs Q E hr h => ⟨_, (pss_cons (ps_expr (z_call (ok_check_loads_x T) T.c_check_loads (hr.mono (by decide)) rfl T.g_check_loads (passes_call (takes_of rfl rfl rfl rfl) (fun _ _ _ _ h => h)) (pa_cons (pv 0) (pa_cons (pv 1) (pa_cons (pv 2) pa_nil)))))
      (pss_cons (zset 4 sc_judge_moves.nd (pe_callTy call_list_of (by rfl) T.u_list (by decide +kernel) (pa_cons (pv 1) pa_nil)))
      (pss_cons (zset 5 sc_judge_moves.nd (pe_lst pa_nil))
      (pss_cons (ps_for PassesOwn.leaving rfl (kIE K (pi_enum (by rfl) T.u_enumerate (pa_cons (pv 3) pa_nil))) (kGT K (pg_tup (n := 2) rfl (pgs_cons (zg 6 sc_judge_moves.nd) (pgs_cons (zg 7 sc_judge_moves.nd) pgs_nil))))
      (pss_cons (ps_if (PW.pt (pw_or (pt_not (pt_val (pe_callB (call_isiDK K) (by rfl) T.u_isinstance (by decide +kernel) (pa_cons (pv 7) (pa_cons (z_ty (n := "tuple") T.u_tuple) pa_nil))))) (pw_or (pt_cmpR op_ne (pe_callB (call_lenK K) (by rfl) T.u_len (by decide +kernel) (pa_cons (pv 7) pa_nil)) pe_int (nomark _)) (pw_or1 (pt_not (pt_val (z_call (ok_is_integer T) T.c_is_integer (hr.mono (by decide)) rfl T.g_is_integer passL (pa_cons (pe_ix (ix_tupK K) (pv 7) pe_int (fun _ _ => rfl)) (pa_cons pe_int (pa_cons (pe_op op_sub (pe_callB (call_lenK K) (by rfl) T.u_len (by decide +kernel) (pa_cons (pv 0) pa_nil)) pe_int) pa_nil)))))))))) (pss_one (ps_raise rfl (takes_of rfl rfl rfl rfl) (z_mkX T.xo_InvalidMove T.xi_InvalidMove (ok_InvalidMove_init T) T.c_InvalidMove_init (hr.mono (by decide)) rfl T.g_InvalidMove (pa_cons (pv 6) pa_nil)))) pss_nil)
      (pss_cons (ps_if (PW.pt (pw_or (pt_cmpR (op_in_seqK K) (pe_ix (ix_tupK K) (pv 7) pe_int (fun _ _ => rfl)) (pv 5) (by rfl)) (pw_or (pt_not (pt_val (z_call (ok_is_integer T) T.c_is_integer (hr.mono (by decide)) rfl T.g_is_integer passL (pa_cons (pe_ix (ix_tupK K) (pv 7) pe_int (fun _ _ => rfl)) (pa_cons pe_int (pa_cons (pe_op op_sub (pv 2) pe_int) pa_nil)))))) (pw_or1 (pt_cmpR (op_eqDK K hr.units) (pe_ix (ix_listK K) (pv 4) (pe_ix (ix_tupK K) (pv 7) pe_int (fun _ _ => rfl)) (fun _ _ => rfl)) (pe_ix (ix_tupK K) (pv 7) pe_int (fun _ _ => rfl)) (nomark _)))))) (pss_one (ps_raise rfl (takes_of rfl rfl rfl rfl) (z_mkX T.xo_InvalidMove T.xi_InvalidMove (ok_InvalidMove_init T) T.c_InvalidMove_init (hr.mono (by decide)) rfl T.g_InvalidMove (pa_cons (pv 6) pa_nil)))) pss_nil)
      (pss_cons (ps_expr (kBM K (pe_bm PySem.F.plainAttrs_list PySem.F.slot_list_append PySem.F.type_list_append mt_append (pv 5) (pa_cons (pe_ix (ix_tupK K) (pv 7) pe_int (fun _ _ => rfl)) pa_nil))))
      (pss_one (ps_asg (pe_ix (ix_tupK K) (pv 7) pe_int (fun _ _ => rfl)) (pg_sub (pv 4) (pe_ix (ix_tupK K) (pv 7) pe_int (fun _ _ => rfl)) set_list)))))))
      (pss_one (ps_ret (z_call (ok_spread_of T) T.c_spread_of (hr.mono (by decide)) rfl T.g_spread_of passL (pa_cons (pv 0) (pa_cons (pv 4) (pa_cons (pv 2) pa_nil)))))))))), ?_⟩)
  · obtain ⟨v1, v2, v3, d1, d2, d3, l, ys, ds, rfl, _⟩ := h
    rfl
  obtain ⟨v1, v2, v3, d1, d2, d3, l, ys, ds, rfl, h1, h2, h3, hl, hA, hds, qb, qi, qn⟩ := h
  show (_ : TS) _ (some v1 :: some v2 :: some v3 :: some (.ref l) :: List.replicate 4 none) H
  try dsimp only [cxOf]
  dsimp only [List.replicate]
  walk_at "rz"
  refine ⟨v1, v2, v3, d1, d2, d3, rfl, h1, h2, h3, fun okl H1 s1 => ?_, fun bad H1 s1 => qb bad H1 s1⟩
  obtain ⟨ls, ps, c, rfl, rfl, rfl, n1, n7, len, c1, c4, hps⟩ := loadsOk_inv okl
  obtain ⟨a1, xs1, rfl, hT1, hA1⟩ := h1.tupI
  obtain ⟨a2, xs2, rfl, hT2, hA2⟩ := h2.tupI
  have e1 := dpa_ints_inv hA1
  have e2 := dpa_ints_inv hA2
  subst e1
  subst e2
  cases h3
  have hl1 := sqL_same s1 hl
  walk_at "rz"
  refine ⟨a2, _, rfl, .inr (s1.sqT hT2), fun nw hnw => ?_⟩
  generalize eH : upd H1 nw _ = H2
  have s2 := newS hnw eH
  have e2 := newE eH
  clear eH
  have nwN : H nw = none := freshB s1 hnw
  walk_at "rz"
  rename_i kn hkn H3 s3 e3
  have knN : H kn = none := freshB (s1.trans s2) hkn
  have nk : nw ≠ kn := fun e => by rw [e, hkn] at e2; cases e2
  have s03 := (s1.trans s2).trans s3
  have e23 := s3 _ _ e2
  have hl3 := sqL_same s03 hl
  have lys := hA.len
  rw [judgeD_eq] at qi qn
  have rz : ∀ (σ : L2.St) (Hb : Hp) (i : Nat), σ[6]? = some (some (.int (i : Nat))) → Same H Hb → i ≤ 1000 → (∀ dx H', Same H H' → H' dx = some (.xd [("index", .int (i : Nat))]) → E (.ref (ga K "InvalidMove")) (some dx) H') → tMkO (ga K "InvalidMove") (spExMove K) [] (tCons (tVar 6) tNil) σ Hb (fun cls d H' => E cls d H') := fun σ Hb i hσ sb hi k => by
    unfold tMkO
    refine s_cons (s_var (v := .int (i : Nat)) hσ (s_nil ⟨by simp, fun ax hax => ?_⟩))
    refine ⟨ax, i, rfl, upd_same, hi, fun dx H' hdx hne e => ?_⟩
    subst e
    rw [upd_ne hne] at hdx
    refine ⟨rfl, dx, [("index", .int (i : Nat))], upd_same, by rw [upd_ne hne, upd_same], hdx, ?_⟩
    exact k dx _ (sb.trans (same_xd hax hdx hne)) upd_same
  refine s_enW ?_
  walk_at "rz"
  refine ⟨_, _, rfl, hl3, for_it walk_enum (fun i σ Ha => (i ≤ ds.length ∧ ∃ s1 s2 : List Int, ∃ y6 y7, σ = [some (.ref a1), some (.ref a2), some (.int (c : Nat)), some (.ref l), some (.ref nw), some (.ref kn), y6, y7] ∧ Ha nw = some (.lst (s1.map V.int)) ∧ Ha kn = some (.lst (s2.map V.int)) ∧ s1.length = ls.length ∧ (∀ p ∈ s1, 0 ≤ p ∧ p < c) ∧ s2.length ≤ i ∧ movesD ls.length c (ps, []) ds 0 = movesD ls.length c (s1, s2) (ds.drop i) i) ∧ Same H Ha) ⟨⟨by omega, ps, [], _, _, rfl, e23, e3, len, hps, Nat.le_refl _, rfl⟩, s03⟩ (fun i σ Ha _ ⟨_, sa⟩ => sqL_same sa hl) (fun i v σ Ha0 Ha hi ⟨⟨hin, t1, t2, y6, y7, es, en, ek, lt, ht, l2i, eqm⟩, sa0⟩ yy => ?_) (fun σ Ha ⟨⟨hin, t1, t2, y6, y7, es, en, ek, lt, ht, l2i, eqm⟩, sa⟩ => ?_)⟩
  · subst es
    obtain ⟨tt, _, pv, rfl, htt, rfl, eq1, hpv⟩ := yy
    cases eq1
    have snew : Same Ha0 (upd Ha0 tt (.tup [.int (i : Nat), pv])) := Same.new htt
    have ett : upd Ha0 tt (.tup [.int (i : Nat), pv]) tt = some (.tup [.int (i : Nat), pv]) := upd_same
    generalize upd Ha0 tt (.tup [.int (i : Nat), pv]) = Ha at *
    have sa := sa0.trans snew
    have en := snew _ _ en
    have ek := snew _ _ ek
    have hpv : ys[i]? = some pv := hpv
    obtain ⟨d, hd, dv⟩ := hA.getv hpv
    have lti := (List.getElem?_eq_some_iff.mp hd).1
    have ed : ds.drop i = d :: ds.drop (i + 1) := by
      rw [List.drop_eq_getElem_cons lti, (List.getElem?_eq_some_iff.mp hd).2]
    rw [ed] at eqm
    have dv := dv.same sa
    refine s_gtup (SqT.of ett) rfl ?_
    walk_at "rz"
    have rz1 : ∀ (σ : L2.St) (Hb : Hp), σ[6]? = some (some (.int (i : Nat))) → Same Ha Hb → moveD ls.length c (t1, t2) d = none → tMkO (ga K "InvalidMove") (spExMove K) [] (tCons (tVar 6) tNil) σ Hb (fun cls d H' => E cls d H') := fun σ Hb hσ sb hn => rz σ Hb i hσ (sa.trans sb) (by omega) (fun dx H' s' e' => qi okl i (by rw [eqm]; simp only [movesD, hn]) dx H' s' e')
    have dv0 := dv
    cases dv <;> (walk_at "rz") <;> try exact rz1 _ _ rfl (Same.refl _) rfl
    rename_i b zs es hU hB _
    have lz := hB.len
    refine s_lenT hU ?_
    walk_at "rz"
    refine ite_b (fun hne => ?_) (fun hne => ?_)
    · walk_at "rz"
      refine rz1 _ _ rfl (Same.refl _) (moveD_len fun e2 => ?_)
      simp [lz, e2] at hne
    obtain ⟨x, y, rfl⟩ : ∃ x y, es = [x, y] := by
      have : es.length = 2 := by
        simp [lz] at hne
        omega
      match es, this with
      | [x, y], _ => exact ⟨x, y, rfl⟩
    cases hB with | cons hx hB => ?_
    cases hB with | cons hy hB => ?_
    cases hB
    walk_at "rz"
    refine s_lenT (sa.sqT hT1) ?_
    rw [List.length_map]
    walk_at "rz"
    refine ⟨_, x, _, _, rfl, hx, ?_⟩
    cases hxi : isIntD 0 ((ls.length : Int) - 1) x
    · walk_at "rz"
      exact rz1 _ _ rfl (Same.refl _) (moveD_k hxi)
    obtain ⟨k, rfl, k0, k1⟩ := isIntD_inv hxi
    cases hx
    obtain ⟨m, rfl⟩ : ∃ m : Nat, k = (m : Int) := ⟨k.toNat, by omega⟩
    have lk : m < t1.length := by omega
    walk_at "rz"
    refine s_in (.inl (SqL.of ek)) rfl (by simp [List.all_map]; intros; rfl) ?_
    rw [show (if false = true then !inV (.int (m : Nat)) (t2.map V.int) else inV (.int (m : Nat)) (t2.map V.int)) = inV (.int (m : Nat)) (t2.map V.int) from rfl, inV_int]
    walk_at "rz"
    refine ite_b (fun hin2 => ?_) (fun hnin => ?_)
    · walk_at "rz"
      exact rz1 _ _ rfl (Same.refl _) (moveD_in (of_decide_eq_true hin2))
    have hnin := of_decide_eq_false hnin
    walk_at "rz"
    refine ⟨_, y, _, _, rfl, hy, ?_⟩
    cases hyi : isIntD 0 ((c : Int) - 1) y
    · walk_at "rz"
      exact rz1 _ _ rfl (Same.refl _) (moveD_p hyi)
    obtain ⟨p, rfl, p0, p1⟩ := isIntD_inv hyi
    cases hy
    walk_at "rz"
    refine s_ixL (SqL.of en) (at_of (j := m) rfl (by rw [List.getElem?_map, List.getElem?_eq_getElem lk]; rfl)) ?_
    walk_at "rz"
    refine ⟨_, _, .int _, .int _, rfl, rfl, ?_⟩
    rw [show PyData.eqv (.int t1[m]) (.int p) = decide (t1[m] = p) from rfl]
    walk_at "rz"
    refine ite_b (fun heq => ?_) (fun hneq => ?_)
    · walk_at "rz"
      refine rz1 _ _ rfl (Same.refl _) (moveD_at ?_)
      rw [Int.toNat_natCast, List.getElem?_eq_getElem lk, of_decide_eq_true heq]
    have hneq := of_decide_eq_false hneq
    have em := moveD_ok (n := ls.length) (c := c) (k := (m : Nat)) (p := p) (s := (t1, t2)) k0 k1 hnin p0 p1 (by
      rw [Int.toNat_natCast, List.getElem?_eq_getElem lk]
      intro e
      exact hneq (Option.some.inj e))
    walk_at "rz"
    obtain ⟨b', zs', eb, hUH, hBH⟩ := Dp.tupI dv
    cases eb
    have ez := dpa_ints_inv (ns := [(m : Int), p]) hBH
    subst ez
    refine s_tyL ek ?_
    walk_at "rz"
    refine s_append ek (by rw [List.length_map, sizeLine_eq]; omega) ?_
    have sb := upS sa knN (o := .lst (t2.map V.int ++ [.int (m : Nat)]))
    have enb : upd Ha kn (.lst (t2.map V.int ++ [.int (m : Nat)])) nw = some (.lst (t1.map V.int)) := by rw [upd_ne nk]; exact en
    have ekb : upd Ha kn (.lst (t2.map V.int ++ [.int (m : Nat)])) kn = some (.lst (t2.map V.int ++ [.int (m : Nat)])) := upd_same
    generalize upd Ha kn (.lst (t2.map V.int ++ [.int (m : Nat)])) = Hb at *
    have hUb : SqT K Hb b [.int (m : Nat), .int p] := sb.sqT hUH
    walk_at "rz"
    refine s_setL enb (ixN_n (by rw [List.length_map]; exact lk)) ?_
    refine ⟨⟨by omega, t1.set m p, t2 ++ [(m : Int)], _, _, rfl, by rw [upd_same, List.map_set], ?_, by rw [List.length_set]; exact lt, fun q hq => ?_, by rw [List.length_append]; simp; omega, ?_⟩, upS sb nwN⟩
    · rw [upd_ne (Ne.symm nk), ekb, List.map_append]
      rfl
    · rcases List.mem_or_eq_of_mem_set hq with hq | rfl
      · exact ht q hq
      · omega
    · rw [eqm]
      simp only [movesD, em, Int.toNat_natCast]
  · subst es
    rw [show ys.length = ds.length from lys, List.drop_length] at eqm
    walk_at "rz"
    refine ⟨a1, nw, ls, t1, c, rfl, sa.sqT hT1, SqL.of en, lt.symm, n7, c1, c4, ht, fun n H' s' => ?_⟩
    walk_at "rz"
    exact qn okl eqm n H' (sa.trans s')
theorem ok_fewest_moves_x (T : Txt K mg) : FnOk P w K mg base (L2.CX P w) 5 (ga K "fewest_moves") (fdOf K (ga K "fewest_moves")) ["loads", "places", "count", "bound"] (spRef K 7000) := by
  refine FunD.ok T.F_fewest_moves sc_fewest_moves (fun vs H Q E h => ?_) (fun cdv A outer s H vs Q E hr h => ⟨_, (pss_cons (ps_expr (z_call (ok_check_loads_x T) T.c_check_loads (hr.mono (by decide)) rfl T.g_check_loads (passes_call (takes_of rfl rfl rfl rfl) (fun _ _ _ _ h => h)) (pa_cons (pv 0) (pa_cons (pv 1) (pa_cons (pv 2) pa_nil))))) (pss_cons (ps_expr (z_call (ok_check_number_x T) T.c_check_number (hr.mono (by decide)) rfl T.g_check_number (passes_call (takes_of rfl rfl rfl rfl) (fun _ _ _ _ h => h)) (pa_cons (pv 3) (pa_cons pe_int (pa_cons (pe_op op_mul (z_int T.i_MAX_LOADS) (z_int T.i_MAX_LOAD)) pa_nil))))) pss_never)), ?_⟩)
  · obtain ⟨v1, v2, v3, v4, d1, d2, d3, d4, rfl, _⟩ := h
    rfl
  obtain ⟨v1, v2, v3, v4, d1, d2, d3, d4, rfl, h1, h2, h3, h4, bad, e⟩ := h
  show (_ : TS) _ (some v1 :: some v2 :: some v3 :: some v4 :: List.replicate 4 none) H
  try dsimp only [cxOf]
  dsimp only [List.replicate]
  walk_at "rz"
  refine ⟨v1, v2, v3, d1, d2, d3, rfl, h1, h2, h3, fun okl H1 s1 => ?_, fun _ H1 s1 => e H1 s1⟩
  walk_at "rz"
  refine s_I (.inl ⟨by decide, by decide⟩) ?_
  walk_at "rz"
  refine ⟨v4, d4, _, _, rfl, h4.same s1, fun ok4 => ?_, fun _ => e H1 s1⟩
  rcases bad with bad | bad
  · rw [okl] at bad
    cases bad
  · rw [show isIntD 0 7000 d4 = true from ok4] at bad
    cases bad
theorem ok_least_spread_x (T : Txt K mg) : FnOk P w K mg base (L2.CX P w) 5 (ga K "least_spread") (fdOf K (ga K "least_spread")) ["loads", "places", "count", "most"] (spRef K 7) := by
  refine FunD.ok T.F_least_spread sc_least_spread (fun vs H Q E h => ?_) (fun cdv A outer s H vs Q E hr h => ⟨_, (pss_cons (ps_expr (z_call (ok_check_loads_x T) T.c_check_loads (hr.mono (by decide)) rfl T.g_check_loads (passes_call (takes_of rfl rfl rfl rfl) (fun _ _ _ _ h => h)) (pa_cons (pv 0) (pa_cons (pv 1) (pa_cons (pv 2) pa_nil))))) (pss_cons (ps_expr (z_call (ok_check_number_x T) T.c_check_number (hr.mono (by decide)) rfl T.g_check_number (passes_call (takes_of rfl rfl rfl rfl) (fun _ _ _ _ h => h)) (pa_cons (pv 3) (pa_cons pe_int (pa_cons (z_int T.i_MAX_LOADS) pa_nil))))) pss_never)), ?_⟩)
  · obtain ⟨v1, v2, v3, v4, d1, d2, d3, d4, rfl, _⟩ := h
    rfl
  obtain ⟨v1, v2, v3, v4, d1, d2, d3, d4, rfl, h1, h2, h3, h4, bad, e⟩ := h
  show (_ : TS) _ (some v1 :: some v2 :: some v3 :: some v4 :: List.replicate 5 none) H
  try dsimp only [cxOf]
  dsimp only [List.replicate]
  walk_at "rz"
  refine ⟨v1, v2, v3, d1, d2, d3, rfl, h1, h2, h3, fun okl H1 s1 => ?_, fun _ H1 s1 => e H1 s1⟩
  walk_at "rz"
  refine ⟨v4, d4, _, _, rfl, h4.same s1, fun ok4 => ?_, fun _ => e H1 s1⟩
  rcases bad with bad | bad
  · rw [okl] at bad
    cases bad
  · rw [show isIntD 0 7 d4 = true from ok4] at bad
    cases bad
end
set_option maxHeartbeats 4000000
open PySem PySem.Spec PyProof.Rows L2 Z
open He (ga ma)
open LamX (TabS CodeO)
structure Lds (ls ps : List Int) (c : Nat) : Prop where
  l1 : 1 ≤ ls.length
  l6 : ls.length ≤ 6
  len : ps.length = ls.length
  c1 : 1 ≤ c
  c4 : c ≤ 4
  lo : ∀ i ∈ ls, 0 ≤ i ∧ i ≤ 1000
  pl : ∀ p ∈ ps, 0 ≤ p ∧ p < c
def spWLoads (K : Fg) : Sp := fun vs H Q _ => ∃ r sc ns, vs = [.ref r, .int 6] ∧ RowAt K H r sc ns ∧ ∀ t a b ls ps c H', Fr [r] H H' → RowAt K H' r sc ns → H' t = some (.tup [.ref a, .ref b, .int (c : Nat)]) → SqT K H' a (ls.map V.int) → SqT K H' b (ps.map V.int) → Lds ls ps c → Q (.ref t) H'
def spWSpoilt (K : Fg) : Sp := fun vs H Q _ => ∃ r sc ns a b ls ps, ∃ c : Nat, vs = [.ref r, .ref a, .ref b, .int (c : Nat)] ∧ RowAt K H r sc ns ∧ SqT K H a (ls.map V.int) ∧ SqT K H b (ps.map V.int) ∧ Lds ls ps c ∧ ∀ t v1 v2 v3 d1 d2 d3 H', Fr [r] H H' → RowAt K H' r sc ns → H' t = some (.tup [v1, v2, v3]) → Dp K H' v1 d1 → Dp K H' v2 d2 → Dp K H' v3 d3 → loadsOk d1 d2 d3 = false → Q (.ref t) H'
section
variable {P : Program} {w : World} {K : Fg} {mg : Str → Option Value} {base : Heap}
theorem ok_w_loads (T : Txt K mg) : FnOk P w K mg base (L2.CX P w) 2 (ga K "_law_loads") (fdOf K (ga K "_law_loads")) ["_law_row", "_law_most"] (spWLoads K) := by
  refine FunD.ok T.F_w_loads sc_w_loads (fun vs H Q E h => ?_) (fun cdv A outer s H vs Q E hr h => ⟨_, PSs.nox (pss_cons (ps_asg (pe_tup (pa_cons (pe_op op_add pe_int (z_call (ok_w_taken T) T.c_w_taken (hr.mono (by decide)) rfl T.g_w_taken passL (pa_cons (pv 0) (pa_cons pe_int pa_nil)))) (pa_cons (pe_ix (ix_listK K) (pe_lst (pa_cons pe_int (pa_cons pe_int (pa_cons pe_int pa_nil)))) (z_call (ok_w_taken T) T.c_w_taken (hr.mono (by decide)) rfl T.g_w_taken passL (pa_cons (pv 0) (pa_cons pe_int pa_nil))) (fun _ _ => rfl)) pa_nil))) (kGT K (pg_tup (n := 2) rfl (pgs_cons (zg 2 sc_w_loads.nd) (pgs_cons (zg 3 sc_w_loads.nd) pgs_nil)))))
      (pss_cons (zset 4 sc_w_loads.nd (pe_callTy (call_tuple_ofK K) (by rfl) T.u_tuple (by decide +kernel) (pa_cons (pe_lc (own := [("_law_k", 5)]) rfl sc_w_loads.nd (pi_range1 rfl T.u_range (pa_cons (pe_op op_add pe_int (z_call (ok_w_taken T) T.c_w_taken (hr.mono (by decide)) rfl T.g_w_taken passL (pa_cons (pv 0) (pa_cons (pv 1) pa_nil)))) pa_nil)) (blkOk_by (own := [("_law_k", 5)]) (N := n_w_loads) (sc := defScope s_w_loads) (by decide +kernel)) (fun _ _ _ _ _ => (zg 5 sc_w_loads.nd)) (fun _ _ _ _ _ => pts_nil) (fun _ _ _ _ _ => (z_call (ok_w_taken T) T.c_w_taken (hr.mono (by decide)) rfl T.g_w_taken passL (pa_cons (pv 0) (pa_cons (pv 3) pa_nil))))) pa_nil)))
      (pss_one (ps_ret (pe_tup (pa_cons (pv 4) (pa_cons (pe_callTy (call_tuple_ofK K) (by rfl) T.u_tuple (by decide +kernel) (pa_cons (pe_lc (own := [("_law_load", 6)]) rfl sc_w_loads.nd (kIT K (pi_tup (pv 4))) (blkOk_by (own := [("_law_load", 6)]) (N := n_w_loads) (sc := defScope s_w_loads) (by decide +kernel)) (fun _ _ _ _ _ => (zg 6 sc_w_loads.nd)) (fun _ _ _ _ _ => pts_nil) (fun _ _ _ _ _ => (z_call (ok_w_taken T) T.c_w_taken (hr.mono (by decide)) rfl T.g_w_taken passL (pa_cons (pv 0) (pa_cons (pv 2) pa_nil))))) pa_nil)) (pa_cons (pv 2) pa_nil)))))))), ?_⟩)
  · obtain ⟨r, sc, ns, rfl, _⟩ := h
    rfl
  obtain ⟨r, sc, ns, rfl, row, q⟩ := h
  show (_ : TS) _ (some (.ref r) :: some (.int 6) :: List.replicate 5 none) H
  try dsimp only [cxOf]
  dsimp only [List.replicate]
  walk_at "rz"
  refine s_take row (by decide) (by decide) fun m1 H1 m10 m11 f1 row1 => ?_
  walk_at "rz"
  rename_i l0 hl0 H2 s2 e2
  refine s_take (row1.same s2) (by decide) (by decide) fun m2 H3 m20 m21 f3 row3 => ?_
  have l0r : l0 ≠ r := fun e => row1.ex (by rw [← e]; exact hl0)
  have e3 := f3.at e2 (by simp [l0r])
  obtain ⟨k, rfl⟩ : ∃ k : Nat, m2 = (k : Int) := ⟨m2.toNat, by omega⟩
  obtain ⟨sz, hsz, sz0, sz1⟩ : ∃ sz : Int, ([.int 3, .int 9, .int 1001] : List V)[k]? = some (.int sz) ∧ 0 < sz ∧ sz ≤ 1001 := by
    have : k < 3 := by omega
    match k, this with
    | 0, _ => exact ⟨3, rfl, by decide, by decide⟩
    | 1, _ => exact ⟨9, rfl, by decide, by decide⟩
    | 2, _ => exact ⟨1001, rfl, by decide, by decide⟩
  walk_at "rz"
  refine s_ixL (SqL.of e3) (at_of (j := k) rfl hsz) ?_
  walk_at "rz"
  rename_i t1 ht1 H4 s4 e4
  have row4 := row3.same s4
  refine s_gtup (SqT.of e4) rfl ?_
  walk_at "rz"
  refine s_take row4 (by decide) (by decide) fun m3 H5 m30 m31 f5 row5 => ?_
  walk_at "rz"
  refine ⟨by omega, by omega, lcR_row row5 (by omega) (fun _ (x : Int) => 0 ≤ x ∧ x ≤ 1000) PyData.int (fun _ => rfl) (fun i Ha Yes No hi fa rowa yes => ?_) (fun l1 H6 ys ls hl1 f6 row6 e6 lls hls a6 => ?_)⟩
  · walk_at "rz"
    refine ⟨rfl, ?_⟩
    walk_at "rz"
    refine s_take rowa sz0 (by omega) fun n Hb n0 n1 fb rowb => ?_
    exact yes _ _ n fb rowb ⟨n0, by omega⟩ (.int n)
  have hls : ∀ x ∈ ls, 0 ≤ x ∧ x ≤ 1000 := fun x hx => by
    obtain ⟨_, h⟩ := rel_all hls x hx
    exact h
  have ey := dpa_ints_inv a6
  subst ey
  walk_at "rz"
  refine ⟨l1, _, rfl, .inl ⟨SqL.of e6, fun t2 ht2 => ?_⟩⟩
  generalize eH : upd H6 t2 _ = H7
  have s7 := newS ht2 eH
  have e7 := newE eH
  clear eH
  have row7 := row6.same s7
  have f17 : Fr [r] H H7 := (((((f1.trans s2.fr).trans f3).trans s4.fr).trans f5).trans f6).trans s7.fr
  walk_at "rz"
  refine ⟨t2, rfl, ⟨_, SqT.of e7⟩, fun D hD => lc_rel (K := K) (walk_tup (a := t2) (xs := ls.map V.int)) (fun _ (p : Int) => 0 ≤ p ∧ p < 1 + m1) PyData.int [r] (fun Ha => RowAt K Ha r sc ns) hD (by rw [List.length_map]; omega) (fun _ => rfl) (fun b hb => by rw [List.mem_singleton.mp hb]; exact row7.ex) row7 (fun Ha Hb fr h => row7.kept h fr (by simpa using hD)) (fun Ha Hb s h => h.same s) (fun Ha fr h => fr.tk.sqT (SqT.of e7)) (fun i Ha x Hb y => by rw [y.1]; exact Same.refl _) (fun i x Ha Hb Yes No hi fa rowa y yes => ?_) (fun H8 ys ps f8 row8 e8 lps hps a8 => ?_)⟩
  · obtain ⟨rfl, hx⟩ := y
    walk_at "rz"
    refine ⟨rfl, ?_⟩
    walk_at "rz"
    refine s_take rowa (by omega) (by omega) fun n Hb n0 n1 fb rowb => ?_
    exact yes _ _ n fb rowb ⟨n0, n1⟩ (.int n)
  have hps : ∀ x ∈ ps, 0 ≤ x ∧ x < 1 + m1 := fun x hx => by
    obtain ⟨_, h⟩ := rel_all hps x hx
    exact h
  have ey := dpa_ints_inv a8
  subst ey
  walk_at "rz"
  refine ⟨D, _, rfl, .inl ⟨SqL.of e8, fun t3 ht3 => ?_⟩⟩
  generalize eH : upd H8 t3 _ = H9
  have s9 := newS ht3 eH
  have e9 := newE eH
  clear eH
  walk_at "rz"
  rename_i t4 ht4 H10 s10 e10
  have s910 := s9.trans s10
  obtain ⟨c, hc⟩ : ∃ c : Nat, 1 + m1 = (c : Int) := ⟨(1 + m1).toNat, by omega⟩
  rw [hc] at e10
  rw [List.length_map] at lps
  exact q t4 t2 t3 ls ps c H10 ((f17.trans f8).trans s910.fr) (row8.same s910) e10 (s910.sqT (f8.tk.sqT (SqT.of e7))) (s10.sqT (SqT.of e9)) ⟨by omega, by omega, lps, by omega, by omega, hls, fun p hp => ⟨(hps p hp).1, by have := (hps p hp).2; omega⟩⟩
theorem ok_w_spoilt (T : Txt K mg) : FnOk P w K mg base (L2.CX P w) 2 (ga K "_law_spoilt") (fdOf K (ga K "_law_spoilt")) ["_law_row", "_law_loads_here", "_law_places", "_law_count"] (spWSpoilt K) := by
  refine FunD.ok T.F_w_spoilt sc_w_spoilt (fun vs H Q E h => ?_) (fun cdv A outer s H vs Q E hr h => ⟨_, PSs.nox (pss_cons (ps_par (by rfl) sc_w_spoilt.nd (i := 4) (j := 5) rfl rfl (by decide) rfl rfl (pa_cons (z_call (ok_w_taken T) T.c_w_taken (hr.mono (by decide)) rfl T.g_w_taken passL (pa_cons (pv 0) (pa_cons pe_int pa_nil))) (pa_cons (z_call (ok_w_taken T) T.c_w_taken (hr.mono (by decide)) rfl T.g_w_taken passL (pa_cons (pv 0) (pa_cons (pe_callB (call_lenK K) (by rfl) T.u_len (by decide +kernel) (pa_cons (pv 1) pa_nil)) pa_nil))) pa_nil)) (by rfl))
      (pss_cons (ps_if (pt_cmpR op_eq (pv 4) pe_int (nomark _)) (pss_one (ps_ret (pe_tup (pa_cons (pe_op (op_catAK K) (pe_op (op_catAK K) (pe_slice (sl_tupAK K) (pv 1) po_none (po_some (pv 5))) (pe_tup (pa_cons (pe_ix (ix_listK K) (pe_lst (pa_cons (pe_un un_neg pe_int) (pa_cons pe_int (pa_cons pe_non (pa_cons pe_bl pa_nil))))) (z_call (ok_w_taken T) T.c_w_taken (hr.mono (by decide)) rfl T.g_w_taken passL (pa_cons (pv 0) (pa_cons pe_int pa_nil))) (fun _ _ => rfl)) pa_nil))) (pe_slice (sl_tupAK K) (pv 1) (po_some (pe_op op_add (pv 5) pe_int)) po_none)) (pa_cons (pv 2) (pa_cons (pv 3) pa_nil)))))) pss_nil)
      (pss_cons (ps_if (pt_cmpR op_eq (pv 4) pe_int (nomark _)) (pss_one (ps_ret (pe_tup (pa_cons (pe_ix (ix_listK K) (pe_lst (pa_cons (pe_tup pa_nil) (pa_cons (pe_callTy call_list_of (by rfl) T.u_list (by decide +kernel) (pa_cons (pv 1) pa_nil)) (pa_cons (pe_op (op_repU K) (pe_tup (pa_cons pe_int pa_nil)) pe_int) (pa_cons pe_non pa_nil))))) (z_call (ok_w_taken T) T.c_w_taken (hr.mono (by decide)) rfl T.g_w_taken passL (pa_cons (pv 0) (pa_cons pe_int pa_nil))) (fun _ _ => rfl)) (pa_cons (pv 2) (pa_cons (pv 3) pa_nil)))))) pss_nil)
      (pss_cons (ps_if (pt_cmpR op_eq (pv 4) pe_int (nomark _)) (pss_one (ps_ret (pe_tup (pa_cons (pv 1) (pa_cons (pe_op (op_catAK K) (pe_op (op_catAK K) (pe_slice (sl_tupAK K) (pv 2) po_none (po_some (pv 5))) (pe_tup (pa_cons (pe_ix (ix_listK K) (pe_lst (pa_cons (pe_un un_neg pe_int) (pa_cons (pv 3) (pa_cons pe_str (pa_cons pe_bl pa_nil))))) (z_call (ok_w_taken T) T.c_w_taken (hr.mono (by decide)) rfl T.g_w_taken passL (pa_cons (pv 0) (pa_cons pe_int pa_nil))) (fun _ _ => rfl)) pa_nil))) (pe_slice (sl_tupAK K) (pv 2) (po_some (pe_op op_add (pv 5) pe_int)) po_none)) (pa_cons (pv 3) pa_nil)))))) pss_nil)
      (pss_cons (ps_if (pt_cmpR op_eq (pv 4) pe_int (nomark _)) (pss_one (ps_ret (pe_tup (pa_cons (pv 1) (pa_cons (pe_ix (ix_listK K) (pe_lst (pa_cons (pe_op (op_catAK K) (pv 2) (pe_tup (pa_cons pe_int pa_nil))) (pa_cons (pe_slice (sl_tupAK K) (pv 2) po_none (po_some (pe_un un_neg pe_int))) (pa_cons (pe_callTy call_list_of (by rfl) T.u_list (by decide +kernel) (pa_cons (pv 2) pa_nil)) pa_nil)))) (z_call (ok_w_taken T) T.c_w_taken (hr.mono (by decide)) rfl T.g_w_taken passL (pa_cons (pv 0) (pa_cons pe_int pa_nil))) (fun _ _ => rfl)) (pa_cons (pv 3) pa_nil)))))) pss_nil)
      (pss_one (ps_ret (pe_tup (pa_cons (pv 1) (pa_cons (pv 2) (pa_cons (pe_ix (ix_listK K) (pe_lst (pa_cons pe_int (pa_cons pe_int (pa_cons pe_non (pa_cons (pe_un un_neg pe_int) (pa_cons pe_str pa_nil)))))) (z_call (ok_w_taken T) T.c_w_taken (hr.mono (by decide)) rfl T.g_w_taken passL (pa_cons (pv 0) (pa_cons pe_int pa_nil))) (fun _ _ => rfl)) pa_nil))))))))))), ?_⟩)
  · obtain ⟨r, sc, ns, a, b, ls, ps, c, rfl, _⟩ := h
    rfl
  obtain ⟨r, sc, ns, a, b, ls, ps, c, rfl, row, hT, hU, L, q⟩ := h
  have l1 := L.l1
  have l6 := L.l6
  have len := L.len
  show (_ : TS) _ (some (.ref r) :: some (.ref a) :: some (.ref b) :: some (.int (c : Nat)) :: List.replicate 2 none) H
  try dsimp only [cxOf]
  dsimp only [List.replicate]
  walk_at "rz"
  refine s_take row (by decide) (by decide) fun m1 H1 m10 m11 f1 row1 => ?_
  have hT1 := f1.tk.sqT hT
  have hU1 := f1.tk.sqT hU
  walk_at "rz"
  refine s_lenT hT1 ?_
  rw [List.length_map]
  walk_at "rz"
  refine s_take row1 (by omega) (by omega) fun m2 H2 m20 m21 f2 row2 => ?_
  have hT2 := f2.tk.sqT hT1
  have hU2 := f2.tk.sqT hU1
  have f02 := f1.trans f2
  obtain ⟨k, rfl⟩ : ∃ k : Nat, m2 = (k : Int) := ⟨m2.toNat, by omega⟩
  walk_at "rz"
  refine ite_b (fun w0 => ?_) (fun w0 => ?_)
  · clear w0
    walk_at "rz"
    refine s_slA hT2 fun p1 H3 s3 e3 => ?_
    rw [cut_take] at e3
    walk_at "rz"
    rename_i l4 hl4 H4 s4 e4
    refine s_take (row2.same (s3.trans s4)) (by decide) (by decide) fun m5 H5 m50 m55 f5 row5 => ?_
    obtain ⟨j, rfl⟩ : ∃ j : Nat, m5 = (j : Int) := ⟨m5.toNat, by omega⟩
    have l4r : l4 ≠ r := fun e => (row2.same s3).ex (by rw [← e]; exact hl4)
    obtain ⟨v, d, hv, dv, bd⟩ : ∃ v d, ([.int (-1), .int 1001, .non, .bl true] : List V)[j]? = some v ∧ (∀ H, Dp K H v d) ∧ isIntD 0 1000 d = false := by
      have : j < 4 := by omega
      match j, this with
      | 0, _ => exact ⟨_, _, rfl, fun H => .int _, rfl⟩
      | 1, _ => exact ⟨_, _, rfl, fun H => .int _, rfl⟩
      | 2, _ => exact ⟨_, _, rfl, fun H => .non, rfl⟩
      | 3, _ => exact ⟨_, _, rfl, fun H => .bl _, rfl⟩
    refine s_ixL (SqL.of (f5.at e4 (by simp [l4r]))) (at_of (j := j) rfl hv) ?_
    walk_at "rz"
    rename_i p2 hp2 H6 s6 e6
    have e36 := s6.sqT (f5.tk.sqT (s4.sqT e3))
    refine s_cat72 e36 (SqT.of e6) (by rw [sizeLine_eq]; simp; omega) fun p3 H7 s7 e7 => ?_
    have f27 : Fr [r] H2 H7 := (((s3.trans s4).fr.trans f5).trans s6.fr).trans s7.fr
    walk_at "rz"
    refine s_slA (f27.tk.sqT hT2) fun p4 H8 s8 e8 => ?_
    rw [show ((k : Int) + 1) = ((k + 1 : Nat) : Int) from rfl, cut_drop] at e8
    walk_at "rz"
    refine s_cat72 (s8.sqT e7) e8 (by rw [sizeLine_eq]; simp; omega) fun p5 H9 s9 e9 => ?_
    walk_at "rz"
    rename_i t hpt H10 s10 e10
    have f210 := (f27.trans (s8.trans s9).fr).trans s10.fr
    have dd : Dp K H10 (.ref p5) (.tuple (((ls.take k).map PyData.int ++ [d]) ++ (ls.drop (k + 1)).map PyData.int)) := .tup (s10.sqT e9) (dpa_app (dpa_app (by rw [← List.map_take]; exact dpa_ints' _) (.cons (dv _) .nil)) (by rw [← List.map_drop]; exact dpa_ints' _))
    exact q t _ _ _ _ _ _ H10 (f02.trans f210) (((row5.same (s6.trans s7)).same (s8.trans s9)).same s10) e10 dd (.tup (f210.tk.sqT hU2) (dpa_ints' _)) (.int _) (sp_load (b := d) (by simp) bd)
  walk_at "rz"
  refine ite_b (fun w1 => ?_) (fun w1 => ?_)
  · clear w0 w1
    walk_at "rz"
    rename_i t0 ht0 H3 s3 e3
    refine ⟨a, _, rfl, .inr (s3.sqT hT2), fun l5 hl5 => ?_⟩
    generalize eH : upd H3 l5 _ = H4
    have s4 := newS hl5 eH
    have e4 := newE eH
    clear eH
    walk_at "rz"
    rename_i t6 ht6 H5 s5 e5
    refine s_repU (SqT.of e5) (by simp) (by decide) (by decide) (by simp) fun t7 H6 s6 e6 => ?_
    walk_at "rz"
    rename_i l8 hl8 H8 s8 e8
    have s28 := (((s3.trans s4).trans s5).trans s6).trans s8
    refine s_take (row2.same s28) (by decide) (by decide) fun m9 H9 m90 m99 f9 row9 => ?_
    obtain ⟨j, rfl⟩ : ∃ j : Nat, m9 = (j : Int) := ⟨m9.toNat, by omega⟩
    have l8r : l8 ≠ r := fun e => (row2.same (((s3.trans s4).trans s5).trans s6)).ex (by rw [← e]; exact hl8)
    have l5r : l5 ≠ r := fun e => (row2.same s3).ex (by rw [← e]; exact hl5)
    have e3' : SqT K H9 t0 [] := f9.tk.sqT (SqT.of ((((s4.trans s5).trans s6).trans s8) _ _ e3))
    have e4' := f9.at (((s5.trans s6).trans s8) _ _ e4) (by simp [l5r])
    have e6' := f9.tk.sqT (s8.sqT e6)
    obtain ⟨v, d, hv, dv, bd⟩ : ∃ v d, ([.ref t0, .ref l5, .ref t7, .non] : List V)[j]? = some v ∧ (∀ H', Same H9 H' → Dp K H' v d) ∧ ∀ d2 d3, loadsOk d d2 d3 = false := by
      have : j < 4 := by omega
      match j, this with
      | 0, _ => exact ⟨_, _, rfl, fun H' s' => .tup (s'.sqT e3') .nil, fun d2 d3 => sp_long (.inl rfl)⟩
      | 1, _ => exact ⟨_, .list (ls.map PyData.int), rfl, fun H' s' => .lst (SqL.of (s' _ _ e4')) (dpa_ints' _), fun d2 d3 => rfl⟩
      | 2, _ => exact ⟨_, .tuple [.int 0, .int 0, .int 0, .int 0, .int 0, .int 0, .int 0, .int 0], rfl, fun H' s' => .tup (s'.sqT e6') (dpa_ints' [0, 0, 0, 0, 0, 0, 0, 0]), fun d2 d3 => sp_long (.inr (by decide))⟩
      | 3, _ => exact ⟨_, .none, rfl, fun H' s' => .non, fun d2 d3 => rfl⟩
    refine s_ixL (SqL.of (f9.at e8 (by simp [l8r]))) (at_of (j := j) rfl hv) ?_
    walk_at "rz"
    rename_i t hpt H10 s10 e10
    have f210 := (s28.fr.trans f9).trans s10.fr
    exact q t _ _ _ _ _ _ H10 (f02.trans f210) (row9.same s10) e10 (dv _ s10) (.tup (f210.tk.sqT hU2) (dpa_ints' _)) (.int _) (bd _ _)
  walk_at "rz"
  refine ite_b (fun w2 => ?_) (fun w2 => ?_)
  · clear w0 w1 w2
    walk_at "rz"
    refine s_slA hU2 fun p1 H3 s3 e3 => ?_
    rw [cut_take] at e3
    walk_at "rz"
    rename_i l4 hl4 H4 s4 e4
    refine s_take (row2.same (s3.trans s4)) (by decide) (by decide) fun m5 H5 m50 m55 f5 row5 => ?_
    obtain ⟨j, rfl⟩ : ∃ j : Nat, m5 = (j : Int) := ⟨m5.toNat, by omega⟩
    have l4r : l4 ≠ r := fun e => (row2.same s3).ex (by rw [← e]; exact hl4)
    obtain ⟨v, d, hv, dv, bd⟩ : ∃ v d, ([.int (-1), .int (c : Nat), .str "0", .bl true] : List V)[j]? = some v ∧ (∀ H, Dp K H v d) ∧ (isIntD 0 3 d = false ∨ d = .int (c : Nat)) := by
      have : j < 4 := by omega
      match j, this with
      | 0, _ => exact ⟨_, _, rfl, fun H => .int _, .inl rfl⟩
      | 1, _ => exact ⟨_, _, rfl, fun H => .int _, .inr rfl⟩
      | 2, _ => exact ⟨_, _, rfl, fun H => .str _, .inl rfl⟩
      | 3, _ => exact ⟨_, _, rfl, fun H => .bl _, .inl rfl⟩
    refine s_ixL (SqL.of (f5.at e4 (by simp [l4r]))) (at_of (j := j) rfl hv) ?_
    walk_at "rz"
    rename_i p2 hp2 H6 s6 e6
    have e36 := s6.sqT (f5.tk.sqT (s4.sqT e3))
    refine s_cat72 e36 (SqT.of e6) (by rw [sizeLine_eq]; simp; omega) fun p3 H7 s7 e7 => ?_
    have f27 : Fr [r] H2 H7 := (((s3.trans s4).fr.trans f5).trans s6.fr).trans s7.fr
    walk_at "rz"
    refine s_slA (f27.tk.sqT hU2) fun p4 H8 s8 e8 => ?_
    rw [show ((k : Int) + 1) = ((k + 1 : Nat) : Int) from rfl, cut_drop] at e8
    walk_at "rz"
    refine s_cat72 (s8.sqT e7) e8 (by rw [sizeLine_eq]; simp; omega) fun p5 H9 s9 e9 => ?_
    walk_at "rz"
    rename_i t hpt H10 s10 e10
    have f210 := (f27.trans (s8.trans s9).fr).trans s10.fr
    have dd : Dp K H10 (.ref p5) (.tuple (((ps.take k).map PyData.int ++ [d]) ++ (ps.drop (k + 1)).map PyData.int)) := .tup (s10.sqT e9) (dpa_app (dpa_app (by rw [← List.map_take]; exact dpa_ints' _) (.cons (dv _) .nil)) (by rw [← List.map_drop]; exact dpa_ints' _))
    refine q t _ _ _ _ _ _ H10 (f02.trans f210) (((row5.same (s6.trans s7)).same (s8.trans s9)).same s10) e10 (.tup (f210.tk.sqT hT2) (dpa_ints' _)) dd (.int _) ?_
    rcases bd with bd | bd
    · exact sp_place (b := d) (by simp) bd
    · exact sp_self (c := (c : Nat)) (by rw [bd]; simp)
  walk_at "rz"
  refine ite_b (fun w3 => ?_) (fun w3 => ?_)
  · clear w0 w1 w2 w3
    walk_at "rz"
    rename_i t0 ht0 H3 s3 e3
    refine s_cat72 (s3.sqT hU2) (SqT.of e3) (by rw [sizeLine_eq]; simp; omega) fun t4 H4 s4 e4 => ?_
    have s24 := s3.trans s4
    walk_at "rz"
    refine s_slA (s24.sqT hU2) fun t5 H5 s5 e5 => ?_
    have s25 := s24.trans s5
    walk_at "rz"
    refine ⟨b, _, rfl, .inr (s25.sqT hU2), fun l6 hl6 => ?_⟩
    generalize eH : upd H5 l6 _ = H6
    have s6 := newS hl6 eH
    have e6 := newE eH
    clear eH
    walk_at "rz"
    rename_i l8 hl8 H8 s8 e8
    have s28 := (s25.trans s6).trans s8
    refine s_take (row2.same s28) (by decide) (by decide) fun m9 H9 m90 m99 f9 row9 => ?_
    obtain ⟨j, rfl⟩ : ∃ j : Nat, m9 = (j : Int) := ⟨m9.toNat, by omega⟩
    have l8r : l8 ≠ r := fun e => (row2.same (s25.trans s6)).ex (by rw [← e]; exact hl8)
    have l6r : l6 ≠ r := fun e => (row2.same s25).ex (by rw [← e]; exact hl6)
    have e4' := f9.tk.sqT (((s5.trans s6).trans s8).sqT e4)
    have e5' := f9.tk.sqT ((s6.trans s8).sqT e5)
    have e6' := f9.at (s8 _ _ e6) (by simp [l6r])
    obtain ⟨cl, ys, ecut⟩ := cut_ini72 (ps.map V.int)
    have dpi : ∀ H', ∀ zs : List V, (∀ x ∈ zs, ∃ i : Int, x = .int i) → DpAll K H' zs (zs.map fun x => match x with | .int i => PyData.int i | _ => .none) := fun H' zs all => by
      induction zs with
      | nil => exact .nil
      | cons z zs ih =>
        obtain ⟨i, rfl⟩ := all z List.mem_cons_self
        exact .cons (.int i) (ih fun x hx => all x (List.mem_cons_of_mem _ hx))
    have allc : ∀ x ∈ cutV (ps.map V.int) none (some (-1)), ∃ i : Int, x = .int i := fun x hx => by
      have : x ∈ ps.map V.int := by
        rw [ecut]
        exact List.mem_append_left _ hx
      obtain ⟨i, _, rfl⟩ := List.mem_map.mp this
      exact ⟨i, rfl⟩
    obtain ⟨v, d, hv, dv, bd⟩ : ∃ v d, ([.ref t4, .ref t5, .ref l6] : List V)[j]? = some v ∧ (∀ H', Same H9 H' → Dp K H' v d) ∧ loadsOk (.tuple (ls.map PyData.int)) d (.int (c : Nat)) = false := by
      have : j < 3 := by omega
      match j, this with
      | 0, _ => exact ⟨_, .tuple (ps.map PyData.int ++ [.int 0]), rfl, fun H' s' => .tup (s'.sqT e4') (dpa_app (dpa_ints' _) (.cons (.int 0) .nil)), sp_len (by simp; omega)⟩
      | 1, _ => exact ⟨_, _, rfl, fun H' s' => .tup (s'.sqT e5') (dpi H' _ allc), sp_len (by rw [List.length_map, cl, List.length_map, List.length_map]; omega)⟩
      | 2, _ => exact ⟨_, .list (ps.map PyData.int), rfl, fun H' s' => .lst (SqL.of (s' _ _ e6')) (dpa_ints' _), rfl⟩
    refine s_ixL (SqL.of (f9.at e8 (by simp [l8r]))) (at_of (j := j) rfl hv) ?_
    walk_at "rz"
    rename_i t hpt H10 s10 e10
    have f210 := (s28.fr.trans f9).trans s10.fr
    exact q t _ _ _ _ _ _ H10 (f02.trans f210) (row9.same s10) e10 (.tup (f210.tk.sqT hT2) (dpa_ints' _)) (dv _ s10) (.int _) bd
  clear w0 w1 w2 w3
  walk_at "rz"
  rename_i l4 hl4 H4 s4 e4
  refine s_take (row2.same s4) (by decide) (by decide) fun m5 H5 m50 m55 f5 row5 => ?_
  obtain ⟨j, rfl⟩ : ∃ j : Nat, m5 = (j : Int) := ⟨m5.toNat, by omega⟩
  have l4r : l4 ≠ r := fun e => row2.ex (by rw [← e]; exact hl4)
  obtain ⟨v, d, hv, dv, bd⟩ : ∃ v d, ([.int 0, .int 5, .non, .int (-1), .str "1"] : List V)[j]? = some v ∧ (∀ H, Dp K H v d) ∧ isIntD 1 4 d = false := by
    have : j < 5 := by omega
    match j, this with
    | 0, _ => exact ⟨_, _, rfl, fun H => .int _, rfl⟩
    | 1, _ => exact ⟨_, _, rfl, fun H => .int _, rfl⟩
    | 2, _ => exact ⟨_, _, rfl, fun H => .non, rfl⟩
    | 3, _ => exact ⟨_, _, rfl, fun H => .int _, rfl⟩
    | 4, _ => exact ⟨_, _, rfl, fun H => .str _, rfl⟩
  walk_at "rz"
  refine s_ixL (SqL.of (f5.at e4 (by simp [l4r]))) (at_of (j := j) rfl hv) ?_
  walk_at "rz"
  rename_i t hpt H10 s10 e10
  have f210 := ((s4.fr (A := [r])).trans f5).trans s10.fr
  exact q t _ _ _ _ _ _ H10 (f02.trans f210) (row5.same s10) e10 (.tup (f210.tk.sqT hT2) (dpa_ints' _)) (.tup (f210.tk.sqT hU2) (dpa_ints' _)) (dv _) (sp_count bd)
end
set_option maxHeartbeats 4000000
open PySem PySem.Spec PyProof.Rows L2 Z
open He (ga ma)
open LamX (TabS CodeO)
def RaiE (K : Fg) (cls : Value) (d : Option Addr) (H : Hp) (Q : VK) : Prop :=
  (cls = .ref (ga K "InvalidMove") ∧ ∃ (dd : Addr) (v0 : V), d = some dd ∧ H dd = some (.xd [("index", v0)]) ∧ ∀ t H', Same H H' → H' t = some (.tup [.str "move", v0]) → Q (.ref t) H') ∨
  (cls = .ref (ga K "InvalidNumber") ∧ d = none ∧ ∀ t H', Same H H' → H' t = some (.tup [.str "number"]) → Q (.ref t) H')
def TTrai (K : Fg) (tl : XK → Hp → VK → Prop) (H : Hp) (Q : VK) : Prop := tl (fun cls d H' => RaiE K cls d H' Q) H fun _ H' => Q .non H'
theorem gives_w_raised {X : Cx} (T : Txt X.K X.mg) {q : Str} (cdv : Value) : GivesR X n_w_raised "_law_raised" (defScope s_w_raised) (ga X.K "_law_raised") cdv (defBody s_w_raised) "_law_work" q (TTrai X.K) := by
  intro f c' s H Q tl hr act hc h
  obtain ⟨prog, w, K, mg, base, A, N, s_0, H_0, env, outer, stack, ex, fn, calm, pn, xe⟩ := X
  dsimp only at *
  refine ⟨_, PSs.nox (pss_cons (ps_try_as (i := 1) rfl rfl sc_w_raised.nd rfl rfl ⟨rfl, by decide, .inl T.g_BellError⟩ LamX.takes0 (fun W pn xe tk _ => pss_one (z_actR fun E hW => act W pn xe E _ _ tk hW)) (fun a oe cls d pn hz hf => (pss_cons (zset 2 sc_w_raised.nd (pe_lst (pa_cons (pe_callB (cr_isX hz hf) (by rfl) T.u_isinstance (by decide +kernel) (pa_cons (pv 1) (pa_cons (z_ref T.g_InvalidMove) pa_nil))) (pa_cons (pe_callB (cr_isX hz hf) (by rfl) T.u_isinstance (by decide +kernel) (pa_cons (pv 1) (pa_cons (z_ref T.g_InvalidNumber) pa_nil))) pa_nil))))
      (pss_cons (ps_if (PW.pt (pw_or (pt_cmpR op_ne (kBM K (pe_bm PySem.F.plainAttrs_list PySem.F.slot_list_count PySem.F.type_list_count (mt_countDK K hr.units5) (pv 2) (pa_cons pe_bl pa_nil))) pe_int (nomark _)) (pw_or1 (pt_not (pt_val (pe_callB (cr_isX hz hf) (by rfl) T.u_isinstance (by decide +kernel) (pa_cons (pv 1) (pa_cons (z_ty (n := "ValueError") T.u_ValueError) pa_nil)))))))) (pss_one (ps_ret (pe_tup (pa_cons pe_str pa_nil)))) pss_nil)
      (pss_cons (ps_if (pt_val (pe_ix (ix_listK K) (pv 2) pe_int (fun _ _ => rfl))) (pss_one (ps_ret (pe_tup (pa_cons pe_str (pa_cons (pe_xf T.xc_InvalidMove.xf T.xn_InvalidMove_index hz hf (pv 1)) pa_nil))))) pss_nil)
      (pss_one (ps_ret (pe_tup (pa_cons (pe_ix (ix_listK K) (pe_lst (pa_cons pe_str (pa_cons pe_str pa_nil))) (kBM K (pe_bm PySem.F.plainAttrs_list PySem.F.slot_list_index PySem.F.type_list_index (mt_indexK K) (pv 2) (pa_cons pe_bl pa_nil))) (fun _ _ => rfl)) pa_nil)))))))))
      (pss_one (ps_ret pe_non))), ?_⟩
  show (_ : TS) _ [some (.ref f), none, none] H
  try dsimp only [cxOf]
  walk_at "rz"
  refine ⟨fun cls d H' => RaiE K cls d H' Q, fun cls d σ' H' hlen h => ?_, rfl, hc, h⟩
  obtain ⟨x0, x1, x2, rfl⟩ : ∃ x0 x1 x2, σ' = [x0, x1, x2] := by
    match σ', hlen with
    | [x0, x1, x2], _ => exact ⟨x0, x1, x2, rfl⟩
  rcases h with ⟨rfl, dd, v0, rfl, hx, k⟩ | ⟨rfl, rfl, k⟩
  · refine ⟨true, T.xm_InvalidMove, fun _ a ha => ?_, fun e => nomatch e⟩
    walk_at "rz"
    refine ⟨ga K "InvalidMove", _, _, _, rfl, rfl, T.xc_InvalidMove, fun u r => r, T.xk_InvalidMove_InvalidMove, (by intro dd2 e2; cases e2; exact ⟨_, hx⟩), ?_⟩
    walk_at "rz"
    refine ⟨ga K "InvalidMove", _, _, _, rfl, rfl, T.xc_InvalidMove, fun u r => r, T.xk_InvalidMove_InvalidNumber, (by intro dd2 e2; cases e2; exact ⟨_, hx⟩), ?_⟩
    walk_at "rz"
    rename_i l0 hl0 H0 s0 e0
    have hx0 := s0 _ _ hx
    have dl : Dp K H0 (.ref l0) (.list [.bool true, .bool false]) := .lst (SqL.of e0) (.cons (.bl _) (.cons (.bl _) (.nil)))
    refine s_tyL e0 ?_
    walk_at "rz"
    refine ⟨l0, .bl true, .bool true, _, rfl, rfl, dl, .bl _, rfl, rfl, ?_⟩
    walk_at "rz"
    refine ⟨ga K "InvalidMove", _, _, _, rfl, rfl, T.xc_InvalidMove, fun u r => r, T.xv_InvalidMove, (by intro dd2 e2; cases e2; exact ⟨_, hx0⟩), ?_⟩
    walk_at "rz"
    try refine s_ixL (SqL.of e0) (v := .bl true) (at_of (j := 0) (by omega) rfl) ?_
    walk_at "rz"
    refine ⟨.ref a, rfl, rfl, rfl, dd, _, v0, rfl, hx0, rfl, ?_⟩
    walk_at "rz"
    rename_i t ht Ht st et
    exact k t Ht (s0.trans st) et
  · refine ⟨true, T.xm_InvalidNumber, fun _ a ha => ?_, fun e => nomatch e⟩
    walk_at "rz"
    refine ⟨ga K "InvalidNumber", _, _, _, rfl, rfl, T.xc_InvalidNumber, fun u r => r, T.xk_InvalidNumber_InvalidMove, (by intro dd2 e2; cases e2), ?_⟩
    walk_at "rz"
    refine ⟨ga K "InvalidNumber", _, _, _, rfl, rfl, T.xc_InvalidNumber, fun u r => r, T.xk_InvalidNumber_InvalidNumber, (by intro dd2 e2; cases e2), ?_⟩
    walk_at "rz"
    rename_i l0 hl0 H0 s0 e0
    have dl : Dp K H0 (.ref l0) (.list [.bool false, .bool true]) := .lst (SqL.of e0) (.cons (.bl _) (.cons (.bl _) (.nil)))
    refine s_tyL e0 ?_
    walk_at "rz"
    refine ⟨l0, .bl true, .bool true, _, rfl, rfl, dl, .bl _, rfl, rfl, ?_⟩
    walk_at "rz"
    refine ⟨ga K "InvalidNumber", _, _, _, rfl, rfl, T.xc_InvalidNumber, fun u r => r, T.xv_InvalidNumber, (by intro dd2 e2; cases e2), ?_⟩
    walk_at "rz"
    try refine s_ixL (SqL.of e0) (v := .bl false) (at_of (j := 0) (by omega) rfl) ?_
    walk_at "rz"
    rename_i pw hpw Hw sw ew
    have ek := sw _ _ e0
    refine s_tyL ek ?_
    walk_at "rz"
    refine ⟨l0, _, .bl true, 1, .bl true, rfl, rfl, SqL.of ek, rfl, rfl, rfl, rfl, fun m z hm e => ?_, ?_⟩
    · match m, hm with
      | 0, _ => cases e; rfl
    walk_at "rz"
    refine s_ixL (SqL.of ew) (v := .str "number") (at_of (j := 1) (by omega) rfl) ?_
    walk_at "rz"
    rename_i t ht Ht st et
    exact k t Ht ((s0.trans sw).trans st) et
set_option maxHeartbeats 8000000
open PySem PySem.Spec PyProof.Rows L2 Z
open He (ga ma)
open LamX (TabS)
def lm_law_0 : Lm := lmAt (exIn (stEx (stIn ((defBody s_law).getD 1 (.Pass ⟨0, 0, 0, 0⟩)) 2)) 0) none
def lm_law_1 : Lm := lmAt (exIn (stEx (stIn ((defBody s_law).getD 1 (.Pass ⟨0, 0, 0, 0⟩)) 2)) 1) (some (16, "_law_x", .int 0))
def lm_law_2 : Lm := lmAt (exIn (exIn (stEx (stIn ((defBody s_law).getD 1 (.Pass ⟨0, 0, 0, 0⟩)) 3)) 1) 0) none
def lm_law_3 : Lm := lmAt (exIn (stEx (stIn ((defBody s_law).getD 1 (.Pass ⟨0, 0, 0, 0⟩)) 5)) 0) none
def lm_law_4 : Lm := lmAt (exIn (exIn (stEx (stIn ((defBody s_law).getD 1 (.Pass ⟨0, 0, 0, 0⟩)) 6)) 1) 0) none
abbrev tL (K : Fg) : Addr := tabA K (ga K "law")
abbrev qL : Str := (("law" : Str) ++ ".<locals>.") ++ "<lambda>"
def spLaw (K : Fg) : Sp := fun vs H Q _ => ∃ (a : Addr) (ns : List Int), vs = [.ref a] ∧ SqL K H a (ns.map V.int) ∧ H (tL K) = some (.tbl #[]) ∧ ∀ H', Q (.bl true) H'
theorem tab_noE {H : Hp} {t : Addr} {q : Str} (h : TabS H t q) : ∀ a ∈ [t], NoE H a := fun a ha φ k => by
  obtain ⟨ps, e, _⟩ := h
  rw [List.mem_singleton.mp ha, e] at k
  cases k
theorem row_noE {K : Fg} {H : Hp} {r sc : Addr} {ns : List Int} (h : RowAt K H r sc ns) : ∀ a ∈ [r], NoE H a := fun a ha φ k => by
  obtain ⟨_, _, _, e, _⟩ := h.row
  rw [List.mem_singleton.mp ha, e] at k
  cases k
theorem dpA_take {K : Fg} {H : Hp} : ∀ {xs : List V} {ds : List PyData}, DpAll K H xs ds → ∀ k, DpAll K H (xs.take k) (ds.take k)
  | _, _, .nil, _ => by rw [List.take_nil, List.take_nil]; exact .nil
  | _, _, .cons a r, 0 => .nil
  | _, _, .cons a r, k + 1 => .cons a (dpA_take r k)
theorem dpA_drop {K : Fg} {H : Hp} : ∀ {xs : List V} {ds : List PyData}, DpAll K H xs ds → ∀ k, DpAll K H (xs.drop k) (ds.drop k)
  | _, _, .nil, _ => by rw [List.drop_nil, List.drop_nil]; exact .nil
  | _, _, .cons a r, 0 => .cons a r
  | _, _, .cons a r, k + 1 => dpA_drop r k
theorem tab_ne {H : Hp} {t a : Addr} {q : Str} (h : TabS H t q) (n : H a = none) : a ≠ t := fun e => by
  obtain ⟨ps, k, _⟩ := h
  rw [← e, n] at k
  cases k
section
variable {K : Fg} {σ : L2.St} {H1 : Hp} {Q : VK} {g : TG} {tt : TT} {te : TE} {vs : List Nat} {r sc : Addr} {ns : List Int}
theorem lcR_pick {n : Nat} (row1 : RowAt K H1 r sc ns) (hl : n ≤ 40000) (R : Nat → Prop) (f : Nat → PyData) (hf : ∀ x, tupd (f x) = true)
    (hs : ∀ (i : Nat) (Ha : Hp) (Yes : VK) (No : Hp → Prop), i < n → Fr [r] H1 Ha → RowAt K Ha r sc ns → (∀ y H4, Fr [r] Ha H4 → RowAt K H4 r sc ns → R i → Dp K H4 y (f i) → Yes y H4) → (∀ H3, Fr [r] Ha H3 → RowAt K H3 r sc ns → No H3) →
      g (.int i) (wipe σ vs) Ha fun σ2 H2 => wipe σ2 vs = wipe σ vs ∧ tt σ2 H2 fun b H3 => if b = true then te σ2 H3 Yes else No H3)
    (hd : ∀ D H' ys (l : List Nat), H1 D = none → Fr [r] H1 H' → RowAt K H' r sc ns → H' D = some (.lst ys) → l.Pairwise (· < ·) → (∀ k ∈ l, k < n ∧ R k) → DpAll K H' ys (l.map f) → Q (.ref D) H') : LcQ (Itr 0 n) g tt te vs σ Q H1 := by
  refine fun D hD => ?_
  have hDr : D ∉ [r] := fun z => row1.ex (by rw [← List.mem_singleton.mp z]; exact hD)
  have kp : ∀ {Ha Hb : Hp}, Fr [D] Ha Hb → RowAt K Ha r sc ns → RowAt K Hb r sc ns := fun fr h => row1.kept h fr (by simpa using hD)
  refine lc_it (walk_range (lo := 0) (n := n)) (fun i H => Fr [r] H1 H ∧ RowAt K H r sc ns ∧ ∃ (l : List Nat) (ys : List V), l.length ≤ i ∧ l.Pairwise (· < ·) ∧ (∀ k ∈ l, k < i ∧ R k) ∧ H D = some (.lst ys) ∧ DpAll K H ys (l.map f)) ⟨Fr.new hD, kp (Fr.new hD) row1, [], [], Nat.le_refl _, .nil, (fun _ h => nomatch h), upd_same, .nil⟩ (fun _ _ _ _ => True.intro) (fun i x H H' hi p y => ?_) (fun H p => ?_)
  · obtain ⟨f1, i1, l, ys, hl1, hp, hr, e1, a1⟩ := p
    obtain ⟨rfl, rfl⟩ := y
    dsimp only
    rw [Int.zero_add]
    refine hs i _ _ _ hi f1 i1 (fun y4 H4 f4 i4 r4 d4 => ⟨ys, f4.at e1 hDr, by rw [a1.len, List.length_map, sizeLine_eq]; omega, (f1.trans f4).seq (Fr.upd (A := [D]) (by simp) (f4.at e1 hDr) rfl) (by simp [hD]), kp (Fr.upd (by simp) (f4.at e1 hDr) rfl) i4, l ++ [i], ys ++ [y4], by rw [List.length_append]; simp; omega, ?_, fun k hk => ?_, upd_same, ?_⟩) (fun H3 f3 i3 => ⟨f1.trans f3, i3, l, ys, by omega, hp, fun k hk => ⟨by have := (hr k hk).1; omega, (hr k hk).2⟩, f3.at e1 hDr, a1.tk f3.tk (tupds_map hf _)⟩)
    · rw [List.pairwise_append]
      refine ⟨hp, List.pairwise_singleton _ _, fun a ha b hb => ?_⟩
      rw [List.mem_singleton.mp hb]
      exact (hr a ha).1
    · rcases List.mem_append.mp hk with hk | hk
      · exact ⟨by have := (hr k hk).1; omega, (hr k hk).2⟩
      · rw [List.mem_singleton.mp hk]
        exact ⟨by omega, r4⟩
    · have t5 := tk_upd (o := .lst (ys ++ [y4])) (f4.at e1 hDr)
      rw [List.map_append]
      exact ((a1.tk f4.tk (tupds_map hf _)).tk t5 (tupds_map hf _)).app (.cons (d4.tk t5 (hf i)) .nil)
  · obtain ⟨f1, i1, l, ys, hl1, hp, hr, e1, a1⟩ := p
    exact hd D H ys l hD f1 i1 e1 hp hr a1
end
section
variable {P : Program} {w : World} {K : Fg} {mg : Str → Option Value} {base : Heap}
theorem ok_law (T : Txt K mg) (TBL : LamX.TabB base mg (codA K (ga K "law")) (tL K)) : FnOk P w K mg base (L2.CX P w) 32 (ga K "law") (fdOf K (ga K "law")) ["_law_script"] (spLaw K) := by
  refine okC T.F_law sc_law (fun vs H Q E h => ?_) (fun A outer s H vs Q E hr h => ⟨_, PSs.nox (pss_cons (zset 1 sc_law.nd (pe_lst (pa_cons (pv 0) (pa_cons pe_int (pa_cons pe_int (pa_cons pe_int pa_nil))))))
      (pss_cons (ps_for PassesOwn.never rfl (pi_range1 rfl T.u_range (pa_cons pe_int pa_nil)) (zg 2 sc_law.nd)
      (pss_cons (ps_asg (z_call (ok_w_loads T) T.c_w_loads (hr.mono (by decide)) rfl T.g_w_loads passL (pa_cons (pv 1) (pa_cons pe_int pa_nil))) (kGT K (pg_tup (n := 3) rfl (pgs_cons (zg 3 sc_law.nd) (pgs_cons (zg 4 sc_law.nd) (pgs_cons (zg 5 sc_law.nd) pgs_nil))))))
      (pss_cons (ps_asg (z_call (ok_w_spoilt T) T.c_w_spoilt (hr.mono (by decide)) rfl T.g_w_spoilt passL (pa_cons (pv 1) (pa_cons (pv 3) (pa_cons (pv 4) (pa_cons (pv 5) pa_nil))))) (kGT K (pg_tup (n := 3) rfl (pgs_cons (zg 6 sc_law.nd) (pgs_cons (zg 7 sc_law.nd) (pgs_cons (zg 8 sc_law.nd) pgs_nil))))))
      (pss_cons (zset 9 sc_law.nd (pe_lst (pa_cons (z_lam0 lm_law_0 rfl TBL rfl rfl (lmS_by (sc := defScope s_law) (by decide +kernel)) rfl) (pa_cons (z_lam1 (i := 16) (y := "_law_x") (v := .int 0) lm_law_1 rfl TBL rfl rfl (lmS_by (sc := defScope s_law) (by decide +kernel)) rfl rfl pe_int) pa_nil))))
      (pss_cons (zset 9 sc_law.nd (pe_op op_cat (pv 9) (pe_lst (pa_cons (z_lam0 lm_law_2 rfl TBL rfl rfl (lmS_by (sc := defScope s_law) (by decide +kernel)) rfl) pa_nil))))
      (pss_cons (ps_if (pt_cmpR (op_neDK K hr.units) (pe_lcKept (own := [("_law_work", 17)]) rfl sc_law.nd (kIL K (pi_list (pv 9))) (blkOk_by (own := [("_law_work", 17)]) (N := n_law) (sc := defScope s_law) (by decide +kernel)) (fun _ _ _ _ _ => (zg 17 sc_law.nd)) (fun _ _ _ _ _ _ _ hI hF => pts_nil) (fun _ _ _ _ _ _ _ hI hF => (z_callLB (k := 20) hI hF (lms_cons (lmOk lm_law_0 rfl (lmS_by (sc := defScope s_law) (by decide +kernel)) (own0 rfl) (bindL0 rfl (fun _ _ _ _ _ _ => rfl)) (fun _ _ _ _ E _ _ hl => (z_call (ok_fewest_moves_x T) T.c_fewest_moves (hl.mono (by decide)) rfl T.g_fewest_moves (passes_call (takes_of rfl rfl rfl rfl) (fun _ _ _ _ h => h)) (pa_cons (pv 6) (pa_cons (pv 7) (pa_cons (pv 8) (pa_cons pe_int pa_nil))))))) (lms_cons (lmOk lm_law_1 rfl (lmS_by (sc := defScope s_law) (by decide +kernel)) (own1 rfl rfl) (bindL1 rfl (fun _ _ _ _ _ _ _ => ⟨_, rfl, fun _ => rfl⟩)) (fun _ _ _ _ E _ _ hl => (z_call (ok_least_spread_x T) T.c_least_spread (hl.mono (by decide)) rfl T.g_least_spread (passes_call (takes_of rfl rfl rfl rfl) (fun _ _ _ _ h => h)) (pa_cons (pv 6) (pa_cons (pv 7) (pa_cons (pv 8) (pa_cons pe_int pa_nil))))))) (lms_cons (lmOk lm_law_2 rfl (lmS_by (sc := defScope s_law) (by decide +kernel)) (own0 rfl) (bindL0 rfl (fun _ _ _ _ _ _ => rfl)) (fun _ _ _ _ E _ _ hl => (z_call (ok_judge_moves_x T) T.c_judge_moves (hl.mono (by decide)) rfl T.g_judge_moves (passes_call (takes_of rfl rfl rfl rfl) (fun _ _ _ _ h => h)) (pa_cons (pv 6) (pa_cons (pv 7) (pa_cons (pv 8) (pa_cons (pe_lst pa_nil) pa_nil))))))) lms_nil))) sc_law.nd T.F_w_raised T.c_w_raised rfl T.g_w_raised sc_w_raised rfl (.inl (by decide +kernel)) (fun cdv => gives_w_raised T cdv) (hr.mono (by decide)) (pv 17)))) (pe_op op_rep (pe_lst (pa_cons (pe_tup (pa_cons pe_str pa_nil)) pa_nil)) pe_int) (nomark _)) (pss_one (ps_ret pe_bl)) pss_nil)
      (pss_cons (zset 9 sc_law.nd (pe_lst (pa_cons (z_lam0 lm_law_3 rfl TBL rfl rfl (lmS_by (sc := defScope s_law) (by decide +kernel)) rfl) pa_nil)))
      (pss_cons (zset 9 sc_law.nd (pe_op op_cat (pv 9) (pe_lst (pa_cons (z_lam0 lm_law_4 rfl TBL rfl rfl (lmS_by (sc := defScope s_law) (by decide +kernel)) rfl) pa_nil))))
      (pss_cons (ps_if (pt_cmpR (op_neDK K hr.units) (pe_lcKept (own := [("_law_work", 17)]) rfl sc_law.nd (kIL K (pi_list (pv 9))) (blkOk_by (own := [("_law_work", 17)]) (N := n_law) (sc := defScope s_law) (by decide +kernel)) (fun _ _ _ _ _ => (zg 17 sc_law.nd)) (fun _ _ _ _ _ _ _ hI hF => pts_nil) (fun _ _ _ _ _ _ _ hI hF => (z_callLB (k := 20) hI hF (lms_cons (lmOk lm_law_3 rfl (lmS_by (sc := defScope s_law) (by decide +kernel)) (own0 rfl) (bindL0 rfl (fun _ _ _ _ _ _ => rfl)) (fun _ _ _ _ E _ _ hl => (z_call (ok_fewest_moves_x T) T.c_fewest_moves (hl.mono (by decide)) rfl T.g_fewest_moves (passes_call (takes_of rfl rfl rfl rfl) (fun _ _ _ _ h => h)) (pa_cons (pv 3) (pa_cons (pv 4) (pa_cons (pv 5) (pa_cons (pe_ix (ix_listK K) (pe_lst (pa_cons (pe_un un_neg pe_int) (pa_cons pe_int (pa_cons pe_non pa_nil)))) (z_call (ok_w_taken T) T.c_w_taken (hl.mono (by decide)) rfl T.g_w_taken passL (pa_cons (pv 1) (pa_cons pe_int pa_nil))) (fun _ _ => rfl)) pa_nil))))))) (lms_cons (lmOk lm_law_4 rfl (lmS_by (sc := defScope s_law) (by decide +kernel)) (own0 rfl) (bindL0 rfl (fun _ _ _ _ _ _ => rfl)) (fun _ _ _ _ E _ _ hl => (z_call (ok_least_spread_x T) T.c_least_spread (hl.mono (by decide)) rfl T.g_least_spread (passes_call (takes_of rfl rfl rfl rfl) (fun _ _ _ _ h => h)) (pa_cons (pv 3) (pa_cons (pv 4) (pa_cons (pv 5) (pa_cons (pe_ix (ix_listK K) (pe_lst (pa_cons (pe_un un_neg pe_int) (pa_cons pe_int (pa_cons pe_bl pa_nil)))) (z_call (ok_w_taken T) T.c_w_taken (hl.mono (by decide)) rfl T.g_w_taken passL (pa_cons (pv 1) (pa_cons pe_int pa_nil))) (fun _ _ => rfl)) pa_nil))))))) lms_nil)) sc_law.nd T.F_w_raised T.c_w_raised rfl T.g_w_raised sc_w_raised rfl (.inl (by decide +kernel)) (fun cdv => gives_w_raised T cdv) (hr.mono (by decide)) (pv 17)))) (pe_op op_rep (pe_lst (pa_cons (pe_tup (pa_cons pe_str pa_nil)) pa_nil)) pe_int) (nomark _)) (pss_one (ps_ret pe_bl)) pss_nil)
      (pss_cons (ps_setLc (i := 10) (own := [("_law_k", 12)]) rfl sc_law.nd rfl rfl (sw_true rfl rfl rfl (by decide +kernel)) (pi_range1 rfl T.u_range (pa_cons (pe_callB (call_lenK K) (by rfl) T.u_len (by decide +kernel) (pa_cons (pv 3) pa_nil)) pa_nil)) (blkOk_by (own := [("_law_k", 12)]) (N := n_law) (sc := defScope s_law) (by decide +kernel)) (fun _ _ _ _ _ => (zg 12 sc_law.nd)) (fun _ _ _ _ _ => (pts_one (PW.pt (pw_and (pt_cmpR op_gt (pv 5) pe_int (nomark _)) (pw_and1 (pt_cmpR op_eq (z_call (ok_w_taken T) T.c_w_taken (hr.mono (by decide)) rfl T.g_w_taken passL (pa_cons (pv 1) (pa_cons pe_int pa_nil))) pe_int (nomark _))))))) (fun _ _ _ _ _ => (pe_tup (pa_cons (pv 12) (pa_cons (pe_op op_mod (pe_callTy call_int1 (by rfl) T.u_int (by decide +kernel) (pa_cons (pe_op op_add (pe_ix (ix_tupK K) (pv 4) (pv 12) (fun _ _ => rfl)) pe_int) pa_nil)) (pv 5)) pa_nil)))))
      (pss_cons (zset 11 sc_law.nd (pe_lst (pa_cons (pe_tup (pa_cons pe_int (pa_cons (pe_ix (ix_tupK K) (pv 4) pe_int (fun _ _ => rfl)) pa_nil))) (pa_cons (pe_tup (pa_cons (pe_callB (call_lenK K) (by rfl) T.u_len (by decide +kernel) (pa_cons (pv 3) pa_nil)) (pa_cons pe_int pa_nil))) (pa_cons (pe_tup (pa_cons (pe_un un_neg pe_int) (pa_cons pe_int pa_nil))) (pa_cons (pe_tup (pa_cons pe_int (pa_cons (pv 5) pa_nil))) (pa_cons (pe_tup (pa_cons pe_int (pa_cons (pe_un un_neg pe_int) pa_nil))) (pa_cons (pe_tup (pa_cons pe_int pa_nil)) (pa_cons (pe_lst (pa_cons pe_int (pa_cons pe_int pa_nil))) (pa_cons pe_non (pa_cons (pe_tup (pa_cons pe_bl (pa_cons pe_int pa_nil))) pa_nil)))))))))))
      (pss_cons (zset 12 sc_law.nd (z_call (ok_w_taken T) T.c_w_taken (hr.mono (by decide)) rfl T.g_w_taken passL (pa_cons (pv 1) (pa_cons (pe_op op_add (pe_callB (call_lenK K) (by rfl) T.u_len (by decide +kernel) (pa_cons (pv 10) pa_nil)) pe_int) pa_nil))))
      (pss_cons (zset 13 sc_law.nd (pe_op op_cat (pe_op op_cat (pe_slice (sl_listK K) (pv 10) po_none (po_some (pv 12))) (pe_lst (pa_cons (pe_ix (ix_listK K) (pv 11) (z_call (ok_w_taken T) T.c_w_taken (hr.mono (by decide)) rfl T.g_w_taken passL (pa_cons (pv 1) (pa_cons pe_int pa_nil))) (fun _ _ => rfl)) pa_nil))) (pe_slice (sl_listK K) (pv 10) (po_some (pv 12)) po_none)))
      (pss_cons (ps_if (pt_cmpR (op_neDK K hr.units) (z_lamR (k := 20) T.F_w_raised T.c_w_raised rfl T.g_w_raised sc_w_raised rfl (.inl (by decide +kernel)) (fun cdv => gives_w_raised T cdv) TBL rfl (hr.mono (by decide)) rfl (LamX.lamS_by (sc := defScope s_law) (by decide +kernel)) rfl (fun _ _ _ _ _ => rfl) (fun _ _ _ _ E _ _ hl => (z_call (ok_judge_moves_x T) T.c_judge_moves (hl.mono (by decide)) rfl T.g_judge_moves (passes_call (takes_of rfl rfl rfl rfl) (fun _ _ _ _ h => h)) (pa_cons (pv 3) (pa_cons (pv 4) (pa_cons (pv 5) (pa_cons (pv 13) pa_nil))))))) (pe_tup (pa_cons pe_str (pa_cons (pv 12) pa_nil))) (nomark _)) (pss_one (ps_ret pe_bl)) pss_nil)
      (pss_cons (zset 14 sc_law.nd (pe_op op_cat (pv 10) (pe_slice (sl_listK K) (pv 10) po_none (po_some pe_int))))
      (pss_cons (zset 15 sc_law.nd (z_lamR (k := 20) T.F_w_raised T.c_w_raised rfl T.g_w_raised sc_w_raised rfl (.inl (by decide +kernel)) (fun cdv => gives_w_raised T cdv) TBL rfl (hr.mono (by decide)) rfl (LamX.lamS_by (sc := defScope s_law) (by decide +kernel)) rfl (fun _ _ _ _ _ => rfl) (fun _ _ _ _ E _ _ hl => (z_call (ok_judge_moves_x T) T.c_judge_moves (hl.mono (by decide)) rfl T.g_judge_moves (passes_call (takes_of rfl rfl rfl rfl) (fun _ _ _ _ h => h)) (pa_cons (pv 3) (pa_cons (pv 4) (pa_cons (pv 5) (pa_cons (pv 14) pa_nil))))))))
      (pss_one (ps_if (PW.pt (pw_and (pt_cmpR (op_ne0K K hr.units) (pv 10) (pe_lst pa_nil) (nomark _)) (pw_and1 (pt_cmpR (op_neDK K hr.units) (pv 15) (pe_tup (pa_cons pe_str (pa_cons (pe_callB (call_lenK K) (by rfl) T.u_len (by decide +kernel) (pa_cons (pv 10) pa_nil)) pa_nil))) (nomark _))))) (pss_one (ps_ret pe_bl)) pss_nil))))))))))))))))))
      (pss_one (ps_ret pe_bl)))), ?_⟩)
  · obtain ⟨a, ns, rfl, _⟩ := h
    rfl
  obtain ⟨sc, ns, rfl, hsc, hl0, q⟩ := h
  show (_ : TS) _ (some (.ref sc) :: List.replicate 17 none) H
  try dsimp only [cxOf]
  dsimp only [List.replicate]
  walk_at "rz"
  rename_i r hr0 H1 s1 e1
  have row1 := row_new hsc hr0 s1 e1
  have tab1 : TabS H1 (tL K) qL := (TabS.nil hl0).ext fun b o e => s1 _ _ e
  have rl : r ≠ tL K := fun e => by
    have h := s1 _ _ hl0
    rw [← e, e1] at h
    cases h
  clear e1
  walk_at "rz"
  refine ⟨by omega, by omega, for_range (lo := 0) (n := 4) (fun i σ Ha => (∃ y2 y3 y4 y5 y6 y7 y8 y9 y10 y11 y12 y13 y14 y15 y16 y17, σ = [some (.ref sc), some (.ref r), y2, y3, y4, y5, y6, y7, y8, y9, y10, y11, y12, y13, y14, y15, y16, y17]) ∧ RowAt K Ha r sc ns ∧ TabS Ha (tL K) qL)
    ⟨⟨_, _, _, _, _, _, _, _, _, _, _, _, _, _, _, _, rfl⟩, row1, tab1⟩ (fun i σ Ha _ ⟨⟨y2, y3, y4, y5, y6, y7, y8, y9, y10, y11, y12, y13, y14, y15, y16, y17, es⟩, row, tab⟩ => ?_) (fun σ Ha ⟨⟨y2, y3, y4, y5, y6, y7, y8, y9, y10, y11, y12, y13, y14, y15, y16, y17, es⟩, row, tab⟩ => ?_)⟩
  · subst es
    walk_at "rz"
    refine ⟨r, sc, ns, rfl, row, fun t a b ls ps c H2 f2 row2 et hT hU L => ?_⟩
    have tab2 : TabS H2 (tL K) qL := tabs_kW tab f2 fun x hx => by rw [List.mem_singleton.mp hx]; exact row.noW
    refine s_gtup (SqT.of et) rfl ?_
    walk_at "rz"
    refine ⟨r, sc, ns, a, b, ls, ps, c, rfl, row2, hT, hU, L, fun t3 v1 v2 v3 d1 d2 d3 H3 f3 row3 et3 b1 b2 b3 bad => ?_⟩
    have tab3 : TabS H3 (tL K) qL := tabs_kW tab2 f3 fun x hx => by rw [List.mem_singleton.mp hx]; exact row2.noW
    have hT3 := f3.tk.sqT hT
    have hU3 := f3.tk.sqT hU
    clear f2 f3 row2 hT hU tab2 et tab row
    refine s_gtup (SqT.of et3) rfl ?_
    walk_at "rz"
    dsimp only [List.set]
    refine s_lamV ⟨tab3, fun g1 H4 f4 t4 _ k1 => ?_⟩
    have t4 : TabS H4 (tL K) qL := t4
    have row4 := row3.tabW tab3 f4
    have b1 := dp_tab tab3 f4 b1
    have b2 := dp_tab tab3 f4 b2
    have b3 := dp_tab tab3 f4 b3
    have hT4 := f4.tk.sqT hT3
    have hU4 := f4.tk.sqT hU3
    walk_at "rz"
    refine s_lamV ⟨t4, fun g2 H5 f5 t5 _ k2 => ?_⟩
    have t5 : TabS H5 (tL K) qL := t5
    have row5 := row4.tabW t4 f5
    have b1 := dp_tab t4 f5 b1
    have b2 := dp_tab t4 f5 b2
    have b3 := dp_tab t4 f5 b3
    have hT5 := f5.tk.sqT hT4
    have hU5 := f5.tk.sqT hU4
    have k1 := k1.fr f5 (tab_noE t4)
    walk_at "rz"
    rename_i lA hlA H6 s6 e6
    have t6 := t5.ext fun b o e => s6 _ _ e
    have row6 := row5.same s6
    refine s_lamV ⟨t6, fun g3 H7 f7 t7 _ k3 => ?_⟩
    have t7 : TabS H7 (tL K) qL := t7
    have lAt := tab_ne t5 hlA
    have e7 := f7.at e6 (by simp [lAt])
    have row7 := row6.tabW t6 f7
    have b1 := dp_tab t6 f7 (b1.same s6)
    have b2 := dp_tab t6 f7 (b2.same s6)
    have b3 := dp_tab t6 f7 (b3.same s6)
    have hT7 := f7.tk.sqT (s6.sqT hT5)
    have hU7 := f7.tk.sqT (s6.sqT hU5)
    have k1 := (k1.same s6).fr f7 (tab_noE t6)
    have k2 := (k2.same s6).fr f7 (tab_noE t6)
    clear f4 f5 f7 row3 row4 row5 row6 t4 t5 t6 hT3 hT4 hT5 hU3 hU4 hU5 e6 tab3
    walk_at "rz"
    rename_i lB hlB H8 s8 e8
    refine s_cat (s8 _ _ e7) e8 (by rw [sizeLine_eq]; simp) fun lC hlC => ?_
    generalize eH : upd H8 lC _ = H9
    have s9 := newS hlC eH
    have e9 := newE eH
    clear eH
    have s79 := s8.trans s9
    walk_at "rz"
    dsimp only [List.set]
    refine s_lcKept ?_
    walk_at "rz"
    refine lcLX_d (SqL.of e9) (fun _ => .tuple [.str "number"]) (by simp) (fun _ _ => rfl) (fun i vf Ha Yes No hi sa yes => ?_) (fun D Ha ys hD sa ea aa => ?_)
    · have s7a := s79.trans sa
      have k1 := k1.same s7a
      have k2 := k2.same s7a
      have k3 := k3.same s7a
      have b1 := b1.same s7a
      have b2 := b2.same s7a
      have b3 := b3.same s7a
      walk_at "rz"
      refine ⟨rfl, ?_⟩
      walk_at "rz"
      refine s_callL ?_
      walk_at "rz"
      have fin : ∀ H7, Same Ha H7 → RaiE K (.ref (ga K "InvalidNumber")) none H7 Yes := fun H7 s7 => .inr ⟨rfl, rfl, fun t8 H8 s8 e8 => yes _ _ (s7.trans s8) (.tup (SqT.of e8) (.cons (.str _) .nil))⟩
      unfold TTrai
      match i, hi with
      | 0, hi =>
        cases hi
        refine ⟨g1, _, rfl, List.mem_cons_self, k1, k1, ?_⟩
        walk_at "rz"
        exact ⟨_, _, _, _, _, _, _, _, rfl, b1, b2, b3, .int _, .inl bad, fun H' s' => fin H' s'⟩
      | 1, hi =>
        cases hi
        refine ⟨g2, _, rfl, List.mem_cons_of_mem _ List.mem_cons_self, k2, k2, ?_⟩
        walk_at "rz"
        exact ⟨_, _, _, _, _, _, _, _, rfl, b1, b2, b3, .int _, .inl bad, fun H' s' => fin H' s'⟩
      | 2, hi =>
        cases hi
        refine ⟨g3, _, rfl, List.mem_cons_of_mem _ (List.mem_cons_of_mem _ List.mem_cons_self), k3, k3, ?_⟩
        walk_at "rz"
        rename_i le hle Hb sb eb
        exact ⟨_, _, _, _, _, _, _, _, [], rfl, b1.same sb, b2.same sb, b3.same sb, SqL.of eb, .nil, by simp, fun _ H' s' => fin H' (sb.trans s'), (fun h => by rw [bad] at h; cases h), fun h => by rw [bad] at h; cases h⟩
      | n + 3, hi => simp at hi
    walk_at "rz"
    rename_i tp htp Hb sb eb lp hlp Hc sc' ec
    refine s_repT ec (by omega) (by omega) (by simp) fun lq hlq => ?_
    generalize eH : upd Hc lq _ = Hd
    have sd := newS hlq eH
    have ed := newE eH
    clear eH
    have dt : Dp K Hd (.ref tp) (.tuple [.str "number"]) := .tup (SqT.of (sd _ _ (sc' _ _ eb))) (.cons (.str _) .nil)
    have dR : Dp K Hd (.ref lq) (.list [.tuple [.str "number"], .tuple [.str "number"], .tuple [.str "number"]]) := .lst (SqL.of ed) (.cons dt (.cons dt (.cons dt .nil)))
    have sbd := (sb.trans sc').trans sd
    have dL : Dp K Hd (.ref D) (.list [.tuple [.str "number"], .tuple [.str "number"], .tuple [.str "number"]]) := .lst (SqL.of (sbd _ _ ea)) (aa.same sbd)
    have shL : SeqAt.shaped (.list [.tuple [.str "number"], .tuple [.str "number"], .tuple [.str "number"]]) = true := by decide +kernel
    have s7d := (s79.trans sa).trans sbd
    walk_at "rz"
    refine ⟨_, _, dL, dR, shL, shL, ?_⟩
    rw [shaped_eqv shL]
    have row10 := row7.same s7d
    have t10 := t7.ext fun b o e => s7d _ _ e
    have hT10 := s7d.sqT hT7
    have hU10 := s7d.sqT hU7
    clear dL dR dt sbd sd sc' sb sa aa s79 s7d s8 s9 k1 k2 k3 b1 b2 b3 row7 hT7 hU7 t7
    walk_at "rz"
    clear bad ed hlq shL
    refine s_lamV ⟨t10, fun g4 H11 f11 t11 _ k4 => ?_⟩
    have t11 : TabS H11 (tL K) qL := t11
    have row11 := row10.tabW t10 f11
    have hT11 := f11.tk.sqT hT10
    have hU11 := f11.tk.sqT hU10
    walk_at "rz"
    rename_i lE hlE H12 s12 e12
    have t12 := t11.ext fun b o e => s12 _ _ e
    have row12 := row11.same s12
    refine s_lamV ⟨t12, fun g5 H13 f13 t13 _ k5 => ?_⟩
    have t13 : TabS H13 (tL K) qL := t13
    have lEt := tab_ne t11 hlE
    have e13 := f13.at e12 (by simp [lEt])
    have row13 := row12.tabW t12 f13
    have hT13 := f13.tk.sqT (s12.sqT hT11)
    have hU13 := f13.tk.sqT (s12.sqT hU11)
    have k4 := (k4.same s12).fr f13 (tab_noE t12)
    clear f11 f13 row10 row11 row12 t10 t11 t12 hT10 hT11 hU10 hU11 e12
    walk_at "rz"
    rename_i lF hlF H14 s14 e14
    refine s_cat (s14 _ _ e13) e14 (by rw [sizeLine_eq]; simp) fun lG hlG => ?_
    generalize eH : upd H14 lG _ = H15
    have s15 := newS hlG eH
    have e15 := newE eH
    clear eH
    have s35 := s14.trans s15
    have row15 := row13.same s35
    have t15 := t13.ext fun b o e => s35 _ _ e
    have hT15 := s35.sqT hT13
    have hU15 := s35.sqT hU13
    have k4 := k4.same s35
    have k5 := k5.same s35
    clear s14 s15 s35 e13 e14 row13 t13 hT13 hU13
    walk_at "rz"
    dsimp only [List.set]
    refine s_lcKept ?_
    walk_at "rz"
    have lGr : lG ≠ r := fun e => by
      obtain ⟨_, _, _, h, _⟩ := row15.row
      rw [← e, e15] at h
      cases h
    refine lcL_row e15 lGr row15 (by simp) (fun _ (_ : Unit) => True) (fun _ => .tuple [.str "number"]) (fun _ => rfl) (fun i vf Ha Yes No hi fa rowa yes => ?_) (fun D Ha ys us hD fa rowa ea lus _ aa => ?_)
    · have k4 := k4.fr fa (row_noE row15)
      have k5 := k5.fr fa (row_noE row15)
      have hTa := fa.tk.sqT hT15
      have hUa := fa.tk.sqT hU15
      walk_at "rz"
      refine ⟨rfl, ?_⟩
      walk_at "rz"
      refine s_callL ?_
      walk_at "rz"
      have fin : ∀ H7, Fr [r] Ha H7 → RowAt K H7 r sc ns → RaiE K (.ref (ga K "InvalidNumber")) none H7 Yes := fun H7 f7 row7 => .inr ⟨rfl, rfl, fun t8 H8 s8 e8 => yes _ _ () (f7.trans s8.fr) (row7.same s8) trivial (.tup (SqT.of e8) (.cons (.str _) .nil))⟩
      unfold TTrai
      match i, hi with
      | 0, hi =>
        cases hi
        refine ⟨g4, _, rfl, List.mem_cons_self, k4, k4, ?_⟩
        walk_at "rz"
        rename_i lw hlw Hb sb eb
        refine s_take (rowa.same sb) (by decide) (by decide) fun m Hc m0 m3 fc rowc => ?_
        obtain ⟨j, rfl⟩ : ∃ j : Nat, m = (j : Int) := ⟨m.toNat, by omega⟩
        have lwr : lw ≠ r := fun e => rowa.ex (by rw [← e]; exact hlw)
        obtain ⟨v, d, hv, dv, bd⟩ : ∃ v d, ([.int (-1), .int 7001, .non] : List V)[j]? = some v ∧ (∀ H, Dp K H v d) ∧ isIntD 0 7000 d = false := by
          have : j < 3 := by omega
          match j, this with
          | 0, _ => exact ⟨_, _, rfl, fun H => .int _, rfl⟩
          | 1, _ => exact ⟨_, _, rfl, fun H => .int _, rfl⟩
          | 2, _ => exact ⟨_, _, rfl, fun H => .non, rfl⟩
        refine s_ixL (SqL.of (fc.at eb (by simp [lwr]))) (at_of (j := j) rfl hv) ?_
        walk_at "rz"
        have fac := (sb.fr (A := [r])).trans fc
        exact ⟨_, _, _, _, _, _, _, _, rfl, .tup (fac.tk.sqT hTa) (dpa_ints' _), .tup (fac.tk.sqT hUa) (dpa_ints' _), .int _, dv _, .inr bd, fun H' s' => fin H' (fac.trans s'.fr) (rowc.same s')⟩
      | 1, hi =>
        cases hi
        refine ⟨g5, _, rfl, List.mem_cons_of_mem _ List.mem_cons_self, k5, k5, ?_⟩
        walk_at "rz"
        rename_i lw hlw Hb sb eb
        refine s_take (rowa.same sb) (by decide) (by decide) fun m Hc m0 m3 fc rowc => ?_
        obtain ⟨j, rfl⟩ : ∃ j : Nat, m = (j : Int) := ⟨m.toNat, by omega⟩
        have lwr : lw ≠ r := fun e => rowa.ex (by rw [← e]; exact hlw)
        obtain ⟨v, d, hv, dv, bd⟩ : ∃ v d, ([.int (-1), .int 8, .bl true] : List V)[j]? = some v ∧ (∀ H, Dp K H v d) ∧ isIntD 0 7 d = false := by
          have : j < 3 := by omega
          match j, this with
          | 0, _ => exact ⟨_, _, rfl, fun H => .int _, rfl⟩
          | 1, _ => exact ⟨_, _, rfl, fun H => .int _, rfl⟩
          | 2, _ => exact ⟨_, _, rfl, fun H => .bl _, rfl⟩
        refine s_ixL (SqL.of (fc.at eb (by simp [lwr]))) (at_of (j := j) rfl hv) ?_
        walk_at "rz"
        have fac := (sb.fr (A := [r])).trans fc
        exact ⟨_, _, _, _, _, _, _, _, rfl, .tup (fac.tk.sqT hTa) (dpa_ints' _), .tup (fac.tk.sqT hUa) (dpa_ints' _), .int _, dv _, .inr bd, fun H' s' => fin H' (fac.trans s'.fr) (rowc.same s')⟩
      | n + 2, hi => simp at hi
    walk_at "rz"
    rename_i tp htp Hb sb eb lp hlp Hc sc' ec
    refine s_repT ec (by omega) (by omega) (by simp) fun lq hlq => ?_
    generalize eH : upd Hc lq _ = Hd
    have sd := newS hlq eH
    have ed := newE eH
    clear eH
    have dt : Dp K Hd (.ref tp) (.tuple [.str "number"]) := .tup (SqT.of (sd _ _ (sc' _ _ eb))) (.cons (.str _) .nil)
    have dR : Dp K Hd (.ref lq) (.list [.tuple [.str "number"], .tuple [.str "number"]]) := .lst (SqL.of ed) (.cons dt (.cons dt .nil))
    have sbd := (sb.trans sc').trans sd
    have eus : us.map (fun _ => PyData.tuple [.str "number"]) = [.tuple [.str "number"], .tuple [.str "number"]] := by
      match us, lus with
      | [_, _], _ => rfl
    rw [eus] at aa
    have dL : Dp K Hd (.ref D) (.list [.tuple [.str "number"], .tuple [.str "number"]]) := .lst (SqL.of (sbd _ _ ea)) (aa.same sbd)
    have shL : SeqAt.shaped (.list [.tuple [.str "number"], .tuple [.str "number"]]) = true := by decide +kernel
    walk_at "rz"
    refine ⟨_, _, dL, dR, shL, shL, ?_⟩
    rw [shaped_eqv shL]
    have row16 := rowa.same sbd
    have t16 : TabS Hd (tL K) qL := TabS.ext (tabs_kW t15 fa fun x hx => by rw [List.mem_singleton.mp hx]; exact row15.noW) fun b o e => sbd _ _ e
    have hT16 := sbd.sqT (fa.tk.sqT hT15)
    have hU16 := sbd.sqT (fa.tk.sqT hU15)
    clear dL dR dt sbd sd sc' sb fa aa k4 k5 row15 hT15 hU15 t15 rowa ed ec eb ea e15 eus shL lus hD
    walk_at "rz"
    clear htp hlp hlq
    refine s_lenT hT16 ?_
    rw [List.length_map]
    walk_at "rz"
    have l6 := L.l6
    have len := L.len
    refine ⟨by omega, by omega, lcR_pick row16 (by omega) (fun _ => 1 < c) (dM ps c) (fun _ => rfl) (fun i Ha Yes No hi fa rowa yes no => ?_) (fun lm H17 zs is hlm f17 row17 e17 hpw his a17 => ?_)⟩
    · walk_at "rz"
      refine ⟨rfl, ?_⟩
      walk_at "rz"
      refine ite_b (fun hc => ?_) (fun hc => ?_)
      · have hc : 1 < c := by
          have := of_decide_eq_true hc
          omega
        walk_at "rz"
        refine s_take rowa (by decide) (by decide) fun m Hb m0 m2 fb rowb => ?_
        walk_at "rz"
        refine ite_b (fun _ => ?_) (fun _ => no Hb fb rowb)
        have lik : i < ps.length := by omega
        walk_at "rz"
        refine s_ixT ((fa.trans fb).tk.sqT hU16) (at_of (j := i) rfl (by rw [List.getElem?_map, List.getElem?_eq_getElem lik]; rfl)) ?_
        walk_at "rz"
        refine s_I (by omega) ?_
        walk_at "rz"
        rename_i t hpt Hc sc' ec
        have ed : dM ps c i = .tuple [.int (i : Nat), .int ((ps[i] + 1) % (c : Int))] := by
          unfold dM
          rw [List.getD_eq_getElem?_getD, List.getElem?_eq_getElem lik]
          rfl
        refine yes _ _ (fb.trans sc'.fr) (rowb.same sc') hc ?_
        rw [ed]
        exact .tup (SqT.of ec) (.cons (.int _) (.cons (.int _) .nil))
      · exact no Ha Fr.refl rowa
    have t17 : TabS H17 (tL K) qL := tabs_kW t16 f17 fun x hx => by rw [List.mem_singleton.mp hx]; exact row16.noW
    have hT17 := f17.tk.sqT hT16
    have hU17 := f17.tk.sqT hU16
    have n1 := L.l1
    have lmr : lm ≠ r := fun e => row16.ex (by rw [← e]; exact hlm)
    have lzs : zs.length = is.length := by rw [a17.len, List.length_map]
    have lis : is.length ≤ 6 := by
      have := up_len (n := ls.length) is 0 (Nat.zero_le _) hpw fun k hk => ⟨Nat.zero_le _, (his k hk).1⟩
      omega
    clear f17 row16 t16 hT16 hU16 hlm
    have okl := loadsOk_good n1 (by omega) len L.c1 L.c4 L.lo L.pl
    have l0 : 0 < ps.length := by omega
    have eg0 : ps[0] = ps.getD 0 0 := by
      rw [List.getD_eq_getElem?_getD, List.getElem?_eq_getElem l0]
      rfl
    walk_at "rz"
    refine s_ixT hU17 (at_of (j := 0) rfl (by rw [List.getElem?_map, List.getElem?_eq_getElem l0]; rfl)) ?_
    rw [eg0]
    walk_at "rz"
    rename_i w1 hw1 G1 sg1 eg1
    refine s_lenT (sg1.sqT hT17) ?_
    rw [List.length_map]
    walk_at "rz"
    rename_i w2 hw2 G2 sg2 eg2 w3 hw3 G3 sg3 eg3 w4 hw4 G4 sg4 eg4 w5 hw5 G5 sg5 eg5 w6 hw6 G6 sg6 eg6 w7 hw7 G7 sg7 eg7 w8 hw8 G8 sg8 eg8 lb hlb G9 sg9 eg9
    have s89 := sg9
    have s79 := sg8.trans s89
    have s69 := sg7.trans s79
    have s59 := sg6.trans s69
    have s49 := sg5.trans s59
    have s39 := sg4.trans s49
    have s29 := sg3.trans s39
    have s19 := sg2.trans s29
    have s09 := sg1.trans s19
    have rowg := row17.same s09
    have tabg := t17.ext fun b o e => s09 _ _ e
    have hTg := s09.sqT hT17
    have hUg := s09.sqT hU17
    have elg := s09 _ _ e17
    have alg := a17.same s09
    have rowr : ∀ {x : Addr} {o : HO}, G9 x = some o → (∀ xs, o ≠ .lst xs) → x ≠ r := fun {x o} h k e => by
      obtain ⟨_, _, _, h2, _⟩ := rowg.row
      rw [← e, h] at h2
      exact k _ (Option.some.inj h2)
    have w7r : w7 ≠ r := fun e => (row17.same (((((sg1.trans sg2).trans sg3).trans sg4).trans sg5).trans sg6)).ex (by rw [← e]; exact hw7)
    have lbr : lb ≠ r := fun e => (row17.same (((((((sg1.trans sg2).trans sg3).trans sg4).trans sg5).trans sg6).trans sg7).trans sg8)).ex (by rw [← e]; exact hlb)
    have pick : ∀ j : Nat, j < 9 → ∃ v d, ([.ref w1, .ref w2, .ref w3, .ref w4, .ref w5, .ref w6, .ref w7, .non, .ref w8] : List V)[j]? = some v ∧ (∀ G', Fr [r] G9 G' → Dp K G' v d) ∧ BadM ps ls.length c d := fun j hj => by
      match j, hj with
      | 0, _ => exact ⟨_, _, rfl, fun G' f => .tup (f.tk.sqT (SqT.of (s19 _ _ eg1))) (.cons (.int _) (.cons (.int _) .nil)), .here⟩
      | 1, _ => exact ⟨_, _, rfl, fun G' f => .tup (f.tk.sqT (SqT.of (s29 _ _ eg2))) (.cons (.int _) (.cons (.int _) .nil)), .line⟩
      | 2, _ => exact ⟨_, _, rfl, fun G' f => .tup (f.tk.sqT (SqT.of (s39 _ _ eg3))) (.cons (.int _) (.cons (.int _) .nil)), .neg⟩
      | 3, _ => exact ⟨_, _, rfl, fun G' f => .tup (f.tk.sqT (SqT.of (s49 _ _ eg4))) (.cons (.int _) (.cons (.int _) .nil)), .goal⟩
      | 4, _ => exact ⟨_, _, rfl, fun G' f => .tup (f.tk.sqT (SqT.of (s59 _ _ eg5))) (.cons (.int _) (.cons (.int _) .nil)), .goalN⟩
      | 5, _ => exact ⟨_, _, rfl, fun G' f => .tup (f.tk.sqT (SqT.of (s69 _ _ eg6))) (.cons (.int _) .nil), .one⟩
      | 6, _ => exact ⟨_, _, rfl, fun G' f => .lst (SqL.of (f.at (s79 _ _ eg7) (by simp [w7r]))) (.cons (.int _) (.cons (.int _) .nil)), .lst⟩
      | 7, _ => exact ⟨_, _, rfl, fun G' f => .non, .non⟩
      | 8, _ => exact ⟨_, _, rfl, fun G' f => .tup (f.tk.sqT (SqT.of (s89 _ _ eg8))) (.cons (.bl _) (.cons (.int _) .nil)), .bl⟩
    clear s89 s79 s69 s59 s49 s39 s29 s19 s09 sg1 sg2 sg3 sg4 sg5 sg6 sg7 sg8 sg9 eg1 eg2 eg3 eg4 eg5 eg6 eg7 eg8 hw1 hw2 hw3 hw4 hw5 hw6 hw7 hw8 hlb row17 t17 hT17 hU17 e17 a17 rowr
    refine s_lenL (SqL.of elg) ?_
    rw [lzs]
    walk_at "rz"
    refine s_take rowg (by omega) (by omega) fun m Ga m0 m1 fa rowa => ?_
    obtain ⟨k, rfl⟩ : ∃ k : Nat, m = (k : Int) := ⟨m.toNat, by omega⟩
    have ela := fa.at elg (by simp [lmr])
    walk_at "rz"
    refine s_slL (SqL.of ela) fun pA hpA => ?_
    rw [cut_take]
    generalize eH : upd Ga pA _ = Gb
    have sb := newS hpA eH
    have eb := newE eH
    clear eH
    walk_at "rz"
    refine s_take (rowa.same sb) (by decide) (by decide) fun m2 Gc m20 m29 fc rowc => ?_
    obtain ⟨j, rfl⟩ : ∃ j : Nat, m2 = (j : Int) := ⟨m2.toNat, by omega⟩
    obtain ⟨v, d, hv, dv, bad⟩ := pick j (by omega)
    have fac : Fr [r] G9 Gc := fa.trans ((sb.fr).trans fc)
    have pAr : pA ≠ r := fun e => rowa.ex (by rw [← e]; exact hpA)
    refine s_ixL (SqL.of (fac.at eg9 (by simp [lbr]))) (at_of (j := j) rfl hv) ?_
    walk_at "rz"
    rename_i lx hlx Gd sgd egd
    have pAd := sgd _ _ (fc.at eb (by simp [pAr]))
    refine s_cat pAd egd (by rw [sizeLine_eq, List.length_take, lzs]; show _ + 1 ≤ _; omega) fun lo hlo => ?_
    generalize eH : upd Gd lo _ = Ge
    have sge := newS hlo eH
    have ege := newE eH
    clear eH
    have fae : Fr [r] G9 Ge := fac.trans (sgd.trans sge).fr
    have rowe := rowc.same (sgd.trans sge)
    walk_at "rz"
    refine s_slL (SqL.of (fae.at elg (by simp [lmr]))) fun pB hpB => ?_
    rw [cut_drop]
    generalize eH : upd Ge pB _ = Gf
    have sgf := newS hpB eH
    have egf := newE eH
    clear eH
    walk_at "rz"
    refine s_cat (sgf _ _ ege) egf (by rw [sizeLine_eq, List.length_append, List.length_take, List.length_drop, lzs]; show _ + 1 + _ ≤ _; omega) fun lo2 hlo2 => ?_
    generalize eH : upd Gf lo2 _ = Gh
    have sgh := newS hlo2 eH
    have egh := newE eH
    clear eH
    have seh := sgf.trans sgh
    have fah : Fr [r] G9 Gh := fae.trans seh.fr
    have rowh := rowe.same seh
    have tabh : TabS Gh (tL K) qL := tabs_kW tabg fah fun x hx => by rw [List.mem_singleton.mp hx]; exact rowg.noW
    have elh := fah.at elg (by simp [lmr])
    have alh : DpAll K Gh zs (is.map (dM ps c)) := alg.tk fah.tk (tupds_map (fun _ => rfl) _)
    have hTh := fah.tk.sqT hTg
    have hUh := fah.tk.sqT hUg
    have dvh := dv _ fah
    have lo2t : lo2 ≠ tL K := fun e => by
      obtain ⟨ps2, e2, _⟩ := tabh
      have e2 : Gh (tL K) = some (.tbl ps2) := e2
      rw [← e, egh] at e2
      cases e2
    have lmt : lm ≠ tL K := fun e => by
      obtain ⟨ps2, e2, _⟩ := tabh
      have e2 : Gh (tL K) = some (.tbl ps2) := e2
      rw [← e, elh] at e2
      cases e2
    have dah : DpAll K Gh (zs.take k ++ [v] ++ zs.drop k) ((is.take k).map (dM ps c) ++ (d :: (is.drop k).map (dM ps c))) := by
      rw [show (is.take k).map (dM ps c) ++ (d :: (is.drop k).map (dM ps c)) = ((is.take k).map (dM ps c) ++ [d]) ++ (is.drop k).map (dM ps c) from by rw [List.append_assoc]; rfl]
      refine dpa_app (dpa_app ?_ (.cons dvh .nil)) ?_
      · rw [List.map_take]
        exact dpA_take alh k
      · rw [List.map_drop]
        exact dpA_drop alh k
    clear rowg tabg hTg hUg elg alg pick fa rowa ela sb eb fc rowc fac sgd egd pAd sge ege fae rowe sgf egf sgh seh fah dv dvh hpA hpB hlo hlo2 hlx hv eg9
    walk_at "rz"
    dsimp only [List.set]
    refine ⟨tabh, fun Gi fi ti => ?_⟩
    have ti : TabS Gi (tL K) qL := ti
    have rowi := rowh.tabW tabh fi
    have dai := dpA_tab tabh fi dah
    have ali := dpA_tab tabh fi alh
    have egi := fi.at egh (by simp [lo2t])
    have eli := fi.at elh (by simp [lmt])
    have hTi := fi.tk.sqT hTh
    have hUi := fi.tk.sqT hUh
    unfold TTrai
    walk_at "rz"
    have jb : judgeD (.tuple (ls.map PyData.int)) (.tuple (ps.map PyData.int)) (.int (c : Nat)) ((is.take k).map (dM ps c) ++ (d :: (is.drop k).map (dM ps c))) = some k := by
      rw [judge_bad (rest := []) len n1 (fun e => (his _ (List.getElem_mem (List.length_pos_iff.mpr fun e2 => e (by rw [e2]; exact List.take_nil)))).2) L.pl (hpw.sublist (List.take_sublist _ _)) (fun x hx => (his x (List.mem_of_mem_take hx)).1) bad, List.length_take, Nat.min_eq_left (by omega)]
    refine ⟨_, _, _, _, _, _, _, _, _, rfl, .tup hTi (dpa_ints' _), .tup hUi (dpa_ints' _), .int _, SqL.of egi, dai, by rw [List.length_append, List.length_map, List.length_cons, List.length_map, List.length_take, List.length_drop]; omega, ?_, ?_, ?_⟩
    · intro h
      rw [okl] at h
      cases h
    rotate_left
    · intro _ h
      rw [jb] at h
      cases h
    intro _ i2 hi2 dx Gj sj ej
    rw [jb] at hi2
    cases hi2
    refine .inl ⟨rfl, dx, _, rfl, ej, fun tm Gk sk ek => ?_⟩
    have sik := sj.trans sk
    have elk := sik _ _ eli
    have alk := ali.same sik
    have hTk := sik.sqT hTi
    have hUk := sik.sqT hUi
    have rowk := rowi.same sik
    have tabk := ti.ext fun b o e => sik _ _ e
    clear fi ti rowi dai ali egi eli hTi hUi sj sk sik ej jb bad rowh tabh elh alh hTh hUh dah egh
    have dk : Dp K Gk (.ref tm) (.tuple [.str "move", .int (k : Nat)]) := .tup (SqT.of ek) (.cons (.str _) (.cons (.int _) .nil))
    walk_at "rz"
    rename_i tn htn Gl sl el
    have dl : Dp K Gl (.ref tn) (.tuple [.str "move", .int (k : Nat)]) := .tup (SqT.of el) (.cons (.str _) (.cons (.int _) .nil))
    refine ⟨_, _, dk.same sl, dl, shM (by omega), shM (by omega), ?_⟩
    rw [shaped_eqv (shM (by omega))]
    have elm := sl _ _ elk
    have alm := alk.same sl
    have hTm := sl.sqT hTk
    have hUm := sl.sqT hUk
    have rowm := rowk.same sl
    have tabm := tabk.ext fun b o e => sl _ _ e
    clear dk dl sl el ek elk alk hTk hUk rowk tabk htn
    walk_at "rz"
    refine s_slL (SqL.of elm) fun pC hpC => ?_
    rw [show (1 : Int) = ((1 : Nat) : Int) from rfl, cut_take]
    generalize eH : upd Gl pC _ = Gn
    have sn := newS hpC eH
    have en := newE eH
    clear eH
    walk_at "rz"
    refine s_cat (sn _ _ elm) en (by rw [sizeLine_eq, List.length_take, lzs]; omega) fun lo3 hlo3 => ?_
    generalize eH : upd Gn lo3 _ = Go
    have so := newS hlo3 eH
    have eo := newE eH
    clear eH
    have sno := sn.trans so
    have elo := sno _ _ elm
    have alo := alm.same sno
    have hTo := sno.sqT hTm
    have hUo := sno.sqT hUm
    have rowo := rowm.same sno
    have tabo := tabm.ext fun b o e => sno _ _ e
    clear sn en so sno elm alm hTm hUm rowm tabm hpC hlo3
    have lo3t : lo3 ≠ tL K := fun e => by
      obtain ⟨ps2, e2, _⟩ := tabo
      have e2 : Go (tL K) = some (.tbl ps2) := e2
      rw [← e, eo] at e2
      cases e2
    walk_at "rz"
    dsimp only [List.set]
    refine ⟨tabo, fun Gp fp tp => ?_⟩
    have tp' : TabS Gp (tL K) qL := tp
    have rowp := rowo.tabW tabo fp
    have alp := dpA_tab tabo fp alo
    have eop := fp.at eo (by simp [lo3t])
    have elp := fp.at elo (by simp [lmt])
    have hTp := fp.tk.sqT hTo
    have hUp := fp.tk.sqT hUo
    dsimp only
    walk_at "rz"
    clear fp rowo alo eo elo hTo hUo tabo
    have dap : DpAll K Gp (zs ++ zs.take 1) (is.map (dM ps c) ++ (is.take 1).map (dM ps c)) := dpa_app alp (by rw [List.map_take]; exact dpA_take alp 1)
    have lap : (is.map (dM ps c) ++ (is.take 1).map (dM ps c)).length ≤ 1000 := by
      rw [List.length_append, List.length_map, List.length_map, List.length_take]
      omega
    refine ⟨_, _, _, _, _, _, _, _, _, rfl, .tup hTp (dpa_ints' _), .tup hUp (dpa_ints' _), .int _, SqL.of eop, dap, lap, (fun h => by rw [okl] at h; cases h), ?_, ?_⟩
    · intro _ i2 hi2 dx Gj sj ej
      refine .inl ⟨rfl, dx, _, rfl, ej, fun tm Gk sk ek => ?_⟩
      have sik := sj.trans sk
      have elk := sik _ _ elp
      have rowk := rowp.same sik
      have tabk := tp'.ext fun b o e => sik _ _ e
      have dk : Dp K Gk (.ref tm) (.tuple [.str "move", .int (i2 : Nat)]) := .tup (SqT.of ek) (.cons (.str _) (.cons (.int _) .nil))
      walk_at "rz"
      rename_i le hle Gl sl el
      refine ⟨lm, le, zs, rfl, rfl, .inl ⟨SqL.of (sl _ _ elk), SqL.of el⟩, ?_⟩
      match is, zs, lzs, his, hpw, hi2 with
      | [], [], _, _, _, hi2 =>
        walk_at "rz"
        exact ⟨⟨_, _, _, _, _, _, _, _, _, _, _, _, _, _, _, _, rfl⟩, rowk.same sl, tabk.ext fun b o e => sl _ _ e⟩
      | x :: is', z :: zs', lzs, his, hpw, hi2 =>
        have e2 := judge_twice (ls := ls) (ps := ps) (c := c) (k := x) (is := is') len (his x List.mem_cons_self).2 L.pl hpw fun j hj => (his j hj).1
        have e3 : i2 = (x :: is').length := by
          have h : judgeD _ _ _ ((x :: is').map (dM ps c) ++ [dM ps c x]) = some i2 := hi2
          rw [e2] at h
          exact (Option.some.inj h).symm
        subst e3
        walk_at "rz"
        refine s_lenL (SqL.of (sl _ _ elk)) ?_
        walk_at "rz"
        rename_i tn htn Gm sm em
        have dn : Dp K Gm (.ref tn) (.tuple [.str "move", .int ((x :: is').length : Nat)]) := by
          rw [lzs] at em
          exact .tup (SqT.of em) (.cons (.str _) (.cons (.int _) .nil))
        refine ⟨_, _, (dk.same sl).same sm, dn, shM lis, shM lis, ?_⟩
        rw [shaped_eqv (shM lis)]
        have slm := sl.trans sm
        walk_at "rz"
        exact ⟨⟨_, _, _, _, _, _, _, _, _, _, _, _, _, _, _, _, rfl⟩, rowk.same slm, tabk.ext fun b o e => slm _ _ e⟩
    · intro _ hj n Gj sj
      have elk := sj _ _ elp
      walk_at "rz"
      rename_i le hle Gl sl el
      refine ⟨lm, le, zs, rfl, rfl, .inl ⟨SqL.of (sl _ _ elk), SqL.of el⟩, ?_⟩
      match is, zs, lzs, his, hpw, hj with
      | [], [], _, _, _, _ =>
        walk_at "rz"
        have slm := sj.trans sl
        exact ⟨⟨_, _, _, _, _, _, _, _, _, _, _, _, _, _, _, _, rfl⟩, rowp.same slm, tp'.ext fun b o e => slm _ _ e⟩
      | x :: is', z :: zs', lzs, his, hpw, hj =>
        have e2 := judge_twice (ls := ls) (ps := ps) (c := c) (k := x) (is := is') len (his x List.mem_cons_self).2 L.pl hpw fun j hj => (his j hj).1
        have h : judgeD _ _ _ ((x :: is').map (dM ps c) ++ [dM ps c x]) = none := hj
        rw [e2] at h
        cases h
  · subst es
    walk_at "rz"
    exact q _
end
end T
set_option maxHeartbeats 0
namespace T
open PySem PySem.Spec PyProof.Rows L2 Z
open He (ga ma)
theorem facts {P : Program} {w : World} {K : Fg} {h : Heap} {mg : Str → Option Value} {f : Addr} (X : K.In h) (G : h.Ns mainGlobals mg) (hfa : mg ("law" : Str) = some (.ref f)) (c : SaysZ fa fn K) :
    ∃ fd : FuncData, (∀ (s : Shared) (v : Value), BindsTo s fd ⟨[v], []⟩ [("_law_script", v)]) ∧ ∀ base : Heap, LamX.TabB base mg (codA K (ga K "law")) (tL K) → FnOk P w K mg base (L2.CX P w) 32 f fd ["_law_script"] (spLaw K) := by
  have T := txt_of X G c
  have e := hfa.symm.trans T.g_law
  cases e
  have b := FunD.bindsA (ps := ["_law_script"]) T.F_law fun _ _ _ _ _ _ us hl => match us, hl with | [_], _ => rfl
  exact ⟨_, fun s v => b s [v] rfl, fun base TBL => ok_law T TBL⟩
end T
open PySem PySem.W PySem.Calls PyProof.Rows
theorem PySem.Challenge.cw_callbells_k72_moves_refused_holds : PySem.Challenge.rw_callbells_k72_moves_refused.Holds := by
  refine T.early fun w mg f h Y G hm => ?_
  obtain ⟨K, KX, c, ct⟩ := Y
  obtain ⟨fd, hb, hF⟩ := T.facts (P := (PySem.Challenge.rw_callbells_k72_moves_refused).prog) (w := w) KX G hm c
  have one : ∀ {R : PySem.Addr → Prop}, (∀ u ∈ [He.ga K "law"], R u) → R (He.ga K "law") := fun h => h _ (List.mem_cons_self ..)
  refine ⟨K, fd, T.spLaw K, [He.ga K "law"], KX, fun u hu => ?_, hb, fun H a ns hl ht hS => ⟨a, ns, rfl, hS, one ht, fun _ => rfl⟩, fun base _ _ hB => hF base (one hB)⟩
  rw [List.mem_singleton.mp hu]
  exact ct (fun K => He.ga K "law") (List.mem_cons_self ..)
