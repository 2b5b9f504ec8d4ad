import PyProof.Rows.All
import Wide.All
import OpenK.AllK
import Wide.FinOn
import HandS.ForMost
import HandS.ForExc
import HandS.Lambda
import HandS.EndTab
import HandS.RaiseMore
import HandS.IsInst
import PyProof.ReprRoads
import PyProof.CallFns
import HandS.ExcIs
import HandS.ExcField
import HandS.ExcInit
import HandS.TryMany
import KE.KExcIs
import HandS.Strs
import HandS.SetFor
import HandS.SetBool
import HandS.Star
import HandS.Nested
import HandS.ClsMeth
import KE.KSuper
import KE.KCallOwn
import OpenK.KOps
import HandS.SlotsOwn
import PyProof.InstEq
import KE.KOpsOwn
import OpenK.KMeth
import HandS.Style
import HandS.WideBits
import HandS.More
import HandS.Small
import HandS.Defaults
import HandS.Property
import HandS.Evl
import HandS.FStr
import HandS.Text
import PyProof.StrLaws
import KE.DataEq
import PyProof.EqKinds
import PyProof.MeetsIn
import PyProof.FactsAll.dict
import HandS.Comp
import HandS.Set
import HandS.SetKeys
import PyProof.Rows.SortStr
import HandS.Iter
import HandS.Dict
import HandS.NoneIn
import HandS.Zip
import PyProof.ZipIter
import PyProof.ListNew
import KE.KItemsList
import HandS.ListItems
import HandS.Conv
import KE.KNestM
import KE.RegKSuper
import HandS.Words
import PySem.Challenge.RW_rankchances_k12_terms_and_their_values
set_option Elab.async false
set_option linter.all false
set_option maxRecDepth 100000
set_option maxHeartbeats 4000000
/-! General rules: a def's promise where no repr runs (Fn), repr of data. -/
namespace LG
open PySem PySem.Spec PyProof.Rows L2

/-! ### Fn: a promise by positional values, told where no guard is on the stack -/
def Fn (P : Program) (w : World) (K : PySem.W.Frag) (mg : Str → Option Value) (base : Heap) (k : Nat) (f : Addr) (sp : Sp) : Prop :=
  ∀ (A : Around) (outer : List Env) (s : Shared) (H : Hp) (us : List Value) (vs : List V) (Q : VK) (E : XK),
    A.guards = some [] → Room k A → Env0 P w K mg base A outer s H → Vals vs us → sp vs H Q E →
    codeAny (model P w) A (.call (.ref f) ⟨us, []⟩) (CR (L2.CX P w) outer P w H s Q E) s
section
variable {P : Program} {w : World} {K : PySem.W.Frag} {mg : Str → Option Value} {base : Heap} {j k : Nat} {f : Addr} {sp sp' : Sp}
theorem Fn.mono (F : Fn P w K mg base j f sp) (h : j ≤ k) : Fn P w K mg base k f sp :=
  fun A o s H us vs Q E g r => F A o s H us vs Q E g (r.mono h)
theorem Fn.imp (F : Fn P w K mg base k f sp) (h : ∀ vs H Q E, sp' vs H Q E → sp vs H Q E) : Fn P w K mg base k f sp' :=
  fun A o s H us vs Q E g r e0 rv z => F A o s H us vs Q E g r e0 rv (h _ _ _ _ z)
/-- a def of the text (no defaults used), by its body -/
theorem Fn.of {x qual : Str} {st : Stmt} {fd : FuncData} {N ps : List Str} (F : Fun K x qual st f fd) (S : FnScope N ps (defScope st)) (hb : Binds K fd ps [])
    (len : ∀ vs H Q E, sp vs H Q E → vs.length = ps.length)
    (body : ∀ (cdv : Value) (A : Around) (outer : List Env) (s : Shared) (H : Hp) (vs : List V) (Q : VK) (E : XK), A.guards = some [] →
      Room k (A.deeper (envOfC qual (defScope st) s.heap.objs.size f cdv)) → PySem.W.codeIn K cdv qual = true → sp vs H Q E →
      ∃ t, PSs (cxOf (L2.CX P w) P w K mg base N qual (defScope st) f cdv A outer s H E) (defBody st) t ∧ t { nx := fun _ H' => Q .non H', rt := Q } (start N vs) H) :
    Fn P w K mg base (k + 1) f sp := by
  intro A outer s H us vs Q E hg hr e0 rv hsp
  obtain ⟨oc, od, kV, doc, pm, an, cdv, ct, osl, rfl, lk, hcd⟩ := F.ex
  have hl := len _ _ _ _ hsp
  have KX : K.In s.heap := e0.mod.kin.keeps fun b o e => (e0.bs b o e).1
  have hul : us.length = ps.length := by rw [← rv.length]; exact hl
  have hb' := hb s us KX (by rw [List.append_nil]; exact hul)
  rw [List.append_nil] at hb'
  exact LamX.run_ofS lk hcd S hr e0 hb' rv hl fun hr' => body cdv A outer s H vs Q E hg hr' hcd hsp
end
section
variable {X : Cx} {k : Nat} {f : Addr} {sp : Sp} {E : XK} {x : Str} {p pos : Pos} {e : Expr} {es : List Expr} {t : TA}
theorem run_Fn {pins : List (Addr × Obj)} {σ : L2.St} {H : Hp} {s : Shared} {Q : VK} {us : List Value} {vs : List V} (F : Fn X.prog X.w X.K X.mg X.base k f sp) (g0 : X.A.guards = some []) (hr : Room k X.A)
    (hx : Passes (L2.CX X.prog X.w) X E) (I : Inv X pins σ H s) (r : Vals vs us) (h : sp vs H Q E) : wpAny (model X.prog X.w) X.A (call (.ref f) us) (EP X pins σ Q) X.xe s := by
  refine wpAny_call (codeAny_mono (F X.A X.stack s H us vs Q E g0 hr I.env0 r h) fun res s' hq => ?_)
  match res, hq with
  | .error e, hq => exact hx pins σ H s e s' I hq
  | .ok (.ret u), hq => exact I.after hq
  | .ok .next, hq => exact hq.elim
  | .ok .brk, hq => exact hq.elim
  | .ok .cont, hq => exact hq.elim
/-- f(e, ..) -/
def tFn (sp : Sp) (E : XK) (t : TA) : TE := fun σ H Q => t σ H fun vs H1 => sp vs H1 Q E
theorem pe_fn (F : Fn X.prog X.w X.K X.mg X.base k f sp) (g0 : X.A.guards = some []) (hr : Room k X.A) (hk : PySem.W.keepIn X.K (.ref f) = true) (hm : X.mg x = some (.ref f)) (hg : Gl X x) (hx : Passes (L2.CX X.prog X.w) X E)
    (ha : PA X (e :: es) t) (hdb : (x == ("__debug__" : Str)) = false := by decide) (he : starEach (e :: es) X.env = (false, eval e X.env) :: starEach es X.env := by rfl)
    (hpl : (backTo pos (starEach es X.env)).any (·.1) = false := by rfl) : PE X (.Call (.Name x p) (e :: es) [] pos) (tFn sp E t) := by
  constructor
  intro pins s σ H Q I h
  refine wpAny_Call_Name_kw (ld_glob I hg hm (PySem.W.callWith_K (h₀ := X.base) I.ok.mod.kin hk (thn (ha.run pos pins s σ H _ I h) ?_) he hpl) hdb)
  rintro us s1 ⟨vs, H1, I1, r, q⟩
  exact ⟨I1.kIn, run_Fn F g0 hr hx I1 r q⟩
/-- f() -/
theorem pe_fn0 (F : Fn X.prog X.w X.K X.mg X.base k f sp) (g0 : X.A.guards = some []) (hr : Room k X.A) (hk : PySem.W.keepIn X.K (.ref f) = true) (hm : X.mg x = some (.ref f)) (hg : Gl X x) (hx : Passes (L2.CX X.prog X.w) X E)
    (hdb : (x == ("__debug__" : Str)) = false := by decide) : PE X (.Call (.Name x p) [] [] pos) (fun _ H Q => sp [] H Q E) := by
  constructor
  intro pins s σ H Q I h
  exact wpAny_Call_Name_kw (ld_glob I hg hm (PySem.W.callWith_K0 I.kIn hk (run_Fn (us := []) F g0 hr hx I .nil h)) hdb)
end

/-! ### data of any depth, dicts among it: what repr tells of it -/
def plainD : PyData → Bool
  | .none | .bool _ | .int _ | .str _ => true
  | _ => false
mutual
inductive Dq (K : PySem.W.Frag) (H : Hp) : V → PyData → Prop
  | non : Dq K H .non .none
  | bl (b : Bool) : Dq K H (.bl b) (.bool b)
  | int (i : Int) : Dq K H (.int i) (.int i)
  | str (x : Str) : Dq K H (.str x) (.str x)
  | lst {a : Addr} {xs : List V} {ds : List PyData} : SqL K H a xs → DqAll K H xs ds → a ≠ sysModules → Dq K H (.ref a) (.list ds)
  | tup {a : Addr} {xs : List V} {ds : List PyData} : SqT K H a xs → DqAll K H xs ds → Dq K H (.ref a) (.tuple ds)
  | dic {a : Addr} {kvs : List (Key × V)} {ds : List (PyData × PyData)} : H a = some (.dK kvs) → DqKv K H kvs ds → Dq K H (.ref a) (.dict ds)
inductive DqAll (K : PySem.W.Frag) (H : Hp) : List V → List PyData → Prop
  | nil : DqAll K H [] []
  | cons {v : V} {vs : List V} {d : PyData} {ds : List PyData} : Dq K H v d → DqAll K H vs ds → DqAll K H (v :: vs) (d :: ds)
inductive DqKv (K : PySem.W.Frag) (H : Hp) : List (Key × V) → List (PyData × PyData) → Prop
  | nil : DqKv K H [] []
  | cons {k : Key} {v : V} {vs : List (Key × V)} {dk d : PyData} {ds : List (PyData × PyData)} : Dq K H (kV k) dk → plainD dk = true → Dq K H v d → plainD d = true → DqKv K H vs ds → DqKv K H ((k, v) :: vs) ((dk, d) :: ds)
end
section
variable {X : Cx} {pins : List (Addr × Obj)} {σ : L2.St} {H : Hp} {s : Shared}
theorem plain_reads {h : Heap} {v : V} {u : Value} {d : PyData} {K : PySem.W.Frag} (q : Dq K H v d) (p : plainD d = true) (r : RelV v u) : Reads h u d [] := by
  cases q with
  | non => cases r; exact .none
  | bl b => cases r; exact .bool b
  | int i => obtain ⟨t, rfl⟩ := r; exact .int i t
  | str x => obtain ⟨t, rfl⟩ := r; exact .str x t
  | lst _ _ _ => cases p
  | tup _ _ => cases p
  | dic _ _ => cases p
theorem key_rel {k : Key} {u : Value} (h : keyIs k u = true) : RelV (kV k) u := by
  rcases keyIs_shape h with ⟨i, t, rfl, rfl⟩ | ⟨x, t, rfl, rfl⟩
  · exact ⟨t, rfl⟩
  · exact ⟨t, rfl⟩
theorem kv_reads {h : Heap} {K : PySem.W.Frag} {P : Program} {w : World} : ∀ {kvs : List (Key × V)} {ds : List (PyData × PyData)} {vs : List (Key × Value)} {es : List DictEntry}, DqKv K H kvs ds → KV kvs vs → Pairs (mixKind P w) es vs →
    ReadsAll h (es.map (·.key)) (ds.map (·.1)) [] ∧ ReadsAll h (es.map (·.val)) (ds.map (·.2)) []
  | _, _, _, _, .nil, .nil, .nil => ⟨.nil, .nil⟩
  | _, _, _, _, .cons dk pk dv pv r, .cons hk hr, .cons ik ev hp => by
    obtain ⟨h1, h2⟩ := kv_reads r hr hp
    have e1 := hk.1
    have e2 := hk.2
    dsimp only at e1 e2
    refine ⟨ReadsAll.cons (as := []) (plain_reads dk pk (key_rel ?_)) h1, ReadsAll.cons (as := []) (plain_reads dv pv ?_) h2⟩
    · rw [e1]
      exact ik
    · exact (congrArg (L2.RelV _) ev).mpr e2
mutual
theorem Dq.reads (I : Inv X pins σ H s) : ∀ (d : PyData) (v : V) (u : Value), Dq X.K H v d → RelV v u → ∃ as, Reads s.heap u d as ∧ sysModules ∉ as
  | .none, _, _, h, r => ⟨[], plain_reads h rfl r, List.not_mem_nil⟩
  | .bool _, _, _, h, r => ⟨[], plain_reads h rfl r, List.not_mem_nil⟩
  | .int _, _, _, h, r => ⟨[], plain_reads h rfl r, List.not_mem_nil⟩
  | .str _, _, _, h, r => ⟨[], plain_reads h rfl r, List.not_mem_nil⟩
  | .list ds, _, _, h, r => by
    cases h with
    | lst hs ha hn =>
      cases r
      obtain ⟨its, rv, ⟨o, n, ho, hc, _, hd⟩, _⟩ := I.list hs
      obtain ⟨as, hr, hz⟩ := Dq.readsAll I ds _ its ha rv
      exact ⟨_, Reads.list ho hc hd hr, fun z => (List.mem_cons.mp z).elim (fun e => hn e.symm) hz⟩
  | .tuple ds, _, _, h, r => by
    cases h with
    | tup hs ha =>
      cases r
      obtain ⟨its, rv, ⟨o, ho, hc, n, hd⟩, _⟩ := I.tuple hs
      obtain ⟨as, hr, hz⟩ := Dq.readsAll I ds _ its ha rv
      exact ⟨_, Reads.tuple ho hc hd hr, hz⟩
  | .dict ds, _, _, h, r => by
    cases h with
    | @dic a kvs _ hs ha =>
      cases r
      obtain ⟨_, hsys, vs, kv, o, es, ep, ho, hc, hd, _, hp, _⟩ := I.hok a _ hs
      obtain ⟨h1, h2⟩ := kv_reads (h := s.heap) ha kv hp
      refine ⟨_, Reads.dict ho hc.1 hd h1 h2, fun z => ?_⟩
      rw [List.append_nil] at z
      have z2 := List.mem_singleton.mp z
      rw [← z2] at hsys
      simp at hsys
theorem Dq.readsAll (I : Inv X pins σ H s) : ∀ (ds : List PyData) (vs : List V) (us : List Value), DqAll X.K H vs ds → Vals vs us → ∃ as, ReadsAll s.heap us ds as ∧ sysModules ∉ as
  | [], _, _, h, r => by
    cases h
    cases r
    exact ⟨_, ReadsAll.nil, List.not_mem_nil⟩
  | d :: ds, _, _, h, r => by
    cases h with
    | cons h1 h2 =>
      cases r with
      | cons r1 r2 =>
        obtain ⟨as, q1, z1⟩ := Dq.reads I d _ _ h1 r1
        obtain ⟨bs, q2, z2⟩ := Dq.readsAll I ds _ _ h2 r2
        exact ⟨_, ReadsAll.cons q1 q2, fun z => (List.mem_append.mp z).elim z1 z2⟩
end
end
mutual
theorem Dp.noDict {K : PySem.W.Frag} {H : Hp} : ∀ (d : PyData) (v : V), Dp K H v d → d.hasDict = false
  | .none, _, _ => by simp only [PyData.hasDict]
  | .bool _, _, _ => by simp only [PyData.hasDict]
  | .int _, _, _ => by simp only [PyData.hasDict]
  | .str _, _, _ => by simp only [PyData.hasDict]
  | .list ds, _, h => by
    cases h with
    | lst _ ha =>
      simp only [PyData.hasDict]
      exact DpAll.noDict ds _ ha
  | .tuple ds, _, h => by
    cases h with
    | tup _ ha =>
      simp only [PyData.hasDict]
      exact DpAll.noDict ds _ ha
  | .dict _, _, h => by cases h
theorem DpAll.noDict {K : PySem.W.Frag} {H : Hp} : ∀ (ds : List PyData) (vs : List V), DpAll K H vs ds → PyData.hasDictAll ds = false
  | [], _, _ => by simp only [PyData.hasDictAll]
  | d :: ds, _, h => by
    cases h with
    | cons h1 h2 => simp only [PyData.hasDictAll, Dp.noDict d _ h1, DpAll.noDict ds _ h2, Bool.or_self]
end
/-- what repr asks of data: its numbers are no longer than the line, its text fits, it is not deep -/
def Shows (d : PyData) : Prop := d.showable = true ∧ d.depth ≤ 60 ∧ d.shown.length ≤ sizeLine
def rRepr (K : PySem.W.Frag) : List V → Hp → VK → Prop := fun xs H Q => ∃ (x : V) (d : PyData), xs = [x] ∧ (Dq K H x d ∨ Dp K H x d) ∧ Shows d ∧ Q (.str d.shown) H
section
variable {X : Cx}
theorem shown_bool (b : Bool) : (PyData.bool b).shown = (if b then Str.ofString "True" else Str.ofString "False") := by cases b <;> simp only [PyData.shown] <;> rfl
theorem call_repr (hg : X.A.guards = some []) (hu : X.A.units + 64 < cLine) : CallR X (.builtin "repr") (rRepr X.K) := by
  intro pins s σ H xs us Q I r h
  obtain ⟨x, d, rfl, hd, ⟨hs, hdp, hz⟩, q⟩ := h
  obtain ⟨u, rfl, ru⟩ := vals1 r
  have rd : ∃ as, Reads s.heap u d as ∧ (d.hasDict = true → sysModules ∉ as) := by
    rcases hd with hd | hd
    · obtain ⟨as, z1, z2⟩ := Dq.reads I d x u hd ru
      exact ⟨as, z1, fun _ => z2⟩
    · obtain ⟨as, z1⟩ := Dp.reads I d x u hd ru
      exact ⟨as, z1, PyData.noDict_hsm (Dp.noDict d x hd)⟩
  obtain ⟨as, z1, z2⟩ := rd
  have fin : ∀ (h' : Heap) (tk : Nat) (t : Tok), (∀ b o, s.heap.get? b = some o → h'.get? b = some o) → EP X pins σ Q (.str d.shown t) { s with heap := h', toks := tk } :=
    fun h' tk t hk => ⟨.str d.shown, H, I.kept hk, ⟨t, rfl⟩, q⟩
  have tail : ∀ a, u = .ref a → wpAny (model X.prog X.w) X.A (call (.builtin "repr") [u]) (EP X pins σ Q) X.xe s := by
    intro a e
    subst e
    exact repr_of_reads' z1 hs z2 hg (by omega) (fun _ _ e => e) (fun h' t tk hk => fin h' tk t hk) hz
  cases z1 with
  | none => exact PySem.P.repr_of_none (fin s.heap _ _ fun _ _ e => e)
  | bool b =>
    have e := fin s.heap (s.toks + 1) s.toks fun _ _ e => e
    rw [shown_bool] at e
    exact PySem.P.repr_of_bool e
  | int i t =>
    have hi : i.natAbs.log2 < 1920 := by
      unfold PyData.showable at hs
      exact of_decide_eq_true hs
    exact PySem.P.repr_of_int hi (fin s.heap _ _ fun _ _ e => e)
  | str y t => exact PySem.P.repr_of_str (fin s.heap _ _ fun _ _ e => e) hz
  | list _ _ _ _ => exact tail _ rfl
  | tuple _ _ _ _ => exact tail _ rfl
  | dict _ _ _ _ _ => exact tail _ rfl
end
/-! ### lists that are made: they are not the table of modules -/
section
variable {X : Cx} {es : List Expr} {t : TA} {pos : Pos}
theorem big_of {pins : List (Addr × Obj)} {σ : L2.St} {H : Hp} {s : Shared} (I : Inv X pins σ H s) : sysModules < s.heap.objs.size :=
  Nat.lt_of_lt_of_le (Nat.lt_trans (by decide) I.mod.glob.lt) (Nat.le_trans I.ok.bsz I.sz)
def tLstB (t : TA) : TE := fun σ H Q => t σ H fun xs H1 => xs.length ≤ sizeLine ∧ ∀ p, H1 p = none → p ≠ sysModules → Q (.ref p) (upd H1 p (.lst xs))
theorem pe_lstB (h : PA X es t) : PE X (.List es pos) (tLstB t) := by
  constructor
  intro pins s σ H Q I hq
  refine wpAny_List_spliced (thn (h.run pos pins s σ H _ I hq) ?_)
  rintro us s1 ⟨xs, H1, I1, r, z, q⟩
  have hf := I1.hok.fresh (a := s1.heap.objs.size) (Nat.le_refl _)
  have hl : us.length ≤ sizeLine := by
    rw [← r.length]
    exact z
  exact ⟨hl, .ref s1.heap.objs.size, upd H1 s1.heap.objs.size (.lst xs), I1.laid (t' := s1.toks) (fun b u e => Heap.get?_push_of_some _ e) (Nat.le_refl _) ⟨z, us, 0, r, Heap.get?_push_size _ rfl⟩, rfl, q _ hf (Nat.ne_of_gt (big_of I1))⟩
end
end LG
/-! Several clauses "except X as n" of one name n; isinstance of a caught error that has its own dict. -/
namespace LG
open PySem PySem.Spec PyProof.Rows L2

/-- behind a suite the clause's name is gone -/
def offN (i : Nat) (D : Ends) : Ends := { nx := fun σ H => D.nx (σ.set i none) H, rt := D.rt, bk := fun σ H => D.bk (σ.set i none) H, ct := fun σ H => D.ct (σ.set i none) H }
/-- what the clauses wish of an error of the body, one after the other -/
def wManyAs (K : PySem.W.Frag) (i : Nat) (Wout : WX) (D : Ends) : List (Value × (Addr → Value → Option Addr → TS)) → WX
  | [] => Wout
  | p :: r => fun cls d σ H => ∃ b, PySem.W.exmOne K cls p.1 = some b ∧
      (b = true → ∀ a, H a = none → p.2 a cls d (offN i D) (σ.set i (some (.ref a))) H) ∧ (b = false → wManyAs K i Wout D r cls d σ H)
/-- the clauses as they stand -/
inductive HdsAs (X : Cx) (n : Str) : List ExceptHandler → List (Value × (Addr → Value → Option Addr → TS)) → Prop
  | nil : HdsAs X n [] []
  | cons {x : Str} {c : Value} {ts : Addr → Value → Option Addr → TS} {b₀ : Stmt} {suite : List Stmt} {np pos' : Pos} {hds : List ExceptHandler} {l : List (Value × (Addr → Value → Option Addr → TS))}
      (hc : Names X x c) (hsu : ∀ (a : Addr) (oe : Obj) (cls : Value) (d : Option Addr) (pn : List (Addr × Obj)), Zc cls d oe → (∃ vs, oe.data = .fields vs) → PSs (X.suite a ((a, oe) :: pn)) (b₀ :: suite) (ts a cls d))
      (r : HdsAs X n hds l) : HdsAs X n (.ExceptHandler (some (.Name x np)) (some n) (b₀ :: suite) pos' :: hds) ((c, ts) :: l)
section
variable {X : Cx} {n : Str} {i : Nat} {body : List Stmt} {h₀ : ExceptHandler} {hds : List ExceptHandler} {l : List (Value × (Addr → Value → Option Addr → TS))} {pos : Pos} {tb : WX → TS} {Wout : WX}
/-- the clauses, from the first one on, where the error at a is in flight -/
theorem clauses_as (hs : X.stack = X.env :: X.outer) (hf : X.env.frame = some X.env.locals) (hN : X.N.Nodup) (hi : X.N[i]? = some n) (hln : X.env.kindOf n = some .local) (tk : Takes X Wout)
    {pins pinsF : List (Addr × Obj)} {σ : L2.St} {H : Hp} {D : Ends} {sI s : Shared} {a : Addr} {B h3 : Heap} {cls : Value} {d : Option Addr}
    (J : Inv X pins σ H sI) (nb : ∀ b o, sI.heap.get? b = some o → b ∉ frs X.stack → B.get? b = some o) (fl : HandSPX.FlyingZ B (X.env :: X.outer) a (Zc cls d) h3) (up : sI.heap.UpToSlots h3)
    (na : H a = none) (os : s.os = sI.os) (ag : AllBare s.gens) (ep : pinsF = pins) :
    ∀ {hds : List ExceptHandler} {l : List (Value × (Addr → Value → Option Addr → TS))}, HdsAs X n hds l → wManyAs X.K i Wout D l cls d σ H →
      wpAny (model X.prog X.w) X.A (handleBy (.ref a) X.env hds) (SP X pinsF D) X.xe { s with heap := h3 } := by
  subst ep
  have ok := J.ok
  have J3 : Inv X pinsF σ H { s with heap := h3 } := J.landed nb fl.1 up os ag
  obtain ⟨oe3, vs3, he3, hz3, hd3⟩ := fl.there
  have nfr : a ∉ frs (X.env :: X.outer) := by
    intro hm
    obtain ⟨_, o, eo, hno⟩ := fl.2.2.1.mem hm
    rw [he3] at eo
    cases eo
    exact hno _ hd3
  have nL : a ≠ X.env.locals := fun z => nfr (List.mem_filterMap.mpr ⟨X.env, List.mem_cons_self, by rw [hf, z]⟩)
  have nF : a ∉ X.fs := by
    intro hm
    obtain ⟨e, he, q⟩ := List.mem_filterMap.mp hm
    exact nfr (List.mem_filterMap.mpr ⟨e, List.mem_cons_of_mem _ he, q⟩)
  have S3 := J3.suite he3 hd3 na nL nF
  have ty : PySem.W.Looks (model X.prog X.w) h3 (typeOf (.ref a)) cls := fun A Q E s k q => wpAny_typeOf_ref (k _ _ he3) (by rw [hz3.1]; exact q)
  intro hds l hk
  induction hk with
  | nil =>
    intro w
    refine wpAny_handleBy_nil ?_
    obtain ⟨_, _, _, oe, vs, T, oT, ts', he, _, hd, h1, _⟩ := id fl
    have last : wpAny (model X.prog X.w) X.A (setFlight (.ref a) X.env.frame) (fun _ s4 => wpAny (model X.prog X.w) X.A (throw (.ref a) : Sem Flow) (SP X pinsF D) X.xe s4) X.xe { s with heap := h3 } := by
      rw [hf]
      refine HandSPX.setFlight_upZ fl fun h4 hh4 up4 => wpAny_throw (tk _ _ ?_)
      exact ⟨a, B, sI, pinsF, σ, H, cls, d, rfl, J, nb, up.trans up4, .inr (.inr (by rw [hs]; exact hh4)), na, os, ag, w⟩
    unfold PySem.passOn
    refine wpAny_bind (wpAny_field he hd h1 ?_)
    rw [if_neg (by simp : ¬ ((Value.ref T == Value.none) = true))]
    first
      | exact wpAny_bind (wpAny_pure (wpAny_bind last))
      | exact wpAny_bind last
  | @cons x c ts b₀ suite np pos' rest l2 hc hsu r ih =>
    intro w
    obtain ⟨b, hb1, yes, no⟩ := w
    have nameOk : ∀ {Q : Value → Shared → Prop} {E : Value → Shared → Prop}, Q c { s with heap := h3 } → wpAny (model X.prog X.w) (X.A.mark (some (.ref a))) (eval (.Name x np) X.env) Q E { s with heap := h3 } := by
      intro Q E q
      obtain ⟨hg, hdb, hm | ⟨hm, hv, hnn⟩⟩ := hc
      · exact ld_glob (X := X.suite a ((a, oe3) :: (X.pn ++ pinsF))) S3 hg hm q hdb
      · exact ld_blt (X := X.suite a ((a, oe3) :: (X.pn ++ pinsF))) S3 hg hm hv q hnn hdb
    refine wpAny_handleBy_cons (codeAny_handlers_test (nameOk ((PySem.W.exm_one (M := model X.prog X.w) J3.kIn ty hb1).here ?_))) nofun
    cases b with
    | false => exact ih (no rfl)
    | true =>
      refine codeAny_handlers_suite_as (HandSPX.lands_againZ fl fun h4 fl4 up4 => ?_)
      have J4 : Inv X pinsF σ H { s with heap := h4 } := J.landed nb fl4.1 (up.trans up4) os ag
      obtain ⟨oe4, vs4, he4, hz4, hd4⟩ := fl4.there
      refine store_ok (X := X.suite a ((a, oe4) :: (X.pn ++ pinsF))) (v := .ref a) (J4.suite he4 hd4 na nL nF) hN hi (.inl hln) rfl (fun s5 S5 => ?_) (.inr hln)
      have gone : ∀ {σ6 : L2.St} {H6 : Hp} {s6 : Shared} {Q : Shared → Prop}, Inv (X.suite a ((a, oe4) :: (X.pn ++ pinsF))) [] σ6 H6 s6 → (∀ s7, Inv X pinsF (σ6.set i none) H6 s7 → Q s7) →
          wpAny (model X.prog X.w) X.A (do bindName X.env n .none; unbindBehindTheSuite X.env n pos') (fun _ s7 => Q s7) X.xe s6 := fun S6 hq => gone_ok (S6.unsuite ok) hN hi hln hq
      refine wpAny_mono ((hsu a oe4 cls d (X.pn ++ pinsF) hz4 ⟨_, hd4⟩).run [] s5 _ H _ S5 (yes rfl a na)) (fun f s6 hf6 => ?_) (fun _ _ z => z.elim)
      match f, hf6 with
      | .next, ⟨_, _, S6, q6⟩ => exact gone S6 fun s7 J7 => ⟨_, _, J7, q6⟩
      | .brk, ⟨_, _, S6, q6⟩ => exact gone S6 fun s7 J7 => ⟨_, _, J7, q6⟩
      | .cont, ⟨_, _, S6, q6⟩ => exact gone S6 fun s7 J7 => ⟨_, _, J7, q6⟩
      | .ret u, ⟨_, _, _, S6, r6, q6⟩ => exact gone S6 fun s7 J7 => ⟨_, _, _, J7, r6, q6⟩
/-- try: body / except X as n: .. / except Y as n: .. -/
theorem ps_try_manyAs (hs : X.stack = X.env :: X.outer) (hf : X.env.frame = some X.env.locals) (hN : X.N.Nodup) (hi : X.N[i]? = some n) (hln : X.env.kindOf n = some .local) (tk : Takes X Wout)
    (hb : ∀ (W : WX) (pn : List (Addr × Obj)) (xe : Value → Shared → Prop), Takes (X.tr pn xe) W → PassesOwn (model X.prog X.w) X.A X.env xe → PSs (X.tr pn xe) body (tb W)) (hh : HdsAs X n (h₀ :: hds) l) :
    PS X (.Try body (h₀ :: hds) [] [] pos) (fun D σ H => tb (wManyAs X.K i Wout D l) D σ H) := by
  constructor
  intro pins s σ H D I h
  have ok := I.ok
  have hfr : X.A.frames = some (X.env :: X.outer) := by
    rw [ok.frames, hs]
  refine wpAny_Try_except (wpAny_mono ((hb (wManyAs X.K i Wout D l) (X.pn ++ pins) (fun e s₁ => wpAny (model X.prog X.w) X.A (noteFrame e X.env) (fun _ s₂ => wpAny (model X.prog X.w) X.A (setFlight e none)
    (fun _ s₃ => wpAny (model X.prog X.w) X.A (handleBy e X.env (h₀ :: hds)) (SP X pins D) X.xe s₃) X.xe s₂) X.xe s₁) (fun u s' xx => ?_) PassesOwn.looking).run [] s σ H D (I.toTry _) h) (fun f s1 hsp => ?_) fun _ _ he => he)
  · obtain ⟨a, B, sI, pins', σ', H', cls, d, rfl, J', nb, up, sky, na, os, ag, w⟩ := xx
    have J : Inv X pins σ' H' sI := J'.ofTry ok
    rw [hs] at sky
    show wpAny (model X.prog X.w) X.A (noteFrame (.ref a) X.env) _ _ _
    refine Sky.land Zc.steady hfr hf sky fun h3 fl3 up3 => ?_
    exact clauses_as hs hf hN hi hln tk J nb fl3 (up.trans up3) na os ag rfl hh w
  · match f, hsp with
    | .next, ⟨_, _, J', q⟩ => exact wpAny_execs_nil ⟨_, _, J'.ofTry ok, q⟩
    | .brk, ⟨_, _, J', q⟩ => exact ⟨_, _, J'.ofTry ok, q⟩
    | .cont, ⟨_, _, J', q⟩ => exact ⟨_, _, J'.ofTry ok, q⟩
    | .ret u, ⟨_, _, _, J', r, q⟩ => exact ⟨_, _, _, J'.ofTry ok, r, q⟩
end
/-! ### isinstance(e, c), e an error with an own dict -/
theorem call_isE2 {X : Cx} {a D dd : Addr} {oe : Obj} {pn : List (Addr × Obj)} (C : ExcC X.K D) (hz : Zc (.ref D) (some dd) oe) (hf : ∃ vs, oe.data = .fields vs) :
    CallR (X.suite a ((a, oe) :: pn)) (.builtin "isinstance") (fun xs H Q => (∃ fs, H dd = some (.xd fs)) ∧ rIsE X.K D a xs H Q) := by
  intro pins s σ H xs us Q I r h
  obtain ⟨⟨fs, hdd⟩, c, cv, b, rfl, hcv, e, q⟩ := h
  obtain ⟨u1, u2, rfl, r1, r2⟩ := vals2 r
  obtain rfl : u1 = Value.ref a := r1
  obtain rfl := hcv _ r2
  obtain ⟨hget, _⟩ := I.pin (a, oe) (List.mem_append.mpr (.inl List.mem_cons_self))
  obtain ⟨vs, hv⟩ := hf
  obtain ⟨mA, ⟨od, es, ep, hod, _⟩, _⟩ := I.hok dd _ hdd
  have J : PySem.W.InstAt s.heap a oe D (some od) := by
    obtain ⟨oc, oda, odt, osl⟩ := oe
    obtain ⟨h1, h2⟩ := hz
    dsimp only at h1 h2 hv
    subst h1 h2 hv
    exact ⟨hget, rfl, rfl, hod⟩
  have hcl : (PySem.W.clsIn X.K D).isSome = true := by
    obtain ⟨cd, hc, _⟩ := PySem.W.any_some C.hd
    rw [hc]
    rfl
  have KX : PySem.W.KitX X.K (.ref a) (.ref D) (fun h => PySem.W.InstAt h a oe D (some od)) := PySem.W.kitx_exc hcl C.hg C.hk C.hs C.ha C.hn C.ht C.hm
  exact PySem.W.kia_one KX I.kIn J e (fun z => nomatch z) fun tk => ⟨.bl b, H, I.kept (t' := tk) fun _ _ z => z, rfl, q⟩
end LG
/-! Sets of ints: set(list of ints), a set comprehension of ints. -/
namespace LG
open PySem PySem.Spec PyProof.Rows L2
/-- a set that was just made -/
abbrev oSet (w : World) : Obj := { cls := .type "set", dict := none, data := .set #[] 0 (.fresh 0 0 (!w.params.followText "set-order")) }
section
variable {P : Program} {w : World} {A : Around} {E : Value → Shared → Prop} {s : Shared}
theorem setR_nil {h : Heap} {a : Addr} (ho : h.get? a = some (oSet w)) : SetR w h a (fun _ => false) 0 := (setR_new_at (ns := []) ho).congr fun k => by simp
theorem oSet_in {h : Heap} : (h.push (oSet w)).get? h.objs.size = some (oSet w) := Heap.get?_push_size _ rfl
/-- set.__init__(S, l): the members of the list l, from left to right -/
theorem set_init_list {l : Addr} {items : Array Value} (ns : List Int) (hh : A.handled = none) (hl : s.heap.IsList l items) (hit : IntsAre items.toList ns) (hb : ns.length + 1 < scanBound)
    {R : Result → Shared → Prop} (h : ∀ (h' : Heap) (tk c : Nat), SetR w h' s.heap.objs.size (fun j => decide (j ∈ ns)) c → c ≤ ns.length → (∀ b o, s.heap.get? b = some o → h'.get? b = some o) → R (.ok (.ret .none)) { s with heap := h', toks := tk }) :
    codeAny (model P w) A (.call (.builtin "set.__init__") ⟨[.ref s.heap.objs.size, .ref l], []⟩) R { s with heap := s.heap.push (oSet w) } := by
  have hisz : items.size = ns.length := by
    rw [← Array.length_toList, IntsAre.length hit]
  have hT : Shared.TypeIs { s with heap := s.heap.push (oSet w) } (.ref s.heap.objs.size) "set" := ⟨_, oSet_in, rfl⟩
  have hi : s.heap.objs.size + 1 = (s.heap.push (oSet w)).objs.size := (Heap.size_push _ _).symm
  refine codeAny_call_builtin PySem.F.called_set.init.plain PySem.F.entry_set_init (check_set_init_1 hT ?_)
  obtain ⟨ol, hol, hcl, nl, hdl⟩ := hl
  obtain ⟨ocls, odict, odata, oslots⟩ := ol
  simp only at hcl hdl
  subst hcl
  subst hdl
  have hol' := Heap.get?_push_of_some (oSet w) hol
  have hl1 : (s.heap.push (oSet w)).IsList l items := ⟨_, hol', rfl, nl, rfl⟩
  have f1 := PySem.F.sub_list_set
  have f2 := PySem.F.sub_list_frozenset
  have f3 : (Value.type "list" == Value.type "dict") = false := by decide
  have hlS : l < s.heap.objs.size := Heap.lt_size hol
  unfold Builtin.«set.__init__» noKeywords Builtin.Frozenset.updateFrom
  generalize hPI : pyIter = PI
  wp_walk
  subst hPI
  refine wpAny_pyIter_list hl1 (wpAny_bind (wpAny_runValue ?_))
  have hh3 : A.in1.in1.handled = none := by simp [hh]
  have nI : l ≠ (s.heap.push (oSet w)).objs.size := by
    rw [← hi]
    exact Nat.ne_of_lt (Nat.lt_succ_of_lt hlS)
  have nS : s.heap.objs.size ∉ [(s.heap.push (oSet w)).objs.size, l] := by
    rw [← hi]
    simp only [List.mem_cons, List.not_mem_nil, or_false, not_or]
    exact ⟨Nat.ne_of_lt (Nat.lt_succ_self _), Nat.ne_of_gt hlS⟩
  have each : ∀ (i : Nat) (v : Value), items[i]? = some v → ∃ k t, ns[i]? = some k ∧ v = .int k t := by
    intro i v hv
    have hi : i < ns.length := by
      rw [← hisz]
      exact (Array.getElem?_eq_some_iff.mp hv).1
    obtain ⟨t, e⟩ := IntsAre.int_at hit i v (by rw [Array.getElem?_toList]; exact hv)
    refine ⟨ns[i], t, List.getElem?_eq_getElem hi, e.trans ?_⟩
    rw [List.getD_eq_getElem?_getD, List.getElem?_eq_getElem hi]
    rfl
  refine set_update_ints ((Walks.list hh3 _ l nI items).toS) s.heap.objs.size nS ns hisz hb each (items.size - 0) 0 _ (by omega) (Nat.zero_le _) ?hst ?hS0 ?hR
  case hst => exact ⟨⟨_, Heap.get?_push_size _ rfl, rfl, rfl⟩, hl1.push _⟩
  case hS0 =>
    have z : ((s.heap.push (oSet w)).push { cls := .type "list_iterator", data := .fields #[.ref l, .int 0 0] }).get? s.heap.objs.size = some (oSet w) := Heap.get?_push_of_some _ oSet_in
    exact ⟨0, Nat.le_refl 0, setR_new_at z⟩
  intro s' c hm hc hS
  obtain ⟨h', g', d', tk', os'⟩ := s'
  obtain rfl : g' = s.gens := hm.gens
  obtain rfl : d' = s.drawn := hm.drawn
  obtain rfl : os' = s.os := hm.os
  show wpAny _ _ _ _ _ _
  refine wpAny_pure ?_
  show wpAny _ _ (ret Value.none) _ _ _
  rw [hisz] at hc
  refine wpAny_pure (h h' tk' c hS hc fun b o e => hm.heap b o ?_ (Heap.get?_push_of_some _ (Heap.get?_push_of_some _ e)))
  have hb0 := Heap.lt_size e
  rw [← hi]
  simp only [List.mem_cons, List.not_mem_nil, or_false, not_or]
  exact ⟨Nat.ne_of_lt hb0, Nat.ne_of_lt (Nat.lt_succ_of_lt hb0)⟩
/-- set(l), l a list of ints -/
theorem call_set_list {l : Addr} {items : Array Value} (ns : List Int) {Q : Value → Shared → Prop} (hh : A.handled = none) (hl : s.heap.IsList l items) (hit : IntsAre items.toList ns) (hb : ns.length + 1 < scanBound)
    (h : ∀ (h' : Heap) (tk c : Nat), SetR w h' s.heap.objs.size (fun j => decide (j ∈ ns)) c → c ≤ ns.length → (∀ b o, s.heap.get? b = some o → h'.get? b = some o) → Q (.ref s.heap.objs.size) { s with heap := h', toks := tk }) :
    wpAny (model P w) A (call (.type "set") [.ref l]) Q E s := by
  obtain ⟨c, tl, hmro⟩ := PySem.F.called_set.mro
  have hmade := PySem.F.called_set.made
  have hsub := PySem.F.called_set.sub
  have h1 := PySem.F.called_set.notType
  have h2 := PySem.F.called_set.canCreate
  have hct := PySem.F.typeCall_set_1 (.ref l)
  have hli := PySem.F.called_set.init.lookup
  have hbi := PySem.F.called_set.init.bind (.ref s.heap.objs.size)
  refine wpAny_call (codeAny_of_tree ?_)
  show wpAny _ _ (callAny (.type "set") _) _ _ _
  refine wpAny_pure ⟨Code.quiet_builtin _ (by decide +kernel), codeAny_builtin PySem.F.entry_type_call ?_⟩
  rw [Around.under_plain (weight_type_call_type "set" [.ref l] []) rfl]
  repeat (any_goals (first | assumption | wp_step))
  refine codeAny_mono (code_set_led1 (.ref l) (E := E) (Q₁ := fun obj s₁ => obj = .ref s.heap.objs.size ∧ s₁ = { s with heap := s.heap.push (oSet w) }) ⟨rfl, rfl⟩) fun r s₁ hr => ?_
  match r, hr with
  | .error e, hr => exact hr
  | .ok (.ret obj), ⟨e1, e2⟩ =>
    subst e1 e2
    have hT : Shared.TypeIs { s with heap := s.heap.push (oSet w) } (.ref s.heap.objs.size) "set" := ⟨_, oSet_in, rfl⟩
    repeat (any_goals (first | assumption | wp_step))
    refine codeAny_mono (set_init_list (R := wants (fun r s₂ => r = .none ∧ ∃ h' tk c, s₂ = { s with heap := h', toks := tk } ∧ SetR w h' s.heap.objs.size (fun j => decide (j ∈ ns)) c ∧ c ≤ ns.length ∧
      (∀ b o, s.heap.get? b = some o → h'.get? b = some o)) E) ns (by simp [hh]) hl hit hb fun h' tk c a b e => ⟨rfl, h', tk, c, rfl, a, b, e⟩) fun r₂ s₂ hr₂ => ?_
    match r₂, hr₂ with
    | .ok (.ret r), ⟨e1, h', tk, c', e2, hS', hc', hk'⟩ =>
      subst e1 e2
      repeat (any_goals (first | assumption | wp_step))
      exact h _ _ _ hS' hc' hk'
    | .error e, hr₂ => exact hr₂
end
/-- as a rule: the members are the ints of the list -/
def rSetL (K : PySem.W.Frag) (w : World) : List V → Hp → VK → Prop := fun xs H Q => ∃ (l : Addr) (ns : List Int), xs = [.ref l] ∧ SqL K H l (ns.map V.int) ∧ ns.length ≤ 1000 ∧
  ∀ (p : Addr) (S : Int → Bool) (n : Nat), H p = none → (∀ k, S k = true ↔ k ∈ ns) → n ≤ ns.length → Q (.ref p) (upd H p (SetO w p S n))
theorem cr_setL {X : Cx} (hc : X.calm = true) : CallR X (.type "set") (rSetL X.K X.w) := by
  intro pins s σ H xs us Q I r h
  obtain ⟨l, ns, rfl, hs, hl, q⟩ := h
  obtain ⟨u, rfl, r1⟩ := vals1 r
  obtain rfl : u = Value.ref l := r1
  obtain ⟨its, rv, pl, _⟩ := I.list hs
  refine call_set_list ns (I.ok.hd hc) pl.isList (ints_of_vals rv) (by unfold scanBound; omega) fun h' tk c hS hcl hk => ?_
  exact ⟨.ref s.heap.objs.size, upd H s.heap.objs.size (SetO X.w s.heap.objs.size (fun j => decide (j ∈ ns)) c), I.laid hk (Nat.le_refl _) (setO_new hS), rfl, q _ _ _ (I.hok.fresh (Nat.le_refl _)) (fun k => decide_eq_true_iff) hcl⟩
end LG
/-! A set comprehension whose members are of one kind (ints; keys), and its loops. -/
namespace LG
open PySem PySem.Spec PyProof.Rows L2
/-- a kind of sets: how a member stands as a value, how such a set stands in the heap, and the two facts that are used of it -/
structure SetK1 (κ : Type) [DecidableEq κ] where
  toV : κ → V
  SO : Program → World → Addr → (κ → Bool) → Nat → HO
  fresh : ∀ {P : Program} {w : World} {H : Hp} {h : Heap} {a : Addr}, h.get? a = some (oSet w) → ObjOk P w H h a (SO P w a (fun _ => false) 0)
  add : ∀ {X : Cx} {pins : List (Addr × Obj)} {σ : L2.St} {H : Hp} {s : Shared} {E : Value → Shared → Prop} {D : Addr} {S : κ → Bool} {n : Nat} {y : κ} {u : Value} {Q : Value → Shared → Prop}, Inv X pins σ H s → H D = some (SO X.prog X.w D S n) → n + 1 < scanBound → L2.RelV (toV y) u →
    (∀ s', Inv X pins σ (upd H D (SO X.prog X.w D (fun j => S j || decide (j = y)) (if S y = true then n else n + 1))) s' → Q .none s') → wpAny (model X.prog X.w) X.A (call (.builtin "set.add") [.ref D, u]) Q E s
def setI : SetK1 Int where
  toV := V.int
  SO := fun _ w a S n => SetO w a S n
  fresh := fun h => setO_new (setR_nil h)
  add := fun {X pins σ H s E D S n y u Q} I hD room r h => by
    obtain ⟨t, rfl⟩ := r
    refine setR_add (setO_get I hD) room fun h' sb new => ?_
    have he : ∃ o, h'.get? D = some o := by
      obtain ⟨o, _, _, _, ho, _⟩ := id new
      exact ⟨o, ho⟩
    exact h _ (I.write (e := D) (t' := s.toks + 1) (by rw [hD]; trivial) (.inl rfl) (fun b o hb ho => (sb.2 b hb).trans ho) he (setO_new new))
section
variable {κ : Type} [DecidableEq κ] (k : SetK1 κ)
/-- {elt for target in iter if ..} -/
def tScK (P : Program) (w : World) (wi : TI) (g : TG) (tt : TT) (te : TE) (vs : List Nat) : TE := fun σ H Q => wi σ H fun J H1 => ∀ D, H1 D = none → ∃ W : Nat → Nat → Hp → Prop, (∃ m, W 0 m (upd H1 D (k.SO P w D (fun _ => false) 0))) ∧ ∀ i m H, W i m H →
  (J.stop i H ∧ Q (.ref D) H) ∨ (J.go i H ∧ ∃ Nx : Hp → Prop, (∀ H', Nx H' → ∃ m', m' < m ∧ W (i + 1) m' H') ∧ ∀ x H', J.yld i H x H' → g x (wipe σ vs) H' fun σ2 H2 => wipe σ2 vs = wipe σ vs ∧ tt σ2 H2 fun b H3 =>
    if b = true then te σ2 H3 fun y H4 => ∃ (c : κ) (S : κ → Bool) (n : Nat), y = k.toV c ∧ H4 D = some (k.SO P w D S n) ∧ n + 1 < scanBound ∧ Nx (upd H4 D (k.SO P w D (fun j => S j || decide (j = c)) (if S c = true then n else n + 1))) else Nx H3)
variable {X : Cx}
theorem pe_scK {elt tg iter : Expr} {ifs : List Expr} {scope : Scope} {own : List (PySem.Str × Nat)} {pos : Pos} {wi : TI} {g : TG} {tt : TT} {te : TE} (hc : X.calm = true) (hN : X.N.Nodup) (hi : PI X tg iter wi) (ok : BlkOk X.N X.env.scope scope own)
    (hg : ∀ (s : Shared) (H : Hp) (C : Addr) (cl : List (PySem.Str × Addr)) (fp : List Addr), PG (X.blk s H scope (compEnvC scope cl C X.env) fp) tg g)
    (ht : ∀ (s : Shared) (H : Hp) (C : Addr) (cl : List (PySem.Str × Addr)) (fp : List Addr), PTs (X.blk s H scope (compEnvC scope cl C X.env) fp) ifs tt)
    (he : ∀ (s : Shared) (H : Hp) (C : Addr) (cl : List (PySem.Str × Addr)) (fp : List Addr), PE (X.blk s H scope (compEnvC scope cl C X.env) fp) elt te)
    (hs : ∀ x, foldedSetIterable iter X.env x = pure x := by intro _; rfl) :
    PE X (.SetComp elt [⟨tg, iter, ifs, 0⟩] scope pos) (tScK k X.prog X.w wi g tt te (own.map (·.2))) := by
  constructor
  intro pins s σ H Q I h
  rw [PpSet.eval_SetComp]
  have hfree : ∀ y ∈ scope.names, y.2 = .free → ∃ c, X.env.cells.lookup y.1 = some c := fun y hy e => (ok.free y hy e).elim (fun z => I.ok.has _ (.inl z)) fun z => I.ok.has _ (.inr z)
  refine wpAny_comprehension_free rfl hs (closure_ok hfree) ok.kind (fun y hy e => by rw [ok.uniq y hy, e]) (thn (hi.run pins s σ H _ I h) fun xv s1 hx => thn hx fun itv s2 h2 => ?_)
  obtain ⟨it, fp, tn, J, H2, e, I2, T, st2, f2, q⟩ := h2
  subst e
  refine PpSet.newSet_ok (newEnv_comp ?_)
  have szD : H2 s2.heap.objs.size = none := I2.hok.fresh (Nat.le_refl _)
  generalize hD : s2.heap.objs.size = D at szD
  obtain ⟨W, ⟨m0, w0⟩, turn⟩ := q D szD
  generalize hO : k.SO X.prog X.w D (fun _ => false) 0 = o0 at w0
  generalize hs3 : ({ s2 with heap := s2.heap.push (oSet X.w) } : Shared) = s3
  have h3 : s3.heap = s2.heap.push (oSet X.w) := by
    rw [← hs3]
  have I3 : Inv X pins σ (upd H2 D o0) s3 := by
    rw [← hs3, ← hO]
    refine I2.laid (t' := s2.toks) (fun b o e => Heap.get?_push_of_some _ e) (Nat.le_of_eq hD) (k.fresh ?_)
    rw [← hD]
    exact oSet_in
  have sz : ∀ b ∈ fp, b < s2.heap.objs.size := fun b hb => by
    obtain ⟨o, e, _⟩ := T.obj _ _ st2 b hb
    exact Heap.lt_size e
  have f3 : ∀ b ∈ fp, FpOk X pins (upd H2 D o0) b ∧ b < s3.heap.objs.size := fun b hb => by
    have hlt := sz b hb
    refine ⟨⟨?_, (f2 b hb).2⟩, ?_⟩
    · rw [upd_ne (by rw [← hD]; exact Nat.ne_of_lt hlt)]
      exact (f2 b hb).1
    · rw [h3, Heap.size_push]
      exact Nat.lt_succ_of_lt hlt
  have st3 : tn 0 s3.heap := T.keep _ _ _ st2 fun b _ o e => by
    rw [h3]
    exact Heap.get?_push_of_some _ e
  have I4 := block_start I3 ok hN f3
  have pg := hg s3 (upd H2 D o0) s3.heap.objs.size (cellsFrom (s3.heap.objs.size + 1) scope.names (cloFrom X.env.cells scope.names [])) fp
  have pt := ht s3 (upd H2 D o0) s3.heap.objs.size (cellsFrom (s3.heap.objs.size + 1) scope.names (cloFrom X.env.cells scope.names [])) fp
  have pe := he s3 (upd H2 D o0) s3.heap.objs.size (cellsFrom (s3.heap.objs.size + 1) scope.names (cloFrom X.env.cells scope.names [])) fp
  show codeAny _ _ (.compStart (.SetComp elt [⟨tg, iter, ifs, 0⟩] scope pos) 0 (.ref it) (.ref D) (compEnvC scope (cellsFrom (s3.heap.objs.size + 1) scope.names (cloFrom X.env.cells scope.names [])) s3.heap.objs.size X.env)) _ { s3 with heap := pushCells (s3.heap.push { cls := .type "dict", data := .dict #[] }) scope.names }
  generalize hce : compEnvC scope (cellsFrom (s3.heap.objs.size + 1) scope.names (cloFrom X.env.cells scope.names [])) s3.heap.objs.size X.env = ce at I4 pg pt pe ⊢
  have cL : ce.locals = s3.heap.objs.size := by
    subst hce
    rfl
  have nfp : ∀ b ∈ fp, (upd H2 D o0) b = none := fun b hb => (f3 b hb).1.1
  generalize hH3 : upd H2 D o0 = H3 at I3 I4 pg pt pe w0 nfp f3
  generalize hs4 : ({ s3 with heap := pushCells (s3.heap.push { cls := .type "dict", data := .dict #[] }) scope.names } : Shared) = s4 at I4 ⊢
  have st4 : tn 0 s4.heap := T.keep _ _ _ st3 fun b _ o e => by
    rw [← hs4]
    exact pushCells_keeps _ _ _ _ (Heap.get?_push_of_some _ e)
  have stat : ∀ {σ' : L2.St} {H' : Hp} {s' : Shared}, Inv (X.blk s3 H3 scope ce fp) [] σ' H' s' → (∀ b ∈ fp, H' b = none) → ∀ b ∈ fp, FpOk (X.blk s3 H3 scope ce fp) [] H' b := fun I' hn b hb =>
    ⟨hn b hb, (I'.ok.exf b hb).1, I'.ok.exfs b hb, .inl hb, fun x c e => (I'.ok.exf b hb).2 x c e, fun p hp => absurd (show p ∈ ([] : List (Addr × Obj)) ++ [] from hp) (by simp)⟩
  refine (fun loop => PpSet.codeAny_compStart_set loop (T.self X.A 0 _ _ _ st4 loop)) ?_
  refine PpSet.compLoopS_any (fun n s' => ∃ i H', Inv (X.blk s3 H3 scope ce fp) [] (wipe σ (own.map (·.2))) H' s' ∧ tn i s'.heap ∧ (∀ b ∈ fp, H' b = none) ∧ W i n H') ?_ m0 ⟨0, H3, I4, st4, nfp, w0⟩
  rintro n s5 ⟨i, H5, I5, st5, n5, w5⟩
  rcases turn i n H5 w5 with ⟨stop, qq⟩ | ⟨go, Nx, hNx, step⟩
  · refine thnF (T.done (X.blk s3 H3 scope ce fp) rfl rfl rfl hc i [] s5 _ H5 (fun _ _ => False) I5 (stat I5 n5) st5 stop) fun r s6 ⟨hr, I6⟩ => ?_
    subst hr
    have I7 : Inv X pins σ H5 s6 := I3.call' (ch := fp) I6.os I6.base I6.hok I6.bare fun b hb => ⟨(f3 b hb).1.2.2.2.1, (f3 b hb).1.2.1, (f3 b hb).1.2.2.2.2.1, (f3 b hb).1.2.2.2.2.2⟩
    have nC : H5 s3.heap.objs.size = none := by
      rw [← cL]
      exact I6.free
    obtain ⟨m, hn, _⟩ := I6.loc
    have hn' : s6.heap.Ns s3.heap.objs.size m := by
      rw [← cL]
      exact hn
    obtain ⟨f0, f1, _, f3', f4, f5⟩ := I3.fpOk (Nat.le_refl _) nC
    refine ⟨m, hn', fun h'' sb => ?_⟩
    exact ⟨.ref D, H5, I7.turned (t' := s6.toks) (fun b o hb e => (sb.2 b hb).trans e) f0 f1 f3' f4 f5, rfl, qq⟩
  · refine thnF (T.item (X.blk s3 H3 scope ce fp) rfl rfl rfl hc i [] s5 _ H5 (fun _ _ => False) I5 (stat I5 n5) st5 go) fun r s6 ⟨u, hr, h6⟩ => ?_
    subst hr
    refine thnF h6 fun _ s7 ⟨x, H7, I7, r7, y7, st7, n7⟩ => ?_
    have I7' := I7.pinned (stat I7 n7) (T.obj _ _ st7)
    refine thnF (pg.run _ s7 _ H7 x u _ I7' r7 (step x H7 y7)) fun _ s8 ⟨σ8, H8, I8, hw8, q8⟩ => ?_
    refine thnF (pt.run _ s8 σ8 H8 _ I8 q8) fun b s9 ⟨H9, I9, q9⟩ => ?_
    have fin : ∀ {s' : Shared} {H' : Hp}, Inv (X.blk s3 H3 scope ce fp) ([] ++ pinsAt fp s7.heap) σ8 H' s' → Nx H' → ∃ m, m < n ∧ ∃ i H', Inv (X.blk s3 H3 scope ce fp) [] (wipe σ (own.map (·.2))) H' s' ∧ tn i s'.heap ∧ (∀ b ∈ fp, H' b = none) ∧ W i m H' := by
      intro s' H' I' nx
      obtain ⟨m', hm, w'⟩ := hNx H' nx
      have pin' : ∀ b ∈ fp, ∀ o, s7.heap.get? b = some o → s'.heap.get? b = some o ∧ H' b = none := fun b hb o e =>
        let z := I'.pin (b, o) (List.mem_append_right _ (List.mem_append_right _ (mem_pinsAt hb e)))
        ⟨z.1, z.2.1⟩
      have hl : (wipe σ (own.map (·.2))).length = σ8.length := by
        rw [← hw8, wipe_length]
      refine ⟨m', hm, i + 1, H', (I'.unpinned (pins := [])).weak hl (fun j v e => ?_), T.keep _ _ _ st7 fun b hb o e => (pin' b hb o e).1, fun b hb => ?_, w'⟩
      · rw [← hw8] at e
        exact (wipe_some e).1
      · obtain ⟨o, e, _⟩ := T.obj _ _ st7 b hb
        exact (pin' b hb o e).2
    cases b with
    | false =>
      simp only [Bool.false_eq_true, if_false] at q9 ⊢
      exact fin I9 q9
    | true =>
      simp only [if_true] at q9 ⊢
      refine thnF (pe.run _ s9 σ8 H9 _ I9 q9) fun z s10 ⟨yv, H10, I10, r10, cb, S0, n0, ey, hD10, hz10, nx⟩ => ?_
      subst ey
      exact k.add (X := X.blk s3 H3 scope ce fp) I10 hD10 hz10 r10 fun s11 I11 => fin I11 nx
/-- over a list that the block leaves as it is -/
theorem sc_list {P : Program} {w : World} {K : PySem.W.Frag} {a : Addr} {xs : List V} {g : TG} {tt : TT} {te : TE} {vs : List Nat} {σ : L2.St} {H1 : Hp} {D : Addr} {Qd : Hp → Prop} (Pv : Nat → Hp → Prop) (h0 : Pv 0 (upd H1 D (k.SO P w D (fun _ => false) 0)))
    (hl : ∀ i H, i ≤ xs.length → Pv i H → SqL K H a xs)
    (hs : ∀ i x H, xs[i]? = some x → Pv i H → g x (wipe σ vs) H fun σ2 H2 => wipe σ2 vs = wipe σ vs ∧ tt σ2 H2 fun b H3 =>
      if b = true then te σ2 H3 fun y H4 => ∃ (c : κ) (S : κ → Bool) (n : Nat), y = k.toV c ∧ H4 D = some (k.SO P w D S n) ∧ n + 1 < scanBound ∧ Pv (i + 1) (upd H4 D (k.SO P w D (fun j => S j || decide (j = c)) (if S c = true then n else n + 1))) else Pv (i + 1) H3) (hd : ∀ H, Pv xs.length H → Qd H) :
    ∃ W : Nat → Nat → Hp → Prop, (∃ m, W 0 m (upd H1 D (k.SO P w D (fun _ => false) 0))) ∧ ∀ i m H, W i m H →
      ((Itl K a).stop i H ∧ Qd H) ∨ ((Itl K a).go i H ∧ ∃ Nx : Hp → Prop, (∀ H', Nx H' → ∃ m', m' < m ∧ W (i + 1) m' H') ∧ ∀ x H', (Itl K a).yld i H x H' → g x (wipe σ vs) H' fun σ2 H2 => wipe σ2 vs = wipe σ vs ∧ tt σ2 H2 fun b H3 =>
        if b = true then te σ2 H3 fun y H4 => ∃ (c : κ) (S : κ → Bool) (n : Nat), y = k.toV c ∧ H4 D = some (k.SO P w D S n) ∧ n + 1 < scanBound ∧ Nx (upd H4 D (k.SO P w D (fun j => S j || decide (j = c)) (if S c = true then n else n + 1))) else Nx H3) := by
  refine ⟨fun i m H => m = xs.length - i ∧ i ≤ xs.length ∧ Pv i H, ⟨xs.length, by simp, Nat.zero_le _, h0⟩, ?_⟩
  rintro i m H ⟨rfl, hi, p⟩
  have q := hl i H hi p
  rcases Nat.lt_or_ge i xs.length with hlt | hge
  · refine .inr ⟨⟨xs, xs[i], q, by simp [hlt]⟩, Pv (i + 1), fun H' p' => ⟨xs.length - (i + 1), by omega, rfl, hlt, p'⟩, ?_⟩
    rintro x H' ⟨e, y⟩
    subst e
    exact hs i x _ (y xs q) p
  · obtain rfl : i = xs.length := by omega
    exact .inl ⟨⟨xs, q, Nat.le_refl _⟩, hd H p⟩
/-- over a tuple that the block leaves as it is -/
theorem sc_tupK {P : Program} {w : World} {K : PySem.W.Frag} {a : Addr} {xs : List V} {g : TG} {tt : TT} {te : TE} {vs : List Nat} {σ : L2.St} {H1 : Hp} {D : Addr} {Qd : Hp → Prop} (Pv : Nat → Hp → Prop) (h0 : Pv 0 (upd H1 D (k.SO P w D (fun _ => false) 0)))
    (hl : ∀ i H, i ≤ xs.length → Pv i H → SqT K H a xs)
    (hs : ∀ i x H, xs[i]? = some x → Pv i H → g x (wipe σ vs) H fun σ2 H2 => wipe σ2 vs = wipe σ vs ∧ tt σ2 H2 fun b H3 =>
      if b = true then te σ2 H3 fun y H4 => ∃ (c : κ) (S : κ → Bool) (n : Nat), y = k.toV c ∧ H4 D = some (k.SO P w D S n) ∧ n + 1 < scanBound ∧ Pv (i + 1) (upd H4 D (k.SO P w D (fun j => S j || decide (j = c)) (if S c = true then n else n + 1))) else Pv (i + 1) H3) (hd : ∀ H, Pv xs.length H → Qd H) :
    ∃ W : Nat → Nat → Hp → Prop, (∃ m, W 0 m (upd H1 D (k.SO P w D (fun _ => false) 0))) ∧ ∀ i m H, W i m H →
      ((Itt K a).stop i H ∧ Qd H) ∨ ((Itt K a).go i H ∧ ∃ Nx : Hp → Prop, (∀ H', Nx H' → ∃ m', m' < m ∧ W (i + 1) m' H') ∧ ∀ x H', (Itt K a).yld i H x H' → g x (wipe σ vs) H' fun σ2 H2 => wipe σ2 vs = wipe σ vs ∧ tt σ2 H2 fun b H3 =>
        if b = true then te σ2 H3 fun y H4 => ∃ (c : κ) (S : κ → Bool) (n : Nat), y = k.toV c ∧ H4 D = some (k.SO P w D S n) ∧ n + 1 < scanBound ∧ Nx (upd H4 D (k.SO P w D (fun j => S j || decide (j = c)) (if S c = true then n else n + 1))) else Nx H3) := by
  refine ⟨fun i m H => m = xs.length - i ∧ i ≤ xs.length ∧ Pv i H, ⟨xs.length, by simp, Nat.zero_le _, h0⟩, ?_⟩
  rintro i m H ⟨rfl, hi, p⟩
  have q := hl i H hi p
  rcases Nat.lt_or_ge i xs.length with hlt | hge
  · refine .inr ⟨⟨xs, xs[i], q, by simp [hlt]⟩, Pv (i + 1), fun H' p' => ⟨xs.length - (i + 1), by omega, rfl, hlt, p'⟩, ?_⟩
    rintro x H' ⟨e, y⟩
    subst e
    exact hs i x _ (y xs q) p
  · obtain rfl : i = xs.length := by omega
    exact .inl ⟨⟨xs, q, Nat.le_refl _⟩, hd H p⟩
end
end LG
/-! Calls by keywords alone, defs with a star, the law's entry where no guard is on the stack. -/
namespace LG
open PySem PySem.Spec PyProof.Rows L2

/-! ### a promise for any way to bind -/
def FnB (P : Program) (w : World) (K : PySem.W.Frag) (mg : Str → Option Value) (base : Heap) (k : Nat) (f : Addr) (fd : FuncData) (ps : List Str) (sp : Sp) : Prop :=
  ∀ (A : Around) (outer : List Env) (s : Shared) (H : Hp) (args : Args) (us : List Value) (vs : List V) (Q : VK) (E : XK),
    A.guards = some [] → Room k A → Env0 P w K mg base A outer s H → BindsTo s fd args (ps.zip us) → Vals vs us → vs.length = ps.length → sp vs H Q E →
    codeAny (model P w) A (.call (.ref f) args) (CR (L2.CX P w) outer P w H s Q E) s
section
variable {P : Program} {w : World} {K : PySem.W.Frag} {mg : Str → Option Value} {base : Heap} {k : Nat} {f : Addr} {sp : Sp} {x qual : Str} {st : Stmt} {fd : FuncData} {N ps : List Str}
theorem FnB.of (F : Fun K x qual st f fd) (S : FnScope N ps (defScope st))
    (body : ∀ (cdv : Value) (A : Around) (outer : List Env) (s : Shared) (H : Hp) (vs : List V) (Q : VK) (E : XK), A.guards = some [] →
      Room k (A.deeper (envOfC qual (defScope st) s.heap.objs.size f cdv)) → sp vs H Q E →
      ∃ t, PSs (cxOf (L2.CX P w) P w K mg base N qual (defScope st) f cdv A outer s H E) (defBody st) t ∧ t { nx := fun _ H' => Q .non H', rt := Q } (start N vs) H) :
    FnB P w K mg base (k + 1) f fd ps sp := by
  intro A outer s H args us vs Q E hg hr e0 hb rv hl hsp
  obtain ⟨oc, od, kV, doc, pm, an, cdv, ct, osl, rfl, lk, hcd⟩ := F.ex
  exact LamX.run_ofS lk hcd S hr e0 hb rv hl fun hr' => body cdv A outer s H vs Q E hg hr' hsp
theorem FnB.fn (F : FnB P w K mg base k f fd ps sp) (hb : Binds K fd ps []) (len : ∀ vs H Q E, sp vs H Q E → vs.length = ps.length) : Fn P w K mg base k f sp := by
  intro A outer s H us vs Q E hg hr e0 rv hsp
  have KX : K.In s.heap := e0.mod.kin.keeps fun b o e => (e0.bs b o e).1
  have hl := len _ _ _ _ hsp
  have hb' := hb s us KX (by rw [List.append_nil, ← rv.length]; exact hl)
  rw [List.append_nil] at hb'
  exact F A outer s H ⟨us, []⟩ us vs Q E hg hr e0 hb' rv hl hsp
/-- def f(*v): the arguments are a new tuple -/
theorem Fn.ofStar {pv : Str} (F : Fun K x qual st f fd) (S : FnScope N [pv] (defScope st)) (hb : ∀ us : List Value, bindArgs fd ⟨us, []⟩ = (newTuple us >>= fun t => pure [(pv, t)]))
    (body : ∀ (cdv : Value) (A : Around) (outer : List Env) (s : Shared) (H : Hp) (vs : List V) (Q : VK) (E : XK), A.guards = some [] →
      Room k (A.deeper (envOfC qual (defScope st) s.heap.objs.size f cdv)) → sp vs H Q E →
      ∃ t, PSs (cxOf (L2.CX P w) P w K mg base N qual (defScope st) f cdv A outer s H E) (defBody st) t ∧ t { nx := fun _ H' => Q .non H', rt := Q } (start N vs) H) :
    Fn P w K mg base (k + 1) f (fun vs H Q E => vs.length ≤ sizeLine ∧ ∀ p, H p = none → sp [V.ref p] (upd H p (.tup vs)) Q E) := by
  intro A outer s H us vs Q E hg hr e0 rv hsp
  obtain ⟨hz, hq⟩ := hsp
  obtain ⟨oc, od, kV, doc, pm, an, cdv, ct, osl, rfl, lk, hcd⟩ := F.ex
  have hn : H s.heap.objs.size = none := e0.hok.fresh (Nat.le_refl _)
  have hl : us.length ≤ sizeLine := by
    rw [← rv.length]
    exact hz
  refine StX.run_bnd lk hcd S hr e0 (G := fun xs H2 => ∃ p, H p = none ∧ xs = [V.ref p] ∧ H2 = upd H p (.tup vs)) (fun A' Ex Q' h => ?_) fun s2 H2 xs ⟨p, hp, ex, eH⟩ hr' => ?_
  · rw [hb us]
    refine wpAny_bind (wpAny_newTuple (wpAny_pure ?_) hl)
    have new : ObjOk P w (upd H s.heap.objs.size (.tup vs)) (s.heap.push ({ cls := .type "tuple", data := .seq us.toArray } : Obj)) s.heap.objs.size (.tup vs) := ⟨hz, us, rv, ⟨_, Heap.get?_push_size _ rfl, rfl, _, rfl⟩⟩
    have un := StX.un_laid (fs := frs outer) (s := s) (o := ({ cls := .type "tuple", data := .seq us.toArray } : Obj)) (u := .tup vs) hn
    exact h _ _ [V.ref s.heap.objs.size] [Value.ref s.heap.objs.size] (StX.env0_laid e0 new) un rfl (fun e s' => StX.cxUp outer s H _ _ E e s' un (fun b o q => Heap.get?_push_of_some _ q) rfl) (.cons rfl .nil) rfl ⟨_, hn, rfl, rfl⟩
  · subst ex eH
    exact body cdv A outer s2 _ _ Q E hg hr' (hq p hp)
end
section
variable {X : Cx} {k : Nat} {f : Addr} {fd : FuncData} {ps ks : List Str} {sp : Sp} {E : XK} {x : Str} {p pos : Pos} {kws : List Keyword} {tk : TA}
/-- f(k = v, ..): each parameter by its name, g puts the values in the parameters' order -/
theorem pe_fnK0 {g : {α : Type} → List α → List α} (F : FnB X.prog X.w X.K X.mg X.base k f fd ps sp) (g0 : X.A.guards = some []) (hr : Room k X.A) (hk : PySem.W.keepIn X.K (.ref f) = true) (hm : X.mg x = some (.ref f)) (hg : Gl X x) (hx : Passes (L2.CX X.prog X.w) X E)
    (hb : ∀ ws : List Value, ws.length = ks.length → bindArgs fd ⟨[], ks.zip ws⟩ = pure (ps.zip (g ws))) (hv : ∀ {vs : List V} {us : List Value}, Vals vs us → vs.length = ks.length → Vals (g vs) (g us) ∧ (g vs).length = ps.length) (hkw : PK X kws tk)
    (hall : (backToKw pos (keywordEach kws X.env)).all (·.1.isSome) = true := by rfl) (hks : (backToKw pos (keywordEach kws X.env)).filterMap (·.1) = ks := by rfl) (hdb : (x == ("__debug__" : Str)) = false := by decide)
    (hpl : ((backTo pos (starEach [] X.env)).any (·.1) || (backToKw pos (keywordEach kws X.env)).any (·.1.isNone)) = false := by rfl) :
    PE X (.Call (.Name x p) [] kws pos) (fun σ H Q => tk σ H fun zs H1 => zs.length = ks.length ∧ sp (g zs) H1 Q E) := by
  constructor
  intro pins s σ H Q I h
  refine wpAny_Call_Name_kw (ld_glob I hg hm (PySem.W.callWith_KW0 (h₀ := X.base) I.ok.mod.kin hk hall (thn (hkw.run pos pins s σ H _ I h) ?_) hpl) hdb)
  rintro ws s2 ⟨zs, H2, I2, rz, hl, q⟩
  refine ⟨I2.kIn, ?_⟩
  rw [hks]
  obtain ⟨rv, hl2⟩ := hv rz hl
  refine wpAny_call (codeAny_mono (F X.A X.stack s2 H2 ⟨[], ks.zip ws⟩ (g ws) (g zs) Q E g0 hr I2.env0 (.of_eq (hb ws (by rw [← rz.length]; exact hl))) rv hl2 q) fun res s' hq => ?_)
  match res, hq with
  | .error e, hq => exact hx pins σ H2 s2 e s' I2 hq
  | .ok (.ret u), hq => exact I2.after hq
  | .ok .next, hq => exact hq.elim
  | .ok .brk, hq => exact hq.elim
  | .ok .cont, hq => exact hq.elim
end

/-! ### the law's entry -/
/-- nothing is tracked but the script and the tables of code objects cs -/
theorem law_enter {P : Program} {w : World} {K : PySem.W.Frag} {mg mb : Str → Option Value} {k : Nat} {fa a : Addr} {cs : List (Addr × Addr)} {sp : Sp} {s₁ : Shared} {vs : List Value} {ns : List Int}
    (KX : K.In s₁.heap) (hns : s₁.heap.Ns mainGlobals mg) (hb : s₁.heap.Ns builtinsNs mb) (hbb : ∀ x : Str, x ≠ "__name__" → mb x = bootBuiltins x) (hlim : s₁.heap.NoLimit) (hg : s₁.gens = #[])
    (hT : ∀ p ∈ cs, s₁.heap.get? p.2 = some { cls := .none, data := .fields #[] }) (nT : ∀ p ∈ cs, K.lookup p.2 = none) (C : ∀ p ∈ cs, PySem.W.CodeHd s₁.heap p.1 p.2)
    (hbm : ∃ (bm : Addr) (ob : Obj), mg "__builtins__" = some (.ref bm) ∧ bm ≠ builtinsNs ∧ s₁.heap.get? bm = some ob ∧ ob.cls = .type "module" ∧ ob.dict = some builtinsNs ∧ ob.data = .plain)
    (ha : s₁.heap.get? a = some { cls := .type "list", data := .seq vs.toArray }) (hi : IntsAre vs ns) (hl : ns.length ≤ sizeLine) (hr : Room k callerA)
    (F : ∀ base : Heap, K.In base → base.Ns mainGlobals mg → (∀ p ∈ cs, LamX.TabB base mg p.1 p.2) → Fn P w K mg base k fa sp)
    (hsp : ∀ H : Hp, (∀ p ∈ cs, H p.2 = some (.tbl #[])) → SqL K H a (ns.map V.int) → sp [.ref a] H (fun v _ => v = .bl true) fun _ _ _ => False) :
    codeAny (model P w) callerA (.call (.ref fa) ⟨[.ref a], []⟩) (fun r s' => r = .ok (.ret (.bool true)) ∧ OldK s₁.heap s'.heap ∧ s'.os = s₁.os ∧ AllBare s'.gens) s₁ := by
  have isT : ∀ b : Addr, b ∈ cs.map (·.2) → s₁.heap.get? b = some { cls := .none, data := .fields #[] } := by
    intro b hb
    obtain ⟨p, hp, e⟩ := List.mem_map.mp hb
    exact e ▸ hT p hp
  have memT : ∀ p ∈ cs, p.2 ∈ cs.map (·.2) := fun p hp => List.mem_map.mpr ⟨p, hp, rfl⟩
  have aT : a ∉ cs.map (·.2) := by
    intro z
    have q := isT a z
    rw [ha] at q
    cases Option.some.inj q
  -- the abstract heap
  let scr : Option HO := if (K.lookup a).isSome then none else some (.frz { cls := .type "list", data := .seq vs.toArray } (.lst (ns.map V.int)))
  let H : Hp := fun b => if b ∈ cs.map (·.2) then some (.tbl #[]) else if b = a then scr else none
  have H_t : ∀ b, b ∈ cs.map (·.2) → H b = some (.tbl #[]) := fun b hb => if_pos hb
  have H_a : H a = scr := (if_neg aT).trans (if_pos rfl)
  have H_o : ∀ b, b ∉ cs.map (·.2) → b ≠ a → H b = none := fun b h1 h2 => (if_neg h1).trans (if_neg h2)
  have scr_cases : (scr = none ∧ ∃ o, K.lookup a = some o) ∨ (scr = some (.frz { cls := .type "list", data := .seq vs.toArray } (.lst (ns.map V.int))) ∧ K.lookup a = none) := by
    cases e : K.lookup a with
    | some o => exact .inl ⟨if_pos (by rw [e]; rfl), o, rfl⟩
    | none => exact .inr ⟨if_neg (by rw [e]; exact Bool.false_ne_true), rfl⟩
  have H_is : ∀ b, H b ≠ none → b ∈ cs.map (·.2) ∨ (b = a ∧ scr ≠ none) := by
    intro b hb
    by_cases h1 : b ∈ cs.map (·.2)
    · exact .inl h1
    · by_cases h2 : b = a
      · subst h2
        exact .inr ⟨rfl, fun z => hb (H_a.trans z)⟩
      · exact absurd (H_o b h1 h2) hb
  have lenV := hi.length
  have okA : ∀ (H' : Hp), ObjOk P w H' s₁.heap a (.frz { cls := .type "list", data := .seq vs.toArray } (.lst (ns.map V.int))) := fun H' => ⟨ha, by rw [List.length_map]; exact hl, vs, _, vals_ints hi, ha⟩
  have hok : HOk P w H s₁.heap := by
    intro b u e
    rcases H_is b (by rw [e]; exact Option.some_ne_none u) with hb | ⟨hb, hs⟩
    · have z := (H_t b hb).symm.trans e
      cases z
      exact isT b hb
    · subst hb
      rcases scr_cases with ⟨z, _⟩ | ⟨z, _⟩
      · exact absurd z hs
      · have z' := (H_a.trans z).symm.trans e
        cases z'
        exact okA H
  have seqA : SqL K H a (ns.map V.int) := by
    rcases scr_cases with ⟨_, o, hk⟩ | ⟨z, _⟩
    · have e := KX a o hk
      rw [ha] at e
      cases e
      exact .inr ⟨_, vs.toArray, _, hk, rfl, rfl, rfl, by rw [List.size_toArray, lenV]; exact hl, vals_ints hi⟩
    · exact .inl (.inr ⟨_, H_a.trans z⟩)
  -- what is neither a list nor a table is not tracked
  have off : ∀ {b : Addr} {o : Obj}, s₁.heap.get? b = some o → (∀ vs n, o.data ≠ .seq vs n) → o.data ≠ .fields #[] → H b = none := by
    intro b o e h1 h2
    refine H_o b (fun z => h2 ?_) fun z => ?_
    · have q := (isT b z).symm.trans e
      cases q
      rfl
    · subst z
      have q := ha.symm.trans e
      cases q
      exact h1 _ _ rfl
  have base_of : ∀ {b : Addr} {o : Obj}, s₁.heap.get? b = some o → H b = none → (hidT s₁.heap H).get? b = some o := fun e n => hidT_get e n
  have offD : ∀ {b : Addr} {o : Obj} {es : Array DictEntry} {ep : Nat}, s₁.heap.get? b = some o → o.data = .dict es ep → H b = none := fun e d => off e (fun vs n z => by rw [d] at z; cases z) fun z => by rw [d] at z; cases z
  have nsK : ∀ {b : Addr} {m : Str → Option Value}, s₁.heap.Ns b m → (hidT s₁.heap H).Ns b m := fun ⟨o, es, ep, e, d, r⟩ => ⟨o, es, ep, base_of e (offD e d), d, r⟩
  have hKb : K.In (hidT s₁.heap H) := by
    intro b o e
    refine base_of (KX b o e) ?_
    cases q : H b with
    | none => rfl
    | some u =>
      rcases H_is b (by rw [q]; exact Option.some_ne_none u) with hb | ⟨hb, hs⟩
      · obtain ⟨p, hp, ep⟩ := List.mem_map.mp hb
        rw [← ep, nT p hp] at e
        cases e
      · subst hb
        rcases scr_cases with ⟨z, _⟩ | ⟨_, z⟩
        · exact absurd z hs
        · rw [z] at e
          cases e
  have hM : Mod K mg (hidT s₁.heap H) := ⟨hKb, nsK hns, ⟨mb, nsK hb, hbb⟩, let ⟨mc, h1, h2⟩ := hlim; ⟨mc, nsK h1, h2⟩⟩
  have TB : ∀ p ∈ cs, LamX.TabB (hidT s₁.heap H) mg p.1 p.2 := by
    intro p hp
    have hTp := hT p hp
    have gP : mainGlobals ≠ p.2 := fun z => by
      obtain ⟨o, es, ep, e, hd, _⟩ := hns
      rw [z, hTp] at e
      cases e
      cases hd
    refine ⟨?_, ?_, gP⟩
    · obtain ⟨o, us, file, tf, flags, tg, inF, text, tt, e1, r1, r2, r3, rest⟩ := C p hp
      refine ⟨o, us, file, tf, flags, tg, inF, text, tt, base_of e1 (off e1 (fun vs n z => ?_) fun z => ?_), r1, r2, r3, rest⟩
      · rw [r2] at z
        cases z
      · rw [r2] at z
        cases z
        simp at r3
    · obtain ⟨bm, ob, b1, b2, b3, b4, b5, b6⟩ := hbm
      have nG : bm ≠ mainGlobals := fun q => by
        obtain ⟨o, es, ep, e, hd, _⟩ := hns
        rw [q, e] at b3
        cases b3
        rw [hd] at b6
        cases b6
      have nP : bm ≠ p.2 := fun q => by
        rw [q, hTp] at b3
        cases b3
        cases b6
      refine ⟨bm, ob, b1, b2, nG, nP, base_of b3 (off b3 (fun vs n z => ?_) fun z => ?_), b4, b5, b6⟩
      · rw [b6] at z
        cases z
      · rw [b6] at z
        cases z
  have e0 : Env0 P w K mg (hidT s₁.heap H) callerA [] s₁ H := ⟨rfl, hM, fun b o e => of_hidT e, Nat.le_of_eq (hidT_size _ _), trivial, fun b hb => absurd (show b ∈ ([] : List Addr) from hb) (by simp), hok, .of_eq hg⟩
  refine codeAny_mono (F _ hKb (nsK hns) TB callerA [] s₁ H [.ref a] [.ref a] _ _ rfl hr e0 (.cons rfl .nil) (hsp H (fun p hp => H_t _ (memT p hp)) seqA)) fun r s' h => ?_
  match r, h with
  | .error e, h =>
    obtain ⟨_, _, _, _, _, _, _, _, _, _, _, _, z⟩ := h
    exact z.elim
  | .ok .next, h => exact h.elim
  | .ok .brk, h => exact h.elim
  | .ok .cont, h => exact h.elim
  | .ok (.ret u), ⟨v, H', os, bare, un, hok', r', q⟩ =>
    have q' : v = .bl true := q
    subst q'
    obtain rfl : u = Value.bool true := r'
    have key : ∀ b o, b ∉ cs.map (·.2) → s₁.heap.get? b = some o → s'.heap.get? b = some o := by
      intro b o nb e
      by_cases hb : b = a
      · subst hb
        rcases scr_cases with ⟨z, _⟩ | ⟨z, _⟩
        · exact un.keep b o e (H_a.trans z) (by simp [frs]) (by simp)
        · have z2 := un.frzs b _ _ (H_a.trans z)
          obtain ⟨e2, _⟩ := hok' b _ z2
          rw [ha] at e
          cases e
          exact e2
      · exact un.keep b o e (H_o b nb hb) (by simp [frs]) (by simp)
    have grown : ∀ p ∈ cs, ∃ more : Array Value, s'.heap.get? p.2 = some { cls := .none, data := .fields more } := by
      intro p hp
      obtain ⟨more, z⟩ := un.tbls p.2 #[] (H_t _ (memT p hp))
      exact ⟨_, hok' p.2 _ z⟩
    refine ⟨rfl, ⟨fun b o e => ?_, fun b o e => ?_⟩, os, bare⟩
    · by_cases hb : b ∈ cs.map (·.2)
      · obtain ⟨p, hp, ep⟩ := List.mem_map.mp hb
        subst ep
        obtain ⟨more, hm⟩ := grown p hp
        have z := (hT p hp).symm.trans e
        cases z
        exact .inr (.inl ⟨((C p hp).tab (hT p hp)).isCodeTable, rfl, #[], more, rfl, by rw [Array.empty_append]; exact hm⟩)
      · exact .inl (key b o hb e)
    · by_cases hb : b ∈ cs.map (·.2)
      · obtain ⟨p, hp, ep⟩ := List.mem_map.mp hb
        subst ep
        obtain ⟨more, hm⟩ := grown p hp
        exact ⟨_, hm⟩
      · exact ⟨o, key b o hb e⟩
/-- what is to be shown of the law's def at the heap behind the top -/
def LawAt (l : PySem.W.OpenLaw) (w : World) (K : PySem.W.Frag) (k n : Nat) (mg : Str → Option Value) (fa : Addr) (h : Heap) : Prop :=
  ∃ (cs : List (Addr × Addr)) (sp : Sp), (∀ p ∈ cs, h.get? p.2 = some { cls := .none, data := .fields #[] }) ∧ (∀ p ∈ cs, K.lookup p.2 = none) ∧ (∀ p ∈ cs, PySem.W.CodeHd h p.1 p.2) ∧
    (∀ (H : Hp) (a : Addr) (ns : List Int), ns.length ≤ n → (∀ z ∈ ns, Builtin.Int.intBits z ≤ 1048576) → (∀ p ∈ cs, H p.2 = some (.tbl #[])) → SqL K H a (ns.map V.int) → sp [.ref a] H (fun v _ => v = .bl true) fun _ _ _ => False) ∧
    ∀ base : Heap, K.In base → base.Ns mainGlobals mg → (∀ p ∈ cs, LamX.TabB base mg p.1 p.2) → Fn l.prog w K mg base k fa sp
theorem walk_law {l : PySem.W.OpenLaw} {n k : Nat} {q : Program} {loose : List Str} {XP : (Str → Option Value) → Heap → Prop} {YP : World → Heap → Prop} {d : DefRec} {K : Params → PySem.W.Frag}
    (hn : l.most = some n) (hn2 : n ≤ sizeLine) (hdf : d.params.defaults = []) (hr : Room k callerA) (hY : ∀ (w : World) (h : Heap), YP w h → (K w.params).In h)
    (F : ∀ (w : World) (mg : Str → Option Value) (fa : Addr) (h : Heap), YP w h → (K w.params).In h → h.Ns mainGlobals mg → mg d.name = some (.ref fa) → LawAt l w (K w.params) k n mg fa h) :
    PySem.W.WalkO q loose XP YP l.row.toRowW d [] (fun f vs => PySem.call f vs) := by
  refine Att.attach_callB hn hdf ?_
  intro w s₀ s₁ mg mb fa o pm cd doc a vs ns G Y ho hd hcd hmg hobj hints hlen hbits hg
  obtain ⟨cs, sp, hT, nT, C, hsp, hF⟩ := F w mg fa _ Y (hY w _ Y) G.T.g hmg
  exact law_enter (hY w _ Y) G.T.g G.T.b G.T.builtins G.T.nolimit hg hT nT C G.T.bmain hobj hints (Nat.le_trans hlen hn2) hr hF fun H hH hS => hsp H a ns hlen hbits hH hS
end LG
/-! super().m(..) in a def of an own class. -/
namespace LG
open PySem PySem.Spec PyProof.Rows L2
/-! ### a body that asks which function runs -/
def PSsAt (X : Cx) (B st : List Stmt) (t : TS) : Prop := ∀ (pins : List (Addr × Obj)) (s : Shared) (σ : L2.St) (H : Hp) (D : Ends), Inv X pins σ H s → t D σ H → _root_.PySem.wpAt (model X.prog X.w) X.A (.func B X.env) (execs st X.env) (SP X pins D) X.xe s
section
variable {X : Cx} {B st rest : List Stmt} {b : Stmt} {t u : TS}
theorem pssAt_of (h : PSs X st t) : PSsAt X B st t := fun pins s σ H D I q => PySem.wpAt_of_wpAny (h.run pins s σ H D I q)
theorem pssAt_cons (h1 : PS X b t) (h2 : PSsAt X B rest u) : PSsAt X B (b :: rest) (tSeq t u) := fun pins s σ H D I q => by
  refine PySem.ks_wpAt_execs_cons (PySem.wpAt_of_wpAny (thn (h1.run pins s σ H { D with nx := u D } I q) fun f s1 z => ?_))
  match f, z with
  | .next, ⟨σ', H', I', q'⟩ => exact h2 pins s1 σ' H' D I' q'
  | .ret v, z => exact z
  | .brk, z => exact z
  | .cont, z => exact z
end
/-- the def at f of the class at D; its closure holds the class (it says super()) -/
structure FunS (K : PySem.W.Frag) (x qual : Str) (st : Stmt) (cc cda D f : Addr) : Prop where
  ex : ∃ (oc : Value) (od : Option Addr) (kV doc pm : Value) (an : Option Addr) (ct : Value) (osl : Array (Option Value)), K.lookup f = some ⟨oc, od, .func (PySem.W.ksFn x qual (defArgs st) (defBody st) (defScope st) .none kV doc pm an (.ref cda) ct cc), osl⟩
  code : PySem.W.codeIn K (.ref cda) qual = true
  file : ∃ (cl : Value) (cd : Option Addr) (vs : Array Value) (sl : Array (Option Value)) (tx : Str) (tf : Tok), K.lookup cda = some ⟨cl, cd, .fields vs, sl⟩ ∧ vs[2]? = some (.str tx tf)
  cell : ∃ (cl : Value) (cd : Option Addr) (sl : Array (Option Value)), K.lookup cc = some ⟨cl, cd, .cell (some (.ref D)), sl⟩
  cls : ∃ cd, PySem.W.clsIn K D = some cd
/-- an instance of C: super() in a def of D finds m at f2 -/
structure SupC (K : PySem.W.Frag) (C D f2 : Addr) (m : Str) : Prop where
  sub : PySem.W.mroIn K C (.ref D) = some true
  sup : PySem.W.ks_superIn K C D m = some (some (.ref f2))
  ty : PySem.W.typeIn K (.ref f2) = some (.type "function")
  any : PySem.W.nsIn K cStatics "thirdparty.any" = some none
  fn : PySem.W.fnIn K f2 = true
abbrev nfOf (x qual : Str) (st : Stmt) (cc cda : Addr) : NdefX.NF := ⟨x, qual, defArgs st, defBody st, defScope st, [("__class__", cc)], cda⟩
section
variable {P : Program} {w : World} {K : PySem.W.Frag} {mg : Str → Option Value} {base : Heap} {cc cda D f : Addr} {x qual : Str} {st : Stmt} {N ps : List Str} {k : Nat} {sp : Sp} {CX : CXT}
/-- a def that says super(), by its body -/
theorem FunS.ok (F : FunS K x qual st cc cda D f) (S : NdefX.NScope N ps ["__class__"] (defScope st)) (len : ∀ vs H Q E, sp vs H Q E → vs.length = ps.length)
    (hbody : ∀ (A : Around) (outer : List Env) (s : Shared) (H : Hp) (vs : List V) (Q : VK) (E : XK), Room k (A.deeper (NdefX.envF (nfOf x qual st cc cda) f s.heap.objs.size)) → sp vs H Q E →
      ∃ t, PSsAt (NdefX.ncx CX P w K mg base N (nfOf x qual st cc cda) f A outer s H E) (defBody st) (defBody st) t ∧ t { nx := fun _ H' => Q .non H', rt := Q } (NdefX.startF N vs [some (.ref D)]) H) :
    ∃ fd, FnOk P w K mg base CX (k + 1) f fd ps sp ∧ ∃ (oc : Value) (od : Option Addr) (kV doc pm : Value) (an : Option Addr) (ct : Value) (osl : Array (Option Value)), fd = PySem.W.ksFn x qual (defArgs st) (defBody st) (defScope st) .none kV doc pm an (.ref cda) ct cc ∧ K.lookup f = some ⟨oc, od, .func fd, osl⟩ := by
  obtain ⟨oc, od, kV, doc, pm, an, ct, osl, lk⟩ := F.ex
  refine ⟨_, ⟨len, fun A outer s H args us vs Q E hr e0 hb r hsp => ?_⟩, oc, od, kV, doc, pm, an, ct, osl, rfl, lk⟩
  have hl := len _ _ _ _ hsp
  have KX : K.In s.heap := e0.mod.kin.keeps fun b o e => (e0.bs b o e).1
  have lim : s.heap.NoLimit := e0.mod.nolimit.keeps fun b o e => (e0.bs b o e).1
  obtain ⟨cl, cd, sl, hcell⟩ := F.cell
  have C : NdefX.CellsAt [("__class__", cc)] ["__class__"] [some (V.ref D)] s.heap H := by
    have one : ∀ {y : Str} {c : Addr}, List.lookup y [(("__class__" : Str), cc)] = some c → y = "__class__" ∧ c = cc := fun {y c} h => by
      rw [List.lookup_cons] at h
      split at h
      · rename_i z
        cases h
        exact ⟨eq_of_beq z, rfl⟩
      · cases h
    have isC : s.heap.IsCell cc (some (.ref D)) := ⟨_, KX _ _ hcell, rfl⟩
    refine ⟨rfl, fun y c h => ?_, fun a b c h1 h2 => (one h1).1.trans (one h2).1.symm, fun i y hy => ?_⟩
    · obtain ⟨_, rfl⟩ := one h
      exact ⟨(e0.bs _ _ (e0.mod.kin _ _ hcell)).2, _, isC⟩
    · match i, hy with
      | 0, hy =>
        cases hy
        exact ⟨cc, by simp, fun v hv => by cases hv; exact ⟨.ref D, rfl, isC⟩⟩
  refine PySem.ks_codeAny_call_defAt (binds := ps.zip us) (body := defBody st) hr.depth (KX _ _ lk) rfl lim (PySem.W.codeRec_of KX F.code) rfl hb (fun y hy => S.nocell y hy) (fun ⟨n, _⟩ hy => S.par n (List.of_mem_zip hy).1) (fun h₁ hns kp => ?_) S.co S.gen S.kind
  obtain ⟨t, ht, hq⟩ := hbody A outer s H vs Q E (hr.deeper _) hsp
  have I : Inv (NdefX.ncx CX P w K mg base N (nfOf x qual st cc cda) f A outer s H E) [] (NdefX.startF N vs [some (.ref D)]) H { s with heap := h₁, toks := s.toks + (ps.zip us).length } := NdefX.inv_startN S hr.hd e0 hl r C hns kp
  refine PySem.ks_wpAt_mono (ht [] _ _ H _ I hq) (fun fl s' hs => ?_) fun e s' hs => hs
  have fin : ∀ {σ' : L2.St} {H' : Hp} {v : V} {u : Value}, Inv (NdefX.ncx CX P w K mg base N (nfOf x qual st cc cda) f A outer s H E) [] σ' H' s' → L2.RelV v u → Q v H' → CE outer P w H s Q u s' :=
    fun {σ' H' v u} J rv q => ⟨v, H', J.os, J.bare, J.base, J.hok, rv, q⟩
  match fl, hs with
  | .ret u, ⟨v, σ', H', J, rv, q⟩ => exact fin J rv q
  | .next, ⟨σ', H', J, q⟩ => exact fin (v := V.non) (u := Value.none) J rfl q
  | .brk, ⟨_, _, _, q⟩ => exact False.elim q
  | .cont, ⟨_, _, _, q⟩ => exact False.elim q
end
/-! ### super().m(e, ..) as a statement -/
def tSup (K : PySem.W.Frag) (D f2 : Addr) (m : Str) (sp : Sp) (E : XK) (t : TA) : TS := fun Dd σ H => ∃ a C dx fs, σ[0]? = some (some (.ref a)) ∧ H a = some (.ins C dx fs) ∧ SupC K C D f2 m ∧ t σ H fun vs H1 => sp (.ref a :: vs) H1 (fun _ H2 => Dd.nx σ H2) E
section
variable {P : Program} {w : World} {K : PySem.W.Frag} {mg : Str → Option Value} {base : Heap} {cc cda D f f2 : Addr} {x qual m : Str} {st : Stmt} {N : List Str} {k : Nat} {sp : Sp} {CX : CXT} {A : Around} {outer : List Env} {s0 : Shared} {H0 : Hp} {E0' E : XK}
  {e : Expr} {es : List Expr} {t : TA} {u : TS} {rest B : List Stmt} {p0 p1 p2 p3 p4 : Pos} {fd : FuncData} {ps : List Str} {n0 : Str}
theorem pssAt_super {X : Cx} {pl : Sem Bool} (hX : X = NdefX.ncx CX P w K mg base N (nfOf x qual st cc cda) f A outer s0 H0 E0') (F : FunS K x qual st cc cda D f) (F2 : FnOk P w K mg base CX k f2 fd ps sp) (hb : Binds K fd ps []) (hr : Room k X.A) (hx : Passes CX X E)
    (hz : mg "super" = none) (hks : (defScope st).names.lookup ("super" : Str) = some .globalImplicit) (hkc : (defScope st).names.lookup ("__class__" : Str) = some .free) (hkn : (defScope st).names.lookup n0 = some .local) (hn0 : N[0]? = some n0) (hkd : (defScope st).kind = .function)
    (har : ∃ ar, ((defArgs st).posonlyargs ++ (defArgs st).args).head? = some ar ∧ ar.arg = n0) (hfile : ∀ (vs : Array Value) (cl : Value) (cd : Option Addr) (sl : Array (Option Value)) (tx : Str) (tf : Tok), K.lookup cda = some ⟨cl, cd, .fields vs, sl⟩ → vs[2]? = some (.str tx tf) → ((P.main.file : Str) == tx) = true)
    (htop : (P.main.scope.names.lookup ("super" : Str)).isSome = false) (hm : (m == ("__class__" : Str)) = false) (ha : PA X (e :: es) t) (hrest : PSsAt X B rest u)
    (he : eval (.Call (.Attribute (.Call (.Name "super" p0) [] [] p1) m p2) (e :: es) [] p3) X.env = (do
      let ov ← attributeBase (.Call (.Name "super" p0) [] [] p1) m X.env (eval (.Call (.Name "super" p0) [] [] p1) X.env)
      standAt p2.atName
      let (f, first) ← holding [ov] (getMethod ov m pl)
      callWith p3 f first (backTo p3 (starEach (e :: es) X.env)) []) := by rfl)
    (hi : interactive X.env = false := by rfl) (hsw : swapsWith (.Call (.Attribute (.Call (.Name "super" p0) [] [] p1) m p2) (e :: es) [] p3) none p4.line X.env = pure false := by rfl)
    (hst : starEach (e :: es) X.env = (false, eval e X.env) :: starEach es X.env := by rfl) (hpl : (backTo p3 (starEach es X.env)).any (·.1) = false := by rfl) :
    PSsAt X B (.Expr (.Call (.Attribute (.Call (.Name "super" p0) [] [] p1) m p2) (e :: es) [] p3) p4 :: rest) (tSeq (tSup K D f2 m sp E t) u) := by
  subst hX
  intro pins s σ H Dd I ⟨a, C, dx, fs, hσ, hH, sc, q⟩
  obtain ⟨oc, od, kV, doc, pm, an, ct, osl, lk⟩ := F.ex
  obtain ⟨cl, cd, vs0, sl0, tx, tf, hcode, hvs⟩ := F.file
  obtain ⟨cl2, cd2, sl2, hcell⟩ := F.cell
  obtain ⟨cdD, hD⟩ := F.cls
  obtain ⟨ar, har1, har2⟩ := har
  obtain ⟨mb, hb1, hb2⟩ := I.mod.blt
  have KX := I.kIn
  obtain ⟨oD, hD1, hD2⟩ : ∃ oD, s.heap.get? D = some oD ∧ oD.data = .cls cdD := by
    unfold PySem.W.clsIn at hD
    split at hD
    · rename_i c d cd' sl ho
      cases hD
      exact ⟨_, KX _ _ ho, rfl⟩
    · cases hD
  obtain ⟨mA, O, _, _, _, _⟩ := ins_get I.hok hH
  obtain ⟨odx, J, _⟩ := O.look
  refine PySem.ks_wpAt_execs_cons (PySem.ks_wpAt_Expr_any (PySem.ks_wpAt_MethodCall (pl := pl) ?_ he) hi hsw)
  refine PySem.ks_wpAt_super_base (f := f) (cc := cda) hks hkc hm rfl (KX _ _ lk) rfl har1 rfl (KX _ _ hcode) rfl hvs (hfile _ _ _ _ _ _ hcode hvs) htop ?_
  refine PySem.W.ks_loadName_global hkd hks (Calls.loadGlobal_builtin (by rw [I.ok.glob]; exact I.mod.glob.keeps I.bk) hz (by rw [I.ok.blt]; exact hb1.keeps I.bk) ((hb2 _ (by decide)).trans (by kernel_rfl)) ⟨rfl, ?_⟩)
  refine wpAny_loadName_free hkd hkc (c := cc) (by show List.lookup _ [(("__class__" : Str), cc)] = some cc; simp) ⟨_, KX _ _ hcell, rfl⟩ ?_
  rw [har2]
  obtain ⟨mL, hnL, hlL⟩ := id I.loc
  obtain ⟨uL, rL, lL⟩ := hlL 0 n0 (.ref a) hn0 hσ (.inl hkn)
  obtain rfl : uL = Value.ref a := rL
  have hmL : mL n0 = some (.ref a) := by
    rcases lL with ⟨_, z⟩ | ⟨z, _⟩
    · exact z
    · rcases z with z | z
      · exact absurd (hkn.symm.trans z) (by simp)
      · exact absurd (hkn.symm.trans z) (by simp)
  refine wpAny_loadName_local hkd hkn hnL hmL ?_
  refine PySem.ks_wpAny_isType_cls hD1 hD2 ⟨rfl, ?_⟩
  refine PySem.ks_wpAny_call_super hD1 hD2 J.at_ J.cls (fun c e => ?_) (PySem.W.looks_mroIn KX sc.sub) (fun h' e k => ?_)
  · have z := J.no
    unfold PySem.W.notCls at z
    rw [e] at z
    exact Bool.noConfusion z
  have I1 := ClX.pin_new (t' := s.toks) I k (Nat.le_refl _) e (fun v z => by cases z)
  have KX1 := I1.kIn
  cases hc : PySem.W.clsIn K C with
  | none =>
    have z := sc.sup
    unfold PySem.W.ks_superIn at z
    rw [hc] at z
    cases z
  | some cdC =>
    have hsup := sc.sup
    unfold PySem.W.ks_superIn at hsup
    rw [hc] at hsup
    obtain ⟨of, hof, hofc⟩ : ∃ of, h'.get? f2 = some of ∧ of.cls = .type "function" := by
      have ht' : (K.lookup f2).map (·.cls) = some (.type "function") := sc.ty
      cases z : K.lookup f2 with
      | none => rw [z] at ht'; cases ht'
      | some of => rw [z] at ht'; exact ⟨of, KX1 _ _ z, Option.some.inj ht'⟩
    refine PySem.ks_wpAny_getMethod_super e (PySem.W.looks_opaque KX1 sc.any) (l₀ := cdC.mro) ?_ rfl KX1 hsup hof hofc (PySem.W.ks_ne KX J hc) hm ?_
    · exact fun A Q E s k q => wpAny_bind ((PySem.W.looks_clsIn KX1 hc) A _ E s k (wpAny_pure q))
    · have I2 := ClX.pin_new (o := PySem.W.methodObj (.ref f2) (.ref a)) (h' := h'.push { cls := .type "method", data := .fields #[.ref f2, .ref a] }) (t' := s.toks + 1) I1 (fun b o z => Heap.get?_push_of_some _ z) (Nat.le_refl _) (Heap.get?_push_at rfl rfl) (fun v z => by cases z)
      refine ClX.callwith_cm (C := a) (g := f2) I2 (ClX.base_none I1 (Nat.le_refl _)) sc.fn (thn (ha.run p3 _ _ σ H _ I2 q) fun us s3 ⟨vs, H3, I3, r, q3⟩ => ⟨⟨ClX.pin_at I3, I3.kIn⟩, ?_⟩) hst hpl
      have hl : (Value.ref a :: us).length = ps.length := by
        have z := F2.len _ _ _ _ q3
        rw [← z, List.length_cons, List.length_cons, r.length]
      have hbt := hb s3 (.ref a :: us) I3.kIn (by rw [List.append_nil]; exact hl)
      rw [List.append_nil] at hbt
      refine wpAny_call (PySem.W.method_call (ClX.pin_at I3) (codeAny_mono (F2.run _ _ s3 H3 ⟨.ref a :: us, []⟩ (.ref a :: us) (.ref a :: vs) _ E hr I3.env0 hbt (.cons rfl r) q3) fun res s4 hq => ?_))
      match res, hq with
      | .error er, hq => exact hx _ σ H3 s3 er s4 I3 hq
      | .ok (.ret v), hq =>
        obtain ⟨v', H4, I4, rv, q4⟩ := I3.after hq
        exact hrest pins s4 σ H4 Dd (ClX.unpin (ClX.unpin I4)) q4
      | .ok .next, hq => exact hq.elim
      | .ok .brk, hq => exact hq.elim
      | .ok .cont, hq => exact hq.elim
end
end LG
/-! Instances of own classes with a dict: repr(x), str(x) by own defs. -/
namespace LG
open PySem PySem.Spec PyProof.Rows L2
section
variable {X : Cx} {k : Nat} {C g : Addr} {sp : Sp} {E : XK} {pins : List (Addr × Obj)} {σ : L2.St} {H : Hp} {s : Shared}
/-- a promise kept one call deeper -/
theorem run_FnIn {Q : VK} {us : List Value} {vs : List V} (F : Fn X.prog X.w X.K X.mg X.base k g sp) (g0 : X.A.guards = some []) (hr : Room (k + 1) X.A) (hx : Passes (L2.CX X.prog X.w) X E) (I : Inv X pins σ H s) (r : Vals vs us) (h : sp vs H Q E) :
    wpAny (model X.prog X.w) X.A.in1 (call (.ref g) us) (EP X pins σ Q) X.xe s := by
  refine wpAny_call (codeAny_mono (F X.A.in1 X.stack s H us vs Q E g0 hr.in1 I.env0.in1 r h) fun res s' hq => ?_)
  match res, hq with
  | .error e, hq => exact hx pins σ H s e s' I hq
  | .ok (.ret u), hq => exact I.after hq
  | .ok .next, hq => exact hq.elim
  | .ok .brk, hq => exact hq.elim
  | .ok .cont, hq => exact hq.elim
/-- repr(x), x an instance of C -/
theorem call_reprOwn (hs : PySem.W.findIn X.K (.ref C) "__repr__" = some (some (.ref g))) (hf : PySem.W.isFn X.K (.ref g) = true) (F : Fn X.prog X.w X.K X.mg X.base k g sp) (g0 : X.A.guards = some []) (hr : Room (k + 1) X.A) (hx : Passes (L2.CX X.prog X.w) X E) :
    CallR X (.builtin "repr") (fun xs H Q => ∃ a dx fs, xs = [V.ref a] ∧ H a = some (.ins C dx fs) ∧ sp [.ref a] H (fun v H' => ∃ z, v = .str z ∧ Q v H') E) := by
  intro pins s σ H xs us Q I r h
  obtain ⟨a, dx, fs, rfl, hH, q⟩ := h
  obtain ⟨u, rfl, ru⟩ := vals1 r
  obtain rfl : u = Value.ref a := ru
  obtain ⟨mA, O, _, _, _, _⟩ := ins_get I.hok hH
  obtain ⟨odx, J, _⟩ := O.look
  obtain ⟨m, hF⟩ := I.fr
  refine PySem.W.repr_K hr.in1.units0 hF I.ok.mod.kin J hs hf (thn (run_FnIn (us := [.ref a]) (vs := [.ref a]) F g0 hr hx I (.cons rfl .nil) q) ?_)
  rintro v s' ⟨w', H', I', rv, z, rfl, q'⟩
  obtain ⟨t, rfl⟩ := rv
  exact ⟨.str z, H', I', ⟨t, rfl⟩, q'⟩
/-- .. two calls deeper -/
theorem run_FnIn2 {Q : VK} {us : List Value} {vs : List V} (F : Fn X.prog X.w X.K X.mg X.base k g sp) (g0 : X.A.guards = some []) (hr : Room (k + 2) X.A) (hx : Passes (L2.CX X.prog X.w) X E) (I : Inv X pins σ H s) (r : Vals vs us) (h : sp vs H Q E) :
    wpAny (model X.prog X.w) X.A.in1.in1 (call (.ref g) us) (EP X pins σ Q) X.xe s := by
  refine wpAny_call (codeAny_mono (F X.A.in1.in1 X.stack s H us vs Q E g0 hr.in1.in1 I.env0.in1.in1 r h) fun res s' hq => ?_)
  match res, hq with
  | .error e, hq => exact hx pins σ H s e s' I hq
  | .ok (.ret u), hq => exact I.after hq
  | .ok .next, hq => exact hq.elim
  | .ok .brk, hq => exact hq.elim
  | .ok .cont, hq => exact hq.elim
/-- str(x), x an instance of C -/
theorem call_strOwn (hs : PySem.W.findIn X.K (.ref C) "__str__" = some (some (.ref g))) (hf : PySem.W.isFn X.K (.ref g) = true) (F : Fn X.prog X.w X.K X.mg X.base k g sp) (g0 : X.A.guards = some []) (hr : Room (k + 2) X.A) (hx : Passes (L2.CX X.prog X.w) X E) :
    CallR X (.type "str") (fun xs H Q => ∃ a dx fs, xs = [V.ref a] ∧ H a = some (.ins C dx fs) ∧ sp [.ref a] H (fun v H' => ∃ z, v = .str z ∧ Q v H') E) := by
  intro pins s σ H xs us Q I r h
  obtain ⟨a, dx, fs, rfl, hH, q⟩ := h
  obtain ⟨u, rfl, ru⟩ := vals1 r
  obtain rfl : u = Value.ref a := ru
  obtain ⟨mA, O, _, _, _, _⟩ := ins_get I.hok hH
  obtain ⟨odx, J, _⟩ := O.look
  refine PySem.W.kso_call hr.in1.in1.units0 I.kIn J hs hf (thn (run_FnIn2 (us := [.ref a]) (vs := [.ref a]) F g0 hr hx I (.cons rfl .nil) q) ?_)
  rintro v s' ⟨w', H', I', rv, z, rfl, q'⟩
  obtain ⟨t, rfl⟩ := rv
  exact ⟨.str z, H', I', ⟨t, rfl⟩, q'⟩
end
end LG
/-! x == y, x an instance whose class has an own __eq__. -/
namespace LG
open PySem PySem.Spec PyProof.Rows L2
section
variable {X : Cx} {k : Nat} {C g : Addr} {sp : Sp} {E : XK} {pins : List (Addr × Obj)} {σ : L2.St} {H : Hp} {s : Shared}
theorem run_Fn0 {Q : VK} {us : List Value} {vs : List V} (F : Fn X.prog X.w X.K X.mg X.base k g sp) (g0 : X.A.guards = some []) (hr : Room k X.A) (hx : Passes (L2.CX X.prog X.w) X E) (I : Inv X pins σ H s) (r : Vals vs us) (h : sp vs H Q E) :
    wpAny (model X.prog X.w) X.A (call (.ref g) us) (EP X pins σ Q) X.xe s := by
  refine wpAny_call (codeAny_mono (F X.A X.stack s H us vs Q E g0 hr I.env0 r h) fun res s' hq => ?_)
  match res, hq with
  | .error e, hq => exact hx pins σ H s e s' I hq
  | .ok (.ret u), hq => exact I.after hq
  | .ok .next, hq => exact hq.elim
  | .ok .brk, hq => exact hq.elim
  | .ok .cont, hq => exact hq.elim
theorem looks_ty {y : V} {u tb : Value} (I : Inv X pins σ H s) (ry : RelV y u) (ty : TyX X.K H y tb) : PySem.W.Looks (model X.prog X.w) s.heap (typeOf u) tb := by
  obtain ⟨P, KX, hP, _⟩ := kit_of I ry ty
  exact KX.ty _ _ I.kIn hP
/-- x == y, y of a class that is not below x's -/
def rEqOwn (K : PySem.W.Frag) (C : Addr) (sp : Sp) (E : XK) : R2 := fun x y H Q => ∃ a dx fs tb, x = .ref a ∧ H a = some (.ins C dx fs) ∧ TyX K H y tb ∧ PySem.W.notFirst K C tb = true ∧ sp [x, y] H (fun v H' => ∃ b, v = .bl b ∧ Q v H') E
theorem op_eqOwn (hs : PySem.W.findIn X.K (.ref C) "__eq__" = some (some (.ref g))) (hf : PySem.W.isFn X.K (.ref g) = true) (F : Fn X.prog X.w X.K X.mg X.base k g sp) (g0 : X.A.guards = some []) (hr : Room k X.A) (hx : Passes (L2.CX X.prog X.w) X E) : OpR X (compareOp .Eq) (rEqOwn X.K C sp E) := by
  intro pins s σ H x y v u Q I rx ry h
  obtain ⟨a, dx, fs, tb, rfl, hH, ty, hn, q⟩ := h
  obtain rfl : v = Value.ref a := rx
  obtain ⟨mA, O, _, _, _, _⟩ := ins_get I.hok hH
  obtain ⟨odx, J, _⟩ := O.look
  obtain ⟨m, hF⟩ := I.fr
  show wpAny _ _ (richCompare .Eq (.ref a) u) _ _ _
  refine PySem.W.cmp_K (op := .Eq) (tb := tb) hr.units0 hF I.ok.mod.kin J (looks_ty I ry ty) hn hs hf (thn (run_Fn0 (us := [.ref a, u]) (vs := [.ref a, y]) F g0 hr hx I (.cons rfl (.cons ry .nil)) q) ?_)
  rintro v s' ⟨w', H', I', rv, b, rfl, q'⟩
  obtain rfl : v = Value.bool b := rv
  exact ⟨.bl b, H', I', rfl, q'⟩
end
end LG
/-! x != y, x an instance whose class has an own __eq__ and no own __ne__. -/
namespace LG
open PySem PySem.Spec PyProof.Rows L2
section
variable {prog : Program} {w : World} {A : Around} {E : Value → Shared → Prop} {s : Shared} {K : PySem.W.Frag} {x C f : Addr} {ox : Obj} {od : Option Obj} {u tb : Value}
theorem ne_entry {Q : Fin → Shared → Prop} (X : K.In s.heap) (I : PySem.W.InstAt s.heap x ox C od) (hs : PySem.W.findIn K (.ref C) "__eq__" = some (some (.ref f))) (hf : PySem.W.isFn K (.ref f) = true) (hu : A.units < cLine)
    (h : wpAny (model prog w) A (call (.ref f) [.ref x, u]) (fun v s' => ∃ b, v = .bool b ∧ Q (.done (.ret (.bool (!b)))) s') E s) : wpAny (model prog w) A (Builtin.«object.__ne__» ⟨[.ref x, u], []⟩) Q E s := by
  unfold Builtin.«object.__ne__»
  have key : wpAny (model prog w) A (callSpecialIfBound? (.ref x) "__eq__" [u]) (fun r s' => ∃ b, r = some (.bool b) ∧ Q (.done (.ret (.bool (!b)))) s') E s := PySem.W.ifBound_K X I hs hf (wpAny_mono h (fun v s' ⟨b, e, q⟩ => ⟨b, by rw [e], q⟩) fun _ _ z => z)
  refine wpAny_bind (wpAny_pure ?_)
  dsimp only
  refine wpAny_bind (wpAny_cRoomFor hu ?_)
  refine wpAny_bind (wpAny_mono key (fun r s' hr => ?_) fun _ _ z => z)
  obtain ⟨b, rfl, q⟩ := hr
  repeat wp_step
  exact q
/-- (x).__ne__(u), asked by a comparison -/
theorem tryNe {Q : Option Value → Shared → Prop} (X : K.In s.heap) (I : PySem.W.InstAt s.heap x ox C od) (hm : PySem.W.mroIn K C (.type "object") = some true) (hne : PySem.W.findIn K (.ref C) "__ne__" = some (some (.builtin "object.__ne__"))) (hs : PySem.W.findIn K (.ref C) "__eq__" = some (some (.ref f)))
    (hf : PySem.W.isFn K (.ref f) = true) (hu : A.in1.units < cLine) (h : wpAny (model prog w) A.in1 (call (.ref f) [.ref x, u]) (fun v s' => ∃ b, v = .bool b ∧ Q (some (.bool (!b))) s') E s) : wpAny (model prog w) A (tryCompare (.ref x) "__ne__" u) Q E s := by
  have body : wpAny (model prog w) A (call (.builtin "object.__ne__") [.ref x, u]) (fun v s' => ∃ b, v = .bool b ∧ Q (some v) s') E s :=
    wpAny_call (codeAny_call_builtin F.cmp_object.ne.plain F.cmpEntry_ne (PySem.W.check_slot F.cmpKind_ne F.cmpSplit_ne (I.type.andThen (PySem.W.looks_mroIn X hm)) (F.cmpArgs_ne _ _) (ne_entry X I hs hf hu (wpAny_mono h (fun v s' ⟨b, e, q⟩ => ⟨b, e, ⟨!b, rfl, q⟩⟩) fun _ _ z => z))))
  have fin : wpAny (model prog w) A (call (.builtin "object.__ne__") ([.ref x] ++ [u]) >>= fun v => pure (some v)) (fun r s' => ∃ b, r = some (.bool b) ∧ Q r s') E s := wpAny_bind (wpAny_mono body (fun v s' ⟨b, e, q⟩ => wpAny_pure ⟨b, by rw [e], q⟩) fun _ _ z => z)
  unfold tryCompare
  refine wpAny_bind (wpAny_mono (Q := fun r s' => ∃ b, r = some (.bool b) ∧ Q r s') ?_ (fun r s' hr => ?_) fun _ _ z => z)
  · simp only [callSpecialIfBound?, bindSpecialIfBound?]
    refine wpAny_holding (wpAny_bind (wpAny_bind (wpAny_bind (I.type.here ((PySem.W.looks_findIn X hne).here ?_)))))
    refine wpAny_bind (wpAny_askSetting (wpAny_ite ?_))
    split
    · exact wpAny_bind (wpAny_of_eq (F.cmp_object.ne.bind _) (wpAny_pure (by exact fin)))
    · exact wpAny_tryCatch (wpAny_bind (wpAny_of_eq (F.cmp_object.ne.bind _) (wpAny_pure (by exact fin))))
  · obtain ⟨b, rfl, q⟩ := hr
    exact wpAny_pure q
theorem rc_ne {Q : Value → Shared → Prop} (X : K.In s.heap) (I : PySem.W.InstAt s.heap x ox C od) (hb : PySem.W.Looks (model prog w) s.heap (typeOf u) tb) (hn : PySem.W.notFirst K C tb = true) (hm : PySem.W.mroIn K C (.type "object") = some true)
    (hne : PySem.W.findIn K (.ref C) "__ne__" = some (some (.builtin "object.__ne__"))) (hs : PySem.W.findIn K (.ref C) "__eq__" = some (some (.ref f))) (hf : PySem.W.isFn K (.ref f) = true) (hu : A.units < cLine) (hu1 : A.in1.units < cLine)
    (h : wpAny (model prog w) A.in1 (call (.ref f) [.ref x, u]) (fun v s' => ∃ b, v = .bool b ∧ Q (.bool (!b)) s') E s) : wpAny (model prog w) A (richCompare .NotEq (.ref x) u) Q E s := by
  have one : wpAny (model prog w) A (tryCompare (.ref x) "__ne__" u) (fun r s' => ∃ v, r = some v ∧ Q v s') E s := tryNe X I hm hne hs hf hu1 (wpAny_mono h (fun v s' ⟨b, e, q⟩ => ⟨b, e, ⟨_, rfl, q⟩⟩) fun _ _ z => z)
  unfold richCompare
  simp only [PySem.oneThing_ref]
  refine wpAny_holding (wpAny_bind (wpAny_cRoomFor hu ?_))
  refine wpAny_bind (I.type.here (wpAny_bind (hb.here ?_)))
  split
  · rename_i q
    have e : PySem.W.subIn K tb (.ref C) = some false := by
      rcases Bool.or_eq_true_iff.mp hn with e | e
      · rw [beq_iff_eq.mp e] at q
        simp at q
      · exact beq_iff_eq.mp e
    refine wpAny_bind ((PySem.W.looks_subIn X e).here ?_)
    simp only [Bool.false_eq_true, if_false]
    refine wpAny_bind (wpAny_mono one (fun r s' z => ?_) fun _ _ e => e)
    obtain ⟨v, rfl, hq⟩ := z
    exact wpAny_pure hq
  · refine wpAny_bind (wpAny_pure ?_)
    simp only [Bool.false_eq_true, if_false]
    refine wpAny_bind (wpAny_mono one (fun r s' z => ?_) fun _ _ e => e)
    obtain ⟨v, rfl, hq⟩ := z
    exact wpAny_pure hq
end
section
variable {X : Cx} {k : Nat} {C g : Addr} {sp : Sp} {E : XK}
/-- x != y -/
def rNeOwn (K : PySem.W.Frag) (C : Addr) (sp : Sp) (E : XK) : R2 := fun x y H Q => ∃ a dx fs tb, x = .ref a ∧ H a = some (.ins C dx fs) ∧ TyX K H y tb ∧ PySem.W.notFirst K C tb = true ∧ sp [x, y] H (fun v H' => ∃ b, v = .bl b ∧ Q (.bl (!b)) H') E
theorem op_neOwn (hm : PySem.W.mroIn X.K C (.type "object") = some true) (hne : PySem.W.findIn X.K (.ref C) "__ne__" = some (some (.builtin "object.__ne__"))) (hs : PySem.W.findIn X.K (.ref C) "__eq__" = some (some (.ref g))) (hf : PySem.W.isFn X.K (.ref g) = true)
    (F : Fn X.prog X.w X.K X.mg X.base k g sp) (g0 : X.A.guards = some []) (hr : Room (k + 1) X.A) (hx : Passes (L2.CX X.prog X.w) X E) : OpR X (compareOp .NotEq) (rNeOwn X.K C sp E) := by
  intro pins s σ H x y v u Q I rx ry h
  obtain ⟨a, dx, fs, tb, rfl, hH, ty, hn, q⟩ := h
  obtain rfl : v = Value.ref a := rx
  obtain ⟨mA, O, _, _, _, _⟩ := ins_get I.hok hH
  obtain ⟨odx, J, _⟩ := O.look
  show wpAny _ _ (richCompare .NotEq (.ref a) u) _ _ _
  refine rc_ne I.kIn J (looks_ty I ry ty) hn hm hne hs hf hr.units0 hr.in1.units0 (thn (run_FnIn (us := [.ref a, u]) (vs := [.ref a, y]) F g0 hr hx I (.cons rfl (.cons ry .nil)) q) ?_)
  rintro v s' ⟨w', H', I', rv, b, rfl, q'⟩
  obtain rfl : v = Value.bool b := rv
  exact ⟨b, rfl, .bl (!b), H', I', rfl, q'⟩
end
end LG
/-! x & y, x | y: two instances of own classes that have one own def for the sign. -/
namespace PySem.W
open PySem PySem.Calls PyProof.Rows
section
variable {prog : Program} {w : World} {A : Around} {E : Value → Shared → Prop} {s : Shared} {K : Frag} {x C C2 L f f' : Addr} {h₀ : Heap} {m : Str → Option Value} {ox : Obj} {od : Option Obj}
theorem binop_CC {op : Operator} {b : Value} {rc rc' : Option Value} {Q : Value → Shared → Prop} (F : Fr h₀ L s.heap m) (X₀ : K.In h₀) (I : InstAt s.heap x ox C od) (hb : Looks (model prog w) s.heap (typeOf b) (.ref C2)) (hne0 : C ≠ C2) (hc : selfFirst K C = true) (hc2 : selfFirst K C2 = true)
    (hs : findIn K (.ref C) (PySem.dunder op.info.2) = some (some (.ref f))) (hf : isFn K (.ref f) = true) (hr : findIn K (.ref C) (dunderR op.info.2) = some rc) (hp : rc = none ∨ ∃ g : Addr, rc = some (.ref g))
    (hs2 : findIn K (.ref C2) (PySem.dunder op.info.2) = some (some (.ref f'))) (hr2 : findIn K (.ref C2) (dunderR op.info.2) = some rc') (hp2 : rc' = none ∨ ∃ g : Addr, rc' = some (.ref g)) (hsub : subIn K (.ref C2) (.ref C) = some false)
    (h : wpAny (model prog w) A (call (.ref f) [.ref x, b]) (CmpBack Q) E s) : wpAny (model prog w) A (binaryOp op (.ref x) b) Q E s := by
  have X := X₀.keeps F.keep
  obtain ⟨cd, rest, hcd, hm⟩ := ksp_first hc
  obtain ⟨cd2, rest2, hcd2, hm2⟩ := ksp_first hc2
  rcases hi : op.info with ⟨sym, nm'⟩
  rw [hi] at hs hr hs2 hr2
  dsimp only at hs hr hs2 hr2
  have one := ksp_try X I hs hf h
  obtain ⟨hh, g, d, tt, os⟩ := s
  have L1 : Looks (model prog w) hh (typeOf (.ref x)) (.ref C) := I.type
  have L2 : Looks (model prog w) hh (typeOf b) (.ref C2) := hb
  have L3 : Looks (model prog w) hh (fillsNumberSlot (.ref C) nm') true := fills_K X hcd hm hs
  have L4 : Looks (model prog w) hh (fillsNumberSlot (.ref C2) nm') true := fills_K X hcd2 hm2 hs2
  have L5 : Looks (model prog w) hh (isSubtype (.ref C2) (.ref C)) false := looks_subIn X hsub
  have L6 : Looks (model prog w) hh (numberSlotInPython (.ref C) nm') true := ksp_inPy X hs hr hp
  have L7 : Looks (model prog w) hh (numberSlotInPython (.ref C2) nm') true := ksp_inPy X hs2 hr2 hp2
  have hne : (Value.ref C == Value.ref C2) = false := Bool.eq_false_iff.mpr fun q => hne0 (Value.ref.inj (beq_iff_eq.mp q))
  simp only [binaryOp, hi]
  refine wpAny_holding (wpAny_bind ?_)
  unfold binaryOp1
  refine wpAny_bind (L1.at (wpAny_bind (L2.at (wpAny_bind (L3.at ?_)))))
  simp only [hne, Bool.false_eq_true, if_false]
  ksp_lk
  refine wpAny_mono one (fun r s' hr' => ?_) fun _ _ e => e
  obtain ⟨v, rfl, hq⟩ := hr'
  ksp_lk
  exact hq
end
end PySem.W
namespace LG
open PySem PySem.Spec PyProof.Rows L2
/-- what a class must have for the sign nm: its own def at g, no reflected one in C's way -/
structure BinC (K : PySem.W.Frag) (C g : Addr) (nm : String) : Prop where
  first : PySem.W.selfFirst K C = true
  at_ : PySem.W.findIn K (.ref C) (PySem.dunder nm) = some (some (.ref g))
  refl : PySem.W.findIn K (.ref C) (dunderR nm) = some none
section
variable {X : Cx} {k : Nat} {g : Addr} {sp : Sp} {E : XK}
/-- x op y, both of classes whose def for it is at g -/
def rBinOwn (K : PySem.W.Frag) (g : Addr) (nm : String) (sp : Sp) (E : XK) : R2 := fun x y H Q => ∃ a C dx fs b C2 dy gs, x = .ref a ∧ H a = some (.ins C dx fs) ∧ y = .ref b ∧ H b = some (.ins C2 dy gs) ∧ BinC K C g nm ∧ BinC K C2 g nm ∧ (C = C2 ∨ PySem.W.subIn K (.ref C2) (.ref C) = some false) ∧ sp [x, y] H (fun v H' => ∃ c, v = .ref c ∧ Q v H') E
theorem op_binOwn {op : Operator} (hf : PySem.W.isFn X.K (.ref g) = true) (F : Fn X.prog X.w X.K X.mg X.base k g sp) (g0 : X.A.guards = some []) (hr : Room k X.A) (hx : Passes (L2.CX X.prog X.w) X E) : OpR X (binaryOp op) (rBinOwn X.K g op.info.2 sp E) := by
  intro pins s σ H x y v u Q I rx ry h
  obtain ⟨a, C, dx, fs, b, C2, dy, gs, rfl, hH, rfl, hH2, c1, c2, hcc, q⟩ := h
  obtain rfl : v = Value.ref a := rx
  obtain rfl : u = Value.ref b := ry
  obtain ⟨mA, O, _, _, _, _⟩ := ins_get I.hok hH
  obtain ⟨odx, J, _⟩ := O.look
  obtain ⟨mB, O2, _, _, _, _⟩ := ins_get I.hok hH2
  obtain ⟨ody, J2, _⟩ := O2.look
  obtain ⟨m, hF⟩ := I.fr
  have run : wpAny (model X.prog X.w) X.A (call (.ref g) [.ref a, .ref b]) (PySem.W.CmpBack (EP X pins σ Q)) X.xe s := by
    refine thn (run_Fn0 (us := [.ref a, .ref b]) (vs := [.ref a, .ref b]) F g0 hr hx I (.cons rfl (.cons rfl .nil)) q) ?_
    rintro v s' ⟨w', H', I', rv, c, rfl, q'⟩
    obtain rfl : v = Value.ref c := rv
    exact ⟨.ref c, H', I', rfl, q'⟩
  by_cases hne : C = C2
  · subst hne
    exact PySem.W.binop_K hF I.ok.mod.kin J J2.type c1.first c1.at_ hf run
  · rcases hcc with z | z
    · exact absurd z hne
    · exact PySem.W.binop_CC hF I.ok.mod.kin J J2.type hne c1.first c2.first c1.at_ hf c1.refl (.inl rfl) c2.at_ c2.refl (.inl rfl) z run
end
end LG
namespace K12
open PySem PySem.Spec PyProof.Rows L2 LG
def top (i : Nat) : Stmt := PySem.Challenge.pw_rankchances_k12_terms_and_their_values.main.body.getD i (.Pass ⟨0, 0, 0, 0⟩)
abbrev s__wall : Stmt := top 0
abbrev s_is_integer : Stmt := top 11
abbrev s_is_end : Stmt := top 12
abbrev s_is_value : Stmt := top 13
abbrev s_is_not_less : Stmt := top 14
abbrev s_least_of : Stmt := top 15
abbrev s_greatest_of : Stmt := top 16
abbrev s_is_place : Stmt := top 20
abbrev s_want_term : Stmt := top 21
abbrev s_want_terms : Stmt := top 22
abbrev s_depth_above : Stmt := top 23
abbrev s_want_values : Stmt := top 24
abbrev s_value_at : Stmt := top 25
abbrev s_places_in : Stmt := top 26
abbrev s_term_text : Stmt := top 27
abbrev s_term_repr : Stmt := top 28
abbrev s__law_pot : Stmt := top 35
abbrev s__law_draw : Stmt := top 36
abbrev s__law_pick : Stmt := top 37
abbrev s__law_number : Stmt := top 38
abbrev s__law_shown : Stmt := top 39
abbrev s__law_thing : Stmt := top 40
abbrev s__law_things : Stmt := top 41
abbrev s__law_places : Stmt := top 42
abbrev s__law_term : Stmt := top 43
abbrev s__law_joined : Stmt := top 44
abbrev s__law_real : Stmt := top 45
abbrev s__law_of : Stmt := top 46
abbrev s__law_numbers : Stmt := top 47
abbrev s__law_spots : Stmt := top 48
abbrev s__law_depth : Stmt := top 49
abbrev s__law_is_shaped : Stmt := top 50
abbrev s__law_there : Stmt := top 51
abbrev s__law_told : Stmt := top 52
abbrev s__law_wrong : Stmt := top 53
abbrev s__law_ones_right : Stmt := top 54
abbrev s__law_signs_right : Stmt := top 55
abbrev s__law_right : Stmt := top 56
abbrev s_law : Stmt := top 57
abbrev s_init : Stmt := inClass (top 2) 0
abbrev s_Term_init : Stmt := inClass (top 29) 0
abbrev s_Term_depth : Stmt := inClass (top 29) 1
abbrev s_Term_at : Stmt := inClass (top 29) 2
abbrev s_Term_places : Stmt := inClass (top 29) 3
abbrev s_Term_turned : Stmt := inClass (top 29) 4
abbrev s_Term_put : Stmt := inClass (top 29) 5
abbrev s_Term_and : Stmt := inClass (top 29) 6
abbrev s_Term_or : Stmt := inClass (top 29) 7
abbrev s_Term_str : Stmt := inClass (top 29) 8
abbrev s_Term_repr : Stmt := inClass (top 29) 9
abbrev s_Term_eq : Stmt := inClass (top 29) 10
abbrev s_Place_init : Stmt := inClass (top 30) 0
abbrev s_Place_name : Stmt := inClass (top 30) 1
abbrev s_End_init : Stmt := inClass (top 31) 0
abbrev s_End_end : Stmt := inClass (top 31) 1
abbrev s_Lesser_init : Stmt := inClass (top 32) 0
abbrev s_Lesser_parts : Stmt := inClass (top 32) 1
abbrev s_Greater_init : Stmt := inClass (top 33) 0
abbrev s_Greater_parts : Stmt := inClass (top 33) 1
theorem sc__wall : FnScope ["k"] ["k"] (defScope s__wall) := ⟨rfl, rfl, rfl, by decide +kernel, rfl, by decide +kernel, by decide +kernel⟩
theorem sc_is_integer : FnScope ["value"] ["value"] (defScope s_is_integer) := ⟨rfl, rfl, rfl, by decide +kernel, rfl, by decide +kernel, by decide +kernel⟩
theorem sc_is_end : FnScope ["value"] ["value"] (defScope s_is_end) := ⟨rfl, rfl, rfl, by decide +kernel, rfl, by decide +kernel, by decide +kernel⟩
theorem sc_is_value : FnScope ["value"] ["value"] (defScope s_is_value) := ⟨rfl, rfl, rfl, by decide +kernel, rfl, by decide +kernel, by decide +kernel⟩
theorem sc_is_not_less : FnScope ["one", "other"] ["one", "other"] (defScope s_is_not_less) := ⟨rfl, rfl, rfl, by decide +kernel, rfl, by decide +kernel, by decide +kernel⟩
theorem sc_least_of : FnScope ["values", "found", "value"] ["values"] (defScope s_least_of) := ⟨rfl, rfl, rfl, by decide +kernel, rfl, by decide +kernel, by decide +kernel⟩
theorem sc_greatest_of : FnScope ["values", "found", "value"] ["values"] (defScope s_greatest_of) := ⟨rfl, rfl, rfl, by decide +kernel, rfl, by decide +kernel, by decide +kernel⟩
theorem sc_is_place : FnScope ["value"] ["value"] (defScope s_is_place) := ⟨rfl, rfl, rfl, by decide +kernel, rfl, by decide +kernel, by decide +kernel⟩
theorem sc_want_term : FnScope ["value"] ["value"] (defScope s_want_term) := ⟨rfl, rfl, rfl, by decide +kernel, rfl, by decide +kernel, by decide +kernel⟩
theorem sc_want_terms : FnScope ["values", "value"] ["values"] (defScope s_want_terms) := ⟨rfl, rfl, rfl, by decide +kernel, rfl, by decide +kernel, by decide +kernel⟩
theorem sc_depth_above : FnScope ["terms", "term"] ["terms"] (defScope s_depth_above) := ⟨rfl, rfl, rfl, by decide +kernel, rfl, by decide +kernel, by decide +kernel⟩
theorem sc_want_values : FnScope ["values", "places", "place"] ["values", "places"] (defScope s_want_values) := ⟨rfl, rfl, rfl, by decide +kernel, rfl, by decide +kernel, by decide +kernel⟩
theorem sc_value_at : FnScope ["term", "values", "found", "part"] ["term", "values"] (defScope s_value_at) := ⟨rfl, rfl, rfl, by decide +kernel, rfl, by decide +kernel, by decide +kernel⟩
theorem sc_places_in : FnScope ["term", "found", "part"] ["term"] (defScope s_places_in) := ⟨rfl, rfl, rfl, by decide +kernel, rfl, by decide +kernel, by decide +kernel⟩
theorem sc_term_text : FnScope ["term", "texts", "part"] ["term"] (defScope s_term_text) := ⟨rfl, rfl, rfl, by decide +kernel, rfl, by decide +kernel, by decide +kernel⟩
theorem sc_term_repr : FnScope ["term", "inner", "part"] ["term"] (defScope s_term_repr) := ⟨rfl, rfl, rfl, by decide +kernel, rfl, by decide +kernel, by decide +kernel⟩
theorem sc__law_pot : FnScope ["script", "k", "cell"] ["script", "k"] (defScope s__law_pot) := ⟨rfl, rfl, rfl, by decide +kernel, rfl, by decide +kernel, by decide +kernel⟩
theorem sc__law_draw : FnScope ["pot", "many", "digit"] ["pot", "many"] (defScope s__law_draw) := ⟨rfl, rfl, rfl, by decide +kernel, rfl, by decide +kernel, by decide +kernel⟩
theorem sc__law_pick : FnScope ["pot", "some"] ["pot", "some"] (defScope s__law_pick) := ⟨rfl, rfl, rfl, by decide +kernel, rfl, by decide +kernel, by decide +kernel⟩
theorem sc__law_number : FnScope ["thing"] ["thing"] (defScope s__law_number) := ⟨rfl, rfl, rfl, by decide +kernel, rfl, by decide +kernel, by decide +kernel⟩
theorem sc__law_shown : FnScope ["number"] ["number"] (defScope s__law_shown) := ⟨rfl, rfl, rfl, by decide +kernel, rfl, by decide +kernel, by decide +kernel⟩
theorem sc__law_thing : FnScope ["pot", "before", "way", "bound", "near"] ["pot", "before"] (defScope s__law_thing) := ⟨rfl, rfl, rfl, by decide +kernel, rfl, by decide +kernel, by decide +kernel⟩
theorem sc__law_things : FnScope ["pot", "many", "found", "turn", "one"] ["pot", "many"] (defScope s__law_things) := ⟨rfl, rfl, rfl, by decide +kernel, rfl, by decide +kernel, by decide +kernel⟩
theorem sc__law_places : FnScope ["pot", "left", "turn"] ["pot"] (defScope s__law_places) := ⟨rfl, rfl, rfl, by decide +kernel, rfl, by decide +kernel, by decide +kernel⟩
theorem sc__law_term : FnScope ["pot", "places", "deep", "way", "word", "turn"] ["pot", "places", "deep"] (defScope s__law_term) := ⟨rfl, rfl, rfl, by decide +kernel, rfl, by decide +kernel, by decide +kernel⟩
theorem sc__law_joined : FnScope ["word", "p"] ["word", "p"] (defScope s__law_joined) := ⟨rfl, rfl, rfl, by decide +kernel, rfl, by decide +kernel, by decide +kernel⟩
theorem sc__law_real : FnScope ["term", "part"] ["term"] (defScope s__law_real) := ⟨rfl, rfl, rfl, by decide +kernel, rfl, by decide +kernel, by decide +kernel⟩
theorem sc__law_of : FnScope ["term", "there", "parts", "part"] ["term", "there"] (defScope s__law_of) := ⟨rfl, rfl, rfl, by decide +kernel, rfl, by decide +kernel, by decide +kernel⟩
theorem sc__law_numbers : FnScope ["told", "spot"] ["told"] (defScope s__law_numbers) := ⟨rfl, rfl, rfl, by decide +kernel, rfl, by decide +kernel, by decide +kernel⟩
theorem sc__law_spots : FnScope ["term", "found", "part"] ["term"] (defScope s__law_spots) := ⟨rfl, rfl, rfl, by decide +kernel, rfl, by decide +kernel, by decide +kernel⟩
theorem sc__law_depth : FnScope ["term", "part"] ["term"] (defScope s__law_depth) := ⟨rfl, rfl, rfl, by decide +kernel, rfl, by decide +kernel, by decide +kernel⟩
theorem sc__law_is_shaped : FnScope ["made", "term", "due", "kinds", "pairs", "word", "one", "part"] ["made", "term"] (defScope s__law_is_shaped) := ⟨rfl, rfl, rfl, by decide +kernel, rfl, by decide +kernel, by decide +kernel⟩
theorem sc__law_there : FnScope ["pot", "term", "names", "spare", "turn", "things", "found", "at", "spot"] ["pot", "term"] (defScope s__law_there) := ⟨rfl, rfl, rfl, by decide +kernel, rfl, by decide +kernel, by decide +kernel⟩
theorem sc__law_told : FnScope ["made", "told", "found", "e"] ["made", "told"] (defScope s__law_told) := ⟨rfl, rfl, rfl, by decide +kernel, rfl, by decide +kernel, by decide +kernel⟩
theorem sc__law_wrong : FnScope ["pot", "term", "there", "found", "odd", "spot", "lacking", "further", "wider", "changed", "name"] ["pot", "term", "there"] (defScope s__law_wrong) := ⟨rfl, rfl, rfl, by decide +kernel, rfl, by decide +kernel, by decide +kernel⟩
theorem sc__law_ones_right : FnScope ["pot", "term", "made", "spots", "due", "told", "ones", "odd", "spot"] ["pot", "term", "made"] (defScope s__law_ones_right) := ⟨rfl, rfl, rfl, by decide +kernel, rfl, by decide +kernel, by decide +kernel⟩
theorem sc__law_signs_right : FnScope ["made", "term", "there", "numbers", "spot", "own", "low", "high", "due", "less", "more"] ["made", "term", "there"] (defScope s__law_signs_right) := ⟨rfl, rfl, rfl, by decide +kernel, rfl, by decide +kernel, by decide +kernel⟩
theorem sc__law_right : FnScope ["pot", "term", "shown", "there", "wrong", "made", "dicts", "due", "turn", "one"] ["pot"] (defScope s__law_right) := ⟨rfl, rfl, rfl, by decide +kernel, rfl, by decide +kernel, by decide +kernel⟩
theorem sc_law : FnScope ["script", "k"] ["script"] (defScope s_law) := ⟨rfl, rfl, rfl, by decide +kernel, rfl, by decide +kernel, by decide +kernel⟩
theorem sc_Term_init : FnScope ["self", "depth"] ["self", "depth"] (defScope s_Term_init) := ⟨rfl, rfl, rfl, by decide +kernel, rfl, by decide +kernel, by decide +kernel⟩
theorem sc_Term_depth : FnScope ["self"] ["self"] (defScope s_Term_depth) := ⟨rfl, rfl, rfl, by decide +kernel, rfl, by decide +kernel, by decide +kernel⟩
theorem sc_Term_at : FnScope ["self", "values"] ["self", "values"] (defScope s_Term_at) := ⟨rfl, rfl, rfl, by decide +kernel, rfl, by decide +kernel, by decide +kernel⟩
theorem sc_Term_places : FnScope ["self", "place"] ["self"] (defScope s_Term_places) := ⟨rfl, rfl, rfl, by decide +kernel, rfl, by decide +kernel, by decide +kernel⟩
theorem sc_Term_turned : FnScope ["self"] ["self"] (defScope s_Term_turned) := ⟨rfl, rfl, rfl, by decide +kernel, rfl, by decide +kernel, by decide +kernel⟩
theorem sc_Term_put : FnScope ["self", "terms"] ["self", "terms"] (defScope s_Term_put) := ⟨rfl, rfl, rfl, by decide +kernel, rfl, by decide +kernel, by decide +kernel⟩
theorem sc_Term_and : FnScope ["self", "other"] ["self", "other"] (defScope s_Term_and) := ⟨rfl, rfl, rfl, by decide +kernel, rfl, by decide +kernel, by decide +kernel⟩
theorem sc_Term_or : FnScope ["self", "other"] ["self", "other"] (defScope s_Term_or) := ⟨rfl, rfl, rfl, by decide +kernel, rfl, by decide +kernel, by decide +kernel⟩
theorem sc_Term_str : FnScope ["self"] ["self"] (defScope s_Term_str) := ⟨rfl, rfl, rfl, by decide +kernel, rfl, by decide +kernel, by decide +kernel⟩
theorem sc_Term_repr : FnScope ["self"] ["self"] (defScope s_Term_repr) := ⟨rfl, rfl, rfl, by decide +kernel, rfl, by decide +kernel, by decide +kernel⟩
theorem sc_Term_eq : FnScope ["self", "other"] ["self", "other"] (defScope s_Term_eq) := ⟨rfl, rfl, rfl, by decide +kernel, rfl, by decide +kernel, by decide +kernel⟩
theorem sc_Place_init : NdefX.NScope ["self", "name", "__class__"] ["self", "name"] ["__class__"] (defScope s_Place_init) := NdefX.nscope_by (by decide +kernel)
theorem sc_Place_name : FnScope ["self"] ["self"] (defScope s_Place_name) := ⟨rfl, rfl, rfl, by decide +kernel, rfl, by decide +kernel, by decide +kernel⟩
theorem sc_End_init : NdefX.NScope ["self", "end", "__class__"] ["self", "end"] ["__class__"] (defScope s_End_init) := NdefX.nscope_by (by decide +kernel)
theorem sc_End_end : FnScope ["self"] ["self"] (defScope s_End_end) := ⟨rfl, rfl, rfl, by decide +kernel, rfl, by decide +kernel, by decide +kernel⟩
theorem sc_Lesser_init : NdefX.NScope ["self", "terms", "__class__"] ["self", "terms"] ["__class__"] (defScope s_Lesser_init) := NdefX.nscope_by (by decide +kernel)
theorem sc_Lesser_parts : FnScope ["self"] ["self"] (defScope s_Lesser_parts) := ⟨rfl, rfl, rfl, by decide +kernel, rfl, by decide +kernel, by decide +kernel⟩
theorem sc_Greater_init : NdefX.NScope ["self", "terms", "__class__"] ["self", "terms"] ["__class__"] (defScope s_Greater_init) := NdefX.nscope_by (by decide +kernel)
theorem sc_Greater_parts : FnScope ["self"] ["self"] (defScope s_Greater_parts) := ⟨rfl, rfl, rfl, by decide +kernel, rfl, by decide +kernel, by decide +kernel⟩
theorem sc_init : FnScope ["self", "value"] ["self", "value"] (defScope s_init) := ⟨rfl, rfl, rfl, by decide +kernel, rfl, by decide +kernel, by decide +kernel⟩
/-- where the things of the top stand -/
structure At where
  c_HeldError : Addr
  c_InvalidPlace : Addr
  c_InvalidEnd : Addr
  c_InvalidTerm : Addr
  c_InvalidValues : Addr
  k_Term : Addr
  k_Place : Addr
  k_End : Addr
  k_Lesser : Addr
  k_Greater : Addr
  init : Addr
  _wall : Addr
  is_integer : Addr
  is_end : Addr
  is_value : Addr
  is_not_less : Addr
  least_of : Addr
  greatest_of : Addr
  is_place : Addr
  want_term : Addr
  want_terms : Addr
  depth_above : Addr
  want_values : Addr
  value_at : Addr
  places_in : Addr
  term_text : Addr
  term_repr : Addr
  _law_pot : Addr
  _law_draw : Addr
  _law_pick : Addr
  _law_number : Addr
  _law_shown : Addr
  _law_thing : Addr
  _law_things : Addr
  _law_places : Addr
  _law_term : Addr
  _law_joined : Addr
  _law_real : Addr
  _law_of : Addr
  _law_numbers : Addr
  _law_spots : Addr
  _law_depth : Addr
  _law_is_shaped : Addr
  _law_there : Addr
  _law_told : Addr
  _law_wrong : Addr
  _law_ones_right : Addr
  _law_signs_right : Addr
  _law_right : Addr
  law : Addr
  m_Term_init : Addr
  m_Term_depth : Addr
  p_Term_depth : Addr
  m_Term_at : Addr
  m_Term_places : Addr
  m_Term_turned : Addr
  m_Term_put : Addr
  m_Term_and : Addr
  m_Term_or : Addr
  m_Term_str : Addr
  m_Term_repr : Addr
  m_Term_eq : Addr
  m_Place_init : Addr
  w_Place_init : Addr
  o_Place_init : Addr
  m_Place_name : Addr
  p_Place_name : Addr
  m_End_init : Addr
  w_End_init : Addr
  o_End_init : Addr
  m_End_end : Addr
  p_End_end : Addr
  m_Lesser_init : Addr
  w_Lesser_init : Addr
  o_Lesser_init : Addr
  m_Lesser_parts : Addr
  p_Lesser_parts : Addr
  m_Greater_init : Addr
  w_Greater_init : Addr
  o_Greater_init : Addr
  m_Greater_parts : Addr
  p_Greater_parts : Addr
  t_BOTTOM : Tok
  t_TOP : Tok
  t_LEAST_PARTS : Tok
  ENDS : Addr
  PLACES : Addr
/-- a def of the text as the top has left it -/
structure GFn (K : PySem.W.Frag) (mg : Str → Option Value) (x : Str) (st : Stmt) (f : Addr) : Prop where
  m : mg x = some (.ref f)
  F : ∃ fd, Fun K x x st f fd
theorem GFn.kp {K : PySem.W.Frag} {mg : Str → Option Value} {x : Str} {st : Stmt} {f : Addr} (g : GFn K mg x st f) : PySem.W.keepIn K (.ref f) = true := let ⟨_, h⟩ := g.F; h.kp
/-- an error class: its __init__ is the base's -/
structure GEx (K : PySem.W.Frag) (mg : Str → Option Value) (x : Str) (C fI : Addr) : Prop where
  m : mg x = some (.ref C)
  o : OexC K C
  i : PySem.W.findIn K (.ref C) "__init__" = some (some (.ref fI))
  v : PySem.W.findIn K (.ref C) "value" = some none
  xf : XfC K C
  is : ExcC K C
/-- a method of an own class -/
structure GMe (K : PySem.W.Frag) (x qual : Str) (st : Stmt) (f : Addr) : Prop where
  F : ∃ fd, Fun K x qual st f fd
  fn : PySem.W.isFn K (.ref f) = true
/-- an own class that is made -/
structure GCl (K : PySem.W.Frag) (mg : Str → Option Value) (x : Str) (C : Addr) : Prop where
  m : mg x = some (.ref C)
  cl : Cls K C
  ha : PySem.W.findIn K (.ref C) "__class__" = some (some (.builtin "object.__class__"))
  hm : PySem.W.mroIn K C (.type "object") = some true
  ne : PySem.W.findIn K (.ref C) "__ne__" = some (some (.builtin "object.__ne__"))
  ki : PySem.W.clsIn K C ≠ none ∧ PySem.W.typeIn K (.ref C) = some (.type "type")
structure Txt (K : PySem.W.Frag) (mg : Str → Option Value) (a : At) : Prop where
  d__wall : GFn K mg "_wall" s__wall a._wall
  d_is_integer : GFn K mg "is_integer" s_is_integer a.is_integer
  d_is_end : GFn K mg "is_end" s_is_end a.is_end
  d_is_value : GFn K mg "is_value" s_is_value a.is_value
  d_is_not_less : GFn K mg "is_not_less" s_is_not_less a.is_not_less
  d_least_of : GFn K mg "least_of" s_least_of a.least_of
  d_greatest_of : GFn K mg "greatest_of" s_greatest_of a.greatest_of
  d_is_place : GFn K mg "is_place" s_is_place a.is_place
  d_want_term : GFn K mg "want_term" s_want_term a.want_term
  d_want_terms : GFn K mg "want_terms" s_want_terms a.want_terms
  d_depth_above : GFn K mg "depth_above" s_depth_above a.depth_above
  d_want_values : GFn K mg "want_values" s_want_values a.want_values
  d_value_at : GFn K mg "value_at" s_value_at a.value_at
  d_places_in : GFn K mg "places_in" s_places_in a.places_in
  d_term_text : GFn K mg "term_text" s_term_text a.term_text
  d_term_repr : GFn K mg "term_repr" s_term_repr a.term_repr
  d__law_pot : GFn K mg "_law_pot" s__law_pot a._law_pot
  d__law_draw : GFn K mg "_law_draw" s__law_draw a._law_draw
  d__law_pick : GFn K mg "_law_pick" s__law_pick a._law_pick
  d__law_number : GFn K mg "_law_number" s__law_number a._law_number
  d__law_shown : GFn K mg "_law_shown" s__law_shown a._law_shown
  d__law_thing : GFn K mg "_law_thing" s__law_thing a._law_thing
  d__law_things : GFn K mg "_law_things" s__law_things a._law_things
  d__law_places : GFn K mg "_law_places" s__law_places a._law_places
  d__law_term : GFn K mg "_law_term" s__law_term a._law_term
  d__law_joined : GFn K mg "_law_joined" s__law_joined a._law_joined
  d__law_real : GFn K mg "_law_real" s__law_real a._law_real
  d__law_of : GFn K mg "_law_of" s__law_of a._law_of
  d__law_numbers : GFn K mg "_law_numbers" s__law_numbers a._law_numbers
  d__law_spots : GFn K mg "_law_spots" s__law_spots a._law_spots
  d__law_depth : GFn K mg "_law_depth" s__law_depth a._law_depth
  d__law_is_shaped : GFn K mg "_law_is_shaped" s__law_is_shaped a._law_is_shaped
  d__law_there : GFn K mg "_law_there" s__law_there a._law_there
  d__law_told : GFn K mg "_law_told" s__law_told a._law_told
  d__law_wrong : GFn K mg "_law_wrong" s__law_wrong a._law_wrong
  d__law_ones_right : GFn K mg "_law_ones_right" s__law_ones_right a._law_ones_right
  d__law_signs_right : GFn K mg "_law_signs_right" s__law_signs_right a._law_signs_right
  d__law_right : GFn K mg "_law_right" s__law_right a._law_right
  d_law : GFn K mg "law" s_law a.law
  z_abs : mg "abs" = none
  z_all : mg "all" = none
  z_any : mg "any" = none
  z_bool : mg "bool" = none
  z_dict : mg "dict" = none
  z_divmod : mg "divmod" = none
  z_int : mg "int" = none
  z_isinstance : mg "isinstance" = none
  z_len : mg "len" = none
  z_list : mg "list" = none
  z_max : mg "max" = none
  z_min : mg "min" = none
  z_property : mg "property" = none
  z_range : mg "range" = none
  z_repr : mg "repr" = none
  z_set : mg "set" = none
  z_sorted : mg "sorted" = none
  z_str : mg "str" = none
  z_super : mg "super" = none
  z_tuple : mg "tuple" = none
  z_zip : mg "zip" = none
  v_BOTTOM : mg "BOTTOM" = some (.str "bottom" a.t_BOTTOM)
  v_TOP : mg "TOP" = some (.str "top" a.t_TOP)
  v_LEAST_PARTS : mg "LEAST_PARTS" = some (.int 2 a.t_LEAST_PARTS)
  v_ENDS : mg "ENDS" = some (.ref a.ENDS)
  l_ENDS : ∃ (od : Option Addr) (its : List Value) (n : Nat) (sl : Array (Option Value)), K.lookup a.ENDS = some ⟨.type "tuple", od, .seq its.toArray n, sl⟩ ∧ Vals [.str "bottom", .str "top"] its
  v_PLACES : mg "PLACES" = some (.ref a.PLACES)
  l_PLACES : ∃ (od : Option Addr) (its : List Value) (n : Nat) (sl : Array (Option Value)), K.lookup a.PLACES = some ⟨.type "tuple", od, .seq its.toArray n, sl⟩ ∧ Vals [.str "r0", .str "r1", .str "r2", .str "r3", .str "r4", .str "r5", .str "x0", .str "x1"] its
  e_HeldError : GEx K mg "HeldError" a.c_HeldError a.init
  e_InvalidPlace : GEx K mg "InvalidPlace" a.c_InvalidPlace a.init
  e_InvalidEnd : GEx K mg "InvalidEnd" a.c_InvalidEnd a.init
  e_InvalidTerm : GEx K mg "InvalidTerm" a.c_InvalidTerm a.init
  e_InvalidValues : GEx K mg "InvalidValues" a.c_InvalidValues a.init
  ti : PySem.W.typeIn K (.ref a.init) = some (.type "function")
  di : ∃ fd, FunD K "__init__" "HeldError.__init__" (defArgs s_init) (defBody s_init) (defScope s_init) [.non] [] a.init fd
  hn : PySem.W.specialIn K (.builtin "object.__class__") "__get__" = some (some (.builtin "getset_descriptor.__get__"))
  htk : PySem.W.takesIn K (.builtin "object.__class__") = some true
  any : PySem.W.nsIn K cStatics "thirdparty.any" = some none
  g_Term : GCl K mg "Term" a.k_Term
  g_Place : GCl K mg "Place" a.k_Place
  g_End : GCl K mg "End" a.k_End
  g_Lesser : GCl K mg "Lesser" a.k_Lesser
  g_Greater : GCl K mg "Greater" a.k_Greater
  m_Term_init : GMe K "__init__" "Term.__init__" s_Term_init a.m_Term_init
  m_Term_depth : GMe K "depth" "Term.depth" s_Term_depth a.m_Term_depth
  m_Term_at : GMe K "at" "Term.at" s_Term_at a.m_Term_at
  m_Term_places : GMe K "places" "Term.places" s_Term_places a.m_Term_places
  m_Term_turned : GMe K "turned" "Term.turned" s_Term_turned a.m_Term_turned
  m_Term_put : GMe K "put" "Term.put" s_Term_put a.m_Term_put
  m_Term_and : GMe K "__and__" "Term.__and__" s_Term_and a.m_Term_and
  m_Term_or : GMe K "__or__" "Term.__or__" s_Term_or a.m_Term_or
  m_Term_str : GMe K "__str__" "Term.__str__" s_Term_str a.m_Term_str
  m_Term_repr : GMe K "__repr__" "Term.__repr__" s_Term_repr a.m_Term_repr
  m_Term_eq : GMe K "__eq__" "Term.__eq__" s_Term_eq a.m_Term_eq
  m_Place_init : FunS K "__init__" "Place.__init__" s_Place_init a.w_Place_init a.o_Place_init a.k_Place a.m_Place_init
  m_Place_name : GMe K "name" "Place.name" s_Place_name a.m_Place_name
  m_End_init : FunS K "__init__" "End.__init__" s_End_init a.w_End_init a.o_End_init a.k_End a.m_End_init
  m_End_end : GMe K "end" "End.end" s_End_end a.m_End_end
  m_Lesser_init : FunS K "__init__" "Lesser.__init__" s_Lesser_init a.w_Lesser_init a.o_Lesser_init a.k_Lesser a.m_Lesser_init
  m_Lesser_parts : GMe K "parts" "Lesser.parts" s_Lesser_parts a.m_Lesser_parts
  m_Greater_init : FunS K "__init__" "Greater.__init__" s_Greater_init a.w_Greater_init a.o_Greater_init a.k_Greater a.m_Greater_init
  m_Greater_parts : GMe K "parts" "Greater.parts" s_Greater_parts a.m_Greater_parts
  f_Term_init : PySem.W.findIn K (.ref a.k_Term) "__init__" = some (some (.ref a.m_Term_init))
  p_Term_depth : PropOf K a.k_Term "depth" a.p_Term_depth a.m_Term_depth
  f_Term_at : PySem.W.findIn K (.ref a.k_Term) "at" = some (some (.ref a.m_Term_at))
  f_Term_places : PySem.W.findIn K (.ref a.k_Term) "places" = some (some (.ref a.m_Term_places))
  f_Term_turned : PySem.W.findIn K (.ref a.k_Term) "turned" = some (some (.ref a.m_Term_turned))
  f_Term_put : PySem.W.findIn K (.ref a.k_Term) "put" = some (some (.ref a.m_Term_put))
  f_Term_and : PySem.W.findIn K (.ref a.k_Term) "__and__" = some (some (.ref a.m_Term_and))
  f_Term_or : PySem.W.findIn K (.ref a.k_Term) "__or__" = some (some (.ref a.m_Term_or))
  f_Term_str : PySem.W.findIn K (.ref a.k_Term) "__str__" = some (some (.ref a.m_Term_str))
  f_Term_repr : PySem.W.findIn K (.ref a.k_Term) "__repr__" = some (some (.ref a.m_Term_repr))
  f_Term_eq : PySem.W.findIn K (.ref a.k_Term) "__eq__" = some (some (.ref a.m_Term_eq))
  mk_Term : Mk K a.k_Term a.m_Term_init
  first_Term : PySem.W.selfFirst K a.k_Term = true
  rand_Term : PySem.W.findIn K (.ref a.k_Term) (PySem.dunderR "and") = some none
  ror_Term : PySem.W.findIn K (.ref a.k_Term) (PySem.dunderR "or") = some none
  na_Term_own_depth : NoAttr K a.k_Term "own_depth"
  f_Place_init : PySem.W.findIn K (.ref a.k_Place) "__init__" = some (some (.ref a.m_Place_init))
  p_Place_name : PropOf K a.k_Place "name" a.p_Place_name a.m_Place_name
  p_Place_depth : PropOf K a.k_Place "depth" a.p_Term_depth a.m_Term_depth
  f_Place_at : PySem.W.findIn K (.ref a.k_Place) "at" = some (some (.ref a.m_Term_at))
  f_Place_places : PySem.W.findIn K (.ref a.k_Place) "places" = some (some (.ref a.m_Term_places))
  f_Place_turned : PySem.W.findIn K (.ref a.k_Place) "turned" = some (some (.ref a.m_Term_turned))
  f_Place_put : PySem.W.findIn K (.ref a.k_Place) "put" = some (some (.ref a.m_Term_put))
  f_Place_and : PySem.W.findIn K (.ref a.k_Place) "__and__" = some (some (.ref a.m_Term_and))
  f_Place_or : PySem.W.findIn K (.ref a.k_Place) "__or__" = some (some (.ref a.m_Term_or))
  f_Place_str : PySem.W.findIn K (.ref a.k_Place) "__str__" = some (some (.ref a.m_Term_str))
  f_Place_repr : PySem.W.findIn K (.ref a.k_Place) "__repr__" = some (some (.ref a.m_Term_repr))
  f_Place_eq : PySem.W.findIn K (.ref a.k_Place) "__eq__" = some (some (.ref a.m_Term_eq))
  s_Place : SupC K a.k_Place a.k_Place a.m_Term_init "__init__"
  mk_Place : Mk K a.k_Place a.m_Place_init
  first_Place : PySem.W.selfFirst K a.k_Place = true
  rand_Place : PySem.W.findIn K (.ref a.k_Place) (PySem.dunderR "and") = some none
  ror_Place : PySem.W.findIn K (.ref a.k_Place) (PySem.dunderR "or") = some none
  na_Place_own_depth : NoAttr K a.k_Place "own_depth"
  na_Place_own_name : NoAttr K a.k_Place "own_name"
  f_End_init : PySem.W.findIn K (.ref a.k_End) "__init__" = some (some (.ref a.m_End_init))
  p_End_end : PropOf K a.k_End "end" a.p_End_end a.m_End_end
  p_End_depth : PropOf K a.k_End "depth" a.p_Term_depth a.m_Term_depth
  f_End_at : PySem.W.findIn K (.ref a.k_End) "at" = some (some (.ref a.m_Term_at))
  f_End_places : PySem.W.findIn K (.ref a.k_End) "places" = some (some (.ref a.m_Term_places))
  f_End_turned : PySem.W.findIn K (.ref a.k_End) "turned" = some (some (.ref a.m_Term_turned))
  f_End_put : PySem.W.findIn K (.ref a.k_End) "put" = some (some (.ref a.m_Term_put))
  f_End_and : PySem.W.findIn K (.ref a.k_End) "__and__" = some (some (.ref a.m_Term_and))
  f_End_or : PySem.W.findIn K (.ref a.k_End) "__or__" = some (some (.ref a.m_Term_or))
  f_End_str : PySem.W.findIn K (.ref a.k_End) "__str__" = some (some (.ref a.m_Term_str))
  f_End_repr : PySem.W.findIn K (.ref a.k_End) "__repr__" = some (some (.ref a.m_Term_repr))
  f_End_eq : PySem.W.findIn K (.ref a.k_End) "__eq__" = some (some (.ref a.m_Term_eq))
  s_End : SupC K a.k_End a.k_End a.m_Term_init "__init__"
  mk_End : Mk K a.k_End a.m_End_init
  first_End : PySem.W.selfFirst K a.k_End = true
  rand_End : PySem.W.findIn K (.ref a.k_End) (PySem.dunderR "and") = some none
  ror_End : PySem.W.findIn K (.ref a.k_End) (PySem.dunderR "or") = some none
  na_End_own_depth : NoAttr K a.k_End "own_depth"
  na_End_own_end : NoAttr K a.k_End "own_end"
  f_Lesser_init : PySem.W.findIn K (.ref a.k_Lesser) "__init__" = some (some (.ref a.m_Lesser_init))
  p_Lesser_parts : PropOf K a.k_Lesser "parts" a.p_Lesser_parts a.m_Lesser_parts
  p_Lesser_depth : PropOf K a.k_Lesser "depth" a.p_Term_depth a.m_Term_depth
  f_Lesser_at : PySem.W.findIn K (.ref a.k_Lesser) "at" = some (some (.ref a.m_Term_at))
  f_Lesser_places : PySem.W.findIn K (.ref a.k_Lesser) "places" = some (some (.ref a.m_Term_places))
  f_Lesser_turned : PySem.W.findIn K (.ref a.k_Lesser) "turned" = some (some (.ref a.m_Term_turned))
  f_Lesser_put : PySem.W.findIn K (.ref a.k_Lesser) "put" = some (some (.ref a.m_Term_put))
  f_Lesser_and : PySem.W.findIn K (.ref a.k_Lesser) "__and__" = some (some (.ref a.m_Term_and))
  f_Lesser_or : PySem.W.findIn K (.ref a.k_Lesser) "__or__" = some (some (.ref a.m_Term_or))
  f_Lesser_str : PySem.W.findIn K (.ref a.k_Lesser) "__str__" = some (some (.ref a.m_Term_str))
  f_Lesser_repr : PySem.W.findIn K (.ref a.k_Lesser) "__repr__" = some (some (.ref a.m_Term_repr))
  f_Lesser_eq : PySem.W.findIn K (.ref a.k_Lesser) "__eq__" = some (some (.ref a.m_Term_eq))
  s_Lesser : SupC K a.k_Lesser a.k_Lesser a.m_Term_init "__init__"
  mk_Lesser : Mk K a.k_Lesser a.m_Lesser_init
  first_Lesser : PySem.W.selfFirst K a.k_Lesser = true
  rand_Lesser : PySem.W.findIn K (.ref a.k_Lesser) (PySem.dunderR "and") = some none
  ror_Lesser : PySem.W.findIn K (.ref a.k_Lesser) (PySem.dunderR "or") = some none
  na_Lesser_own_depth : NoAttr K a.k_Lesser "own_depth"
  na_Lesser_own_parts : NoAttr K a.k_Lesser "own_parts"
  f_Greater_init : PySem.W.findIn K (.ref a.k_Greater) "__init__" = some (some (.ref a.m_Greater_init))
  p_Greater_parts : PropOf K a.k_Greater "parts" a.p_Greater_parts a.m_Greater_parts
  p_Greater_depth : PropOf K a.k_Greater "depth" a.p_Term_depth a.m_Term_depth
  f_Greater_at : PySem.W.findIn K (.ref a.k_Greater) "at" = some (some (.ref a.m_Term_at))
  f_Greater_places : PySem.W.findIn K (.ref a.k_Greater) "places" = some (some (.ref a.m_Term_places))
  f_Greater_turned : PySem.W.findIn K (.ref a.k_Greater) "turned" = some (some (.ref a.m_Term_turned))
  f_Greater_put : PySem.W.findIn K (.ref a.k_Greater) "put" = some (some (.ref a.m_Term_put))
  f_Greater_and : PySem.W.findIn K (.ref a.k_Greater) "__and__" = some (some (.ref a.m_Term_and))
  f_Greater_or : PySem.W.findIn K (.ref a.k_Greater) "__or__" = some (some (.ref a.m_Term_or))
  f_Greater_str : PySem.W.findIn K (.ref a.k_Greater) "__str__" = some (some (.ref a.m_Term_str))
  f_Greater_repr : PySem.W.findIn K (.ref a.k_Greater) "__repr__" = some (some (.ref a.m_Term_repr))
  f_Greater_eq : PySem.W.findIn K (.ref a.k_Greater) "__eq__" = some (some (.ref a.m_Term_eq))
  s_Greater : SupC K a.k_Greater a.k_Greater a.m_Term_init "__init__"
  mk_Greater : Mk K a.k_Greater a.m_Greater_init
  first_Greater : PySem.W.selfFirst K a.k_Greater = true
  rand_Greater : PySem.W.findIn K (.ref a.k_Greater) (PySem.dunderR "and") = some none
  ror_Greater : PySem.W.findIn K (.ref a.k_Greater) (PySem.dunderR "or") = some none
  na_Greater_own_depth : NoAttr K a.k_Greater "own_depth"
  na_Greater_own_parts : NoAttr K a.k_Greater "own_parts"
  x_Term_Term : PySem.W.subIn K (.ref a.k_Term) (.ref a.k_Term) = some true
  x_Term_Place : PySem.W.subIn K (.ref a.k_Term) (.ref a.k_Place) = some false
  x_Term_End : PySem.W.subIn K (.ref a.k_Term) (.ref a.k_End) = some false
  x_Term_Lesser : PySem.W.subIn K (.ref a.k_Term) (.ref a.k_Lesser) = some false
  x_Term_Greater : PySem.W.subIn K (.ref a.k_Term) (.ref a.k_Greater) = some false
  x_Place_Term : PySem.W.subIn K (.ref a.k_Place) (.ref a.k_Term) = some true
  x_Place_Place : PySem.W.subIn K (.ref a.k_Place) (.ref a.k_Place) = some true
  x_Place_End : PySem.W.subIn K (.ref a.k_Place) (.ref a.k_End) = some false
  x_Place_Lesser : PySem.W.subIn K (.ref a.k_Place) (.ref a.k_Lesser) = some false
  x_Place_Greater : PySem.W.subIn K (.ref a.k_Place) (.ref a.k_Greater) = some false
  x_End_Term : PySem.W.subIn K (.ref a.k_End) (.ref a.k_Term) = some true
  x_End_Place : PySem.W.subIn K (.ref a.k_End) (.ref a.k_Place) = some false
  x_End_End : PySem.W.subIn K (.ref a.k_End) (.ref a.k_End) = some true
  x_End_Lesser : PySem.W.subIn K (.ref a.k_End) (.ref a.k_Lesser) = some false
  x_End_Greater : PySem.W.subIn K (.ref a.k_End) (.ref a.k_Greater) = some false
  x_Lesser_Term : PySem.W.subIn K (.ref a.k_Lesser) (.ref a.k_Term) = some true
  x_Lesser_Place : PySem.W.subIn K (.ref a.k_Lesser) (.ref a.k_Place) = some false
  x_Lesser_End : PySem.W.subIn K (.ref a.k_Lesser) (.ref a.k_End) = some false
  x_Lesser_Lesser : PySem.W.subIn K (.ref a.k_Lesser) (.ref a.k_Lesser) = some true
  x_Lesser_Greater : PySem.W.subIn K (.ref a.k_Lesser) (.ref a.k_Greater) = some false
  x_Greater_Term : PySem.W.subIn K (.ref a.k_Greater) (.ref a.k_Term) = some true
  x_Greater_Place : PySem.W.subIn K (.ref a.k_Greater) (.ref a.k_Place) = some false
  x_Greater_End : PySem.W.subIn K (.ref a.k_Greater) (.ref a.k_End) = some false
  x_Greater_Lesser : PySem.W.subIn K (.ref a.k_Greater) (.ref a.k_Lesser) = some false
  x_Greater_Greater : PySem.W.subIn K (.ref a.k_Greater) (.ref a.k_Greater) = some true
  x_HeldError_HeldError : PySem.W.subIn K (.ref a.c_HeldError) (.ref a.c_HeldError) = some true
  x_HeldError_InvalidPlace : PySem.W.subIn K (.ref a.c_HeldError) (.ref a.c_InvalidPlace) = some false
  x_HeldError_InvalidEnd : PySem.W.subIn K (.ref a.c_HeldError) (.ref a.c_InvalidEnd) = some false
  x_HeldError_InvalidTerm : PySem.W.subIn K (.ref a.c_HeldError) (.ref a.c_InvalidTerm) = some false
  x_HeldError_InvalidValues : PySem.W.subIn K (.ref a.c_HeldError) (.ref a.c_InvalidValues) = some false
  x_InvalidPlace_HeldError : PySem.W.subIn K (.ref a.c_InvalidPlace) (.ref a.c_HeldError) = some true
  x_InvalidPlace_InvalidPlace : PySem.W.subIn K (.ref a.c_InvalidPlace) (.ref a.c_InvalidPlace) = some true
  x_InvalidPlace_InvalidEnd : PySem.W.subIn K (.ref a.c_InvalidPlace) (.ref a.c_InvalidEnd) = some false
  x_InvalidPlace_InvalidTerm : PySem.W.subIn K (.ref a.c_InvalidPlace) (.ref a.c_InvalidTerm) = some false
  x_InvalidPlace_InvalidValues : PySem.W.subIn K (.ref a.c_InvalidPlace) (.ref a.c_InvalidValues) = some false
  x_InvalidEnd_HeldError : PySem.W.subIn K (.ref a.c_InvalidEnd) (.ref a.c_HeldError) = some true
  x_InvalidEnd_InvalidPlace : PySem.W.subIn K (.ref a.c_InvalidEnd) (.ref a.c_InvalidPlace) = some false
  x_InvalidEnd_InvalidEnd : PySem.W.subIn K (.ref a.c_InvalidEnd) (.ref a.c_InvalidEnd) = some true
  x_InvalidEnd_InvalidTerm : PySem.W.subIn K (.ref a.c_InvalidEnd) (.ref a.c_InvalidTerm) = some false
  x_InvalidEnd_InvalidValues : PySem.W.subIn K (.ref a.c_InvalidEnd) (.ref a.c_InvalidValues) = some false
  x_InvalidTerm_HeldError : PySem.W.subIn K (.ref a.c_InvalidTerm) (.ref a.c_HeldError) = some true
  x_InvalidTerm_InvalidPlace : PySem.W.subIn K (.ref a.c_InvalidTerm) (.ref a.c_InvalidPlace) = some false
  x_InvalidTerm_InvalidEnd : PySem.W.subIn K (.ref a.c_InvalidTerm) (.ref a.c_InvalidEnd) = some false
  x_InvalidTerm_InvalidTerm : PySem.W.subIn K (.ref a.c_InvalidTerm) (.ref a.c_InvalidTerm) = some true
  x_InvalidTerm_InvalidValues : PySem.W.subIn K (.ref a.c_InvalidTerm) (.ref a.c_InvalidValues) = some false
  x_InvalidValues_HeldError : PySem.W.subIn K (.ref a.c_InvalidValues) (.ref a.c_HeldError) = some true
  x_InvalidValues_InvalidPlace : PySem.W.subIn K (.ref a.c_InvalidValues) (.ref a.c_InvalidPlace) = some false
  x_InvalidValues_InvalidEnd : PySem.W.subIn K (.ref a.c_InvalidValues) (.ref a.c_InvalidEnd) = some false
  x_InvalidValues_InvalidTerm : PySem.W.subIn K (.ref a.c_InvalidValues) (.ref a.c_InvalidTerm) = some false
  x_InvalidValues_InvalidValues : PySem.W.subIn K (.ref a.c_InvalidValues) (.ref a.c_InvalidValues) = some true
  y_HeldError : PySem.W.subIn K (.ref a.c_HeldError) (.type "ValueError") = some true
  y_InvalidPlace : PySem.W.subIn K (.ref a.c_InvalidPlace) (.type "ValueError") = some true
  y_InvalidEnd : PySem.W.subIn K (.ref a.c_InvalidEnd) (.type "ValueError") = some true
  y_InvalidTerm : PySem.W.subIn K (.ref a.c_InvalidTerm) (.type "ValueError") = some true
  y_InvalidValues : PySem.W.subIn K (.ref a.c_InvalidValues) (.type "ValueError") = some true
theorem GFn.fn {P : Program} {w : World} {K : PySem.W.Frag} {mg : Str → Option Value} {base : Heap} {x : Str} {st : Stmt} {f : Addr} {N ps : List Str} {sp : Sp} {k : Nat} (g : GFn K mg x st f) (S : FnScope N ps (defScope st))
    (hb : ∀ (kV doc pm : Value) (an : Option Addr) (cdv ct : Value) (us : List Value), us.length = ps.length → bindArgs (PySem.W.fnOf x x (defArgs st) (defBody st) (defScope st) .none kV doc pm an cdv ct) ⟨us, []⟩ = pure (ps.zip us))
    (len : ∀ vs H Q E, sp vs H Q E → vs.length = ps.length)
    (body : ∀ (cdv : Value) (A : Around) (outer : List Env) (s : Shared) (H : Hp) (vs : List V) (Q : VK) (E : XK), A.guards = some [] → Room k (A.deeper (envOfC x (defScope st) s.heap.objs.size f cdv)) → sp vs H Q E →
      ∃ t, PSs (cxOf (L2.CX P w) P w K mg base N x (defScope st) f cdv A outer s H E) (defBody st) t ∧ t { nx := fun _ H' => Q .non H', rt := Q } (start N vs) H) : Fn P w K mg base (k + 1) f sp := by
  obtain ⟨fd, F⟩ := g.F
  exact Fn.of F S (F.binds hb) len fun cdv A outer s H vs Q E hg hr _ h => body cdv A outer s H vs Q E hg hr h
/-- what a callee lets out, the def lets out -/
theorem passC {P : Program} {w : World} {K : PySem.W.Frag} {mg : Str → Option Value} {base : Heap} {N : List Str} {q : Str} {sc : Scope} {f : Addr} {cdv : Value} {A : Around} {outer : List Env} {s : Shared} {H : Hp} {E : XK} :
    Passes (L2.CX P w) (cxOf (L2.CX P w) P w K mg base N q sc f cdv A outer s H E) E := passes_call (takes_of rfl rfl rfl rfl) fun _ _ _ _ h => h
theorem takeC {P : Program} {w : World} {K : PySem.W.Frag} {mg : Str → Option Value} {base : Heap} {N : List Str} {q : Str} {sc : Scope} {f : Addr} {cdv : Value} {A : Around} {outer : List Env} {s : Shared} {H : Hp} {E : XK} :
    Takes (cxOf (L2.CX P w) P w K mg base N q sc f cdv A outer s H E) (fun cls d _ H' => E cls d H') := takes_of rfl rfl rfl rfl
theorem ownC {P : Program} {w : World} {K : PySem.W.Frag} {mg : Str → Option Value} {base : Heap} {N : List Str} {q : Str} {sc : Scope} {f : Addr} {cdv : Value} {A : Around} {outer : List Env} {s : Shared} {H : Hp} {E : XK} :
    PassesOwn (model (cxOf (L2.CX P w) P w K mg base N q sc f cdv A outer s H E).prog (cxOf (L2.CX P w) P w K mg base N q sc f cdv A outer s H E).w) (cxOf (L2.CX P w) P w K mg base N q sc f cdv A outer s H E).A (cxOf (L2.CX P w) P w K mg base N q sc f cdv A outer s H E).env (cxOf (L2.CX P w) P w K mg base N q sc f cdv A outer s H E).xe := PassesOwn.leaving
/-- a built-in class as a value -/
theorem pe_ty {X : Cx} {x : Str} {pos : Pos} (n : String) (hg : Gl X x) (hm : X.mg x = none) (hv : bootBuiltins x = some (.type n)) (hn : x ≠ "__name__" := by decide) (hd : (x == ("__debug__" : Str)) = false := by decide) : PE X (.Name x pos) (tC (.ty n)) := by
  first
    | exact pe_bltn hg hm hv rfl (hd := hd)
    | exact pe_bltn hg hm hv rfl hn hd
end K12
namespace K12
open PySem PySem.Spec PyProof.Rows L2 LG Evl
/-! ### values and what is known of them -/
/-- a value whose class is known -/
inductive Kn (H : Hp) : V → String → Prop
  | non : Kn H .non "NoneType"
  | bl (b : Bool) : Kn H (.bl b) "bool"
  | int (i : Int) : Kn H (.int i) "int"
  | str (x : Str) : Kn H (.str x) "str"
  | lst {p : Addr} {xs : List V} (h : H p = some (.lst xs)) : Kn H (.ref p) "list"
  | tup {p : Addr} {xs : List V} (h : H p = some (.tup xs)) : Kn H (.ref p) "tuple"
  | dic {p : Addr} {kvs : List (Key × V)} (h : H p = some (.dK kvs)) : Kn H (.ref p) "dict"
theorem Kn.ty {K : PySem.W.Frag} {H : Hp} {v : V} {t : String} (h : Kn H v t) : TyX K H v (.type t) := by
  cases h with
  | non => exact .base .non
  | bl b => exact .base (.bl b)
  | int i => exact .base (.int i)
  | str x => exact .base (.str x)
  | lst h => exact .base (.lst h)
  | tup h => exact .base (.tup h)
  | dic h => exact .base (.dK h)
theorem kn_int {K : PySem.W.Frag} {H : Hp} {v : V} {t : String} (h : Kn H v t) : PySem.W.kitOne K (.type t) (.type "int") = some (t == "int" || t == "bool") := by
  cases h <;> exact kit_ty (by decide +kernel)
theorem kn_bool {K : PySem.W.Frag} {H : Hp} {v : V} {t : String} (h : Kn H v t) : PySem.W.kitOne K (.type t) (.type "bool") = some (t == "bool") := by
  cases h <;> exact kit_ty (by decide +kernel)
theorem kn_str {K : PySem.W.Frag} {H : Hp} {v : V} {t : String} (h : Kn H v t) : PySem.W.kitOne K (.type t) (.type "str") = some (t == "str") := by
  cases h <;> exact kit_ty (by decide +kernel)
theorem kn_list {K : PySem.W.Frag} {H : Hp} {v : V} {t : String} (h : Kn H v t) : PySem.W.kitAny K (.type t) [.type "list", .type "tuple"] = some (t == "list" || t == "tuple") := by
  cases h with
  | non => exact kitAny_cons (kit_ty (by decide +kernel) : _ = some false) (fun _ => kitAny_cons (kit_ty (by decide +kernel) : _ = some false) (fun _ => kitAny_nil) (fun z => by cases z)) (fun z => by cases z)
  | bl b => exact kitAny_cons (kit_ty (by decide +kernel) : _ = some false) (fun _ => kitAny_cons (kit_ty (by decide +kernel) : _ = some false) (fun _ => kitAny_nil) (fun z => by cases z)) (fun z => by cases z)
  | int b => exact kitAny_cons (kit_ty (by decide +kernel) : _ = some false) (fun _ => kitAny_cons (kit_ty (by decide +kernel) : _ = some false) (fun _ => kitAny_nil) (fun z => by cases z)) (fun z => by cases z)
  | str b => exact kitAny_cons (kit_ty (by decide +kernel) : _ = some false) (fun _ => kitAny_cons (kit_ty (by decide +kernel) : _ = some false) (fun _ => kitAny_nil) (fun z => by cases z)) (fun z => by cases z)
  | dic b => exact kitAny_cons (kit_ty (by decide +kernel) : _ = some false) (fun _ => kitAny_cons (kit_ty (by decide +kernel) : _ = some false) (fun _ => kitAny_nil) (fun z => by cases z)) (fun z => by cases z)
  | lst b => exact kitAny_cons (kit_ty (by decide +kernel) : _ = some true) (fun z => by cases z) (fun _ => rfl)
  | tup b => exact kitAny_cons (kit_ty (by decide +kernel) : _ = some false) (fun _ => kitAny_cons (kit_ty (by decide +kernel) : _ = some true) (fun z => by cases z) (fun _ => rfl)) (fun z => by cases z)
def isIntB : V → Bool
  | .int _ => true
  | _ => false
def isEndB (v : V) : Bool := inV v [.str "bottom", .str "top"]
def isEndS : V → Bool
  | .str x => isEndB (.str x)
  | _ => false
def isValB (v : V) : Bool := isIntB v || isEndS v
/-! ### the promises of values.py -/
def sp_is_integer : Sp := fun vs H Q _ => ∃ v t, vs = [v] ∧ Kn H v t ∧ Q (.bl (isIntB v)) H
def sp_is_end : Sp := fun vs H Q _ => ∃ v t, vs = [v] ∧ Kn H v t ∧ Q (.bl (isEndS v)) H
def sp_is_list : Sp := fun vs H Q _ => ∃ v t, vs = [v] ∧ Kn H v t ∧ ∀ H', (∀ b o, H b = some o → H' b = some o) → Q (.bl (t == "list" || t == "tuple")) H'
def sp_is_value : Sp := fun vs H Q _ => ∃ v t, vs = [v] ∧ Kn H v t ∧ Q (.bl (isValB v)) H
section
variable {P : Program} {w : World} {K : PySem.W.Frag} {mg : Str → Option Value} {base : Heap} {a : At}
theorem ok_is_end (T : Txt K mg a) : Fn P w K mg base 1 a.is_end sp_is_end := by
  refine T.d_is_end.fn sc_is_end (fun _ _ _ _ _ _ us hl => match us, hl with | [_], _ => rfl) (fun vs H Q E h => ?_) (fun cdv A outer s H vs Q E hg hr h => ?_)
  · obtain ⟨_, _, rfl, _⟩ := h
    rfl
  · obtain ⟨v, t, rfl, hk, q⟩ := h
    refine ⟨_, (pss_one (ps_ret (pe_and (pe_callB call_isi (by rfl) T.z_isinstance (by decide +kernel) (pa_cons (pv 0) (pa_cons (pe_ty "str" (by rfl) T.z_str (by decide +kernel)) pa_nil))) (pe_one (pe_cmpR op_in_seq (pv 0) (pe_glob (v := .ref a.ENDS) rfl T.v_ENDS rfl) (by rfl)))))), ?_⟩
    refine ⟨v, rfl, v, .ty "str", _, _, _, rfl, .ty _, hk.ty, kn_str hk, _, rfl, ?_⟩
    obtain ⟨od, its, n, sl, hl, hv⟩ := T.l_ENDS
    have hz : its.length = 2 := hv.length.symm
    have sq : SqT K H a.ENDS [.str "bottom", .str "top"] := .inr ⟨_, its.toArray, n, hl, rfl, rfl, by rw [List.size_toArray, hz]; decide, by simpa using hv⟩
    cases hk with
    | str x => exact iteT ⟨_, rfl, a.ENDS, _, rfl, .inr sq, rfl, rfl, q⟩
    | _ => exact iteF q
/-! ### errors -/
def sp_init : Sp := fun vs H Q _ => ∃ (e C : Addr) (v : V), vs = [.ref e, v] ∧ OexC K C ∧ PySem.W.findIn K (.ref C) "value" = some none ∧ H e = some (exo e C none) ∧
  ∀ dx, H dx = none → dx ≠ e → Q .non (upd (upd H dx (exd dx [("value", v)])) e (exo e C (some dx)))
theorem ok_init {fd : FuncData} (F : FunD K "__init__" "HeldError.__init__" (defArgs s_init) (defBody s_init) (defScope s_init) [.non] [] a.init fd) : FnOk P w K mg base CX0 1 a.init fd ["self", "value"] (sp_init (K := K)) := by
  refine F.ok sc_init (fun vs H Q E h => ?_) (fun cdv A outer s H vs Q E hr h => ?_)
  · obtain ⟨_, _, _, rfl, _⟩ := h
    rfl
  · obtain ⟨e, C, v, rfl, oc, hv, he, q⟩ := h
    exact ⟨_, pss_one (ps_ost (pv 0) (pv 1)), v, rfl, .ref e, rfl, e, C, rfl, oc, hv, .inl ⟨he, q⟩⟩
/-- raise X(n), n the name in slot i -/
def tRaiseV (C : Addr) (W : WX) (i : Nat) : TS := fun _ σ H => ∃ v, σ[i]? = some (some v) ∧ ∀ d, H d = none → W (.ref C) (some d) σ (upd H d (.xd [("value", v)]))
theorem made_eq {H1 : Hp} {x d C : Addr} {o u : HO} (hx : H1 x = none) (hd : d ≠ x) (hd1 : H1 d = none) {z : HO} : upd (del (upd (upd (upd H1 x o) d u) x (exo x C (some d))) x) d z = upd H1 d z := by
  funext b
  by_cases h1 : b = d
  · subst h1
    rw [upd_same, upd_same]
  · rw [upd_ne h1, upd_ne h1]
    by_cases h2 : b = x
    · subst h2
      rw [del_same, hx]
    · rw [del_ne h2, upd_ne h2, upd_ne h1, upd_ne h2]
theorem ps_raiseV {X : Cx} {x n : Str} {C : Addr} {W : WX} {i : Nat} {pn p pos pos2 : Pos} {k : Nat} (hc : X.calm = true) (tk : Takes X W) (g : GEx X.K X.mg x C a.init) (ti : PySem.W.typeIn X.K (.ref a.init) = some (.type "function"))
    (di : ∃ fd, FunD X.K "__init__" "HeldError.__init__" (defArgs s_init) (defBody s_init) (defScope s_init) [.non] [] a.init fd) (hr : Room (k + 2) X.A) (hg : Gl X x) (ha : PE X (.Name n pn) (tVar i))
    (hdb : (x == ("__debug__" : Str)) = false := by decide) (he : starEach [.Name n pn] X.env = (false, eval (.Name n pn) X.env) :: starEach [] X.env := by rfl) (hpl : (backTo pos (starEach [] X.env)).any (·.1) = false := by rfl) :
    PS X (.Raise (some (.Call (.Name x p) [.Name n pn] [] pos)) none pos2) (tRaiseV C W i) := by
  obtain ⟨fd, F⟩ := di
  obtain ⟨ds, hv, hb⟩ := F.binds1 (ps := ["self", "value"]) 2 1 (by simp) rfl fun T kV doc pm an cdv ct us its hl hi => match us, its, hl, hi with
    | [_, _], [_], _, _ => ⟨_, rfl, rfl⟩
  cases hv
  have F1 : FnOk X.prog X.w X.K X.mg X.base CX0 1 a.init fd ["self", "value"] (sp_init (K := X.K)) := ok_init F
  have z := ps_raise (pos := pos2) hc tk (pmk_oex (p := p) (pos := pos) g.o g.i ti F1 (hr.mono (by omega)) hb .nil pass0 hg g.m (pa_cons ha pa_nil) hdb he hpl)
  constructor
  intro pins s σ H D I h
  refine z.run pins s σ H D I ?_
  obtain ⟨v, hv, q⟩ := h
  refine ⟨v, hv, (by decide : 1 ≤ 1000), fun x' hx => ⟨x', C, v, rfl, g.o, g.v, upd_same, fun d hd hne => ?_⟩⟩
  have hd1 : H d = none := by
    rw [upd_ne hne] at hd
    exact hd
  refine ⟨rfl, d, [("value", v)], upd_same, ?_, hd1, ?_⟩
  · rw [upd_ne hne, upd_same]
  · show W _ _ _ _
    rw [made_eq hx hne hd1]
    exact q d hd1
end
theorem Kn.up {H H' : Hp} {v : V} {t : String} (e : Ex H H') (h : Kn H v t) : Kn H' v t := by
  cases h with
  | non => exact .non
  | bl b => exact .bl b
  | int i => exact .int i
  | str x => exact .str x
  | lst h => exact .lst (e _ _ h)
  | tup h => exact .tup (e _ _ h)
  | dic h => exact .dic (e _ _ h)
/-- an error of the class C that bears v, told of any heap in which all stands as before -/
def Errs (C : Addr) (v : V) (H : Hp) (E : XK) : Prop := ∀ d H', Ex H H' → H' d = some (.xd [("value", v)]) → E (.ref C) (some d) H'
theorem Errs.new {C d : Addr} {v : V} {H H1 : Hp} {E : XK} (h : Errs C v H E) (e : Ex H H1) (hd : H1 d = none) : E (.ref C) (some d) (upd H1 d (.xd [("value", v)])) := h d _ (e.trans (Ex.new hd)) upd_same
theorem Errs.up {C : Addr} {v : V} {H H1 : Hp} {E : XK} (h : Errs C v H E) (e : Ex H H1) : Errs C v H1 E := fun d H' e' hd => h d H' (e.trans e') hd
end K12
namespace K12
open PySem PySem.Spec PyProof.Rows L2 LG Evl
/-! ### the pot: a list of two ints -/
def Po (p : Addr) (H : Hp) : Prop := ∃ x y : Int, H p = some (.lst [.int x, .int y]) ∧ 0 ≤ y ∧ y < 2147483587
/-- all but the pot is as before -/
def Px (p : Addr) (H H' : Hp) : Prop := (∀ b o, b ≠ p → H b = some o → H' b = some o) ∧ Po p H'
theorem Po.up {p : Addr} {H H' : Hp} (h : Po p H) (e : Ex H H') : Po p H' := let ⟨x, y, h1, h2⟩ := h; ⟨x, y, e _ _ h1, h2⟩
theorem Px.of {p : Addr} {H H' : Hp} (h : Po p H) (e : Ex H H') : Px p H H' := ⟨fun b o _ hb => e b o hb, h.up e⟩
theorem Px.refl {p : Addr} {H : Hp} (h : Po p H) : Px p H H := ⟨fun _ _ _ e => e, h⟩
theorem Px.trans {p : Addr} {H H1 H2 : Hp} (a : Px p H H1) (b : Px p H1 H2) : Px p H H2 := ⟨fun c o n h => b.1 c o n (a.1 c o n h), b.2⟩
theorem Px.ex {p : Addr} {H H1 H2 : Hp} (a : Px p H H1) (e : Ex H1 H2) : Px p H H2 := ⟨fun c o n h => e c o (a.1 c o n h), a.2.up e⟩
theorem Px.ne {p l : Addr} {H H' : Hp} (h : Px p H H') (n : H' l = none) : l ≠ p := fun z => by
  obtain ⟨x, y, h1, _⟩ := h.2
  rw [z, h1] at n
  cases n
theorem Po.ne {p l : Addr} {H : Hp} (h : Po p H) (n : H l = none) : l ≠ p := (Px.refl h).ne n
theorem Px.fresh {p l : Addr} {H H' : Hp} (h : Px p H H') (n : H' l = none) : H l = none := by
  have hl := h.ne n
  cases e : H l with
  | none => rfl
  | some o =>
    rw [h.1 l o hl e] at n
    cases n
theorem Px.set {p : Addr} {H H' : Hp} {x y : Int} (a : Px p H H') (h1 : 0 ≤ y) (h2 : y < 2147483587) : Px p H (upd H' p (.lst [.int x, .int y])) :=
  ⟨fun b o n h => by rw [upd_ne n]; exact a.1 b o n h, x, y, upd_same, h1, h2⟩
section
variable {P : Program} {w : World} {K : PySem.W.Frag} {mg : Str → Option Value} {base : Heap} {a : At}
theorem at0 {x y : V} : atI [x, y] 0 = some x := rfl
theorem at1 {x y : V} : atI [x, y] 1 = some y := rfl
def sp__law_draw : Sp := fun vs H Q _ => ∃ (p : Addr) (m : Int), vs = [.ref p, .int m] ∧ Po p H ∧ 0 < m ∧ m ≤ 1000 ∧ ∀ (d : Int) (H' : Hp), 0 ≤ d → d < m → Px p H H' → Q (.int d) H'
theorem ok__law_draw (T : Txt K mg a) : Fn P w K mg base 1 a._law_draw sp__law_draw := by
  refine T.d__law_draw.fn sc__law_draw (fun _ _ _ _ _ _ us hl => match us, hl with | [_, _], _ => rfl) (fun vs H Q E h => ?_) (fun cdv A outer s H vs Q E hg hr h => ?_)
  · obtain ⟨_, _, rfl, _⟩ := h
    rfl
  · obtain ⟨p, m, rfl, ⟨x, y, hp, hy0, hy1⟩, hm0, hm1, q⟩ := h
    have nd := sc__law_draw.nd
    refine ⟨_, (pss_cons (ps_if (pt_cmpR op_gt (pe_ix ix_list (pv 0) pe_int (fun _ _ => rfl)) pe_int (nomark _)) (pss_cons (ps_asg (pe_callB call_divmodW (by rfl) T.z_divmod (by decide +kernel) (pa_cons (pe_ix ix_list (pv 0) pe_int (fun _ _ => rfl)) (pa_cons (pv 1) pa_nil))) (pg_tup (by rfl) (pgs_cons (pg_sub (pv 0) pe_int set_list) (pgs_cons (pg_name (i := 2) nd rfl (.inl rfl)) pgs_nil))))
      (pss_one (ps_ret (pv 2)))) pss_nil)
    (pss_cons (ps_asg (pe_op op_mod (pe_callTy call_int1 (by rfl) T.z_int (by decide +kernel) (pa_cons (pe_op op_add (pe_op op_mul (pe_ix ix_list (pv 0) pe_int (fun _ _ => rfl)) pe_int) pe_int) pa_nil)) pe_int) (pg_sub (pv 0) pe_int set_list))
    (pss_one (ps_ret (pe_op op_mod (pe_op op_fdiv (pe_op op_mod (pe_callTy call_int1 (by rfl) T.z_int (by decide +kernel) (pa_cons (pe_op op_mul (pe_ix ix_list (pv 0) pe_int (fun _ _ => rfl)) (pe_ix ix_list (pv 0) pe_int (fun _ _ => rfl))) pa_nil)) pe_int) pe_int) (pv 1)))))), ?_⟩
    have hs : SqL K H p [.int x, .int y] := sq_of hp
    have P0 : Px p H H := Px.refl ⟨x, y, hp, hy0, hy1⟩
    refine ⟨.ref p, rfl, p, _, 0, _, rfl, rfl, hs, at0, x, 0, rfl, rfl, _, rfl, ?_⟩
    by_cases hx : 0 < x
    · rw [decide_eq_true hx]
      refine iteT ⟨.ref p, rfl, p, _, 0, _, rfl, rfl, hs, at0, .int m, rfl, x, m, rfl, ⟨hm0, ?_⟩, fun t ht => ?_⟩
      · have hj : ¬ ((if m == 0 then 0 else m.natAbs.log2 / 30 + 1) > 300) := by
          have h1 : m.natAbs.log2 ≤ 1000 := Nat.le_trans (Nat.log2_le_self _) (by omega)
          split <;> omega
        show (decide ((if m == 0 then 0 else m.natAbs.log2 / 30 + 1) > 300) && _) = false
        rw [decide_eq_false hj]
        rfl
      · have ne : p ≠ t := ne_of_none hp ht
        refine ⟨t, _, rfl, st_of upd_same, rfl, _, _, rfl, .ref p, rfl, p, [.int x, .int y], 0, 0, rfl, rfl, ?_, rfl, ?_⟩
        · rw [upd_ne ne]
          exact hp
        · exact ⟨_, _, rfl, rfl, _, rfl, q _ _ (Int.emod_nonneg _ (by omega)) (Int.emod_lt_of_pos _ hm0) ((P0.ex (Ex.new ht)).set hy0 hy1)⟩
    · rw [decide_eq_false hx]
      refine iteF ⟨.ref p, rfl, p, _, 1, _, rfl, rfl, hs, at1, y, 48271, rfl, rfl, .inr (by omega), _, 11213, rfl, rfl, .inl ⟨_, rfl, _, _, rfl, rfl, by omega, .ref p, rfl, p, [.int x, .int y], 1, 1, rfl, rfl, hp, rfl, ?_⟩⟩
      have z0 : 0 ≤ (y * 48271 + 11213) % 2147483587 := Int.emod_nonneg _ (by omega)
      have z1 : (y * 48271 + 11213) % 2147483587 < 2147483587 := Int.emod_lt_of_pos _ (by omega)
      have hs2 : SqL K (upd H p (.lst [.int x, .int ((y * 48271 + 11213) % 2147483587)])) p [.int x, .int ((y * 48271 + 11213) % 2147483587)] := sq_of upd_same
      have key : ∀ y' : Int, 0 ≤ y' → y' < 2147483587 → SqL K (upd H p (.lst [.int x, .int y'])) p [.int x, .int y'] → Px p H (upd H p (.lst [.int x, .int y'])) := fun y' a b _ => P0.set a b
      refine ⟨.ref p, rfl, p, _, 1, _, rfl, rfl, hs2, at1, .ref p, rfl, p, _, 1, _, rfl, rfl, hs2, at1, _, _, rfl, rfl, .inr ⟨by omega, by omega⟩, .inl ⟨_, rfl, _, _, rfl, rfl, by omega, _, _, rfl, rfl, by constructor <;> omega, .int m, rfl, _, m, rfl, rfl, hm0, ?_⟩⟩
      exact q _ _ (Int.emod_nonneg _ (by omega)) (Int.emod_lt_of_pos _ hm0) (P0.set z0 z1)
end
end K12
namespace K12
open PySem PySem.Spec PyProof.Rows L2 LG Evl
section
variable {P : Program} {w : World} {K : PySem.W.Frag} {mg : Str → Option Value} {base : Heap} {a : At}
/-! ### the pot made, an element picked -/
def sp__law_pot (K : PySem.W.Frag) : Sp := fun vs H Q _ => ∃ (l : Addr) (ns : List Int) (k : Nat), vs = [.ref l, .int k] ∧ SqL K H l (ns.map V.int) ∧ ns.length ≤ 63 ∧ k ≤ 100 ∧ ∀ (p : Addr) (H' : Hp), H p = none → Ex H H' → Po p H' → Q (.ref p) H'
theorem ok__law_pot (T : Txt K mg a) : Fn P w K mg base 1 a._law_pot (sp__law_pot K) := by
  refine T.d__law_pot.fn sc__law_pot (fun _ _ _ _ _ _ us hl => match us, hl with | [_, _], _ => rfl) (fun vs H Q E h => ?_) (fun cdv A outer s H vs Q E hg hr h => ?_)
  · obtain ⟨_, _, _, rfl, _⟩ := h
    rfl
  · obtain ⟨l, ns, k, rfl, hs, hn, hk, q⟩ := h
    have nd := sc__law_pot.nd
    refine ⟨_, (pss_cons (ps_set (i := 2) nd rfl (.inl rfl) (pe_op op_add (pe_op op_mul pe_int (pv 1)) pe_int))
    (pss_cut (ps_if (pt_cmpR op_lt (pv 1) (pe_callB call_len_seq (by rfl) T.z_len (by decide +kernel) (pa_cons (pv 0) pa_nil)) (nomark _)) (pss_one (ps_set (i := 2) nd rfl (.inl rfl) (pe_ix ix_list (pv 0) (pv 1) (fun _ _ => rfl)))) pss_nil)
    (pss_one (ps_ret (pe_lst (pa_cons (pe_callB (call_max2 rfl) (by rfl) T.z_max (by decide +kernel) (pa_cons pe_int (pa_cons (pe_op op_sub (pe_callB call_abs (by rfl) T.z_abs (by decide +kernel) (pa_cons (pv 2) pa_nil)) (pe_op op_pow pe_int pe_int)) pa_nil))) (pa_cons (pe_op op_add (pe_op op_mod (pe_op op_mul (pe_callTy call_int1 (by rfl) T.z_int (by decide +kernel) (pa_cons (pe_op op_add (pe_op op_mod (pe_callTy call_int1 (by rfl) T.z_int (by decide +kernel) (pa_cons (pe_callB call_abs (by rfl) T.z_abs (by decide +kernel) (pa_cons (pv 2) pa_nil)) pa_nil)) pe_int) pe_int) pa_nil)) (pe_op op_pow (pe_op op_add (pe_op op_mul pe_int (pv 1)) pe_int) pe_int)) pe_int) pe_int) pa_nil))))))), ?_⟩
    refine ⟨.int k, rfl, 23, k, rfl, rfl, .inl (by constructor <;> decide), _, _, rfl, rfl, fun σ' H' => H' = H ∧ ∃ c : Int, σ' = [some (.ref l), some (.int k), some (.int c)], ?_, fun σ' H' ⟨e1, c, e2⟩ => ?_⟩
    · refine ⟨.int k, rfl, .ref l, rfl, l, _, rfl, .inl hs, _, _, rfl, rfl, _, rfl, ?_⟩
      by_cases h : (k : Int) < ((ns.map V.int).length : Int)
      · rw [decide_eq_true h]
        have hk2 : k < (ns.map V.int).length := by omega
        refine iteT ⟨.ref l, rfl, .int k, rfl, l, _, k, (ns.map V.int)[k], rfl, rfl, hs, ?_, ?_⟩
        · unfold atI
          rw [ixN_nat hk2]
          exact List.getElem?_eq_getElem hk2
        · rw [List.getElem_map]
          exact ⟨rfl, _, rfl⟩
      · rw [decide_eq_false h]
        exact iteF ⟨rfl, _, rfl⟩
    · subst e1 e2
      refine ⟨.int c, rfl, c, rfl, 10, 18, rfl, rfl, ⟨by decide, by decide, by decide⟩, _, _, rfl, rfl, 0, _, rfl, .int c, rfl, c, rfl, .inl ⟨_, rfl, _, 2147483549, rfl, rfl, (by decide : (0 : Int) < 2147483549), _, _, rfl, rfl, .inl ⟨_, rfl, .int k, rfl, 2, k, rfl, rfl, .inl (by constructor <;> decide), _, _, rfl, rfl, _, 3, rfl, rfl, ⟨by decide, by decide, by omega⟩, _, _, rfl, rfl, .inl ?_, _, _, rfl, rfl, (by decide : (0 : Int) < 2147483477), _, _, rfl, rfl, (by decide : 2 ≤ sizeLine), fun p hp => q p _ hp (Ex.new hp) ⟨_, _, upd_same, ?_, ?_⟩⟩⟩⟩
      · have h1 := Int.emod_nonneg (if c < 0 then -c else c) (show (2147483549 : Int) ≠ 0 by decide)
        have h2 := Int.emod_lt_of_pos (if c < 0 then -c else c) (show (0 : Int) < 2147483549 by decide)
        constructor <;> omega
      · have h1 := fun z : Int => Int.emod_nonneg z (show (2147483477 : Int) ≠ 0 by decide)
        have h3 : ∀ z : Int, 0 ≤ z → 0 ≤ z + 1 := fun z hz => by omega
        exact h3 _ (h1 _)
      · have h2 := fun z : Int => Int.emod_lt_of_pos z (show (0 : Int) < 2147483477 by decide)
        have h3 : ∀ z : Int, z < 2147483477 → z + 1 < 2147483587 := fun z hz => by omega
        exact h3 _ (h2 _)
def sp__law_pick : Sp := fun vs H Q _ => ∃ (p l : Addr) (xs : List V), vs = [.ref p, .ref l] ∧ Po p H ∧ H l = some (.lst xs) ∧ l ≠ p ∧ 0 < xs.length ∧ xs.length ≤ 1000 ∧ ∀ x ∈ xs, ∀ H', Px p H H' → Q x H'
theorem ok__law_pick (T : Txt K mg a) : Fn P w K mg base 2 a._law_pick sp__law_pick := by
  have G__law_draw : Fn P w K mg base 1 a._law_draw sp__law_draw := ok__law_draw T
  refine T.d__law_pick.fn sc__law_pick (fun _ _ _ _ _ _ us hl => match us, hl with | [_, _], _ => rfl) (fun vs H Q E h => ?_) (fun cdv A outer s H vs Q E hg hr h => ?_)
  · obtain ⟨_, _, _, rfl, _⟩ := h
    rfl
  · obtain ⟨p, l, xs, rfl, hp, hl, hn, h0, h1, q⟩ := h
    refine ⟨_, (pss_one (ps_ret (pe_ix ix_list (pv 1) (pe_fn G__law_draw hg (hr.mono (by decide)) T.d__law_draw.kp T.d__law_draw.m (by rfl) passL (pa_cons (pv 0) (pa_cons (pe_callB call_len_seq (by rfl) T.z_len (by decide +kernel) (pa_cons (pv 1) pa_nil)) pa_nil))) (fun _ _ => rfl)))), ?_⟩
    refine ⟨.ref l, rfl, .ref p, rfl, .ref l, rfl, l, xs, rfl, .inl (sq_of hl), p, _, rfl, hp, by omega, by omega, fun d H' d0 d1 hx => ?_⟩
    obtain ⟨j, rfl⟩ := Int.eq_ofNat_of_zero_le d0
    have hj : j < xs.length := by omega
    refine ⟨l, xs, j, xs[j], rfl, rfl, sq_of (hx.1 l _ hn hl), ?_, q _ (List.getElem_mem hj) _ hx⟩
    unfold atI
    rw [ixN_nat hj]
    exact List.getElem?_eq_getElem hj
end
end K12
namespace K12
open PySem PySem.Spec PyProof.Rows L2 LG Evl
section
variable {P : Program} {w : World} {K : PySem.W.Frag} {mg : Str → Option Value} {base : Heap} {a : At}
/-! ### Term.__init__, is_place: no guard is asked for -/
def sp_Term_init (K : PySem.W.Frag) : Sp := fun vs H Q _ => ∃ x C dx d, vs = [.ref x, d] ∧ H x = some (.ins C dx []) ∧ Cls K C ∧ NoAttr K C "own_depth" ∧ Q .non (upd H x (.ins C dx [("own_depth", d)]))
theorem ok_Term_init {CX : CXT} (T : Txt K mg a) : ∃ fd, FnOk P w K mg base CX 1 a.m_Term_init fd ["self", "depth"] (sp_Term_init K) ∧ Binds K fd ["self", "depth"] [] := by
  obtain ⟨fd, F⟩ := T.m_Term_init.F
  have hb : Binds K fd ["self", "depth"] [] := F.binds fun _ _ _ _ _ _ us hl => match us, hl with | [_, _], _ => rfl
  obtain ⟨oc, od, kV, doc, pm, an, cdv, ct, osl, rfl, lk, hcd⟩ := F.ex
  refine ⟨_, fn_of lk hcd sc_Term_init (fun vs H Q E h => ?_) (fun A outer s H vs Q E hr h => ?_), hb⟩
  · obtain ⟨_, _, _, _, rfl, _⟩ := h
    rfl
  · obtain ⟨x, C, dx, d, rfl, hx, cl, na, q⟩ := h
    exact ⟨_, pss_one (ps_fld (pv 0) (pv 1) rfl), d, rfl, .ref x, rfl, x, C, dx, [], rfl, hx, cl, na, by decide, q⟩
def placesV : List V := [.str "r0", .str "r1", .str "r2", .str "r3", .str "r4", .str "r5", .str "x0", .str "x1"]
def isPlB : V → Bool
  | .str x => inV (.str x) placesV
  | _ => false
def sp_is_place : Sp := fun vs H Q _ => ∃ v t, vs = [v] ∧ Kn H v t ∧ Q (.bl (isPlB v)) H
theorem ok_is_place (T : Txt K mg a) : ∃ fd, FnOk P w K mg base CX0 1 a.is_place fd ["value"] sp_is_place ∧ Binds K fd ["value"] [] := by
  obtain ⟨fd, F⟩ := T.d_is_place.F
  refine ⟨fd, F.ok sc_is_place (fun vs H Q E h => ?_) (fun cdv A outer s H vs Q E hr h => ?_), F.binds fun _ _ _ _ _ _ us hl => match us, hl with | [_], _ => rfl⟩
  · obtain ⟨_, _, rfl, _⟩ := h
    rfl
  · obtain ⟨v, t, rfl, hk, q⟩ := h
    refine ⟨_, (pss_one (ps_ret (pe_and (pe_callB call_isi (by rfl) T.z_isinstance (by decide +kernel) (pa_cons (pv 0) (pa_cons (pe_ty "str" (by rfl) T.z_str (by decide +kernel)) pa_nil))) (pe_one (pe_cmpR op_in_seq (pv 0) (pe_glob (v := .ref a.PLACES) rfl T.v_PLACES rfl) (by rfl)))))), ?_⟩
    refine ⟨v, rfl, v, .ty "str", _, _, _, rfl, .ty _, hk.ty, kn_str hk, _, rfl, ?_⟩
    obtain ⟨od, its, n, sl, hl, hv⟩ := T.l_PLACES
    have hz : its.length = 8 := hv.length.symm
    have sq : SqT K H a.PLACES placesV := .inr ⟨_, its.toArray, n, hl, rfl, rfl, by rw [List.size_toArray, hz]; decide, by simpa [placesV] using hv⟩
    cases hk with
    | str x => exact iteT ⟨_, rfl, a.PLACES, _, rfl, .inr sq, rfl, rfl, q⟩
    | _ => exact iteF q
/-! ### Place -/
def sp_Place_init (K : PySem.W.Frag) (a : At) : Sp := fun vs H Q E => ∃ x dx v t, vs = [.ref x, v] ∧ H x = some (.ins a.k_Place dx []) ∧ Kn H v t ∧ (isPlB v = true → Q .non (upd H x (.ins a.k_Place dx [("own_depth", .int 0), ("own_name", v)]))) ∧ (isPlB v = false → Errs a.c_InvalidPlace v H E)
theorem ok_Place_init (T : Txt K mg a) (hfile : ∀ (vs : Array Value) (cl : Value) (cd : Option Addr) (sl : Array (Option Value)) (tx : Str) (tf : Tok), K.lookup a.o_Place_init = some ⟨cl, cd, .fields vs, sl⟩ → vs[2]? = some (.str tx tf) → ((P.main.file : Str) == tx) = true)
    (htop : (P.main.scope.names.lookup ("super" : Str)).isSome = false) : ∃ fd, FnOk P w K mg base (L2.CX P w) 3 a.m_Place_init fd ["self", "name"] (sp_Place_init K a) ∧ Binds K fd ["self", "name"] [] := by
  obtain ⟨fd1, F1, b1⟩ := ok_is_place (P := P) (w := w) (mg := mg) (base := base) T
  obtain ⟨fd2, F2, b2⟩ := ok_Term_init (P := P) (w := w) (mg := mg) (base := base) (CX := L2.CX P w) T
  have Z := FunS.ok (P := P) (w := w) (mg := mg) (base := base) (CX := L2.CX P w) (k := 2) (sp := sp_Place_init K a) T.m_Place_init sc_Place_init (fun vs H Q E h => ?_) (fun A outer s H vs Q E hr h => ?_)
  · obtain ⟨fd, G, _, _, _, _, _, _, _, _, rfl, _⟩ := Z
    exact ⟨_, G, .all fun us hl => match us, hl with | [_, _], _ => rfl⟩
  · obtain ⟨_, _, _, _, rfl, _⟩ := h
    rfl
  · obtain ⟨x, dx, v, t, rfl, hx, hk, q1, q2⟩ := h
    refine ⟨_, pssAt_cons (ps_if (pt_not (pt_val (pe_call F1 (hr.mono (by decide)) (by rfl) T.d_is_place.m T.d_is_place.kp b1 .nil pass0 (pa_cons (pv 1) pa_nil)))) (pss_one (ps_raiseV (i := 1) (k := 0) rfl (W := fun cls d _ H' => E cls d H') (takes_of rfl rfl rfl rfl) T.e_InvalidPlace T.ti T.di (hr.mono (by decide)) (by rfl) (pv 1))) pss_nil)
      (pssAt_super (X := NdefX.ncx (L2.CX P w) P w K mg base ["self", "name", "__class__"] (nfOf "__init__" "Place.__init__" s_Place_init a.w_Place_init a.o_Place_init) a.m_Place_init A outer s H E) (n0 := "self") rfl T.m_Place_init F2 b2 (hr.mono (by decide)) (E := fun _ _ _ => False) (passes_call (takes_of rfl rfl rfl rfl) fun _ _ _ _ h => h.elim) T.z_super (by rfl) (by rfl) (by rfl) rfl (by rfl) ⟨_, rfl, rfl⟩ hfile htop (by decide) (pa_cons pe_int pa_nil)
        (pssAt_of (pss_one (ps_fld (pv 0) (pv 1) rfl)))), ?_⟩
    refine ⟨v, rfl, v, t, rfl, hk, _, rfl, ?_⟩
    cases e : isPlB v with
    | false => exact iteT ⟨v, rfl, fun d hd => (q2 e).new (Ex.refl H) hd⟩
    | true =>
      refine iteF ⟨x, a.k_Place, dx, [], rfl, hx, T.s_Place, x, a.k_Place, dx, .int 0, rfl, hx, T.g_Place.cl, T.na_Place_own_depth, ?_⟩
      refine ⟨v, rfl, .ref x, rfl, x, a.k_Place, dx, [("own_depth", .int 0)], rfl, upd_same, T.g_Place.cl, T.na_Place_own_name, by show 1 < 1000; decide, ?_⟩
      rw [upd_upd]
      exact q1 e
end
end K12
namespace K12
open PySem PySem.Spec PyProof.Rows L2 LG Evl
section
variable {P : Program} {w : World} {K : PySem.W.Frag} {mg : Str → Option Value} {base : Heap} {a : At}
theorem okF_is_end (T : Txt K mg a) : ∃ fd, FnOk P w K mg base CX0 1 a.is_end fd ["value"] sp_is_end ∧ Binds K fd ["value"] [] := by
  obtain ⟨fd, F⟩ := T.d_is_end.F
  refine ⟨fd, F.ok sc_is_end (fun vs H Q E h => ?_) (fun cdv A outer s H vs Q E hr h => ?_), F.binds fun _ _ _ _ _ _ us hl => match us, hl with | [_], _ => rfl⟩
  · obtain ⟨_, _, rfl, _⟩ := h
    rfl
  · obtain ⟨v, t, rfl, hk, q⟩ := h
    refine ⟨_, (pss_one (ps_ret (pe_and (pe_callB call_isi (by rfl) T.z_isinstance (by decide +kernel) (pa_cons (pv 0) (pa_cons (pe_ty "str" (by rfl) T.z_str (by decide +kernel)) pa_nil))) (pe_one (pe_cmpR op_in_seq (pv 0) (pe_glob (v := .ref a.ENDS) rfl T.v_ENDS rfl) (by rfl)))))), ?_⟩
    refine ⟨v, rfl, v, .ty "str", _, _, _, rfl, .ty _, hk.ty, kn_str hk, _, rfl, ?_⟩
    obtain ⟨od, its, n, sl, hl, hv⟩ := T.l_ENDS
    have hz : its.length = 2 := hv.length.symm
    have sq : SqT K H a.ENDS [.str "bottom", .str "top"] := .inr ⟨_, its.toArray, n, hl, rfl, rfl, by rw [List.size_toArray, hz]; decide, by simpa using hv⟩
    cases hk with
    | str x => exact iteT ⟨_, rfl, a.ENDS, _, rfl, .inr sq, rfl, rfl, q⟩
    | _ => exact iteF q
/-! ### End -/
def sp_End_init (K : PySem.W.Frag) (a : At) : Sp := fun vs H Q E => ∃ x dx v t, vs = [.ref x, v] ∧ H x = some (.ins a.k_End dx []) ∧ Kn H v t ∧ (isEndS v = true → Q .non (upd H x (.ins a.k_End dx [("own_depth", .int 0), ("own_end", v)]))) ∧ (isEndS v = false → Errs a.c_InvalidEnd v H E)
theorem ok_End_init (T : Txt K mg a) (hfile : ∀ (vs : Array Value) (cl : Value) (cd : Option Addr) (sl : Array (Option Value)) (tx : Str) (tf : Tok), K.lookup a.o_End_init = some ⟨cl, cd, .fields vs, sl⟩ → vs[2]? = some (.str tx tf) → ((P.main.file : Str) == tx) = true)
    (htop : (P.main.scope.names.lookup ("super" : Str)).isSome = false) : ∃ fd, FnOk P w K mg base (L2.CX P w) 3 a.m_End_init fd ["self", "end"] (sp_End_init K a) ∧ Binds K fd ["self", "end"] [] := by
  obtain ⟨fd1, F1, b1⟩ := okF_is_end (P := P) (w := w) (mg := mg) (base := base) T
  obtain ⟨fd2, F2, b2⟩ := ok_Term_init (P := P) (w := w) (mg := mg) (base := base) (CX := L2.CX P w) T
  have Z := FunS.ok (P := P) (w := w) (mg := mg) (base := base) (CX := L2.CX P w) (k := 2) (sp := sp_End_init K a) T.m_End_init sc_End_init (fun vs H Q E h => ?_) (fun A outer s H vs Q E hr h => ?_)
  · obtain ⟨fd, G, _, _, _, _, _, _, _, _, rfl, _⟩ := Z
    exact ⟨_, G, .all fun us hl => match us, hl with | [_, _], _ => rfl⟩
  · obtain ⟨_, _, _, _, rfl, _⟩ := h
    rfl
  · obtain ⟨x, dx, v, t, rfl, hx, hk, q1, q2⟩ := h
    refine ⟨_, pssAt_cons (ps_if (pt_not (pt_val (pe_call F1 (hr.mono (by decide)) (by rfl) T.d_is_end.m T.d_is_end.kp b1 .nil pass0 (pa_cons (pv 1) pa_nil)))) (pss_one (ps_raiseV (i := 1) (k := 0) rfl (W := fun cls d _ H' => E cls d H') (takes_of rfl rfl rfl rfl) T.e_InvalidEnd T.ti T.di (hr.mono (by decide)) (by rfl) (pv 1))) pss_nil)
      (pssAt_super (X := NdefX.ncx (L2.CX P w) P w K mg base ["self", "end", "__class__"] (nfOf "__init__" "End.__init__" s_End_init a.w_End_init a.o_End_init) a.m_End_init A outer s H E) (n0 := "self") rfl T.m_End_init F2 b2 (hr.mono (by decide)) (E := fun _ _ _ => False) (passes_call (takes_of rfl rfl rfl rfl) fun _ _ _ _ h => h.elim) T.z_super (by rfl) (by rfl) (by rfl) rfl (by rfl) ⟨_, rfl, rfl⟩ hfile htop (by decide) (pa_cons pe_int pa_nil)
        (pssAt_of (pss_one (ps_fld (pv 0) (pv 1) rfl)))), ?_⟩
    refine ⟨v, rfl, v, t, rfl, hk, _, rfl, ?_⟩
    cases e : isEndS v with
    | false => exact iteT ⟨v, rfl, fun d hd => (q2 e).new (Ex.refl H) hd⟩
    | true =>
      refine iteF ⟨x, a.k_End, dx, [], rfl, hx, T.s_End, x, a.k_End, dx, .int 0, rfl, hx, T.g_End.cl, T.na_End_own_depth, ?_⟩
      refine ⟨v, rfl, .ref x, rfl, x, a.k_End, dx, [("own_depth", .int 0)], rfl, upd_same, T.g_End.cl, T.na_End_own_end, by show 1 < 1000; decide, ?_⟩
      rw [upd_upd]
      exact q1 e
/-! ### the properties -/
/-- a getter of an own field -/
theorem get_own {CX : CXT} {x qual f : Str} {st : Stmt} {g C : Addr} {N : List Str} {p1 p2 p3 : Pos} (M : GMe K x qual st g) (S : FnScope N ["self"] (defScope st)) (hN : N[0]? = some ("self" : Str)) (hb : defBody st = [.Return (some (.Attribute (.Name "self" p1) f p2)) p3]) (hbi : ∀ (kV doc pm : Value) (an : Option Addr) (cdv ct : Value) (us : List Value), us.length = 1 → bindArgs (PySem.W.fnOf x qual (defArgs st) (defBody st) (defScope st) .none kV doc pm an cdv ct) ⟨us, []⟩ = pure ((["self"] : List Str).zip us)) (c : Cls K C) (n : NoAttr K C f) :
    ∃ fd, FnOk P w K mg base CX 1 g fd ["self"] (getSp C f) ∧ Binds K fd ["self"] [] := by
  obtain ⟨fd, F⟩ := M.F
  have hbd : Binds K fd ["self"] [] := F.binds hbi
  obtain ⟨oc, od, kV, doc, pm, an, cdv, ct, osl, rfl, lk, hcd⟩ := F.ex
  exact ⟨_, fn_getter lk hcd S hN hb c n, hbd⟩
theorem ok_name {CX : CXT} (T : Txt K mg a) : ∃ fd, FnOk P w K mg base CX 1 a.m_Place_name fd ["self"] (getSp a.k_Place "own_name") ∧ Binds K fd ["self"] [] := get_own T.m_Place_name sc_Place_name rfl rfl (fun _ _ _ _ _ _ us hl => match us, hl with | [_], _ => rfl) T.g_Place.cl T.na_Place_own_name
theorem ok_end {CX : CXT} (T : Txt K mg a) : ∃ fd, FnOk P w K mg base CX 1 a.m_End_end fd ["self"] (getSp a.k_End "own_end") ∧ Binds K fd ["self"] [] := get_own T.m_End_end sc_End_end rfl rfl (fun _ _ _ _ _ _ us hl => match us, hl with | [_], _ => rfl) T.g_End.cl T.na_End_own_end
theorem ok_parts_l {CX : CXT} (T : Txt K mg a) : ∃ fd, FnOk P w K mg base CX 1 a.m_Lesser_parts fd ["self"] (getSp a.k_Lesser "own_parts") ∧ Binds K fd ["self"] [] := get_own T.m_Lesser_parts sc_Lesser_parts rfl rfl (fun _ _ _ _ _ _ us hl => match us, hl with | [_], _ => rfl) T.g_Lesser.cl T.na_Lesser_own_parts
theorem ok_parts_g {CX : CXT} (T : Txt K mg a) : ∃ fd, FnOk P w K mg base CX 1 a.m_Greater_parts fd ["self"] (getSp a.k_Greater "own_parts") ∧ Binds K fd ["self"] [] := get_own T.m_Greater_parts sc_Greater_parts rfl rfl (fun _ _ _ _ _ _ us hl => match us, hl with | [_], _ => rfl) T.g_Greater.cl T.na_Greater_own_parts
theorem ok_depth {CX : CXT} (T : Txt K mg a) {C : Addr} (c : Cls K C) (n : NoAttr K C "own_depth") : ∃ fd, FnOk P w K mg base CX 1 a.m_Term_depth fd ["self"] (getSp C "own_depth") ∧ Binds K fd ["self"] [] := get_own T.m_Term_depth sc_Term_depth rfl rfl (fun _ _ _ _ _ _ us hl => match us, hl with | [_], _ => rfl) c n
end
end K12
/-! Terms: trees, and the objects that are them. -/
namespace TM
open PySem PySem.Spec PyProof.Rows L2 LG Evl
/-- where the classes stand -/
structure Cs where
  place : Addr
  endd : Addr
  lesser : Addr
  greater : Addr
  term : Addr
inductive Tree where
  | place (n : Str)
  | endd (e : Str)
  | lesser (ts : List Tree)
  | greater (ts : List Tree)
mutual
def Tree.depth : Tree → Nat
  | .place _ => 0
  | .endd _ => 0
  | .lesser ts => Tree.depthAll ts + 1
  | .greater ts => Tree.depthAll ts + 1
def Tree.depthAll : List Tree → Nat
  | [] => 0
  | t :: ts => max t.depth (Tree.depthAll ts)
end
theorem depth_mem {t : Tree} : ∀ {ts : List Tree}, t ∈ ts → t.depth ≤ Tree.depthAll ts
  | u :: us, h => by
    rw [Tree.depthAll]
    rcases List.mem_cons.mp h with rfl | h
    · exact Nat.le_max_left _ _
    · exact Nat.le_trans (depth_mem h) (Nat.le_max_right _ _)
/-- v is the term t, in the heap H -/
inductive TmAt (c : Cs) (H : Hp) : V → Tree → Prop
  | place {a dx : Addr} {n : Str} (h : H a = some (.ins c.place dx [("own_depth", .int 0), ("own_name", .str n)])) : TmAt c H (.ref a) (.place n)
  | endd {a dx : Addr} {e : Str} (h : H a = some (.ins c.endd dx [("own_depth", .int 0), ("own_end", .str e)])) : TmAt c H (.ref a) (.endd e)
  | lesser {a dx p : Addr} {xs : List V} {ts : List Tree} (h : H a = some (.ins c.lesser dx [("own_depth", .int ((Tree.lesser ts).depth : Nat)), ("own_parts", .ref p)])) (hp : H p = some (.tup xs)) (hl : xs.length = ts.length) (hx : ∀ (i : Nat) (x : V) (t : Tree), xs[i]? = some x → ts[i]? = some t → TmAt c H x t) : TmAt c H (.ref a) (.lesser ts)
  | greater {a dx p : Addr} {xs : List V} {ts : List Tree} (h : H a = some (.ins c.greater dx [("own_depth", .int ((Tree.greater ts).depth : Nat)), ("own_parts", .ref p)])) (hp : H p = some (.tup xs)) (hl : xs.length = ts.length) (hx : ∀ (i : Nat) (x : V) (t : Tree), xs[i]? = some x → ts[i]? = some t → TmAt c H x t) : TmAt c H (.ref a) (.greater ts)
/-- what keeps instances and tuples keeps terms -/
theorem TmAt.up {c : Cs} {H H' : Hp} {v : V} {t : Tree} (e : Ex H H') (h : TmAt c H v t) : TmAt c H' v t := by
  induction h with
  | place h => exact .place (e _ _ h)
  | endd h => exact .endd (e _ _ h)
  | lesser h hp hl _ ih => exact .lesser (e _ _ h) (e _ _ hp) hl ih
  | greater h hp hl _ ih => exact .greater (e _ _ h) (e _ _ hp) hl ih
theorem TmAt.upW {c : Cs} {p : Addr} {xs : List V} {H H' : Hp} {v : V} {t : Tree} (hp0 : H p = some (.lst xs)) (e : ∀ b o, b ≠ p → (∀ ps, o ≠ .tbl ps) → H b = some o → H' b = some o) (h : TmAt c H v t) : TmAt c H' v t := by
  have k : ∀ {b : Addr} {o : HO}, H b = some o → (∀ zs, o ≠ .lst zs) → (∀ ps, o ≠ .tbl ps) → H' b = some o := fun {b o} hb hn ht => e b o (fun z => by
    rw [z, hp0] at hb
    exact hn xs (Option.some.inj hb).symm) ht hb
  induction h with
  | place h => exact .place (k h (fun _ z => by cases z) (fun _ z => by cases z))
  | endd h => exact .endd (k h (fun _ z => by cases z) (fun _ z => by cases z))
  | lesser h hp hl _ ih => exact .lesser (k h (fun _ z => by cases z) (fun _ z => by cases z)) (k hp (fun _ z => by cases z) (fun _ z => by cases z)) hl ih
  | greater h hp hl _ ih => exact .greater (k h (fun _ z => by cases z) (fun _ z => by cases z)) (k hp (fun _ z => by cases z) (fun _ z => by cases z)) hl ih
/-! ### text and representation -/
def joinS (sep : Str) : List Str → Str
  | [] => ""
  | [x] => x
  | x :: y :: r => x ++ sep ++ joinS sep (y :: r)
mutual
def Tree.text : Tree → Str
  | .place n => n
  | .endd e => e
  | .lesser ts => joinS " & " (Tree.innerAll ts)
  | .greater ts => joinS " | " (Tree.innerAll ts)
def Tree.innerAll : List Tree → List Str
  | [] => []
  | t :: ts => (if t.depth > 0 then "(" ++ t.text ++ ")" else t.text) :: Tree.innerAll ts
end
mutual
def Tree.repr : Tree → Str
  | .place n => "Place(" ++ PyData.shown (.str n) ++ ")"
  | .endd e => "End(" ++ PyData.shown (.str e) ++ ")"
  | .lesser ts => "Lesser(" ++ joinS ", " (Tree.reprAll ts) ++ ")"
  | .greater ts => "Greater(" ++ joinS ", " (Tree.reprAll ts) ++ ")"
def Tree.reprAll : List Tree → List Str
  | [] => []
  | t :: ts => t.repr :: Tree.reprAll ts
end
end TM
/-! super() in a def with a star parameter: def m(self, *v). -/
namespace LG
open PySem PySem.Spec PyProof.Rows L2
section
variable {P : Program} {w : World} {K : PySem.W.Frag} {mg : Str → Option Value} {base : Heap} {cc cda D f : Addr} {x qual : Str} {st : Stmt} {N ps : List Str} {k : Nat} {sp : Sp} {CX : CXT}
theorem FunS.cells (F : FunS K x qual st cc cda D f) {A : Around} {outer : List Env} {s : Shared} {H : Hp} (e0 : Env0 P w K mg base A outer s H) : NdefX.CellsAt [("__class__", cc)] ["__class__"] [some (V.ref D)] s.heap H := by
  have KX : K.In s.heap := e0.mod.kin.keeps fun b o e => (e0.bs b o e).1
  obtain ⟨cl, cd, sl, hcell⟩ := F.cell
  have one : ∀ {y : Str} {c : Addr}, List.lookup y [(("__class__" : Str), cc)] = some c → y = "__class__" ∧ c = cc := fun {y c} h => by
    rw [List.lookup_cons] at h
    split at h
    · rename_i z
      cases h
      exact ⟨eq_of_beq z, rfl⟩
    · cases h
  have isC : s.heap.IsCell cc (some (.ref D)) := ⟨_, KX _ _ hcell, rfl⟩
  refine ⟨rfl, fun y c h => ?_, fun a b c h1 h2 => (one h1).1.trans (one h2).1.symm, fun i y hy => ?_⟩
  · obtain ⟨_, rfl⟩ := one h
    exact ⟨(e0.bs _ _ (e0.mod.kin _ _ hcell)).2, _, isC⟩
  · match i, hy with
    | 0, hy =>
      cases hy
      exact ⟨cc, by simp, fun v hv => by cases hv; exact ⟨.ref D, rfl, isC⟩⟩
/-- def m(self, *v): what is left over is a new tuple -/
theorem FunS.star {p1 pv : Str} (F : FunS K x qual st cc cda D f) (S : NdefX.NScope N [p1, pv] ["__class__"] (defScope st)) (hCX : StX.CXUp CX)
    (hb : ∀ (kV doc pm : Value) (an : Option Addr) (ct : Value) (u : Value) (us : List Value), bindArgs (PySem.W.ksFn x qual (defArgs st) (defBody st) (defScope st) .none kV doc pm an (.ref cda) ct cc) ⟨u :: us, []⟩ = (newTuple us >>= fun t => pure [(p1, u), (pv, t)]))
    (hbody : ∀ (A : Around) (outer : List Env) (s : Shared) (H : Hp) (vs : List V) (Q : VK) (E : XK), Room k (A.deeper (NdefX.envF (nfOf x qual st cc cda) f s.heap.objs.size)) → sp vs H Q E →
      ∃ t, PSsAt (NdefX.ncx CX P w K mg base N (nfOf x qual st cc cda) f A outer s H E) (defBody st) (defBody st) t ∧ t { nx := fun _ H' => Q .non H', rt := Q } (NdefX.startF N vs [some (.ref D)]) H) :
    FnR P w K mg base CX (k + 1) f (fun vs H Q E => ∃ v ws, vs = v :: ws ∧ ws.length ≤ sizeLine ∧ ∀ p, H p = none → sp [v, V.ref p] (upd H p (.tup ws)) Q E) := by
  intro A outer s H us vs Q E hr e0 rv hsp
  obtain ⟨v, ws, rfl, hz, hq⟩ := hsp
  obtain ⟨oc, od, kV, doc, pm, an, ct, osl, lk⟩ := F.ex
  have KX : K.In s.heap := e0.mod.kin.keeps fun b o e => (e0.bs b o e).1
  have hn : H s.heap.objs.size = none := e0.hok.fresh (Nat.le_refl _)
  match us, rv with
  | u :: us, .cons r0 r =>
    have hl : us.length ≤ sizeLine := by
      rw [← r.length]
      exact hz
    refine codeAny_call_function hr.depth (KX _ _ lk) rfl S.co S.gen rfl (PySem.W.codeRec_of KX F.code) ?_
    rw [hb]
    refine wpAny_bind (wpAny_newTuple (wpAny_pure ?_) hl)
    have new : ObjOk P w (upd H s.heap.objs.size (.tup ws)) (s.heap.push ({ cls := .type "tuple", data := .seq us.toArray } : Obj)) s.heap.objs.size (.tup ws) := ⟨hz, us, r, ⟨_, Heap.get?_push_size _ rfl, rfl, _, rfl⟩⟩
    have un := StX.un_laid (fs := frs outer) (s := s) (o := ({ cls := .type "tuple", data := .seq us.toArray } : Obj)) (u := .tup ws) hn
    have e2 := StX.env0_laid e0 new
    have lim : (s.heap.push ({ cls := .type "tuple", data := .seq us.toArray } : Obj)).NoLimit := e0.mod.nolimit.keeps fun b o e => (e2.bs b o e).1
    refine wpAny_newFunctionEnv (fun y hy => S.nocell y hy) (fun y hy => S.par y.1 ?_) (fun h₁ hns hsb => ⟨lim.fresh _ hsb, PySem.ks_codeAny_funcAt ?_⟩) S.kind
    · rcases List.mem_cons.mp hy with rfl | hy
      · exact List.mem_cons_self
      · rw [List.mem_singleton.mp hy]
        exact List.mem_cons_of_mem _ List.mem_cons_self
    · obtain ⟨t, ht, hq2⟩ := hbody A outer { s with heap := s.heap.push ({ cls := .type "tuple", data := .seq us.toArray } : Obj) } _ _ Q E (hr.deeper _) (hq _ hn)
      have kp : ∀ b o, (s.heap.push ({ cls := .type "tuple", data := .seq us.toArray } : Obj)).get? b = some o → h₁.get? b = some o := fun b o e => hsb.extBut b o (Nat.ne_of_lt (Heap.lt_size e)) (Heap.get?_push_of_some _ e)
      have I := NdefX.inv_startN (CX := CX) (E := E) (f := f) (F := nfOf x qual st cc cda) (vs := [v, V.ref s.heap.objs.size]) (us := [u, Value.ref s.heap.objs.size]) (tk := s.toks + 2) S hr.hd e2 rfl (.cons r0 (.cons rfl .nil)) (F.cells e2) hns kp
      have kp0 : ∀ b o, s.heap.get? b = some o → (s.heap.push ({ cls := .type "tuple", data := .seq us.toArray } : Obj)).get? b = some o := fun b o e => Heap.get?_push_of_some _ e
      refine PySem.ks_wpAt_mono (ht [] _ _ _ _ I hq2) (fun fl s' hs => ?_) fun e s' hs => ?_
      · have fin : ∀ {σ' : L2.St} {H' : Hp} {v' : V} {u' : Value}, Inv (NdefX.ncx CX P w K mg base N (nfOf x qual st cc cda) f A outer { s with heap := s.heap.push ({ cls := .type "tuple", data := .seq us.toArray } : Obj) } (upd H s.heap.objs.size (.tup ws)) E) [] σ' H' s' → L2.RelV v' u' → Q v' H' → CE outer P w H s Q u' s' :=
          fun {σ' H' v' u'} J rv' q => ⟨v', H', J.os, J.bare, un.trans J.base, J.hok, rv', q⟩
        match fl, hs with
        | .ret u', ⟨v', σ', H', J, rv', q⟩ => exact fin J rv' q
        | .next, ⟨σ', H', J, q⟩ => exact fin (v' := V.non) (u' := Value.none) J rfl q
        | .brk, ⟨_, _, _, q⟩ => exact False.elim q
        | .cont, ⟨_, _, _, q⟩ => exact False.elim q
      · exact wpAny_mono hs (fun _ s'' z => hCX outer s H { s with heap := s.heap.push ({ cls := .type "tuple", data := .seq us.toArray } : Obj) } (upd H s.heap.objs.size (.tup ws)) E e s'' un kp0 rfl z) fun e' s'' z => hCX outer s H { s with heap := s.heap.push ({ cls := .type "tuple", data := .seq us.toArray } : Obj) } (upd H s.heap.objs.size (.tup ws)) E e' s'' un kp0 rfl z
end
end LG
namespace K12
open PySem PySem.Spec PyProof.Rows L2 LG Evl
/-- a statement that is never reached -/
theorem ps_no {X : Cx} {st : Stmt} : PS X st (fun _ _ _ => False) := ⟨fun _ _ _ _ _ _ h => h.elim⟩
abbrev csOf (a : At) : TM.Cs := ⟨a.k_Place, a.k_End, a.k_Lesser, a.k_Greater, a.k_Term⟩
section
variable {P : Program} {w : World} {K : PySem.W.Frag} {mg : Str → Option Value} {base : Heap} {a : At}
theorem kit_own {C D : Addr} (h1 : PySem.W.clsIn K D ≠ none) (h2 : PySem.W.typeIn K (.ref D) = some (.type "type")) {b : Bool} (hne : C ≠ D) (h : PySem.W.subIn K (.ref C) (.ref D) = some b) : PySem.W.kitOne K (.ref C) (.ref D) = some b := by
  unfold PySem.W.kitOne
  rw [if_neg (by intro z; exact hne (Value.ref.inj (beq_iff_eq.mp z)))]
  obtain ⟨cd, hc⟩ := Option.ne_none_iff_exists'.mp h1
  show (if ((PySem.W.clsIn K D).isSome && PySem.W.typeIn K (.ref D) == some (.type "type")) = true then PySem.W.subIn K (.ref C) (.ref D) else none) = some b
  rw [if_pos (by rw [hc, h2]; rfl)]
  exact h
theorem kit_self {C : Addr} : PySem.W.kitOne K (.ref C) (.ref C) = some true := by
  unfold PySem.W.kitOne
  rw [if_pos (by simp)]
theorem ty_ins {c x : Addr} {dx : Addr} {H : Hp} {fs : List (Str × V)} {nm : Str} (T : Txt K mg a) (g : GCl K mg nm c) (h : H x = some (.ins c dx fs)) : TyX K H (.ref x) (.ref c) := .base (.ins h g.cl g.ha T.hn T.htk g.hm)
/-- the class of a term, and whether it is the class at D -/
theorem tm_ty {H : Hp} {v : V} {t : TM.Tree} (T : Txt K mg a) (h : TM.TmAt (csOf a) H v t) : ∃ C, TyX K H v (.ref C) ∧ PySem.W.kitOne K (.ref C) (.ref a.k_Term) = some true := by
  have self : ∀ {C : Addr}, PySem.W.subIn K (.ref C) (.ref a.k_Term) = some true → PySem.W.kitOne K (.ref C) (.ref a.k_Term) = some true := fun {C} h => by
    by_cases e : C = a.k_Term
    · rw [e]
      exact kit_self
    · exact kit_own T.g_Term.ki.1 T.g_Term.ki.2 e h
  cases h with
  | place h => exact ⟨_, ty_ins T T.g_Place h, self T.x_Place_Term⟩
  | endd h => exact ⟨_, ty_ins T T.g_End h, self T.x_End_Term⟩
  | lesser h _ _ _ => exact ⟨_, ty_ins T T.g_Lesser h, self T.x_Lesser_Term⟩
  | greater h _ _ _ => exact ⟨_, ty_ins T T.g_Greater h, self T.x_Greater_Term⟩
def sp_want_term (a : At) : Sp := fun vs H Q _ => ∃ v t, vs = [v] ∧ TM.TmAt (csOf a) H v t ∧ Q .non H
theorem ok_want_term (T : Txt K mg a) : ∃ fd, FnOk P w K mg base CX0 1 a.want_term fd ["value"] (sp_want_term a) ∧ Binds K fd ["value"] [] := by
  obtain ⟨fd, F⟩ := T.d_want_term.F
  refine ⟨fd, F.ok sc_want_term (fun vs H Q E h => ?_) (fun cdv A outer s H vs Q E hr h => ?_), F.binds fun _ _ _ _ _ _ us hl => match us, hl with | [_], _ => rfl⟩
  · obtain ⟨_, _, rfl, _⟩ := h
    rfl
  · obtain ⟨v, t, rfl, ht, q⟩ := h
    obtain ⟨C, ty, kit⟩ := tm_ty T ht
    refine ⟨_, (pss_one (ps_if (pt_not (pt_val (pe_callB call_isi (by rfl) T.z_isinstance (by decide +kernel) (pa_cons (pv 0) (pa_cons (pe_glob (v := .ref a.k_Term) (by rfl) T.g_Term.m rfl) pa_nil))))) (pss_one ps_no) pss_nil)), ?_⟩
    exact ⟨v, rfl, v, .ref a.k_Term, _, _, _, rfl, .own _, ty, kit, _, rfl, iteF q⟩
def sp_want_terms (K : PySem.W.Frag) (a : At) : Sp := fun vs H Q _ => ∃ p xs, vs = [.ref p] ∧ SqT K H p xs ∧ (∀ x ∈ xs, ∃ t, TM.TmAt (csOf a) H x t) ∧ Q .non H
theorem ok_want_terms (T : Txt K mg a) : ∃ fd, FnOk P w K mg base CX0 2 a.want_terms fd ["values"] (sp_want_terms K a) ∧ Binds K fd ["values"] [] := by
  obtain ⟨fd1, F1, b1⟩ := ok_want_term (P := P) (w := w) (mg := mg) (base := base) T
  obtain ⟨fd, F⟩ := T.d_want_terms.F
  refine ⟨fd, F.ok sc_want_terms (fun vs H Q E h => ?_) (fun cdv A outer s H vs Q E hr h => ?_), F.binds fun _ _ _ _ _ _ us hl => match us, hl with | [_], _ => rfl⟩
  · obtain ⟨_, _, rfl, _⟩ := h
    rfl
  · obtain ⟨p, xs, rfl, hs, hx, q⟩ := h
    have nd := sc_want_terms.nd
    refine ⟨_, (pss_one (ps_for PassesOwn.never rfl (pi_tup (pv 0)) (pg_name (i := 1) nd rfl (.inl rfl)) (pss_one (ps_expr (pe_call F1 (hr.mono (by decide)) (by rfl) T.d_want_term.m T.d_want_term.kp b1 .nil pass0 (pa_cons (pv 1) pa_nil)))))), ?_⟩
    refine ⟨.ref p, rfl, p, rfl, ⟨xs, hs⟩, for_tup (K := K) (a := p) (xs := xs) (fun i σ H2 => H2 = H ∧ ∃ u, σ = [some (.ref p), u]) ⟨rfl, none, rfl⟩ (fun i σ H2 _ h => h.1 ▸ hs) ?_ (fun σ H2 h => h.1 ▸ q)⟩
    rintro i y σ H2 hi ⟨rfl, u, rfl⟩
    obtain ⟨t, ht⟩ := hx y (List.mem_of_getElem? hi)
    exact ⟨y, rfl, y, t, rfl, ht, rfl, some y, rfl⟩
end
end K12
/-! A property of an object of one of several own classes; a comprehension over a tuple. -/
namespace LG
open PySem PySem.Spec PyProof.Rows L2 Evl
/-- at the class C the name f is a property that hands out the field fld -/
structure PropG (P : Program) (w : World) (K : PySem.W.Frag) (mg : Str → Option Value) (base : Heap) (CX : CXT) (C : Addr) (f fld : Str) : Prop where
  cl : Cls K C
  ex : ∃ p g fd, PropOf K C f p g ∧ FnOk P w K mg base CX 1 g fd ["self"] (getSp C fld) ∧ Binds K fd ["self"] []
/-- e.f: which field it is, is told by the class -/
def tGetA (G : Addr → Str → Prop) (ta : TE) : TE := fun σ H Q => ta σ H fun x H1 => ∃ a C dx fs fld v, x = .ref a ∧ H1 a = some (.ins C dx fs) ∧ G C fld ∧ fs.lookup fld = some v ∧ Q v H1
section
variable {X : Cx} {CX : CXT} {G : Addr → Str → Prop} {e : Expr} {f : Str} {pos : Pos} {ta : TE}
theorem pe_getA (he : PE X e ta) (hG : ∀ C fld, G C fld → PropG X.prog X.w X.K X.mg X.base CX C f fld) (hr : Room 2 X.A) (hx : Passes CX X.nox (fun _ _ _ => False))
    (hab : attributeBase e f X.env (eval e X.env) = eval e X.env) : PE X (.Attribute e f pos) (tGetA G ta) := by
  refine ⟨fun pins s σ H Q I h => ?_⟩
  refine attr_of hab (thn (he.run pins s σ H _ I h) fun u s1 ⟨x, H1, I1, rx, a, C, dx, fs, fld, v, ex, ea, g, hv, q⟩ => ?_)
  subst ex
  obtain rfl : u = Value.ref a := rx
  obtain ⟨p, ga, fd, hp, F, hb⟩ := (hG C fld g).ex
  exact getprop_ok I1 ea (hG C fld g).cl hp F hr hb .nil hx ⟨a, dx, fs, v, rfl, ea, hv, q⟩
end
section
variable {te : TE} {t : TT} {σ : L2.St} {H : Hp} {K : PySem.W.Frag} {G : Addr → Str → Prop}
theorem ev_getA {a C dx : Addr} {fs : List (Str × V)} {fld : Str} {v : V} (h : Ev te σ H (.ref a)) (ea : H a = some (.ins C dx fs)) (g : G C fld) (hv : fs.lookup fld = some v) : Ev (tGetA G te) σ H v :=
  fun H1 e Q q => h H1 e _ fun H2 e2 => ⟨a, C, dx, fs, fld, v, rfl, e2 _ _ (e _ _ ea), g, hv, q H2 e2⟩
theorem el_lcT {a : Addr} {xs : List V} {tl : TE} {j : Nat} {vs : List Nat} (f : Nat → Bool) (v : Nat → V) (h : Ev tl σ H (.ref a)) (hx : SqT K H a xs) (hz : xs.length ≤ 40000) (hw : ∀ x, wipe ((wipe σ vs).set j (some x)) vs = wipe σ vs)
    (ht : ∀ (i : Nat) (x : V) H1, Ex H H1 → xs[i]? = some x → EvT t ((wipe σ vs).set j (some x)) H1 (f i)) (he : ∀ (i : Nat) (x : V) H1, Ex H H1 → xs[i]? = some x → f i = true → Ev te ((wipe σ vs).set j (some x)) H1 (v i)) :
    EvL (tLc (iTup K tl) (gName j) t te vs) σ H (given xs.length f v) := fun H0 e Q q => h H0 e _ fun H1 e1 => ⟨a, rfl, ⟨xs, ex_t (e.trans e1) hx⟩, fun Dl hD =>
  lc_tup (xs := xs) (Cw H1 f v Dl) ⟨hD, Ex.new hD, upd_same⟩ (fun i H' _ p => ex_t ((e.trans e1).trans p.2.1) hx) (fun i x H' hi p => ⟨hw x, cw_turn p (by have := (List.getElem?_eq_some_iff.mp hi).1; omega) (ht i x H1 (e.trans e1) hi) (fun hf => he i x H1 (e.trans e1) hi hf)⟩)
    (fun H' p => q Dl H' (fresh_back e1 p.1) (e1.trans p.2.1) p.2.2)⟩
/-- each element of a tuple, computed: ys the values -/
theorem el_tmap {a : Addr} {xs ys : List V} {tl : TE} {j : Nat} {vs : List Nat} (h : Ev tl σ H (.ref a)) (hx : SqT K H a xs) (hz : xs.length ≤ 40000) (hl : xs.length = ys.length) (hw : ∀ x, wipe ((wipe σ vs).set j (some x)) vs = wipe σ vs)
    (he : ∀ (i : Nat) (x y : V) H1, Ex H H1 → xs[i]? = some x → ys[i]? = some y → Ev te ((wipe σ vs).set j (some x)) H1 y) :
    EvL (tLc (iTup K tl) (gName j) tYes te vs) σ H ys := by
  have z : given xs.length (fun _ => true) (fun i => ys.getD i .non) = ys := by
    unfold given
    rw [List.filter_eq_self.mpr fun _ _ => rfl, hl]
    apply List.ext_getElem?
    intro i
    rw [List.getElem?_map]
    by_cases hi : i < ys.length
    · rw [List.getElem?_eq_getElem (by simpa using hi), List.getElem?_eq_getElem hi]
      simp [List.getD_eq_getElem?_getD, List.getElem?_eq_getElem hi]
    · rw [List.getElem?_eq_none (by simpa using hi), List.getElem?_eq_none (by omega)]
      rfl
  rw [← z]
  refine el_lcT (fun _ => true) _ h hx hz hw (fun i x H1 e hi => fun H2 e2 _ q => q H2 (Ex.refl H2)) (fun i x H1 e hi _ => ?_)
  have hi2 : i < ys.length := hl ▸ (List.getElem?_eq_some_iff.mp hi).1
  exact he i x _ H1 e hi (by rw [List.getElem?_eq_getElem hi2]; simp [List.getD_eq_getElem?_getD, List.getElem?_eq_getElem hi2])
end
end LG
namespace K12
open PySem PySem.Spec PyProof.Rows L2 LG Evl
section
variable {P : Program} {w : World} {K : PySem.W.Frag} {mg : Str → Option Value} {base : Heap} {a : At}
/-! ### which field a property hands out -/
def gDepth (a : At) : Addr → Str → Prop := fun C fld => (C = a.k_Place ∨ C = a.k_End ∨ C = a.k_Lesser ∨ C = a.k_Greater) ∧ fld = "own_depth"
def gParts (a : At) : Addr → Str → Prop := fun C fld => (C = a.k_Lesser ∨ C = a.k_Greater) ∧ fld = "own_parts"
def gNm (a : At) : Addr → Str → Prop := fun C fld => C = a.k_Place ∧ fld = "own_name"
def gEnd (a : At) : Addr → Str → Prop := fun C fld => C = a.k_End ∧ fld = "own_end"
theorem g_depth {CX : CXT} (T : Txt K mg a) : ∀ C fld, gDepth a C fld → PropG P w K mg base CX C "depth" fld := by
  rintro C fld ⟨rfl | rfl | rfl | rfl, rfl⟩
  · obtain ⟨fd, F, b⟩ := ok_depth (P := P) (w := w) (mg := mg) (base := base) (CX := CX) T T.g_Place.cl T.na_Place_own_depth
    exact ⟨T.g_Place.cl, _, _, _, T.p_Place_depth, F, b⟩
  · obtain ⟨fd, F, b⟩ := ok_depth (P := P) (w := w) (mg := mg) (base := base) (CX := CX) T T.g_End.cl T.na_End_own_depth
    exact ⟨T.g_End.cl, _, _, _, T.p_End_depth, F, b⟩
  · obtain ⟨fd, F, b⟩ := ok_depth (P := P) (w := w) (mg := mg) (base := base) (CX := CX) T T.g_Lesser.cl T.na_Lesser_own_depth
    exact ⟨T.g_Lesser.cl, _, _, _, T.p_Lesser_depth, F, b⟩
  · obtain ⟨fd, F, b⟩ := ok_depth (P := P) (w := w) (mg := mg) (base := base) (CX := CX) T T.g_Greater.cl T.na_Greater_own_depth
    exact ⟨T.g_Greater.cl, _, _, _, T.p_Greater_depth, F, b⟩
theorem g_parts {CX : CXT} (T : Txt K mg a) : ∀ C fld, gParts a C fld → PropG P w K mg base CX C "parts" fld := by
  rintro C fld ⟨rfl | rfl, rfl⟩
  · obtain ⟨fd, F, b⟩ := ok_parts_l (P := P) (w := w) (mg := mg) (base := base) (CX := CX) T
    exact ⟨T.g_Lesser.cl, _, _, _, T.p_Lesser_parts, F, b⟩
  · obtain ⟨fd, F, b⟩ := ok_parts_g (P := P) (w := w) (mg := mg) (base := base) (CX := CX) T
    exact ⟨T.g_Greater.cl, _, _, _, T.p_Greater_parts, F, b⟩
theorem g_nm {CX : CXT} (T : Txt K mg a) : ∀ C fld, gNm a C fld → PropG P w K mg base CX C "name" fld := by
  rintro C fld ⟨rfl, rfl⟩
  obtain ⟨fd, F, b⟩ := ok_name (P := P) (w := w) (mg := mg) (base := base) (CX := CX) T
  exact ⟨T.g_Place.cl, _, _, _, T.p_Place_name, F, b⟩
theorem g_end {CX : CXT} (T : Txt K mg a) : ∀ C fld, gEnd a C fld → PropG P w K mg base CX C "end" fld := by
  rintro C fld ⟨rfl, rfl⟩
  obtain ⟨fd, F, b⟩ := ok_end (P := P) (w := w) (mg := mg) (base := base) (CX := CX) T
  exact ⟨T.g_End.cl, _, _, _, T.p_End_end, F, b⟩
/-- a term's depth is in its field -/
theorem tm_depth {H : Hp} {v : V} {t : TM.Tree} (h : TM.TmAt (csOf a) H v t) : ∃ x C dx fs, v = .ref x ∧ H x = some (.ins C dx fs) ∧ gDepth a C "own_depth" ∧ fs.lookup ("own_depth" : Str) = some (V.int (t.depth : Nat)) := by
  cases h with
  | place h => exact ⟨_, _, _, _, rfl, h, ⟨.inl rfl, rfl⟩, by simp [List.lookup, TM.Tree.depth]⟩
  | endd h => exact ⟨_, _, _, _, rfl, h, ⟨.inr (.inl rfl), rfl⟩, by simp [List.lookup, TM.Tree.depth]⟩
  | lesser h _ _ _ => exact ⟨_, _, _, _, rfl, h, ⟨.inr (.inr (.inl rfl)), rfl⟩, by simp [List.lookup]⟩
  | greater h _ _ _ => exact ⟨_, _, _, _, rfl, h, ⟨.inr (.inr (.inr rfl)), rfl⟩, by simp [List.lookup]⟩
theorem depthAll_max : ∀ {ts : List TM.Tree}, 0 < ts.length → (TM.Tree.depthAll ts) ∈ ts.map TM.Tree.depth
  | [t], _ => by simp [TM.Tree.depthAll]
  | t :: u :: us, _ => by
    have ih := depthAll_max (ts := u :: us) (by simp)
    rw [TM.Tree.depthAll]
    rcases Nat.le_total t.depth (TM.Tree.depthAll (u :: us)) with h | h
    · rw [Nat.max_eq_right h, List.map_cons]
      exact List.mem_cons_of_mem _ ih
    · rw [Nat.max_eq_left h, List.map_cons]
      exact List.mem_cons_self
theorem depthAll_is {ts : List TM.Tree} {m : Int} (h : m ∈ ts.map fun t => ((t.depth : Nat) : Int)) (hm : ∀ y ∈ ts.map fun t => ((t.depth : Nat) : Int), y ≤ m) : m = ((TM.Tree.depthAll ts : Nat) : Int) := by
  obtain ⟨t, ht, rfl⟩ := List.mem_map.mp h
  have h1 := TM.depth_mem ht
  have h2 : TM.Tree.depthAll ts ∈ ts.map TM.Tree.depth := depthAll_max (List.length_pos_of_mem ht)
  obtain ⟨u, hu, e⟩ := List.mem_map.mp h2
  have h3 := hm _ (List.mem_map.mpr ⟨u, hu, rfl⟩)
  omega
theorem ev_maxL {K : PySem.W.Frag} {te : TE} {σ : L2.St} {H : Hp} {ns : List Int} {m : Int} (h : EvL te σ H (ns.map V.int)) (hne : 0 < ns.length) (hu : ∀ k, k ∈ ns → (∀ y, y ∈ ns → y ≤ k) → k = m) : Ev (tCB (rMax K) (tCons te tNil)) σ H (.int m) :=
  fun H1 e Q q => h H1 e _ fun p H2 hp e2 hl => ⟨p, ns, rfl, sq_of hl, hne, fun k a b => (hu k a b) ▸ q H2 e2⟩
/-! ### depth_above, of parts that can be -/
def sp_depth_above (K : PySem.W.Frag) (a : At) : Sp := fun vs H Q _ => ∃ p xs ts, vs = [.ref p] ∧ SqT K H p xs ∧ xs.length = ts.length ∧ 2 ≤ xs.length ∧ xs.length ≤ 1000 ∧ (∀ (i : Nat) (x : V) (t : TM.Tree), xs[i]? = some x → ts[i]? = some t → TM.TmAt (csOf a) H x t) ∧ ∀ H', Ex H H' → Q (.int ((TM.Tree.depthAll ts + 1 : Nat) : Int)) H'
theorem ok_depth_above (T : Txt K mg a) : ∃ fd, FnOk P w K mg base CX0 3 a.depth_above fd ["terms"] (sp_depth_above K a) ∧ Binds K fd ["terms"] [] := by
  obtain ⟨fd1, F1, b1⟩ := ok_want_terms (P := P) (w := w) (mg := mg) (base := base) T
  obtain ⟨fd, F⟩ := T.d_depth_above.F
  refine ⟨fd, F.ok sc_depth_above (fun vs H Q E h => ?_) (fun cdv A outer s H vs Q E hr h => ?_), F.binds fun _ _ _ _ _ _ us hl => match us, hl with | [_], _ => rfl⟩
  · obtain ⟨_, _, _, rfl, _⟩ := h
    rfl
  · obtain ⟨p, xs, ts, rfl, hs, hl, h2, hz, hx, q⟩ := h
    have nd := sc_depth_above.nd
    refine ⟨_, (pss_cons (ps_if (pt_cmpR op_lt (pe_callB call_len_seq (by rfl) T.z_len (by decide +kernel) (pa_cons (pv 0) pa_nil)) (pe_glob (v := .int 2) (by rfl) T.v_LEAST_PARTS ⟨_, rfl⟩) (nomark _)) (pss_one ps_no) pss_nil)
      (pss_cons (ps_expr (pe_call F1 (hr.mono (by decide)) (by rfl) T.d_want_terms.m T.d_want_terms.kp b1 .nil pass0 (pa_cons (pv 0) pa_nil)))
      (pss_one (ps_ret (pe_op op_add pe_int (pe_callB (cr_max rfl) (by rfl) T.z_max (by decide +kernel) (pa_cons (pe_lc rfl (own := [("term", 1)]) (g := gName 1) (by exact nd) (pi_tup (pv 0)) (blkOk_by (own := [("term", 1)]) (N := ["terms", "term"]) (sc := defScope s_depth_above) (by decide +kernel)) (fun _ _ _ _ _ => pg_name (i := 1) nd rfl (.inl rfl)) (fun _ _ _ _ _ => pts_nil)
        (fun _ _ _ _ _ => pe_getA (G := gDepth a) (CX := CX0) (pv 1) (g_depth T) (hr.mono (by decide)) pass0 rfl)) pa_nil))))))), ?_⟩
    refine s_if (b := false) (et_test (ev_is (ev_op (ev_cb (ea_cons (ev_var rfl) ea_nil) (z := .int (xs.length : Nat)) fun H1 e Q q => ⟨p, xs, rfl, .inr (ex_t e hs), q H1 (Ex.refl H1)⟩) ev_c rv_I0) (by
      congr 1
      rw [decide_eq_false_iff_not]
      omega))) (fun h => nomatch h) fun _ H1 e1 => ?_
    refine s_drop (v := .non) (ev_call (ea_cons (ev_var rfl) ea_nil) fun H2 e2 Q q E => ⟨p, xs, rfl, ex_t (e1.trans e2) hs, fun x hx0 => by
      obtain ⟨i, hi⟩ := List.mem_iff_getElem?.mp hx0
      have hi2 : i < ts.length := hl ▸ (List.getElem?_eq_some_iff.mp hi).1
      exact ⟨ts[i], (hx i x _ hi (List.getElem?_eq_getElem hi2)).up (e1.trans e2)⟩, q H2 (Ex.refl H2)⟩) fun H2 e2 => ?_
    have e02 := e1.trans e2
    have L : EvL (tLc (iTup K (tVar 0)) (gName 1) tYes (tGetA (gDepth a) (tVar 1)) [1]) [some (.ref p), none] H2 ((ts.map fun t => ((t.depth : Nat) : Int)).map V.int) := by
      refine el_tmap (ev_var rfl) (ex_t e02 hs) (by omega) (by rw [List.length_map, List.length_map]; exact hl) (fun x => rfl) (fun i x y H3 e3 hi hy => ?_)
      rw [List.getElem?_map, List.getElem?_map] at hy
      obtain ⟨n, hn, rfl⟩ := Option.map_eq_some_iff.mp hy
      obtain ⟨t, ht, rfl⟩ := Option.map_eq_some_iff.mp hn
      obtain ⟨b, C, dx, fs, rfl, hb, g, hv⟩ := tm_depth ((hx i x t hi ht).up (e02.trans e3))
      exact ev_getA (ev_var rfl) hb g hv
    refine s_ret (ev_is (ev_op ev_c (ev_maxL L (by rw [List.length_map]; omega) fun m a b => depthAll_is a b) rv_I0) ?_) fun H3 e3 => q H3 (e02.trans e3)
    congr 1
    push_cast
    omega
end
end K12
namespace K12
open PySem PySem.Spec PyProof.Rows L2 LG Evl
section
variable {P : Program} {w : World} {K : PySem.W.Frag} {mg : Str → Option Value} {base : Heap} {a : At}
/-! ### Lesser, Greater: made of two or more terms -/
/-- the heap, with the parts' tuple at p: x's depth and its parts are set -/
def sp_two_init (a : At) (C : Addr) : Sp := fun vs H Q _ => ∃ x dx p xs ts, vs = [.ref x, .ref p] ∧ H x = some (.ins C dx []) ∧ H p = some (.tup xs) ∧ xs.length = ts.length ∧ 2 ≤ xs.length ∧ xs.length ≤ 1000 ∧ (∀ (i : Nat) (y : V) (t : TM.Tree), xs[i]? = some y → ts[i]? = some t → TM.TmAt (csOf a) H y t) ∧
  ∀ H', Ex H H' → Q .non (upd H' x (.ins C dx [("own_depth", .int ((TM.Tree.depthAll ts + 1 : Nat) : Int)), ("own_parts", .ref p)]))
theorem ok_Lesser_init (T : Txt K mg a) (hfile : ∀ (vs : Array Value) (cl : Value) (cd : Option Addr) (sl : Array (Option Value)) (tx : Str) (tf : Tok), K.lookup a.o_Lesser_init = some ⟨cl, cd, .fields vs, sl⟩ → vs[2]? = some (.str tx tf) → ((P.main.file : Str) == tx) = true)
    (htop : (P.main.scope.names.lookup ("super" : Str)).isSome = false) : FnR P w K mg base (L2.CX P w) 5 a.m_Lesser_init (fun vs H Q E => ∃ v ws, vs = v :: ws ∧ ws.length ≤ sizeLine ∧ ∀ p, H p = none → sp_two_init a a.k_Lesser [v, V.ref p] (upd H p (.tup ws)) Q E) := by
  obtain ⟨fd1, F1, b1⟩ := ok_depth_above (P := P) (w := w) (mg := mg) (base := base) T
  obtain ⟨fd2, F2, b2⟩ := ok_Term_init (P := P) (w := w) (mg := mg) (base := base) (CX := L2.CX P w) T
  refine FunS.star (P := P) (w := w) (mg := mg) (base := base) (CX := L2.CX P w) (k := 4) (sp := sp_two_init a a.k_Lesser) T.m_Lesser_init sc_Lesser_init StX.cxUp (fun kV doc pm an ct u us => match us with | [] => rfl | _ :: _ => rfl) (fun A outer s H vs Q E hr h => ?_)
  obtain ⟨x, dx, p, xs, ts, rfl, hx, hp, hl, h2, hz, ht, q⟩ := h
  refine ⟨_, (pssAt_super (X := NdefX.ncx (L2.CX P w) P w K mg base ["self", "terms", "__class__"] (nfOf "__init__" "Lesser.__init__" s_Lesser_init a.w_Lesser_init a.o_Lesser_init) a.m_Lesser_init A outer s H E) (n0 := "self") rfl T.m_Lesser_init F2 b2 (hr.mono (by decide)) (E := fun _ _ _ => False) (passes_call (takes_of rfl rfl rfl rfl) fun _ _ _ _ h => h.elim) T.z_super (by rfl) (by rfl) (by rfl) rfl (by rfl) ⟨_, rfl, rfl⟩ hfile htop (by decide) (pa_cons (pe_call F1 (hr.mono (by decide)) (by rfl) T.d_depth_above.m T.d_depth_above.kp b1 .nil pass0 (pa_cons (pv 1) pa_nil)) pa_nil)
        (pssAt_of (pss_one (ps_fld (pv 0) (pv 1) rfl)))), ?_⟩
  refine ⟨x, a.k_Lesser, dx, [], rfl, hx, T.s_Lesser, .ref p, rfl, p, xs, ts, rfl, st_of hp, hl, h2, hz, ht, fun H' e => ?_⟩
  refine ⟨x, a.k_Lesser, dx, _, rfl, e _ _ hx, T.g_Lesser.cl, T.na_Lesser_own_depth, ?_⟩
  refine ⟨.ref p, rfl, .ref x, rfl, x, a.k_Lesser, dx, [("own_depth", _)], rfl, upd_same, T.g_Lesser.cl, T.na_Lesser_own_parts, by show 1 < 1000; decide, ?_⟩
  rw [upd_upd]
  exact q H' e
theorem ok_Greater_init (T : Txt K mg a) (hfile : ∀ (vs : Array Value) (cl : Value) (cd : Option Addr) (sl : Array (Option Value)) (tx : Str) (tf : Tok), K.lookup a.o_Greater_init = some ⟨cl, cd, .fields vs, sl⟩ → vs[2]? = some (.str tx tf) → ((P.main.file : Str) == tx) = true)
    (htop : (P.main.scope.names.lookup ("super" : Str)).isSome = false) : FnR P w K mg base (L2.CX P w) 5 a.m_Greater_init (fun vs H Q E => ∃ v ws, vs = v :: ws ∧ ws.length ≤ sizeLine ∧ ∀ p, H p = none → sp_two_init a a.k_Greater [v, V.ref p] (upd H p (.tup ws)) Q E) := by
  obtain ⟨fd1, F1, b1⟩ := ok_depth_above (P := P) (w := w) (mg := mg) (base := base) T
  obtain ⟨fd2, F2, b2⟩ := ok_Term_init (P := P) (w := w) (mg := mg) (base := base) (CX := L2.CX P w) T
  refine FunS.star (P := P) (w := w) (mg := mg) (base := base) (CX := L2.CX P w) (k := 4) (sp := sp_two_init a a.k_Greater) T.m_Greater_init sc_Greater_init StX.cxUp (fun kV doc pm an ct u us => match us with | [] => rfl | _ :: _ => rfl) (fun A outer s H vs Q E hr h => ?_)
  obtain ⟨x, dx, p, xs, ts, rfl, hx, hp, hl, h2, hz, ht, q⟩ := h
  refine ⟨_, (pssAt_super (X := NdefX.ncx (L2.CX P w) P w K mg base ["self", "terms", "__class__"] (nfOf "__init__" "Greater.__init__" s_Greater_init a.w_Greater_init a.o_Greater_init) a.m_Greater_init A outer s H E) (n0 := "self") rfl T.m_Greater_init F2 b2 (hr.mono (by decide)) (E := fun _ _ _ => False) (passes_call (takes_of rfl rfl rfl rfl) fun _ _ _ _ h => h.elim) T.z_super (by rfl) (by rfl) (by rfl) rfl (by rfl) ⟨_, rfl, rfl⟩ hfile htop (by decide) (pa_cons (pe_call F1 (hr.mono (by decide)) (by rfl) T.d_depth_above.m T.d_depth_above.kp b1 .nil pass0 (pa_cons (pv 1) pa_nil)) pa_nil)
        (pssAt_of (pss_one (ps_fld (pv 0) (pv 1) rfl)))), ?_⟩
  refine ⟨x, a.k_Greater, dx, [], rfl, hx, T.s_Greater, .ref p, rfl, p, xs, ts, rfl, st_of hp, hl, h2, hz, ht, fun H' e => ?_⟩
  refine ⟨x, a.k_Greater, dx, _, rfl, e _ _ hx, T.g_Greater.cl, T.na_Greater_own_depth, ?_⟩
  refine ⟨.ref p, rfl, .ref x, rfl, x, a.k_Greater, dx, [("own_depth", _)], rfl, upd_same, T.g_Greater.cl, T.na_Greater_own_parts, by show 1 < 1000; decide, ?_⟩
  rw [upd_upd]
  exact q H' e
end
end K12
/-! Plain readings: isinstance of an own object, f-strings of three parts, join of a new list. -/
namespace LG
open PySem PySem.Spec PyProof.Rows L2 Evl
section
variable {te : TE} {σ : L2.St} {H : Hp} {K : PySem.W.Frag}
theorem et_isT {x : V} {C : Value} {D : Addr} {b : Bool} (hx : Ev te σ H x) (ty : ∀ H1, Ex H H1 → TyX K H1 x C) (hk : PySem.W.kitOne K C (.ref D) = some b) : EvT (tTest (tCB (rIsi K) (tCons te (tCons (tC (.ref D)) tNil)))) σ H b :=
  et_test (ev_cb (ea_cons hx (ea_cons ev_c ea_nil)) fun H1 e Q q => ⟨x, .ref D, C, .ref D, b, rfl, .own D, ty H1 e, hk, q H1 (Ex.refl H1)⟩)
theorem ev_fmtR {y : Str} (h : Ev te σ H (.str y)) (hz : (reprText y).length ≤ 100000) : Ev (tFmtR te) σ H (.str (reprText y)) := fun H1 e Q q => h H1 e _ fun H2 e2 => .inl ⟨y, rfl, sz_of hz, q H2 e2⟩
theorem ev_fmt {y : Str} (h : Ev te σ H (.str y)) (hz : y.length ≤ sizeLine) : Ev (tFmt te) σ H (.str y) := fun H1 e Q q => h H1 e _ fun H2 e2 => .inl ⟨y, rfl, hz, q H2 e2⟩
theorem ev_joined3 {s1 s2 y : Str} (h : Ev te σ H (.str y)) (h1 : Str.empty ++ s1 = s1) (z1 : s1.length ≤ sizeLine) (z2 : (s1 ++ y).length ≤ sizeLine) (z3 : (s1 ++ y ++ s2).length ≤ sizeLine) :
    Ev (fun σ H Q => tJs [tC (.str s1), te, tC (.str s2)] Str.empty σ H fun out H1 => Q (.str out) H1) σ H (.str (s1 ++ y ++ s2)) := fun H1 e Q q => ⟨s1, rfl, by rw [h1]; exact z1, by
      rw [h1]
      exact h H1 e _ fun H2 e2 => ⟨y, rfl, z2, s2, rfl, z3, q H2 e2⟩⟩
theorem ev_join {sep : Str} {ys : List Str} (h : EvL te σ H (ys.map V.str)) (hz : (ys.map (·.length)).sum + ys.length * sep.length ≤ 16777216) :
    Ev (tM1 (fun x xs H Q => ∃ a p, ∃ ys : List Str, x = .str a ∧ xs = [.ref p] ∧ (SqL K H p (ys.map V.str) ∨ SqT K H p (ys.map V.str)) ∧ (ys.map (·.length)).sum + ys.length * a.length ≤ 16777216 ∧ Q (.str (Txt.join a ys)) H) (tC (.str sep)) te) σ H (.str (TM.joinS sep ys)) := by
  intro H1 e Q q
  refine ⟨⟨sep, rfl⟩, h H1 e _ fun p H2 hp e2 hl => ⟨sep, p, ys, rfl, rfl, .inl (sq_of hl), hz, ?_⟩⟩
  have z : ∀ ys : List Str, Str.join sep ys = TM.joinS sep ys := by
    intro ys
    induction ys with
    | nil => rfl
    | cons x r ih =>
      cases r with
      | nil => rfl
      | cons y r =>
        show x ++ sep ++ Str.join sep (y :: r) = x ++ sep ++ TM.joinS sep (y :: r)
        rw [ih]
  rw [TL.join_eq, z]
  exact q H2 e2
end
end LG
namespace K12
open PySem PySem.Spec PyProof.Rows L2 LG Evl
section
variable {P : Program} {w : World} {K : PySem.W.Frag} {mg : Str → Option Value} {base : Heap} {a : At}
theorem kit_of {C D : Addr} {nm : Str} {b : Bool} (g : GCl K mg nm D) (h : PySem.W.subIn K (.ref C) (.ref D) = some b) (self : PySem.W.subIn K (.ref D) (.ref D) = some true) : PySem.W.kitOne K (.ref C) (.ref D) = some b := by
  by_cases e : C = D
  · subst e
    rw [self] at h
    cases h
    exact kit_self
  · exact kit_own g.ki.1 g.ki.2 e h
/-- what a term's representation wants to be made: no list, no text is too long -/
inductive RepOk : TM.Tree → Prop
  | place {n : Str} (h : (reprText n).length ≤ 1000) : RepOk (.place n)
  | endd {e : Str} (h : (reprText e).length ≤ 1000) : RepOk (.endd e)
  | lesser {ts : List TM.Tree} (h1 : ts.length ≤ 1000) (h2 : ((TM.Tree.reprAll ts).map (·.length)).sum + ts.length * 2 ≤ 1000000) (hr : ∀ t ∈ ts, RepOk t) : RepOk (.lesser ts)
  | greater {ts : List TM.Tree} (h1 : ts.length ≤ 1000) (h2 : ((TM.Tree.reprAll ts).map (·.length)).sum + ts.length * 2 ≤ 1000000) (hr : ∀ t ∈ ts, RepOk t) : RepOk (.greater ts)
theorem et_isB {te : TE} {σ : L2.St} {H : Hp} {x : V} {C : Value} {D : Addr} {b : Bool} (hx : Ev te σ H x) (ty : ∀ H1, Ex H H1 → TyX K H1 x C) (hk : PySem.W.kitOne K C (.ref D) = some b) : EvT (tB (tCB (rIsi K) (tCons te (tCons (tC (.ref D)) tNil)))) σ H b :=
  et_B (ev_cb (ea_cons hx (ea_cons ev_c ea_nil)) fun H1 e Q q => ⟨x, .ref D, C, .ref D, b, rfl, .own D, ty H1 e, hk, q H1 (Ex.refl H1)⟩)
theorem len3 (a b c : Str) : (a ++ b ++ c).length = a.length + b.length + c.length := by rw [PySem.Str.length_append, PySem.Str.length_append]
theorem joinS_len (sep : Str) : ∀ ys : List Str, (TM.joinS sep ys).length ≤ (ys.map (·.length)).sum + ys.length * sep.length
  | [] => Nat.zero_le _
  | [x] => by simp [TM.joinS]
  | x :: y :: r => by
    have ih := joinS_len sep (y :: r)
    rw [TM.joinS, len3, List.map_cons, List.sum_cons, List.length_cons, Nat.succ_mul]
    omega
theorem reprAll_at : ∀ {ts : List TM.Tree} {i : Nat} {t : TM.Tree}, ts[i]? = some t → (TM.Tree.reprAll ts)[i]? = some t.repr
  | t :: ts, 0, u, h => by
    simp at h
    subst h
    simp [TM.Tree.reprAll]
  | t :: ts, i + 1, u, h => by
    simp at h
    simp [TM.Tree.reprAll]
    exact reprAll_at h
theorem reprAll_len : ∀ {ts : List TM.Tree}, (TM.Tree.reprAll ts).length = ts.length
  | [] => rfl
  | t :: ts => by rw [TM.Tree.reprAll, List.length_cons, List.length_cons, reprAll_len]
/-- a term of depth below n -/
def sp_term_repr (a : At) (n : Nat) : Sp := fun vs H Q _ => ∃ v t, vs = [v] ∧ TM.TmAt (csOf a) H v t ∧ RepOk t ∧ t.depth < n ∧ ∀ H', Ex H H' → Q (.str t.repr) H'
theorem ok_term_repr (T : Txt K mg a) : ∀ n, ∃ fd, FnOk P w K mg base CX0 (n + 2) a.term_repr fd ["term"] (sp_term_repr a n) ∧ Binds K fd ["term"] [] := by
  intro n
  induction n with
  | zero =>
    obtain ⟨fd, F⟩ := T.d_term_repr.F
    refine ⟨fd, F.ok sc_term_repr (fun vs H Q E h => ?_) (fun cdv A outer s H vs Q E hr h => ?_), F.binds fun _ _ _ _ _ _ us hl => match us, hl with | [_], _ => rfl⟩
    · obtain ⟨_, _, rfl, _⟩ := h
      rfl
    · obtain ⟨_, t, _, _, _, hd, _⟩ := h
      exact absurd hd (Nat.not_lt_zero _)
  | succ n ih =>
    obtain ⟨fd1, F1, b1⟩ := ih
    obtain ⟨fd, F⟩ := T.d_term_repr.F
    refine ⟨fd, F.ok sc_term_repr (fun vs H Q E h => ?_) (fun cdv A outer s H vs Q E hr h => ?_), F.binds fun _ _ _ _ _ _ us hl => match us, hl with | [_], _ => rfl⟩
    · obtain ⟨_, _, rfl, _⟩ := h
      rfl
    · obtain ⟨v, t, rfl, ht, ok, hd, q⟩ := h
      have nd := sc_term_repr.nd
      have hr2 := hr.mono (j := 2) (by omega)
      refine ⟨_, (pss_cons (ps_if (pt_val (pe_callB call_isi (by rfl) T.z_isinstance (by decide +kernel) (pa_cons (pv 0) (pa_cons (pe_glob (v := .ref a.k_Place) (by rfl) T.g_Place.m rfl) pa_nil)))) (pss_one (ps_ret (pe_joined (.cons pe_str (.cons (pe_fmtR (pe_getA (G := gNm a) (CX := CX0) (pv 0) (g_nm T) hr2 pass0 rfl)) (.cons pe_str .nil)))))) pss_nil)
        (pss_cons (ps_if (pt_val (pe_callB call_isi (by rfl) T.z_isinstance (by decide +kernel) (pa_cons (pv 0) (pa_cons (pe_glob (v := .ref a.k_End) (by rfl) T.g_End.m rfl) pa_nil)))) (pss_one (ps_ret (pe_joined (.cons pe_str (.cons (pe_fmtR (pe_getA (G := gEnd a) (CX := CX0) (pv 0) (g_end T) hr2 pass0 rfl)) (.cons pe_str .nil)))))) pss_nil)
        (pss_cons (ps_set (i := 1) nd rfl (.inl rfl) (pe_join pe_str (pe_lc rfl (own := [("part", 2)]) (g := gName 2) (by exact nd) (pi_tup (pe_getA (G := gParts a) (CX := CX0) (pv 0) (g_parts T) hr2 pass0 rfl)) (blkOk_by (own := [("part", 2)]) (N := ["term", "inner", "part"]) (sc := defScope s_term_repr) (by decide +kernel)) (fun _ _ _ _ _ => pg_name (i := 2) nd rfl (.inl rfl)) (fun _ _ _ _ _ => pts_nil)
          (fun _ _ _ _ _ => pe_call F1 hr (by rfl) T.d_term_repr.m T.d_term_repr.kp b1 .nil pass0 (pa_cons (pv 2) pa_nil)))))
        (pss_one (ps_ret (pe_ifExp (pt_val (pe_callB call_isi (by rfl) T.z_isinstance (by decide +kernel) (pa_cons (pv 0) (pa_cons (pe_glob (v := .ref a.k_Lesser) (by rfl) T.g_Lesser.m rfl) pa_nil)))) (pe_joined (.cons pe_str (.cons (pe_fmt (pv 1)) (.cons pe_str .nil)))) (pe_joined (.cons pe_str (.cons (pe_fmt (pv 1)) (.cons pe_str .nil)))))))))), ?_⟩
      cases ht with
      | @place x dx nm hx =>
        cases ok with
        | place hz =>
          refine s_if (b := true) (et_isT (ev_var rfl) (fun H1 e => ty_ins T T.g_Place (e _ _ hx)) (kit_of T.g_Place T.x_Place_Place T.x_Place_Place)) (fun _ H1 e1 => ?_) (fun z => nomatch z)
          refine s_ret (ev_joined3 (ev_fmtR (ev_getA (ev_var rfl) (e1 _ _ hx) ⟨rfl, rfl⟩ rfl) (by omega)) rfl (by decide) (sz_of ?_) (sz_of ?_)) fun H2 e2 => q H2 (e1.trans e2)
          · rw [PySem.Str.length_append]
            have : ("Place(" : Str).length = 6 := by decide
            omega
          · rw [len3]
            have h1 : ("Place(" : Str).length = 6 := by decide
            have h2 : (")" : Str).length = 1 := by decide
            omega
      | @endd x dx nm hx =>
        cases ok with
        | endd hz =>
          refine s_if (b := false) (et_isT (ev_var rfl) (fun H1 e => ty_ins T T.g_End (e _ _ hx)) (kit_of T.g_Place T.x_End_Place T.x_Place_Place)) (fun z => nomatch z) (fun _ H1 e1 => ?_)
          refine s_if (b := true) (et_isT (ev_var rfl) (fun H2 e => ty_ins T T.g_End ((e1.trans e) _ _ hx)) (kit_of T.g_End T.x_End_End T.x_End_End)) (fun _ H2 e2 => ?_) (fun z => nomatch z)
          refine s_ret (ev_joined3 (ev_fmtR (ev_getA (ev_var rfl) ((e1.trans e2) _ _ hx) ⟨rfl, rfl⟩ rfl) (by omega)) rfl (by decide) (sz_of ?_) (sz_of ?_)) fun H3 e3 => q H3 ((e1.trans e2).trans e3)
          · rw [PySem.Str.length_append]
            have : ("End(" : Str).length = 4 := by decide
            omega
          · rw [len3]
            have h1 : ("End(" : Str).length = 4 := by decide
            have h2 : (")" : Str).length = 1 := by decide
            omega
      | @lesser x dx p xs ts hx hp hl hxs =>
        cases ok with
        | lesser hz1 hz2 hok =>
          refine s_if (b := false) (et_isT (ev_var rfl) (fun H1 e => ty_ins T T.g_Lesser (e _ _ hx)) (kit_of T.g_Place T.x_Lesser_Place T.x_Place_Place)) (fun z => nomatch z) (fun _ H1 e1 => ?_)
          refine s_if (b := false) (et_isT (ev_var rfl) (fun H2 e => ty_ins T T.g_Lesser ((e1.trans e) _ _ hx)) (kit_of T.g_End T.x_Lesser_End T.x_End_End)) (fun z => nomatch z) (fun _ H2 e2 => ?_)
          have e02 := e1.trans e2
          have hn : TM.Tree.depthAll ts < n := Nat.lt_of_succ_lt_succ (by simpa [TM.Tree.depth] using hd)
          have L : EvL (tLc (iTup K (tGetA (gParts a) (tVar 0))) (gName 2) tYes (tCall (sp_term_repr a n) [] (fun _ _ _ => False) (tCons (tVar 2) tNil)) [2]) [some (.ref x), none, none] H2 ((TM.Tree.reprAll ts).map V.str) := by
            refine el_tmap (ev_getA (ev_var rfl) (e02 _ _ hx) ⟨.inl rfl, rfl⟩ rfl) (st_of (e02 _ _ hp)) (by omega) (by rw [List.length_map, reprAll_len]; exact hl) (fun x => rfl) (fun i y z H3 e3 hi hz => ?_)
            rw [List.getElem?_map] at hz
            obtain ⟨u, hu, rfl⟩ := Option.map_eq_some_iff.mp hz
            have hi2 : i < ts.length := hl ▸ (List.getElem?_eq_some_iff.mp hi).1
            have ht : ts[i]? = some ts[i] := List.getElem?_eq_getElem hi2
            have hu2 := reprAll_at ht
            rw [hu] at hu2
            cases hu2
            refine ev_call (ea_cons (ev_var rfl) ea_nil) fun H4 e4 Q q E => ⟨y, ts[i], rfl, (hxs i y _ hi ht).up ((e02.trans e3).trans e4), hok _ (List.getElem_mem hi2), Nat.lt_of_le_of_lt (TM.depth_mem (List.getElem_mem hi2)) hn, fun H5 e5 => q H5 e5⟩
          have hj := joinS_len ", " (TM.Tree.reprAll ts)
          have hc : (", " : Str).length = 2 := by decide
          rw [hc, reprAll_len] at hj
          refine s_asg (ev_join L (by rw [hc, reprAll_len]; omega)) fun H3 e3 => ?_
          dsimp only
          refine s_ret (ev_if (b := true) (et_isB (ev_var rfl) (fun H4 e => ty_ins T T.g_Lesser ((e02.trans (e3.trans e)) _ _ hx)) (kit_of T.g_Lesser T.x_Lesser_Lesser T.x_Lesser_Lesser)) (fun _ => ?_) (fun _ => ?_)) fun H4 e4 => q H4 (e02.trans (e3.trans e4))
          · refine ev_joined3 (ev_fmt (ev_var rfl) (Nat.le_trans (Nat.le_trans hj hz2) (by decide))) rfl (by decide) ?_ ?_
            · refine Nat.le_trans (m := 1000020) ?_ (by decide)
              rw [PySem.Str.length_append]
              have : ("Lesser(" : Str).length = 7 := by decide
              omega
            · refine Nat.le_trans (m := 1000020) ?_ (by decide)
              rw [len3]
              have h1 : ("Lesser(" : Str).length = 7 := by decide
              have h2 : (")" : Str).length = 1 := by decide
              omega
          · contradiction
      | @greater x dx p xs ts hx hp hl hxs =>
        cases ok with
        | greater hz1 hz2 hok =>
          refine s_if (b := false) (et_isT (ev_var rfl) (fun H1 e => ty_ins T T.g_Greater (e _ _ hx)) (kit_of T.g_Place T.x_Greater_Place T.x_Place_Place)) (fun z => nomatch z) (fun _ H1 e1 => ?_)
          refine s_if (b := false) (et_isT (ev_var rfl) (fun H2 e => ty_ins T T.g_Greater ((e1.trans e) _ _ hx)) (kit_of T.g_End T.x_Greater_End T.x_End_End)) (fun z => nomatch z) (fun _ H2 e2 => ?_)
          have e02 := e1.trans e2
          have hn : TM.Tree.depthAll ts < n := Nat.lt_of_succ_lt_succ (by simpa [TM.Tree.depth] using hd)
          have L : EvL (tLc (iTup K (tGetA (gParts a) (tVar 0))) (gName 2) tYes (tCall (sp_term_repr a n) [] (fun _ _ _ => False) (tCons (tVar 2) tNil)) [2]) [some (.ref x), none, none] H2 ((TM.Tree.reprAll ts).map V.str) := by
            refine el_tmap (ev_getA (ev_var rfl) (e02 _ _ hx) ⟨.inr rfl, rfl⟩ rfl) (st_of (e02 _ _ hp)) (by omega) (by rw [List.length_map, reprAll_len]; exact hl) (fun x => rfl) (fun i y z H3 e3 hi hz => ?_)
            rw [List.getElem?_map] at hz
            obtain ⟨u, hu, rfl⟩ := Option.map_eq_some_iff.mp hz
            have hi2 : i < ts.length := hl ▸ (List.getElem?_eq_some_iff.mp hi).1
            have ht : ts[i]? = some ts[i] := List.getElem?_eq_getElem hi2
            have hu2 := reprAll_at ht
            rw [hu] at hu2
            cases hu2
            refine ev_call (ea_cons (ev_var rfl) ea_nil) fun H4 e4 Q q E => ⟨y, ts[i], rfl, (hxs i y _ hi ht).up ((e02.trans e3).trans e4), hok _ (List.getElem_mem hi2), Nat.lt_of_le_of_lt (TM.depth_mem (List.getElem_mem hi2)) hn, fun H5 e5 => q H5 e5⟩
          have hj := joinS_len ", " (TM.Tree.reprAll ts)
          have hc : (", " : Str).length = 2 := by decide
          rw [hc, reprAll_len] at hj
          refine s_asg (ev_join L (by rw [hc, reprAll_len]; omega)) fun H3 e3 => ?_
          dsimp only
          refine s_ret (ev_if (b := false) (et_isB (ev_var rfl) (fun H4 e => ty_ins T T.g_Greater ((e02.trans (e3.trans e)) _ _ hx)) (kit_of T.g_Lesser T.x_Greater_Lesser T.x_Lesser_Lesser)) (fun _ => ?_) (fun _ => ?_)) fun H4 e4 => q H4 (e02.trans (e3.trans e4))
          · contradiction
          · refine ev_joined3 (ev_fmt (ev_var rfl) (Nat.le_trans (Nat.le_trans hj hz2) (by decide))) rfl (by decide) ?_ ?_
            · refine Nat.le_trans (m := 1000020) ?_ (by decide)
              rw [PySem.Str.length_append]
              have : ("Greater(" : Str).length = 8 := by decide
              omega
            · refine Nat.le_trans (m := 1000020) ?_ (by decide)
              rw [len3]
              have h1 : ("Greater(" : Str).length = 8 := by decide
              have h2 : (")" : Str).length = 1 := by decide
              omega
end
end K12
namespace K12
open PySem PySem.Spec PyProof.Rows L2 LG Evl
section
variable {P : Program} {w : World} {K : PySem.W.Frag} {mg : Str → Option Value} {base : Heap} {a : At}
theorem ev_joinL {te : TE} {σ : L2.St} {H : Hp} {K : PySem.W.Frag} {p : Addr} {sep : Str} {ys : List Str} (h : Ev te σ H (.ref p)) (hp : H p = some (.lst (ys.map V.str))) (hz : (ys.map (·.length)).sum + ys.length * sep.length ≤ 16777216) :
    Ev (tM1 (fun x xs H Q => ∃ a p, ∃ ys : List Str, x = .str a ∧ xs = [.ref p] ∧ (SqL K H p (ys.map V.str) ∨ SqT K H p (ys.map V.str)) ∧ (ys.map (·.length)).sum + ys.length * a.length ≤ 16777216 ∧ Q (.str (Txt.join a ys)) H) (tC (.str sep)) te) σ H (.str (TM.joinS sep ys)) := by
  intro H1 e Q q
  refine ⟨⟨sep, rfl⟩, h H1 e _ fun H2 e2 => ⟨sep, p, ys, rfl, rfl, .inl (sq_of (e2 _ _ (e _ _ hp))), hz, ?_⟩⟩
  have z : ∀ ys : List Str, Str.join sep ys = TM.joinS sep ys := by
    intro ys
    induction ys with
    | nil => rfl
    | cons x r ih =>
      cases r with
      | nil => rfl
      | cons y r =>
        show x ++ sep ++ Str.join sep (y :: r) = x ++ sep ++ TM.joinS sep (y :: r)
        rw [ih]
  rw [TL.join_eq, z]
  exact q H2 e2
/-- what a term's text wants to be made -/
inductive TextOk : TM.Tree → Prop
  | place {n : Str} (h : n.length ≤ 1000) : TextOk (.place n)
  | endd {e : Str} (h : e.length ≤ 1000) : TextOk (.endd e)
  | lesser {ts : List TM.Tree} (h1 : ts.length ≤ 1000) (h2 : ((TM.Tree.innerAll ts).map (·.length)).sum + ts.length * 3 ≤ 1000000) (hr : ∀ t ∈ ts, TextOk t) : TextOk (.lesser ts)
  | greater {ts : List TM.Tree} (h1 : ts.length ≤ 1000) (h2 : ((TM.Tree.innerAll ts).map (·.length)).sum + ts.length * 3 ≤ 1000000) (hr : ∀ t ∈ ts, TextOk t) : TextOk (.greater ts)
theorem innerAll_len : ∀ {ts : List TM.Tree}, (TM.Tree.innerAll ts).length = ts.length
  | [] => rfl
  | t :: ts => by rw [TM.Tree.innerAll, List.length_cons, List.length_cons, innerAll_len]
theorem innerAll_at : ∀ {ts : List TM.Tree} {i : Nat} {t : TM.Tree}, ts[i]? = some t → (TM.Tree.innerAll ts)[i]? = some (if t.depth > 0 then "(" ++ t.text ++ ")" else t.text)
  | t :: ts, 0, u, h => by
    simp at h
    subst h
    simp [TM.Tree.innerAll]
  | t :: ts, i + 1, u, h => by
    simp at h
    simp [TM.Tree.innerAll]
    exact innerAll_at h
theorem TextOk.len {t : TM.Tree} (h : TextOk t) : t.text.length ≤ 1000000 := by
  cases h with
  | place h => rw [TM.Tree.text]; omega
  | endd h => rw [TM.Tree.text]; omega
  | @lesser ts h1 h2 _ =>
    rw [TM.Tree.text]
    have hj := joinS_len " & " (TM.Tree.innerAll ts)
    have hc : (" & " : Str).length = 3 := by decide
    rw [hc, innerAll_len] at hj
    omega
  | @greater ts h1 h2 _ =>
    rw [TM.Tree.text]
    have hj := joinS_len " | " (TM.Tree.innerAll ts)
    have hc : (" | " : Str).length = 3 := by decide
    rw [hc, innerAll_len] at hj
    omega
/-- a term of depth below n -/
def sp_term_text (a : At) (n : Nat) : Sp := fun vs H Q _ => ∃ v t, vs = [v] ∧ TM.TmAt (csOf a) H v t ∧ TextOk t ∧ t.depth < n ∧ ∀ H', Ex H H' → Q (.str t.text) H'
theorem ok_term_text (T : Txt K mg a) : ∀ n, ∃ fd, FnOk P w K mg base CX0 (n + 2) a.term_text fd ["term"] (sp_term_text a n) ∧ Binds K fd ["term"] [] := by
  intro n
  induction n with
  | zero =>
    obtain ⟨fd, F⟩ := T.d_term_text.F
    refine ⟨fd, F.ok sc_term_text (fun vs H Q E h => ?_) (fun cdv A outer s H vs Q E hr h => ?_), F.binds fun _ _ _ _ _ _ us hl => match us, hl with | [_], _ => rfl⟩
    · obtain ⟨_, _, rfl, _⟩ := h
      rfl
    · obtain ⟨_, t, _, _, _, hd, _⟩ := h
      exact absurd hd (Nat.not_lt_zero _)
  | succ n ih =>
    obtain ⟨fd1, F1, b1⟩ := ih
    obtain ⟨fd, F⟩ := T.d_term_text.F
    refine ⟨fd, F.ok sc_term_text (fun vs H Q E h => ?_) (fun cdv A outer s H vs Q E hr h => ?_), F.binds fun _ _ _ _ _ _ us hl => match us, hl with | [_], _ => rfl⟩
    · obtain ⟨_, _, rfl, _⟩ := h
      rfl
    · obtain ⟨v, t, rfl, ht, ok, hd, q⟩ := h
      have nd := sc_term_text.nd
      have hr2 := hr.mono (j := 2) (by omega)
      refine ⟨_, (pss_cons (ps_if (pt_val (pe_callB call_isi (by rfl) T.z_isinstance (by decide +kernel) (pa_cons (pv 0) (pa_cons (pe_glob (v := .ref a.k_Place) (by rfl) T.g_Place.m rfl) pa_nil)))) (pss_one (ps_ret (pe_getA (G := gNm a) (CX := CX0) (pv 0) (g_nm T) hr2 pass0 rfl))) pss_nil)
        (pss_cons (ps_if (pt_val (pe_callB call_isi (by rfl) T.z_isinstance (by decide +kernel) (pa_cons (pv 0) (pa_cons (pe_glob (v := .ref a.k_End) (by rfl) T.g_End.m rfl) pa_nil)))) (pss_one (ps_ret (pe_getA (G := gEnd a) (CX := CX0) (pv 0) (g_end T) hr2 pass0 rfl))) pss_nil)
        (pss_cons (ps_setLc (i := 1) (own := [("part", 2)]) (g := gName 2) rfl (by exact nd) rfl rfl (by rfl) (pi_tup (pe_getA (G := gParts a) (CX := CX0) (pv 0) (g_parts T) hr2 pass0 rfl)) (blkOk_by (own := [("part", 2)]) (N := ["term", "texts", "part"]) (sc := defScope s_term_text) (by decide +kernel)) (fun _ _ _ _ _ => pg_name (i := 2) nd rfl (.inl rfl)) (fun _ _ _ _ _ => pts_nil)
          (fun _ _ _ _ _ => pe_ifExp (pt_cmpR op_gt (pe_getA (G := gDepth a) (CX := CX0) (pv 2) (g_depth T) hr2 pass0 rfl) pe_int (nomark _)) (pe_joined (.cons pe_str (.cons (pe_fmt (pe_call F1 hr (by rfl) T.d_term_text.m T.d_term_text.kp b1 .nil pass0 (pa_cons (pv 2) pa_nil))) (.cons pe_str .nil)))) (pe_call F1 hr (by rfl) T.d_term_text.m T.d_term_text.kp b1 .nil pass0 (pa_cons (pv 2) pa_nil))))
        (pss_one (ps_ret (pe_ifExp (pt_val (pe_callB call_isi (by rfl) T.z_isinstance (by decide +kernel) (pa_cons (pv 0) (pa_cons (pe_glob (v := .ref a.k_Lesser) (by rfl) T.g_Lesser.m rfl) pa_nil)))) (pe_join pe_str (pv 1)) (pe_join pe_str (pv 1)))))))), ?_⟩
      cases ht with
      | @place x dx nm hx =>
        cases ok with
        | place hz =>
          refine s_if (b := true) (et_isT (ev_var rfl) (fun H1 e => ty_ins T T.g_Place (e _ _ hx)) (kit_of T.g_Place T.x_Place_Place T.x_Place_Place)) (fun _ H1 e1 => ?_) (fun z => nomatch z)
          refine s_ret (v := .str nm) (ev_getA (ev_var rfl) (e1 _ _ hx) ⟨rfl, rfl⟩ rfl) fun H2 e2 => ?_
          have := q H2 (e1.trans e2)
          rwa [TM.Tree.text] at this
      | @endd x dx nm hx =>
        cases ok with
        | endd hz =>
          refine s_if (b := false) (et_isT (ev_var rfl) (fun H1 e => ty_ins T T.g_End (e _ _ hx)) (kit_of T.g_Place T.x_End_Place T.x_Place_Place)) (fun z => nomatch z) (fun _ H1 e1 => ?_)
          refine s_if (b := true) (et_isT (ev_var rfl) (fun H2 e => ty_ins T T.g_End ((e1.trans e) _ _ hx)) (kit_of T.g_End T.x_End_End T.x_End_End)) (fun _ H2 e2 => ?_) (fun z => nomatch z)
          refine s_ret (v := .str nm) (ev_getA (ev_var rfl) ((e1.trans e2) _ _ hx) ⟨rfl, rfl⟩ rfl) fun H3 e3 => ?_
          have := q H3 ((e1.trans e2).trans e3)
          rwa [TM.Tree.text] at this
      | @lesser x dx p xs ts hx hp hl hxs =>
        cases ok with
        | lesser hz1 hz2 hok =>
          refine s_if (b := false) (et_isT (ev_var rfl) (fun H1 e => ty_ins T T.g_Lesser (e _ _ hx)) (kit_of T.g_Place T.x_Lesser_Place T.x_Place_Place)) (fun z => nomatch z) (fun _ H1 e1 => ?_)
          refine s_if (b := false) (et_isT (ev_var rfl) (fun H2 e => ty_ins T T.g_Lesser ((e1.trans e) _ _ hx)) (kit_of T.g_End T.x_Lesser_End T.x_End_End)) (fun z => nomatch z) (fun _ H2 e2 => ?_)
          have e02 := e1.trans e2
          have hn : TM.Tree.depthAll ts < n := Nat.lt_of_succ_lt_succ (by simpa [TM.Tree.depth] using hd)
          have hc : (" & " : Str).length = 3 := by decide
          have L : EvL (tLc (iTup K (tGetA (gParts a) (tVar 0))) (gName 2) tYes (tIf (tTest (tOp (rI0 fun i j => V.bl (decide (j < i))) (tGetA (gDepth a) (tVar 2)) (tC (V.int 0)))) (fun σ H Q => tJs [tC (V.str "("), tFmt (tCall (sp_term_text a n) [] E0 (tCons (tVar 2) tNil)), tC (V.str ")")] Str.empty σ H fun out H1 => Q (V.str out) H1) (tCall (sp_term_text a n) [] E0 (tCons (tVar 2) tNil))) [2]) [some (.ref x), none, none] H2 ((TM.Tree.innerAll ts).map V.str) := by
            refine el_tmap (ev_getA (ev_var rfl) (e02 _ _ hx) ⟨.inl rfl, rfl⟩ rfl) (st_of (e02 _ _ hp)) (by omega) (by rw [List.length_map, innerAll_len]; exact hl) (fun x => rfl) (fun i y z H3 e3 hi hz => ?_)
            rw [List.getElem?_map] at hz
            obtain ⟨u, hu, rfl⟩ := Option.map_eq_some_iff.mp hz
            have hi2 : i < ts.length := hl ▸ (List.getElem?_eq_some_iff.mp hi).1
            have ht : ts[i]? = some ts[i] := List.getElem?_eq_getElem hi2
            have hu2 := innerAll_at ht
            rw [hu] at hu2
            cases hu2
            have hy := fun {H4 : Hp} (e4 : Ex H3 H4) => (hxs i y _ hi ht).up ((e02.trans e3).trans e4)
            have okt := hok _ (List.getElem_mem hi2)
            have hcall : ∀ {H4 : Hp}, Ex H3 H4 → Ev (tCall (sp_term_text a n) [] E0 (tCons (tVar 2) tNil)) ((wipe [some (V.ref x), none, none] [2]).set 2 (some y)) H4 (.str (ts[i]).text) := fun {H4} e4 =>
              ev_call (ea_cons (ev_var rfl) ea_nil) fun H5 e5 Q q E => ⟨y, ts[i], rfl, hy (e4.trans e5), okt, Nat.lt_of_le_of_lt (TM.depth_mem (List.getElem_mem hi2)) hn, fun H6 e6 => q H6 e6⟩
            obtain ⟨bb, C, dxx, fs, rfl, hb, g, hv⟩ := tm_depth (hy (Ex.refl H3))
            have hl3 := okt.len
            by_cases hp0 : (ts[i]).depth > 0
            · rw [if_pos hp0]
              refine ev_if (b := true) (et_test (ev_is (ev_op (ev_getA (ev_var rfl) hb g hv) ev_c rv_I0) (by simp; omega))) (fun _ => ?_) (fun z => nomatch z)
              refine ev_joined3 (ev_fmt (hcall (Ex.refl H3)) (Nat.le_trans hl3 (by decide))) rfl (by decide) ?_ ?_
              · refine Nat.le_trans (m := 1000020) ?_ (by decide)
                rw [PySem.Str.length_append]
                have : ("(" : Str).length = 1 := by decide
                omega
              · refine Nat.le_trans (m := 1000020) ?_ (by decide)
                rw [len3]
                have h1 : ("(" : Str).length = 1 := by decide
                have h2 : (")" : Str).length = 1 := by decide
                omega
            · rw [if_neg hp0]
              exact ev_if (b := false) (et_test (ev_is (ev_op (ev_getA (ev_var rfl) hb g hv) ev_c rv_I0) (by simp; omega))) (fun z => nomatch z) (fun _ => hcall (Ex.refl H3))
          refine s_asgL L fun pn H3 hpn0 e3 hpn => ?_
          · dsimp only
            refine s_ret (v := .str (TM.joinS " & " (TM.Tree.innerAll ts))) (ev_if (b := true) (et_isB (ev_var rfl) (fun H4 e => ty_ins T T.g_Lesser ((e02.trans (e3.trans e)) _ _ hx)) (kit_of T.g_Lesser T.x_Lesser_Lesser T.x_Lesser_Lesser)) (fun z => ?_) (fun z => ?_)) fun H4 e4 => ?_
            · exact ev_joinL (ev_var rfl) hpn (by rw [hc, innerAll_len]; omega)
            · cases z
            · have := q H4 (e02.trans (e3.trans e4))
              rwa [TM.Tree.text] at this
      | @greater x dx p xs ts hx hp hl hxs =>
        cases ok with
        | greater hz1 hz2 hok =>
          refine s_if (b := false) (et_isT (ev_var rfl) (fun H1 e => ty_ins T T.g_Greater (e _ _ hx)) (kit_of T.g_Place T.x_Greater_Place T.x_Place_Place)) (fun z => nomatch z) (fun _ H1 e1 => ?_)
          refine s_if (b := false) (et_isT (ev_var rfl) (fun H2 e => ty_ins T T.g_Greater ((e1.trans e) _ _ hx)) (kit_of T.g_End T.x_Greater_End T.x_End_End)) (fun z => nomatch z) (fun _ H2 e2 => ?_)
          have e02 := e1.trans e2
          have hn : TM.Tree.depthAll ts < n := Nat.lt_of_succ_lt_succ (by simpa [TM.Tree.depth] using hd)
          have hc : (" | " : Str).length = 3 := by decide
          have L : EvL (tLc (iTup K (tGetA (gParts a) (tVar 0))) (gName 2) tYes (tIf (tTest (tOp (rI0 fun i j => V.bl (decide (j < i))) (tGetA (gDepth a) (tVar 2)) (tC (V.int 0)))) (fun σ H Q => tJs [tC (V.str "("), tFmt (tCall (sp_term_text a n) [] E0 (tCons (tVar 2) tNil)), tC (V.str ")")] Str.empty σ H fun out H1 => Q (V.str out) H1) (tCall (sp_term_text a n) [] E0 (tCons (tVar 2) tNil))) [2]) [some (.ref x), none, none] H2 ((TM.Tree.innerAll ts).map V.str) := by
            refine el_tmap (ev_getA (ev_var rfl) (e02 _ _ hx) ⟨.inr rfl, rfl⟩ rfl) (st_of (e02 _ _ hp)) (by omega) (by rw [List.length_map, innerAll_len]; exact hl) (fun x => rfl) (fun i y z H3 e3 hi hz => ?_)
            rw [List.getElem?_map] at hz
            obtain ⟨u, hu, rfl⟩ := Option.map_eq_some_iff.mp hz
            have hi2 : i < ts.length := hl ▸ (List.getElem?_eq_some_iff.mp hi).1
            have ht : ts[i]? = some ts[i] := List.getElem?_eq_getElem hi2
            have hu2 := innerAll_at ht
            rw [hu] at hu2
            cases hu2
            have hy := fun {H4 : Hp} (e4 : Ex H3 H4) => (hxs i y _ hi ht).up ((e02.trans e3).trans e4)
            have okt := hok _ (List.getElem_mem hi2)
            have hcall : ∀ {H4 : Hp}, Ex H3 H4 → Ev (tCall (sp_term_text a n) [] E0 (tCons (tVar 2) tNil)) ((wipe [some (V.ref x), none, none] [2]).set 2 (some y)) H4 (.str (ts[i]).text) := fun {H4} e4 =>
              ev_call (ea_cons (ev_var rfl) ea_nil) fun H5 e5 Q q E => ⟨y, ts[i], rfl, hy (e4.trans e5), okt, Nat.lt_of_le_of_lt (TM.depth_mem (List.getElem_mem hi2)) hn, fun H6 e6 => q H6 e6⟩
            obtain ⟨bb, C, dxx, fs, rfl, hb, g, hv⟩ := tm_depth (hy (Ex.refl H3))
            have hl3 := okt.len
            by_cases hp0 : (ts[i]).depth > 0
            · rw [if_pos hp0]
              refine ev_if (b := true) (et_test (ev_is (ev_op (ev_getA (ev_var rfl) hb g hv) ev_c rv_I0) (by simp; omega))) (fun _ => ?_) (fun z => nomatch z)
              refine ev_joined3 (ev_fmt (hcall (Ex.refl H3)) (Nat.le_trans hl3 (by decide))) rfl (by decide) ?_ ?_
              · refine Nat.le_trans (m := 1000020) ?_ (by decide)
                rw [PySem.Str.length_append]
                have : ("(" : Str).length = 1 := by decide
                omega
              · refine Nat.le_trans (m := 1000020) ?_ (by decide)
                rw [len3]
                have h1 : ("(" : Str).length = 1 := by decide
                have h2 : (")" : Str).length = 1 := by decide
                omega
            · rw [if_neg hp0]
              exact ev_if (b := false) (et_test (ev_is (ev_op (ev_getA (ev_var rfl) hb g hv) ev_c rv_I0) (by simp; omega))) (fun z => nomatch z) (fun _ => hcall (Ex.refl H3))
          refine s_asgL L fun pn H3 hpn0 e3 hpn => ?_
          · dsimp only
            refine s_ret (v := .str (TM.joinS " | " (TM.Tree.innerAll ts))) (ev_if (b := false) (et_isB (ev_var rfl) (fun H4 e => ty_ins T T.g_Greater ((e02.trans (e3.trans e)) _ _ hx)) (kit_of T.g_Lesser T.x_Greater_Lesser T.x_Lesser_Lesser)) (fun z => ?_) (fun z => ?_)) fun H4 e4 => ?_
            · cases z
            · exact ev_joinL (ev_var rfl) hpn (by rw [hc, innerAll_len]; omega)
            · have := q H4 (e02.trans (e3.trans e4))
              rwa [TM.Tree.text] at this
end
end K12
namespace K12
open PySem PySem.Spec PyProof.Rows L2 LG Evl
section
variable {P : Program} {w : World} {K : PySem.W.Frag} {mg : Str → Option Value} {base : Heap} {a : At}
/-! ### __str__, __repr__, __eq__ of a term -/
theorem fn_Term_str (T : Txt K mg a) (n : Nat) : Fn P w K mg base (n + 3) a.m_Term_str (sp_term_text a n) := by
  obtain ⟨fd1, F1, b1⟩ := ok_term_text (P := P) (w := w) (mg := mg) (base := base) T n
  obtain ⟨fd, F⟩ := T.m_Term_str.F
  refine Fn.of F sc_Term_str (F.binds fun _ _ _ _ _ _ us hl => match us, hl with | [_], _ => rfl) (fun vs H Q E h => ?_) (fun cdv A outer s H vs Q E hg hr hcd h => ?_)
  · obtain ⟨_, _, rfl, _⟩ := h
    rfl
  · obtain ⟨v, t, rfl, ht, ok, hd, q⟩ := h
    refine ⟨_, pss_one (ps_ret (pe_callTy SkE.call_str_str (by rfl) T.z_str (by decide +kernel) (pa_cons (pe_call F1 hr (by rfl) T.d_term_text.m T.d_term_text.kp b1 .nil pass0 (pa_cons (pv 0) pa_nil)) pa_nil))), ?_⟩
    exact ⟨v, rfl, v, t, rfl, ht, ok, hd, fun H' e => ⟨_, rfl, q H' e⟩⟩
theorem fn_Term_repr (T : Txt K mg a) (n : Nat) : Fn P w K mg base (n + 3) a.m_Term_repr (sp_term_repr a n) := by
  obtain ⟨fd1, F1, b1⟩ := ok_term_repr (P := P) (w := w) (mg := mg) (base := base) T n
  obtain ⟨fd, F⟩ := T.m_Term_repr.F
  refine Fn.of F sc_Term_repr (F.binds fun _ _ _ _ _ _ us hl => match us, hl with | [_], _ => rfl) (fun vs H Q E h => ?_) (fun cdv A outer s H vs Q E hg hr hcd h => ?_)
  · obtain ⟨_, _, rfl, _⟩ := h
    rfl
  · obtain ⟨v, t, rfl, ht, ok, hd, q⟩ := h
    refine ⟨_, pss_one (ps_ret (pe_callTy SkE.call_str_str (by rfl) T.z_str (by decide +kernel) (pa_cons (pe_call F1 hr (by rfl) T.d_term_repr.m T.d_term_repr.kp b1 .nil pass0 (pa_cons (pv 0) pa_nil)) pa_nil))), ?_⟩
    exact ⟨v, rfl, v, t, rfl, ht, ok, hd, fun H' e => ⟨_, rfl, q H' e⟩⟩
end
end K12
namespace K12
open PySem PySem.Spec PyProof.Rows L2 LG Evl
section
variable {P : Program} {w : World} {K : PySem.W.Frag} {mg : Str → Option Value} {base : Heap} {a : At}
/-- self is a term; other is a term, or of a kind that is none -/
def sp_Term_eq (K : PySem.W.Frag) (a : At) (n : Nat) : Sp := fun vs H Q _ => ∃ v u t, vs = [v, u] ∧ TM.TmAt (csOf a) H v t ∧ RepOk t ∧ t.depth < n ∧
  ((∃ t2, TM.TmAt (csOf a) H u t2 ∧ RepOk t2 ∧ t2.depth < n ∧ ∀ H', Ex H H' → Q (.bl (decide (t.repr = t2.repr))) H') ∨
   (∃ C, (∀ H', Ex H H' → TyX K H' u C) ∧ PySem.W.kitOne K C (.ref a.k_Term) = some false ∧ ∀ H', Ex H H' → Q (.bl false) H'))
theorem fn_Term_eq (T : Txt K mg a) (n : Nat) : Fn P w K mg base (n + 3) a.m_Term_eq (sp_Term_eq K a n) := by
  obtain ⟨fd1, F1, b1⟩ := ok_term_repr (P := P) (w := w) (mg := mg) (base := base) T n
  obtain ⟨fd, F⟩ := T.m_Term_eq.F
  refine Fn.of F sc_Term_eq (F.binds fun _ _ _ _ _ _ us hl => match us, hl with | [_, _], _ => rfl) (fun vs H Q E h => ?_) (fun cdv A outer s H vs Q E hg hr hcd h => ?_)
  · obtain ⟨_, _, _, rfl, _⟩ := h
    rfl
  · obtain ⟨v, u, t, rfl, ht, ok, hd, q⟩ := h
    refine ⟨_, pss_one (ps_ret (pe_and (pe_callB call_isi (by rfl) T.z_isinstance (by decide +kernel) (pa_cons (pv 1) (pa_cons (pe_glob (v := .ref a.k_Term) (by rfl) T.g_Term.m rfl) pa_nil))) (pe_one (pe_cmpR op_eq (pe_call F1 hr (by rfl) T.d_term_repr.m T.d_term_repr.kp b1 .nil pass0 (pa_cons (pv 0) pa_nil)) (pe_call F1 hr (by rfl) T.d_term_repr.m T.d_term_repr.kp b1 .nil pass0 (pa_cons (pv 1) pa_nil)) (nomark _))))), ?_⟩
    rcases q with ⟨t2, ht2, ok2, hd2, q⟩ | ⟨C, ty, hk, q⟩
    · obtain ⟨C, ty, hk⟩ := tm_ty T ht2
      refine s_ret (v := .bl (decide (t.repr = t2.repr))) (ev_is (ev_andV (a := true) (b := decide (t.repr = t2.repr)) (ev_cb (ea_cons (ev_var rfl) (ea_cons ev_c ea_nil)) fun H1 e Q q => ?_) fun _ => ?_) (by rw [Bool.true_and])) fun H1 e1 => q H1 e1
      · obtain ⟨C1, ty1, hk1⟩ := tm_ty T (ht2.up e)
        exact ⟨u, .ref a.k_Term, _, _, true, rfl, .own _, ty1, hk1, q H1 (Ex.refl H1)⟩
      · refine ev_is (ev_op (x := .str t.repr) (y := .str t2.repr) (ev_call (ea_cons (ev_var rfl) ea_nil) fun H1 e Q q E => ⟨v, t, rfl, ht.up e, ok, hd, fun H2 e2 => q H2 e2⟩) (ev_call (ea_cons (ev_var rfl) ea_nil) fun H1 e Q q E => ⟨u, t2, rfl, ht2.up e, ok2, hd2, fun H2 e2 => q H2 e2⟩) (rv_eq rfl)) ?_
        simp
    · exact s_ret (v := .bl false) (ev_is (ev_andV (a := false) (b := false) (ev_cb (ea_cons (ev_var rfl) (ea_cons ev_c ea_nil)) fun H1 e Q q => ⟨u, .ref a.k_Term, _, _, false, rfl, .own _, ty H1 e, hk, q H1 (Ex.refl H1)⟩) (fun z => nomatch z)) rfl) fun H1 e1 => q H1 e1
end
end K12
/-! The law's own trees (nested tuples and lists); trees that are well made; equal texts only of equal trees. -/
namespace TM
open PySem PySem.Spec PyProof.Rows L2 LG Evl
/-- the law's own tree; all of it stands at places in S -/
inductive MdAt (S : Addr → Prop) (H : Hp) : V → Tree → Prop
  | place {a : Addr} {n : Str} (s : S a) (h : H a = some (.tup [.str "place", .str n])) : MdAt S H (.ref a) (.place n)
  | endd {a : Addr} {e : Str} (s : S a) (h : H a = some (.tup [.str "end", .str e])) : MdAt S H (.ref a) (.endd e)
  | lesser {a l : Addr} {xs : List V} {ts : List Tree} (s : S a) (h : H a = some (.tup [.str "lesser", .ref l])) (sl : S l) (hl : H l = some (.lst xs)) (hn : xs.length = ts.length) (hx : ∀ (i : Nat) (x : V) (t : Tree), xs[i]? = some x → ts[i]? = some t → MdAt S H x t) : MdAt S H (.ref a) (.lesser ts)
  | greater {a l : Addr} {xs : List V} {ts : List Tree} (s : S a) (h : H a = some (.tup [.str "greater", .ref l])) (sl : S l) (hl : H l = some (.lst xs)) (hn : xs.length = ts.length) (hx : ∀ (i : Nat) (x : V) (t : Tree), xs[i]? = some x → ts[i]? = some t → MdAt S H x t) : MdAt S H (.ref a) (.greater ts)
theorem MdAt.up {S S' : Addr → Prop} {H H' : Hp} {v : V} {t : Tree} (hS : ∀ b, S b → S' b) (e : ∀ b o, S b → H b = some o → H' b = some o) (h : MdAt S H v t) : MdAt S' H' v t := by
  induction h with
  | place s h => exact .place (hS _ s) (e _ _ s h)
  | endd s h => exact .endd (hS _ s) (e _ _ s h)
  | lesser s h sl hl hn _ ih => exact .lesser (hS _ s) (e _ _ s h) (hS _ sl) (e _ _ sl hl) hn ih
  | greater s h sl hl hn _ ih => exact .greater (hS _ s) (e _ _ s h) (hS _ sl) (e _ _ sl hl) hn ih
theorem MdAt.ex {S : Addr → Prop} {H H' : Hp} {v : V} {t : Tree} (e : Ex H H') (h : MdAt S H v t) : MdAt S H' v t := h.up (fun _ s => s) fun b o _ z => e b o z
/-! ### as data -/
mutual
def mdl : Tree → PyData
  | .place n => .tuple [.str "place", .str n]
  | .endd e => .tuple [.str "end", .str e]
  | .lesser ts => .tuple [.str "lesser", .list (mdls ts)]
  | .greater ts => .tuple [.str "greater", .list (mdls ts)]
def mdls : List Tree → List PyData
  | [] => []
  | t :: ts => mdl t :: mdls ts
end
mutual
theorem mdl_plain : ∀ t : Tree, (mdl t).plain = true
  | .place n => by simp [mdl, PyData.plain, PyData.plainAll]
  | .endd e => by simp [mdl, PyData.plain, PyData.plainAll]
  | .lesser ts => by simp [mdl, PyData.plain, PyData.plainAll, mdls_plain ts]
  | .greater ts => by simp [mdl, PyData.plain, PyData.plainAll, mdls_plain ts]
theorem mdls_plain : ∀ ts : List Tree, PyData.plainAll (mdls ts) = true
  | [] => rfl
  | t :: ts => by simp [mdls, PyData.plainAll, mdl_plain t, mdls_plain ts]
end
mutual
theorem mdl_depth : ∀ t : Tree, (mdl t).depth ≤ 2 * t.depth + 1
  | .place n => by simp [mdl, PyData.depth, PyData.depthAll]
  | .endd e => by simp [mdl, PyData.depth, PyData.depthAll]
  | .lesser ts => by
    have h := mdls_depth ts
    simp only [mdl, PyData.depth, PyData.depthAll, Tree.depth]
    omega
  | .greater ts => by
    have h := mdls_depth ts
    simp only [mdl, PyData.depth, PyData.depthAll, Tree.depth]
    omega
theorem mdls_depth : ∀ ts : List Tree, PyData.depthAll (mdls ts) ≤ 2 * Tree.depthAll ts + 1
  | [] => by simp [mdls, PyData.depthAll]
  | t :: ts => by
    have h1 := mdl_depth t
    have h2 := mdls_depth ts
    simp only [mdls, PyData.depthAll, Tree.depthAll]
    omega
end
mutual
theorem eqv_mdl : ∀ t u : Tree, PyData.eqv (mdl t) (mdl u) = true → t = u
  | .place n, .place m, h => by
    simp [mdl, PyData.eqv, PyData.eqvAll] at h
    rw [h]
  | .endd n, .endd m, h => by
    simp [mdl, PyData.eqv, PyData.eqvAll] at h
    rw [h]
  | .lesser ts, .lesser us, h => by
    simp [mdl, PyData.eqv, PyData.eqvAll] at h
    rw [eqv_mdls ts us h]
  | .greater ts, .greater us, h => by
    simp [mdl, PyData.eqv, PyData.eqvAll] at h
    rw [eqv_mdls ts us h]
  | .place _, .endd _, h => by simp [mdl, PyData.eqv, PyData.eqvAll, (by decide : ¬ ("place" : Str) = "end")] at h
  | .place _, .lesser _, h => by simp [mdl, PyData.eqv, PyData.eqvAll] at h
  | .place _, .greater _, h => by simp [mdl, PyData.eqv, PyData.eqvAll] at h
  | .endd _, .place _, h => by simp [mdl, PyData.eqv, PyData.eqvAll, (by decide : ¬ ("end" : Str) = "place")] at h
  | .endd _, .lesser _, h => by simp [mdl, PyData.eqv, PyData.eqvAll] at h
  | .endd _, .greater _, h => by simp [mdl, PyData.eqv, PyData.eqvAll] at h
  | .lesser _, .place _, h => by simp [mdl, PyData.eqv, PyData.eqvAll] at h
  | .lesser _, .endd _, h => by simp [mdl, PyData.eqv, PyData.eqvAll] at h
  | .lesser _, .greater _, h => by simp [mdl, PyData.eqv, PyData.eqvAll, (by decide : ¬ ("lesser" : Str) = "greater")] at h
  | .greater _, .place _, h => by simp [mdl, PyData.eqv, PyData.eqvAll] at h
  | .greater _, .endd _, h => by simp [mdl, PyData.eqv, PyData.eqvAll] at h
  | .greater _, .lesser _, h => by simp [mdl, PyData.eqv, PyData.eqvAll, (by decide : ¬ ("greater" : Str) = "lesser")] at h
theorem eqv_mdls : ∀ ts us : List Tree, PyData.eqvAll (mdls ts) (mdls us) = true → ts = us
  | [], [], _ => rfl
  | [], _ :: _, h => by simp [mdls, PyData.eqvAll] at h
  | _ :: _, [], h => by simp [mdls, PyData.eqvAll] at h
  | t :: ts, u :: us, h => by
    rw [mdls, mdls, PyData.eqvAll, Bool.and_eq_true] at h
    rw [eqv_mdl t u h.1, eqv_mdls ts us h.2]
end
theorem eqv_mdl_iff (t u : Tree) : PyData.eqv (mdl t) (mdl u) = true ↔ t = u := ⟨eqv_mdl t u, fun h => h ▸ SeqAt.eqv_refl_plain _ (mdl_plain t)⟩
theorem dp_mdls {K : PySem.W.Frag} {H : Hp} : ∀ {xs : List V} {ts : List Tree}, xs.length = ts.length → (∀ (i : Nat) (x : V) (t : Tree), xs[i]? = some x → ts[i]? = some t → Dp K H x (mdl t)) → DpAll K H xs (mdls ts)
  | [], [], _, _ => .nil
  | [], _ :: _, h, _ => by cases h
  | _ :: _, [], h, _ => by cases h
  | x :: xs, t :: ts, h, k => .cons (k 0 x t rfl rfl) (dp_mdls (Nat.succ.inj h) fun i y u a b => k (i + 1) y u a b)
theorem MdAt.dp {S : Addr → Prop} {K : PySem.W.Frag} {H : Hp} {v : V} {t : Tree} (h : MdAt S H v t) : Dp K H v (mdl t) := by
  induction h with
  | place s h => exact .tup (st_of h) (.cons (.str _) (.cons (.str _) .nil))
  | endd s h => exact .tup (st_of h) (.cons (.str _) (.cons (.str _) .nil))
  | lesser s h sl hl hn _ ih => exact .tup (st_of h) (.cons (.str _) (.cons (.lst (sq_of hl) (dp_mdls hn ih)) .nil))
  | greater s h sl hl hn _ ih => exact .tup (st_of h) (.cons (.str _) (.cons (.lst (sq_of hl) (dp_mdls hn ih)) .nil))
/-! ### well made -/
def names : List Str := ["r0", "r1", "r2", "r3", "r4", "r5", "x0", "x1"]
def Ln (n : Nat) : Prop := n = 2 ∨ n = 3 ∨ n = 4 ∨ n = 8
theorem Ln.two {n : Nat} (h : Ln n) : 2 ≤ n := by rcases h with rfl | rfl | rfl | rfl <;> decide
theorem Ln.eight {n : Nat} (h : Ln n) : n ≤ 8 := by rcases h with rfl | rfl | rfl | rfl <;> decide
inductive Ok : Tree → Prop
  | place {n : Str} (h : n ∈ names) : Ok (.place n)
  | endd {e : Str} (h : e ∈ (["bottom", "top"] : List Str)) : Ok (.endd e)
  | lesser {ts : List Tree} (hl : Ln ts.length) (h : ∀ t ∈ ts, Ok t) : Ok (.lesser ts)
  | greater {ts : List Tree} (hl : Ln ts.length) (h : ∀ t ∈ ts, Ok t) : Ok (.greater ts)
/-! ### equal representations only of equal trees -/
def cs (x : Str) : List Nat := x.cps.toList
theorem cs_app (x y : Str) : cs (x ++ y) = cs x ++ cs y := by simp [cs, PySem.Str.cps_append]
theorem cs_inj {x y : Str} (h : cs x = cs y) : x = y := PySem.Str.ext' (Array.toList_inj.mp h)
theorem len_cs (x : Str) : (cs x).length = x.length := by simp [cs, PySem.Str.length]
end TM
/-! Equal representations only of equal trees; how long texts are. -/
namespace TM
open PySem PySem.Spec PyProof.Rows L2 LG Evl
theorem cs_place : ∀ n ∈ names, cs (Tree.repr (.place n)) = 80 :: 108 :: 97 :: 99 :: 101 :: 40 :: 39 :: (cs n ++ [39, 41]) ∧ (cs n).length = 2 := by decide +kernel
theorem cs_bottom : cs (Tree.repr (.endd "bottom")) = [69, 110, 100, 40, 39, 98, 111, 116, 116, 111, 109, 39, 41] := by decide +kernel
theorem cs_top : cs (Tree.repr (.endd "top")) = [69, 110, 100, 40, 39, 116, 111, 112, 39, 41] := by decide +kernel
theorem cs_lesser (ts : List Tree) : cs (Tree.repr (.lesser ts)) = 76 :: 101 :: 115 :: 115 :: 101 :: 114 :: 40 :: (cs (joinS ", " (Tree.reprAll ts)) ++ [41]) := by
  rw [Tree.repr, cs_app, cs_app, (by decide : cs "Lesser(" = [76, 101, 115, 115, 101, 114, 40]), (by decide : cs ")" = [41])]
  rfl
theorem cs_greater (ts : List Tree) : cs (Tree.repr (.greater ts)) = 71 :: 114 :: 101 :: 97 :: 116 :: 101 :: 114 :: 40 :: (cs (joinS ", " (Tree.reprAll ts)) ++ [41]) := by
  rw [Tree.repr, cs_app, cs_app, (by decide : cs "Greater(" = [71, 114, 101, 97, 116, 101, 114, 40]), (by decide : cs ")" = [41])]
  rfl
theorem cs_endd {e : Str} (h : e ∈ (["bottom", "top"] : List Str)) : e = "bottom" ∨ e = "top" := by
  rcases List.mem_cons.mp h with h | h
  · exact .inl h
  · exact .inr (List.mem_singleton.mp h)
/-- the head tells the kind -/
def hd (t : Tree) : Nat := match t with
  | .place _ => 80
  | .endd _ => 69
  | .lesser _ => 76
  | .greater _ => 71
theorem cs_hd {t : Tree} (h : Ok t) : ∃ l, cs t.repr = hd t :: l := by
  cases h with
  | place h => exact ⟨_, (cs_place _ h).1⟩
  | endd h =>
    rcases cs_endd h with rfl | rfl
    · exact ⟨_, cs_bottom⟩
    · exact ⟨_, cs_top⟩
  | lesser _ _ => exact ⟨_, cs_lesser _⟩
  | greater _ _ => exact ⟨_, cs_greater _⟩
theorem hd_eq {t u : Tree} (ht : Ok t) (hu : Ok u) {r s : List Nat} (h : cs t.repr ++ r = cs u.repr ++ s) : hd t = hd u := by
  obtain ⟨l, e⟩ := cs_hd ht
  obtain ⟨l2, e2⟩ := cs_hd hu
  rw [e, e2, List.cons_append, List.cons_append] at h
  exact (List.cons.inj h).1
theorem joinS_two (t u : Tree) (ts : List Tree) : cs (joinS ", " (Tree.reprAll (t :: u :: ts))) = cs t.repr ++ 44 :: 32 :: cs (joinS ", " (Tree.reprAll (u :: ts))) := by
  rw [Tree.reprAll, Tree.reprAll, joinS, cs_app, cs_app, (by decide : cs ", " = [44, 32]), List.append_assoc]
  rfl
theorem joinS_one (t : Tree) : cs (joinS ", " (Tree.reprAll [t])) = cs t.repr := rfl
mutual
theorem pf : ∀ t u : Tree, Ok t → Ok u → ∀ r s : List Nat, cs t.repr ++ r = cs u.repr ++ s → t = u ∧ r = s
  | .place n, .place m, ht, hu, r, s, h => by
    cases ht with
    | place hn =>
      cases hu with
      | place hm =>
        obtain ⟨e1, l1⟩ := cs_place n hn
        obtain ⟨e2, l2⟩ := cs_place m hm
        rw [e1, e2] at h
        simp only [List.cons_append, List.append_assoc, List.cons.injEq, true_and] at h
        obtain ⟨a, b⟩ := List.append_inj h (by rw [l1, l2])
        simp only [List.cons_append, List.cons.injEq, true_and, List.nil_append] at b
        exact ⟨by rw [cs_inj a], b⟩
  | .endd n, .endd m, ht, hu, r, s, h => by
    cases ht with
    | endd hn =>
      cases hu with
      | endd hm =>
        rcases cs_endd hn with rfl | rfl <;> rcases cs_endd hm with rfl | rfl
        · exact ⟨rfl, List.append_cancel_left h⟩
        · rw [cs_bottom, cs_top] at h
          simp at h
        · rw [cs_bottom, cs_top] at h
          simp at h
        · exact ⟨rfl, List.append_cancel_left h⟩
  | .lesser ts, .lesser us, ht, hu, r, s, h => by
    cases ht with
    | lesser hl ha =>
      cases hu with
      | lesser kl ka =>
        have h2 := hl.two
        have k2 := kl.two
        rw [cs_lesser, cs_lesser] at h
        simp only [List.cons_append, List.append_assoc, List.cons.injEq, true_and, List.nil_append] at h
        obtain ⟨a, b⟩ := pfs ts us (by omega) (by omega) ha ka r s h
        exact ⟨by rw [a], b⟩
  | .greater ts, .greater us, ht, hu, r, s, h => by
    cases ht with
    | greater hl ha =>
      cases hu with
      | greater kl ka =>
        have h2 := hl.two
        have k2 := kl.two
        rw [cs_greater, cs_greater] at h
        simp only [List.cons_append, List.append_assoc, List.cons.injEq, true_and, List.nil_append] at h
        obtain ⟨a, b⟩ := pfs ts us (by omega) (by omega) ha ka r s h
        exact ⟨by rw [a], b⟩
  | .place _, .endd _, ht, hu, _, _, h => absurd (hd_eq ht hu h) (by simp [hd])
  | .place _, .lesser _, ht, hu, _, _, h => absurd (hd_eq ht hu h) (by simp [hd])
  | .place _, .greater _, ht, hu, _, _, h => absurd (hd_eq ht hu h) (by simp [hd])
  | .endd _, .place _, ht, hu, _, _, h => absurd (hd_eq ht hu h) (by simp [hd])
  | .endd _, .lesser _, ht, hu, _, _, h => absurd (hd_eq ht hu h) (by simp [hd])
  | .endd _, .greater _, ht, hu, _, _, h => absurd (hd_eq ht hu h) (by simp [hd])
  | .lesser _, .place _, ht, hu, _, _, h => absurd (hd_eq ht hu h) (by simp [hd])
  | .lesser _, .endd _, ht, hu, _, _, h => absurd (hd_eq ht hu h) (by simp [hd])
  | .lesser _, .greater _, ht, hu, _, _, h => absurd (hd_eq ht hu h) (by simp [hd])
  | .greater _, .place _, ht, hu, _, _, h => absurd (hd_eq ht hu h) (by simp [hd])
  | .greater _, .endd _, ht, hu, _, _, h => absurd (hd_eq ht hu h) (by simp [hd])
  | .greater _, .lesser _, ht, hu, _, _, h => absurd (hd_eq ht hu h) (by simp [hd])
theorem pfs : ∀ ts us : List Tree, 0 < ts.length → 0 < us.length → (∀ t ∈ ts, Ok t) → (∀ u ∈ us, Ok u) → ∀ r s : List Nat, cs (joinS ", " (Tree.reprAll ts)) ++ 41 :: r = cs (joinS ", " (Tree.reprAll us)) ++ 41 :: s → ts = us ∧ r = s
  | [], _, h, _, _, _, _, _, _ => absurd h (Nat.lt_irrefl _)
  | _ :: _, [], _, h, _, _, _, _, _ => absurd h (Nat.lt_irrefl _)
  | [t], [u], _, _, ht, hu, r, s, h => by
    rw [joinS_one, joinS_one] at h
    obtain ⟨a, b⟩ := pf t u (ht t List.mem_cons_self) (hu u List.mem_cons_self) _ _ h
    exact ⟨by rw [a], (List.cons.inj b).2⟩
  | [t], u :: u2 :: us, _, _, ht, hu, r, s, h => by
    rw [joinS_one, joinS_two, List.append_assoc] at h
    obtain ⟨_, b⟩ := pf t u (ht t List.mem_cons_self) (hu u List.mem_cons_self) _ _ h
    simp at b
  | t :: t2 :: ts, [u], _, _, ht, hu, r, s, h => by
    rw [joinS_one, joinS_two, List.append_assoc] at h
    obtain ⟨_, b⟩ := pf t u (ht t List.mem_cons_self) (hu u List.mem_cons_self) _ _ h
    simp at b
  | t :: t2 :: ts, u :: u2 :: us, _, _, ht, hu, r, s, h => by
    rw [joinS_two, joinS_two, List.append_assoc, List.append_assoc] at h
    obtain ⟨a, b⟩ := pf t u (ht t List.mem_cons_self) (hu u List.mem_cons_self) _ _ h
    simp only [List.cons_append, List.cons.injEq, true_and] at b
    obtain ⟨c, d⟩ := pfs (t2 :: ts) (u2 :: us) (by simp) (by simp) (fun x hx => ht x (List.mem_cons_of_mem _ hx)) (fun x hx => hu x (List.mem_cons_of_mem _ hx)) r s b
    exact ⟨by rw [a, c], d⟩
end
theorem repr_inj {t u : Tree} (ht : Ok t) (hu : Ok u) (h : t.repr = u.repr) : t = u := (pf t u ht hu [] [] (by rw [h])).1
theorem repr_iff {t u : Tree} (ht : Ok t) (hu : Ok u) : decide (t.repr = u.repr) = PyData.eqv (mdl t) (mdl u) := by
  rw [Bool.eq_iff_iff, decide_eq_true_iff, eqv_mdl_iff]
  exact ⟨repr_inj ht hu, fun h => by rw [h]⟩
theorem eqv_symm (t u : Tree) : PyData.eqv (mdl t) (mdl u) = PyData.eqv (mdl u) (mdl t) := by
  rw [Bool.eq_iff_iff, eqv_mdl_iff, eqv_mdl_iff]
  exact eq_comm
/-! ### how long -/
theorem sum_le {xs : List Str} {M : Nat} (h : ∀ x ∈ xs, x.length ≤ M) : (xs.map (·.length)).sum ≤ xs.length * M := by
  induction xs with
  | nil => simp
  | cons x xs ih =>
    have h1 := h x List.mem_cons_self
    have h2 := ih fun y hy => h y (List.mem_cons_of_mem _ hy)
    rw [List.map_cons, List.sum_cons, List.length_cons, Nat.succ_mul]
    omega
theorem reprAll_mem : ∀ {ts : List Tree} {x : Str}, x ∈ Tree.reprAll ts → ∃ t ∈ ts, x = t.repr
  | [], _, h => by simp [Tree.reprAll] at h
  | t :: ts, x, h => by
    rw [Tree.reprAll] at h
    rcases List.mem_cons.mp h with rfl | h
    · exact ⟨t, List.mem_cons_self, rfl⟩
    · obtain ⟨u, hu, e⟩ := reprAll_mem h
      exact ⟨u, List.mem_cons_of_mem _ hu, e⟩
theorem innerAll_mem : ∀ {ts : List Tree} {x : Str}, x ∈ Tree.innerAll ts → ∃ t ∈ ts, x.length ≤ t.text.length + 2
  | [], _, h => by simp [Tree.innerAll] at h
  | t :: ts, x, h => by
    rw [Tree.innerAll] at h
    rcases List.mem_cons.mp h with rfl | h
    · refine ⟨t, List.mem_cons_self, ?_⟩
      split
      · rw [K12.len3]
        have h1 : ("(" : Str).length = 1 := by decide
        have h2 : (")" : Str).length = 1 := by decide
        omega
      · omega
    · obtain ⟨u, hu, e⟩ := innerAll_mem h
      exact ⟨u, List.mem_cons_of_mem _ hu, e⟩
theorem leaf_len {t : Tree} (h : Ok t) (hd : t.depth = 0) : t.repr.length ≤ 13 ∧ t.text.length ≤ 6 := by
  cases h with
  | place h => exact (by decide +kernel : ∀ n ∈ names, (Tree.repr (.place n)).length ≤ 13 ∧ (Tree.text (.place n)).length ≤ 6) _ h
  | endd h => exact (by decide +kernel : ∀ e ∈ (["bottom", "top"] : List Str), (Tree.repr (.endd e)).length ≤ 13 ∧ (Tree.text (.endd e)).length ≤ 6) _ h
  | lesser _ _ => simp [Tree.depth] at hd
  | greater _ _ => simp [Tree.depth] at hd
theorem mul_le {n : Nat} (h : n ≤ 8) (M : Nat) : n * M ≤ 8 * M := Nat.mul_le_mul_right M h
theorem sums {ts : List Tree} {M N : Nat} (h8 : ts.length ≤ 8) (h : ∀ t ∈ ts, t.repr.length ≤ M ∧ t.text.length ≤ N) : ((Tree.reprAll ts).map (·.length)).sum ≤ 8 * M ∧ ((Tree.innerAll ts).map (·.length)).sum ≤ 8 * (N + 2) := by
  constructor
  · refine Nat.le_trans (sum_le (M := M) fun x hx => ?_) (by rw [K12.reprAll_len]; exact mul_le h8 M)
    obtain ⟨t, ht, rfl⟩ := reprAll_mem hx
    exact (h t ht).1
  · refine Nat.le_trans (sum_le (M := N + 2) fun x hx => ?_) (by rw [K12.innerAll_len]; exact mul_le h8 (N + 2))
    obtain ⟨t, ht, e⟩ := innerAll_mem hx
    have := (h t ht).2
    omega
theorem joins {ts : List Tree} {M N : Nat} (h8 : ts.length ≤ 8) (h : ∀ t ∈ ts, t.repr.length ≤ M ∧ t.text.length ≤ N) : (joinS ", " (Tree.reprAll ts)).length ≤ 8 * M + 16 ∧ (joinS " & " (Tree.innerAll ts)).length ≤ 8 * N + 40 ∧ (joinS " | " (Tree.innerAll ts)).length ≤ 8 * N + 40 := by
  obtain ⟨s1, s2⟩ := sums h8 h
  have j1 := K12.joinS_len ", " (Tree.reprAll ts)
  have j2 := K12.joinS_len " & " (Tree.innerAll ts)
  have j3 := K12.joinS_len " | " (Tree.innerAll ts)
  rw [(by decide : (", " : Str).length = 2), K12.reprAll_len] at j1
  rw [(by decide : (" & " : Str).length = 3), K12.innerAll_len] at j2
  rw [(by decide : (" | " : Str).length = 3), K12.innerAll_len] at j3
  omega
theorem len_le : ∀ (d : Nat) {t : Tree}, Ok t → t.depth ≤ d → t.repr.length + 4 ≤ 17 * 8 ^ d ∧ t.text.length + 6 ≤ 12 * 8 ^ d := by
  intro d
  induction d with
  | zero =>
    intro t h hd
    have := leaf_len h (Nat.le_zero.mp hd)
    omega
  | succ d ih =>
    intro t h hd
    have p8 : 1 ≤ 8 ^ d := Nat.pos_of_ne_zero (by simp)
    have ps : 8 ^ (d + 1) = 8 * 8 ^ d := by rw [Nat.pow_succ, Nat.mul_comm]
    rw [ps]
    have sub : ∀ ts : List Tree, (∀ t ∈ ts, Ok t) → Tree.depthAll ts ≤ d → ∀ t ∈ ts, t.repr.length ≤ 17 * 8 ^ d - 4 ∧ t.text.length ≤ 12 * 8 ^ d - 6 := fun ts ho hd t ht => by
      have := ih (ho t ht) (Nat.le_trans (depth_mem ht) hd)
      omega
    cases h with
    | place h =>
      have := leaf_len (.place h) rfl
      omega
    | endd h =>
      have := leaf_len (.endd h) rfl
      omega
    | lesser hl ho =>
      have h2 := hl.two
      have h8 := hl.eight
      obtain ⟨j1, j2, j3⟩ := joins h8 (sub _ ho (by simpa [Tree.depth] using hd))
      rw [Tree.repr, Tree.text, K12.len3, (by decide : ("Lesser(" : Str).length = 7), (by decide : (")" : Str).length = 1)]
      omega
    | greater hl ho =>
      have h2 := hl.two
      have h8 := hl.eight
      obtain ⟨j1, j2, j3⟩ := joins h8 (sub _ ho (by simpa [Tree.depth] using hd))
      rw [Tree.repr, Tree.text, K12.len3, (by decide : ("Greater(" : Str).length = 8), (by decide : (")" : Str).length = 1)]
      omega
end TM
namespace K12
open PySem PySem.Spec PyProof.Rows L2 LG Evl TM
theorem ok_both : ∀ (d : Nat) {t : TM.Tree}, Ok t → t.depth ≤ d → d ≤ 5 → RepOk t ∧ TextOk t := by
  intro d
  induction d with
  | zero =>
    intro t h hd _
    cases h with
    | place h =>
      have h1 : ∀ n ∈ names, (reprText n).length ≤ 1000 ∧ n.length ≤ 1000 := by decide +kernel
      exact ⟨.place (h1 _ h).1, .place (h1 _ h).2⟩
    | endd h =>
      have h1 : ∀ n ∈ (["bottom", "top"] : List Str), (reprText n).length ≤ 1000 ∧ n.length ≤ 1000 := by decide +kernel
      exact ⟨.endd (h1 _ h).1, .endd (h1 _ h).2⟩
    | lesser _ _ => simp [TM.Tree.depth] at hd
    | greater _ _ => simp [TM.Tree.depth] at hd
  | succ d ih =>
    intro t h hd h5
    have p : 8 ^ d ≤ 8 ^ 4 := Nat.pow_le_pow_right (by decide) (by omega)
    have sub : ∀ ts : List TM.Tree, (∀ t ∈ ts, Ok t) → TM.Tree.depthAll ts ≤ d → ∀ t ∈ ts, t.repr.length ≤ 69628 ∧ t.text.length ≤ 49146 := fun ts ho hd t ht => by
      have := len_le d (ho t ht) (Nat.le_trans (depth_mem ht) hd)
      omega
    cases h with
    | place h =>
      have h1 : ∀ n ∈ names, (reprText n).length ≤ 1000 ∧ n.length ≤ 1000 := by decide +kernel
      exact ⟨.place (h1 _ h).1, .place (h1 _ h).2⟩
    | endd h =>
      have h1 : ∀ n ∈ (["bottom", "top"] : List Str), (reprText n).length ≤ 1000 ∧ n.length ≤ 1000 := by decide +kernel
      exact ⟨.endd (h1 _ h).1, .endd (h1 _ h).2⟩
    | lesser hl ho =>
      have h2 := hl.two
      have h8 := hl.eight
      have hd2 : ∀ ts, TM.Tree.depth (.lesser ts) ≤ d + 1 → TM.Tree.depthAll ts ≤ d := fun ts h => by simpa [TM.Tree.depth] using h
      obtain ⟨s1, s2⟩ := sums h8 (sub _ ho (hd2 _ hd))
      exact ⟨.lesser (by omega) (by omega) fun t ht => (ih (ho t ht) (Nat.le_trans (depth_mem ht) (hd2 _ hd)) (by omega)).1, .lesser (by omega) (by omega) fun t ht => (ih (ho t ht) (Nat.le_trans (depth_mem ht) (hd2 _ hd)) (by omega)).2⟩
    | greater hl ho =>
      have h2 := hl.two
      have h8 := hl.eight
      have hd2 : ∀ ts, TM.Tree.depth (.greater ts) ≤ d + 1 → TM.Tree.depthAll ts ≤ d := fun ts h => by simpa [TM.Tree.depth] using h
      obtain ⟨s1, s2⟩ := sums h8 (sub _ ho (hd2 _ hd))
      exact ⟨.greater (by omega) (by omega) fun t ht => (ih (ho t ht) (Nat.le_trans (depth_mem ht) (hd2 _ hd)) (by omega)).1, .greater (by omega) (by omega) fun t ht => (ih (ho t ht) (Nat.le_trans (depth_mem ht) (hd2 _ hd)) (by omega)).2⟩
theorem rep_ok {t : TM.Tree} (h : Ok t) (hd : t.depth ≤ 5) : RepOk t := (ok_both 5 h hd (Nat.le_refl _)).1
theorem text_ok {t : TM.Tree} (h : Ok t) (hd : t.depth ≤ 5) : TextOk t := (ok_both 5 h hd (Nat.le_refl _)).2
end K12
/-! x == y, x of a built-in kind, y an instance whose class has an own __eq__; == and != of data. -/
namespace LG
open PySem PySem.SeqAt PyProof.Rows
open AutoSeq1 (wpAny_loadPart')
open MeetsSeq
/-! the builtin kinds turn down a comparison with an own instance -/
theorem str_down (b : Str) (u : Tok) (l : Addr) (c : Value) (dd : Option Addr) (sl : Array (Option Value)) :
    Meets (Builtin.«str.__eq__» ⟨[.str b u, .ref l], []⟩) (fun _ R s => s.heap.get? l = some { cls := c, dict := dd, data := .plain, slots := sl } ∧ R (.ok (.ret .notImplemented)) s) :=
  .of_wp fun prog w A R s h => by obtain ⟨hp, g, d, tk, os⟩ := s; obtain ⟨hl, h⟩ := h; wp_walk using wpAny_loadPart' hl, wpAny_load hl; exact ⟨_, rfl, h⟩
theorem int_down (b : Int) (u : Tok) (l : Addr) (c : Value) (dd : Option Addr) (sl : Array (Option Value)) :
    Meets (Builtin.«int.__eq__» ⟨[.int b u, .ref l], []⟩) (fun _ R s => s.heap.get? l = some { cls := c, dict := dd, data := .plain, slots := sl } ∧ R (.ok (.ret .notImplemented)) s) :=
  .of_wp fun prog w A R s h => by obtain ⟨hp, g, d, tk, os⟩ := s; obtain ⟨hl, h⟩ := h; wp_walk using wpAny_loadPart' hl, wpAny_load hl; exact ⟨_, rfl, h⟩
section
variable {prog : Program} {w : World}
theorem list_down (b l C : Addr) (items : Array Value) (n : Nat) (dd dd2 : Option Addr) (sl sl2 : Array (Option Value)) :
    MeetsIn prog w (Builtin.«list.__eq__» ⟨[.ref b, .ref l], []⟩) (fun _ R s => s.heap.get? b = some { cls := .type "list", dict := dd, data := .seq items n, slots := sl } ∧ s.heap.get? l = some { cls := .ref C, dict := dd2, data := .plain, slots := sl2 } ∧ PySem.W.Looks (model prog w) s.heap (isSubtype (.ref C) (.type "list")) false ∧ R (.ok (.ret .notImplemented)) s) := by
  intro A R s h
  obtain ⟨hp, g, d, tk, os⟩ := s
  obtain ⟨hl, hx, lk, h⟩ := h
  wp_walk using wpAny_loadPart' hl
  refine PySem.W.Looks.at lk ?_
  wp_walk
  exact h
theorem tuple_down (b l C : Addr) (items : Array Value) (n : Nat) (dd dd2 : Option Addr) (sl sl2 : Array (Option Value)) :
    MeetsIn prog w (Builtin.«tuple.__eq__» ⟨[.ref b, .ref l], []⟩) (fun _ R s => s.heap.get? b = some { cls := .type "tuple", dict := dd, data := .seq items n, slots := sl } ∧ s.heap.get? l = some { cls := .ref C, dict := dd2, data := .plain, slots := sl2 } ∧ PySem.W.Looks (model prog w) s.heap (isSubtype (.ref C) (.type "tuple")) false ∧ R (.ok (.ret .notImplemented)) s) := by
  intro A R s h
  obtain ⟨hp, g, d, tk, os⟩ := s
  obtain ⟨hl, hx, lk, h⟩ := h
  wp_walk using wpAny_loadPart' hl
  refine PySem.W.Looks.at lk ?_
  wp_walk
  exact h
theorem dict_down (b l C : Addr) (es : Array DictEntry) (n : Nat) (dd dd2 : Option Addr) (sl sl2 : Array (Option Value)) :
    MeetsIn prog w (Builtin.«dict.__eq__» ⟨[.ref b, .ref l], []⟩) (fun _ R s => s.heap.get? b = some { cls := .type "dict", dict := dd, data := .dict es n, slots := sl } ∧ s.heap.get? l = some { cls := .ref C, dict := dd2, data := .plain, slots := sl2 } ∧ PySem.W.Looks (model prog w) s.heap (isSubtype (.ref C) (.type "dict")) false ∧ R (.ok (.ret .notImplemented)) s) := by
  intro A R s h
  obtain ⟨hp, g, d, tk, os⟩ := s
  obtain ⟨hl, hx, lk, h⟩ := h
  wp_walk using wpAny_loadPart' hl
  refine PySem.W.Looks.at lk ?_
  wp_walk
  exact h
theorem none_down (l : Addr) : Gives (Builtin.«NoneType.__eq__» ⟨[.none, .ref l], []⟩) (.val (Value.notImplemented)) := NoneType___eq___none_ref_0 l
/-- a == y: a of a built-in kind that turns it down, y an instance whose class has an own __eq__ -/
theorem rc_right {A : Around} {E : Value → Shared → Prop} {s : Shared} {K : PySem.W.Frag} {x C f : Addr} {ox : Obj} {od : Option Obj} {u : Value} {Ta id : String} {Q : Value → Shared → Prop} (X : K.In s.heap) (I : PySem.W.InstAt s.heap x ox C od) (ha : s.TypeIs u Ta) (hm : PySem.W.mroIn K C (.type Ta) = some false)
    (hs : PySem.W.findIn K (.ref C) "__eq__" = some (some (.ref f))) (hf : PySem.W.isFn K (.ref f) = true) (hu : A.units < cLine) (h1 : Slot Ta (cmpInfo .Eq).2.1 id)
    (hc : ∀ Q' : Value → Shared → Prop, Q' .notImplemented s → wpAny (model prog w) A (call (.builtin id) [u, .ref x]) Q' E s)
    (h : wpAny (model prog w) A (call (.ref f) [.ref x, u]) (PySem.W.CmpBack Q) E s) : wpAny (model prog w) A (richCompare .Eq u (.ref x)) Q E s := by
  have one : wpAny (model prog w) A (tryCompare (.ref x) (cmpInfo .Eq).2.2 u) (fun r s' => ∃ v, r = some v ∧ Q v s') E s := by
    unfold tryCompare
    refine wpAny_bind (PySem.W.ifBound_K X I hs hf (wpAny_mono h (fun v s' hv => ?_) fun _ _ e => e))
    cases v <;> first | exact hv.elim | exact wpAny_pure ⟨_, rfl, hv⟩
  rcases hi : cmpInfo CmpOp.Eq with ⟨sym, g, r⟩
  rw [hi] at h1 one
  simp only [richCompare, hi, ha.oneThing_none]
  refine wpAny_holding ?_
  refine wpAny_bind (wpAny_cRoomFor hu ?_)
  refine wpAny_bind (wpAny_typeOf ha (wpAny_bind (I.type.here ?_)))
  have ne : (Value.type Ta != Value.ref C) = true := rfl
  simp only [ne, if_true]
  refine wpAny_bind ((PySem.W.looks_mroIn X hm).here ?_)
  simp only [Bool.false_eq_true, if_false, Bool.not_false, if_true]
  refine wpAny_bind (m := tryCompare u _ (.ref x)) (wpAny_tryCompare_declines ha h1 (hc _ ⟨rfl, ?_⟩))
  refine wpAny_bind (wpAny_mono one (fun r s' z => ?_) fun _ _ e => e)
  obtain ⟨v, rfl, hq⟩ := z
  exact wpAny_pure hq
end
end LG
namespace LG
open PySem PySem.Spec PyProof.Rows L2
/-- the kinds that a comparison with an own instance meets here -/
inductive Kd (H : Hp) : V → String → Prop
  | non : Kd H .non "NoneType"
  | int (i : Int) : Kd H (.int i) "int"
  | str (x : Str) : Kd H (.str x) "str"
  | lst {p : Addr} {xs : List V} (h : H p = some (.lst xs)) : Kd H (.ref p) "list"
  | tup {p : Addr} {xs : List V} (h : H p = some (.tup xs)) : Kd H (.ref p) "tuple"
  | dic {p : Addr} {kvs : List (Key × V)} (h : H p = some (.dK kvs)) : Kd H (.ref p) "dict"
theorem Kd.ty {K : PySem.W.Frag} {H : Hp} {v : V} {t : String} (h : Kd H v t) : TyX K H v (.type t) := by
  cases h with
  | non => exact .base .non
  | int i => exact .base (.int i)
  | str x => exact .base (.str x)
  | lst h => exact .base (.lst h)
  | tup h => exact .base (.tup h)
  | dic h => exact .base (.dK h)
def kinds : List String := ["NoneType", "int", "str", "list", "tuple", "dict"]
theorem Kd.mem {H : Hp} {v : V} {t : String} (h : Kd H v t) : t ∈ kinds := by cases h <;> decide
/-- a class of the text that is none of these kinds -/
def noKinds (K : PySem.W.Frag) (C : Addr) : Bool := kinds.all fun t => PySem.W.mroIn K C (.type t) == some false
theorem noKinds_at {K : PySem.W.Frag} {C : Addr} (h : noKinds K C = true) {t : String} (ht : t ∈ kinds) : PySem.W.mroIn K C (.type t) = some false := beq_iff_eq.mp (List.all_eq_true.mp h t ht)
section
variable {X : Cx} {k : Nat} {C g : Addr} {sp : Sp} {E : XK}
def rEqRight (C : Addr) (sp : Sp) (E : XK) : R2 := fun x y H Q => ∃ a dx fs t, y = .ref a ∧ H a = some (.ins C dx fs) ∧ Kd H x t ∧ sp [y, x] H (fun v H' => ∃ b, v = .bl b ∧ Q v H') E
theorem op_eqRight (hs : PySem.W.findIn X.K (.ref C) "__eq__" = some (some (.ref g))) (hf : PySem.W.isFn X.K (.ref g) = true) (hk : noKinds X.K C = true) (Fg : Fn X.prog X.w X.K X.mg X.base k g sp) (g0 : X.A.guards = some []) (hr : Room k X.A) (hx : Passes (L2.CX X.prog X.w) X E) : OpR X (compareOp .Eq) (rEqRight C sp E) := by
  intro pins s σ H x y v u Q I rx ry h
  obtain ⟨a, dx, fs, t, rfl, hH, kd, q⟩ := h
  obtain rfl : u = Value.ref a := ry
  obtain ⟨mA, O, _, _, _, _⟩ := ins_get I.hok hH
  obtain ⟨odx, J, _⟩ := O.look
  have hm := noKinds_at hk kd.mem
  have go : wpAny (model X.prog X.w) X.A (call (.ref g) [.ref a, v]) (PySem.W.CmpBack (EP X pins σ Q)) X.xe s := by
    refine thn (run_Fn0 (us := [.ref a, v]) (vs := [.ref a, x]) Fg g0 hr hx I (.cons rfl (.cons rx .nil)) q) ?_
    rintro v2 s' ⟨w', H', I', rv, b, rfl, q'⟩
    obtain rfl : v2 = Value.bool b := rv
    exact ⟨.bl b, H', I', rfl, q'⟩
  show wpAny _ _ (richCompare .Eq v (.ref a)) _ _ _
  have lk : PySem.W.Looks (model X.prog X.w) s.heap (isSubtype (.ref C) (.type t)) false := PySem.W.looks_mroIn I.kIn hm
  cases kd with
  | non =>
    obtain rfl : v = Value.none := rx
    exact rc_right I.kIn J (Ta := "NoneType") rfl hm hs hf hr.units0 F.slot_NoneType_eq (fun Q' q' => call_gives F.slot_NoneType_eq rfl F.entry_NoneType_eq (F.args_NoneType_eq_2 _ _) (none_down _) q') go
  | int i =>
    obtain ⟨t, rfl⟩ := rx
    exact rc_right I.kIn J (Ta := "int") (typeIs_int s i t) hm hs hf hr.units0 F.slot_int_eq (fun Q' q' => call_meets F.slot_int_eq (typeIs_int s i t) F.entry_int_eq (F.args_int_eq_2 _ _) (int_down i t a _ _ _) ⟨J.at_, q'⟩) go
  | str z =>
    obtain ⟨t, rfl⟩ := rx
    exact rc_right I.kIn J (Ta := "str") rfl hm hs hf hr.units0 F.slot_str_eq (fun Q' q' => call_meets F.slot_str_eq rfl F.entry_str_eq (F.args_str_eq_2 _ _) (str_down z t a _ _ _) ⟨J.at_, q'⟩) go
  | @lst p xs hp =>
    obtain rfl : v = Value.ref p := rx
    obtain ⟨its, rv, ⟨⟨cls, dd, data, sls⟩, n, ho, hc, hdn, hdt⟩, _⟩ := I.list (Or.inl (Or.inl hp))
    simp only at hc hdt
    subst hc hdt
    exact rc_right I.kIn J (Ta := "list") ⟨_, ho, rfl⟩ hm hs hf hr.units0 F.slot_list_eq (fun Q' q' => call_meetsIn F.slot_list_eq ⟨_, ho, rfl⟩ F.entry_list_eq (F.args_list_eq_2 _ _) (list_down p a C _ _ _ _ _ _) ⟨ho, J.at_, lk, q'⟩) go
  | @tup p xs hp =>
    obtain rfl : v = Value.ref p := rx
    obtain ⟨its, rv, ⟨⟨cls, dd, data, sls⟩, ho, hc, n, hdt⟩, _⟩ := I.tuple (Or.inl (Or.inl hp))
    simp only at hc hdt
    subst hc hdt
    exact rc_right I.kIn J (Ta := "tuple") ⟨_, ho, rfl⟩ hm hs hf hr.units0 F.slot_tuple_eq (fun Q' q' => call_meetsIn F.slot_tuple_eq ⟨_, ho, rfl⟩ F.entry_tuple_eq (F.args_tuple_eq_2 _ _) (tuple_down p a C _ _ _ _ _ _) ⟨ho, J.at_, lk, q'⟩) go
  | @dic p kvs hp =>
    obtain rfl : v = Value.ref p := rx
    obtain ⟨_, _, _, _, ⟨cls, dd, data, sls⟩, es, _, ho, hc, hd, _, _, _⟩ := I.hok p _ hp
    have hc1 := hc.1
    simp only at hc1 hd
    subst hc1 hd
    exact rc_right I.kIn J (Ta := "dict") ⟨_, ho, rfl⟩ hm hs hf hr.units0 F.slot_dict_eq (fun Q' q' => call_meetsIn F.slot_dict_eq ⟨_, ho, rfl⟩ F.entry_dict_eq (F.args_dict_eq_2 _ _) (dict_down p a C _ _ _ _ _ _) ⟨ho, J.at_, lk, q'⟩) go
/-- == and != of data without dicts, of any depth up to 64 -/
def rEqP (K : PySem.W.Frag) : R2 := fun x y H Q => ∃ d e, Dp K H x d ∧ Dp K H y e ∧ d.plain = true ∧ e.plain = true ∧ d.depth ≤ 64 ∧ Q (.bl (PyData.eqv d e)) H
def rNeP (K : PySem.W.Frag) : R2 := fun x y H Q => ∃ d e, Dp K H x d ∧ Dp K H y e ∧ d.plain = true ∧ e.plain = true ∧ d.depth ≤ 64 ∧ Q (.bl (!PyData.eqv d e)) H
theorem op_eqP (hu : X.A.units + 64 < cLine) : OpR X (compareOp .Eq) (rEqP X.K) := by
  intro pins s σ H x y v u Q I rx ry h
  obtain ⟨d, e, hd, he, pd, pe, z, q⟩ := h
  obtain ⟨as, r1⟩ := Dp.reads I d x v hd rx
  obtain ⟨bs, r2⟩ := Dp.reads I e y u he ry
  exact SeqAt.eq_plain r1 r2 pd pe (by omega) ⟨.bl _, H, I, rfl, q⟩
theorem op_neP (hu : X.A.units + 64 < cLine) : OpR X (compareOp .NotEq) (rNeP X.K) := by
  intro pins s σ H x y v u Q I rx ry h
  obtain ⟨d, e, hd, he, pd, pe, z, q⟩ := h
  obtain ⟨as, r1⟩ := Dp.reads I d x v hd rx
  obtain ⟨bs, r2⟩ := Dp.reads I e y u he ry
  exact SeqAt.ne_plain r1 r2 pd pe (by omega) ⟨.bl _, H, I, rfl, q⟩
end
end LG
namespace K12
open PySem PySem.Spec PyProof.Rows L2 LG Evl
/-! ### terms made -/
section
variable {P : Program} {w : World} {K : PySem.W.Frag} {mg : Str → Option Value} {base : Heap} {a : At}
abbrev spStar (a : At) (C : Addr) : Sp := fun vs H Q E => ∃ v ws, vs = v :: ws ∧ ws.length ≤ sizeLine ∧ ∀ p, H p = none → sp_two_init a C [v, V.ref p] (upd H p (.tup ws)) Q E
theorem ex_made {H : Hp} {x dx C : Addr} (hx : H x = none) (hd : H dx = none) (ne : dx ≠ x) : Ex H (upd (upd H dx (.own x)) x (.ins C dx [])) :=
  (Ex.new hd).trans (Ex.new (by rw [upd_ne (Ne.symm ne)]; exact hx))
theorem two_made {C : Addr} {H : Hp} {xs : List V} {ts : List TM.Tree} {Q : VK} {E : XK} (hl : xs.length = ts.length) (h2 : 2 ≤ xs.length) (h8 : xs.length ≤ 1000) (ht : ∀ (i : Nat) (y : V) (t : TM.Tree), xs[i]? = some y → ts[i]? = some t → TM.TmAt (csOf a) H y t)
    (q : ∀ x dx p H', Ex H H' → H x = none → H' x = some (.ins C dx [("own_depth", .int ((TM.Tree.depthAll ts + 1 : Nat) : Int)), ("own_parts", .ref p)]) → H' p = some (.tup xs) → Q (.ref x) H') :
    ∀ x dx, H x = none → H dx = none → dx ≠ x → spStar a C (V.ref x :: xs) (upd (upd H dx (.own x)) x (.ins C dx [])) (fun v H2 => v = .non ∧ Q (.ref x) H2) E := by
  intro x dx hx hd ne
  have e1 := ex_made (C := C) hx hd ne
  refine ⟨.ref x, xs, rfl, sz_of (by omega), fun p hp => ?_⟩
  have nx : x ≠ p := fun z => by
    rw [← z, upd_same] at hp
    cases hp
  refine ⟨x, dx, p, xs, ts, rfl, (upd_ne nx).trans upd_same, upd_same, hl, h2, h8, fun i y t hy ht2 => (ht i y t hy ht2).up (e1.trans (Ex.new hp)), fun H' e' => ⟨rfl, ?_⟩⟩
  have e2 : Ex H H' := (e1.trans (Ex.new hp)).trans e'
  exact q x dx p _ (Ex.mut e2 hx) hx upd_same (by rw [upd_ne (Ne.symm nx)]; exact e' _ _ upd_same)
theorem lesser_made {H : Hp} {xs : List V} {ts : List TM.Tree} {Q : VK} {E : XK} (hl : xs.length = ts.length) (h2 : 2 ≤ xs.length) (h8 : xs.length ≤ 1000) (ht : ∀ (i : Nat) (y : V) (t : TM.Tree), xs[i]? = some y → ts[i]? = some t → TM.TmAt (csOf a) H y t)
    (q : ∀ v H', Ex H H' → TM.TmAt (csOf a) H' v (.lesser ts) → Q v H') :
    ∀ x dx, H x = none → H dx = none → dx ≠ x → spStar a a.k_Lesser (V.ref x :: xs) (upd (upd H dx (.own x)) x (.ins a.k_Lesser dx [])) (fun v H2 => v = .non ∧ Q (.ref x) H2) E :=
  two_made hl h2 h8 ht fun x dx p H' e hx h1 h2 => q _ _ e (.lesser (by rw [TM.Tree.depth]; exact h1) h2 hl fun i y t a b => (ht i y t a b).up e)
theorem greater_made {H : Hp} {xs : List V} {ts : List TM.Tree} {Q : VK} {E : XK} (hl : xs.length = ts.length) (h2 : 2 ≤ xs.length) (h8 : xs.length ≤ 1000) (ht : ∀ (i : Nat) (y : V) (t : TM.Tree), xs[i]? = some y → ts[i]? = some t → TM.TmAt (csOf a) H y t)
    (q : ∀ v H', Ex H H' → TM.TmAt (csOf a) H' v (.greater ts) → Q v H') :
    ∀ x dx, H x = none → H dx = none → dx ≠ x → spStar a a.k_Greater (V.ref x :: xs) (upd (upd H dx (.own x)) x (.ins a.k_Greater dx [])) (fun v H2 => v = .non ∧ Q (.ref x) H2) E :=
  two_made hl h2 h8 ht fun x dx p H' e hx h1 h2 => q _ _ e (.greater (by rw [TM.Tree.depth]; exact h1) h2 hl fun i y t a b => (ht i y t a b).up e)
/-- what is asked of the text beyond the facts: where a def's code lies -/
structure Files (P : Program) (K : PySem.W.Frag) (a : At) : Prop where
  place : ∀ (vs : Array Value) (cl : Value) (cd : Option Addr) (sl : Array (Option Value)) (tx : Str) (tf : Tok), K.lookup a.o_Place_init = some ⟨cl, cd, .fields vs, sl⟩ → vs[2]? = some (.str tx tf) → ((P.main.file : Str) == tx) = true
  endd : ∀ (vs : Array Value) (cl : Value) (cd : Option Addr) (sl : Array (Option Value)) (tx : Str) (tf : Tok), K.lookup a.o_End_init = some ⟨cl, cd, .fields vs, sl⟩ → vs[2]? = some (.str tx tf) → ((P.main.file : Str) == tx) = true
  lesser : ∀ (vs : Array Value) (cl : Value) (cd : Option Addr) (sl : Array (Option Value)) (tx : Str) (tf : Tok), K.lookup a.o_Lesser_init = some ⟨cl, cd, .fields vs, sl⟩ → vs[2]? = some (.str tx tf) → ((P.main.file : Str) == tx) = true
  greater : ∀ (vs : Array Value) (cl : Value) (cd : Option Addr) (sl : Array (Option Value)) (tx : Str) (tf : Tok), K.lookup a.o_Greater_init = some ⟨cl, cd, .fields vs, sl⟩ → vs[2]? = some (.str tx tf) → ((P.main.file : Str) == tx) = true
  top : (P.main.scope.names.lookup ("super" : Str)).isSome = false
  nk_place : noKinds K a.k_Place = true
  nk_end : noKinds K a.k_End = true
  nk_lesser : noKinds K a.k_Lesser = true
  nk_greater : noKinds K a.k_Greater = true
/-! ### self & other, self | other -/
def sp_Term_and (a : At) : Sp := fun vs H Q _ => ∃ v u t t2, vs = [v, u] ∧ TM.TmAt (csOf a) H v t ∧ TM.TmAt (csOf a) H u t2 ∧ ∀ x H', Ex H H' → TM.TmAt (csOf a) H' x (.lesser [t, t2]) → Q x H'
def sp_Term_or (a : At) : Sp := fun vs H Q _ => ∃ v u t t2, vs = [v, u] ∧ TM.TmAt (csOf a) H v t ∧ TM.TmAt (csOf a) H u t2 ∧ ∀ x H', Ex H H' → TM.TmAt (csOf a) H' x (.greater [t, t2]) → Q x H'
theorem two_at {H : Hp} {v u : V} {t t2 : TM.Tree} (h1 : TM.TmAt (csOf a) H v t) (h2 : TM.TmAt (csOf a) H u t2) : ∀ (i : Nat) (y : V) (z : TM.Tree), [v, u][i]? = some y → [t, t2][i]? = some z → TM.TmAt (csOf a) H y z
  | 0, _, _, a, b => by
    cases a
    cases b
    exact h1
  | 1, _, _, a, b => by
    cases a
    cases b
    exact h2
  | i + 2, _, _, a, _ => by simp at a
theorem fn_Term_and (T : Txt K mg a) (F : Files P K a) : Fn P w K mg base 7 a.m_Term_and (sp_Term_and a) := by
  obtain ⟨fd1, F1, b1⟩ := ok_want_term (P := P) (w := w) (mg := mg) (base := base) T
  have F2 := ok_Lesser_init (P := P) (w := w) (mg := mg) (base := base) T F.lesser F.top
  obtain ⟨fd, Fd⟩ := T.m_Term_and.F
  refine Fn.of Fd sc_Term_and (Fd.binds fun _ _ _ _ _ _ us hl => match us, hl with | [_, _], _ => rfl) (fun vs H Q E h => ?_) (fun cdv A outer s H vs Q E hg hr hcd h => ?_)
  · obtain ⟨_, _, _, _, rfl, _⟩ := h
    rfl
  · obtain ⟨v, u, t, t2, rfl, h1, h2, q⟩ := h
    refine ⟨_, pss_cons (ps_expr (pe_call F1 (hr.mono (by decide)) (by rfl) T.d_want_term.m T.d_want_term.kp b1 .nil pass0 (pa_cons (pv 1) pa_nil))) (pss_one (ps_ret (StX.pe_makeR T.mk_Lesser F2 hr (by rfl) T.g_Lesser.m passL (pa_cons (pv 0) (pa_cons (pv 1) pa_nil))))), ?_⟩
    exact ⟨u, rfl, u, t2, rfl, h2, v, rfl, u, rfl, lesser_made rfl (by simp) (by simp) (two_at h1 h2) q⟩
theorem fn_Term_or (T : Txt K mg a) (F : Files P K a) : Fn P w K mg base 7 a.m_Term_or (sp_Term_or a) := by
  obtain ⟨fd1, F1, b1⟩ := ok_want_term (P := P) (w := w) (mg := mg) (base := base) T
  have F2 := ok_Greater_init (P := P) (w := w) (mg := mg) (base := base) T F.greater F.top
  obtain ⟨fd, Fd⟩ := T.m_Term_or.F
  refine Fn.of Fd sc_Term_or (Fd.binds fun _ _ _ _ _ _ us hl => match us, hl with | [_, _], _ => rfl) (fun vs H Q E h => ?_) (fun cdv A outer s H vs Q E hg hr hcd h => ?_)
  · obtain ⟨_, _, _, _, rfl, _⟩ := h
    rfl
  · obtain ⟨v, u, t, t2, rfl, h1, h2, q⟩ := h
    refine ⟨_, pss_cons (ps_expr (pe_call F1 (hr.mono (by decide)) (by rfl) T.d_want_term.m T.d_want_term.kp b1 .nil pass0 (pa_cons (pv 1) pa_nil))) (pss_one (ps_ret (StX.pe_makeR T.mk_Greater F2 hr (by rfl) T.g_Greater.m passL (pa_cons (pv 0) (pa_cons (pv 1) pa_nil))))), ?_⟩
    exact ⟨u, rfl, u, t2, rfl, h2, v, rfl, u, rfl, greater_made rfl (by simp) (by simp) (two_at h1 h2) q⟩
end
end K12
namespace K12
open PySem PySem.Spec PyProof.Rows L2 LG Evl
/-! ### str, repr, ==, !=, &, | of terms -/
def IsT (a : At) (C : Addr) : Prop := C = a.k_Place ∨ C = a.k_End ∨ C = a.k_Lesser ∨ C = a.k_Greater
structure ClsT (K : PySem.W.Frag) (a : At) (C : Addr) : Prop where
  str : PySem.W.findIn K (.ref C) "__str__" = some (some (.ref a.m_Term_str))
  repr : PySem.W.findIn K (.ref C) "__repr__" = some (some (.ref a.m_Term_repr))
  eq : PySem.W.findIn K (.ref C) "__eq__" = some (some (.ref a.m_Term_eq))
  ne : PySem.W.findIn K (.ref C) "__ne__" = some (some (.builtin "object.__ne__"))
  obj : PySem.W.mroIn K C (.type "object") = some true
  nk : noKinds K C = true
  and_ : BinC K C a.m_Term_and "and"
  or_ : BinC K C a.m_Term_or "or"
  kit : PySem.W.kitOne K (.ref C) (.ref a.k_Term) = some true
section
variable {P : Program} {w : World} {K : PySem.W.Frag} {mg : Str → Option Value} {base : Heap} {a : At}
theorem kit_term {C : Addr} (T : Txt K mg a) (h : PySem.W.subIn K (.ref C) (.ref a.k_Term) = some true) : PySem.W.kitOne K (.ref C) (.ref a.k_Term) = some true := kit_of T.g_Term h T.x_Term_Term
theorem cls_of {C : Addr} (T : Txt K mg a) (F : Files P K a) (h : IsT a C) : ClsT K a C := by
  rcases h with rfl | rfl | rfl | rfl
  · exact ⟨T.f_Place_str, T.f_Place_repr, T.f_Place_eq, T.g_Place.ne, T.g_Place.hm, F.nk_place, ⟨T.first_Place, T.f_Place_and, T.rand_Place⟩, ⟨T.first_Place, T.f_Place_or, T.ror_Place⟩, kit_term T T.x_Place_Term⟩
  · exact ⟨T.f_End_str, T.f_End_repr, T.f_End_eq, T.g_End.ne, T.g_End.hm, F.nk_end, ⟨T.first_End, T.f_End_and, T.rand_End⟩, ⟨T.first_End, T.f_End_or, T.ror_End⟩, kit_term T T.x_End_Term⟩
  · exact ⟨T.f_Lesser_str, T.f_Lesser_repr, T.f_Lesser_eq, T.g_Lesser.ne, T.g_Lesser.hm, F.nk_lesser, ⟨T.first_Lesser, T.f_Lesser_and, T.rand_Lesser⟩, ⟨T.first_Lesser, T.f_Lesser_or, T.ror_Lesser⟩, kit_term T T.x_Lesser_Term⟩
  · exact ⟨T.f_Greater_str, T.f_Greater_repr, T.f_Greater_eq, T.g_Greater.ne, T.g_Greater.hm, F.nk_greater, ⟨T.first_Greater, T.f_Greater_and, T.rand_Greater⟩, ⟨T.first_Greater, T.f_Greater_or, T.ror_Greater⟩, kit_term T T.x_Greater_Term⟩
theorem cls_apart {C D : Addr} (T : Txt K mg a) (h : IsT a C) (h2 : IsT a D) : C = D ∨ PySem.W.subIn K (.ref D) (.ref C) = some false := by
  rcases h with rfl | rfl | rfl | rfl <;> rcases h2 with rfl | rfl | rfl | rfl
  · exact .inl rfl
  · exact .inr T.x_End_Place
  · exact .inr T.x_Lesser_Place
  · exact .inr T.x_Greater_Place
  · exact .inr T.x_Place_End
  · exact .inl rfl
  · exact .inr T.x_Lesser_End
  · exact .inr T.x_Greater_End
  · exact .inr T.x_Place_Lesser
  · exact .inr T.x_End_Lesser
  · exact .inl rfl
  · exact .inr T.x_Greater_Lesser
  · exact .inr T.x_Place_Greater
  · exact .inr T.x_End_Greater
  · exact .inr T.x_Lesser_Greater
  · exact .inl rfl
theorem tm_at {H : Hp} {v : V} {t : TM.Tree} (T : Txt K mg a) (h : TM.TmAt (csOf a) H v t) : ∃ x C dx fs, v = .ref x ∧ H x = some (.ins C dx fs) ∧ IsT a C ∧ TyX K H v (.ref C) := by
  cases h with
  | place h => exact ⟨_, _, _, _, rfl, h, .inl rfl, ty_ins T T.g_Place h⟩
  | endd h => exact ⟨_, _, _, _, rfl, h, .inr (.inl rfl), ty_ins T T.g_End h⟩
  | lesser h _ _ _ => exact ⟨_, _, _, _, rfl, h, .inr (.inr (.inl rfl)), ty_ins T T.g_Lesser h⟩
  | greater h _ _ _ => exact ⟨_, _, _, _, rfl, h, .inr (.inr (.inr rfl)), ty_ins T T.g_Greater h⟩
theorem tm_ref {H : Hp} {v : V} {t : TM.Tree} (h : TM.TmAt (csOf a) H v t) : ∃ c, v = .ref c := by cases h <;> exact ⟨_, rfl⟩
theorem kd_up {H H' : Hp} {v : V} {t : String} (e : Ex H H') (h : Kd H v t) : Kd H' v t := by
  cases h with
  | non => exact .non
  | int i => exact .int i
  | str x => exact .str x
  | lst h => exact .lst (e _ _ h)
  | tup h => exact .tup (e _ _ h)
  | dic h => exact .dic (e _ _ h)
theorem kd_not {H : Hp} {v : V} {t : String} {D : Addr} {nm : Str} (g : GCl K mg nm D) (h : Kd H v t) : PySem.W.kitOne K (.type t) (.ref D) = some false := by
  have s : PySem.W.subIn K (.type t) (.ref D) = some false := by cases h <;> rfl
  obtain ⟨cd, hc⟩ := Option.ne_none_iff_exists'.mp g.ki.1
  unfold PySem.W.kitOne
  rw [if_neg (by simp)]
  show (if ((PySem.W.clsIn K D).isSome && PySem.W.typeIn K (.ref D) == some (.type "type")) = true then PySem.W.subIn K (.type t) (.ref D) else none) = some false
  rw [if_pos (by rw [hc, g.ki.2]; rfl)]
  exact s
theorem kd_first {H : Hp} {v : V} {t : String} {C : Addr} (h : Kd H v t) : PySem.W.notFirst K C (.type t) = true := by
  have s : PySem.W.subIn K (.type t) (.ref C) = some false := by cases h <;> rfl
  unfold PySem.W.notFirst
  rw [s]
  simp
theorem is_first {C D : Addr} (T : Txt K mg a) (h : IsT a C) (h2 : IsT a D) : PySem.W.notFirst K C (.ref D) = true := by
  unfold PySem.W.notFirst
  rcases cls_apart T h h2 with rfl | z
  · simp
  · rw [z]
    simp
end
def rStrT (a : At) : List V → Hp → VK → Prop := fun xs H Q => ∃ v t, xs = [v] ∧ TM.TmAt (csOf a) H v t ∧ TM.Ok t ∧ t.depth ≤ 5 ∧ ∀ H', Ex H H' → Q (.str t.text) H'
def rReprT (a : At) : List V → Hp → VK → Prop := fun xs H Q => ∃ v t, xs = [v] ∧ TM.TmAt (csOf a) H v t ∧ TM.Ok t ∧ t.depth ≤ 5 ∧ ∀ H', Ex H H' → Q (.str t.repr) H'
/-- y is a term, or of a kind that is none -/
def Side (a : At) (H : Hp) (t : TM.Tree) (y : V) (Q : Bool → Hp → Prop) : Prop := (∃ t2, TM.TmAt (csOf a) H y t2 ∧ TM.Ok t2 ∧ t2.depth ≤ 5 ∧ ∀ H', Ex H H' → Q (decide (t.repr = t2.repr)) H') ∨ (∃ k, Kd H y k ∧ ∀ H', Ex H H' → Q false H')
def rEqT (a : At) : R2 := fun x y H Q => ∃ t, TM.TmAt (csOf a) H x t ∧ TM.Ok t ∧ t.depth ≤ 5 ∧ Side a H t y fun b H' => Q (.bl b) H'
def rNeT (a : At) : R2 := fun x y H Q => ∃ t, TM.TmAt (csOf a) H x t ∧ TM.Ok t ∧ t.depth ≤ 5 ∧ Side a H t y fun b H' => Q (.bl (!b)) H'
def rEqR (a : At) : R2 := fun x y H Q => ∃ t k, TM.TmAt (csOf a) H y t ∧ TM.Ok t ∧ t.depth ≤ 5 ∧ Kd H x k ∧ ∀ H', Ex H H' → Q (.bl false) H'
def rAndT (a : At) : R2 := fun x y H Q => ∃ t t2, TM.TmAt (csOf a) H x t ∧ TM.TmAt (csOf a) H y t2 ∧ ∀ v H', Ex H H' → TM.TmAt (csOf a) H' v (.lesser [t, t2]) → Q v H'
def rOrT (a : At) : R2 := fun x y H Q => ∃ t t2, TM.TmAt (csOf a) H x t ∧ TM.TmAt (csOf a) H y t2 ∧ ∀ v H', Ex H H' → TM.TmAt (csOf a) H' v (.greater [t, t2]) → Q v H'
section
variable {X : Cx} {a : At} {E : XK}
theorem call_str_tm (T : Txt X.K X.mg a) (F : Files X.prog X.K a) (g0 : X.A.guards = some []) (hr : Room 11 X.A) (hx : Passes (L2.CX X.prog X.w) X E) : CallR X (.type "str") (rStrT a) := by
  intro pins s σ H xs us Q I r h
  obtain ⟨v, t, rfl, ht, ok, hd, q⟩ := h
  obtain ⟨x, C, dx, fs, rfl, hH, hc, _⟩ := tm_at T ht
  exact call_strOwn (cls_of T F hc).str T.m_Term_str.fn (fn_Term_str T 6) g0 hr hx pins s σ H [.ref x] us Q I r ⟨x, dx, fs, rfl, hH, .ref x, t, rfl, ht, text_ok ok hd, by omega, fun H' e => ⟨_, rfl, q H' e⟩⟩
theorem call_repr_tm (T : Txt X.K X.mg a) (F : Files X.prog X.K a) (g0 : X.A.guards = some []) (hr : Room 10 X.A) (hx : Passes (L2.CX X.prog X.w) X E) : CallR X (.builtin "repr") (rReprT a) := by
  intro pins s σ H xs us Q I r h
  obtain ⟨v, t, rfl, ht, ok, hd, q⟩ := h
  obtain ⟨x, C, dx, fs, rfl, hH, hc, _⟩ := tm_at T ht
  exact call_reprOwn (cls_of T F hc).repr T.m_Term_repr.fn (fn_Term_repr T 6) g0 hr hx pins s σ H [.ref x] us Q I r ⟨x, dx, fs, rfl, hH, .ref x, t, rfl, ht, rep_ok ok hd, by omega, fun H' e => ⟨_, rfl, q H' e⟩⟩
theorem eq_side {H : Hp} {v y : V} {t : TM.Tree} {Q : Bool → Hp → Prop} {Q' : VK} (T : Txt X.K X.mg a) (ht : TM.TmAt (csOf a) H v t) (ok : TM.Ok t) (hd : t.depth ≤ 5) (h : Side a H t y Q) (k : ∀ b H', Q b H' → Q' (.bl b) H') : sp_Term_eq X.K a 6 [v, y] H Q' E := by
  refine ⟨v, y, t, rfl, ht, rep_ok ok hd, by omega, ?_⟩
  rcases h with ⟨t2, ht2, ok2, hd2, q⟩ | ⟨kn, kd, q⟩
  · exact .inl ⟨t2, ht2, rep_ok ok2 hd2, by omega, fun H' e => k _ _ (q H' e)⟩
  · exact .inr ⟨.type kn, fun H' e => (kd_up e kd).ty, kd_not T.g_Term kd, fun H' e => k _ _ (q H' e)⟩
theorem side_ty {H : Hp} {y : V} {t : TM.Tree} {Q : Bool → Hp → Prop} {C : Addr} (T : Txt X.K X.mg a) (hc : IsT a C) (h : Side a H t y Q) : ∃ tb, TyX X.K H y tb ∧ PySem.W.notFirst X.K C tb = true := by
  rcases h with ⟨t2, ht2, _, _, _⟩ | ⟨kn, kd, _⟩
  · obtain ⟨_, D, _, _, _, _, hd, ty⟩ := tm_at T ht2
    exact ⟨_, ty, is_first T hc hd⟩
  · exact ⟨_, kd.ty, kd_first kd⟩
theorem op_eq_tm (T : Txt X.K X.mg a) (F : Files X.prog X.K a) (g0 : X.A.guards = some []) (hr : Room 9 X.A) (hx : Passes (L2.CX X.prog X.w) X E) : OpR X (compareOp .Eq) (rEqT a) := by
  intro pins s σ H x y v u Q I rx ry h
  obtain ⟨t, ht, ok, hd, sd⟩ := h
  obtain ⟨x, C, dx, fs, rfl, hH, hc, _⟩ := tm_at T ht
  obtain ⟨tb, ty, nf⟩ := side_ty T hc sd
  exact op_eqOwn (cls_of T F hc).eq T.m_Term_eq.fn (fn_Term_eq T 6) g0 hr hx pins s σ H _ y v u Q I rx ry ⟨x, dx, fs, tb, rfl, hH, ty, nf, eq_side T ht ok hd sd fun b H' q => ⟨b, rfl, q⟩⟩
theorem op_ne_tm (T : Txt X.K X.mg a) (F : Files X.prog X.K a) (g0 : X.A.guards = some []) (hr : Room 10 X.A) (hx : Passes (L2.CX X.prog X.w) X E) : OpR X (compareOp .NotEq) (rNeT a) := by
  intro pins s σ H x y v u Q I rx ry h
  obtain ⟨t, ht, ok, hd, sd⟩ := h
  obtain ⟨x, C, dx, fs, rfl, hH, hc, _⟩ := tm_at T ht
  obtain ⟨tb, ty, nf⟩ := side_ty T hc sd
  exact op_neOwn (cls_of T F hc).obj (cls_of T F hc).ne (cls_of T F hc).eq T.m_Term_eq.fn (fn_Term_eq T 6) g0 hr hx pins s σ H _ y v u Q I rx ry ⟨x, dx, fs, tb, rfl, hH, ty, nf, eq_side T ht ok hd sd fun b H' q => ⟨b, rfl, q⟩⟩
theorem op_eq_right (T : Txt X.K X.mg a) (F : Files X.prog X.K a) (g0 : X.A.guards = some []) (hr : Room 9 X.A) (hx : Passes (L2.CX X.prog X.w) X E) : OpR X (compareOp .Eq) (rEqR a) := by
  intro pins s σ H x y v u Q I rx ry h
  obtain ⟨t, k, ht, ok, hd, kd, q⟩ := h
  obtain ⟨b, C, dx, fs, rfl, hH, hc, _⟩ := tm_at T ht
  exact op_eqRight (cls_of T F hc).eq T.m_Term_eq.fn (cls_of T F hc).nk (fn_Term_eq T 6) g0 hr hx pins s σ H x _ v u Q I rx ry ⟨b, dx, fs, k, rfl, hH, kd, eq_side (Q := fun b H' => Q (.bl b) H') T ht ok hd (.inr ⟨k, kd, q⟩) fun b H' q => ⟨b, rfl, q⟩⟩
theorem op_and_tm (T : Txt X.K X.mg a) (F : Files X.prog X.K a) (g0 : X.A.guards = some []) (hr : Room 7 X.A) (hx : Passes (L2.CX X.prog X.w) X E) : OpR X (binaryOp .BitAnd) (rAndT a) := by
  intro pins s σ H x y v u Q I rx ry h
  obtain ⟨t, t2, ht, ht2, q⟩ := h
  obtain ⟨x, C, dx, fs, rfl, hH, hc, _⟩ := tm_at T ht
  obtain ⟨y, D, dy, gs, rfl, hH2, hd, _⟩ := tm_at T ht2
  exact op_binOwn (op := .BitAnd) T.m_Term_and.fn (fn_Term_and T F) g0 hr hx pins s σ H _ _ v u Q I rx ry ⟨x, C, dx, fs, y, D, dy, gs, rfl, hH, rfl, hH2, (cls_of T F hc).and_, (cls_of T F hd).and_, cls_apart T hc hd, .ref x, .ref y, t, t2, rfl, ht, ht2, fun z H' e hz => let ⟨c, ec⟩ := tm_ref hz; ⟨c, ec, q z H' e hz⟩⟩
theorem op_or_tm (T : Txt X.K X.mg a) (F : Files X.prog X.K a) (g0 : X.A.guards = some []) (hr : Room 7 X.A) (hx : Passes (L2.CX X.prog X.w) X E) : OpR X (binaryOp .BitOr) (rOrT a) := by
  intro pins s σ H x y v u Q I rx ry h
  obtain ⟨t, t2, ht, ht2, q⟩ := h
  obtain ⟨x, C, dx, fs, rfl, hH, hc, _⟩ := tm_at T ht
  obtain ⟨y, D, dy, gs, rfl, hH2, hd, _⟩ := tm_at T ht2
  exact op_binOwn (op := .BitOr) T.m_Term_or.fn (fn_Term_or T F) g0 hr hx pins s σ H _ _ v u Q I rx ry ⟨x, C, dx, fs, y, D, dy, gs, rfl, hH, rfl, hH2, (cls_of T F hc).or_, (cls_of T F hd).or_, cls_apart T hc hd, .ref x, .ref y, t, t2, rfl, ht, ht2, fun z H' e hz => let ⟨c, ec⟩ := tm_ref hz; ⟨c, ec, q z H' e hz⟩⟩
end
end K12
/-! Comprehensions whose steps change the heap. -/
namespace LG
open PySem PySem.Spec PyProof.Rows L2 Evl
section
variable {K : PySem.W.Frag} {te : TE} {σ : L2.St} {H1 : Hp} {j : Nat} {Q : Addr → Hp → Prop}
/-- [e for j in range(m)], behind the range: W D i xs H: i turns are done, the new list at D holds xs -/
theorem lcR_inv {m : Int} (hm : 0 ≤ m ∧ m ≤ 40000) (hw : ∀ x, wipe ((wipe σ [j]).set j (some x)) [j] = wipe σ [j]) (W : Addr → Nat → List V → Hp → Prop) (h0 : ∀ D, H1 D = none → W D 0 [] (upd H1 D (.lst [])))
    (hs : ∀ D (i : Nat) xs H', H1 D = none → (i : Int) < m → xs.length = i → W D i xs H' → H' D = some (.lst xs) → ∀ Q' : VK, (∀ y H4, H4 D = some (.lst xs) → W D (i + 1) (xs ++ [y]) (upd H4 D (.lst (xs ++ [y]))) → Q' y H4) → te ((wipe σ [j]).set j (some (.int (i : Int)))) H' Q')
    (hd : ∀ D xs H', H1 D = none → (xs.length : Int) = m → W D xs.length xs H' → H' D = some (.lst xs) → Q D H') :
    ∀ D, H1 D = none → ∃ W : Nat → Nat → Hp → Prop, (∃ m, W 0 m (upd H1 D (.lst []))) ∧ ∀ i k H, W i k H →
      ((Itr 0 m.toNat).stop i H ∧ Q D H) ∨ ((Itr 0 m.toNat).go i H ∧ ∃ Nx : Hp → Prop, (∀ H', Nx H' → ∃ m', m' < k ∧ W (i + 1) m' H') ∧ ∀ x H', (Itr 0 m.toNat).yld i H x H' → gName j x (wipe σ [j]) H' fun σ2 H2 => wipe σ2 [j] = wipe σ [j] ∧ tYes σ2 H2 fun b H3 =>
        if b = true then te σ2 H3 fun y H4 => ∃ acc, H4 D = some (.lst acc) ∧ acc.length < sizeLine ∧ Nx (upd H4 D (.lst (acc ++ [y]))) else Nx H3) := fun D hD => by
  refine lc_range (lo := 0) (n := m.toNat) (g := gName j) (tt := tYes) (te := te) (vs := [j]) (σ := σ) (H1 := H1) (D := D) (Qd := fun H => Q D H) (fun i H' => ∃ xs, xs.length = i ∧ H' D = some (.lst xs) ∧ W D i xs H') ⟨[], rfl, upd_same, h0 D hD⟩ (fun i H' hi ⟨xs, hl, hx, w⟩ => ?_) (fun H' ⟨xs, hl, hx, w⟩ => ?_)
  · have e0 : (0 : Int) + (i : Int) = (i : Int) := Int.zero_add _
    show wipe ((wipe σ [j]).set j (some (.int ((0 : Int) + (i : Int))))) [j] = wipe σ [j] ∧ te ((wipe σ [j]).set j (some (.int ((0 : Int) + (i : Int))))) H' fun y H4 => ∃ acc, H4 D = some (.lst acc) ∧ acc.length < sizeLine ∧ ∃ xs, xs.length = i + 1 ∧ (upd H4 D (.lst (acc ++ [y]))) D = some (.lst xs) ∧ W D (i + 1) xs (upd H4 D (.lst (acc ++ [y])))
    rw [e0]
    exact ⟨hw _, hs D i xs H' hD (by omega) hl w hx _ fun y H4 h4 w4 => ⟨xs, h4, sz_lt (by omega), _, by rw [List.length_append, hl]; rfl, upd_same, w4⟩⟩
  · exact hd D xs H' hD (by omega) (by rw [hl]; exact w) hx
/-- [e for j in xs], behind the list's making -/
theorem lcL_inv {a : Addr} {ys : List V} (hy : SqL K H1 a ys) (hz : ys.length ≤ 40000) (hw : ∀ x, wipe ((wipe σ [j]).set j (some x)) [j] = wipe σ [j]) (W : Addr → Nat → List V → Hp → Prop) (h0 : ∀ D, H1 D = none → W D 0 [] (upd H1 D (.lst [])))
    (hl : ∀ D i xs H', H1 D = none → W D i xs H' → SqL K H' a ys)
    (hs : ∀ D (i : Nat) x xs H', H1 D = none → ys[i]? = some x → xs.length = i → W D i xs H' → H' D = some (.lst xs) → ∀ Q' : VK, (∀ y H4, H4 D = some (.lst xs) → W D (i + 1) (xs ++ [y]) (upd H4 D (.lst (xs ++ [y]))) → Q' y H4) → te ((wipe σ [j]).set j (some x)) H' Q')
    (hd : ∀ D xs H', H1 D = none → xs.length = ys.length → W D xs.length xs H' → H' D = some (.lst xs) → Q D H') :
    ∀ D, H1 D = none → ∃ W : Nat → Nat → Hp → Prop, (∃ m, W 0 m (upd H1 D (.lst []))) ∧ ∀ i k H, W i k H →
      ((Itl K a).stop i H ∧ Q D H) ∨ ((Itl K a).go i H ∧ ∃ Nx : Hp → Prop, (∀ H', Nx H' → ∃ m', m' < k ∧ W (i + 1) m' H') ∧ ∀ x H', (Itl K a).yld i H x H' → gName j x (wipe σ [j]) H' fun σ2 H2 => wipe σ2 [j] = wipe σ [j] ∧ tYes σ2 H2 fun b H3 =>
        if b = true then te σ2 H3 fun y H4 => ∃ acc, H4 D = some (.lst acc) ∧ acc.length < sizeLine ∧ Nx (upd H4 D (.lst (acc ++ [y]))) else Nx H3) := fun D hD => by
  refine lc_list (K := K) (a := a) (xs := ys) (g := gName j) (tt := tYes) (te := te) (vs := [j]) (σ := σ) (H1 := H1) (D := D) (Qd := fun H => Q D H) (fun i H' => ∃ xs, xs.length = i ∧ H' D = some (.lst xs) ∧ W D i xs H') ⟨[], rfl, upd_same, h0 D hD⟩ (fun i H' _ ⟨xs, _, _, w⟩ => hl D i xs H' hD w) (fun i x H' hi ⟨xs, hl2, hx, w⟩ => ?_) (fun H' ⟨xs, hl2, hx, w⟩ => ?_)
  · have hi2 : i < ys.length := (List.getElem?_eq_some_iff.mp hi).1
    show wipe ((wipe σ [j]).set j (some x)) [j] = wipe σ [j] ∧ te ((wipe σ [j]).set j (some x)) H' fun y H4 => ∃ acc, H4 D = some (.lst acc) ∧ acc.length < sizeLine ∧ ∃ xs, xs.length = i + 1 ∧ (upd H4 D (.lst (acc ++ [y]))) D = some (.lst xs) ∧ W D (i + 1) xs (upd H4 D (.lst (acc ++ [y])))
    exact ⟨hw _, hs D i x xs H' hD hi hl2 w hx _ fun y H4 h4 w4 => ⟨xs, h4, sz_lt (by omega), _, by rw [List.length_append, hl2]; rfl, upd_same, w4⟩⟩
  · exact hd D xs H' hD hl2 (by rw [hl2]; exact w) hx
end
section
variable {X : Cx} {K : PySem.W.Frag} {o e : Expr} {es : List Expr} {to : TE} {t : TA} {name : Str} {apos cpos pos : Pos} {T id : String} {r : V → List V → Hp → VK → Prop}
/-- pe_bm within a comprehension: the reading names K itself -/
theorem pe_bmK (hK : X.K = K) (pa : PlainAttrs T) (slot : Slot T name id) (hty : typeOf (.builtin id) = pure (.type "method_descriptor")) (hm : MtR X id r) (ho : PE X o to) (ha : PA X (e :: es) t)
    (hbase : attributeBase o name X.env (eval o X.env) = eval o X.env := by rfl)
    (hfew : ((backTo cpos (starEach (e :: es) X.env)).all (fun x => !x.1) && (backToKw cpos (keywordEach [] X.env)).all (fun x => x.1.isSome)
      && decide ((e :: es).length + ([] : List Keyword).length + (if ([] : List Keyword).isEmpty then 0 else 1) < 30)) = true := by rfl)
    (hline : (apos.endLine == cpos.line) = true := by rfl) (hs : starEach (e :: es) X.env = (false, eval e X.env) :: starEach es X.env := by rfl) (hplain : (backTo cpos (starEach es X.env)).any (·.1) = false := by rfl) :
    PE X (.Call (.Attribute o name apos) (e :: es) [] cpos) (tBM K T r to t) := by
  subst hK
  exact pe_bm pa slot hty hm ho ha hbase hfew hline hs hplain
theorem cr_lenK (hK : X.K = K) : CallR X (.builtin "len") (rLenS K) := by
  subst hK
  exact call_len_seq
end
section
variable {σ : L2.St} {H : Hp} {ta tb : TE} {x y : V}
theorem et_eqT (ha : Ev ta σ H x) (hb : Ev tb σ H y) (hs : scal x y = true) (e : x = y) : EvT (tTest (tOp rEq ta tb)) σ H true := et_is (et_test (ev_op ha hb (rv_eq hs))) (decide_eq_true e)
theorem et_eqF (ha : Ev ta σ H x) (hb : Ev tb σ H y) (hs : scal x y = true) (e : x ≠ y) : EvT (tTest (tOp rEq ta tb)) σ H false := et_is (et_test (ev_op ha hb (rv_eq hs))) (decide_eq_false e)
theorem str_ne {x y : Str} (h : x ≠ y) : V.str x ≠ V.str y := fun z => h (V.str.inj z)
end
end LG
namespace K12
open PySem PySem.Spec PyProof.Rows L2 LG Evl
section
variable {P : Program} {w : World} {K : PySem.W.Frag} {mg : Str → Option Value} {base : Heap} {a : At}
/-! ### the law's places -/
def Nm (v : V) : Prop := ∃ n ∈ TM.names, v = .str n
theorem seq_ix {i : Nat} {n : Nat} (h : i < n) : seqIndex? (i : Int) n = some i := by
  have h0 : ¬ ((i : Int) < 0) := by omega
  have h1 : (i : Int) < (n : Int) := by omega
  unfold seqIndex?
  simp [h0, h1, h]
theorem mt_popR {X : Cx} : MtR X "list.pop" rPopAt := mt_popAt
def sp__law_places : Sp := fun vs H Q _ => ∃ (p : Addr), vs = [.ref p] ∧ Po p H ∧ ∀ (l : Addr) (xs : List V) (H' : Hp), H l = none → H' l = some (.lst xs) → 0 < xs.length → xs.length ≤ 5 → (∀ x ∈ xs, Nm x) → Px p H H' → Q (.ref l) H'
theorem ok__law_places (T : Txt K mg a) : Fn P w K mg base 2 a._law_places sp__law_places := by
  have G__law_draw : Fn P w K mg base 1 a._law_draw sp__law_draw := ok__law_draw T
  refine T.d__law_places.fn sc__law_places (fun _ _ _ _ _ _ us hl => match us, hl with | [_], _ => rfl) (fun vs H Q E h => ?_) (fun cdv A outer s H vs Q E hg hr h => ?_)
  · obtain ⟨_, rfl, _⟩ := h
    rfl
  · obtain ⟨p, rfl, hp, q⟩ := h
    have nd := sc__law_places.nd
    refine ⟨_, (pss_cons (ps_set (i := 1) nd rfl (.inr rfl) (pe_lst (pa_cons pe_str (pa_cons pe_str (pa_cons pe_str (pa_cons pe_str (pa_cons pe_str (pa_cons pe_str (pa_cons pe_str (pa_cons pe_str pa_nil))))))))))
    (pss_one (ps_ret (pe_lc rfl (own := [("turn", 2)]) (g := gName 2) (by exact nd) (pi_range1 (by rfl) T.z_range (pa_cons (pe_op op_add pe_int (pe_fn G__law_draw hg (hr.mono (by decide)) T.d__law_draw.kp T.d__law_draw.m (by rfl) passL (pa_cons (pv 0) (pa_cons pe_int pa_nil)))) pa_nil)) (blkOk_by (own := [("turn", 2)]) (N := ["pot", "left", "turn"]) (sc := defScope s__law_places) (by decide +kernel)) (fun _ _ _ _ _ => (pg_name (i := 2) nd rfl (.inl rfl))) (fun _ _ _ _ _ => pts_nil) (fun _ _ _ _ _ => (pe_bmK (K := K) rfl PySem.F.plainAttrs_list PySem.F.slot_list_pop PySem.F.type_list_pop mt_popR (pv 1) (pa_cons (pe_fn G__law_draw hg (hr.mono (by decide)) T.d__law_draw.kp T.d__law_draw.m (by rfl) passL (pa_cons (pv 0) (pa_cons (pe_callB (cr_lenK (K := K) rfl) (by rfl) T.z_len (by decide +kernel) (pa_cons (pv 1) pa_nil)) pa_nil))) pa_nil))))))), ?_⟩
    refine ⟨(by decide : 8 ≤ sizeLine), fun l hl => ?_⟩
    have lp : l ≠ p := hp.ne hl
    refine ⟨.ref p, rfl, p, 5, rfl, hp.up (Ex.new hl), by decide, by decide, fun d H2 d0 d1 x2 => ?_⟩
    refine ⟨1, d, rfl, rfl, 1 + d, rfl, by omega, by omega, ?_⟩
    refine lcR_inv (by omega) (fun _ => rfl) (fun D i acc H' => (∀ b o, b ≠ p → b ≠ l → b ≠ D → H2 b = some o → H' b = some o) ∧ Po p H' ∧ (∃ ys, H' l = some (.lst ys) ∧ ys.length + i = 8 ∧ ∀ y ∈ ys, Nm y) ∧ ∀ y ∈ acc, Nm y) ?_ ?_ ?_
    · intro D hD
      refine ⟨fun b o _ _ bd e => by rw [upd_ne bd]; exact e, x2.2.up (Ex.new hD), ⟨placesV, ?_, rfl, ?_⟩, fun y hy => nomatch hy⟩
      · have e := x2.1 l _ lp upd_same
        rw [upd_ne (ne_of_none e hD)]
        exact e
      · intro y hy
        simp only [placesV, List.mem_cons, List.not_mem_nil, or_false] at hy
        rcases hy with rfl | rfl | rfl | rfl | rfl | rfl | rfl | rfl <;> exact ⟨_, by decide, rfl⟩
    · rintro D i acc H' hD hi hlen ⟨f, hp', ⟨ys, hy, hyl, hyn⟩, han⟩ hx Q' k
      have e2 := x2.1 l _ lp upd_same
      have Dl : l ≠ D := ne_of_none e2 hD
      have Dp : D ≠ p := x2.ne hD
      refine ⟨.ref l, rfl, .inl ⟨rfl, _, sq_of hy⟩, .ref p, rfl, .ref l, rfl, l, ys, rfl, .inl (sq_of hy), p, ys.length, rfl, hp', by omega, by omega, fun d H4 d0 d1 x4 => ?_⟩
      obtain ⟨m, rfl⟩ := Int.eq_ofNat_of_zero_le d0
      have hm : m < ys.length := by omega
      have hy4 := x4.1 l _ lp hy
      have hx4 := x4.1 D _ Dp hx
      refine ⟨l, ys, m, m, ys[m], rfl, rfl, hy4, by omega, by omega, seq_ix hm, List.getElem?_eq_getElem hm, k _ _ (by rw [upd_ne (Ne.symm Dl)]; exact hx4) ⟨fun b o bp bl bd e => ?_, ?_, ⟨ys.eraseIdx m, ?_, ?_, ?_⟩, ?_⟩⟩
      · rw [upd_ne bd, upd_ne bl]
        exact x4.1 b o bp (f b o bp bl bd e)
      · obtain ⟨x, y, h1, h2⟩ := x4.2
        exact ⟨x, y, by rw [upd_ne (Ne.symm Dp), upd_ne (Ne.symm lp)]; exact h1, h2⟩
      · rw [upd_ne Dl, upd_same]
      · rw [List.length_eraseIdx_of_lt hm]
        omega
      · exact fun y hy => hyn y (List.mem_of_mem_eraseIdx hy)
      · intro y hy
        rcases List.mem_append.mp hy with hy | hy
        · exact han y hy
        · rw [List.mem_singleton.mp hy]
          exact hyn _ (List.getElem_mem hm)
    · rintro D xs H' hD hlen ⟨f, hp', _, hn⟩ hx
      have e2 := x2.1 l _ lp upd_same
      have Dl : l ≠ D := ne_of_none e2 hD
      have h1 := x2.fresh hD
      rw [upd_ne (Ne.symm Dl)] at h1
      exact q D xs H' h1 hx (by omega) (by omega) hn ⟨fun b o bp e => f b o bp (ne_of_none e hl) (ne_of_none e h1) (x2.1 b o bp (Ex.new hl b o e)), hp'⟩
end
end K12
/-! The places of a term, as often as they stand in it; its value at values of its places. -/
namespace TM
open PySem PySem.Spec PyProof.Rows L2 LG Evl
mutual
def Tree.places : Tree → List Str
  | .place n => [n]
  | .endd _ => []
  | .lesser ts => Tree.placesAll ts
  | .greater ts => Tree.placesAll ts
def Tree.placesAll : List Tree → List Str
  | [] => []
  | t :: ts => t.places ++ Tree.placesAll ts
end
theorem mem_placesAll {n : Str} : ∀ {ts : List Tree}, n ∈ Tree.placesAll ts ↔ ∃ t ∈ ts, n ∈ t.places
  | [] => by simp [Tree.placesAll]
  | t :: ts => by
    rw [Tree.placesAll, List.mem_append, mem_placesAll]
    simp
theorem Ok.names {t : Tree} (h : Ok t) : ∀ n ∈ t.places, n ∈ names := by
  induction h with
  | place h =>
    intro n hn
    rw [Tree.places, List.mem_singleton] at hn
    exact hn ▸ h
  | endd h =>
    intro n hn
    rw [Tree.places] at hn
    exact absurd hn List.not_mem_nil
  | lesser _ _ ih =>
    intro n hn
    rw [Tree.places] at hn
    obtain ⟨t, ht, hn⟩ := mem_placesAll.mp hn
    exact ih t ht n hn
  | greater _ _ ih =>
    intro n hn
    rw [Tree.places] at hn
    obtain ⟨t, ht, hn⟩ := mem_placesAll.mp hn
    exact ih t ht n hn
/-- how many places there are at most -/
theorem places_len : ∀ (d : Nat) (t : Tree), Ok t → t.depth ≤ d → t.places.length ≤ 8 ^ d
  | d, .place n, _, _ => by
    rw [Tree.places]
    exact Nat.one_le_pow _ _ (by decide)
  | d, .endd e, _, _ => by
    rw [Tree.places]
    exact Nat.zero_le _
  | 0, .lesser ts, _, hd => by
    rw [Tree.depth] at hd
    omega
  | 0, .greater ts, _, hd => by
    rw [Tree.depth] at hd
    omega
  | d + 1, .lesser ts, ok, hd => by
    cases ok with
    | lesser hl h =>
      rw [Tree.depth] at hd
      rw [Tree.places, Nat.pow_succ]
      have all : ∀ us : List Tree, (∀ t ∈ us, t ∈ ts) → (Tree.placesAll us).length ≤ 8 ^ d * us.length := fun us hu => by
        induction us with
        | nil => exact Nat.zero_le _
        | cons u us ih =>
          have h1 := places_len d u (h u (hu u List.mem_cons_self)) (Nat.le_trans (depth_mem (hu u List.mem_cons_self)) (by omega))
          have h2 := ih fun t ht => hu t (List.mem_cons_of_mem _ ht)
          rw [Tree.placesAll, List.length_append, List.length_cons, Nat.mul_succ]
          omega
      exact Nat.le_trans (all ts fun _ h => h) (Nat.mul_le_mul_left _ hl.eight)
  | d + 1, .greater ts, ok, hd => by
    cases ok with
    | greater hl h =>
      rw [Tree.depth] at hd
      rw [Tree.places, Nat.pow_succ]
      have all : ∀ us : List Tree, (∀ t ∈ us, t ∈ ts) → (Tree.placesAll us).length ≤ 8 ^ d * us.length := fun us hu => by
        induction us with
        | nil => exact Nat.zero_le _
        | cons u us ih =>
          have h1 := places_len d u (h u (hu u List.mem_cons_self)) (Nat.le_trans (depth_mem (hu u List.mem_cons_self)) (by omega))
          have h2 := ih fun t ht => hu t (List.mem_cons_of_mem _ ht)
          rw [Tree.placesAll, List.length_append, List.length_cons, Nat.mul_succ]
          omega
      exact Nat.le_trans (all ts fun _ h => h) (Nat.mul_le_mul_left _ hl.eight)
def Pl (xs : List V) (t : Tree) : Prop := ∀ n ∈ t.places, V.str n ∈ xs
end TM
namespace K12
open PySem PySem.Spec PyProof.Rows L2 LG Evl
/-! ### the law's terms, drawn -/
/-- i parts are made; they stand at new places -/
structure WT (p : Addr) (H0 : Hp) (M : TM.Tree → Prop) (D : Addr) (i : Nat) (acc : List V) (H' : Hp) : Prop where
  fr : ∀ b o, b ≠ p → b ≠ D → H0 b = some o → H' b = some o
  po : Po p H'
  ex : ∃ ts : List TM.Tree, ts.length = acc.length ∧ (∀ t ∈ ts, TM.Ok t ∧ M t) ∧ ∀ (k : Nat) (x : V) (t : TM.Tree), acc[k]? = some x → ts[k]? = some t → TM.MdAt (fun b => H0 b = none ∧ b ≠ D) H' x t
theorem depthAll_le {m : Nat} : ∀ {ts : List TM.Tree}, (∀ t ∈ ts, t.depth ≤ m) → TM.Tree.depthAll ts ≤ m
  | [], _ => Nat.zero_le _
  | t :: ts, h => by
    rw [TM.Tree.depthAll]
    exact Nat.max_le.mpr ⟨h t List.mem_cons_self, depthAll_le fun u hu => h u (List.mem_cons_of_mem _ hu)⟩
theorem Po.at {p : Addr} {H : Hp} (h : Po p H) : H p ≠ none := by
  obtain ⟨x, y, h1, _⟩ := h
  rw [h1]
  exact fun z => by cases z
theorem wt_start {p : Addr} {H0 : Hp} {M : TM.Tree → Prop} {D : Addr} (hp : Po p H0) (hD : H0 D = none) : WT p H0 M D 0 [] (upd H0 D (.lst [])) :=
  ⟨fun b o _ bd e => by rw [upd_ne bd]; exact e, hp.up (Ex.new hD), ([] : List TM.Tree), rfl, ⟨fun t ht => absurd ht List.not_mem_nil, fun k x t h _ => by simp at h⟩⟩
theorem get_snoc {α : Type} {xs : List α} {x y : α} {k : Nat} (h : (xs ++ [y])[k]? = some x) : xs[k]? = some x ∨ (k = xs.length ∧ x = y) := by
  rcases Nat.lt_trichotomy k xs.length with z | z | z
  · rw [List.getElem?_append_left z] at h
    exact .inl h
  · subst z
    rw [List.getElem?_append_right (Nat.le_refl _), Nat.sub_self] at h
    simp at h
    exact .inr ⟨rfl, h.symm⟩
  · rw [List.getElem?_append_right (Nat.le_of_lt z)] at h
    obtain ⟨j, hj⟩ : ∃ j, k - xs.length = j + 1 := ⟨k - xs.length - 1, by omega⟩
    rw [hj] at h
    simp at h
theorem wt_step {p : Addr} {H0 H' H4 : Hp} {M : TM.Tree → Prop} {i : Nat} {D : Addr} {acc : List V} {y : V} {t : TM.Tree} (hp0 : Po p H0) (w : WT p H0 M D i acc H') (hD : H0 D = none) (hx : H' D = some (.lst acc)) (x4 : Px p H' H4) (ht : TM.MdAt (fun b => H' b = none) H4 y t) (ok : TM.Ok t) (hd : M t) :
    WT p H0 M D (i + 1) (acc ++ [y]) (upd H4 D (.lst (acc ++ [y]))) := by
  obtain ⟨fr, po, ts, hl, hok, hat⟩ := w
  have Dp : D ≠ p := hp0.ne hD
  refine ⟨fun b o bp bd e => by rw [upd_ne bd]; exact x4.1 b o bp (fr b o bp bd e), ?_, ts ++ [t], by simp [hl], fun u hu => ?_, fun k x u h1 h2 => ?_⟩
  · obtain ⟨x, y', h1, h2⟩ := x4.2
    exact ⟨x, y', by rw [upd_ne (Ne.symm Dp)]; exact h1, h2⟩
  · rcases List.mem_append.mp hu with hu | hu
    · exact hok u hu
    · rw [List.mem_singleton.mp hu]
      exact ⟨ok, hd⟩
  · rcases get_snoc h1 with z1 | ⟨k1, rfl⟩ <;> rcases get_snoc h2 with z2 | ⟨k2, rfl⟩
    · refine (hat k x u z1 z2).up (fun b s => s) fun b o s e => ?_
      rw [upd_ne s.2]
      exact x4.1 b o (fun z => hp0.at (z ▸ s.1)) e
    · have := (List.getElem?_eq_some_iff.mp z1).1
      omega
    · have := (List.getElem?_eq_some_iff.mp z2).1
      omega
    · refine ht.up (fun b s => ?_) fun b o s e => ?_
      · have bd : b ≠ D := fun z => by rw [z, hx] at s; cases s
        refine ⟨?_, bd⟩
        cases e : H0 b with
        | none => rfl
        | some o =>
          by_cases bp : b = p
          · exact absurd (bp ▸ s) po.at
          · rw [fr b o bp bd e] at s
            cases s
      · have bd : b ≠ D := fun z => by rw [z, hx] at s; cases s
        rw [upd_ne bd]
        exact e
theorem wt_px {p : Addr} {H0 H' : Hp} {M : TM.Tree → Prop} {i : Nat} {D : Addr} {acc : List V} (w : WT p H0 M D i acc H') (hD : H0 D = none) : Px p H0 H' := ⟨fun b o bp e => w.fr b o bp (fun z => by rw [z, hD] at e; cases e) e, w.po⟩
def Words (x : V) : Prop := x = .str "lesser" ∨ x = .str "greater"
theorem wt_done {p q : Addr} {H0 H' : Hp} {m : Nat} {zs : List V} {D : Addr} {xs : List V} {word : V} (hp0 : Po p H0) (hw : Words word) (w : WT p H0 (fun t => t.depth ≤ m ∧ TM.Pl zs t) D xs.length xs H') (hD : H0 D = none) (hx : H' D = some (.lst xs)) (hl8 : TM.Ln xs.length) (hq : H' q = none) :
    ∃ t, TM.Ok t ∧ t.depth ≤ m + 1 ∧ TM.Pl zs t ∧ TM.MdAt (fun b => H0 b = none) (upd H' q (.tup [word, .ref D])) (.ref q) t := by
  have px := wt_px w hD
  obtain ⟨fr, po, ts, hl, hok, hat⟩ := w
  have qD : D ≠ q := ne_of_none hx hq
  have sq := px.fresh hq
  have at2 : ∀ (k : Nat) (x : V) (t : TM.Tree), xs[k]? = some x → ts[k]? = some t → TM.MdAt (fun b => H0 b = none) (upd H' q (.tup [word, .ref D])) x t := fun k x t h1 h2 => (hat k x t h1 h2).up (fun b s => s.1) fun b o s e => by
    rw [upd_ne (ne_of_none e hq)]
    exact e
  have hdp : TM.Tree.depthAll ts ≤ m := depthAll_le fun t ht => (hok t ht).2.1
  have hpl : ∀ n ∈ TM.Tree.placesAll ts, V.str n ∈ zs := fun n hn => by
    obtain ⟨t, ht, hn⟩ := TM.mem_placesAll.mp hn
    exact (hok t ht).2.2 n hn
  rcases hw with rfl | rfl
  · exact ⟨.lesser ts, .lesser (hl ▸ hl8) fun t ht => (hok t ht).1, by rw [TM.Tree.depth]; omega, hpl, .lesser sq upd_same hD (by rw [upd_ne qD]; exact hx) hl.symm at2⟩
  · exact ⟨.greater ts, .greater (hl ▸ hl8) fun t ht => (hok t ht).1, by rw [TM.Tree.depth]; omega, hpl, .greater sq upd_same hD (by rw [upd_ne qD]; exact hx) hl.symm at2⟩
section
variable {P : Program} {w : World} {K : PySem.W.Frag} {mg : Str → Option Value} {base : Heap} {a : At}
def sp__law_term (n : Nat) : Sp := fun vs H Q _ => ∃ (p l : Addr) (xs : List V) (d : Nat) (di : Int), vs = [.ref p, .ref l, .int di] ∧ di = (d : Int) ∧ d < n ∧ Po p H ∧ H l = some (.lst xs) ∧ l ≠ p ∧ 0 < xs.length ∧ xs.length ≤ 5 ∧ (∀ x ∈ xs, Nm x) ∧
  ∀ v t H', TM.Ok t → t.depth ≤ d → TM.Pl xs t → TM.MdAt (fun b => H b = none) H' v t → Px p H H' → Q v H'
theorem ok__law_term (T : Txt K mg a) : ∀ n, Fn P w K mg base (n + 2) a._law_term (sp__law_term n) := by
  intro n
  induction n with
  | zero =>
    refine T.d__law_term.fn sc__law_term (fun _ _ _ _ _ _ us hl => match us, hl with | [_, _, _], _ => rfl) (fun vs H Q E h => ?_) (fun cdv A outer s H vs Q E hg hr h => ?_)
    · obtain ⟨_, _, _, _, _, rfl, _⟩ := h
      rfl
    · obtain ⟨_, _, _, _, _, _, _, hd, _⟩ := h
      exact absurd hd (Nat.not_lt_zero _)
  | succ n ih =>
    have G__law_draw : Fn P w K mg base 1 a._law_draw sp__law_draw := ok__law_draw T
    have G__law_pick : Fn P w K mg base 2 a._law_pick sp__law_pick := ok__law_pick T
    have G__law_term := ih
    refine T.d__law_term.fn sc__law_term (fun _ _ _ _ _ _ us hl => match us, hl with | [_, _, _], _ => rfl) (fun vs H Q E h => ?_) (fun cdv A outer s H vs Q E hg hr h => ?_)
    · obtain ⟨_, _, _, _, _, rfl, _⟩ := h
      rfl
    · obtain ⟨p, l, xs, d, di, rfl, rfl, hd, hp, hl, lp, h0, h5, hn, q⟩ := h
      have nd := sc__law_term.nd
      refine ⟨_, (pss_cons (ps_set (i := 3) nd rfl (.inl rfl) (pe_fn G__law_draw hg (hr.mono (by omega)) T.d__law_draw.kp T.d__law_draw.m (by rfl) passL (pa_cons (pv 0) (pa_cons pe_int pa_nil))))
    (pss_cons (ps_if (PW.pt (pw_or (pt_cmpR op_eq (pv 2) pe_int (nomark _)) (pw_or1 (pt_cmpR op_lt (pv 3) pe_int (nomark _))))) (pss_cons (ps_if (pt_cmpR op_eq (pe_fn G__law_draw hg (hr.mono (by omega)) T.d__law_draw.kp T.d__law_draw.m (by rfl) passL (pa_cons (pv 0) (pa_cons pe_int pa_nil))) pe_int (nomark _)) (pss_one (ps_ret (pe_tup (pa_cons pe_str (pa_cons (pe_fn G__law_pick hg (hr.mono (by omega)) T.d__law_pick.kp T.d__law_pick.m (by rfl) passL (pa_cons (pv 0) (pa_cons (pe_lst (pa_cons pe_str (pa_cons pe_str pa_nil))) pa_nil))) pa_nil))))) pss_nil)
      (pss_one (ps_ret (pe_tup (pa_cons pe_str (pa_cons (pe_fn G__law_pick hg (hr.mono (by omega)) T.d__law_pick.kp T.d__law_pick.m (by rfl) passL (pa_cons (pv 0) (pa_cons (pv 1) pa_nil))) pa_nil)))))) pss_nil)
    (pss_cons (ps_set (i := 4) nd rfl (.inl rfl) (pe_fn G__law_pick hg (hr.mono (by omega)) T.d__law_pick.kp T.d__law_pick.m (by rfl) passL (pa_cons (pv 0) (pa_cons (pe_lst (pa_cons pe_str (pa_cons pe_str pa_nil))) pa_nil))))
    (pss_cons (ps_if (pt_cmpR op_eq (pv 3) pe_int (nomark _)) (pss_one (ps_ret (pe_tup (pa_cons (pv 4) (pa_cons (pe_lc rfl (own := [("turn", 5)]) (g := gName 5) (by exact nd) (pi_range1 (by rfl) T.z_range (pa_cons pe_int pa_nil)) (blkOk_by (own := [("turn", 5)]) (N := ["pot", "places", "deep", "way", "word", "turn"]) (sc := defScope s__law_term) (by decide +kernel)) (fun _ _ _ _ _ => (pg_name (i := 5) nd rfl (.inl rfl))) (fun _ _ _ _ _ => pts_nil) (fun _ _ _ _ _ => (pe_tup (pa_cons pe_str (pa_cons (pe_fn G__law_pick hg (hr.mono (by omega)) T.d__law_pick.kp T.d__law_pick.m (by rfl) passL (pa_cons (pv 0) (pa_cons (pv 1) pa_nil))) pa_nil))))) pa_nil))))) pss_nil)
    (pss_one (ps_ret (pe_tup (pa_cons (pv 4) (pa_cons (pe_lc rfl (own := [("turn", 5)]) (g := gName 5) (by exact nd) (pi_range1 (by rfl) T.z_range (pa_cons (pe_fn G__law_pick hg (hr.mono (by omega)) T.d__law_pick.kp T.d__law_pick.m (by rfl) passL (pa_cons (pv 0) (pa_cons (pe_lst (pa_cons pe_int (pa_cons pe_int (pa_cons pe_int (pa_cons pe_int pa_nil))))) pa_nil))) pa_nil)) (blkOk_by (own := [("turn", 5)]) (N := ["pot", "places", "deep", "way", "word", "turn"]) (sc := defScope s__law_term) (by decide +kernel)) (fun _ _ _ _ _ => (pg_name (i := 5) nd rfl (.inl rfl))) (fun _ _ _ _ _ => pts_nil) (fun _ _ _ _ _ => (pe_fn G__law_term hg (hr.mono (by omega)) T.d__law_term.kp T.d__law_term.m (by rfl) passL (pa_cons (pv 0) (pa_cons (pv 1) (pa_cons (pe_op op_sub (pv 2) pe_int) pa_nil)))))) pa_nil))))))))), ?_⟩
      refine ⟨.ref p, rfl, p, 9, rfl, hp, by decide, by decide, fun way H1 w0 w1 x1 => ?_⟩
      have l1 := x1.1 l _ lp hl
      refine q_when (b := decide (V.int (d : Int) = V.int 0) || decide (way < 2)) (et_or (et_test (ev_op (ev_var rfl) ev_c (rv_eq rfl))) fun _ => et_test (ev_op (ev_var rfl) ev_c rv_I0)) (fun _ H2 e2 => ?_) (fun hb H2 e2 => ?_)
      · have x2 := x1.ex e2
        refine ⟨.ref p, rfl, p, 6, rfl, x2.2, by decide, by decide, fun d2 H3 d20 d21 x3 => ⟨rfl, _, rfl, ?_⟩⟩
        have x03 := x2.trans x3
        by_cases c : V.int d2 = V.int 0
        · rw [decide_eq_true c]
          refine iteT ⟨.ref p, rfl, (by decide : 2 ≤ sizeLine), fun z hz => ⟨p, z, _, rfl, x03.2.up (Ex.new hz), upd_same, x03.ne hz, by decide, by decide, fun x hx H4 x4 => ⟨(by decide : 2 ≤ sizeLine), fun y hy => ?_⟩⟩⟩
          have x04 := (x03.ex (Ex.new hz)).trans x4
          have sy := x04.fresh hy
          have xf := x04.ex (Ex.new (o := .tup [.str "end", x]) hy)
          simp only [List.mem_cons, List.not_mem_nil, or_false] at hx
          rcases hx with rfl | rfl
          · exact q (.ref y) (.endd "bottom") _ (.endd (by decide)) (Nat.zero_le _) (fun n hn => absurd hn List.not_mem_nil) (.endd sy upd_same) xf
          · exact q (.ref y) (.endd "top") _ (.endd (by decide)) (Nat.zero_le _) (fun n hn => absurd hn List.not_mem_nil) (.endd sy upd_same) xf
        · rw [decide_eq_false c]
          refine iteF ⟨.ref p, rfl, .ref l, rfl, p, l, xs, rfl, x03.2, x03.1 l _ lp hl, lp, h0, by omega, fun x hx H4 x4 => ⟨(by decide : 2 ≤ sizeLine), fun y hy => ?_⟩⟩
          have x04 := x03.trans x4
          have sy := x04.fresh hy
          have xf := x04.ex (Ex.new (o := .tup [.str "place", x]) hy)
          obtain ⟨nm, hnm, rfl⟩ := hn x hx
          exact q (.ref y) (.place nm) _ (.place hnm) (Nat.zero_le _) (fun n hn => by rw [TM.Tree.places, List.mem_singleton] at hn; exact hn ▸ hx) (.place sy upd_same) xf
      · have x2 := x1.ex e2
        have dn : d ≠ 0 := fun z => by
          subst z
          simp at hb
        obtain ⟨d, rfl⟩ : ∃ e, d = e + 1 := ⟨d - 1, by omega⟩
        refine ⟨.ref p, rfl, (by decide : 2 ≤ sizeLine), fun z hz => ⟨p, z, _, rfl, x2.2.up (Ex.new hz), upd_same, x2.ne hz, by decide, by decide, fun word hw H3 x3 => ?_⟩⟩
        have x03 := (x2.ex (Ex.new hz)).trans x3
        have ww : Words word := by
          simp only [List.mem_cons, List.not_mem_nil, or_false] at hw
          exact hw
        clear hw
        have l3 := x03.1 l _ lp hl
        have fin : ∀ (H4 : Hp) (D : Addr) (acc : List V) (H' : Hp), Px p H H4 → H4 D = none → WT p H4 (fun t => t.depth ≤ d ∧ TM.Pl xs t) D acc.length acc H' → H' D = some (.lst acc) → TM.Ln acc.length → 2 ≤ sizeLine ∧ ∀ y, H' y = none → Q (.ref y) (upd H' y (.tup [word, .ref D])) := fun H4 D acc H' x4 hD w hx a8 => by
          refine ⟨(by decide : 2 ≤ sizeLine), fun y hy => ?_⟩
          obtain ⟨t, ok, hdp, hpl, hat⟩ := wt_done x4.2 ww w hD hx a8 hy
          exact q (.ref y) t _ ok hdp hpl (hat.up (fun b s => x4.fresh s) fun b o _ e => e) ((x4.trans (wt_px w hD)).ex (Ex.new hy))
        refine q_when (b := decide (V.int way = V.int 8)) (et_test (ev_op (ev_var rfl) ev_c (rv_eq rfl))) (fun _ H4 e4 => ?_) (fun _ H4 e4 => ?_)
        · have x04 := x03.ex e4
          refine ⟨word, rfl, 8, rfl, by decide, by decide, ?_⟩
          dsimp only
          refine lcR_inv (m := 8) (by decide) ?_ (WT p H4 (fun t => t.depth ≤ d ∧ TM.Pl xs t)) (fun D hD => wt_start x04.2 hD) ?_ ?_
          · exact fun _ => rfl
          rotate_left
          · exact fun D acc H' hD ha w hx => fin H4 D acc H' x04 hD w hx (.inr (.inr (.inr (by omega))))
          intro D i acc H' hD hi hlen w hx Q' k
          have lD : l ≠ D := ne_of_none (x04.1 l _ lp hl) hD
          refine ⟨.ref p, rfl, .ref l, rfl, p, l, xs, rfl, w.po, w.fr l _ lp lD (x04.1 l _ lp hl), lp, h0, by omega, fun x hx2 H5 x5 => ⟨(by decide : 2 ≤ sizeLine), fun y hy => ?_⟩⟩
          obtain ⟨nm, hnm, rfl⟩ := hn x hx2
          have x5' := x5.ex (Ex.new (o := .tup [.str "place", .str nm]) hy)
          exact k _ _ (x5'.1 D _ (x04.ne hD) hx) (wt_step x04.2 w hD hx x5' (.place (x5.fresh hy) upd_same) (.place hnm) ⟨Nat.zero_le _, fun n hn => by rw [TM.Tree.places, List.mem_singleton] at hn; exact hn ▸ hx2⟩)
        · have x04 := x03.ex e4
          refine ⟨word, rfl, .ref p, rfl, (by decide : 4 ≤ sizeLine), fun z2 hz2 => ⟨p, z2, _, rfl, x04.2.up (Ex.new hz2), upd_same, x04.ne hz2, by decide, by decide, fun many hm H5 x5 => ?_⟩⟩
          have x05 := (x04.ex (Ex.new hz2)).trans x5
          obtain ⟨m, rfl, mm⟩ : ∃ m : Int, many = .int m ∧ (m = 2 ∨ m = 3 ∨ m = 4) := by
            simp only [List.mem_cons, List.not_mem_nil, or_false] at hm
            rcases hm with rfl | rfl | rfl | rfl <;> exact ⟨_, rfl, by decide⟩
          refine ⟨m, rfl, by omega, by omega, ?_⟩
          dsimp only
          refine lcR_inv (m := m) (by omega) ?_ (WT p H5 (fun t => t.depth ≤ d ∧ TM.Pl xs t)) (fun D hD => wt_start x05.2 hD) ?_ ?_
          · exact fun _ => rfl
          rotate_left
          · exact fun D acc H' hD ha w hx => fin H5 D acc H' x05 hD w hx (by
            rcases mm with rfl | rfl | rfl
            · exact .inl (by omega)
            · exact .inr (.inl (by omega))
            · exact .inr (.inr (.inl (by omega))))
          intro D i acc H' hD hi hlen w hx Q' k
          have lD : l ≠ D := ne_of_none (x05.1 l _ lp hl) hD
          refine ⟨.ref p, rfl, .ref l, rfl, .int ((d + 1 : Nat) : Int), rfl, _, 1, rfl, rfl, p, l, xs, d, _, rfl, by omega, by omega, w.po, w.fr l _ lp lD (x05.1 l _ lp hl), lp, h0, h5, hn, fun v t H6 ok hdp hpl hat x6 => ?_⟩
          exact k _ _ (x6.1 D _ (x05.ne hD) hx) (wt_step x05.2 w hD hx x6 hat ok ⟨hdp, hpl⟩)
end
end K12
namespace K12
open PySem PySem.Spec PyProof.Rows L2 LG Evl
section
variable {P : Program} {w : World} {K : PySem.W.Frag} {mg : Str → Option Value} {base : Heap} {a : At}
/-! ### the package's term of a word and its parts -/
def sp__law_joined (a : At) : Sp := fun vs H Q _ => ∃ (word : V) (l : Addr) (xs : List V) (ts : List TM.Tree), vs = [word, .ref l] ∧ H l = some (.lst xs) ∧ xs.length = ts.length ∧ TM.Ln xs.length ∧ (∀ (i : Nat) (y : V) (t : TM.Tree), xs[i]? = some y → ts[i]? = some t → TM.TmAt (csOf a) H y t) ∧
  ((word = .str "lesser" ∧ ∀ v H', Ex H H' → TM.TmAt (csOf a) H' v (.lesser ts) → Q v H') ∨ (word = .str "greater" ∧ ∀ v H', Ex H H' → TM.TmAt (csOf a) H' v (.greater ts) → Q v H'))
theorem ln_cases {xs : List V} (h : TM.Ln xs.length) : (∃ a b, xs = [a, b]) ∨ (∃ a b c, xs = [a, b, c]) ∨ (∃ a b c d, xs = [a, b, c, d]) ∨ (∃ a b c d e f g i, xs = [a, b, c, d, e, f, g, i]) := by
  rcases h with h | h | h | h
  · exact .inl (match xs, h with | [a, b], _ => ⟨a, b, rfl⟩)
  · exact .inr (.inl (match xs, h with | [a, b, c], _ => ⟨a, b, c, rfl⟩))
  · exact .inr (.inr (.inl (match xs, h with | [a, b, c, d], _ => ⟨a, b, c, d, rfl⟩)))
  · exact .inr (.inr (.inr (match xs, h with | [a, b, c, d, e, f, g, i], _ => ⟨a, b, c, d, e, f, g, i, rfl⟩)))
theorem s_make {C : Addr} {sp : Sp} {E : XK} {ta : TA} {xs : List V} {D : Ends} {σ : L2.St} {H : Hp} (h : EvA ta σ H xs) (k : ∀ H1, Ex H H1 → ∀ x dx, H1 x = none → H1 dx = none → dx ≠ x → sp (V.ref x :: xs) (upd (upd H1 dx (.own x)) x (.ins C dx [])) (fun v H2 => v = .non ∧ D.rt (.ref x) H2) E) : tRet (StX.tMakeR C sp E ta) D σ H := h H (Ex.refl H) _ k
theorem ok__law_joined (T : Txt K mg a) (F : Files P K a) : Fn P w K mg base 7 a._law_joined (sp__law_joined a) := by
  have F_Lesser := ok_Lesser_init (P := P) (w := w) (mg := mg) (base := base) T F.lesser F.top
  have F_Greater := ok_Greater_init (P := P) (w := w) (mg := mg) (base := base) T F.greater F.top
  refine T.d__law_joined.fn sc__law_joined (fun _ _ _ _ _ _ us hl => match us, hl with | [_, _], _ => rfl) (fun vs H Q E h => ?_) (fun cdv A outer s H vs Q E hg hr h => ?_)
  · obtain ⟨_, _, _, _, rfl, _⟩ := h
    rfl
  · obtain ⟨word, l, xs, ts, rfl, hl, hn, h8, hx, q⟩ := h
    have nd := sc__law_joined.nd
    refine ⟨_, (pss_cons (ps_if (pt_cmpR op_eq (pv 0) pe_str (nomark _)) (pss_cons (ps_if (pt_cmpR op_eq (pe_callB call_len_seq (by rfl) T.z_len (by decide +kernel) (pa_cons (pv 1) pa_nil)) pe_int (nomark _)) (pss_one (ps_ret (StX.pe_makeR T.mk_Lesser F_Lesser (hr.mono (by decide)) (by rfl) T.g_Lesser.m passL (pa_cons (pe_ix ix_list (pv 1) pe_int (fun _ _ => rfl)) (pa_cons (pe_ix ix_list (pv 1) pe_int (fun _ _ => rfl)) pa_nil))))) pss_nil)
      (pss_cons (ps_if (pt_cmpR op_eq (pe_callB call_len_seq (by rfl) T.z_len (by decide +kernel) (pa_cons (pv 1) pa_nil)) pe_int (nomark _)) (pss_one (ps_ret (StX.pe_makeR T.mk_Lesser F_Lesser (hr.mono (by decide)) (by rfl) T.g_Lesser.m passL (pa_cons (pe_ix ix_list (pv 1) pe_int (fun _ _ => rfl)) (pa_cons (pe_ix ix_list (pv 1) pe_int (fun _ _ => rfl)) (pa_cons (pe_ix ix_list (pv 1) pe_int (fun _ _ => rfl)) pa_nil)))))) pss_nil)
      (pss_cons (ps_if (pt_cmpR op_eq (pe_callB call_len_seq (by rfl) T.z_len (by decide +kernel) (pa_cons (pv 1) pa_nil)) pe_int (nomark _)) (pss_one (ps_ret (StX.pe_makeR T.mk_Lesser F_Lesser (hr.mono (by decide)) (by rfl) T.g_Lesser.m passL (pa_cons (pe_ix ix_list (pv 1) pe_int (fun _ _ => rfl)) (pa_cons (pe_ix ix_list (pv 1) pe_int (fun _ _ => rfl)) (pa_cons (pe_ix ix_list (pv 1) pe_int (fun _ _ => rfl)) (pa_cons (pe_ix ix_list (pv 1) pe_int (fun _ _ => rfl)) pa_nil))))))) pss_nil)
      (pss_one (ps_ret (StX.pe_makeR T.mk_Lesser F_Lesser (hr.mono (by decide)) (by rfl) T.g_Lesser.m passL (pa_cons (pe_ix ix_list (pv 1) pe_int (fun _ _ => rfl)) (pa_cons (pe_ix ix_list (pv 1) pe_int (fun _ _ => rfl)) (pa_cons (pe_ix ix_list (pv 1) pe_int (fun _ _ => rfl)) (pa_cons (pe_ix ix_list (pv 1) pe_int (fun _ _ => rfl)) (pa_cons (pe_ix ix_list (pv 1) pe_int (fun _ _ => rfl)) (pa_cons (pe_ix ix_list (pv 1) pe_int (fun _ _ => rfl)) (pa_cons (pe_ix ix_list (pv 1) pe_int (fun _ _ => rfl)) (pa_cons (pe_ix ix_list (pv 1) pe_int (fun _ _ => rfl)) pa_nil)))))))))))))) pss_nil)
    (pss_cons (ps_if (pt_cmpR op_eq (pe_callB call_len_seq (by rfl) T.z_len (by decide +kernel) (pa_cons (pv 1) pa_nil)) pe_int (nomark _)) (pss_one (ps_ret (StX.pe_makeR T.mk_Greater F_Greater (hr.mono (by decide)) (by rfl) T.g_Greater.m passL (pa_cons (pe_ix ix_list (pv 1) pe_int (fun _ _ => rfl)) (pa_cons (pe_ix ix_list (pv 1) pe_int (fun _ _ => rfl)) pa_nil))))) pss_nil)
    (pss_cons (ps_if (pt_cmpR op_eq (pe_callB call_len_seq (by rfl) T.z_len (by decide +kernel) (pa_cons (pv 1) pa_nil)) pe_int (nomark _)) (pss_one (ps_ret (StX.pe_makeR T.mk_Greater F_Greater (hr.mono (by decide)) (by rfl) T.g_Greater.m passL (pa_cons (pe_ix ix_list (pv 1) pe_int (fun _ _ => rfl)) (pa_cons (pe_ix ix_list (pv 1) pe_int (fun _ _ => rfl)) (pa_cons (pe_ix ix_list (pv 1) pe_int (fun _ _ => rfl)) pa_nil)))))) pss_nil)
    (pss_cons (ps_if (pt_cmpR op_eq (pe_callB call_len_seq (by rfl) T.z_len (by decide +kernel) (pa_cons (pv 1) pa_nil)) pe_int (nomark _)) (pss_one (ps_ret (StX.pe_makeR T.mk_Greater F_Greater (hr.mono (by decide)) (by rfl) T.g_Greater.m passL (pa_cons (pe_ix ix_list (pv 1) pe_int (fun _ _ => rfl)) (pa_cons (pe_ix ix_list (pv 1) pe_int (fun _ _ => rfl)) (pa_cons (pe_ix ix_list (pv 1) pe_int (fun _ _ => rfl)) (pa_cons (pe_ix ix_list (pv 1) pe_int (fun _ _ => rfl)) pa_nil))))))) pss_nil)
    (pss_one (ps_ret (StX.pe_makeR T.mk_Greater F_Greater (hr.mono (by decide)) (by rfl) T.g_Greater.m passL (pa_cons (pe_ix ix_list (pv 1) pe_int (fun _ _ => rfl)) (pa_cons (pe_ix ix_list (pv 1) pe_int (fun _ _ => rfl)) (pa_cons (pe_ix ix_list (pv 1) pe_int (fun _ _ => rfl)) (pa_cons (pe_ix ix_list (pv 1) pe_int (fun _ _ => rfl)) (pa_cons (pe_ix ix_list (pv 1) pe_int (fun _ _ => rfl)) (pa_cons (pe_ix ix_list (pv 1) pe_int (fun _ _ => rfl)) (pa_cons (pe_ix ix_list (pv 1) pe_int (fun _ _ => rfl)) (pa_cons (pe_ix ix_list (pv 1) pe_int (fun _ _ => rfl)) pa_nil))))))))))))))), ?_⟩
    rcases q with ⟨rfl, q⟩ | ⟨rfl, q⟩ <;> rcases ln_cases h8 with ⟨x0, x1, rfl⟩ | ⟨x0, x1, x2, rfl⟩ | ⟨x0, x1, x2, x3, rfl⟩ | ⟨x0, x1, x2, x3, x4, x5, x6, x7, rfl⟩
    · have sq : SqL K H l [x0, x1] := sq_of hl
      refine q_when (b := true) (et_eqT (ev_var rfl) ev_c rfl rfl) (fun z H1 e1 => ?_) (fun z H1 e1 => ?_)
      rotate_left
      · exact nomatch z
      have e01 := e1
      refine q_when (b := true) (et_eqT (ev_len (ev_var rfl) (ex_l e01 sq)) ev_c rfl rfl) (fun z H2 e2 => ?_) (fun z H2 e2 => ?_)
      rotate_left
      · exact nomatch z
      have e02 := e01.trans e2
      refine s_make (ea_cons (ev_op (ev_var rfl) ev_c (rv_ixL (ex_l e02 sq) (i := 0) rfl)) (ea_cons (ev_op (ev_var rfl) ev_c (rv_ixL (ex_l e02 sq) (i := 1) rfl)) ea_nil)) fun H9 e9 => lesser_made hn (by simp) (by simp) (fun i y t a b => (hx i y t a b).up (e02.trans e9)) fun v H8 e8 tm => q v H8 ((e02.trans e9).trans e8) tm
    · have sq : SqL K H l [x0, x1, x2] := sq_of hl
      refine q_when (b := true) (et_eqT (ev_var rfl) ev_c rfl rfl) (fun z H1 e1 => ?_) (fun z H1 e1 => ?_)
      rotate_left
      · exact nomatch z
      have e01 := e1
      refine q_when (b := false) (et_eqF (ev_len (ev_var rfl) (ex_l e01 sq)) ev_c rfl (by simp)) (fun z H2 e2 => ?_) (fun z H2 e2 => ?_)
      · exact nomatch z
      have e02 := e01.trans e2
      refine q_when (b := true) (et_eqT (ev_len (ev_var rfl) (ex_l e02 sq)) ev_c rfl rfl) (fun z H3 e3 => ?_) (fun z H3 e3 => ?_)
      rotate_left
      · exact nomatch z
      have e03 := e02.trans e3
      refine s_make (ea_cons (ev_op (ev_var rfl) ev_c (rv_ixL (ex_l e03 sq) (i := 0) rfl)) (ea_cons (ev_op (ev_var rfl) ev_c (rv_ixL (ex_l e03 sq) (i := 1) rfl)) (ea_cons (ev_op (ev_var rfl) ev_c (rv_ixL (ex_l e03 sq) (i := 2) rfl)) ea_nil))) fun H9 e9 => lesser_made hn (by simp) (by simp) (fun i y t a b => (hx i y t a b).up (e03.trans e9)) fun v H8 e8 tm => q v H8 ((e03.trans e9).trans e8) tm
    · have sq : SqL K H l [x0, x1, x2, x3] := sq_of hl
      refine q_when (b := true) (et_eqT (ev_var rfl) ev_c rfl rfl) (fun z H1 e1 => ?_) (fun z H1 e1 => ?_)
      rotate_left
      · exact nomatch z
      have e01 := e1
      refine q_when (b := false) (et_eqF (ev_len (ev_var rfl) (ex_l e01 sq)) ev_c rfl (by simp)) (fun z H2 e2 => ?_) (fun z H2 e2 => ?_)
      · exact nomatch z
      have e02 := e01.trans e2
      refine q_when (b := false) (et_eqF (ev_len (ev_var rfl) (ex_l e02 sq)) ev_c rfl (by simp)) (fun z H3 e3 => ?_) (fun z H3 e3 => ?_)
      · exact nomatch z
      have e03 := e02.trans e3
      refine q_when (b := true) (et_eqT (ev_len (ev_var rfl) (ex_l e03 sq)) ev_c rfl rfl) (fun z H4 e4 => ?_) (fun z H4 e4 => ?_)
      rotate_left
      · exact nomatch z
      have e04 := e03.trans e4
      refine s_make (ea_cons (ev_op (ev_var rfl) ev_c (rv_ixL (ex_l e04 sq) (i := 0) rfl)) (ea_cons (ev_op (ev_var rfl) ev_c (rv_ixL (ex_l e04 sq) (i := 1) rfl)) (ea_cons (ev_op (ev_var rfl) ev_c (rv_ixL (ex_l e04 sq) (i := 2) rfl)) (ea_cons (ev_op (ev_var rfl) ev_c (rv_ixL (ex_l e04 sq) (i := 3) rfl)) ea_nil)))) fun H9 e9 => lesser_made hn (by simp) (by simp) (fun i y t a b => (hx i y t a b).up (e04.trans e9)) fun v H8 e8 tm => q v H8 ((e04.trans e9).trans e8) tm
    · have sq : SqL K H l [x0, x1, x2, x3, x4, x5, x6, x7] := sq_of hl
      refine q_when (b := true) (et_eqT (ev_var rfl) ev_c rfl rfl) (fun z H1 e1 => ?_) (fun z H1 e1 => ?_)
      rotate_left
      · exact nomatch z
      have e01 := e1
      refine q_when (b := false) (et_eqF (ev_len (ev_var rfl) (ex_l e01 sq)) ev_c rfl (by simp)) (fun z H2 e2 => ?_) (fun z H2 e2 => ?_)
      · exact nomatch z
      have e02 := e01.trans e2
      refine q_when (b := false) (et_eqF (ev_len (ev_var rfl) (ex_l e02 sq)) ev_c rfl (by simp)) (fun z H3 e3 => ?_) (fun z H3 e3 => ?_)
      · exact nomatch z
      have e03 := e02.trans e3
      refine q_when (b := false) (et_eqF (ev_len (ev_var rfl) (ex_l e03 sq)) ev_c rfl (by simp)) (fun z H4 e4 => ?_) (fun z H4 e4 => ?_)
      · exact nomatch z
      have e04 := e03.trans e4
      refine s_make (ea_cons (ev_op (ev_var rfl) ev_c (rv_ixL (ex_l e04 sq) (i := 0) rfl)) (ea_cons (ev_op (ev_var rfl) ev_c (rv_ixL (ex_l e04 sq) (i := 1) rfl)) (ea_cons (ev_op (ev_var rfl) ev_c (rv_ixL (ex_l e04 sq) (i := 2) rfl)) (ea_cons (ev_op (ev_var rfl) ev_c (rv_ixL (ex_l e04 sq) (i := 3) rfl)) (ea_cons (ev_op (ev_var rfl) ev_c (rv_ixL (ex_l e04 sq) (i := 4) rfl)) (ea_cons (ev_op (ev_var rfl) ev_c (rv_ixL (ex_l e04 sq) (i := 5) rfl)) (ea_cons (ev_op (ev_var rfl) ev_c (rv_ixL (ex_l e04 sq) (i := 6) rfl)) (ea_cons (ev_op (ev_var rfl) ev_c (rv_ixL (ex_l e04 sq) (i := 7) rfl)) ea_nil)))))))) fun H9 e9 => lesser_made hn (by simp) (by simp) (fun i y t a b => (hx i y t a b).up (e04.trans e9)) fun v H8 e8 tm => q v H8 ((e04.trans e9).trans e8) tm
    · have sq : SqL K H l [x0, x1] := sq_of hl
      refine q_when (b := false) (et_eqF (ev_var rfl) ev_c rfl (str_ne (by decide))) (fun z H1 e1 => ?_) (fun z H1 e1 => ?_)
      · exact nomatch z
      have e01 := e1
      refine q_when (b := true) (et_eqT (ev_len (ev_var rfl) (ex_l e01 sq)) ev_c rfl rfl) (fun z H2 e2 => ?_) (fun z H2 e2 => ?_)
      rotate_left
      · exact nomatch z
      have e02 := e01.trans e2
      refine s_make (ea_cons (ev_op (ev_var rfl) ev_c (rv_ixL (ex_l e02 sq) (i := 0) rfl)) (ea_cons (ev_op (ev_var rfl) ev_c (rv_ixL (ex_l e02 sq) (i := 1) rfl)) ea_nil)) fun H9 e9 => greater_made hn (by simp) (by simp) (fun i y t a b => (hx i y t a b).up (e02.trans e9)) fun v H8 e8 tm => q v H8 ((e02.trans e9).trans e8) tm
    · have sq : SqL K H l [x0, x1, x2] := sq_of hl
      refine q_when (b := false) (et_eqF (ev_var rfl) ev_c rfl (str_ne (by decide))) (fun z H1 e1 => ?_) (fun z H1 e1 => ?_)
      · exact nomatch z
      have e01 := e1
      refine q_when (b := false) (et_eqF (ev_len (ev_var rfl) (ex_l e01 sq)) ev_c rfl (by simp)) (fun z H2 e2 => ?_) (fun z H2 e2 => ?_)
      · exact nomatch z
      have e02 := e01.trans e2
      refine q_when (b := true) (et_eqT (ev_len (ev_var rfl) (ex_l e02 sq)) ev_c rfl rfl) (fun z H3 e3 => ?_) (fun z H3 e3 => ?_)
      rotate_left
      · exact nomatch z
      have e03 := e02.trans e3
      refine s_make (ea_cons (ev_op (ev_var rfl) ev_c (rv_ixL (ex_l e03 sq) (i := 0) rfl)) (ea_cons (ev_op (ev_var rfl) ev_c (rv_ixL (ex_l e03 sq) (i := 1) rfl)) (ea_cons (ev_op (ev_var rfl) ev_c (rv_ixL (ex_l e03 sq) (i := 2) rfl)) ea_nil))) fun H9 e9 => greater_made hn (by simp) (by simp) (fun i y t a b => (hx i y t a b).up (e03.trans e9)) fun v H8 e8 tm => q v H8 ((e03.trans e9).trans e8) tm
    · have sq : SqL K H l [x0, x1, x2, x3] := sq_of hl
      refine q_when (b := false) (et_eqF (ev_var rfl) ev_c rfl (str_ne (by decide))) (fun z H1 e1 => ?_) (fun z H1 e1 => ?_)
      · exact nomatch z
      have e01 := e1
      refine q_when (b := false) (et_eqF (ev_len (ev_var rfl) (ex_l e01 sq)) ev_c rfl (by simp)) (fun z H2 e2 => ?_) (fun z H2 e2 => ?_)
      · exact nomatch z
      have e02 := e01.trans e2
      refine q_when (b := false) (et_eqF (ev_len (ev_var rfl) (ex_l e02 sq)) ev_c rfl (by simp)) (fun z H3 e3 => ?_) (fun z H3 e3 => ?_)
      · exact nomatch z
      have e03 := e02.trans e3
      refine q_when (b := true) (et_eqT (ev_len (ev_var rfl) (ex_l e03 sq)) ev_c rfl rfl) (fun z H4 e4 => ?_) (fun z H4 e4 => ?_)
      rotate_left
      · exact nomatch z
      have e04 := e03.trans e4
      refine s_make (ea_cons (ev_op (ev_var rfl) ev_c (rv_ixL (ex_l e04 sq) (i := 0) rfl)) (ea_cons (ev_op (ev_var rfl) ev_c (rv_ixL (ex_l e04 sq) (i := 1) rfl)) (ea_cons (ev_op (ev_var rfl) ev_c (rv_ixL (ex_l e04 sq) (i := 2) rfl)) (ea_cons (ev_op (ev_var rfl) ev_c (rv_ixL (ex_l e04 sq) (i := 3) rfl)) ea_nil)))) fun H9 e9 => greater_made hn (by simp) (by simp) (fun i y t a b => (hx i y t a b).up (e04.trans e9)) fun v H8 e8 tm => q v H8 ((e04.trans e9).trans e8) tm
    · have sq : SqL K H l [x0, x1, x2, x3, x4, x5, x6, x7] := sq_of hl
      refine q_when (b := false) (et_eqF (ev_var rfl) ev_c rfl (str_ne (by decide))) (fun z H1 e1 => ?_) (fun z H1 e1 => ?_)
      · exact nomatch z
      have e01 := e1
      refine q_when (b := false) (et_eqF (ev_len (ev_var rfl) (ex_l e01 sq)) ev_c rfl (by simp)) (fun z H2 e2 => ?_) (fun z H2 e2 => ?_)
      · exact nomatch z
      have e02 := e01.trans e2
      refine q_when (b := false) (et_eqF (ev_len (ev_var rfl) (ex_l e02 sq)) ev_c rfl (by simp)) (fun z H3 e3 => ?_) (fun z H3 e3 => ?_)
      · exact nomatch z
      have e03 := e02.trans e3
      refine q_when (b := false) (et_eqF (ev_len (ev_var rfl) (ex_l e03 sq)) ev_c rfl (by simp)) (fun z H4 e4 => ?_) (fun z H4 e4 => ?_)
      · exact nomatch z
      have e04 := e03.trans e4
      refine s_make (ea_cons (ev_op (ev_var rfl) ev_c (rv_ixL (ex_l e04 sq) (i := 0) rfl)) (ea_cons (ev_op (ev_var rfl) ev_c (rv_ixL (ex_l e04 sq) (i := 1) rfl)) (ea_cons (ev_op (ev_var rfl) ev_c (rv_ixL (ex_l e04 sq) (i := 2) rfl)) (ea_cons (ev_op (ev_var rfl) ev_c (rv_ixL (ex_l e04 sq) (i := 3) rfl)) (ea_cons (ev_op (ev_var rfl) ev_c (rv_ixL (ex_l e04 sq) (i := 4) rfl)) (ea_cons (ev_op (ev_var rfl) ev_c (rv_ixL (ex_l e04 sq) (i := 5) rfl)) (ea_cons (ev_op (ev_var rfl) ev_c (rv_ixL (ex_l e04 sq) (i := 6) rfl)) (ea_cons (ev_op (ev_var rfl) ev_c (rv_ixL (ex_l e04 sq) (i := 7) rfl)) ea_nil)))))))) fun H9 e9 => greater_made hn (by simp) (by simp) (fun i y t a b => (hx i y t a b).up (e04.trans e9)) fun v H8 e8 tm => q v H8 ((e04.trans e9).trans e8) tm
end
end K12
namespace K12
open PySem PySem.Spec PyProof.Rows L2 LG Evl
section
variable {P : Program} {w : World} {K : PySem.W.Frag} {mg : Str → Option Value} {base : Heap} {a : At}
/-! ### the package's term of the law's own one -/
def sp__law_real (a : At) (n : Nat) : Sp := fun vs H Q _ => ∃ (S : Addr → Prop) (v : V) (t : TM.Tree), vs = [v] ∧ TM.MdAt S H v t ∧ TM.Ok t ∧ t.depth < n ∧ ∀ x H', Ex H H' → TM.TmAt (csOf a) H' x t → Q x H'
theorem tm_off {H4 : Hp} {D : Addr} {acc zs : List V} {v : V} {t : TM.Tree} (h : H4 D = some (.lst acc)) (ht : TM.TmAt (csOf a) H4 v t) : TM.TmAt (csOf a) (upd H4 D (.lst zs)) v t := ht.upW h fun b o bn _ e => by rw [upd_ne bn]; exact e
/-- i parts are made -/
def WR (a : At) (ts : List TM.Tree) (H2 : Hp) (D : Addr) (i : Nat) (acc : List V) (H' : Hp) : Prop := Ex H2 H' ∧ ∀ (k : Nat) (y : V) (t : TM.Tree), acc[k]? = some y → ts[k]? = some t → TM.TmAt (csOf a) H' y t
theorem wr_step {ts : List TM.Tree} {H2 H' H4 : Hp} {D : Addr} {i : Nat} {acc : List V} {y : V} {t : TM.Tree} (w : WR a ts H2 D i acc H') (hD : H2 D = none) (hl : acc.length = i) (hx : H' D = some (.lst acc)) (e4 : Ex H' H4) (ht : ts[i]? = some t) (tm : TM.TmAt (csOf a) H4 y t) : WR a ts H2 D (i + 1) (acc ++ [y]) (upd H4 D (.lst (acc ++ [y]))) := by
  refine ⟨Ex.mut (w.1.trans e4) hD, fun k z u h1 h2 => ?_⟩
  rcases get_snoc h1 with z1 | ⟨k1, rfl⟩
  · exact tm_off (e4 _ _ hx) ((w.2 k z u z1 h2).up e4)
  · rw [k1, hl, ht] at h2
    cases h2
    exact tm_off (e4 _ _ hx) tm
theorem s_make1 {C : Addr} {sp : Sp} {E : XK} {ta : TA} {xs : List V} {D : Ends} {σ : L2.St} {H : Hp} (h : EvA ta σ H xs) (k : ∀ H1, Ex H H1 → ∀ x dx, H1 x = none → H1 dx = none → dx ≠ x → sp (V.ref x :: (xs ++ [])) (upd (upd H1 dx (.own x)) x (.ins C dx [])) (fun v H2 => v = .non ∧ D.rt (.ref x) H2) E) : tRet (tMake C sp [] E ta) D σ H := h H (Ex.refl H) _ k
theorem ok__law_real (T : Txt K mg a) (F : Files P K a) : ∀ n, Fn P w K mg base (n + 7) a._law_real (sp__law_real a n) := by
  intro n
  induction n with
  | zero =>
    refine T.d__law_real.fn sc__law_real (fun _ _ _ _ _ _ us hl => match us, hl with | [_], _ => rfl) (fun vs H Q E h => ?_) (fun cdv A outer s H vs Q E hg hr h => ?_)
    · obtain ⟨_, _, _, rfl, _⟩ := h
      rfl
    · obtain ⟨_, _, _, _, _, _, hd, _⟩ := h
      exact absurd hd (Nat.not_lt_zero _)
  | succ n ih =>
    obtain ⟨fdP, FP, bP⟩ := ok_Place_init (P := P) (w := w) (mg := mg) (base := base) T F.place F.top
    obtain ⟨fdE, FE, bE⟩ := ok_End_init (P := P) (w := w) (mg := mg) (base := base) T F.endd F.top
    have G__law_joined := ok__law_joined (P := P) (w := w) (mg := mg) (base := base) T F
    have G__law_real := ih
    refine T.d__law_real.fn sc__law_real (fun _ _ _ _ _ _ us hl => match us, hl with | [_], _ => rfl) (fun vs H Q E h => ?_) (fun cdv A outer s H vs Q E hg hr h => ?_)
    · obtain ⟨_, _, _, rfl, _⟩ := h
      rfl
    · obtain ⟨S, v, t, rfl, ht, ok, hd, q⟩ := h
      have nd := sc__law_real.nd
      refine ⟨_, (pss_cons (ps_if (pt_cmpR op_eq (pe_ix ix_tup (pv 0) pe_int (fun _ _ => rfl)) pe_str (nomark _)) (pss_one (ps_ret (pe_make T.mk_Place FP (hr.mono (by omega)) (by rfl) T.g_Place.m bP .nil passL (pa_cons (pe_ix ix_tup (pv 0) pe_int (fun _ _ => rfl)) pa_nil)))) pss_nil)
    (pss_cons (ps_if (pt_cmpR op_eq (pe_ix ix_tup (pv 0) pe_int (fun _ _ => rfl)) pe_str (nomark _)) (pss_one (ps_ret (pe_make T.mk_End FE (hr.mono (by omega)) (by rfl) T.g_End.m bE .nil passL (pa_cons (pe_ix ix_tup (pv 0) pe_int (fun _ _ => rfl)) pa_nil)))) pss_nil)
    (pss_one (ps_ret (pe_fn G__law_joined hg (hr.mono (by omega)) T.d__law_joined.kp T.d__law_joined.m (by rfl) passL (pa_cons (pe_ix ix_tup (pv 0) pe_int (fun _ _ => rfl)) (pa_cons (pe_lc rfl (own := [("part", 1)]) (g := gName 1) (by exact nd) (pi_list (pe_ix ix_tup (pv 0) pe_int (fun _ _ => rfl))) (blkOk_by (own := [("part", 1)]) (N := ["term", "part"]) (sc := defScope s__law_real) (by decide +kernel)) (fun _ _ _ _ _ => (pg_name (i := 1) nd rfl (.inl rfl))) (fun _ _ _ _ _ => pts_nil) (fun _ _ _ _ _ => (pe_fn G__law_real hg (hr.mono (by omega)) T.d__law_real.kp T.d__law_real.m (by rfl) passL (pa_cons (pv 1) pa_nil)))) pa_nil))))))), ?_⟩
      have two : ∀ {x l : Addr} {word : Str} {xs : List V} {ts : List TM.Tree} {tt : TM.Tree}, H x = some (.tup [.str word, .ref l]) → H l = some (.lst xs) → xs.length = ts.length → (∀ (i : Nat) (y : V) (t : TM.Tree), xs[i]? = some y → ts[i]? = some t → TM.MdAt S H y t) → TM.Ln ts.length → (∀ t ∈ ts, TM.Ok t) → TM.Tree.depthAll ts < n →
          (∀ z H', Ex H H' → TM.TmAt (csOf a) H' z tt → Q z H') → ((word = "lesser" ∧ tt = .lesser ts) ∨ (word = "greater" ∧ tt = .greater ts)) → ∀ H2, Ex H H2 → tRet (tFn (sp__law_joined a) E0 (tCons (tOp (rIxT K) (tVar 0) (tC (.int 0))) (tCons (tLc (iList K (tOp (rIxT K) (tVar 0) (tC (.int 1)))) (gName 1) tYes (tFn (sp__law_real a n) E0 (tCons (tVar 1) tNil)) [1]) tNil))) { nx := fun _ H' => Q .non H', rt := Q } (start ["term", "part"] [.ref x]) H2 := by
        intro x l word xs ts tt hx hl hn hxs hln hok hdp q hw H2 e2
        refine ⟨.ref x, rfl, x, _, 0, _, rfl, rfl, st_of (e2 _ _ hx), rfl, ?_⟩
        refine ⟨.ref x, rfl, x, _, 1, _, rfl, rfl, st_of (e2 _ _ hx), rfl, l, rfl, ⟨xs, sq_of (e2 _ _ hl)⟩, ?_⟩
        have h8 : ts.length ≤ 8 := hln.eight
        dsimp only
        refine lcL_inv (ys := xs) (sq_of (e2 _ _ hl)) (by omega) (fun _ => rfl) (WR a ts H2) (fun D hD => ⟨Ex.new hD, fun k y t h _ => by simp at h⟩) (fun D i acc H' hD w => sq_of (w.1 _ _ (e2 _ _ hl))) ?_ ?_
        · intro D i y acc H' hD hi hlen w hacc Q' k
          have hi2 : i < ts.length := hn ▸ (List.getElem?_eq_some_iff.mp hi).1
          have ht : ts[i]? = some ts[i] := List.getElem?_eq_getElem hi2
          have hm : ts[i] ∈ ts := List.getElem_mem hi2
          refine ⟨y, rfl, S, y, ts[i], rfl, (hxs i y _ hi ht).ex (e2.trans w.1), hok _ hm, Nat.lt_of_le_of_lt (TM.depth_mem hm) hdp, fun z H4 e4 tm => ?_⟩
          exact k z H4 (e4 _ _ hacc) (wr_step w hD hlen hacc e4 ht tm)
        · intro D acc H' hD hlen w hacc
          have hl2 : acc.length = ts.length := by omega
          refine ⟨.str word, D, acc, ts, rfl, hacc, hl2, hl2 ▸ hln, w.2, ?_⟩
          rcases hw with ⟨rfl, rfl⟩ | ⟨rfl, rfl⟩
          · exact .inl ⟨rfl, fun z H4 e4 tm => q z H4 ((e2.trans w.1).trans e4) tm⟩
          · exact .inr ⟨rfl, fun z H4 e4 tm => q z H4 ((e2.trans w.1).trans e4) tm⟩
      cases ht with
      | @place x nm s hx =>
        cases ok with
        | place hnm =>
          refine q_when (b := true) (et_eqT (ev_op (ev_var rfl) ev_c (rv_ixT (st_of hx) (i := 0) rfl)) ev_c rfl rfl) (fun _ H1 e1 => ?_) (fun z => nomatch z)
          refine s_make1 (ea_cons (ev_op (ev_var rfl) ev_c (rv_ixT (st_of (e1 _ _ hx)) (i := 1) rfl)) ea_nil) fun H2 e2 y dy hy hdy ne => ?_
          have pl : isPlB (.str nm) = true := (by decide +kernel : ∀ n ∈ TM.names, isPlB (.str n) = true) _ hnm
          exact ⟨y, dy, .str nm, _, rfl, upd_same, .str _, fun _ => ⟨rfl, q _ _ ((e1.trans e2).trans (by rw [upd_upd]; exact (Ex.new hdy).trans (Ex.new (by rw [upd_ne (Ne.symm ne)]; exact hy)))) (.place upd_same)⟩, fun z => by rw [pl] at z; cases z⟩
      | @endd x nm s hx =>
        cases ok with
        | endd hnm =>
          refine q_when (b := false) (et_eqF (ev_op (ev_var rfl) ev_c (rv_ixT (st_of hx) (i := 0) rfl)) ev_c rfl (str_ne (by decide))) (fun z => nomatch z) (fun _ H1 e1 => ?_)
          refine q_when (b := true) (et_eqT (ev_op (ev_var rfl) ev_c (rv_ixT (st_of (e1 _ _ hx)) (i := 0) rfl)) ev_c rfl rfl) (fun _ H2 e2 => ?_) (fun z => nomatch z)
          have e02 := e1.trans e2
          refine s_make1 (ea_cons (ev_op (ev_var rfl) ev_c (rv_ixT (st_of (e02 _ _ hx)) (i := 1) rfl)) ea_nil) fun H3 e3 y dy hy hdy ne => ?_
          have pl : isEndS (.str nm) = true := (by decide +kernel : ∀ n ∈ (["bottom", "top"] : List Str), isEndS (.str n) = true) _ hnm
          exact ⟨y, dy, .str nm, _, rfl, upd_same, .str _, fun _ => ⟨rfl, q _ _ ((e02.trans e3).trans (by rw [upd_upd]; exact (Ex.new hdy).trans (Ex.new (by rw [upd_ne (Ne.symm ne)]; exact hy)))) (.endd upd_same)⟩, fun z => by rw [pl] at z; cases z⟩
      | @lesser x l xs ts s hx sl hl hn hxs =>
        cases ok with
        | lesser hln hok =>
          refine q_when (b := false) (et_eqF (ev_op (ev_var rfl) ev_c (rv_ixT (st_of hx) (i := 0) rfl)) ev_c rfl (str_ne (by decide))) (fun z => nomatch z) (fun _ H1 e1 => ?_)
          refine q_when (b := false) (et_eqF (ev_op (ev_var rfl) ev_c (rv_ixT (st_of (e1 _ _ hx)) (i := 0) rfl)) ev_c rfl (str_ne (by decide))) (fun z => nomatch z) (fun _ H2 e2 => ?_)
          exact two hx hl hn hxs hln hok (Nat.lt_of_succ_lt_succ (by simpa [TM.Tree.depth] using hd)) q (.inl ⟨rfl, rfl⟩) H2 (e1.trans e2)
      | @greater x l xs ts s hx sl hl hn hxs =>
        cases ok with
        | greater hln hok =>
          refine q_when (b := false) (et_eqF (ev_op (ev_var rfl) ev_c (rv_ixT (st_of hx) (i := 0) rfl)) ev_c rfl (str_ne (by decide))) (fun z => nomatch z) (fun _ H1 e1 => ?_)
          refine q_when (b := false) (et_eqF (ev_op (ev_var rfl) ev_c (rv_ixT (st_of (e1 _ _ hx)) (i := 0) rfl)) ev_c rfl (str_ne (by decide))) (fun z => nomatch z) (fun _ H2 e2 => ?_)
          exact two hx hl hn hxs hln hok (Nat.lt_of_succ_lt_succ (by simpa [TM.Tree.depth] using hd)) q (.inr ⟨rfl, rfl⟩) H2 (e1.trans e2)
end
end K12
namespace K12
open PySem PySem.Spec PyProof.Rows L2 LG Evl

def geB (x y : V) : Bool := if x = .str "top" ∨ y = .str "bottom" then true else if x = .str "bottom" ∨ y = .str "top" then false else match x, y with
  | .int i, .int j => decide (j ≤ i)
  | _, _ => false
theorem isValB_cases {v : V} (h : isValB v = true) : (∃ i, v = .int i) ∨ v = .str "bottom" ∨ v = .str "top" := by
  cases v with
  | int i => exact .inl ⟨i, rfl⟩
  | str x =>
    have h2 : ((Str.ofString "bottom" == x) || ((Str.ofString "top" == x) || false)) = true := h
    rcases (Bool.or_eq_true _ _).mp h2 with h3 | h3
    · exact .inr (.inl (by rw [eq_of_beq h3]))
    · rw [Bool.or_false] at h3
      exact .inr (.inr (by rw [eq_of_beq h3]))
  | _ => exact absurd (show false = true from h) Bool.false_ne_true
theorem bt : ¬ (Str.ofString "bottom" = Str.ofString "top") := by decide +kernel
section
variable {P : Program} {w : World} {K : PySem.W.Frag} {mg : Str → Option Value} {base : Heap} {a : At}
theorem ok_is_integer (T : Txt K mg a) : Fn P w K mg base 1 a.is_integer sp_is_integer := by
  refine T.d_is_integer.fn sc_is_integer (fun _ _ _ _ _ _ us hl => match us, hl with | [_], _ => rfl) (fun vs H Q E h => ?_) (fun cdv A outer s H vs Q E hg hr h => ?_)
  · obtain ⟨_, _, rfl, _⟩ := h
    rfl
  · obtain ⟨v, t, rfl, hk, q⟩ := h
    refine ⟨_, (pss_one (ps_ret (pe_and (pe_callB call_isi (by rfl) T.z_isinstance (by decide +kernel) (pa_cons (pv 0) (pa_cons (pe_ty "int" (by rfl) T.z_int (by decide +kernel)) pa_nil)))
      (pe_one (pe_not (pe_callB call_isi (by rfl) T.z_isinstance (by decide +kernel) (pa_cons (pv 0) (pa_cons (pe_ty "bool" (by rfl) T.z_bool (by decide +kernel)) pa_nil)))))))), ?_⟩
    refine ⟨v, rfl, v, .ty "int", _, _, _, rfl, .ty _, hk.ty, kn_int hk, _, rfl, ?_⟩
    cases hk with
    | int i => exact iteT ⟨_, rfl, _, .ty "bool", _, _, _, rfl, .ty _, (Kn.int i).ty, kn_bool (H := H) (.int i), _, rfl, q⟩
    | bl b => exact iteT ⟨_, rfl, _, .ty "bool", _, _, _, rfl, .ty _, (Kn.bl b).ty, kn_bool (H := H) (.bl b), _, rfl, q⟩
    | _ => exact iteF q
theorem ok_is_value (T : Txt K mg a) : Fn P w K mg base 2 a.is_value sp_is_value := by
  have G_is_integer : Fn P w K mg base 1 a.is_integer sp_is_integer := ok_is_integer T
  have G_is_end : Fn P w K mg base 1 a.is_end sp_is_end := ok_is_end T
  refine T.d_is_value.fn sc_is_value (fun _ _ _ _ _ _ us hl => match us, hl with | [_], _ => rfl) (fun vs H Q E h => ?_) (fun cdv A outer s H vs Q E hg hr h => ?_)
  · obtain ⟨_, _, rfl, _⟩ := h
    rfl
  · obtain ⟨v, t, rfl, hk, q⟩ := h
    refine ⟨_, (pss_one (ps_ret (pe_or (pe_fn G_is_integer hg (hr.mono (by decide)) T.d_is_integer.kp T.d_is_integer.m (by rfl) passL (pa_cons (pv 0) pa_nil)) (pe_one (pe_fn G_is_end hg (hr.mono (by decide)) T.d_is_end.kp T.d_is_end.m (by rfl) passL (pa_cons (pv 0) pa_nil)))))), ?_⟩
    refine ⟨v, rfl, v, t, rfl, hk, _, rfl, ?_⟩
    cases e : isIntB v with
    | true =>
      refine iteT ?_
      have e2 : isValB v = true := by unfold isValB; rw [e]; rfl
      rw [e2] at q
      exact q
    | false =>
      refine iteF ⟨v, rfl, v, t, rfl, hk, ?_⟩
      have e2 : isValB v = isEndS v := by unfold isValB; rw [e]; rfl
      rw [e2] at q
      exact q
/-! ### is_not_less, the least and the greatest -/
def sp_is_not_less : Sp := fun vs H Q _ => ∃ x y, vs = [x, y] ∧ isValB x = true ∧ isValB y = true ∧ Q (.bl (geB x y)) H
theorem scal_str {x : V} {z : Str} (h : isValB x = true) : scal x (.str z) = true := by
  rcases isValB_cases h with ⟨i, rfl⟩ | rfl | rfl <;> rfl
theorem ok_is_not_less (T : Txt K mg a) : Fn P w K mg base 1 a.is_not_less sp_is_not_less := by
  refine T.d_is_not_less.fn sc_is_not_less (fun _ _ _ _ _ _ us hl => match us, hl with | [_, _], _ => rfl) (fun vs H Q E h => ?_) (fun cdv A outer s H vs Q E hg hr h => ?_)
  · obtain ⟨_, _, rfl, _⟩ := h
    rfl
  · obtain ⟨x, y, rfl, hx, hy, q⟩ := h
    refine ⟨_, (pss_cons (ps_if (PW.pt (pw_or (pt_cmpR op_eq (pv 0) (pe_glob (v := .str "top") rfl T.v_TOP ⟨_, rfl⟩) (nomark _)) (pw_or1 (pt_cmpR op_eq (pv 1) (pe_glob (v := .str "bottom") rfl T.v_BOTTOM ⟨_, rfl⟩) (nomark _))))) (pss_one (ps_ret pe_bl)) pss_nil)
      (pss_cons (ps_if (PW.pt (pw_or (pt_cmpR op_eq (pv 0) (pe_glob (v := .str "bottom") rfl T.v_BOTTOM ⟨_, rfl⟩) (nomark _)) (pw_or1 (pt_cmpR op_eq (pv 1) (pe_glob (v := .str "top") rfl T.v_TOP ⟨_, rfl⟩) (nomark _))))) (pss_one (ps_ret pe_bl)) pss_nil)
      (pss_one (ps_ret (pe_cmpR op_ge (pv 0) (pv 1) (nomark _)))))), ?_⟩
    have fin : ∀ b, geB x y = b → Q (.bl b) H := fun b e => e ▸ q
    refine ⟨x, rfl, scal_str hx, _, rfl, ?_⟩
    by_cases h1 : x = .str "top"
    · rw [decide_eq_true h1]
      exact iteT (iteT (fin true (if_pos (.inl h1))))
    · rw [decide_eq_false h1]
      refine iteF ⟨y, rfl, scal_str hy, _, rfl, ?_⟩
      by_cases h2 : y = .str "bottom"
      · rw [decide_eq_true h2]
        exact iteT (fin true (if_pos (.inr h2)))
      · rw [decide_eq_false h2]
        have n1 : ¬ (x = .str "top" ∨ y = .str "bottom") := fun z => z.elim h1 h2
        refine iteF ⟨x, rfl, scal_str hx, _, rfl, ?_⟩
        by_cases h3 : x = .str "bottom"
        · rw [decide_eq_true h3]
          exact iteT (iteT (fin false ((if_neg n1).trans (if_pos (.inl h3)))))
        · rw [decide_eq_false h3]
          refine iteF ⟨y, rfl, scal_str hy, _, rfl, ?_⟩
          by_cases h4 : y = .str "top"
          · rw [decide_eq_true h4]
            exact iteT (fin false ((if_neg n1).trans (if_pos (.inr h4))))
          · rw [decide_eq_false h4]
            have n2 : ¬ (x = .str "bottom" ∨ y = .str "top") := fun z => z.elim h3 h4
            rcases isValB_cases hx with ⟨i, rfl⟩ | z | z
            · rcases isValB_cases hy with ⟨j, rfl⟩ | z | z
              · exact iteF ⟨_, rfl, _, rfl, i, j, rfl, rfl, fin _ ((if_neg n1).trans (if_neg n2))⟩
              · exact absurd z h2
              · exact absurd z h4
            · exact absurd z h3
            · exact absurd z h1
def leastV (xs : List V) : V := xs.foldl (fun f v => if geB f v = true then v else f) (.str "top")
def greatestV (xs : List V) : V := xs.foldl (fun f v => if geB v f = true then v else f) (.str "bottom")
def sp_least_of (K : PySem.W.Frag) : Sp := fun vs H Q _ => ∃ p xs, vs = [.ref p] ∧ SqL K H p xs ∧ (∀ x ∈ xs, isValB x = true) ∧ Q (leastV xs) H
def sp_greatest_of (K : PySem.W.Frag) : Sp := fun vs H Q _ => ∃ p xs, vs = [.ref p] ∧ SqL K H p xs ∧ (∀ x ∈ xs, isValB x = true) ∧ Q (greatestV xs) H
theorem fold_val {f : V → V → Bool} : ∀ (xs : List V) (v : V), isValB v = true → (∀ x ∈ xs, isValB x = true) → isValB (xs.foldl (fun g v => if f g v = true then v else g) v) = true
  | [], _, h, _ => h
  | x :: xs, v, h, hx => by
    rw [List.foldl_cons]
    refine fold_val xs _ ?_ fun y hy => hx y (List.mem_cons_of_mem _ hy)
    by_cases e : f v x = true
    · rw [if_pos e]
      exact hx x List.mem_cons_self
    · rw [if_neg e]
      exact h
theorem take_fold {f : V → V → Bool} {xs : List V} {x : V} {i : Nat} {v : V} (h : xs[i]? = some x) : (xs.take (i + 1)).foldl (fun g v => if f g v = true then v else g) v = (if f ((xs.take i).foldl (fun g v => if f g v = true then v else g) v) x = true then x else (xs.take i).foldl (fun g v => if f g v = true then v else g) v) := by
  rw [List.take_add_one, h, List.foldl_append]
  rfl
theorem ok_least_of (T : Txt K mg a) : Fn P w K mg base 2 a.least_of (sp_least_of K) := by
  have G_is_not_less : Fn P w K mg base 1 a.is_not_less sp_is_not_less := ok_is_not_less T
  refine T.d_least_of.fn sc_least_of (fun _ _ _ _ _ _ us hl => match us, hl with | [_], _ => rfl) (fun vs H Q E h => ?_) (fun cdv A outer s H vs Q E hg hr h => ?_)
  · obtain ⟨_, _, rfl, _⟩ := h
    rfl
  · obtain ⟨p, xs, rfl, hs, hx, q⟩ := h
    have nd := sc_least_of.nd
    refine ⟨_, (pss_cons (ps_set (i := 1) nd rfl (.inl rfl) (pe_glob (v := .str "top") rfl T.v_TOP ⟨_, rfl⟩))
      (pss_cons (ps_for PassesOwn.leaving rfl (pi_list (pv 0)) (pg_name (i := 2) nd rfl (.inl rfl))
        (pss_one (ps_if (pt_val (pe_fn G_is_not_less hg (hr.mono (by decide)) T.d_is_not_less.kp T.d_is_not_less.m (by rfl) passL (pa_cons (pv 1) (pa_cons (pv 2) pa_nil)))) (pss_one (ps_set (i := 1) nd rfl (.inl rfl) (pv 2))) pss_nil)))
      (pss_one (ps_ret (pv 1))))), ?_⟩
    refine ⟨.ref p, rfl, p, rfl, ⟨xs, hs⟩, for_list (K := K) (a := p) (xs := xs) (fun i σ H2 => H2 = H ∧ ∃ u, σ = [some (.ref p), some (leastV (xs.take i)), u]) ⟨rfl, none, rfl⟩ (fun i σ H2 _ h => h.1 ▸ hs) ?_ ?_⟩
    · rintro i y σ H2 hi ⟨rfl, u, rfl⟩
      have hv : isValB (leastV (xs.take i)) = true := fold_val _ _ rfl fun z hz => hx z (List.mem_of_mem_take hz)
      refine ⟨_, rfl, y, rfl, _, _, rfl, hv, hx y (List.mem_of_getElem? hi), _, rfl, ?_⟩
      have e0 : leastV (xs.take (i + 1)) = _ := take_fold hi
      cases e : geB (leastV (xs.take i)) y with
      | true =>
        refine iteT ⟨_, rfl, rfl, some y, ?_⟩
        rw [e0]
        exact congrArg (fun z => [some (V.ref p), some z, some y]) (if_pos e).symm
      | false =>
        refine iteF ⟨rfl, some y, ?_⟩
        rw [e0]
        exact congrArg (fun z => [some (V.ref p), some z, some y]) (if_neg (by rw [show geB ((xs.take i).foldl (fun g v => if geB g v = true then v else g) (.str "top")) y = false from e]; exact Bool.false_ne_true)).symm
    · rintro σ H2 ⟨rfl, u, rfl⟩
      rw [List.take_length]
      exact ⟨_, rfl, q⟩
theorem ok_greatest_of (T : Txt K mg a) : Fn P w K mg base 2 a.greatest_of (sp_greatest_of K) := by
  have G_is_not_less : Fn P w K mg base 1 a.is_not_less sp_is_not_less := ok_is_not_less T
  refine T.d_greatest_of.fn sc_greatest_of (fun _ _ _ _ _ _ us hl => match us, hl with | [_], _ => rfl) (fun vs H Q E h => ?_) (fun cdv A outer s H vs Q E hg hr h => ?_)
  · obtain ⟨_, _, rfl, _⟩ := h
    rfl
  · obtain ⟨p, xs, rfl, hs, hx, q⟩ := h
    have nd := sc_greatest_of.nd
    refine ⟨_, (pss_cons (ps_set (i := 1) nd rfl (.inl rfl) (pe_glob (v := .str "bottom") rfl T.v_BOTTOM ⟨_, rfl⟩))
      (pss_cons (ps_for PassesOwn.leaving rfl (pi_list (pv 0)) (pg_name (i := 2) nd rfl (.inl rfl))
        (pss_one (ps_if (pt_val (pe_fn G_is_not_less hg (hr.mono (by decide)) T.d_is_not_less.kp T.d_is_not_less.m (by rfl) passL (pa_cons (pv 2) (pa_cons (pv 1) pa_nil)))) (pss_one (ps_set (i := 1) nd rfl (.inl rfl) (pv 2))) pss_nil)))
      (pss_one (ps_ret (pv 1))))), ?_⟩
    refine ⟨.ref p, rfl, p, rfl, ⟨xs, hs⟩, for_list (K := K) (a := p) (xs := xs) (fun i σ H2 => H2 = H ∧ ∃ u, σ = [some (.ref p), some (greatestV (xs.take i)), u]) ⟨rfl, none, rfl⟩ (fun i σ H2 _ h => h.1 ▸ hs) ?_ ?_⟩
    · rintro i y σ H2 hi ⟨rfl, u, rfl⟩
      have hv : isValB (greatestV (xs.take i)) = true := fold_val (f := fun g v => geB v g) _ _ rfl fun z hz => hx z (List.mem_of_mem_take hz)
      refine ⟨y, rfl, _, rfl, _, _, rfl, hx y (List.mem_of_getElem? hi), hv, _, rfl, ?_⟩
      have e0 : greatestV (xs.take (i + 1)) = _ := take_fold (f := fun g v => geB v g) hi
      cases e : geB y (greatestV (xs.take i)) with
      | true =>
        refine iteT ⟨_, rfl, rfl, some y, ?_⟩
        rw [e0]
        exact congrArg (fun z => [some (V.ref p), some z, some y]) (if_pos e).symm
      | false =>
        refine iteF ⟨rfl, some y, ?_⟩
        rw [e0]
        exact congrArg (fun z => [some (V.ref p), some z, some y]) (if_neg (by rw [show geB y ((xs.take i).foldl (fun g v => if geB v g = true then v else g) (.str "bottom")) = false from e]; exact Bool.false_ne_true)).symm
    · rintro σ H2 ⟨rfl, u, rfl⟩
      rw [List.take_length]
      exact ⟨_, rfl, q⟩
end
end K12
namespace K12
open PySem PySem.Spec PyProof.Rows L2 LG Evl
/-! ### small data -/
def dV : V → PyData
  | .int i => .int i
  | .str x => .str x
  | .bl b => .bool b
  | _ => .none
def flat1 : V → Bool
  | .int _ | .str _ | .bl _ | .non => true
  | _ => false
theorem dp_flat {K : PySem.W.Frag} {H : Hp} {v : V} (h : flat1 v = true) : Dp K H v (dV v) := by
  cases v with
  | int i => exact .int i
  | str x => exact .str x
  | bl b => exact .bl b
  | non => exact .non
  | _ => exact absurd (show false = true from h) Bool.false_ne_true
theorem dpAll_flat {K : PySem.W.Frag} {H : Hp} : ∀ {xs : List V}, (∀ x ∈ xs, flat1 x = true) → DpAll K H xs (xs.map dV)
  | [], _ => .nil
  | x :: xs, h => .cons (dp_flat (h x List.mem_cons_self)) (dpAll_flat fun y hy => h y (List.mem_cons_of_mem _ hy))
theorem dq_flat {K : PySem.W.Frag} {H : Hp} {v : V} (h : flat1 v = true) : Dq K H v (dV v) := by
  cases v with
  | int i => exact .int i
  | str x => exact .str x
  | bl b => exact .bl b
  | non => exact .non
  | _ => exact absurd (show false = true from h) Bool.false_ne_true
theorem dqAll_flat {K : PySem.W.Frag} {H : Hp} : ∀ {xs : List V}, (∀ x ∈ xs, flat1 x = true) → DqAll K H xs (xs.map dV)
  | [], _ => .nil
  | x :: xs, h => .cons (dq_flat (h x List.mem_cons_self)) (dqAll_flat fun y hy => h y (List.mem_cons_of_mem _ hy))
/-- data that is not deep and not long -/
def Sm (k n : Nat) (d : PyData) : Prop := d.leavesShort 72 = true ∧ d.showable = true ∧ d.depth ≤ k ∧ d.weight ≤ n
theorem Sm.mono {k n j m : Nat} {d : PyData} (h : Sm k n d) (h1 : k ≤ j) (h2 : n ≤ m) : Sm j m d := ⟨h.1, h.2.1, Nat.le_trans h.2.2.1 h1, Nat.le_trans h.2.2.2 h2⟩
theorem Sm.shows {k n : Nat} {d : PyData} (h : Sm k n d) (h1 : k ≤ 60) (h2 : n ≤ 131072) : Shows d := by
  obtain ⟨a, b, c, e⟩ := h
  refine ⟨b, Nat.le_trans c h1, ?_⟩
  have z := PyData.shown_le 72 (by decide) d a
  rw [sizeLine_eq]
  have z2 : (72 + 2) * d.weight ≤ 74 * 131072 := Nat.mul_le_mul (by omega) (by omega)
  omega
theorem sm_int {i : Int} (h : i.natAbs < 10 ^ 70) : Sm 0 240 (.int i) := by
  have hl : i.natAbs.log2 < 233 := by
    by_cases z : i.natAbs = 0
    · rw [z]
      decide
    · exact (Nat.log2_lt z).mpr (Nat.lt_of_lt_of_le h (by decide))
  refine ⟨?_, ?_, ?_, ?_⟩
  · have e := int_text_length_le10 (k := 70) (by decide) h
    have e2 : (PyData.shown (.int i)).length ≤ 72 := by
      show (Str.ofString (toString i)).length ≤ 72
      rw [PySem.ofString_length]
      omega
    simp only [PyData.leavesShort, decide_eq_true_eq]
    exact e2
  · simp only [PyData.showable, decide_eq_true_eq]
    omega
  · simp only [PyData.depth]
    exact Nat.le_refl 0
  · simp only [PyData.weight]
    split <;> omega
theorem sm_bool {b : Bool} : Sm 0 240 (.bool b) := ⟨rfl, rfl, by simp only [PyData.depth]; exact Nat.le_refl 0, by simp only [PyData.weight]; omega⟩
theorem sm_none : Sm 0 240 .none := ⟨rfl, rfl, by simp only [PyData.depth]; exact Nat.le_refl 0, by simp only [PyData.weight]; omega⟩
theorem sm_str {x : Str} (h : (x.cps.toList.all fun c => decide (c < 16 ^ 8)) = true) (hl : x.cps.size ≤ 240) : Sm 0 240 (.str x) := ⟨by simp only [PyData.leavesShort]; exact h, rfl, by simp only [PyData.depth]; exact Nat.le_refl 0, by simp only [PyData.weight]; exact hl⟩
theorem sm_all {k n : Nat} : ∀ {ds : List PyData}, (∀ d ∈ ds, Sm k n d) → PyData.leavesShortAll 72 ds = true ∧ PyData.showableAll ds = true ∧ PyData.depthAll ds ≤ k ∧ PyData.weightAll ds ≤ ds.length * (n + 1)
  | [], _ => ⟨rfl, rfl, by simp only [PyData.depthAll]; omega, by simp only [PyData.weightAll]; omega⟩
  | d :: ds, h => by
    obtain ⟨a1, a2, a3, a4⟩ := h d List.mem_cons_self
    obtain ⟨b1, b2, b3, b4⟩ := sm_all fun y hy => h y (List.mem_cons_of_mem _ hy)
    refine ⟨?_, ?_, ?_, ?_⟩
    · simp only [PyData.leavesShortAll, a1, b1, Bool.and_self]
    · simp only [PyData.showableAll, a2, b2, Bool.and_self]
    · simp only [PyData.depthAll]
      omega
    · simp only [PyData.weightAll, List.length_cons, Nat.add_mul]
      omega
theorem sm_list {k n m : Nat} {ds : List PyData} (h : ∀ d ∈ ds, Sm k n d) (hl : ds.length ≤ m) : Sm (k + 1) (m * (n + 1)) (.list ds) := by
  obtain ⟨b1, b2, b3, b4⟩ := sm_all h
  refine ⟨by simp only [PyData.leavesShort]; exact b1, by simp only [PyData.showable]; exact b2, by simp only [PyData.depth]; omega, ?_⟩
  simp only [PyData.weight]
  exact Nat.le_trans b4 (Nat.mul_le_mul_right _ hl)
theorem sm_tuple {k n m : Nat} {ds : List PyData} (h : ∀ d ∈ ds, Sm k n d) (hl : ds.length ≤ m) : Sm (k + 1) (m * (n + 1)) (.tuple ds) := by
  obtain ⟨b1, b2, b3, b4⟩ := sm_all h
  refine ⟨by simp only [PyData.leavesShort]; exact b1, by simp only [PyData.showable]; exact b2, by simp only [PyData.depth]; omega, ?_⟩
  simp only [PyData.weight]
  exact Nat.le_trans b4 (Nat.mul_le_mul_right _ hl)
/-- what the law draws: an end, or an int that is not large -/
def InV (v : V) : Prop := v = .str "bottom" ∨ v = .str "top" ∨ ∃ i : Int, v = .int i ∧ i.natAbs < 10 ^ 60
theorem InV.val {v : V} (h : InV v) : isValB v = true := by
  rcases h with rfl | rfl | ⟨i, rfl, _⟩ <;> rfl
theorem InV.flat {v : V} (h : InV v) : flat1 v = true := by
  rcases h with rfl | rfl | ⟨i, rfl, _⟩ <;> rfl
theorem InV.sm {v : V} (h : InV v) : Sm 0 240 (dV v) := by
  rcases h with rfl | rfl | ⟨i, rfl, hi⟩
  · exact sm_str (by decide +kernel) (by decide +kernel)
  · exact sm_str (by decide +kernel) (by decide +kernel)
  · exact sm_int (Nat.lt_of_lt_of_le hi (by decide))
theorem InV.kn {H : Hp} {v : V} (h : InV v) : ∃ t, Kn H v t := by
  rcases h with rfl | rfl | ⟨i, rfl, hi⟩
  · exact ⟨_, .str _⟩
  · exact ⟨_, .str _⟩
  · exact ⟨_, .int _⟩
theorem kn_val {H : Hp} {v : V} (h : isValB v = true) : ∃ t, Kn H v t := by
  rcases isValB_cases h with ⟨i, rfl⟩ | rfl | rfl
  · exact ⟨_, .int _⟩
  · exact ⟨_, .str _⟩
  · exact ⟨_, .str _⟩
/-! ### the number of a value, the value of a number -/
def big : Int := 10 ^ 64
def num (v : V) : Int := match v with | .int i => i | .str x => if x = "bottom" then - big else big | _ => 0
def shV (n : Int) : V := if n = -big then .str "bottom" else if n = big then .str "top" else .int n
section
variable {P : Program} {w : World} {K : PySem.W.Frag} {mg : Str → Option Value} {base : Heap} {a : At}
def sp__law_number : Sp := fun vs H Q _ => ∃ v, vs = [v] ∧ isValB v = true ∧ ∀ H', Ex H H' → Q (.int (num v)) H'
theorem ok__law_number (T : Txt K mg a) : Fn P w K mg base 1 a._law_number sp__law_number := by
  refine T.d__law_number.fn sc__law_number (fun _ _ _ _ _ _ us hl => match us, hl with | [_], _ => rfl) (fun vs H Q E h => ?_) (fun cdv A outer s H vs Q E hg hr h => ?_)
  · obtain ⟨_, rfl, _⟩ := h
    rfl
  · obtain ⟨v, rfl, hv, q⟩ := h
    have hu := hr.units
    have hu1 : (A.deeper _).units + 1 < cLine := Nat.lt_of_le_of_lt (Nat.add_le_add_left (by decide) _) hu
    refine ⟨_, (pss_one (ps_ret (pe_dget2 hu1 (pe_disp (pps_cons pe_str (pe_un un_neg (pe_op op_pow pe_int pe_int)) (pps_cons pe_str (pe_op op_pow pe_int pe_int) pps_nil)) (by rfl) (by rfl) (fun z => by cases z) (by decide)) (pv 0) (pv 0) ⟨rfl, rfl, rfl, rfl⟩))), ?_⟩
    refine fun p hp => ⟨10, 64, rfl, rfl, ⟨by decide, by decide, by decide⟩, _, rfl, 10, 64, rfl, rfl, ⟨by decide, by decide, by decide⟩, upd_same, [(.inr "bottom", .int (-big)), (.inr "top", .int big)], rfl, by decide, p, rfl, .inl ⟨_, .inl upd_same⟩, v, rfl, v, rfl, ?_⟩
    have up : Ex H (upd (upd H p (.dK [])) p (.dK (mergeK [] [(.inr "bottom", .int (-big)), (.inr "top", .int big)]))) := fun b o hb => by
      rw [upd_ne (ne_of_none hb hp), upd_ne (ne_of_none hb hp)]
      exact hb
    rcases isValB_cases hv with ⟨i, rfl⟩ | rfl | rfl
    · exact ⟨none, .inl ⟨_, .inl i, .inl upd_same, rfl, rfl⟩, q _ up⟩
    · exact ⟨some (.int (-big)), .inl ⟨_, .inr "bottom", .inl upd_same, rfl, by decide +kernel⟩, q _ up⟩
    · exact ⟨some (.int big), .inl ⟨_, .inr "top", .inl upd_same, rfl, by decide +kernel⟩, q _ up⟩
def sp__law_shown : Sp := fun vs H Q _ => ∃ n : Int, vs = [.int n] ∧ ∀ H', Ex H H' → Q (shV n) H'
theorem ok__law_shown (T : Txt K mg a) : Fn P w K mg base 1 a._law_shown sp__law_shown := by
  refine T.d__law_shown.fn sc__law_shown (fun _ _ _ _ _ _ us hl => match us, hl with | [_], _ => rfl) (fun vs H Q E h => ?_) (fun cdv A outer s H vs Q E hg hr h => ?_)
  · obtain ⟨_, rfl, _⟩ := h
    rfl
  · obtain ⟨n, rfl, q⟩ := h
    have hu := hr.units
    have hu1 : (A.deeper _).units + 1 < cLine := Nat.lt_of_le_of_lt (Nat.add_le_add_left (by decide) _) hu
    refine ⟨_, (pss_one (ps_ret (pe_dget2 hu1 (pe_disp (pps_cons (pe_un un_neg (pe_op op_pow pe_int pe_int)) pe_str (pps_cons (pe_op op_pow pe_int pe_int) pe_str pps_nil)) (by rfl) (by rfl) (fun z => by cases z) (by decide)) (pv 0) (pv 0) ⟨rfl, rfl, rfl, rfl⟩))), ?_⟩
    refine fun p hp => ⟨10, 64, rfl, rfl, ⟨by decide, by decide, by decide⟩, _, rfl, 10, 64, rfl, rfl, ⟨by decide, by decide, by decide⟩, upd_same, [(.inl (-big), .str "bottom"), (.inl big, .str "top")], rfl, by decide, p, rfl, .inl ⟨_, .inl upd_same⟩, .int n, rfl, .int n, rfl, ?_⟩
    have up : Ex H (upd (upd H p (.dK [])) p (.dK (mergeK [] [(.inl (-big), .str "bottom"), (.inl big, .str "top")]))) := fun b o hb => by
      rw [upd_ne (ne_of_none hb hp), upd_ne (ne_of_none hb hp)]
      exact hb
    have hm : mergeK [] [(.inl (-big), .str "bottom"), (.inl big, .str "top")] = [((.inl (-big) : Key), V.str "bottom"), (.inl big, .str "top")] := by decide +kernel
    refine ⟨valV (mergeK [] [(.inl (-big), .str "bottom"), (.inl big, .str "top")]) (.inl n), .inl ⟨_, .inl n, .inl upd_same, rfl, rfl⟩, ?_⟩
    have e : (valV (mergeK [] [(.inl (-big), .str "bottom"), (.inl big, .str "top")]) (.inl n)).getD (.int n) = shV n := by
      rw [hm]
      unfold valV shV
      by_cases h1 : n = -big
      · subst h1
        simp
      · by_cases h2 : n = big
        · subst h2
          have h3 : ¬ (-big = big) := by decide
          simp [List.find?, h1, h3]
        · simp [List.find?, h1, h2, Ne.symm h1, Ne.symm h2]
    rw [e]
    exact q _ up
end
end K12
namespace K12
open PySem PySem.Spec PyProof.Rows L2 LG Evl
section
variable {X : Cx}
/-- list + list: the new list is not the table of modules -/
def rCatB : R2 := fun x y H Q => ∃ l b xs zs, x = .ref l ∧ y = .ref b ∧ H l = some (.lst xs) ∧ H b = some (.lst zs) ∧ xs.length + zs.length ≤ sizeLine ∧ ∀ p, H p = none → p ≠ sysModules → Q (.ref p) (upd H p (.lst (xs ++ zs)))
theorem op_catB : OpR X (binaryOp .Add) rCatB := by
  intro pins s σ H x y v u Q I rx ry h
  obtain ⟨l, b, xs, zs, rfl, rfl, hH, hB, hz, q⟩ := h
  cases rx
  cases ry
  obtain ⟨z, its, n, r, hl, e⟩ := I.lstM hH
  obtain ⟨z2, its2, n2, r2, hl2, e2⟩ := I.lstM hB
  refine PySem.P.add_list e e2 ?_ (by rw [List.size_toArray, List.size_toArray]; omega)
  have ea : its.toArray ++ its2.toArray = (its ++ its2).toArray := by simp
  rw [ea]
  exact ⟨.ref _, _, I.lnew (t' := s.toks) (r.append r2) (by rw [List.length_append]; omega), rfl, q _ I.fresh (Nat.ne_of_gt (big_of I))⟩
end
theorem shaped_flat {xs : List V} (h : ∀ x ∈ xs, InV x ∨ ∃ i, x = .int i) : SeqAt.shaped (.list (xs.map dV)) = true := by
  have key : ∀ ys : List V, (∀ x ∈ ys, InV x ∨ ∃ i, x = .int i) → PyData.canLayAll0 (ys.map dV) = true ∧ PyData.depthAll (ys.map dV) = 0 := by
    intro ys
    induction ys with
    | nil => exact fun _ => ⟨rfl, rfl⟩
    | cons y ys ih =>
      intro h
      obtain ⟨a, b⟩ := ih fun z hz => h z (List.mem_cons_of_mem _ hz)
      have c : PyData.canLay0 (dV y) = true ∧ PyData.depth (dV y) = 0 := by
        rcases h y List.mem_cons_self with (rfl | rfl | ⟨i, rfl, _⟩) | ⟨i, rfl⟩
        · exact ⟨by decide +kernel, rfl⟩
        · exact ⟨by decide +kernel, rfl⟩
        · exact ⟨rfl, rfl⟩
        · exact ⟨rfl, rfl⟩
      rw [List.map_cons]
      refine ⟨?_, ?_⟩
      · simp only [PyData.canLayAll0, c.1, a, Bool.and_self]
      · simp only [PyData.depthAll, c.2, b, Nat.max_self]
  obtain ⟨a, b⟩ := key xs h
  unfold SeqAt.shaped
  simp only [PyData.canLay0, PyData.depth, a, b, Bool.true_and]
  decide
theorem eqv_nil (ds : List PyData) : PyData.eqv (.list ds) (.list []) = ds.isEmpty := by cases ds <;> simp [PyData.eqv, PyData.eqvAll]
section
variable {P : Program} {w : World} {K : PySem.W.Frag} {mg : Str → Option Value} {base : Heap} {a : At}
def sp__law_thing : Sp := fun vs H Q _ => ∃ (p l : Addr) (ns : List Int), vs = [.ref p, .ref l] ∧ Po p H ∧ H l = some (.lst (ns.map V.int)) ∧ l ≠ p ∧ ns.length ≤ 100 ∧ (∀ n ∈ ns, n.natAbs < 10 ^ 60) ∧ ∀ v H', InV v → Px p H H' → Q v H'
theorem ok__law_thing (T : Txt K mg a) : Fn P w K mg base 3 a._law_thing sp__law_thing := by
  have G__law_draw : Fn P w K mg base 1 a._law_draw sp__law_draw := ok__law_draw T
  have G__law_pick : Fn P w K mg base 2 a._law_pick sp__law_pick := ok__law_pick T
  refine T.d__law_thing.fn sc__law_thing (fun _ _ _ _ _ _ us hl => match us, hl with | [_, _], _ => rfl) (fun vs H Q E h => ?_) (fun cdv A outer s H vs Q E hg hr h => ?_)
  · obtain ⟨_, _, _, rfl, _⟩ := h
    rfl
  · obtain ⟨p, l, ns, rfl, hp, hl, hlp, hn, hb, q⟩ := h
    have nd := sc__law_thing.nd
    have hu : (A.deeper _).units + 64 < cLine := hr.units
    refine ⟨_, (pss_cons (ps_par (i := 2) (j := 3) rfl nd rfl rfl (by decide) rfl rfl (pa_cons (pe_fn G__law_draw hg (hr.mono (by decide)) T.d__law_draw.kp T.d__law_draw.m (by rfl) passL (pa_cons (pv 0) (pa_cons pe_int pa_nil))) (pa_cons (pe_op op_sub (pe_op op_pow pe_int pe_int) pe_int) pa_nil)) rfl)
    (pss_cons (ps_if (pt_cmpR op_lt (pv 2) pe_int (nomark _)) (pss_one (ps_ret (pe_fn G__law_pick hg (hr.mono (by decide)) T.d__law_pick.kp T.d__law_pick.m (by rfl) passL (pa_cons (pv 0) (pa_cons (pe_lst (pa_cons pe_str (pa_cons pe_str pa_nil))) pa_nil))))) pss_nil)
    (pss_cut (ps_if (PW.pt (pw_and (pt_cmpR op_lt (pv 2) pe_int (nomark _)) (pw_and1 (pt_cmpR (op_neD hu) (pv 1) (pe_lst pa_nil) (nomark _))))) (pss_cons (ps_set (i := 4) nd rfl (.inl rfl) (pe_op op_add (pe_fn G__law_pick hg (hr.mono (by decide)) T.d__law_pick.kp T.d__law_pick.m (by rfl) passL (pa_cons (pv 0) (pa_cons (pv 1) pa_nil))) (pe_fn G__law_pick hg (hr.mono (by decide)) T.d__law_pick.kp T.d__law_pick.m (by rfl) passL (pa_cons (pv 0) (pa_cons (pe_lst (pa_cons pe_int (pa_cons pe_int (pa_cons pe_int (pa_cons (pe_un un_neg pe_int) pa_nil))))) pa_nil)))))
      (pss_one (ps_ret (pe_callB (call_max2 rfl) (by rfl) T.z_max (by decide +kernel) (pa_cons (pe_op op_sub pe_int (pv 3)) (pa_cons (pe_callB (call_min2 rfl) (by rfl) T.z_min (by decide +kernel) (pa_cons (pv 3) (pa_cons (pv 4) pa_nil))) pa_nil)))))) pss_nil)
    (pss_cons (ps_if (pt_cmpR op_eq (pv 2) pe_int (nomark _)) (pss_one (ps_ret (pe_fn G__law_pick hg (hr.mono (by decide)) T.d__law_pick.kp T.d__law_pick.m (by rfl) passL (pa_cons (pv 0) (pa_cons (pe_lst (pa_cons (pv 3) (pa_cons (pe_op op_sub pe_int (pv 3)) (pa_cons pe_int (pa_cons pe_int (pa_cons (pe_un un_neg pe_int) pa_nil)))))) pa_nil))))) pss_nil)
    (pss_cons (ps_if (pt_cmpR op_eq (pv 2) pe_int (nomark _)) (pss_one (ps_ret (pe_op op_add (pe_op op_mul (pe_op op_sub (pe_fn G__law_draw hg (hr.mono (by decide)) T.d__law_draw.kp T.d__law_draw.m (by rfl) passL (pa_cons (pv 0) (pa_cons pe_int pa_nil))) pe_int) (pe_op op_pow pe_int pe_int)) (pe_fn G__law_draw hg (hr.mono (by decide)) T.d__law_draw.kp T.d__law_draw.m (by rfl) passL (pa_cons (pv 0) (pa_cons pe_int pa_nil)))))) pss_nil)
    (pss_one (ps_ret (pe_op op_sub (pe_fn G__law_draw hg (hr.mono (by decide)) T.d__law_draw.kp T.d__law_draw.m (by rfl) passL (pa_cons (pv 0) (pa_cons pe_int pa_nil))) pe_int)))))))), ?_⟩
    have e60 : (10 : Int) ^ (60 : Int).toNat = 1000000000000000000000000000000000000000000000000000000000000 := by decide
    have n60 : (10 : Nat) ^ 60 = 1000000000000000000000000000000000000000000000000000000000000 := by decide
    refine ⟨.ref p, rfl, p, 10, rfl, hp, by decide, by decide, fun way H1 w0 w1 x1 => ⟨10, 60, rfl, rfl, ⟨by decide, by decide, by decide⟩, _, 1, rfl, rfl, _, _, rfl, .int way, rfl, way, 2, rfl, rfl, _, rfl, ?_⟩⟩
    have hl1 : H1 l = some (.lst (ns.map V.int)) := x1.1 l _ hlp hl
    by_cases c1 : way < 2
    · rw [decide_eq_true c1]
      refine iteT ⟨.ref p, rfl, (by decide : 2 ≤ sizeLine), fun z hz => ?_⟩
      refine ⟨p, z, _, rfl, x1.2.up (Ex.new hz), upd_same, x1.ne hz, by decide, by decide, fun x hx H2 x2 => q x H2 ?_ ((x1.ex (Ex.new hz)).trans x2)⟩
      rcases List.mem_cons.mp hx with rfl | hx
      · exact .inl rfl
      · rw [List.mem_singleton.mp hx]
        exact .inr (.inl rfl)
    · rw [decide_eq_false c1]
      refine iteF ⟨fun σ' H' => σ' = [some (.ref p), some (.ref l), some (.int way), some (.int (10 ^ (60 : Int).toNat - 1)), none] ∧ Px p H H', ?_, fun σ' H2 ⟨eσ, x2⟩ => ?_⟩
      · refine ⟨.int way, rfl, way, 5, rfl, rfl, _, rfl, ?_⟩
        by_cases c2 : way < 5
        · rw [decide_eq_true c2]
          refine iteT ⟨.ref l, rfl, (by decide : 0 ≤ sizeLine), fun z hz => ?_⟩
          have hl2 : upd H1 z (.lst []) l = some (.lst (ns.map V.int)) := by
            rw [upd_ne (ne_of_none hl1 hz)]
            exact hl1
          have fl : ∀ x ∈ ns.map V.int, flat1 x = true := fun x hx => by
            obtain ⟨i, _, rfl⟩ := List.mem_map.mp hx
            rfl
          refine ⟨_, .list [], .lst (sq_of hl2) (dpAll_flat fl), .lst (sq_of upd_same) .nil, shaped_flat (fun x hx => ?_), by decide +kernel, ?_⟩
          · obtain ⟨i, _, rfl⟩ := List.mem_map.mp hx
            exact .inr ⟨i, rfl⟩
          · refine ⟨_, rfl, ?_⟩
            rw [eqv_nil]
            by_cases c3 : ns = []
            · subst c3
              exact iteF ⟨rfl, x1.ex (Ex.new hz)⟩
            · have c4 : ((ns.map V.int).map dV).isEmpty = false := by
                cases ns with
                | nil => exact absurd rfl c3
                | cons _ _ => rfl
              rw [c4]
              have x3 : Px p H (upd H1 z (.lst [])) := x1.ex (Ex.new hz)
              refine iteT ⟨.ref p, rfl, .ref l, rfl, p, l, _, rfl, x3.2, hl2, hlp, ?_, by rw [List.length_map]; omega, fun v hv H4 x4 => ?_⟩
              · rw [List.length_map]
                exact List.length_pos_iff.mpr c3
              obtain ⟨i, hi, rfl⟩ := List.mem_map.mp hv
              refine ⟨.ref p, rfl, 1, rfl, (by decide : 4 ≤ sizeLine), fun z2 hz2 => ?_⟩
              refine ⟨p, z2, _, rfl, x4.2.up (Ex.new hz2), upd_same, x4.ne hz2, by decide, by decide, fun x hx H5 x5 => ?_⟩
              obtain ⟨j, rfl⟩ : ∃ j : Int, x = .int j := by
                simp only [List.mem_cons, List.not_mem_nil, or_false] at hx
                rcases hx with rfl | rfl | rfl | rfl <;> exact ⟨_, rfl⟩
              refine ⟨i, j, rfl, rfl, .int (10 ^ (60 : Int).toNat - 1), rfl, 0, _, rfl, rfl, .int (10 ^ (60 : Int).toNat - 1), rfl, .int (i + j), rfl, _, _, rfl, _, _, rfl, q _ _ (.inr (.inr ⟨_, rfl, ?_⟩)) ?_⟩
              · rw [e60, n60]
                split <;> split <;> omega
              · exact ((x3.trans x4).ex (Ex.new hz2)).trans x5
        · rw [decide_eq_false c2]
          exact iteF ⟨rfl, x1⟩
      · subst eσ
        refine ⟨.int way, rfl, rfl, _, rfl, ?_⟩
        by_cases c2 : V.int way = V.int 5
        · rw [decide_eq_true c2]
          refine iteT ⟨.ref p, rfl, .int (10 ^ (60 : Int).toNat - 1), rfl, .int (10 ^ (60 : Int).toNat - 1), rfl, 0, _, rfl, rfl, 1, rfl, (by decide : 5 ≤ sizeLine), fun z hz => ?_⟩
          refine ⟨p, z, _, rfl, x2.2.up (Ex.new hz), upd_same, x2.ne hz, by decide, by decide, fun x hm H3 x3 => q x H3 (.inr (.inr ?_)) ((x2.ex (Ex.new hz)).trans x3)⟩
          simp only [List.mem_cons, List.not_mem_nil, or_false] at hm
          rcases hm with rfl | rfl | rfl | rfl | rfl
          · exact ⟨_, rfl, by decide⟩
          · exact ⟨_, rfl, by decide⟩
          · exact ⟨_, rfl, by decide⟩
          · exact ⟨_, rfl, by decide⟩
          · exact ⟨_, rfl, by decide⟩
        · rw [decide_eq_false c2]
          refine iteF ⟨.int way, rfl, rfl, _, rfl, ?_⟩
          by_cases c3 : V.int way = V.int 6
          · rw [decide_eq_true c3]
            refine iteT ⟨.ref p, rfl, p, 19, rfl, x2.2, by decide, by decide, fun d1 H3 d10 d11 x3 => ⟨d1, 9, rfl, rfl, 10, 50, rfl, rfl, ⟨by decide, by decide, by decide⟩, _, _, rfl, rfl, .inl ⟨by omega, by omega⟩, .ref p, rfl, p, 1000, rfl, x3.2, by decide, by decide, fun d2 H4 d20 d21 x4 => ⟨_, d2, rfl, rfl, q _ _ (.inr (.inr ⟨_, rfl, ?_⟩)) ((x2.trans x3).trans x4)⟩⟩⟩
            have e50 : (10 : Int) ^ (50 : Int).toNat = 100000000000000000000000000000000000000000000000000 := by decide
            rw [e50, n60]
            omega
          · rw [decide_eq_false c3]
            refine iteF ⟨.ref p, rfl, p, 41, rfl, x2.2, by decide, by decide, fun d1 H3 d10 d11 x3 => ⟨d1, 20, rfl, rfl, q _ _ (.inr (.inr ⟨_, rfl, ?_⟩)) (x2.trans x3)⟩⟩
            rw [n60]
            omega
end
end K12
namespace K12
open PySem PySem.Spec PyProof.Rows L2 LG Evl

theorem given_if {xs : List V} {f : V → Bool} {g : V → V} {d : V} : given xs.length (fun i => f (xs.getD i d)) (fun i => g (xs.getD i d)) = (xs.filter f).map g := by
  have key : ∀ n, n ≤ xs.length → given n (fun i => f (xs.getD i d)) (fun i => g (xs.getD i d)) = ((xs.take n).filter f).map g := by
    intro n
    induction n with
    | zero => exact fun _ => by simp [given]
    | succ n ih =>
      intro h
      have h1 : xs[n]? = some (xs.getD n d) := by simp [List.getD_eq_getElem?_getD, List.getElem?_eq_getElem (show n < xs.length from h)]
      rw [List.take_add_one, h1, List.filter_append, List.map_append, ← ih (Nat.le_of_succ_le h)]
      cases e : f (xs.getD n d) with
      | true =>
        rw [given_yes (f := fun i => f (xs.getD i d)) e]
        simp only [Option.toList_some, List.filter_cons, e, if_true, List.filter_nil, List.map_cons, List.map_nil]
      | false =>
        rw [given_no (f := fun i => f (xs.getD i d)) e]
        have e0 : List.filter f (some (xs.getD n d)).toList = [] := by
          show List.filter f [_] = []
          simp only [List.filter_cons, e, Bool.false_eq_true, if_false, List.filter_nil]
        rw [e0, List.map_nil, List.append_nil]
  have z := key xs.length (Nat.le_refl _)
  rw [List.take_length] at z
  exact z
theorem getD_of {xs : List V} {i : Nat} {x : V} (h : xs[i]? = some x) : xs.getD i .non = x := by simp [List.getD_eq_getElem?_getD, h]
/-- the intsOf of a list -/
def intsOf (xs : List V) : List Int := xs.filterMap fun v => match v with | .int i => some i | _ => none
theorem ints_map (xs : List V) : (xs.filter isIntB).map id = (intsOf xs).map V.int := by
  induction xs with
  | nil => rfl
  | cons x xs ih =>
    unfold intsOf at ih ⊢
    cases x <;> simp [List.filter_cons, isIntB, ih] <;> simpa using ih
theorem mem_ints {xs : List V} {n : Int} (h : n ∈ intsOf xs) : V.int n ∈ xs := by
  obtain ⟨v, hv, e⟩ := List.mem_filterMap.mp h
  cases v <;> simp at e
  subst e
  exact hv
theorem ints_len (xs : List V) : (intsOf xs).length ≤ xs.length := List.length_filterMap_le _ _
theorem notEnd {x : V} (h : InV x) : (!inV x [.str "bottom", .str "top"]) = isIntB x := by
  rcases h with rfl | rfl | ⟨i, rfl, _⟩
  · decide +kernel
  · decide +kernel
  · rfl
theorem tc1 {te : TE} {σ : L2.St} {H : Hp} {Q : List V → Hp → Prop} (h : te σ H fun v H1 => Q [v] H1) : tCons te tNil σ H Q := h
/-- as a list comprehension: the intsOf of xs -/
theorem el_ints {K : PySem.W.Frag} {σ : L2.St} {H : Hp} {l : Addr} {xs : List V} {tl : TE} {j : Nat} (hl : Ev tl σ H (.ref l)) (hs : SqL K H l xs) (hz : xs.length ≤ 1000) (hx : ∀ x ∈ xs, InV x) (hj : ∀ x, ((wipe σ [j]).set j (some x))[j]? = some (some x)) (hw : ∀ x, wipe ((wipe σ [j]).set j (some x)) [j] = wipe σ [j]) :
    EvL (tLc (iList K tl) (gName j) (tTest (tOp (rIn K true) (tVar j) (tTup (tCons (tC (.str "bottom")) (tCons (tC (.str "top")) tNil))))) (tVar j) [j]) σ H ((intsOf xs).map V.int) := by
  rw [← ints_map, ← given_if (f := isIntB) (g := id) (d := .non)]
  refine el_lcL (xs := xs) (fun i => isIntB (xs.getD i .non)) (fun i => id (xs.getD i .non)) hl hs (by omega) hw (fun i x H1 e hi => ?_) (fun i x H1 e hi _ => ?_)
  · rw [getD_of hi]
    have hin := hx x (List.mem_of_getElem? hi)
    rw [← notEnd hin]
    exact et_test (ev_niU (ev_var (hj x)) (eu_tup (ea_cons ev_c (ea_cons ev_c ea_nil)) (by decide)) (by rcases hin with rfl | rfl | ⟨i, rfl, _⟩ <;> rfl) rfl)
  · rw [getD_of hi]
    exact ev_var (hj x)
section
variable {P : Program} {w : World} {K : PySem.W.Frag} {mg : Str → Option Value} {base : Heap} {a : At}
def sp__law_things : Sp := fun vs H Q _ => ∃ (p : Addr) (m : Nat), vs = [.ref p, .int m] ∧ Po p H ∧ m ≤ 20 ∧ ∀ (l : Addr) (xs : List V) (H' : Hp), H l = none → l ≠ sysModules → xs.length = m → (∀ x ∈ xs, InV x) → Px p H H' → H' l = some (.lst xs) → Q (.ref l) H'
theorem ok__law_things (T : Txt K mg a) : Fn P w K mg base 4 a._law_things sp__law_things := by
  have G__law_thing : Fn P w K mg base 3 a._law_thing sp__law_thing := ok__law_thing T
  refine T.d__law_things.fn sc__law_things (fun _ _ _ _ _ _ us hl => match us, hl with | [_, _], _ => rfl) (fun vs H Q E h => ?_) (fun cdv A outer s H vs Q E hg hr h => ?_)
  · obtain ⟨_, _, rfl, _⟩ := h
    rfl
  · obtain ⟨p, m, rfl, hp, hm, q⟩ := h
    have nd := sc__law_things.nd
    refine ⟨_, (pss_cons (ps_set (i := 2) nd rfl (.inl rfl) (pe_lstB pa_nil))
    (pss_cons (ps_for PassesOwn.leaving rfl (pi_range1 (by rfl) T.z_range (pa_cons (pv 1) pa_nil)) (pg_name (i := 3) nd rfl (.inl rfl))
      (pss_one (ps_expr (pe_bm PySem.F.plainAttrs_list PySem.F.slot_list_append PySem.F.type_list_append mt_append (pv 2) (pa_cons (pe_fn G__law_thing hg (hr.mono (by decide)) T.d__law_thing.kp T.d__law_thing.m (by rfl) passL (pa_cons (pv 0) (pa_cons (pe_lc rfl (own := [("one", 4)]) (g := gName 4) (by exact nd) (pi_list (pv 2)) (blkOk_by (own := [("one", 4)]) (N := ["pot", "many", "found", "turn", "one"]) (sc := defScope s__law_things) (by decide +kernel)) (fun _ _ _ _ _ => (pg_name (i := 4) nd rfl (.inl rfl))) (fun _ _ _ _ _ => (pts_one (pt_cmpR (op_notIn_seq : OpR _ (compareOp .NotIn) (rIn K true)) (pv 4) (pe_tup (pa_cons pe_str (pa_cons pe_str pa_nil))) (by rfl)))) (fun _ _ _ _ _ => (pv 4))) pa_nil))) pa_nil)))))
    (pss_one (ps_ret (pv 2))))), ?_⟩
    refine ⟨(by decide : 0 ≤ sizeLine), fun l hl hlm => ?_⟩
    have hlp : l ≠ p := hp.ne hl
    refine q_forR1 (n := (m : Int)) (ea_cons (ev_var rfl) ea_nil) (by omega) (fun i σ' H' => ∃ xs u v, σ' = [some (.ref p), some (.int m), some (.ref l), u, v] ∧ H' l = some (.lst xs) ∧ xs.length = i ∧ (∀ x ∈ xs, InV x) ∧ Px p H H') (fun H1 e => ?_) ?_ ?_
    · exact ⟨[], none, none, rfl, e l _ upd_same, rfl, fun x hx => absurd hx List.not_mem_nil, (Px.of hp (Ex.new hl)).ex e⟩
    · rintro i σ' H1 hi ⟨xs, u, v, rfl, h1, h2, h3, x1⟩
      refine ⟨.ref l, rfl, .inl ⟨rfl, xs, sq_of h1⟩, ?_⟩
      refine ⟨.ref p, rfl, tc1 ?_⟩
      refine el_ints (K := K) (l := l) (xs := xs) (ev_var rfl) (sq_of h1) (by omega) h3 (fun _ => rfl) (fun _ => rfl) H1 (Ex.refl _) _ fun z H2 hz e2 hz2 => ?_
      have x2 : Px p H1 H2 := Px.of x1.2 e2
      refine ⟨p, z, intsOf xs, rfl, x2.2, hz2, x1.ne hz, by have := ints_len xs; omega, fun n hn => ?_, fun v' H3 hv x3 => ⟨l, xs, v', rfl, rfl, (x2.trans x3).1 l _ hlp h1, ?_, xs ++ [v'], _, _, rfl, upd_same, by rw [List.length_append, h2]; rfl, fun x hx => ?_, ?_⟩⟩
      · rcases h3 _ (mem_ints hn) with z | z | ⟨i, z, hi⟩
        · cases z
        · cases z
        · cases z
          exact hi
      · exact sz_lt (by omega)
      · rcases List.mem_append.mp hx with hx | hx
        · exact h3 x hx
        · rw [List.mem_singleton.mp hx]
          exact hv
      · have x4 := (x1.trans x2).trans x3
        refine ⟨fun b o hb ho => ?_, ?_⟩
        · rw [upd_ne (ne_of_none ho hl)]
          exact x4.1 b o hb ho
        · obtain ⟨c, d, hc⟩ := x4.2
          exact ⟨c, d, by rw [upd_ne (Ne.symm hlp)]; exact hc.1, hc.2⟩
    · rintro σ' H1 ⟨xs, u, v, rfl, h1, h2, h3, x1⟩
      exact ⟨_, rfl, q l xs H1 hl hlm (by rw [h2]; simp) h3 x1 h1⟩
end
end K12
namespace K12
open PySem PySem.Spec PyProof.Rows L2 LG Evl

def Bd (v : V) : Prop := v = .str "bottom" ∨ v = .str "top" ∨ ∃ i : Int, v = .int i ∧ -big < i ∧ i < big
theorem big_eq : big = 10000000000000000000000000000000000000000000000000000000000000000 := by decide
theorem InV.bd {v : V} (h : InV v) : Bd v := by
  rcases h with h | h | ⟨i, h, hi⟩
  · exact .inl h
  · exact .inr (.inl h)
  · refine .inr (.inr ⟨i, h, ?_⟩)
    have e : (10 : Nat) ^ 60 = 1000000000000000000000000000000000000000000000000000000000000 := by decide
    rw [e] at hi
    rw [big_eq]
    omega
theorem num_bot : num (.str "bottom") = -big := by decide +kernel
theorem num_top : num (.str "top") = big := by decide +kernel
theorem num_int (i : Int) : num (.int i) = i := rfl
theorem Bd.le {v : V} (h : Bd v) : -big ≤ num v ∧ num v ≤ big := by
  rcases h with rfl | rfl | ⟨i, rfl, h1, h2⟩
  · rw [num_bot, big_eq]; omega
  · rw [num_top, big_eq]; omega
  · rw [num_int]; omega
theorem Bd.inj {x y : V} (hx : Bd x) (hy : Bd y) (h : num x = num y) : x = y := by
  rcases hx with rfl | rfl | ⟨i, rfl, h1, h2⟩ <;> rcases hy with rfl | rfl | ⟨j, rfl, h3, h4⟩
  · rfl
  · rw [num_bot, num_top, big_eq] at h; omega
  · rw [num_bot, num_int] at h; omega
  · rw [num_bot, num_top, big_eq] at h; omega
  · rfl
  · rw [num_top, num_int] at h; omega
  · rw [num_bot, num_int] at h; omega
  · rw [num_top, num_int] at h; omega
  · rw [num_int, num_int] at h; rw [h]
theorem Bd.sh {v : V} (h : Bd v) : shV (num v) = v := by
  unfold shV
  rcases h with rfl | rfl | ⟨i, rfl, h1, h2⟩
  · rw [num_bot, if_pos rfl]
  · rw [num_top, if_neg (by rw [big_eq]; omega), if_pos rfl]
  · rw [num_int, if_neg (by omega), if_neg (by omega)]
theorem nbt : ¬ (V.str "bottom" = V.str "top") := fun z => bt (V.str.inj z)
theorem geB_num {x y : V} (hx : Bd x) (hy : Bd y) : geB x y = decide (num y ≤ num x) := by
  have lx := hx.le
  have ly := hy.le
  unfold geB
  by_cases c1 : x = .str "top" ∨ y = .str "bottom"
  · rw [if_pos c1]
    refine (decide_eq_true ?_).symm
    rcases c1 with rfl | rfl
    · rw [num_top]; exact ly.2
    · rw [num_bot]; exact lx.1
  · rw [if_neg c1]
    have n1 : x ≠ .str "top" := fun z => c1 (.inl z)
    have n2 : y ≠ .str "bottom" := fun z => c1 (.inr z)
    by_cases c2 : x = .str "bottom" ∨ y = .str "top"
    · rw [if_pos c2]
      refine (decide_eq_false fun z => ?_).symm
      rcases c2 with rfl | rfl
      · rw [num_bot] at z
        exact n2 (hy.inj (.inl rfl) (by rw [num_bot]; omega))
      · rw [num_top] at z
        exact n1 (hx.inj (.inr (.inl rfl)) (by rw [num_top]; omega))
    · rw [if_neg c2]
      rcases hx with rfl | rfl | ⟨i, rfl, _⟩
      · exact absurd (.inl rfl) c2
      · exact absurd rfl n1
      · rcases hy with rfl | rfl | ⟨j, rfl, _⟩
        · exact absurd rfl n2
        · exact absurd (.inr rfl) c2
        · rfl
/-- the levels at which two values are looked at -/
theorem least_fold : ∀ (xs : List V) (z : V), Bd z → (∀ x ∈ xs, Bd x) → ∃ r, xs.foldl (fun f v => if geB f v = true then v else f) z = r ∧ Bd r ∧ (r = z ∨ r ∈ xs) ∧ num r ≤ num z ∧ ∀ x ∈ xs, num r ≤ num x
  | [], z, hz, _ => ⟨z, rfl, hz, .inl rfl, Int.le_refl _, fun x hx => absurd hx List.not_mem_nil⟩
  | x :: xs, z, hz, hx => by
    rw [List.foldl_cons]
    have bx := hx x List.mem_cons_self
    have hr := fun y hy => hx y (List.mem_cons_of_mem _ hy)
    by_cases c : geB z x = true
    · rw [if_pos c]
      obtain ⟨r, e, b, h1, h2, h3⟩ := least_fold xs x bx hr
      have hc : num x ≤ num z := by
        rw [geB_num hz bx] at c
        exact of_decide_eq_true c
      refine ⟨r, e, b, .inr (h1.elim (fun q => q ▸ List.mem_cons_self) fun q => List.mem_cons_of_mem _ q), Int.le_trans h2 hc, fun y hy => ?_⟩
      rcases List.mem_cons.mp hy with rfl | hy
      · exact h2
      · exact h3 y hy
    · rw [if_neg c]
      obtain ⟨r, e, b, h1, h2, h3⟩ := least_fold xs z hz hr
      have hc : num z ≤ num x := by
        rw [geB_num hz bx] at c
        exact Int.le_of_lt (Int.not_le.mp fun q => c (decide_eq_true q))
      refine ⟨r, e, b, h1.elim .inl fun q => .inr (List.mem_cons_of_mem _ q), h2, fun y hy => ?_⟩
      rcases List.mem_cons.mp hy with rfl | hy
      · exact Int.le_trans h2 hc
      · exact h3 y hy
theorem greatest_fold : ∀ (xs : List V) (z : V), Bd z → (∀ x ∈ xs, Bd x) → ∃ r, xs.foldl (fun f v => if geB v f = true then v else f) z = r ∧ Bd r ∧ (r = z ∨ r ∈ xs) ∧ num z ≤ num r ∧ ∀ x ∈ xs, num x ≤ num r
  | [], z, hz, _ => ⟨z, rfl, hz, .inl rfl, Int.le_refl _, fun x hx => absurd hx List.not_mem_nil⟩
  | x :: xs, z, hz, hx => by
    rw [List.foldl_cons]
    have bx := hx x List.mem_cons_self
    have hr := fun y hy => hx y (List.mem_cons_of_mem _ hy)
    by_cases c : geB x z = true
    · rw [if_pos c]
      obtain ⟨r, e, b, h1, h2, h3⟩ := greatest_fold xs x bx hr
      have hc : num z ≤ num x := by
        rw [geB_num bx hz] at c
        exact of_decide_eq_true c
      refine ⟨r, e, b, .inr (h1.elim (fun q => q ▸ List.mem_cons_self) fun q => List.mem_cons_of_mem _ q), Int.le_trans hc h2, fun y hy => ?_⟩
      rcases List.mem_cons.mp hy with rfl | hy
      · exact h2
      · exact h3 y hy
    · rw [if_neg c]
      obtain ⟨r, e, b, h1, h2, h3⟩ := greatest_fold xs z hz hr
      have hc : num x ≤ num z := by
        rw [geB_num bx hz] at c
        exact Int.le_of_lt (Int.not_le.mp fun q => c (decide_eq_true q))
      refine ⟨r, e, b, h1.elim .inl fun q => .inr (List.mem_cons_of_mem _ q), h2, fun y hy => ?_⟩
      rcases List.mem_cons.mp hy with rfl | hy
      · exact Int.le_trans hc h2
      · exact h3 y hy
theorem least_is {xs : List V} {m : Int} (hx : ∀ x ∈ xs, Bd x) (h1 : m ∈ xs.map num) (h2 : ∀ y ∈ xs.map num, m ≤ y) : shV m = leastV xs := by
  obtain ⟨r, e, b, h3, h4, h5⟩ := least_fold xs (.str "top") (.inr (.inl rfl)) hx
  obtain ⟨x, hxm, ex⟩ := List.mem_map.mp h1
  have er : leastV xs = r := e
  have z : num r = m := by
    refine Int.le_antisymm ?_ ?_
    · rw [← ex]
      exact h5 x hxm
    · rcases h3 with rfl | h3
      · rw [num_top, ← ex]
        exact (hx x hxm).le.2
      · exact h2 _ (List.mem_map.mpr ⟨r, h3, rfl⟩)
  rw [er, ← z]
  exact b.sh
theorem greatest_is {xs : List V} {m : Int} (hx : ∀ x ∈ xs, Bd x) (h1 : m ∈ xs.map num) (h2 : ∀ y ∈ xs.map num, y ≤ m) : shV m = greatestV xs := by
  obtain ⟨r, e, b, h3, h4, h5⟩ := greatest_fold xs (.str "bottom") (.inl rfl) hx
  obtain ⟨x, hxm, ex⟩ := List.mem_map.mp h1
  have er : greatestV xs = r := e
  have z : num r = m := by
    refine Int.le_antisymm ?_ ?_
    · rcases h3 with rfl | h3
      · rw [num_bot, ← ex]
        exact (hx x hxm).le.1
      · exact h2 _ (List.mem_map.mpr ⟨r, h3, rfl⟩)
    · rw [← ex]
      exact h5 x hxm
  rw [er, ← z]
  exact b.sh
end K12
namespace K12
open PySem PySem.Spec PyProof.Rows L2 LG Evl
section
variable {P : Program} {w : World} {K : PySem.W.Frag} {mg : Str → Option Value} {base : Heap} {a : At}
/-! ### the places of a term -/
def sp_places_in (a : At) (n : Nat) : Sp := fun vs H Q _ => ∃ v t, vs = [v] ∧ TM.TmAt (csOf a) H v t ∧ TM.Ok t ∧ t.depth < n ∧ t.depth ≤ 4 ∧ ∀ p H', H p = none → Ex H H' → H' p = some (.lst (t.places.map V.str)) → Q (.ref p) H'
theorem placesAll_app : ∀ (ts us : List TM.Tree), TM.Tree.placesAll (ts ++ us) = TM.Tree.placesAll ts ++ TM.Tree.placesAll us
  | [], us => by simp [TM.Tree.placesAll]
  | t :: ts, us => by
    rw [List.cons_append, TM.Tree.placesAll, TM.Tree.placesAll, placesAll_app ts us, List.append_assoc]
theorem ok_places_in (T : Txt K mg a) : ∀ n, Fn P w K mg base (n + 2) a.places_in (sp_places_in a n) := by
  intro n
  induction n with
  | zero =>
    refine T.d_places_in.fn sc_places_in (fun _ _ _ _ _ _ us hl => match us, hl with | [_], _ => rfl) (fun vs H Q E h => ?_) (fun cdv A outer s H vs Q E hg hr h => ?_)
    · obtain ⟨_, _, rfl, _⟩ := h
      rfl
    · obtain ⟨_, t, _, _, _, hd, _⟩ := h
      exact absurd hd (Nat.not_lt_zero _)
  | succ n ih =>
    have G_places_in := ih
    refine T.d_places_in.fn sc_places_in (fun _ _ _ _ _ _ us hl => match us, hl with | [_], _ => rfl) (fun vs H Q E h => ?_) (fun cdv A outer s H vs Q E hg hr h => ?_)
    · obtain ⟨_, _, rfl, _⟩ := h
      rfl
    · obtain ⟨v, t, rfl, ht, ok, hd, hd4, q⟩ := h
      have nd := sc_places_in.nd
      have hr2 := hr.mono (j := 2) (by omega)
      refine ⟨_, (pss_cons (ps_if (pt_val (pe_callB call_isi (by rfl) T.z_isinstance (by decide +kernel) (pa_cons (pv 0) (pa_cons (pe_glob (v := .ref a.k_Place) (by rfl) T.g_Place.m rfl) pa_nil)))) (pss_one (ps_ret (pe_lst (pa_cons (pe_getA (G := gNm a) (CX := CX0) (pv 0) (g_nm T) hr2 pass0 rfl) pa_nil)))) pss_nil)
    (pss_cons (ps_if (pt_val (pe_callB call_isi (by rfl) T.z_isinstance (by decide +kernel) (pa_cons (pv 0) (pa_cons (pe_glob (v := .ref a.k_End) (by rfl) T.g_End.m rfl) pa_nil)))) (pss_one (ps_ret (pe_lst pa_nil))) pss_nil)
    (pss_cons (ps_set (i := 1) nd rfl (.inl rfl) (pe_lst pa_nil))
    (pss_cons (ps_for PassesOwn.leaving rfl (pi_tup (pe_getA (G := gParts a) (CX := CX0) (pv 0) (g_parts T) hr2 pass0 rfl)) (pg_name (i := 2) nd rfl (.inl rfl))
      (pss_one (ps_expr (pe_bm PySem.F.plainAttrs_list PySem.F.slot_list_extend PySem.F.type_list_extend mt_extend (pv 1) (pa_cons (pe_fn G_places_in hg (hr.mono (by omega)) T.d_places_in.kp T.d_places_in.m (by rfl) passL (pa_cons (pv 2) pa_nil)) pa_nil)))))
    (pss_one (ps_ret (pv 1))))))), ?_⟩
      have two : ∀ {x dx p C : Addr} {dp : Int} {xs : List V} {ts : List TM.Tree}, H x = some (.ins C dx [("own_depth", .int dp), ("own_parts", .ref p)]) → (C = a.k_Lesser ∨ C = a.k_Greater) → H p = some (.tup xs) → xs.length = ts.length → (∀ (i : Nat) (y : V) (t : TM.Tree), xs[i]? = some y → ts[i]? = some t → TM.TmAt (csOf a) H y t) → TM.Ln ts.length → (∀ t ∈ ts, TM.Ok t) → TM.Tree.depthAll ts < n → TM.Tree.depthAll ts ≤ 3 →
          (∀ l H', H l = none → Ex H H' → H' l = some (.lst ((TM.Tree.placesAll ts).map V.str)) → Q (.ref l) H') → ∀ H2, Ex H H2 → tSeq (tAsg (tLst tNil) (gName 1)) (tSeq (tFor (iTup K (tGetA (gParts a) (tVar 0))) (gName 2) (tDrop (tBM K "list" rExtend (tVar 1) (tCons (tFn (sp_places_in a n) E0 (tCons (tVar 2) tNil)) tNil)))) (tRet (tVar 1))) { nx := fun _ H' => Q .non H', rt := Q } (start ["term", "found", "part"] [.ref x]) H2 := by
        intro x dx p C dp xs ts hx hC hp hl hxs hln hok hdn hd3 q H2 e2
        have h8 := hln.eight
        refine ⟨(by decide : 0 ≤ sizeLine), fun l hl0 => ?_⟩
        have ll := fresh_back e2 hl0
        refine ⟨.ref x, rfl, x, C, dx, _, "own_parts", .ref p, rfl, (e2.trans (Ex.new hl0)) _ _ hx, ⟨hC, rfl⟩, rfl, p, rfl, ⟨xs, st_of ((e2.trans (Ex.new hl0)) _ _ hp)⟩, ?_⟩
        refine for_tup (K := K) (a := p) (xs := xs) (fun i σ' H' => (∃ u, σ' = [some (.ref x), some (.ref l), u]) ∧ Ex H H' ∧ H' l = some (.lst ((TM.Tree.placesAll (ts.take i)).map V.str))) ⟨⟨_, rfl⟩, e2.trans (Ex.new hl0), by rw [List.take_zero]; exact upd_same⟩ (fun i σ' H' _ h => st_of (h.2.1 _ _ hp)) ?_ ?_
        · rintro i y σ' H' hi ⟨⟨u, rfl⟩, e1, h1⟩
          have hi2 : i < ts.length := hl ▸ (List.getElem?_eq_some_iff.mp hi).1
          have ht : ts[i]? = some ts[i] := List.getElem?_eq_getElem hi2
          have hm : ts[i] ∈ ts := List.getElem_mem hi2
          refine ⟨.ref l, rfl, .inl ⟨rfl, _, sq_of h1⟩, ?_⟩
          refine ⟨y, rfl, y, ts[i], rfl, (hxs i y _ hi ht).up e1, hok _ hm, Nat.lt_of_le_of_lt (TM.depth_mem hm) hdn, Nat.le_trans (TM.depth_mem hm) (by omega), fun z H3 hz e3 h3 => ?_⟩
          refine ⟨l, z, _, _, rfl, rfl, e3 _ _ h1, h3, sz_of ?_, ⟨_, rfl⟩, (e1.trans e3).mut ll, ?_⟩
          · have k1 : (TM.Tree.placesAll (ts.take i)).length ≤ 8 ^ 4 := TM.places_len 4 (.lesser (ts.take i ++ List.replicate (8 - (ts.take i).length) (.endd "top"))) (.lesser (.inr (.inr (.inr (by rw [List.length_append, List.length_replicate, List.length_take]; omega)))) fun t ht => by
              rcases List.mem_append.mp ht with ht | ht
              · exact hok t (List.mem_of_mem_take ht)
              · rw [List.eq_of_mem_replicate ht]
                exact .endd (by decide)) (by
              rw [TM.Tree.depth]
              have : TM.Tree.depthAll (ts.take i ++ List.replicate (8 - (ts.take i).length) (.endd "top")) ≤ 3 := depthAll_le fun t ht => by
                rcases List.mem_append.mp ht with ht | ht
                · exact Nat.le_trans (TM.depth_mem (List.mem_of_mem_take ht)) hd3
                · rw [List.eq_of_mem_replicate ht]
                  exact Nat.zero_le _
              omega) |> fun h => by
                rw [TM.Tree.places, placesAll_app, List.length_append] at h
                omega
            have k2 := TM.places_len 4 ts[i] (hok _ hm) (Nat.le_trans (TM.depth_mem hm) (by omega))
            rw [List.length_map, List.length_map]
            omega
          · rw [upd_same, ← List.map_append, List.take_succ, ht, Option.toList_some, placesAll_app]
            simp [TM.Tree.placesAll]
        · rintro σ' H' ⟨⟨u, rfl⟩, e1, h1⟩
          rw [hl, List.take_length] at h1
          exact ⟨_, rfl, q l H' ll e1 h1⟩
      cases ht with
      | @place x dx nm hx =>
        refine s_if (b := true) (et_isT (ev_var rfl) (fun H1 e => ty_ins T T.g_Place (e _ _ hx)) (kit_of T.g_Place T.x_Place_Place T.x_Place_Place)) (fun _ H1 e1 => ?_) (fun z => nomatch z)
        exact s_retL (el_lst (ea_cons (ev_getA (ev_var rfl) (e1 _ _ hx) ⟨rfl, rfl⟩ rfl) ea_nil) (by show 1 ≤ 100000; decide)) fun p H2 hp e2 h2 => q p H2 (fresh_back e1 hp) (e1.trans e2) h2
      | @endd x dx nm hx =>
        refine s_if (b := false) (et_isT (ev_var rfl) (fun H1 e => ty_ins T T.g_End (e _ _ hx)) (kit_of T.g_Place T.x_End_Place T.x_Place_Place)) (fun z => nomatch z) (fun _ H1 e1 => ?_)
        refine s_if (b := true) (et_isT (ev_var rfl) (fun H2 e => ty_ins T T.g_End ((e1.trans e) _ _ hx)) (kit_of T.g_End T.x_End_End T.x_End_End)) (fun _ H2 e2 => ?_) (fun z => nomatch z)
        exact s_retL (el_lst ea_nil (by decide)) fun p H3 hp e3 h3 => q p H3 (fresh_back (e1.trans e2) hp) ((e1.trans e2).trans e3) h3
      | @lesser x dx p xs ts hx hp hl hxs =>
        cases ok with
        | lesser hln hok =>
          refine s_if (b := false) (et_isT (ev_var rfl) (fun H1 e => ty_ins T T.g_Lesser (e _ _ hx)) (kit_of T.g_Place T.x_Lesser_Place T.x_Place_Place)) (fun z => nomatch z) (fun _ H1 e1 => ?_)
          refine s_if (b := false) (et_isT (ev_var rfl) (fun H2 e => ty_ins T T.g_Lesser ((e1.trans e) _ _ hx)) (kit_of T.g_End T.x_Lesser_End T.x_End_End)) (fun z => nomatch z) (fun _ H2 e2 => ?_)
          exact two hx (.inl rfl) hp hl hxs hln hok (Nat.lt_of_succ_lt_succ (by simpa [TM.Tree.depth] using hd)) (Nat.le_of_succ_le_succ (by simpa [TM.Tree.depth] using hd4)) q H2 (e1.trans e2)
      | @greater x dx p xs ts hx hp hl hxs =>
        cases ok with
        | greater hln hok =>
          refine s_if (b := false) (et_isT (ev_var rfl) (fun H1 e => ty_ins T T.g_Greater (e _ _ hx)) (kit_of T.g_Place T.x_Greater_Place T.x_Place_Place)) (fun z => nomatch z) (fun _ H1 e1 => ?_)
          refine s_if (b := false) (et_isT (ev_var rfl) (fun H2 e => ty_ins T T.g_Greater ((e1.trans e) _ _ hx)) (kit_of T.g_End T.x_Greater_End T.x_End_End)) (fun z => nomatch z) (fun _ H2 e2 => ?_)
          exact two hx (.inr rfl) hp hl hxs hln hok (Nat.lt_of_succ_lt_succ (by simpa [TM.Tree.depth] using hd)) (Nat.le_of_succ_le_succ (by simpa [TM.Tree.depth] using hd4)) q H2 (e1.trans e2)
end
end K12
/-! Sets of ints and texts that can be walked: add, a set comprehension, set(list), sorted. -/
namespace LG
open PySem PySem.Spec PyProof.Rows L2
def kyV : Value → Key
  | .int k _ => Sum.inl k
  | .str x _ => Sum.inr x
  | _ => Sum.inl 0
def ky (r : Int × Value) : Key := kyV r.2
section
variable (P : Program) (w : World)
def GdK (r : Int × Value) : Prop := ∃ k, (mixKind P w).is k r.2 = true ∧ r.1 = (mixKind P w).hash k
/-- the set at c: S its members, n their number -/
def SW (hp : Heap) (c : Addr) (S : Key → Bool) (n : Nat) : Prop :=
  ∃ ob rs pe tb, hp.get? c = some ob ∧ ob.ExactSet ∧ ob.data = .set rs pe tb ∧ (∀ r ∈ rs.toList, GdK P w r) ∧ (rs.toList.map ky).Nodup ∧ (∀ k, S k = true ↔ k ∈ rs.toList.map ky) ∧
    rs.size < scanBound ∧ tb.fits rs.size = true ∧ rs.size = n ∧ Ris tb.place.toList ∧ (w.params.followText "set-order" = true ∨ tb.led = true)
end
section
variable {P : Program} {w : World} {hp hp' : Heap} {c : Addr} {S : Key → Bool} {n : Nat}
theorem ky_of {k : Key} {v : Value} (q : (mixKind P w).is k v = true) : kyV v = k := by
  rcases keyIs_shape q with ⟨i, u, rfl, rfl⟩ | ⟨x, u, rfl, rfl⟩ <;> rfl
theorem SW.at (m : SW P w hp c S n) (k : ∀ ob, hp.get? c = some ob → hp'.get? c = some ob) : SW P w hp' c S n := by
  obtain ⟨ob, rs, pe, tb, ho, m⟩ := m
  exact ⟨ob, rs, pe, tb, k ob ho, m⟩
theorem SW.congr {S' : Key → Bool} (m : SW P w hp c S n) (q : ∀ k, S' k = S k) : SW P w hp c S' n := by
  rw [show S' = S from funext q]
  exact m
theorem gd_scan {r : Int × Value} (g : GdK P w r) : r.2.scannable = true := by
  obtain ⟨k, q, _⟩ := g
  rcases keyIs_shape q with ⟨i, u, rfl, e⟩ | ⟨x, u, rfl, e⟩ <;> rw [e] <;> rfl
theorem gd_elems {rs : List (Int × Value)} (g : ∀ r ∈ rs, GdK P w r) : ElemsOf (mixKind P w) rs := fun r hr => by
  obtain ⟨k, q1, q2⟩ := g r hr
  exact ⟨⟨k, q1, q2⟩, gd_scan (g r hr)⟩
theorem gd_is {r : Int × Value} (g : GdK P w r) (k : Key) : (mixKind P w).is k r.2 = true ↔ ky r = k := by
  obtain ⟨j, q, _⟩ := g
  have e : ky r = j := ky_of q
  rw [e]
  exact ⟨fun z => (mixKind P w).inj _ _ _ q z, fun z => z ▸ q⟩
theorem gd_mem {rs : List (Int × Value)} (g : ∀ r ∈ rs, GdK P w r) (k : Key) : k ∈ rs.map ky ↔ ∃ r ∈ rs, (mixKind P w).is k r.2 = true := by
  rw [List.mem_map]
  exact ⟨fun ⟨r, hr, q⟩ => ⟨r, hr, (gd_is (g r hr) k).2 q⟩, fun ⟨r, hr, q⟩ => ⟨r, hr, (gd_is (g r hr) k).1 q⟩⟩
theorem SW.setOf (m : SW P w hp c S n) : hp.SetOf (mixKind P w) c S n := by
  obtain ⟨ob, rs, pe, tb, ho, hx, hd, g, nd, hm, hb, hf, hn, _⟩ := m
  exact ⟨ob, rs, pe, tb, ho, hx, hd, gd_elems g, fun k => (hm k).trans (gd_mem g k), hb, hf, hn⟩
end
section
variable {P : Program} {w : World} {A : Around} {E : Value → Shared → Prop} {s : Shared} {c : Addr} {S : Key → Bool} {n : Nat}
theorem sw_store {hp : Heap} {ob : Obj} {rs rs' : Array (Int × Value)} {pe : Nat} {tb tb' : SetTable} (ho : hp.get? c = some ob) (hd : ob.data = .set rs pe tb) :
    (hp.update c (Obj.putSet rs' tb')).get? c = some { ob with data := .set rs' (pe + 1) tb' } := by
  have z := Heap.get?_update_self (Obj.putSet rs' tb') ho (by rw [putSet_of rs' tb' hd]; rfl)
  rwa [putSet_of rs' tb' hd] at z
theorem sw_tail {gv : Bool → Sem Unit} (hg : ∀ (b : Bool) (s1 : Shared) (Q' : Unit → Shared → Prop), Q' () s1 → wpAny (model P w) A (gv b) Q' E s1)
    {ob : Obj} {rs : Array (Int × Value)} {pe : Nat} {tb : SetTable} (ho : s.heap.get? c = some ob) (hex : ob.ExactSet) (hd : ob.data = .set rs pe tb)
    {rs1 : Array (Int × Value)} {tb2 : SetTable} {S' : Key → Bool} (g1 : ∀ r ∈ rs1.toList, GdK P w r) (n1 : (rs1.toList.map ky).Nodup) (m1 : ∀ k, S' k = true ↔ k ∈ rs1.toList.map ky)
    (b1 : rs1.size < scanBound) (f2 : tb2.fits rs1.size = true) (hr : Ris tb2.place.toList) (hl : w.params.followText "set-order" = true ∨ tb2.led = true) {was : Bool} {R : Option Bool → Shared → Prop}
    (hR : ∀ hp', Heap.SameBut c s.heap hp' → SW P w hp' c S' rs1.size → R (some true) { s with heap := hp' }) :
    wpAny (model P w) A (do
      storeSet c rs1 tb2
      if (!was && tb2.tooFull) = true then do
        gv (relayAll tb2 rs1 (SetTable.grown rs1.size)).2.2
        storeSet c (relayAll tb2 rs1 (SetTable.grown rs1.size)).1 (relayAll tb2 rs1 (SetTable.grown rs1.size)).2.1
        pure (some true)
      else pure (some true)) R E s := by
  refine wpAny_bind (wpAny_storeSet_of ho hd ?_ (fits_of_scanBound b1))
  have o1 := sw_store (rs' := rs1) (tb' := tb2) ho hd
  have u1 := Heap.SameBut.update s.heap c (Obj.putSet rs1 tb2)
  split
  · have q1 := relayAll_perm tb2 rs1 (SetTable.grown rs1.size)
    have q2 := relayAll_fits tb2 rs1 (SetTable.grown rs1.size)
    have q3 := relayAll_ris tb2 rs1 (SetTable.grown rs1.size)
    have q4 := relayAll_led tb2 rs1 (SetTable.grown rs1.size)
    generalize relayAll tb2 rs1 (SetTable.grown rs1.size) = Z at q1 q2 q3 q4 ⊢
    obtain ⟨rs2, tb3, gone⟩ := Z
    dsimp only at q1 q2 q3 q4 ⊢
    have sz : rs2.size = rs1.size := by rw [← Array.length_toList, q1.length_eq, Array.length_toList]
    have b2 : rs2.size < scanBound := by omega
    refine wpAny_bind (hg _ _ _ ?_)
    refine wpAny_bind (wpAny_storeSet_of o1 rfl ?_ (fits_of_scanBound b2))
    refine wpAny_pure (hR _ (u1.trans (Heap.SameBut.update _ c _)) ?_)
    exact ⟨_, rs2, _, tb3, sw_store (rs' := rs2) (tb' := tb3) o1 rfl, hex, rfl, fun r hr => g1 r (q1.mem_iff.mp hr), (q1.map ky).nodup_iff.mpr n1, fun k => (m1 k).trans (q1.map ky).mem_iff.symm, b2, q2, sz, q3, hl.imp id fun z => by rw [q4]; exact z⟩
  · exact wpAny_pure (hR _ u1 ⟨_, rs1, _, tb2, o1, hex, rfl, g1, n1, m1, b1, f2, rfl, hr, hl⟩)
theorem sw_add {k : Key} {v : Value} {Q : Bool → Shared → Prop} (hk : (mixKind P w).is k v = true) (m : SW P w s.heap c S n) (room : n + 1 < scanBound)
    (hQ : ∀ hp', Heap.SameBut c s.heap hp' → SW P w hp' c (fun j => S j || decide (j = k)) (if S k = true then n else n + 1) → Q (!S k) { s with heap := hp' }) :
    wpAny (model P w) A (setAddHashed c v ((mixKind P w).hash k)) Q E s := by
  obtain ⟨ob, rs, pe, tb, ho, hex, hd, g, nd, hm, hb, hf, hn, hr, hl⟩ := m
  have sc : v.scannable = true := gd_scan (r := ((mixKind P w).hash k, v)) ⟨k, hk, rfl⟩
  have el : ElemsOf (mixKind P w) rs.toList := gd_elems g
  unfold setAddHashed setAddHashedIn
  refine wpAny_holding (wpAny_bind (wpAny_setState_of ho hd hf ?_))
  dsimp only
  rw [byScan_of sc hb el]
  simp only [↓reduceIte]
  unfold setAddByScan
  refine wpAny_bind (wpAny_bind (wpAny_rule ?_))
  refine wpAny_bind (wpAny_setScan_of hk ho hd hf el ?_)
  cases fi : List.findIdx? (fun r => (mixKind P w).is k r.2) rs.toList with
  | some j =>
    dsimp only
    obtain ⟨hj, pj, _⟩ := List.findIdx?_eq_some_iff_getElem.mp fi
    have sk : S k = true := (hm k).2 ((gd_mem g k).2 ⟨rs.toList[j], List.getElem_mem hj, pj⟩)
    have z := hQ s.heap (Heap.SameBut.refl c s.heap) ⟨ob, rs, pe, tb, ho, hex, hd, g, nd, fun i => by
      rw [Bool.or_eq_true, decide_eq_true_eq, ← hm i]
      exact ⟨fun y => y.elim id (fun e => e ▸ sk), .inl⟩, hb, hf, by rw [if_pos sk]; exact hn, hr, hl⟩
    rw [sk] at z
    exact wpAny_pure (wpAny_pure z)
  | none =>
    dsimp only
    have nk : k ∉ rs.toList.map ky := fun z => by
      obtain ⟨r, hr, q⟩ := (gd_mem g k).1 z
      have y := List.findIdx?_eq_none_iff.mp fi r hr
      rw [q] at y
      cases y
    have sk : S k = false := Bool.eq_false_iff.mpr fun z => nk ((hm k).1 z)
    have gw : ∀ (b : Bool) {s1 : Shared} {Q' : Unit → Shared → Prop}, Q' () s1 → wpAny (model P w) A (match b with | true => rule "set.scan.the-table-gave-way" | false => pure ()) Q' E s1 :=
      fun b s1 Q' q => by cases b <;> first | exact wpAny_pure q | exact wpAny_rule q
    have q1 := layNew_perm tb rs ((mixKind P w).hash k) v
    have q2 := layNew_fits tb rs ((mixKind P w).hash k) v
    have q3 := layNew_ris tb rs ((mixKind P w).hash k) v hr
    have q4 := layNew_led tb rs ((mixKind P w).hash k) v
    generalize layNew tb rs ((mixKind P w).hash k) v = Z at q1 q2 q3 q4 ⊢
    obtain ⟨rs1, tb1, was, gone⟩ := Z
    dsimp only at q1 q2 q3 q4 ⊢
    rw [Array.toList_push] at q1
    have pc : rs1.toList.Perm (((mixKind P w).hash k, v) :: rs.toList) := q1.trans (List.perm_append_singleton _ _)
    have ek : ky ((mixKind P w).hash k, v) = k := ky_of hk
    have pk : (rs1.toList.map ky).Perm (k :: rs.toList.map ky) := by
      have z := pc.map ky
      rwa [List.map_cons, ek] at z
    have g1 : ∀ r ∈ rs1.toList, GdK P w r := fun r hr => by
      rcases List.mem_cons.mp (pc.mem_iff.mp hr) with z | z
      · exact z ▸ ⟨k, hk, rfl⟩
      · exact g r z
    have n1 : (rs1.toList.map ky).Nodup := pk.nodup_iff.mpr (List.nodup_cons.mpr ⟨nk, nd⟩)
    have m1 : ∀ i, (S i || decide (i = k)) = true ↔ i ∈ rs1.toList.map ky := fun i => by
      rw [Bool.or_eq_true, decide_eq_true_eq, hm i, pk.mem_iff, List.mem_cons]
      exact Or.comm
    have sz : rs1.size = n + 1 := by rw [← Array.length_toList, pc.length_eq, List.length_cons, Array.length_toList, hn]
    have b1 : rs1.size < scanBound := by omega
    have hl1 : w.params.followText "set-order" = true ∨ tb1.led = true := hl.imp id fun z => by rw [q4]; exact z
    have fin : ∀ hp', Heap.SameBut c s.heap hp' → SW P w hp' c (fun j => S j || decide (j = k)) rs1.size → Q true { s with heap := hp' } := fun hp' u r => by
      have z := hQ hp' u
      rw [sk] at z
      rw [sz] at r
      exact z r
    refine wpAny_bind (gw _ ?_)
    split
    · refine wpAny_bind ?_
      rw [hashByValue_scannable 8 sc]
      refine wpAny_pure (sw_tail ?_ ho hex hd g1 n1 m1 b1 ?_ ?_ ?_ ?_)
      · intro b s1 Q' q
        cases b <;> first | exact wpAny_pure q | exact wpAny_rule q
      · first | (split <;> first | exact q2 | exact SetTable.fits_plain_off q2) | exact q2
      · first | (split <;> exact q3) | exact q3
      · first | (split <;> exact hl1) | exact hl1
      · intro hp' u r
        dsimp only
        exact wpAny_pure (fin hp' u r)
    · refine wpAny_bind (wpAny_pure ?_)
      simp only [↓reduceIte]
      refine sw_tail ?_ ho hex hd g1 n1 m1 b1 q2 q3 hl1 ?_
      · intro b s1 Q' q
        cases b <;> first | exact wpAny_pure q | exact wpAny_rule q
      · intro hp' u r
        dsimp only
        exact wpAny_pure (fin hp' u r)
theorem sw_call_add {k : Key} {v : Value} {Q : Value → Shared → Prop} (hk : (mixKind P w).is k v = true) (m : SW P w s.heap c S n) (room : n + 1 < scanBound)
    (hQ : ∀ hp', Heap.SameBut c s.heap hp' → SW P w hp' c (fun j => S j || decide (j = k)) (if S k = true then n else n + 1) → Q .none { s with heap := hp', toks := s.toks + 1 }) :
    wpAny (model P w) A (call (.builtin "set.add") [.ref c, v]) Q E s := by
  refine wpAny_call_entry F.slot_set_add m.setOf.typeIs F.entry_set_add ?_ (F.args_set_add_2 _ _)
  unfold Builtin.«set.add» Builtin.Frozenset.oneOther
  simp only [List.isEmpty_nil, bind_assoc]
  unfold Builtin.Frozenset.addrOf setAdd
  refine wpAny_bind (wpAny_pure ?_)
  try dsimp only
  refine wpAny_bind (wpAny_pure ?_)
  try dsimp only
  refine wpAny_bind (wpAny_holding (wpAny_bind ((mixKind P w).pyHash hk ?_)))
  refine sw_add (s := { s with toks := s.toks + 1 }) hk m room fun hp' u r => ?_
  show wpAny _ _ (ret Value.none) _ _ _
  exact wpAny_pure ⟨_, rfl, hQ hp' u r⟩
end
end LG
/-! Sets of ints and texts: over the layer. -/
namespace LG
open PySem PySem.Spec PyProof.Rows L2
section
variable {P : Program} {w : World} {hp : Heap} {c : Addr} {S : Key → Bool} {n : Nat}
theorem sw_nil (ho : hp.get? c = some (oSet w)) : SW P w hp c (fun _ => false) 0 := by
  refine ⟨_, #[], 0, .fresh 0 0 (!w.params.followText "set-order"), ho, ⟨rfl, rfl, rfl⟩, rfl, fun r hr => by simp at hr, by simp, fun k => by simp, by decide, by rfl, rfl, by
    show Ris ([] : List Nat)
    exact List.Pairwise.nil, ?_⟩
  show _ ∨ (!w.params.followText "set-order") = true
  cases w.params.followText "set-order"
  · exact .inr rfl
  · exact .inl rfl
end
/-- the set of keys at c -/
def SWO (P : Program) (w : World) (c : Addr) (S : Key → Bool) (n : Nat) : HO := .ext fun hp => SW P w hp c S n
theorem swo_new {P : Program} {w : World} {H : Hp} {hp : Heap} {c : Addr} {S : Key → Bool} {n : Nat} (m : SW P w hp c S n) : ObjOk P w H hp c (SWO P w c S n) := by
  have ⟨ob, _, _, _, ho, _⟩ := m
  exact ⟨m, ⟨ob, ho⟩, fun h1 h2 p k => SW.at p k⟩
theorem swo_get {X : Cx} {pins : List (Addr × Obj)} {σ : L2.St} {H : Hp} {s : Shared} {c : Addr} {S : Key → Bool} {n : Nat} (I : Inv X pins σ H s) (h : H c = some (SWO X.prog X.w c S n)) : SW X.prog X.w s.heap c S n := (I.hok c _ h).1
def setK : SetK1 Key where
  toV := kV
  SO := fun P w c S n => SWO P w c S n
  fresh := fun h => swo_new (sw_nil h)
  add := fun {X pins σ H s E D S n y u Q} I hD room r h => by
    refine sw_call_add (kV_is r) (swo_get I hD) room fun hp' u1 new => ?_
    have he : ∃ ob, hp'.get? D = some ob := by
      obtain ⟨ob, _, _, _, ho, _⟩ := id new
      exact ⟨ob, ho⟩
    exact h _ (I.write (e := D) (t' := s.toks + 1) (by rw [hD]; trivial) (.inl rfl) (fun b o hb ho => (u1.2 b hb).trans ho) he (swo_new new))
section
variable {P : Program} {w : World} {A : Around} {E : Value → Shared → Prop} {s : Shared}
instance memK (j : Key) (ks : List Key) : Decidable (j ∈ ks) := decidable_of_iff (ks.any (fun x => decide (x = j)) = true) (by
  rw [List.any_eq_true]
  exact ⟨fun ⟨x, h, e⟩ => of_decide_eq_true e ▸ h, fun h => ⟨j, h, decide_eq_true rfl⟩⟩)
/-- the loop that puts in what an iterator yields -/
theorem sw_update {I : Addr} {fp wr : List Addr} {G : Array GenState → Array GenState → Prop} {n : Nat} {Pv : Nat → Value → Prop} {St : Nat → Shared → Prop} {R : Result → Shared → Prop}
    (W : WalksS P w A.in1 I fp wr G n Pv St) (c : Addr) (hcf : c ∉ fp) (ks : List Key) (hn : n = ks.length) (hb : ks.length + 1 < scanBound) (hval : ∀ i v, Pv i v → ∃ k, ks[i]? = some k ∧ (mixKind P w).is k v = true) :
    ∀ (d i : Nat) (s : Shared), n - i = d → i ≤ n → St i s → (∃ m, m ≤ i ∧ SW P w s.heap c (fun j => decide (j ∈ ks.take i)) m) →
      (∀ s' m, Moved (c :: wr) G s s' → m ≤ n → SW P w s'.heap c (fun j => decide (j ∈ ks)) m → R (.ok (.ret .none)) s') →
      codeAny (model P w) A (.builtin "set.update.loop" ⟨[.ref c, .ref I], []⟩) R s := by
  have hcw : c ∉ wr := fun z => hcf (W.sub _ z)
  have sub : ∀ b ∈ wr, b ∈ c :: wr := fun b z => List.mem_cons_of_mem _ z
  intro d
  induction d with
  | zero =>
    intro i s hd hi hst ⟨m, hm, hS⟩ hR
    obtain rfl : i = n := by omega
    refine codeAny_builtin F.entry_set_update_loop ?_
    rw [Around.under_plainId F.plain_set_update_loop _]
    show wpAny _ A.in1 (pyNext (.ref I) >>= _) _ _ s
    refine wpAny_bind (W.done s _ _ hst fun s' mv => ?_)
    show wpAny _ A.in1 (ret Value.none) _ _ s'
    rw [List.take_of_length_le (by omega : ks.length ≤ i)] at hS
    exact wpAny_pure (hR s' m (mv.mono sub) hm (hS.at fun o e => mv.heap c o hcw e))
  | succ d ih =>
    intro i s hd hi hst ⟨m, hm, hS⟩ hR
    have lt : i < n := by omega
    refine codeAny_builtin F.entry_set_update_loop ?_
    rw [Around.under_plainId F.plain_set_update_loop _]
    show wpAny _ A.in1 (pyNext (.ref I) >>= _) _ _ s
    refine wpAny_bind (W.item i s _ _ lt hst fun v s' hP hst' mv => ?_)
    obtain ⟨z, hz, hk⟩ := hval i v hP
    have hS1 : SW P w s'.heap c (fun j => decide (j ∈ ks.take i)) m := hS.at fun o e => mv.heap c o hcw e
    show wpAny _ A.in1 (holding [v] (setAdd c v) >>= _) _ _ s'
    refine wpAny_bind (wpAny_holding ?_)
    unfold setAdd
    refine wpAny_holding (wpAny_bind ((mixKind P w).pyHash (k := z) hk ?_))
    refine sw_add (s := { s' with toks := s'.toks + 1 }) hk hS1 (by omega) fun hp' u hS2 => ?_
    have hS3 : SW P w hp' c (fun j => decide (j ∈ ks.take (i + 1))) (if decide (z ∈ ks.take i) = true then m else m + 1) := hS2.congr fun j => by
      rw [List.take_add_one, hz]
      simp [List.mem_append]
    have hm3 : (if decide (z ∈ ks.take i) = true then m else m + 1) ≤ i + 1 := by
      split <;> omega
    refine wpAny_pure ⟨plainId_quiet F.plain_set_update_loop _, ih (i + 1) _ (by omega) lt (W.frame _ s' _ _ hst' (Nat.le_succ _) fun b hb o e => ?_) ⟨_, hm3, hS3⟩ fun s2 m2 mv2 hm2 hS4 => ?_⟩
    · rw [u.2 b (fun q : b = c => hcf (by rw [← q]; exact hb))]
      exact e
    · refine hR s2 m2 (Moved.trans W.gtrans ((mv.mono sub).then_heap (Nat.le_succ _) fun b o hb e => ?_) mv2) hm2 hS4
      rw [u.2 b (fun q : b = c => hb (by rw [q]; exact List.mem_cons_self))]
      exact e
/-- set.__init__(c, l): the members of the list l, from left to right -/
theorem sw_init_list {l : Addr} {items : Array Value} (ks : List Key) (hh : A.handled = none) (hl : s.heap.IsList l items) (hit : List.length ks = items.size) (hk : ∀ (i : Nat) (v : Value), items[i]? = some v → ∃ k, ks[i]? = some k ∧ (mixKind P w).is k v = true) (hb : ks.length + 1 < scanBound)
    {R : Result → Shared → Prop} (h : ∀ (h' : Heap) (tk c : Nat), SW P w h' s.heap.objs.size (fun j => decide (j ∈ ks)) c → c ≤ ks.length → (∀ b o, s.heap.get? b = some o → h'.get? b = some o) → R (.ok (.ret .none)) { s with heap := h', toks := tk }) :
    codeAny (model P w) A (.call (.builtin "set.__init__") ⟨[.ref s.heap.objs.size, .ref l], []⟩) R { s with heap := s.heap.push (oSet w) } := by
  have hisz : items.size = ks.length := hit.symm
  have hT : Shared.TypeIs { s with heap := s.heap.push (oSet w) } (.ref s.heap.objs.size) "set" := ⟨_, oSet_in, rfl⟩
  have hi : s.heap.objs.size + 1 = (s.heap.push (oSet w)).objs.size := (Heap.size_push _ _).symm
  refine codeAny_call_builtin PySem.F.called_set.init.plain PySem.F.entry_set_init (check_set_init_1 hT ?_)
  obtain ⟨ol, hol, hcl, nl, hdl⟩ := hl
  obtain ⟨ocls, odict, odata, oslots⟩ := ol
  simp only at hcl hdl
  subst hcl
  subst hdl
  have hol' := Heap.get?_push_of_some (oSet w) hol
  have hl1 : (s.heap.push (oSet w)).IsList l items := ⟨_, hol', rfl, nl, rfl⟩
  have f1 := PySem.F.sub_list_set
  have f2 := PySem.F.sub_list_frozenset
  have f3 : (Value.type "list" == Value.type "dict") = false := by decide
  have hlS : l < s.heap.objs.size := Heap.lt_size hol
  unfold Builtin.«set.__init__» noKeywords Builtin.Frozenset.updateFrom
  generalize hPI : pyIter = PI
  wp_walk
  subst hPI
  refine wpAny_pyIter_list hl1 (wpAny_bind (wpAny_runValue ?_))
  have hh3 : A.in1.in1.handled = none := by simp [hh]
  have nI : l ≠ (s.heap.push (oSet w)).objs.size := by
    rw [← hi]
    exact Nat.ne_of_lt (Nat.lt_succ_of_lt hlS)
  have nS : s.heap.objs.size ∉ [(s.heap.push (oSet w)).objs.size, l] := by
    rw [← hi]
    simp only [List.mem_cons, List.not_mem_nil, or_false, not_or]
    exact ⟨Nat.ne_of_lt (Nat.lt_succ_self _), Nat.ne_of_gt hlS⟩
  refine sw_update ((Walks.list hh3 _ l nI items).toS) s.heap.objs.size nS ks hisz hb hk (items.size - 0) 0 _ (by omega) (Nat.zero_le _) ?hst ?hS0 ?hR
  case hst => exact ⟨⟨_, Heap.get?_push_size _ rfl, rfl, rfl⟩, hl1.push _⟩
  case hS0 =>
    have z : ((s.heap.push (oSet w)).push { cls := .type "list_iterator", data := .fields #[.ref l, .int 0 0] }).get? s.heap.objs.size = some (oSet w) := Heap.get?_push_of_some _ oSet_in
    exact ⟨0, Nat.le_refl 0, (sw_nil z).congr fun k => by simp⟩
  intro s' c hm hc hS
  obtain ⟨h', g', d', tk', os'⟩ := s'
  obtain rfl : g' = s.gens := hm.gens
  obtain rfl : d' = s.drawn := hm.drawn
  obtain rfl : os' = s.os := hm.os
  show wpAny _ _ _ _ _ _
  refine wpAny_pure ?_
  show wpAny _ _ (ret Value.none) _ _ _
  rw [hisz] at hc
  refine wpAny_pure (h h' tk' c hS hc fun b o e => hm.heap b o ?_ (Heap.get?_push_of_some _ (Heap.get?_push_of_some _ e)))
  have hb0 := Heap.lt_size e
  rw [← hi]
  simp only [List.mem_cons, List.not_mem_nil, or_false, not_or]
  exact ⟨Nat.ne_of_lt hb0, Nat.ne_of_lt (Nat.lt_succ_of_lt hb0)⟩
/-- set(l), l a list of ints and texts -/
theorem call_setK_list {l : Addr} {items : Array Value} (ks : List Key) {Q : Value → Shared → Prop} (hh : A.handled = none) (hl : s.heap.IsList l items) (hit : List.length ks = items.size) (hk : ∀ (i : Nat) (v : Value), items[i]? = some v → ∃ k, ks[i]? = some k ∧ (mixKind P w).is k v = true) (hb : ks.length + 1 < scanBound)
    (h : ∀ (h' : Heap) (tk c : Nat), SW P w h' s.heap.objs.size (fun j => decide (j ∈ ks)) c → c ≤ ks.length → (∀ b o, s.heap.get? b = some o → h'.get? b = some o) → Q (.ref s.heap.objs.size) { s with heap := h', toks := tk }) :
    wpAny (model P w) A (call (.type "set") [.ref l]) Q E s := by
  obtain ⟨c, tl, hmro⟩ := PySem.F.called_set.mro
  have hmade := PySem.F.called_set.made
  have hsub := PySem.F.called_set.sub
  have h1 := PySem.F.called_set.notType
  have h2 := PySem.F.called_set.canCreate
  have hct := PySem.F.typeCall_set_1 (.ref l)
  have hli := PySem.F.called_set.init.lookup
  have hbi := PySem.F.called_set.init.bind (.ref s.heap.objs.size)
  refine wpAny_call (codeAny_of_tree ?_)
  show wpAny _ _ (callAny (.type "set") _) _ _ _
  refine wpAny_pure ⟨Code.quiet_builtin _ (by decide +kernel), codeAny_builtin PySem.F.entry_type_call ?_⟩
  rw [Around.under_plain (weight_type_call_type "set" [.ref l] []) rfl]
  repeat (any_goals (first | assumption | wp_step))
  refine codeAny_mono (code_set_led1 (.ref l) (E := E) (Q₁ := fun obj s₁ => obj = .ref s.heap.objs.size ∧ s₁ = { s with heap := s.heap.push (oSet w) }) ⟨rfl, rfl⟩) fun r s₁ hr => ?_
  match r, hr with
  | .error e, hr => exact hr
  | .ok (.ret obj), ⟨e1, e2⟩ =>
    subst e1 e2
    have hT : Shared.TypeIs { s with heap := s.heap.push (oSet w) } (.ref s.heap.objs.size) "set" := ⟨_, oSet_in, rfl⟩
    repeat (any_goals (first | assumption | wp_step))
    refine codeAny_mono (sw_init_list (R := wants (fun r s₂ => r = .none ∧ ∃ h' tk c, s₂ = { s with heap := h', toks := tk } ∧ SW P w h' s.heap.objs.size (fun j => decide (j ∈ ks)) c ∧ c ≤ ks.length ∧
      (∀ b o, s.heap.get? b = some o → h'.get? b = some o)) E) ks (by simp [hh]) hl hit hk hb fun h' tk c a b e => ⟨rfl, h', tk, c, rfl, a, b, e⟩) fun r₂ s₂ hr₂ => ?_
    match r₂, hr₂ with
    | .ok (.ret r), ⟨e1, h', tk, c', e2, hS', hc', hk'⟩ =>
      subst e1 e2
      repeat (any_goals (first | assumption | wp_step))
      exact h _ _ _ hS' hc' hk'
    | .error e, hr₂ => exact hr₂
/-- sorted(c), c a set of texts, fewer than 64 -/
theorem sw_sorted {c : Addr} {S : Key → Bool} {n : Nat} {Q : Value → Shared → Prop} (m : SW P w s.heap c S n) (hS : ∀ k, S k = true → ∃ x, k = Sum.inr x) (hh : A.handled = none) (h64 : n < 64)
    (hQ : ∀ s' p (out : Array Value) (e : Nat) (xs : List Str), (∀ b o, s.heap.get? b = some o → s'.heap.get? b = some o) → s'.gens = s.gens → s'.os = s.os → s.heap.objs.size ≤ p →
      s'.heap.get? p = some (seqObj "list" out e) → StrsAre out.toList xs → sortedS xs = true → xs.Nodup → (∀ x, x ∈ xs ↔ S (Sum.inr x) = true) → xs.length = n → Q (.ref p) s') :
    wpAny (model P w) A (call (.builtin "sorted") [.ref c]) Q E s := by
  obtain ⟨ob, rs, pe, tb, ho, hex, hd, g, nd, hm, hb, hf, hn, hr, hl⟩ := m
  refine Calls.call_function_entry kind_sorted plain_sorted entry_sorted (args_sorted1 _) ?_
  unfold Builtin.«sorted»
  refine wpAny_bind (m := checkCount "sorted" 1 1 _) (wpAny_pure ?_)
  refine wpAny_bind (collect_set (A := A.in1) hh ⟨ob, ho, hex.1, hd⟩ hf hb hr hl fun s1 vs k1 hz g1 o1 pm => ?_)
  have hvl : vs.length = n := by rw [pm.length_eq, List.length_map, Array.length_toList]; exact hn
  have each : ∀ v ∈ vs, ∃ x u, v = Value.str x u ∧ S (Sum.inr x) = true := fun v hv => by
    obtain ⟨r, hr, rfl⟩ := List.mem_map.mp (pm.mem_iff.mp hv)
    obtain ⟨k, q, _⟩ := g r hr
    have hk : S k = true := (hm k).2 ((gd_mem g k).2 ⟨r, hr, q⟩)
    obtain ⟨x, rfl⟩ := hS k hk
    rcases keyIs_shape (show keyIs (Sum.inr x) r.2 = true from q) with ⟨i, u, e, _⟩ | ⟨y, u, e, e2⟩
    · exact nomatch e
    · obtain rfl : x = y := Sum.inr.inj e
      exact ⟨x, u, e2, hk⟩
  have hT : StrsAre vs (vs.map strOf) := strsAre_map vs fun v hv => by
    obtain ⟨x, u, e, _⟩ := each v hv
    exact ⟨x, u, e⟩
  have pk : ((vs.map strOf).map Sum.inr : List Key).Perm (rs.toList.map ky) := by
    have z := pm.map kyV
    rw [List.map_map] at z
    refine List.Perm.trans ?_ z
    rw [List.map_map]
    refine List.Perm.of_eq (List.map_congr_left fun v hv => ?_)
    obtain ⟨x, u, rfl, _⟩ := each v hv
    rfl
  refine wpAny_bind (wpAny_newList ?_ (by rw [hvl, sizeLine_eq]; omega))
  have hoL : (s1.heap.push (seqObj "list" vs.toArray 0)).get? s1.heap.objs.size = some (seqObj "list" vs.toArray 0) := Heap.get?_push_size _ rfl
  refine wpAny_bind (wpAny_holding (wpAny_call_entry slot_list_sort ⟨_, hoL, rfl⟩ entry_list_sort (list_sort_treeK strKind_oneLt hoL hT.keysOf (fun v₁ v₂ rest e => keyKind_strs (by rw [← e]; exact hT)) (by rw [hvl]; exact h64) fun st' hp hs => ⟨_, rfl, ?_⟩) (args_list_sort _)))
  obtain ⟨xs, a1, a2, a3⟩ := sorted_out_str hT hp hs
  generalize (arrOf st').map (·.2) = out at a1
  obtain ⟨e, he⟩ := sortedHeap_at (vs := vs) (out := out) hoL
  have pn : (xs.map Sum.inr : List Key).Perm (rs.toList.map ky) := (a2.map _).trans pk
  have ndx : xs.Nodup := by
    have z : (xs.map Sum.inr : List Key).Nodup := pn.nodup_iff.mpr nd
    exact List.Pairwise.imp (fun h q => h (congrArg Sum.inr q)) (List.pairwise_map.mp z)
  refine wpAny_pure ⟨_, rfl, hQ _ s1.heap.objs.size out e xs (fun b u z => ?_) g1 o1 hz he a1 a3 ndx (fun x => ?_) ?_⟩
  · have q := k1 b u z
    have lt := Heap.lt_size q
    show (sortedHeap (s1.heap.push (seqObj "list" vs.toArray 0)) s1.heap.objs.size vs out).get? b = some u
    rw [sortedHeap_old (Nat.ne_of_lt lt) (by rw [size_push']; exact Nat.lt_succ_of_lt lt)]
    exact Heap.get?_push_of_some _ q
  · rw [hm, ← pn.mem_iff, List.mem_map]
    exact ⟨fun h => ⟨x, h, rfl⟩, fun ⟨y, h, q⟩ => (Sum.inr.inj q) ▸ h⟩
  · have z := pn.length_eq
    simp only [List.length_map, Array.length_toList] at z
    rw [z]
    exact hn
end
/-- set(l) as a rule -/
def rSetKL (K : PySem.W.Frag) (P : Program) (w : World) : List V → Hp → VK → Prop := fun xs H Q => ∃ (l : Addr) (ks : List Key), xs = [.ref l] ∧ SqL K H l (ks.map kV) ∧ ks.length ≤ 1000 ∧
  ∀ (p : Addr) (S : Key → Bool) (n : Nat), H p = none → (∀ k, S k = true ↔ k ∈ ks) → n ≤ ks.length → Q (.ref p) (upd H p (SWO P w p S n))
theorem vals_keys {P : Program} {w : World} : ∀ {ks : List Key} {us : List Value}, Vals (ks.map kV) us → ks.length = us.length ∧ ∀ (i : Nat) (v : Value), us[i]? = some v → ∃ k, ks[i]? = some k ∧ (mixKind P w).is k v = true
  | [], _, r => by
    cases r
    exact ⟨rfl, fun i v h => by simp at h⟩
  | k :: ks, _, r => by
    rw [List.map_cons] at r
    cases r with
    | cons h t =>
      obtain ⟨h1, h2⟩ := vals_keys (P := P) (w := w) t
      refine ⟨congrArg Nat.succ h1, fun i v hv => ?_⟩
      match i, hv with
      | 0, hv =>
        simp at hv
        subst hv
        exact ⟨k, rfl, kV_is h⟩
      | i + 1, hv => exact h2 i v (by simpa using hv)
section
variable {X : Cx}
theorem cr_setKL (hc : X.calm = true) : CallR X (.type "set") (rSetKL X.K X.prog X.w) := by
  intro pins s σ H xs us Q I r h
  obtain ⟨l, ks, rfl, hs, hl, q⟩ := h
  obtain ⟨u, rfl, r1⟩ := vals1 r
  obtain rfl : u = Value.ref l := r1
  obtain ⟨its, rv, pl, _⟩ := I.list hs
  obtain ⟨h1, h2⟩ := vals_keys (P := X.prog) (w := X.w) rv
  refine call_setK_list ks (I.ok.hd hc) pl.isList (by simpa using h1) (fun i v hv => h2 i v (by simpa using hv)) (by unfold scanBound; omega) fun h' tk c hS hcl hk => ?_
  exact ⟨.ref s.heap.objs.size, upd H s.heap.objs.size (SWO X.prog X.w s.heap.objs.size (fun j => decide (j ∈ ks)) c), I.laid hk (Nat.le_refl _) (swo_new hS), rfl, q _ _ _ (I.hok.fresh (Nat.le_refl _)) (fun k => decide_eq_true_iff) hcl⟩
/-- sorted(c) as a rule -/
def rSortedSW (P : Program) (w : World) : List V → Hp → VK → Prop := fun vs H Q => ∃ (c : Addr) (S : Key → Bool) (n : Nat), vs = [V.ref c] ∧ H c = some (SWO P w c S n) ∧ n < 64 ∧ (∀ k, S k = true → ∃ x, k = Sum.inr x) ∧
  ∀ (xs : List Str) (p : Addr), sortedS xs = true → xs.Nodup → (∀ x, x ∈ xs ↔ S (Sum.inr x) = true) → xs.length = n → H p = none → Q (.ref p) (upd H p (.lst (xs.map V.str)))
theorem cr_sortedSW (hc : X.calm = true) : CallR X (.builtin "sorted") (rSortedSW X.prog X.w) := by
  intro pins s σ H vs us Q I r h
  obtain ⟨c, S, n, rfl, ha, h64, hS, q⟩ := h
  rw [Vals.ref1 r]
  refine sw_sorted (swo_get I ha) hS (I.ok.hd hc) h64 fun s' p out e xs k g o hp hg hi hs nd hm hl => ?_
  have hlen : (xs.map V.str).length ≤ sizeLine := by rw [List.length_map, hl, sizeLine_eq]; omega
  have hn : H p = none := I.hok.fresh hp
  have J : Inv X pins σ (upd H p (.lst (xs.map V.str))) { s with heap := s'.heap, gens := s'.gens, drawn := s'.drawn, toks := s'.toks } :=
    I.call (ch := []) (Un.laid k hp hn) (I.hok.laid k hp ⟨hlen, out.toList, e, vals_of_strs hi, hg⟩) (by rw [g]; exact I.bare) (fun _ z => nomatch z)
  have es : s' = { s with heap := s'.heap, gens := s'.gens, drawn := s'.drawn, toks := s'.toks } := by
    cases s'
    cases s
    cases o
    rfl
  rw [es]
  exact ⟨.ref p, _, J, rfl, q xs p hs nd hm hl hn⟩
end
end LG
/-! Sorted lists of places: there is but one of the same places. -/
namespace TM
open PySem PySem.Spec PyProof.Rows L2 LG Evl
def ix (x : Str) : Nat := names.findIdx (fun y => decide (y = x))
theorem ix_inj : ∀ x ∈ names, ∀ y ∈ names, ix x = ix y → x = y := by decide +kernel
theorem ix_lt : ∀ x ∈ names, ∀ y ∈ names, ltCps y.cps.toList x.cps.toList = false → x ≠ y → ix x < ix y := by decide +kernel
theorem pw_ix : ∀ {x : Str} {xs : List Str}, (∀ y ∈ x :: xs, y ∈ names) → (x :: xs).Nodup → risingS x xs = true → ((x :: xs).map ix).Pairwise (· < ·)
  | x, [], _, _, _ => by simp
  | x, y :: r, hn, nd, h => by
    rw [risingS, Bool.and_eq_true, Bool.not_eq_true'] at h
    rw [List.nodup_cons] at nd
    have ih := pw_ix (fun z hz => hn z (List.mem_cons_of_mem _ hz)) nd.2 h.2
    have hxy : ix x < ix y := ix_lt x (hn x List.mem_cons_self) y (hn y (List.mem_cons_of_mem _ List.mem_cons_self)) h.1 fun z => nd.1 (z ▸ List.mem_cons_self)
    rw [List.map_cons, List.pairwise_cons]
    refine ⟨fun k hk => ?_, ih⟩
    rw [List.map_cons, List.pairwise_cons] at ih
    rw [List.map_cons] at hk
    rcases List.mem_cons.mp hk with rfl | hk
    · exact hxy
    · exact Nat.lt_trans hxy (ih.1 k hk)
theorem pw_of {xs : List Str} (hn : ∀ y ∈ xs, y ∈ names) (nd : xs.Nodup) (h : sortedS xs = true) : (xs.map ix).Pairwise (· < ·) := by
  cases xs with
  | nil => simp
  | cons x r => exact pw_ix hn nd h
theorem pw_unique : ∀ {xs ys : List Nat}, xs.Pairwise (· < ·) → ys.Pairwise (· < ·) → (∀ n, n ∈ xs ↔ n ∈ ys) → xs = ys
  | [], [], _, _, _ => rfl
  | [], y :: ys, _, _, h => absurd ((h y).mpr List.mem_cons_self) List.not_mem_nil
  | x :: xs, [], _, _, h => absurd ((h x).mp List.mem_cons_self) List.not_mem_nil
  | x :: xs, y :: ys, hx, hy, h => by
    rw [List.pairwise_cons] at hx hy
    have e : x = y := by
      rcases List.mem_cons.mp ((h x).mp List.mem_cons_self) with e | e
      · exact e
      · rcases List.mem_cons.mp ((h y).mpr List.mem_cons_self) with e2 | e2
        · exact e2.symm
        · have h1 := hx.1 y e2
          have h2 := hy.1 x e
          omega
    subst e
    rw [pw_unique hx.2 hy.2 fun n => ⟨fun hn => ?_, fun hn => ?_⟩]
    · rcases List.mem_cons.mp ((h n).mp (List.mem_cons_of_mem _ hn)) with e | e
      · have := hx.1 n hn
        omega
      · exact e
    · rcases List.mem_cons.mp ((h n).mpr (List.mem_cons_of_mem _ hn)) with e | e
      · have := hy.1 n hn
        omega
      · exact e
theorem map_ix_inj : ∀ {xs ys : List Str}, (∀ y ∈ xs, y ∈ names) → (∀ y ∈ ys, y ∈ names) → xs.map ix = ys.map ix → xs = ys
  | [], [], _, _, _ => rfl
  | [], _ :: _, _, _, h => by simp at h
  | _ :: _, [], _, _, h => by simp at h
  | x :: xs, y :: ys, h1, h2, h => by
    rw [List.map_cons, List.map_cons, List.cons.injEq] at h
    rw [ix_inj x (h1 x List.mem_cons_self) y (h2 y List.mem_cons_self) h.1, map_ix_inj (fun z hz => h1 z (List.mem_cons_of_mem _ hz)) (fun z hz => h2 z (List.mem_cons_of_mem _ hz)) h.2]
/-- xs: the places of t, sorted, each once -/
structure Spots (xs : List Str) (t : Tree) : Prop where
  s : sortedS xs = true
  nd : xs.Nodup
  mem : ∀ x, x ∈ xs ↔ x ∈ t.places
theorem Spots.unique {xs ys : List Str} {t : Tree} (ok : Ok t) (hx : Spots xs t) (hy : Spots ys t) : xs = ys := by
  have h1 : ∀ y ∈ xs, y ∈ names := fun y h => ok.names y ((hx.mem y).mp h)
  have h2 : ∀ y ∈ ys, y ∈ names := fun y h => ok.names y ((hy.mem y).mp h)
  refine map_ix_inj h1 h2 (pw_unique (pw_of h1 hx.nd hx.s) (pw_of h2 hy.nd hy.s) fun n => ?_)
  rw [List.mem_map, List.mem_map]
  exact ⟨fun ⟨x, h, e⟩ => ⟨x, (hy.mem x).mpr ((hx.mem x).mp h), e⟩, fun ⟨x, h, e⟩ => ⟨x, (hx.mem x).mpr ((hy.mem x).mp h), e⟩⟩
theorem Spots.len {xs : List Str} {t : Tree} (ok : Ok t) (h : Spots xs t) : xs.length ≤ 8 := List.Nodup.length_le_of_subset (l₂ := names) h.nd fun x hx => ok.names x ((h.mem x).mp hx)
theorem Spots.few {xs : List Str} {zs : List V} {t : Tree} (h : Spots xs t) (pl : Pl zs t) : xs.length ≤ zs.length := by
  have z : (xs.map V.str).Nodup := List.Pairwise.map V.str (fun a b hab z => hab (V.str.inj z)) h.nd
  have := List.Nodup.length_le_of_subset (l₂ := zs) z fun v hv => by
    obtain ⟨x, hx, rfl⟩ := List.mem_map.mp hv
    exact pl x ((h.mem x).mp hx)
  simpa using this
/-! ### sorted(c), the members told ahead -/
def rSortedSWN (P : Program) (w : World) : List V → Hp → VK → Prop := fun vs H Q => ∃ (c : Addr) (S : Key → Bool) (n : Nat) (ns : List Str), vs = [V.ref c] ∧ H c = some (SWO P w c S n) ∧ ns.length < 64 ∧ (∀ k, S k = true → ∃ x ∈ ns, k = Sum.inr x) ∧
  ∀ (xs : List Str) (p : Addr), sortedS xs = true → xs.Nodup → (∀ x, x ∈ xs ↔ S (Sum.inr x) = true) → H p = none → Q (.ref p) (upd H p (.lst (xs.map V.str)))
theorem cr_sortedSWN {X : Cx} (hc : X.calm = true) : CallR X (.builtin "sorted") (rSortedSWN X.prog X.w) := by
  intro pins s σ H vs us Q I r h
  obtain ⟨c, S, n, ns, rfl, ha, hl, hS, q⟩ := h
  refine cr_sortedSW hc pins s σ H [V.ref c] us Q I r ⟨c, S, n, rfl, ha, ?_, fun k hk => let ⟨x, _, e⟩ := hS k hk; ⟨x, e⟩, fun xs p h1 h2 h3 _ h5 => q xs p h1 h2 h3 h5⟩
  obtain ⟨ob, rs, pe, tb, ho, hx, hd, g, nd, hm, hb, hf, hn, _⟩ := swo_get I ha
  have h1 : (rs.toList.map ky).length ≤ (ns.map (Sum.inr : Str → Key)).length := List.Nodup.length_le_of_subset nd fun k hk => by
    obtain ⟨x, hx, e⟩ := hS k ((hm k).mpr hk)
    rw [e]
    exact List.mem_map.mpr ⟨x, hx, rfl⟩
  rw [List.length_map, List.length_map, Array.length_toList] at h1
  omega
end TM
namespace K12
open PySem PySem.Spec PyProof.Rows L2 LG Evl
section
variable {P : Program} {w : World} {K : PySem.W.Frag} {mg : Str → Option Value} {base : Heap} {a : At}
/-! ### Term.places -/
def sp_Term_places (a : At) : Sp := fun vs H Q _ => ∃ v t, vs = [v] ∧ TM.TmAt (csOf a) H v t ∧ TM.Ok t ∧ t.depth ≤ 3 ∧ ∀ p xs H', H p = none → Ex H H' → TM.Spots xs t → H' p = some (.lst (xs.map V.str)) → Q (.ref p) H'
theorem fn_Term_places (T : Txt K mg a) : Fn P w K mg base 8 a.m_Term_places (sp_Term_places a) := by
  have G_places_in := ok_places_in (P := P) (w := w) (base := base) T 5
  obtain ⟨fd, F⟩ := T.m_Term_places.F
  refine Fn.of F sc_Term_places (F.binds fun _ _ _ _ _ _ us hl => match us, hl with | [_], _ => rfl) (fun vs H Q E h => ?_) (fun cdv A outer s H vs Q E hg hr hcd h => ?_)
  · obtain ⟨_, _, rfl, _⟩ := h
    rfl
  · obtain ⟨v, t, rfl, ht, ok, hd, q⟩ := h
    have nd := sc_Term_places.nd
    refine ⟨_, pss_one (ps_ret (pe_callB (TM.cr_sortedSWN rfl) (by rfl) T.z_sorted (by decide +kernel) (pa_cons (pe_scK setK rfl (own := [("place", 1)]) (g := gName 1) (by exact nd) (pi_list (pe_fn G_places_in hg (hr.mono (by decide)) T.d_places_in.kp T.d_places_in.m (by rfl) passL (pa_cons (pv 0) pa_nil))) (blkOk_by (own := [("place", 1)]) (N := ["self", "place"]) (sc := defScope s_Term_places) (by decide +kernel)) (fun _ _ _ _ _ => (pg_name (i := 1) nd rfl (.inl rfl))) (fun _ _ _ _ _ => pts_nil) (fun _ _ _ _ _ => (pv 1))) pa_nil))), ?_⟩
    have hlen := TM.places_len 3 t ok hd
    refine ⟨v, rfl, v, t, rfl, ht, ok, by omega, by omega, fun l H1 hl e1 h1 => ?_⟩
    refine ⟨l, rfl, ⟨_, sq_of h1⟩, fun D hD => ?_⟩
    refine sc_list setK (K := K) (a := l) (xs := t.places.map V.str) (fun i H2 => Ex H1 H2 ∧ ∃ S n, H2 D = some (SWO P w D S n) ∧ n ≤ i ∧ ∀ k, S k = true ↔ ∃ x ∈ t.places.take i, k = Sum.inr x) ⟨Ex.new hD, fun _ => false, 0, upd_same, Nat.le_refl _, fun k => by simp⟩ (fun i H2 _ h => sq_of (h.1 _ _ h1)) (fun i x H2 hi h => ?_) (fun H2 h => ?_)
    · rw [List.getElem?_map] at hi
      obtain ⟨n, hn, rfl⟩ := Option.map_eq_some_iff.mp hi
      obtain ⟨e2, S, m, hS, hm, hk⟩ := h
      have hlt := (List.getElem?_eq_some_iff.mp hn).1
      refine ⟨rfl, .str n, rfl, Sum.inr n, S, m, rfl, hS, by unfold scanBound; omega, (e2.mut hD), _, _, upd_same, by split <;> omega, fun k => ?_⟩
      rw [Bool.or_eq_true, hk, decide_eq_true_iff, List.take_succ, hn]
      constructor
      · rintro (⟨x, hx, e⟩ | e)
        · exact ⟨x, List.mem_append_left _ hx, e⟩
        · exact ⟨n, List.mem_append_right _ (by simp), e⟩
      · rintro ⟨x, hx, e⟩
        rcases List.mem_append.mp hx with hx | hx
        · exact .inl ⟨x, hx, e⟩
        · simp at hx
          exact .inr (hx ▸ e)
    · obtain ⟨e2, S, m, hS, hm, hk⟩ := h
      rw [List.length_map, List.take_length] at hk
      refine ⟨D, S, m, TM.names, rfl, hS, by decide, fun k h => ?_, fun xs p hs hnd hx hp => ?_⟩
      · obtain ⟨x, hx, e⟩ := (hk k).mp h
        exact ⟨x, ok.names x hx, e⟩
      · have e3 := e1.trans e2
        refine q p xs _ (fresh_back e3 hp) (e3.trans (Ex.new hp)) ⟨hs, hnd, fun x => ?_⟩ upd_same
        rw [hx, hk]
        exact ⟨fun ⟨y, hy, e⟩ => by cases e; exact hy, fun h => ⟨x, h, rfl⟩⟩
end
end K12
/-! Dicts with any keys, told by their entries: made by d[None] = v and d[(..)] = v; isinstance; the walk over the keys. -/
namespace LG
open PySem PySem.Spec PyProof.Rows L2 Evl
def EnV : List (V × V) → List DictEntry → Prop := Paired fun p e => RelV p.1 e.key ∧ RelV p.2 e.val
/-- a dict, by the values of its keys and what stands there -/
def odE (a : Addr) (kvs : List (V × V)) : HO := .ext fun h => (a == sysModules) = false ∧ ∃ o es ep, h.get? a = some o ∧ o.ExactDict ∧ o.data = .dict es ep ∧ EnV kvs es.toList
theorem odE_ok {P : Program} {w : World} {H : Hp} {h : Heap} {a : Addr} {kvs : List (V × V)} {o : Obj} {es : Array DictEntry} {ep : Nat} (hs : (a == sysModules) = false) (ho : h.get? a = some o) (hx : o.ExactDict) (hd : o.data = .dict es ep) (hv : EnV kvs es.toList) : ObjOk P w H h a (odE a kvs) :=
  ⟨⟨hs, o, es, ep, ho, hx, hd, hv⟩, ⟨o, ho⟩, fun h1 h2 ⟨hs, o, es, ep, ho, r⟩ k => ⟨hs, o, es, ep, k o ho, r⟩⟩
theorem pairs_none {P : Program} {w : World} : ∀ {es : List DictEntry} {vs : List (Key × Value)}, Pairs (mixKind P w) es vs → Pairs (noneKind P w) es (vs.map fun kv => (some kv.1, kv.2))
  | _, _, .nil => .nil
  | _, _, .cons h1 h2 t => .cons (show nkIs (some _) _ = true from h1) h2 (pairs_none t)
theorem dict_none {P : Program} {w : World} {h : Heap} {a : Addr} {vs : List (Key × Value)} (d : h.DictOf (mixKind P w) a vs) : h.DictOf (noneKind P w) a (vs.map fun kv => (some kv.1, kv.2)) := by
  obtain ⟨o, es, ep, ho, hx, hdt, hk, hp, hn⟩ := d
  refine ⟨o, es, ep, ho, hx, hdt, fun e he => ?_, pairs_none hp, ?_⟩
  · obtain ⟨k, h1, h2⟩ := hk e he
    exact ⟨some k, h1, h2⟩
  · rw [List.map_map]
    show (vs.map fun kv => (some kv.1 : Option Key)).Nodup
    rw [show (vs.map fun kv => (some kv.1 : Option Key)) = (vs.map (·.1)).map some by rw [List.map_map]; rfl]
    exact List.Pairwise.map some (fun x y z q => z (Option.some.inj q)) hn
theorem env_of {P : Program} {w : World} : ∀ {kvs : List (Key × V)} {vs : List (Key × Value)} {es : List DictEntry}, KV kvs vs → Pairs (mixKind P w) es vs → EnV (kvs.map fun kv => (kV kv.1, kv.2)) es
  | _, _, _, .nil, .nil => .nil
  | _, _, _, .cons hk hr, .cons ik ev hp => by
    refine Paired.cons ⟨?_, ?_⟩ (env_of hr hp)
    · have e1 := hk.1
      refine relV_key ?_
      rw [e1]
      exact ik
    · rw [ev]
      exact hk.2
theorem env_none {P : Program} {w : World} {v : V} {r : Value} : ∀ {kvs : List (Key × V)} {vs : List (Key × Value)} {es : List DictEntry}, RelV v r → KV kvs vs → Pairs (noneKind P w) es ((vs.map fun kv => (some kv.1, kv.2)) ++ [(none, r)]) → EnV ((kvs.map fun kv => (kV kv.1, kv.2)) ++ [(.non, v)]) es
  | _, _, _, rv, .nil, .cons ik ev .nil => by
    refine Paired.cons ⟨nk_none ik, ?_⟩ .nil
    rw [ev]
    exact rv
  | _, _, _, rv, .cons hk hr, .cons ik ev hp => by
    refine Paired.cons ⟨?_, ?_⟩ (env_none rv hr hp)
    · have e1 := hk.1
      refine relV_key ?_
      rw [e1]
      exact ik
    · rw [ev]
      exact hk.2
section
variable {P : Program} {w : World} {A : Around} {E : Value → Shared → Prop} {s : Shared} {d T : Addr} {items : Array Value}
theorem tell_tup {stored : List Value} {Q : Bool → Shared → Prop} (hq : ∀ Q' : Bool → Shared → Prop, Q' true s → wpAny (model P w) A (eqIsQuiet 8 (.ref T)) Q' E s) (hst : ∀ v ∈ stored, ∃ x t, v = .str x t) (h : Q false s) :
    wpAny (model P w) A (tableMayTell (.ref T) stored) Q E s := by
  unfold tableMayTell
  split
  · exact wpAny_pure h
  · refine wpAny_bind (hq _ ?_)
    simp only [Bool.not_true, Bool.false_eq_true, if_false]
    refine wpAny_bind ?_
    refine wpAny_forIn_list _ (fun rest r s' => s' = s ∧ r = (none, ()) ∧ ∀ v ∈ rest, ∃ x t, v = .str x t) _ ?_ ?_ _ _ ⟨rfl, rfl, hst⟩
    · rintro x rest r s' ⟨rfl, rfl, hr⟩
      obtain ⟨y, t, rfl⟩ := hr x List.mem_cons_self
      rw [eqIsQuiet_byValue 8 (show carriedByValue (.str y t) = true from rfl)]
      refine wpAny_bind (wpAny_pure ?_)
      simp only [Bool.not_true, Bool.false_eq_true, if_false]
      exact wpAny_pure ⟨rfl, rfl, fun v hv => hr v (List.mem_cons_of_mem _ hv)⟩
    · rintro r s' ⟨rfl, rfl, _⟩
      exact wpAny_pure h
/-- a tuple is no key of a dict of texts -/
theorem find_tup {o : Obj} {es : Array DictEntry} {ep : Nat} {hsh : Int} {Q : Option Nat → Shared → Prop} (hu : A.units < cLine) (hT : s.heap.IsTuple T items)
    (hq : ∀ Q' : Bool → Shared → Prop, Q' true s → wpAny (model P w) A (eqIsQuiet 8 (.ref T)) Q' E s)
    (ho : s.heap.get? d = some o) (hd : o.data = .dict es ep) (hk : ∀ e ∈ es, ∃ x t, e.key = .str x t) (h : Q none s) : wpAny (model P w) A (dictFind d (.ref T) hsh) Q E s := by
  have hany : ¬ (es.any fun e => e.key == Value.ref T && e.hash != hsh) = true := by
    rw [← Array.any_toList, List.any_eq_true]
    rintro ⟨e, hin, hc⟩
    obtain ⟨x, t, hx⟩ := hk e (Array.mem_toList_iff.mp hin)
    rw [hx] at hc
    simp at hc
  have hst : ∀ v ∈ (placesWithHash es.size (fun i => es[i]?.map (·.hash)) hsh).filterMap (fun i => es[i]?.map (·.key)), ∃ x t, v = .str x t := by
    intro v hv
    obtain ⟨i, _, hi⟩ := List.mem_filterMap.mp hv
    cases hei : es[i]? with
    | none => rw [hei] at hi; cases hi
    | some e =>
      rw [hei] at hi
      obtain rfl : e.key = v := by simpa using hi
      exact hk e (Array.mem_of_getElem? hei)
  unfold dictFind
  try with_reducible refine wpAny_holding ?_
  refine wpAny_bind (wpAny_dictEntries ho hd ?_)
  dsimp only
  rw [if_neg (show ¬ ((Value.ref T :: (placesWithHash es.size (fun i => es[i]?.map (·.hash)) hsh).filterMap (fun i => es[i]?.map (·.key))).all carriedByValue) = true by simp [carriedByValue])]
  rw [if_neg hany]
  by_cases hone : (((placesWithHash es.size (fun i => es[i]?.map (·.hash)) hsh).filterMap (fun i => es[i]?.map (·.key))) == [Value.ref T]) = true <;>
  (first | rw [if_pos hone] | rw [if_neg hone]) <;> (first | refine wpAny_bind (wpAny_pure ?_) | refine wpAny_bind (tell_tup hq hst ?_)) <;> (
    rw [if_neg (by simp)]
    refine wpAny_bind ?_
    refine wpAny_forIn_list _ (fun rest b s' => s' = s ∧ b = (none, none)) _ ?_ ?_ _ _ ⟨rfl, rfl⟩
    · rintro x rest b s' ⟨rfl, rfl⟩
      cases hex : es[x]? with
      | none => exact wpAny_pure ⟨rfl, rfl⟩
      | some e =>
        dsimp only
        by_cases hh : (e.hash == hsh) = true
        · rw [if_pos hh]
          obtain ⟨y, t, hy⟩ := hk e (Array.mem_of_getElem? hex)
          rw [hy]
          refine wpAny_bind (wpAny_dictEpoch ho hd (wpAny_bind (SeqAt.EqAt.str_tuple y t hT hu P w E _ (wpAny_bind (wpAny_dictEpoch ho hd ?_)))))
          show wpAny _ _ (if (ep != ep) = true then _ else _) _ E _
          rw [if_neg (by simp)]
          simp only [Bool.false_eq_true, if_false]
          refine wpAny_bind (wpAny_rule ?_)
          first | rw [if_neg (by simp)] | skip
          first
            | exact wpAny_pure ⟨rfl, rfl⟩
            | exact wpAny_bind (wpAny_pure (wpAny_pure ⟨rfl, rfl⟩))
        · rw [if_neg hh]
          exact wpAny_pure ⟨rfl, rfl⟩
    · rintro b s' ⟨rfl, rfl⟩
      exact wpAny_pure h)
theorem set_tup {o : Obj} {es : Array DictEntry} {ep : Nat} {ks : List Key} {v : Value} {Q : Unit → Shared → Prop} (hu : A.units + 1 < cLine) (hT : (tupleKind (mixKind P w)).is s.heap ks T)
    (ho : s.heap.get? d = some o) (hc : o.ExactDict) (hd : o.data = .dict es ep) (hz : es.size ≤ sizeLine) (hk : ∀ e ∈ es, ∃ x t, e.key = .str x t)
    (hQ : ∀ h' ob tk n, h'.get? d = some ob → ob.ExactDict → (∃ hh, ob.data = .dict (es.push ⟨hh, .ref T, v⟩) n) → Heap.SameBut d s.heap h' → Q () { s with heap := h', toks := tk }) :
    wpAny (model P w) A (setItem (.ref d) (.ref T) v) Q E s := by
  have hty : s.TypeIs (.ref d) "dict" := ⟨o, ho, hc.1⟩
  have hr := tupleKind_room_in1 (knd := mixKind P w) hu
  unfold setItem
  try with_reducible refine wpAny_holding ?_
  refine wpAny_bind (wpAny_sequenceKey hty (by decide) ?_)
  refine wpAny_bind (wpAny_callSpecial?_slot (name := Str.ofString "__setitem__") hty PySem.F.slot_dict_setitem
    (wpAny_call_entry PySem.F.slot_dict_setitem hty PySem.F.entry_dict_setitem ?_ (PySem.F.args_dict_setitem_3 _ _ _)))
  show wpAny _ _ (Builtin.Dict.notOrdered "__setitem__" ⟨[.ref d, .ref T, v], []⟩ >>= _) _ _ s
  refine wpAny_bind (wpAny_notOrdered_dict hty ?_)
  show wpAny _ _ (dictSet d (.ref T) v >>= _) _ _ s
  refine wpAny_bind ?_
  unfold dictSet
  try with_reducible refine wpAny_holding ?_
  refine wpAny_bind ((tupleKind (mixKind P w)).pyHash hr hT ?_)
  unfold dictSetHashed
  try with_reducible refine wpAny_holding ?_
  obtain ⟨oT, its, n, h1, h2, h3, h4⟩ := (show IsTupleKey (mixKind P w) s.heap ks T from hT)
  refine wpAny_bind (find_tup (items := its) (s := { s with toks := s.toks + (tupleKind (mixKind P w)).draws ks }) hr ⟨oT, h1, h2, n, h3⟩ (fun Q' q => (tupleKind (mixKind P w)).quiet (s := { s with toks := s.toks + (tupleKind (mixKind P w)).draws ks }) (k := ks) hT q) ho hd hk ?_)
  exact wpAny_bind (wpAny_rule (wpAny_updateDictKeys (hz := hz) (s := { s with toks := s.toks + (tupleKind (mixKind P w)).draws ks }) ho hd (wpAny_pure ⟨.none, rfl, wpAny_pure (hQ _ _ _ (ep + 1) (Heap.get?_update_self _ ho (Obj.isFreed_of_dict (Obj.data_mapDictKeys hd _))) (hc.mapDictKeys _) ⟨_, Obj.data_mapDictKeys hd _⟩ (Heap.SameBut.update ..))⟩)))
end
end LG
namespace LG
open PySem PySem.Spec PyProof.Rows L2 Evl
/-! ### isinstance -/
def rIsiO (K : PySem.W.Frag) : List V → Hp → VK → Prop := fun xs H Q => rIsi K xs H Q ∨ ∃ a kvs T b, xs = [.ref a, .ty T] ∧ H a = some (odE a kvs) ∧ PySem.W.kitOne K (.type "dict") (.type T) = some b ∧ Q (.bl b) H
theorem call_isiO {X : Cx} : CallR X (.builtin "isinstance") (rIsiO X.K) := by
  intro pins s σ H xs us Q I r h
  rcases h with h | ⟨a, kvs, T, b, rfl, ha, e, q⟩
  · exact call_isi pins s σ H xs us Q I r h
  · obtain ⟨u1, u2, rfl, r1, r2⟩ := vals2 r
    cases (show u1 = Value.ref a from r1)
    cases (show u2 = Value.type T from r2)
    obtain ⟨⟨_, o, es, ep, ho, hx, _⟩, _⟩ := (show ObjOk X.prog X.w H s.heap a (odE a kvs) from I.hok a _ ha)
    exact PySem.W.kia_one PySem.W.kitx_dict I.kIn ⟨o, ho, hx.1⟩ e (fun z => nomatch z) fun tk => ⟨.bl b, H, I.tok tk, rfl, q⟩
/-! ### d[k] = v -/
def rSetO : TSet := fun o i v H Q => rSetD o i v H Q ∨ ∃ a kvs, o = .ref a ∧ H a = some (.dK kvs) ∧ (∀ kv ∈ kvs, ∃ x, kv.1 = Sum.inr x) ∧ kvs.length < sizeLine ∧ (i = .non ∨ ∃ (T : Addr) (ks : List Key), i = .ref T ∧ H T = some (.tup (ks.map kV))) ∧ Q (upd H a (odE a ((kvs.map fun kv => (kV kv.1, kv.2)) ++ [(i, v)])))
theorem set_odd {X : Cx} (hu : X.A.units + 1 < cLine) : PSet X rSetO := by
  intro pins s σ H o i v ov iv u Q I ro ri rv h
  rcases h with h | ⟨a, kvs, rfl, ha, hk, hl, hi, q⟩
  · exact set_dict hu pins s σ H o i v ov iv u Q I ro ri rv h
  · cases (show ov = Value.ref a from ro)
    obtain ⟨z, hsys, vs, rel, dd⟩ := dk_of I.hok ha
    rcases hi with rfl | ⟨T, ks, rfl, hT⟩
    · cases (show iv = Value.none from ri)
      have hz : (vs.map fun kv => ((some kv.1 : Option Key), kv.2)).length ≤ sizeLine := by
        rw [List.length_map, ← rel.length]
        exact z
      refine wpAny_setItem_pairs (hsz := hz) (knd := noneKind X.prog X.w) (k := none) (show nkIs none .none = true from rfl) (dict_none dd) fun h' dd' hs => ?_
      have hno : ¬ ((vs.map fun kv => ((some kv.1 : Option Key), kv.2)).any fun kv => decide (kv.1 = none)) = true := by
        rw [List.any_eq_true]
        rintro ⟨x, hx, hc⟩
        obtain ⟨y, _, rfl⟩ := List.mem_map.mp hx
        exact nomatch (of_decide_eq_true hc)
      unfold stored at dd'
      rw [if_neg hno] at dd'
      obtain ⟨ob, es, ep, ho, hx, hd, _, hp, _⟩ := dd'
      exact ⟨_, d_write I (by rw [ha]; exact True.intro) hs ⟨_, ho⟩ (odE_ok hsys ho hx hd (env_none rv rel hp)), q⟩
    · cases (show iv = Value.ref T from ri)
      obtain ⟨o, es, ep, ho, hx, hd, _, hp, _⟩ := dd
      have hlen : es.size = vs.length := by
        have := hp.length
        rw [← this]
        simp
      have hkv : ∀ {kvs : List (Key × V)} {vs : List (Key × Value)} {es : List DictEntry}, KV kvs vs → Pairs (mixKind X.prog X.w) es vs → (∀ kv ∈ kvs, ∃ x, kv.1 = Sum.inr x) → ∀ e ∈ es, ∃ x t, e.key = .str x t := by
        intro kvs vs es r
        induction r generalizing es with
        | nil =>
          intro p _ e he
          cases p
          exact absurd he List.not_mem_nil
        | cons hk hr ih =>
          intro p h e he
          cases p with
          | cons ik ev hp =>
            rcases List.mem_cons.mp he with rfl | he
            · obtain ⟨x, hx⟩ := h _ List.mem_cons_self
              rw [← hk.1, hx] at ik
              obtain ⟨t, ht⟩ := Value.isStrOf_shape (show Value.isStrOf x _ = true from ik)
              exact ⟨x, t, ht⟩
            · exact ih hp (fun kv hkv => h kv (List.mem_cons_of_mem _ hkv)) e he
      refine set_tup hu (key_of I.hok hT) ho hx hd (by rw [hlen, ← rel.length]; exact z) (fun e he => hkv rel hp hk e (Array.mem_toList_iff.mpr he)) fun h' ob tk n ho' hx' ⟨hh, hd'⟩ hs => ?_
      refine ⟨_, d_write I (by rw [ha]; exact True.intro) hs ⟨_, ho'⟩ (odE_ok hsys ho' hx' hd' ?_), q⟩
      rw [Array.toList_push]
      exact Paired.snoc (env_of rel hp) ⟨rfl, rv⟩
/-! ### the walk over the keys -/
def Itko (d : Addr) (o : Obj) (kvs : List (V × V)) : It :=
  ⟨fun i H => H d = some (.frz o (odE d kvs)) ∧ i < kvs.length, fun i H x H' => H' = H ∧ ∃ v, kvs[i]? = some (x, v), fun i H => H d = some (.frz o (odE d kvs)) ∧ kvs.length ≤ i⟩
section
variable {X : Cx} {pins : List (Addr × Obj)} {σ : L2.St} {H : Hp} {s : Shared} {d : Addr} {o : Obj}
theorem frzO {kvs : List (V × V)} (I : Inv X pins σ H s) (h : H d = some (.frz o (odE d kvs))) :
    (d == sysModules) = false ∧ s.heap.get? d = some o ∧ o.ExactDict ∧ ∃ (es : Array DictEntry) (ep : Nat), o.data = .dict es ep ∧ es.size = kvs.length ∧ EnV kvs es.toList := by
  obtain ⟨hd, ⟨hs, o', es, ep, ho, hx, hdt, hv⟩, _⟩ := I.hok d _ h
  rw [hd] at ho
  cases ho
  refine ⟨hs, hd, hx, es, ep, hdt, ?_, hv⟩
  have l1 := Paired.length hv
  have l2 : es.toList.length = es.size := by simp
  omega
end
theorem turn_keysO {P : Program} {w : World} {K : PySem.W.Frag} {tg : Expr} {d : Addr} {o : Obj} {es : Array DictEntry} {ep : Nat} {kvs : List (V × V)} (it : Addr) (hod : o.data = .dict es ep) : Turn P w K tg (Itko d o kvs) [it] it (fun i h => h.IsKeyIter it d i kvs.length ep) where
  mem := by simp
  obj := fun i h st b hb => by
    have e : b = it := by simpa using hb
    subst e
    obtain ⟨oi, e, c, dd⟩ := st
    exact ⟨oi, e, fun v z => by rw [dd] at z; cases z⟩
  keep := fun i h h' st k => st.at fun oi e => k it (by simp) oi e
  item := by
    intro X hP hw hK hc i pins s σ H E I hf st hg
    subst hP hw hK
    obtain ⟨hd, hi⟩ := hg
    obtain ⟨f0, f1, f2, f3, f4, f5⟩ := hf it (by simp)
    obtain ⟨hs, hgd, hx, es', ep', hdt, hsz, hv⟩ := frzO I hd
    obtain ⟨rfl, rfl⟩ := dict_ep hod hdt
    obtain ⟨⟨k, v⟩, hkv⟩ : ∃ p, kvs[i]? = some p := ⟨kvs[i], List.getElem?_eq_getElem hi⟩
    obtain ⟨en, hen0, hk1, hk2⟩ := paired_get hv hkv
    have hen : es'[i]? = some en := by simpa using hen0
    refine next_key_item st hgd hdt hsz hen fun h' st' sb => ?_
    have I1 : Inv X pins σ H { s with heap := h' } := I.turned (t' := s.toks) (fun b ob hb e => (sb.2 b hb).trans e) f0 f1 f3 f4 f5
    obtain ⟨oi, e, c, dd⟩ := id st'
    exact ⟨en.key, rfl, go_of (s := { s with heap := h' }) e c dd (by decide) ⟨k, H, I1, hk1, ⟨rfl, v, hkv⟩, st', fun b hb => (hf b hb).1⟩⟩
  done := by
    intro X hP hw hK hc i pins s σ H E I hf st hg
    subst hP hw hK
    obtain ⟨hd, hi⟩ := hg
    obtain ⟨f0, f1, f2, f3, f4, f5⟩ := hf it (by simp)
    obtain ⟨hs, hgd, hx, es', ep', hdt, hsz, hv⟩ := frzO I hd
    obtain ⟨rfl, rfl⟩ := dict_ep hod hdt
    exact next_key_end (I.ok.hd hc) st hgd hdt hsz hi fun h' eb => ⟨rfl, I.turned (t' := s.toks) (fun b ob hb e => eb b ob hb e) f0 f1 f3 f4 f5⟩
  self := fun A i s Q E st h => by
    refine wpAny_pyIter_slot st.typeIs PySem.F.slot_dict_keyiterator_iter (wpAny_call_entry PySem.F.slot_dict_keyiterator_iter st.typeIs PySem.F.entry_dict_keyiterator_iter ?_ (PySem.F.args_dict_keyiterator_iter_1 _))
    show wpAny _ _ (ret (.ref it)) _ _ s
    exact wpAny_pure ⟨_, rfl, "dict_keyiterator", _, st.typeIs, PySem.F.slot_dict_keyiterator_next.lookup, h⟩
/-- the keys of a dict of one's own, locked: ints and texts, or any -/
def iKeysO (td : TE) : TI := fun σ H R => td σ H fun x H1 => ∃ d o, x = .ref d ∧ ((∃ kvs, H1 d = some (.frz o (.dK kvs)) ∧ R (Itk d o kvs) H1) ∨ ∃ kvs, H1 d = some (.frz o (odE d kvs)) ∧ R (Itko d o kvs) H1)
theorem pi_keysO {X : Cx} {tg e : Expr} {td : TE} (he : PE X e td) : PI X tg e (iKeysO td) := by
  refine ⟨fun pins s σ H R I h => ?_⟩
  refine thn (he.run pins s σ H _ I h) fun u s1 ⟨x, H1, I1, rx, d, o, ex, q⟩ => ?_
  subst ex
  obtain rfl : u = Value.ref d := rx
  rcases q with ⟨kvs, hd, q⟩ | ⟨kvs, hd, q⟩
  · obtain ⟨hs, hgd, hx, es, ep, vs, hdt, hsz, kv, hm⟩ := I1.frzK hd
    refine iter_keys hs hgd hx hdt (pi_one (tk := s1.toks) I1 _ (turn_keys _ hdt) ⟨_, Heap.get?_push_size _ rfl, rfl, ?_⟩ q)
    rw [hsz] <;> rfl
  · obtain ⟨hs, hgd, hx, es, ep, hdt, hsz, hv⟩ := frzO I1 hd
    refine iter_keys hs hgd hx hdt (pi_one (tk := s1.toks) I1 _ (turn_keysO _ hdt) ⟨_, Heap.get?_push_size _ rfl, rfl, ?_⟩ q)
    rw [hsz] <;> rfl
/-- a walk over things that are known ahead -/
structure Wk (J : It) (xs : List V) (Lk : Hp → Prop) : Prop where
  go : ∀ i H, i < xs.length → Lk H → J.go i H
  stop : ∀ H, Lk H → J.stop xs.length H
  yld : ∀ i H x H', J.yld i H x H' → H' = H ∧ xs[i]? = some x
theorem wk_k {d : Addr} {o : Obj} {kvs : List (Key × V)} : Wk (Itk d o kvs) (kvs.map fun kv => kV kv.1) (fun H => H d = some (.frz o (.dK kvs))) where
  go := fun i H hi h => ⟨h, by simpa using hi⟩
  stop := fun H h => ⟨h, by simp⟩
  yld := fun i H x H' ⟨e, k, v, hk, hx⟩ => ⟨e, by rw [List.getElem?_map, hk, hx]; rfl⟩
theorem wk_o {d : Addr} {o : Obj} {kvs : List (V × V)} : Wk (Itko d o kvs) (kvs.map fun kv => kv.1) (fun H => H d = some (.frz o (odE d kvs))) where
  go := fun i H hi h => ⟨h, by simpa using hi⟩
  stop := fun H h => ⟨h, by simp⟩
  yld := fun i H x H' ⟨e, v, hk⟩ => ⟨e, by rw [List.getElem?_map, hk]; rfl⟩
theorem lc_it {J : It} {xs : List V} {Lk : Hp → Prop} {g : TG} {tt : TT} {te : TE} {vs : List Nat} {σ : L2.St} {H1 : Hp} {D : Addr} {Qd : Hp → Prop} (wk : Wk J xs Lk) (Pv : Nat → Hp → Prop) (h0 : Pv 0 (upd H1 D (.lst []))) (hl : ∀ i H, i ≤ xs.length → Pv i H → Lk H)
    (hs : ∀ i x H, xs[i]? = some x → Pv i H → g x (wipe σ vs) H fun σ2 H2 => wipe σ2 vs = wipe σ vs ∧ tt σ2 H2 fun b H3 =>
      if b = true then te σ2 H3 fun y H4 => ∃ acc, H4 D = some (.lst acc) ∧ acc.length < sizeLine ∧ Pv (i + 1) (upd H4 D (.lst (acc ++ [y]))) else Pv (i + 1) H3) (hd : ∀ H, Pv xs.length H → Qd H) :
    ∃ W : Nat → Nat → Hp → Prop, (∃ m, W 0 m (upd H1 D (.lst []))) ∧ ∀ i m H, W i m H →
      (J.stop i H ∧ Qd H) ∨ (J.go i H ∧ ∃ Nx : Hp → Prop, (∀ H', Nx H' → ∃ m', m' < m ∧ W (i + 1) m' H') ∧ ∀ x H', J.yld i H x H' → g x (wipe σ vs) H' fun σ2 H2 => wipe σ2 vs = wipe σ vs ∧ tt σ2 H2 fun b H3 =>
        if b = true then te σ2 H3 fun y H4 => ∃ acc, H4 D = some (.lst acc) ∧ acc.length < sizeLine ∧ Nx (upd H4 D (.lst (acc ++ [y]))) else Nx H3) := by
  refine ⟨fun i m H => m = xs.length - i ∧ i ≤ xs.length ∧ Pv i H, ⟨xs.length, by simp, Nat.zero_le _, h0⟩, ?_⟩
  rintro i m H ⟨rfl, hi, p⟩
  have q := hl i H hi p
  by_cases hlt : i < xs.length
  · refine .inr ⟨wk.go i H hlt q, Pv (i + 1), fun H' p' => ⟨xs.length - (i + 1), by omega, rfl, hlt, p'⟩, fun x H' y => ?_⟩
    obtain ⟨e, y2⟩ := wk.yld i H x H' y
    subst e
    exact hs i x _ y2 p
  · have e : i = xs.length := by omega
    subst e
    exact .inl ⟨wk.stop H q, hd H p⟩
theorem for_it {J : It} {xs : List V} {Lk : Hp → Prop} {g : TG} {tb : TS} {D : Ends} {σ : L2.St} {H : Hp} (wk : Wk J xs Lk) (Pv : Nat → L2.St → Hp → Prop) (h0 : Pv 0 σ H) (hl : ∀ i σ H, i ≤ xs.length → Pv i σ H → Lk H)
    (hs : ∀ i x σ H, xs[i]? = some x → Pv i σ H → g x σ H fun σ2 H2 => tb { D with nx := Pv (i + 1), ct := Pv (i + 1), bk := D.nx } σ2 H2) (hd : ∀ σ H, Pv xs.length σ H → D.nx σ H) :
    ∃ W : Nat → Nat → L2.St → Hp → Prop, (∃ m, W 0 m σ H) ∧ ∀ i m σ H, W i m σ H →
      (J.stop i H ∧ D.nx σ H) ∨ (J.go i H ∧ ∃ Nx : L2.St → Hp → Prop, (∀ σ' H', Nx σ' H' → ∃ m', m' < m ∧ W (i + 1) m' σ' H') ∧ ∀ x H', J.yld i H x H' → g x σ H' fun σ2 H2 => tb { D with nx := Nx, ct := Nx, bk := D.nx } σ2 H2) := by
  refine ⟨fun i m σ H => m = xs.length - i ∧ i ≤ xs.length ∧ Pv i σ H, ⟨xs.length, by simp, Nat.zero_le _, h0⟩, ?_⟩
  rintro i m σ H ⟨rfl, hi, p⟩
  have q := hl i σ H hi p
  by_cases hlt : i < xs.length
  · refine .inr ⟨wk.go i H hlt q, Pv (i + 1), fun σ' H' p' => ⟨xs.length - (i + 1), by omega, rfl, hlt, p'⟩, fun x H' y => ?_⟩
    obtain ⟨e, y2⟩ := wk.yld i H x H' y
    subst e
    exact hs i x σ _ y2 p
  · have e : i = xs.length := by omega
    subst e
    exact .inl ⟨wk.stop H q, hd σ H p⟩
/-- a dict whose keys are xs -/
inductive DkAt (H : Hp) (a : Addr) : HO → List V → Prop
  | k {kvs : List (Key × V)} (h : H a = some (.dK kvs)) : DkAt H a (.dK kvs) (kvs.map fun kv => kV kv.1)
  | o {kvs : List (V × V)} (h : H a = some (odE a kvs)) : DkAt H a (odE a kvs) (kvs.map fun kv => kv.1)
theorem DkAt.at {H : Hp} {a : Addr} {u : HO} {xs : List V} (h : DkAt H a u xs) : H a = some u := by cases h <;> assumption
theorem DkAt.mut {H : Hp} {a : Addr} {u : HO} {xs : List V} (h : DkAt H a u xs) : Mut (some u) := by cases h <;> exact True.intro
theorem DkAt.up {H H' : Hp} {a : Addr} {u : HO} {xs : List V} (e : Ex H H') (h : DkAt H a u xs) : DkAt H' a u xs := by
  cases h with
  | k h => exact .k (e _ _ h)
  | o h => exact .o (e _ _ h)
/-- the walk, locked, read -/
theorem keys_wk {H : Hp} {a : Addr} {u : HO} {xs : List V} {od : Obj} {σ : L2.St} {i : Nat} {R : It → Hp → Prop} (h : DkAt H a u xs) (hv : σ[i]? = some (some (.ref a))) (k : ∀ J, Wk J xs (fun H => H a = some (.frz od u)) → R J (upd H a (.frz od u))) : iKeysO (tVar i) σ (upd H a (.frz od u)) R := by
  cases h with
  | k h => exact ⟨_, hv, a, od, rfl, .inl ⟨_, upd_same, k _ wk_k⟩⟩
  | o h => exact ⟨_, hv, a, od, rfl, .inr ⟨_, upd_same, k _ wk_o⟩⟩
/-- what holds of the heap while the dict at a is locked -/
structure LkAt (H : Hp) (a : Addr) (u : HO) (H1 : Hp) : Prop where
  at_ : ∃ od, H1 a = some (.frz od u)
  k : ∀ b o, b ≠ a → H b = some o → H1 b = some o
theorem LkAt.ex {H : Hp} {a : Addr} {u : HO} {H1 H2 : Hp} (h : LkAt H a u H1) (e : Ex H1 H2) : LkAt H a u H2 := ⟨let ⟨od, z⟩ := h.at_; ⟨od, e _ _ z⟩, fun b o n z => e b o (h.k b o n z)⟩
/-- [e for k in d if ..], e and the test reading alone -/
theorem el_keys {tt : TT} {te : TE} {σ : L2.St} {H : Hp} {a : Addr} {u : HO} {xs : List V} {i j : Nat} {vs : List Nat} (f : Nat → Bool) (v : Nat → V) (h : DkAt H a u xs) (hv : σ[i]? = some (some (.ref a))) (hz : xs.length ≤ 40000) (hw : ∀ x, wipe ((wipe σ vs).set j (some x)) vs = wipe σ vs)
    (ht : ∀ n x H1, xs[n]? = some x → LkAt H a u H1 → EvT tt ((wipe σ vs).set j (some x)) H1 (f n)) (he : ∀ n x H1, xs[n]? = some x → f n = true → LkAt H a u H1 → Ev te ((wipe σ vs).set j (some x)) H1 (v n)) :
    EvL (tLockE (tLc (iKeysO (tVar i)) (gName j) tt te vs)) σ H (given xs.length f v) := fun H1 e Q q => by
  have h1 := h.up e
  refine ⟨a, u, h1.at, h1.mut, fun od => keys_wk h1 hv fun J wk D hD => ?_⟩
  have Da : D ≠ a := fun z => by rw [z, upd_same] at hD; cases hD
  have h1D : H1 D = none := by rw [upd_ne Da] at hD; exact hD
  have lk : LkAt H a u (upd H1 a (.frz od u)) := ⟨⟨od, upd_same⟩, fun b o n z => by rw [upd_ne n]; exact e b o z⟩
  refine lc_it wk (Cw (upd H1 a (.frz od u)) f v D) ⟨hD, Ex.new hD, upd_same⟩ (fun n H2 _ p => p.2.1 _ _ upd_same) (fun n x H2 hx p => ?_) fun H2 p => ?_
  · exact ⟨hw x, cw_turn p (by have := (List.getElem?_eq_some_iff.mp hx).1; omega) (ht n x _ hx lk) fun hf => he n x _ hx hf lk⟩
  · refine ⟨p.2.1 _ _ upd_same, q D _ h1D (fun b o z => ?_) (by rw [upd_ne Da]; exact p.2.2)⟩
    by_cases hb : b = a
    · rw [hb] at z ⊢
      rw [upd_same, ← z, h1.at]
    · rw [upd_ne hb]
      exact p.2.1 b o (by rw [upd_ne hb]; exact z)
end LG
/-! Plain readings: a displayed dict of texts asked at a text, texts added, joined; a comprehension over a list. -/
namespace LG
open PySem PySem.Spec PyProof.Rows L2 Evl
section
variable {σ : L2.St} {H : Hp} {ta tb te ty to : TE} {K : PySem.W.Frag}
def kvT (kvs : List (Str × Str)) : List (TE × TE) := kvs.map fun kv => (tC (.str kv.1), tC (.str kv.2))
def kvV (kvs : List (Str × Str)) : List (Key × V) := kvs.map fun kv => (Sum.inr kv.1, V.str kv.2)
theorem pairs_c : ∀ (kvs : List (Str × Str)) (σ : L2.St) (H : Hp) (Q : List (V × V) → Hp → Prop), Q (kvs.map fun kv => (V.str kv.1, V.str kv.2)) H → tPairs (kvT kvs) σ H Q
  | [], _, _, _, h => h
  | kv :: r, σ, H, Q, h => pairs_c r σ H _ h
theorem ev_dget {kvs : List (Str × Str)} {k v : Str} (h15 : kvs.length ≤ 15) (hk : Ev ty σ H (.str k)) (hv : valV (mergeK [] (kvV kvs)) (Sum.inr k) = some (.str v)) : Ev (tDGet (tDisp (kvT kvs)) ty) σ H (.str v) := fun H1 e Q q => by
  intro p hp
  refine pairs_c kvs σ _ _ ⟨upd_same, kvV kvs, ?_, by simpa [kvV] using h15, ?_⟩
  · unfold kvV
    rw [List.map_map]
    rfl
  · rw [upd_upd]
    refine hk _ (e.trans (Ex.new hp)) _ fun H3 e3 => ⟨p, .str v, rfl, ?_, q H3 ((Ex.new hp).trans e3)⟩
    rw [← hv]
    exact DGet.k (k := Sum.inr k) (e3 p _ upd_same)
theorem ev_fn {sp : Sp} {vs : List V} {E : XK} {tv : TA} {z : V} (h : EvA tv σ H vs) (hs : SpV sp vs H z) : Ev (tFn sp E tv) σ H z := fun H1 e Q q => h H1 e _ fun H2 e2 => hs H2 (e.trans e2) Q (fun H3 e3 => q H3 (e2.trans e3)) E
theorem ev_addS {x y : Str} (ha : Ev ta σ H (.str x)) (hb : Ev tb σ H (.str y)) (hz : x.length + y.length ≤ 2000000) : Ev (tOp (fun x y H Q => ∃ i j, x = .str i ∧ y = .str j ∧ i.length + j.length ≤ sizeLine ∧ Q (.str (i ++ j)) H) ta tb) σ H (.str (x ++ y)) :=
  ev_op ha hb fun H1 e Q q => ⟨x, y, rfl, rfl, Nat.le_trans hz (by decide), q H1 (Ex.refl H1)⟩
theorem ev_joinG {sep : Str} {ys : List Str} (hs : Ev to σ H (.str sep)) (h : EvL te σ H (ys.map V.str)) (hz : (ys.map (·.length)).sum + ys.length * sep.length ≤ 16777216) :
    Ev (tM1 (fun x xs H Q => ∃ a p, ∃ ys : List Str, x = .str a ∧ xs = [.ref p] ∧ (SqL K H p (ys.map V.str) ∨ SqT K H p (ys.map V.str)) ∧ (ys.map (·.length)).sum + ys.length * a.length ≤ 16777216 ∧ Q (.str (Txt.join a ys)) H) to te) σ H (.str (TM.joinS sep ys)) := by
  intro H1 e Q q
  refine hs H1 e _ fun H2 e2 => ⟨⟨sep, rfl⟩, h H2 (e.trans e2) _ fun p H3 hp e3 hl => ⟨sep, p, ys, rfl, rfl, .inl (sq_of hl), hz, ?_⟩⟩
  have z : ∀ ys : List Str, Str.join sep ys = TM.joinS sep ys := by
    intro ys
    induction ys with
    | nil => rfl
    | cons x r ih =>
      cases r with
      | nil => rfl
      | cons y r =>
        show x ++ sep ++ Str.join sep (y :: r) = x ++ sep ++ TM.joinS sep (y :: r)
        rw [ih]
  rw [TL.join_eq, z]
  exact q H3 (e2.trans e3)
/-- each element of a list, computed: ys the values -/
theorem el_lmap {a : Addr} {xs ys : List V} {tl : TE} {j : Nat} {vs : List Nat} (h : Ev tl σ H (.ref a)) (hx : SqL K H a xs) (hz : xs.length ≤ 40000) (hl : xs.length = ys.length) (hw : ∀ x, wipe ((wipe σ vs).set j (some x)) vs = wipe σ vs)
    (he : ∀ (i : Nat) (x y : V) H1, Ex H H1 → xs[i]? = some x → ys[i]? = some y → Ev te ((wipe σ vs).set j (some x)) H1 y) :
    EvL (tLc (iList K tl) (gName j) tYes te vs) σ H ys := by
  have z : given xs.length (fun _ => true) (fun i => ys.getD i .non) = ys := by
    unfold given
    rw [List.filter_eq_self.mpr fun _ _ => rfl, hl]
    apply List.ext_getElem?
    intro i
    rw [List.getElem?_map]
    by_cases hi : i < ys.length
    · rw [List.getElem?_eq_getElem (by simpa using hi), List.getElem?_eq_getElem hi]
      simp [List.getD_eq_getElem?_getD, List.getElem?_eq_getElem hi]
    · rw [List.getElem?_eq_none (by simpa using hi), List.getElem?_eq_none (by omega)]
      rfl
  rw [← z]
  refine el_lcL (fun _ => true) _ h hx hz hw (fun i x H1 e hi => fun H2 e2 _ q => q H2 (Ex.refl H2)) (fun i x H1 e hi _ => ?_)
  have hi2 : i < ys.length := hl ▸ (List.getElem?_eq_some_iff.mp hi).1
  exact he i x _ H1 e hi (by rw [List.getElem?_eq_getElem hi2]; simp [List.getD_eq_getElem?_getD, List.getElem?_eq_getElem hi2])
end
section
variable {σ : L2.St} {H : Hp} {ta tb te : TE} {K : PySem.W.Frag}
/-- list + list, the first one wherever it stands -/
theorem el_cat {xs ys : List V} (ha : ∀ H1, Ex H H1 → ∀ Q : VK, (∀ p H2, Ex H1 H2 → H2 p = some (.lst xs) → Q (.ref p) H2) → ta σ H1 Q) (hb : EvL tb σ H ys) (hz : xs.length + ys.length ≤ 100000) : EvL (tOp rCat ta tb) σ H (xs ++ ys) := fun H1 e Q q =>
  ha H1 e _ fun p H2 e2 h2 => hb H2 (e.trans e2) _ fun p2 H3 _ e3 h3 => ⟨p, p2, xs, ys, rfl, rfl, e3 p _ h2, h3, sz_of hz, fun l hl => q l _ (fresh_back (e2.trans e3) hl) ((e2.trans e3).trans (Ex.new hl)) upd_same⟩
theorem of_ev {xs : List V} {p : Addr} (h : Ev ta σ H (.ref p)) (hp : H p = some (.lst xs)) : ∀ H1, Ex H H1 → ∀ Q : VK, (∀ p H2, Ex H1 H2 → H2 p = some (.lst xs) → Q (.ref p) H2) → ta σ H1 Q := fun H1 e Q q => h H1 e _ fun H2 e2 => q p H2 e2 (e2 p _ (e p _ hp))
theorem of_el {xs : List V} (h : EvL ta σ H xs) : ∀ H1, Ex H H1 → ∀ Q : VK, (∀ p H2, Ex H1 H2 → H2 p = some (.lst xs) → Q (.ref p) H2) → ta σ H1 Q := fun H1 e Q q => h H1 e _ fun p H2 _ e2 h2 => q p H2 e2 h2
theorem cut_to {xs : List V} {m : Nat} (h : m ≤ xs.length) : cutV xs none (some (m : Int)) = xs.take m := by
  unfold cutV
  rw [HT.sIx_none, HT.sIx_nat, Nat.min_eq_left h]
  rfl
theorem cut_from {xs : List V} {m : Nat} (h : m ≤ xs.length) : cutV xs (some (m : Int)) none = xs.drop m := by
  unfold cutV
  rw [HT.sIx_none, HT.sIx_nat, Nat.min_eq_left h, List.take_of_length_le (by rw [List.length_drop]; omega)]
theorem at_nat {xs : List V} {m : Nat} (h : m < xs.length) : atI xs (m : Int) = some xs[m] := by
  unfold atI
  rw [ixN_nat h]
  exact List.getElem?_eq_getElem h
end
/-! ### lists side by side -/
def A2 {α β : Type} (R : α → β → Prop) : List α → List β → Prop
  | [], [] => True
  | x :: xs, y :: ys => R x y ∧ A2 R xs ys
  | _, _ => False
section
variable {α β : Type} {R R' : α → β → Prop}
theorem A2.of : ∀ {xs : List α} {ys : List β}, xs.length = ys.length → (∀ (i : Nat) (x : α) (y : β), xs[i]? = some x → ys[i]? = some y → R x y) → A2 R xs ys
  | [], [], _, _ => trivial
  | [], _ :: _, h, _ => nomatch h
  | _ :: _, [], h, _ => nomatch h
  | x :: xs, y :: ys, h, k => ⟨k 0 x y rfl rfl, A2.of (Nat.succ.inj h) fun i a b p q => k (i + 1) a b p q⟩
theorem A2.len : ∀ {xs : List α} {ys : List β}, A2 R xs ys → xs.length = ys.length
  | [], [], _ => rfl
  | [], _ :: _, h => h.elim
  | _ :: _, [], h => h.elim
  | x :: xs, y :: ys, h => congrArg Nat.succ (A2.len h.2)
theorem A2.get : ∀ {xs : List α} {ys : List β}, A2 R xs ys → ∀ (i : Nat) (x : α) (y : β), xs[i]? = some x → ys[i]? = some y → R x y
  | [], _, _, _, _, _, p, _ => by simp at p
  | _ :: _, [], h, _, _, _, _, _ => h.elim
  | x :: xs, y :: ys, h, 0, a, b, p, q => by
    simp at p q
    subst p q
    exact h.1
  | x :: xs, y :: ys, h, i + 1, a, b, p, q => A2.get h.2 i a b (by simpa using p) (by simpa using q)
theorem A2.app : ∀ {xs : List α} {ys : List β} {zs : List α} {ws : List β}, A2 R xs ys → A2 R zs ws → A2 R (xs ++ zs) (ys ++ ws)
  | [], [], _, _, _, h => h
  | [], _ :: _, _, _, h, _ => h.elim
  | _ :: _, [], _, _, h, _ => h.elim
  | x :: xs, y :: ys, _, _, h, k => ⟨h.1, A2.app h.2 k⟩
theorem A2.take : ∀ {xs : List α} {ys : List β} (m : Nat), A2 R xs ys → A2 R (xs.take m) (ys.take m)
  | [], [], m, _ => by
    rw [List.take_nil, List.take_nil]
    exact trivial
  | [], _ :: _, _, h => h.elim
  | _ :: _, [], _, h => h.elim
  | x :: xs, y :: ys, 0, _ => trivial
  | x :: xs, y :: ys, m + 1, h => ⟨h.1, A2.take m h.2⟩
theorem A2.drop : ∀ {xs : List α} {ys : List β} (m : Nat), A2 R xs ys → A2 R (xs.drop m) (ys.drop m)
  | [], [], m, _ => by
    rw [List.drop_nil, List.drop_nil]
    exact trivial
  | [], _ :: _, _, h => h.elim
  | _ :: _, [], _, h => h.elim
  | x :: xs, y :: ys, 0, h => h
  | x :: xs, y :: ys, m + 1, h => A2.drop m h.2
theorem A2.rev : ∀ {xs : List α} {ys : List β}, A2 R xs ys → A2 R xs.reverse ys.reverse
  | [], [], _ => trivial
  | [], _ :: _, h => h.elim
  | _ :: _, [], h => h.elim
  | x :: xs, y :: ys, h => by
    rw [List.reverse_cons, List.reverse_cons]
    exact (A2.rev h.2).app ⟨h.1, trivial⟩
theorem A2.set : ∀ {xs : List α} {ys : List β} (m : Nat) {x : α} {y : β}, A2 R xs ys → R x y → A2 R (xs.set m x) (ys.set m y)
  | [], [], _, _, _, _, _ => trivial
  | [], _ :: _, _, _, _, h, _ => h.elim
  | _ :: _, [], _, _, _, h, _ => h.elim
  | x :: xs, y :: ys, 0, _, _, h, k => ⟨k, h.2⟩
  | x :: xs, y :: ys, m + 1, _, _, h, k => ⟨h.1, A2.set m h.2 k⟩
theorem A2.imp : ∀ {xs : List α} {ys : List β}, A2 R xs ys → (∀ x y, R x y → R' x y) → A2 R' xs ys
  | [], [], _, _ => trivial
  | [], _ :: _, h, _ => h.elim
  | _ :: _, [], h, _ => h.elim
  | x :: xs, y :: ys, h, k => ⟨k _ _ h.1, A2.imp h.2 k⟩
end
end LG
namespace LG
open PySem PySem.Spec PyProof.Rows L2 Evl
theorem given_map (ys : List V) : given ys.length (fun _ => true) (fun i => ys.getD i .non) = ys := by
  unfold given
  rw [List.filter_eq_self.mpr fun _ _ => rfl]
  apply List.ext_getElem?
  intro i
  rw [List.getElem?_map]
  by_cases hi : i < ys.length
  · rw [List.getElem?_eq_getElem (by simpa using hi), List.getElem?_eq_getElem hi]
    simp [List.getD_eq_getElem?_getD, List.getElem?_eq_getElem hi]
  · rw [List.getElem?_eq_none (by simpa using hi), List.getElem?_eq_none (by omega)]
    rfl
/-- [e for k in d], e's values told ahead -/
theorem el_keysM {te : TE} {σ : L2.St} {H : Hp} {a : Addr} {u : HO} {xs ys : List V} {i j : Nat} {vs : List Nat} (h : DkAt H a u xs) (hv : σ[i]? = some (some (.ref a))) (hl : xs.length = ys.length) (hz : xs.length ≤ 40000) (hw : ∀ x, wipe ((wipe σ vs).set j (some x)) vs = wipe σ vs)
    (he : ∀ (n : Nat) (x y : V) H1, xs[n]? = some x → ys[n]? = some y → LkAt H a u H1 → Ev te ((wipe σ vs).set j (some x)) H1 y) : EvL (tLockE (tLc (iKeysO (tVar i)) (gName j) tYes te vs)) σ H ys := by
  have z := given_map ys
  rw [← hl] at z
  rw [← z]
  refine el_keys (fun _ => true) _ h hv hz hw (fun n x H1 hi lk => fun H2 e2 _ q => q H2 (Ex.refl H2)) (fun n x H1 hi _ lk => ?_)
  have hi2 : n < ys.length := hl ▸ (List.getElem?_eq_some_iff.mp hi).1
  exact he n x _ H1 hi (by rw [List.getElem?_eq_getElem hi2]; simp [List.getD_eq_getElem?_getD, List.getElem?_eq_getElem hi2]) lk
/-- [e for k in d] and for k in d over a walk whose steps change the heap -/
theorem lk_get {H H1 : Hp} {a : Addr} {kvs : List (Key × V)} (h : LkAt H a (.dK kvs) H1) : Rd H1 a (.dK kvs) := let ⟨od, z⟩ := h.at_; .inr ⟨od, z⟩
theorem ev_dgetR {td ty : TE} {σ : L2.St} {H : Hp} {a : Addr} {kvs : List (Key × V)} {k : Key} {v : V} (h : Ev td σ H (.ref a)) (hk : Ev ty σ H (kV k)) (hr : Rd H a (.dK kvs)) (hv : valV kvs k = some v) : Ev (tDGet td ty) σ H v := fun H1 e Q q =>
  h H1 e _ fun H2 e2 => hk H2 (e.trans e2) _ fun H3 e3 => ⟨a, v, rfl, .inl ⟨kvs, k, ex_rd ((e.trans e2).trans e3) hr, rfl, hv.symm⟩, q H3 (e2.trans e3)⟩
theorem ev_dinR {td ty : TE} {σ : L2.St} {H : Hp} {a : Addr} {kvs : List (Key × V)} {k : Key} (hk : Ev ty σ H (kV k)) (h : Ev td σ H (.ref a)) (hr : Rd H a (.dK kvs)) : Ev (tDIn ty td) σ H (.bl (valV kvs k).isSome) := fun H1 e Q q =>
  hk H1 e _ fun H2 e2 => h H2 (e.trans e2) _ fun H3 e3 => ⟨a, valV kvs k, rfl, .inl ⟨kvs, k, ex_rd ((e.trans e2).trans e3) hr, rfl, rfl⟩, q H3 (e2.trans e3)⟩
/-! ### the same where the dict may be locked already -/
def tLockO (t : TE) : TE := fun σ H Q => tLockE t σ H Q ∨ t σ H Q
theorem pe_lockO {X : Cx} {e : Expr} {t : TE} (h : PE X e t) : PE X e (tLockO t) := ⟨fun pins s σ H Q I hw => by
  rcases hw with hw | hw
  · exact (pe_lock h).run pins s σ H Q I hw
  · exact h.run pins s σ H Q I hw⟩
def DkX (H : Hp) (a : Addr) (u : HO) (xs : List V) : Prop := DkAt H a u xs ∨ ∃ od kvs, H a = some (.frz od (.dK kvs)) ∧ u = .dK kvs ∧ xs = kvs.map fun kv => kV kv.1
theorem dkx_of {H : Hp} {a : Addr} {kvs : List (Key × V)} (h : Rd H a (.dK kvs)) : DkX H a (.dK kvs) (kvs.map fun kv => kV kv.1) := by
  rcases h with h | ⟨od, h⟩
  · exact .inl (.k h)
  · exact .inr ⟨od, kvs, h, rfl, rfl⟩
theorem DkX.up {H H' : Hp} {a : Addr} {u : HO} {xs : List V} (e : Ex H H') (h : DkX H a u xs) : DkX H' a u xs := by
  rcases h with h | ⟨od, kvs, h, h1, h2⟩
  · exact .inl (h.up e)
  · exact .inr ⟨od, kvs, e _ _ h, h1, h2⟩
theorem el_keysX {tt : TT} {te : TE} {σ : L2.St} {H : Hp} {a : Addr} {u : HO} {xs : List V} {i j : Nat} {vs : List Nat} (f : Nat → Bool) (v : Nat → V) (h : DkX H a u xs) (hv : σ[i]? = some (some (.ref a))) (hz : xs.length ≤ 40000) (hw : ∀ x, wipe ((wipe σ vs).set j (some x)) vs = wipe σ vs)
    (ht : ∀ n x H1, xs[n]? = some x → LkAt H a u H1 → EvT tt ((wipe σ vs).set j (some x)) H1 (f n)) (he : ∀ n x H1, xs[n]? = some x → f n = true → LkAt H a u H1 → Ev te ((wipe σ vs).set j (some x)) H1 (v n)) :
    EvL (tLockO (tLc (iKeysO (tVar i)) (gName j) tt te vs)) σ H (given xs.length f v) := by
  rcases h with h | ⟨od, kvs, h, rfl, rfl⟩
  · exact fun H1 e Q q => .inl (el_keys f v h hv hz hw ht he H1 e Q q)
  · refine fun H1 e Q q => .inr ⟨_, hv, a, od, rfl, .inl ⟨kvs, e _ _ h, fun D hD => ?_⟩⟩
    have lk : LkAt H a (.dK kvs) H1 := ⟨⟨od, e _ _ h⟩, fun b o _ z => e b o z⟩
    refine lc_it wk_k (Cw H1 f v D) ⟨hD, Ex.new hD, upd_same⟩ (fun n H2 _ p => p.2.1 _ _ (e _ _ h)) (fun n x H2 hx p => ?_) fun H2 p => q D _ hD p.2.1 p.2.2
    exact ⟨hw x, cw_turn p (by have := (List.getElem?_eq_some_iff.mp hx).1; omega) (ht n x _ hx lk) fun hf => he n x _ hx hf lk⟩
theorem el_keysMX {te : TE} {σ : L2.St} {H : Hp} {a : Addr} {u : HO} {xs ys : List V} {i j : Nat} {vs : List Nat} (h : DkX H a u xs) (hv : σ[i]? = some (some (.ref a))) (hl : xs.length = ys.length) (hz : xs.length ≤ 40000) (hw : ∀ x, wipe ((wipe σ vs).set j (some x)) vs = wipe σ vs)
    (he : ∀ (n : Nat) (x y : V) H1, xs[n]? = some x → ys[n]? = some y → LkAt H a u H1 → Ev te ((wipe σ vs).set j (some x)) H1 y) : EvL (tLockO (tLc (iKeysO (tVar i)) (gName j) tYes te vs)) σ H ys := by
  have z := given_map ys
  rw [← hl] at z
  rw [← z]
  refine el_keysX (fun _ => true) _ h hv hz hw (fun n x H1 hi lk => fun H2 e2 _ q => q H2 (Ex.refl H2)) (fun n x H1 hi _ lk => ?_)
  have hi2 : n < ys.length := hl ▸ (List.getElem?_eq_some_iff.mp hi).1
  exact he n x _ H1 hi (by rw [List.getElem?_eq_getElem hi2]; simp [List.getD_eq_getElem?_getD, List.getElem?_eq_getElem hi2]) lk
end LG
namespace K12
open PySem PySem.Spec PyProof.Rows L2 LG Evl
/-! ### dicts from places to values -/
/-- keys are places, told by what stands there; what stands there is a value; all of ns are keys -/
structure GoodD (kvs : List (Key × V)) (ns : List Str) : Prop where
  len : kvs.length ≤ 100
  key : ∀ kv ∈ kvs, ∃ n, n ∈ TM.names ∧ kv.1 = Sum.inr n
  look : ∀ kv ∈ kvs, valV kvs kv.1 = some kv.2
  val : ∀ kv ∈ kvs, isValB kv.2 = true
  has : ∀ n ∈ ns, (valV kvs (Sum.inr n)).isSome = true
/-- what is no such dict -/
inductive BadV (H : Hp) (ns : List Str) : V → Prop
  | nd {u : V} {k : String} (h : Kn H u k) (hk : k ≠ "dict") : BadV H ns u
  | key {d : Addr} {uo : HO} {xs : List V} (h : DkAt H d uo xs) (hl : xs.length ≤ 100) (hk : ∀ x ∈ xs, x ≠ .ref d ∧ ∃ t, Kn H x t) (hb : (xs.map isPlB).all id = false) : BadV H ns (.ref d)
  | val {d : Addr} {kvs : List (Key × V)} (h : H d = some (.dK kvs)) (hl : kvs.length ≤ 100) (key : ∀ kv ∈ kvs, ∃ n, n ∈ TM.names ∧ kv.1 = Sum.inr n) (look : ∀ kv ∈ kvs, valV kvs kv.1 = some kv.2) (hk : ∀ kv ∈ kvs, kv.2 ≠ .ref d ∧ ∃ t, Kn H kv.2 t) (hb : (kvs.map fun kv => isValB kv.2).all id = false) : BadV H ns (.ref d)
  | miss {d : Addr} {kvs : List (Key × V)} (h : H d = some (.dK kvs)) (g : GoodD kvs []) (hb : (ns.map fun n => (valV kvs (Sum.inr n)).isSome).all id = false) : BadV H ns (.ref d)
theorem ev_all {K : PySem.W.Frag} {σ : L2.St} {H : Hp} {te : TE} {bs : List Bool} (h : EvL te σ H (bs.map V.bl)) : Ev (tCB (rAll K) (tCons te tNil)) σ H (.bl (bs.all id)) := fun H1 e Q q => h H1 e _ fun p H2 _ e2 h2 => ⟨p, bs, rfl, sq_of h2, q H2 e2⟩
theorem BadV.up {H H' : Hp} {ns : List Str} {u : V} (e : Ex H H') (h : BadV H ns u) : BadV H' ns u := by
  cases h with
  | nd h hk => exact .nd (h.up e) hk
  | key h hl hk hb => exact .key (h.up e) hl (fun x hx => ⟨(hk x hx).1, let ⟨t, z⟩ := (hk x hx).2; ⟨t, z.up e⟩⟩) hb
  | val h hl key look hk hb => exact .val (e _ _ h) hl key look (fun x hx => ⟨(hk x hx).1, let ⟨t, z⟩ := (hk x hx).2; ⟨t, z.up e⟩⟩) hb
  | miss h g hb => exact .miss (e _ _ h) g hb
theorem kn_lk {H H1 : Hp} {d : Addr} {u : HO} {x : V} {t : String} (h : Kn H x t) (hd : x ≠ .ref d) (lk : LkAt H d u H1) : Kn H1 x t := by
  cases h with
  | non => exact .non
  | bl b => exact .bl b
  | int i => exact .int i
  | str x => exact .str x
  | lst h => exact .lst (lk.k _ _ (fun z => hd (z ▸ rfl)) h)
  | tup h => exact .tup (lk.k _ _ (fun z => hd (z ▸ rfl)) h)
  | dic h => exact .dic (lk.k _ _ (fun z => hd (z ▸ rfl)) h)
theorem kn_dict {K : PySem.W.Frag} {H : Hp} {v : V} {t : String} (h : Kn H v t) : PySem.W.kitOne K (.type t) (.type "dict") = some (t == "dict") := by
  cases h <;> exact kit_ty (by decide +kernel)
theorem rd_ty {K : PySem.W.Frag} {H : Hp} {d : Addr} {kvs : List (Key × V)} (h : Rd H d (.dK kvs)) : TyX K H (.ref d) (.type "dict") := by
  rcases h with h | ⟨o, h⟩
  · exact .base (.dK h)
  · exact .fDict h
theorem name_pl : ∀ n ∈ TM.names, isPlB (.str n) = true := by decide +kernel
section
variable {P : Program} {w : World} {K : PySem.W.Frag} {mg : Str → Option Value} {base : Heap} {a : At}
theorem fn_is_place (T : Txt K mg a) : Fn P w K mg base 1 a.is_place sp_is_place := by
  refine T.d_is_place.fn sc_is_place (fun _ _ _ _ _ _ us hl => match us, hl with | [_], _ => rfl) (fun vs H Q E h => ?_) (fun cdv A outer s H vs Q E hg hr h => ?_)
  · obtain ⟨_, _, rfl, _⟩ := h
    rfl
  · obtain ⟨v, t, rfl, hk, q⟩ := h
    refine ⟨_, (pss_one (ps_ret (pe_and (pe_callB call_isi (by rfl) T.z_isinstance (by decide +kernel) (pa_cons (pv 0) (pa_cons (pe_ty "str" (by rfl) T.z_str (by decide +kernel)) pa_nil))) (pe_one (pe_cmpR op_in_seq (pv 0) (pe_glob (v := .ref a.PLACES) rfl T.v_PLACES rfl) (by rfl)))))), ?_⟩
    refine ⟨v, rfl, v, .ty "str", _, _, _, rfl, .ty _, hk.ty, kn_str hk, _, rfl, ?_⟩
    obtain ⟨od, its, n, sl, hl, hv⟩ := T.l_PLACES
    have hz : its.length = 8 := hv.length.symm
    have sq : SqT K H a.PLACES placesV := .inr ⟨_, its.toArray, n, hl, rfl, rfl, by rw [List.size_toArray, hz]; decide, by simpa [placesV] using hv⟩
    cases hk with
    | str x => exact iteT ⟨_, rfl, a.PLACES, _, rfl, .inr sq, rfl, rfl, q⟩
    | _ => exact iteF q
def sp_want_values (a : At) : Sp := fun vs H Q E => ∃ u l ns, vs = [u, .ref l] ∧ H l = some (.lst (ns.map V.str)) ∧ ns.length ≤ 10000 ∧ (∀ n ∈ ns, n ∈ TM.names) ∧
  ((∃ d kvs, u = .ref d ∧ Rd H d (.dK kvs) ∧ GoodD kvs ns ∧ ∀ H', Ex H H' → Q .non H') ∨ (BadV H ns u ∧ Errs a.c_InvalidValues u H E))
abbrev wvK (K : PySem.W.Frag) : TE := tCB (rAll K) (tCons (tLockO (tLc (iKeysO (tVar 0)) (gName 2) tYes (tFn sp_is_place E0 (tCons (tVar 2) tNil)) [2])) tNil)
abbrev wvV (K : PySem.W.Frag) : TE := tCB (rAll K) (tCons (tLockO (tLc (iKeysO (tVar 0)) (gName 2) tYes (tFn sp_is_value E0 (tCons (tDGet (tVar 0) (tVar 2)) tNil)) [2])) tNil)
abbrev wvP (K : PySem.W.Frag) : TE := tCB (rAll K) (tCons (tLc (iList K (tVar 1)) (gName 2) tYes (tDIn (tVar 2) (tVar 0)) [2]) tNil)
theorem sp_pl {H : Hp} {x : V} {t : String} (h : Kn H x t) : SpV sp_is_place [x] H (.bl (isPlB x)) := fun H1 e Q q E => ⟨x, t, rfl, h.up e, q H1 (Ex.refl H1)⟩
theorem sp_vl {H : Hp} {x : V} {t : String} (h : Kn H x t) : SpV sp_is_value [x] H (.bl (isValB x)) := fun H1 e Q q E => ⟨x, t, rfl, h.up e, q H1 (Ex.refl H1)⟩
theorem wv_keys {H : Hp} {d : Addr} {u : HO} {xs : List V} {l : V} {z : Option V} (h : DkX H d u xs) (hl : xs.length ≤ 100) (hk : ∀ x ∈ xs, x ≠ .ref d ∧ ∃ t, Kn H x t) : Ev (wvK K) [some (.ref d), some l, z] H (.bl ((xs.map isPlB).all id)) := by
  refine ev_all (K := K) ?_
  refine el_keysMX h rfl (by simp) (by omega) (fun _ => rfl) fun n x y H1 hx hy lk => ?_
  rw [List.getElem?_map, List.getElem?_map, hx] at hy
  cases hy
  obtain ⟨hd, t, kn⟩ := hk x (List.mem_of_getElem? hx)
  exact ev_fn (ea_cons (ev_var rfl) ea_nil) (sp_pl (kn_lk kn hd lk))
theorem wv_vals {H : Hp} {d : Addr} {kvs : List (Key × V)} {l : V} {z : Option V} (h : Rd H d (.dK kvs)) (hl : kvs.length ≤ 100) (look : ∀ kv ∈ kvs, valV kvs kv.1 = some kv.2) (hk : ∀ kv ∈ kvs, kv.2 ≠ .ref d ∧ ∃ t, Kn H kv.2 t) :
    Ev (wvV K) [some (.ref d), some l, z] H (.bl ((kvs.map fun kv => isValB kv.2).all id)) := by
  refine ev_all (K := K) ?_
  refine el_keysMX (dkx_of h) rfl (by simp) (by simpa using (by omega : kvs.length ≤ 40000)) (fun _ => rfl) fun n x y H1 hx hy lk => ?_
  rw [List.getElem?_map, List.getElem?_map] at hy
  rw [List.getElem?_map] at hx
  obtain ⟨kv, hkv, rfl⟩ := Option.map_eq_some_iff.mp hx
  rw [hkv] at hy
  cases hy
  have hm := List.mem_of_getElem? hkv
  obtain ⟨hd, t, kn⟩ := hk kv hm
  exact ev_fn (ea_cons (ev_dgetR (ev_var rfl) (ev_var rfl) (lk_get lk) (look kv hm)) ea_nil) (sp_vl (kn_lk kn hd lk))
theorem wv_places {H : Hp} {d l : Addr} {kvs : List (Key × V)} {ns : List Str} {z : Option V} (h : Rd H d (.dK kvs)) (hl : H l = some (.lst (ns.map V.str))) (hz : ns.length ≤ 10000) :
    Ev (wvP K) [some (.ref d), some (.ref l), z] H (.bl ((ns.map fun n => (valV kvs (Sum.inr n)).isSome).all id)) := by
  refine ev_all (K := K) ?_
  refine el_lmap (ev_var rfl) (sq_of hl) (by simpa using (by omega : ns.length ≤ 40000)) (by simp) (fun _ => rfl) fun i x y H1 e hx hy => ?_
  rw [List.getElem?_map, List.getElem?_map] at hy
  rw [List.getElem?_map] at hx
  obtain ⟨n, hn, rfl⟩ := Option.map_eq_some_iff.mp hx
  rw [hn] at hy
  cases hy
  exact ev_dinR (k := Sum.inr n) (ev_var rfl) (ev_var rfl) (ex_rd e h)
theorem names_ok {kvs : List (Key × V)} (key : ∀ kv ∈ kvs, ∃ n, n ∈ TM.names ∧ kv.1 = Sum.inr n) : ((kvs.map fun kv => kV kv.1).map isPlB).all id = true := by
  rw [List.all_eq_true]
  intro b hb
  obtain ⟨x, hx, rfl⟩ := List.mem_map.mp hb
  obtain ⟨kv, hkv, rfl⟩ := List.mem_map.mp hx
  obtain ⟨n, hn, e⟩ := key kv hkv
  rw [e]
  exact name_pl n hn
theorem keys_kn {H : Hp} {d : Addr} {kvs : List (Key × V)} (key : ∀ kv ∈ kvs, ∃ n, n ∈ TM.names ∧ kv.1 = Sum.inr n) : ∀ x ∈ kvs.map (fun kv => kV kv.1), x ≠ .ref d ∧ ∃ t, Kn H x t := by
  intro x hx
  obtain ⟨kv, hkv, rfl⟩ := List.mem_map.mp hx
  obtain ⟨n, hn, e⟩ := key kv hkv
  rw [e]
  exact ⟨fun z => (by cases z), _, .str n⟩
theorem vals_kn {H : Hp} {d : Addr} {v : V} (h : isValB v = true) : v ≠ .ref d ∧ ∃ t, Kn H v t := by
  rcases isValB_cases h with ⟨i, rfl⟩ | rfl | rfl
  · exact ⟨fun z => (by cases z), _, .int i⟩
  · exact ⟨fun z => (by cases z), _, .str _⟩
  · exact ⟨fun z => (by cases z), _, .str _⟩
theorem ok_want_values (T : Txt K mg a) : Fn P w K mg base 4 a.want_values (sp_want_values a) := by
  have G_is_place := fn_is_place (P := P) (w := w) (base := base) T
  have G_is_value := ok_is_value (P := P) (w := w) (base := base) T
  refine T.d_want_values.fn sc_want_values (fun _ _ _ _ _ _ us hl => match us, hl with | [_, _], _ => rfl) (fun vs H Q E h => ?_) (fun cdv A outer s H vs Q E hg hr h => ?_)
  · obtain ⟨_, _, _, rfl, _⟩ := h
    rfl
  · obtain ⟨u, l, ns, rfl, hl, hz, hn, h⟩ := h
    have nd := sc_want_values.nd
    have hu := hu_of hr
    refine ⟨_, (pss_cons (ps_if (PW.pt (pw_or (pt_not (pt_val (pe_callB call_isiO (by rfl) T.z_isinstance (by decide +kernel) (pa_cons (pv 0) (pa_cons (pe_ty "dict" (by rfl) T.z_dict (by decide +kernel)) pa_nil))))) (pw_or1 (pt_not (pt_val (pe_callB (cr_all rfl) (by rfl) T.z_all (by decide +kernel) (pa_cons (pe_lockO (pe_lc rfl (own := [("place", 2)]) (g := gName 2) (by exact nd) (pi_keysO (pv 0)) (blkOk_by (own := [("place", 2)]) (N := ["values", "places", "place"]) (sc := defScope s_want_values) (by decide +kernel)) (fun _ _ _ _ _ => (pg_name (i := 2) nd rfl (.inl rfl))) (fun _ _ _ _ _ => pts_nil) (fun _ _ _ _ _ => (pe_fn G_is_place hg (hr.mono (by decide)) T.d_is_place.kp T.d_is_place.m (by rfl) passL (pa_cons (pv 2) pa_nil))))) pa_nil))))))) (pss_one (ps_raiseV (i := 0) (k := 1) rfl (W := fun cls d _ H' => E cls d H') (takes_of rfl rfl rfl rfl) T.e_InvalidValues T.ti T.di (hr.mono (by decide)) (by rfl) (pv 0))) pss_nil)
    (pss_one (ps_if (PW.pt (pw_or (pt_not (pt_val (pe_callB (cr_all rfl) (by rfl) T.z_all (by decide +kernel) (pa_cons (pe_lockO (pe_lc rfl (own := [("place", 2)]) (g := gName 2) (by exact nd) (pi_keysO (pv 0)) (blkOk_by (own := [("place", 2)]) (N := ["values", "places", "place"]) (sc := defScope s_want_values) (by decide +kernel)) (fun _ _ _ _ _ => (pg_name (i := 2) nd rfl (.inl rfl))) (fun _ _ _ _ _ => pts_nil) (fun _ _ _ _ _ => (pe_fn G_is_value hg (hr.mono (by decide)) T.d_is_value.kp T.d_is_value.m (by rfl) passL (pa_cons (pe_dget hu (pv 0) (pv 2) (fun _ _ => rfl)) pa_nil))))) pa_nil)))) (pw_or1 (pt_not (pt_val (pe_callB (cr_all rfl) (by rfl) T.z_all (by decide +kernel) (pa_cons (pe_lc rfl (own := [("place", 2)]) (g := gName 2) (by exact nd) (pi_list (pv 1)) (blkOk_by (own := [("place", 2)]) (N := ["values", "places", "place"]) (sc := defScope s_want_values) (by decide +kernel)) (fun _ _ _ _ _ => (pg_name (i := 2) nd rfl (.inl rfl))) (fun _ _ _ _ _ => pts_nil) (fun _ _ _ _ _ => (pe_cmp (pc_din hu (pv 2) (pv 0))))) pa_nil))))))) (pss_one (ps_raiseV (i := 0) (k := 1) rfl (W := fun cls d _ H' => E cls d H') (takes_of rfl rfl rfl rfl) T.e_InvalidValues T.ti T.di (hr.mono (by decide)) (by rfl) (pv 0))) pss_nil))), ?_⟩
    have isD : ∀ {b : Bool}, (∀ H1, Ex H H1 → ∀ Q' : VK, Q' (.bl b) H1 → rIsiO K [u, .ty "dict"] H1 Q') → EvT (tNot (tTest (tCB (rIsiO K) (tCons (tVar 0) (tCons (tC (.ty "dict")) tNil))))) [some u, some (.ref l), none] H (!b) := fun {b} k => et_not (et_test (ev_cb (ea_cons (ev_var rfl) (ea_cons ev_c ea_nil)) fun H1 e Q' q => k H1 e _ (q H1 (Ex.refl H1))))
    rcases h with ⟨d, kvs, rfl, hd, g, q⟩ | ⟨bad, err⟩
    · refine s_if (b := false) (et_is (et_or (isD (b := true) fun H1 e Q' q => .inl ⟨.ref d, .ty "dict", _, _, _, rfl, .ty _, rd_ty (ex_rd e hd), kit_ty (by decide +kernel), q⟩) fun _ => et_not (et_test (wv_keys (dkx_of hd) (by simpa using g.len) (keys_kn g.key)))) (by rw [names_ok g.key]; rfl)) (fun z => nomatch z) fun _ H1 e1 => ?_
      refine s_if (b := false) (et_is (et_or (et_not (et_test (wv_vals (ex_rd e1 hd) g.len g.look fun kv hkv => vals_kn (g.val kv hkv)))) fun _ => et_not (et_test (wv_places (ex_rd e1 hd) (e1 _ _ hl) hz))) ?_) (fun z => nomatch z) fun _ H2 e2 => q H2 (e1.trans e2)
      rw [List.all_eq_true.mpr (fun b hb => by
        obtain ⟨kv, hkv, rfl⟩ := List.mem_map.mp hb
        exact g.val kv hkv), List.all_eq_true.mpr (fun b hb => by
        obtain ⟨n, hn, rfl⟩ := List.mem_map.mp hb
        exact g.has n hn)]
      rfl
    · cases bad with
      | nd h hk =>
        refine s_if (b := true) (et_is (et_or (b := true) (isD (b := false) fun H1 e Q' q => .inl ⟨u, .ty "dict", _, _, _, rfl, .ty _, (h.up e).ty, by rw [kn_dict (h.up e), beq_eq_false_iff_ne.mpr hk], q⟩) fun z => nomatch z) rfl) (fun _ H1 e1 => ⟨u, rfl, fun d hd => (err.up e1).new (Ex.refl H1) hd⟩) (fun z => nomatch z)
      | @key d uo xs h hl2 hkx hb =>
        refine s_if (b := true) (et_is (et_or (isD (b := true) fun H1 e Q' q => ?_) fun _ => et_not (et_test (wv_keys (.inl h) hl2 hkx))) (by rw [hb]; rfl)) (fun _ H1 e1 => ⟨_, rfl, fun d hd => (err.up e1).new (Ex.refl H1) hd⟩) (fun z => nomatch z)
        cases h with
        | k h => exact .inl ⟨.ref d, .ty "dict", _, _, _, rfl, .ty _, (Kn.dic (e _ _ h)).ty, kn_dict (Kn.dic (e _ _ h)), q⟩
        | o h => exact .inr ⟨d, _, "dict", true, rfl, e _ _ h, kit_ty (by decide +kernel), q⟩
      | @val d kvs hd hl2 key look hkx hb =>
        refine s_if (b := false) (et_is (et_or (isD (b := true) fun H1 e Q' q => .inl ⟨.ref d, .ty "dict", _, _, _, rfl, .ty _, (Kn.dic (e _ _ hd)).ty, kn_dict (Kn.dic (e _ _ hd)), q⟩) fun _ => et_not (et_test (wv_keys (.inl (.k hd)) (by simpa using hl2) (keys_kn key)))) (by rw [names_ok key]; rfl)) (fun z => nomatch z) fun _ H1 e1 => ?_
        exact s_if (b := true) (et_is (et_or (b := true) (et_not (et_test (wv_vals (.inl (e1 _ _ hd)) hl2 look fun kv hkv => ⟨(hkx kv hkv).1, let ⟨t, z⟩ := (hkx kv hkv).2; ⟨t, z.up e1⟩⟩))) fun z => by rw [hb] at z; cases z) (by rw [hb]; rfl)) (fun _ H2 e2 => ⟨_, rfl, fun d hd => (err.up (e1.trans e2)).new (Ex.refl H2) hd⟩) (fun z => nomatch z)
      | @miss d kvs hd g hb =>
        refine s_if (b := false) (et_is (et_or (isD (b := true) fun H1 e Q' q => .inl ⟨.ref d, .ty "dict", _, _, _, rfl, .ty _, (Kn.dic (e _ _ hd)).ty, kn_dict (Kn.dic (e _ _ hd)), q⟩) fun _ => et_not (et_test (wv_keys (.inl (.k hd)) (by simpa using g.len) (keys_kn g.key)))) (by rw [names_ok g.key]; rfl)) (fun z => nomatch z) fun _ H1 e1 => ?_
        exact s_if (b := true) (et_is (et_or (et_not (et_test (wv_vals (.inl (e1 _ _ hd)) g.len g.look fun kv hkv => vals_kn (g.val kv hkv)))) fun _ => et_not (et_test (wv_places (.inl (e1 _ _ hd)) (e1 _ _ hl) hz))) (by rw [hb]; simp)) (fun _ H2 e2 => ⟨_, rfl, fun d hd => (err.up (e1.trans e2)).new (Ex.refl H2) hd⟩) (fun z => nomatch z)
end
end K12
/-! o.m(..), o of one of several own classes: the class is told at the run. -/
namespace LG
open PySem PySem.Spec PyProof.Rows L2 Evl
structure MetG (K : PySem.W.Frag) (C f : Addr) (m : Str) : Prop where
  cl : Cls K C
  mt : Meth K C m f
def tMethA (G : Addr → Prop) (m : Str) (sp : Sp) (E : XK) (ta : TE) (t : TA) : TE := fun σ H Q => ta σ H fun x H1 => ∃ a C dx fs, x = .ref a ∧ H1 a = some (.ins C dx fs) ∧ G C ∧ fs.lookup m = none ∧ t σ H1 fun vs H2 => sp (x :: vs) H2 Q E
section
variable {X : Cx} {G : Addr → Prop} {k : Nat} {f : Addr} {m : Str} {sp : Sp} {E : XK} {o e : Expr} {es : List Expr} {ta : TE} {t : TA} {apos pos : Pos} {pl : Sem Bool}
theorem pe_methA (he : PE X o ta) (hG : ∀ C, G C → MetG X.K C f m) (F : Fn X.prog X.w X.K X.mg X.base k f sp) (g0 : X.A.guards = some []) (hr : Room k X.A) (hx : Passes (L2.CX X.prog X.w) X E) (ha : PA X (e :: es) t)
    (hst : starEach (e :: es) X.env = (false, eval e X.env) :: starEach es X.env := by rfl) (hpl : (backTo pos (starEach es X.env)).any (·.1) = false := by rfl)
    (ht : eval (.Call (.Attribute o m apos) (e :: es) [] pos) X.env = (do
      let ov ← eval o X.env
      standAt apos.atName
      let (f, first) ← holding [ov] (getMethod ov m pl)
      callWith pos f first (backTo pos (starEach (e :: es) X.env)) (backToKw pos (keywordEach [] X.env))) := by rfl) :
    PE X (.Call (.Attribute o m apos) (e :: es) [] pos) (tMethA G m sp E ta t) := by
  refine ⟨fun pins s σ H Q I h => ?_⟩
  refine PySem.W.methodCall_KW (pl := pl) (thn (he.run pins s σ H _ I h) fun u s1 ⟨x, H1, I1, rx, a, C, dx, fs, ex, ea, g, l, q⟩ => ?_) ht
  subst ex
  obtain rfl : u = Value.ref a := rx
  refine getmeth_ok I1 ea (hG C g).cl (hG C g).mt l ?_
  exact PySem.W.callWith_K (first := [.ref a]) (h₀ := X.base) I.ok.mod.kin (hG C g).mt.kp (thn (ha.run pos pins s1 σ H1 _ I1 q) fun us s2 ⟨vs, H2, I2, r, q2⟩ => ⟨I2.kIn, run_Fn (us := .ref a :: us) (vs := .ref a :: vs) F g0 hr hx I2 (.cons rfl r) q2⟩) hst hpl
theorem pe_methA0 (he : PE X o ta) (hG : ∀ C, G C → MetG X.K C f m) (F : Fn X.prog X.w X.K X.mg X.base k f sp) (g0 : X.A.guards = some []) (hr : Room k X.A) (hx : Passes (L2.CX X.prog X.w) X E)
    (ht : eval (.Call (.Attribute o m apos) [] [] pos) X.env = (do
      let ov ← eval o X.env
      standAt apos.atName
      let (f, first) ← holding [ov] (getMethod ov m pl)
      callWith pos f first (backTo pos (starEach [] X.env)) (backToKw pos (keywordEach [] X.env))) := by rfl) :
    PE X (.Call (.Attribute o m apos) [] [] pos) (tMethA G m sp E ta tNil) := by
  refine ⟨fun pins s σ H Q I h => ?_⟩
  refine PySem.W.methodCall_KW (pl := pl) (thn (he.run pins s σ H _ I h) fun u s1 ⟨x, H1, I1, rx, a, C, dx, fs, ex, ea, g, l, q⟩ => ?_) ht
  subst ex
  obtain rfl : u = Value.ref a := rx
  refine getmeth_ok I1 ea (hG C g).cl (hG C g).mt l ?_
  exact PySem.W.callWith_K0 (first := [.ref a]) I1.kIn (hG C g).mt.kp (run_Fn (us := [.ref a]) (vs := [.ref a]) F g0 hr hx I1 (.cons rfl .nil) q)
/-- o.m(k = v, ..) -/
theorem pe_methAK {fd : FuncData} {ps ks : List Str} {kws : List Keyword} {tk : TA} (he : PE X o ta) (hG : ∀ C, G C → MetG X.K C f m) (F : FnB X.prog X.w X.K X.mg X.base k f fd ps sp) (g0 : X.A.guards = some []) (hr : Room k X.A) (hx : Passes (L2.CX X.prog X.w) X E)
    (hb : ∀ (u : Value) (ws : List Value), ws.length = ks.length → bindArgs fd ⟨[u], ks.zip ws⟩ = pure (ps.zip (u :: ws))) (hps : ps.length = ks.length + 1) (hkw : PK X kws tk)
    (hall : (backToKw pos (keywordEach kws X.env)).all (·.1.isSome) = true := by rfl) (hks : (backToKw pos (keywordEach kws X.env)).filterMap (·.1) = ks := by rfl)
    (hpl : ((backTo pos (starEach [] X.env)).any (·.1) || (backToKw pos (keywordEach kws X.env)).any (·.1.isNone)) = false := by rfl)
    (ht : eval (.Call (.Attribute o m apos) [] kws pos) X.env = (do
      let ov ← eval o X.env
      standAt apos.atName
      let (f, first) ← holding [ov] (getMethod ov m pl)
      callWith pos f first (backTo pos (starEach [] X.env)) (backToKw pos (keywordEach kws X.env))) := by rfl) :
    PE X (.Call (.Attribute o m apos) [] kws pos) (tMethA G m (fun vs H Q E => vs.length = ks.length + 1 ∧ sp vs H Q E) E ta tk) := by
  refine ⟨fun pins s σ H Q I h => ?_⟩
  refine PySem.W.methodCall_KW (pl := pl) (thn (he.run pins s σ H _ I h) fun u s1 ⟨x, H1, I1, rx, a, C, dx, fs, ex, ea, g, l, q⟩ => ?_) ht
  subst ex
  obtain rfl : u = Value.ref a := rx
  refine getmeth_ok I1 ea (hG C g).cl (hG C g).mt l ?_
  refine PySem.W.callWith_KW0 (first := [.ref a]) (h₀ := X.base) I.ok.mod.kin (hG C g).mt.kp hall (thn (hkw.run pos pins s1 σ H1 _ I1 q) fun ws s2 ⟨zs, H2, I2, rz, hl, q2⟩ => ⟨I2.kIn, ?_⟩) hpl
  rw [hks]
  have hl2 : zs.length = ks.length := by simpa using hl
  refine wpAny_call (codeAny_mono (F X.A X.stack s2 H2 ⟨[.ref a], ks.zip ws⟩ (.ref a :: ws) (.ref a :: zs) Q E g0 hr I2.env0 (.of_eq (hb (.ref a) ws (by rw [← rz.length]; exact hl2))) (.cons rfl rz) (hl.trans hps.symm) q2) fun res s' hq => ?_)
  match res, hq with
  | .error e, hq => exact hx pins σ H2 s2 e s' I2 hq
  | .ok (.ret u), hq => exact I2.after hq
  | .ok .next, hq => exact hq.elim
  | .ok .brk, hq => exact hq.elim
  | .ok .cont, hq => exact hq.elim
end
section
variable {te : TE} {σ : L2.St} {H : Hp} {G : Addr → Prop} {m : Str} {sp : Sp} {E : XK}
theorem ev_methA {ta : TA} {vs : List V} {a C dx : Addr} {fs : List (Str × V)} {z : V} (h : Ev te σ H (.ref a)) (ea : H a = some (.ins C dx fs)) (g : G C) (hv : fs.lookup m = none) (ha : EvA ta σ H vs) (hs : SpV sp (.ref a :: vs) H z) : Ev (tMethA G m sp E te ta) σ H z :=
  fun H1 e Q q => h H1 e _ fun H2 e2 => ⟨a, C, dx, fs, rfl, e2 _ _ (e _ _ ea), g, hv, ha H2 (e.trans e2) _ fun H3 e3 => hs H3 ((e.trans e2).trans e3) _ (fun H4 e4 => q H4 ((e2.trans e3).trans e4)) E⟩
end
end LG
namespace K12
open PySem PySem.Spec PyProof.Rows L2 LG Evl
/-! ### the value of a term -/
mutual
def val (f : Str → V) : TM.Tree → V
  | .place n => f n
  | .endd e => .str e
  | .lesser ts => leastV (valAll f ts)
  | .greater ts => greatestV (valAll f ts)
def valAll (f : Str → V) : List TM.Tree → List V
  | [] => []
  | t :: ts => val f t :: valAll f ts
end
theorem valAll_map (f : Str → V) : ∀ ts : List TM.Tree, valAll f ts = ts.map (val f)
  | [] => rfl
  | t :: ts => by rw [valAll, List.map_cons, valAll_map f ts]
def fD (kvs : List (Key × V)) (n : Str) : V := (valV kvs (Sum.inr n)).getD .non
/-- all places of t have values -/
def Has (kvs : List (Key × V)) (t : TM.Tree) : Prop := ∀ n ∈ t.places, ∃ x, valV kvs (Sum.inr n) = some x ∧ Bd x
theorem Has.lesser {kvs : List (Key × V)} {ts : List TM.Tree} (h : Has kvs (.lesser ts)) : ∀ t ∈ ts, Has kvs t := fun t ht n hn => h n (by rw [TM.Tree.places]; exact TM.mem_placesAll.mpr ⟨t, ht, hn⟩)
theorem Has.greater {kvs : List (Key × V)} {ts : List TM.Tree} (h : Has kvs (.greater ts)) : ∀ t ∈ ts, Has kvs t := fun t ht n hn => h n (by rw [TM.Tree.places]; exact TM.mem_placesAll.mpr ⟨t, ht, hn⟩)
theorem Bd.val {v : V} (h : Bd v) : isValB v = true := by
  rcases h with rfl | rfl | ⟨i, rfl, _⟩
  · decide +kernel
  · decide +kernel
  · rfl
theorem bd_of {v : V} (h : isValB v = true) (hb : ∀ i, v = .int i → -big < i ∧ i < big) : Bd v := by
  rcases isValB_cases h with ⟨i, rfl⟩ | rfl | rfl
  · exact .inr (.inr ⟨i, rfl, hb i rfl⟩)
  · exact .inl rfl
  · exact .inr (.inl rfl)
theorem val_bd {kvs : List (Key × V)} {t : TM.Tree} (ok : TM.Ok t) : Has kvs t → Bd (val (fD kvs) t) := by
  induction ok with
  | @place n h =>
    intro hh
    obtain ⟨x, hx, bx⟩ := hh n (by rw [TM.Tree.places]; exact List.mem_singleton.mpr rfl)
    rw [val, fD, hx]
    exact bx
  | @endd e h =>
    intro _
    rw [val]
    simp only [List.mem_cons, List.not_mem_nil, or_false] at h
    rcases h with rfl | rfl
    · exact .inl rfl
    · exact .inr (.inl rfl)
  | @lesser ts _ _ ih =>
    intro hh
    rw [val, leastV]
    obtain ⟨r, e, b, _⟩ := least_fold (valAll (fD kvs) ts) (.str "top") (.inr (.inl rfl)) fun x hx => by
      rw [valAll_map] at hx
      obtain ⟨t, ht, rfl⟩ := List.mem_map.mp hx
      exact ih t ht (hh.lesser t ht)
    rw [e]
    exact b
  | @greater ts _ _ ih =>
    intro hh
    rw [val, greatestV]
    obtain ⟨r, e, b, _⟩ := greatest_fold (valAll (fD kvs) ts) (.str "bottom") (.inl rfl) fun x hx => by
      rw [valAll_map] at hx
      obtain ⟨t, ht, rfl⟩ := List.mem_map.mp hx
      exact ih t ht (hh.greater t ht)
    rw [e]
    exact b
section
variable {P : Program} {w : World} {K : PySem.W.Frag} {mg : Str → Option Value} {base : Heap} {a : At}
def sp_value_at (a : At) (n : Nat) : Sp := fun vs H Q _ => ∃ v t d kvs, vs = [v, .ref d] ∧ TM.TmAt (csOf a) H v t ∧ TM.Ok t ∧ t.depth < n ∧ Rd H d (.dK kvs) ∧ Has kvs t ∧ ∀ H', Ex H H' → Q (val (fD kvs) t) H'
theorem ok_value_at (T : Txt K mg a) : ∀ n, Fn P w K mg base (n + 3) a.value_at (sp_value_at a n) := by
  intro n
  induction n with
  | zero =>
    refine T.d_value_at.fn sc_value_at (fun _ _ _ _ _ _ us hl => match us, hl with | [_, _], _ => rfl) (fun vs H Q E h => ?_) (fun cdv A outer s H vs Q E hg hr h => ?_)
    · obtain ⟨_, _, _, _, rfl, _⟩ := h
      rfl
    · obtain ⟨_, t, _, _, _, _, _, hd, _⟩ := h
      exact absurd hd (Nat.not_lt_zero _)
  | succ n ih =>
    have G_value_at := ih
    have G_least_of := ok_least_of (P := P) (w := w) (base := base) T
    have G_greatest_of := ok_greatest_of (P := P) (w := w) (base := base) T
    refine T.d_value_at.fn sc_value_at (fun _ _ _ _ _ _ us hl => match us, hl with | [_, _], _ => rfl) (fun vs H Q E h => ?_) (fun cdv A outer s H vs Q E hg hr h => ?_)
    · obtain ⟨_, _, _, _, rfl, _⟩ := h
      rfl
    · obtain ⟨v, t, d, kvs, rfl, ht, ok, hd, hk, hh, q⟩ := h
      have nd := sc_value_at.nd
      have hr2 := hr.mono (j := 2) (by omega)
      have hu := hu_of hr
      refine ⟨_, (pss_cons (ps_if (pt_val (pe_callB call_isi (by rfl) T.z_isinstance (by decide +kernel) (pa_cons (pv 0) (pa_cons (pe_glob (v := .ref a.k_Place) (by rfl) T.g_Place.m rfl) pa_nil)))) (pss_one (ps_ret (pe_dget hu (pv 1) (pe_getA (G := gNm a) (CX := CX0) (pv 0) (g_nm T) hr2 pass0 rfl) (fun _ _ => rfl)))) pss_nil)
    (pss_cons (ps_if (pt_val (pe_callB call_isi (by rfl) T.z_isinstance (by decide +kernel) (pa_cons (pv 0) (pa_cons (pe_glob (v := .ref a.k_End) (by rfl) T.g_End.m rfl) pa_nil)))) (pss_one (ps_ret (pe_getA (G := gEnd a) (CX := CX0) (pv 0) (g_end T) hr2 pass0 rfl))) pss_nil)
    (pss_cons (ps_setLc (i := 2) (own := [("part", 3)]) (g := gName 3) rfl (by exact nd) rfl rfl (by rfl) (pi_tup (pe_getA (G := gParts a) (CX := CX0) (pv 0) (g_parts T) hr2 pass0 rfl)) (blkOk_by (own := [("part", 3)]) (N := ["term", "values", "found", "part"]) (sc := defScope s_value_at) (by decide +kernel)) (fun _ _ _ _ _ => (pg_name (i := 3) nd rfl (.inl rfl))) (fun _ _ _ _ _ => pts_nil) (fun _ _ _ _ _ => (pe_fn G_value_at hg (hr.mono (by omega)) T.d_value_at.kp T.d_value_at.m (by rfl) passL (pa_cons (pv 3) (pa_cons (pv 1) pa_nil)))))
    (pss_one (ps_ret (pe_ifExp (pt_val (pe_callB call_isi (by rfl) T.z_isinstance (by decide +kernel) (pa_cons (pv 0) (pa_cons (pe_glob (v := .ref a.k_Lesser) (by rfl) T.g_Lesser.m rfl) pa_nil)))) (pe_fn G_least_of hg (hr.mono (by omega)) T.d_least_of.kp T.d_least_of.m (by rfl) passL (pa_cons (pv 2) pa_nil)) (pe_fn G_greatest_of hg (hr.mono (by omega)) T.d_greatest_of.kp T.d_greatest_of.m (by rfl) passL (pa_cons (pv 2) pa_nil)))))))), ?_⟩
      have two : ∀ {x p : Addr} {xs : List V} {ts : List TM.Tree}, H p = some (.tup xs) → xs.length = ts.length → (∀ (i : Nat) (y : V) (t : TM.Tree), xs[i]? = some y → ts[i]? = some t → TM.TmAt (csOf a) H y t) → TM.Ln ts.length → (∀ t ∈ ts, TM.Ok t) → TM.Tree.depthAll ts < n → (∀ t ∈ ts, Has kvs t) →
          ∀ H2, Ex H H2 → Ev (tGetA (gParts a) (tVar 0)) [some (.ref x), some (.ref d), none, none] H2 (.ref p) → EvL (tLc (iTup K (tGetA (gParts a) (tVar 0))) (gName 3) tYes (tFn (sp_value_at a n) E0 (tCons (tVar 3) (tCons (tVar 1) tNil))) [3]) [some (.ref x), some (.ref d), none, none] H2 (ts.map (val (fD kvs))) := by
        intro x p xs ts hp hl hxs hln hok hdn hhs H2 e2 hev
        have h8 := hln.eight
        refine el_tmap hev (st_of (e2 _ _ hp)) (by omega) (by rw [List.length_map]; exact hl) (fun x => rfl) (fun i y z H3 e3 hi hz => ?_)
        rw [List.getElem?_map] at hz
        obtain ⟨u, hu2, rfl⟩ := Option.map_eq_some_iff.mp hz
        have hm := List.mem_of_getElem? hu2
        have e03 := e2.trans e3
        exact ev_fn (ea_cons (ev_var rfl) (ea_cons (ev_var rfl) ea_nil)) fun H4 e4 Q' q' E' => ⟨y, u, d, kvs, rfl, (hxs i y u hi hu2).up (e03.trans e4), hok u hm, Nat.lt_of_le_of_lt (TM.depth_mem hm) hdn, ex_rd (e03.trans e4) hk, hhs u hm, q'⟩
      have vals : ∀ {ts : List TM.Tree}, (∀ t ∈ ts, TM.Ok t) → (∀ t ∈ ts, Has kvs t) → ∀ x ∈ ts.map (val (fD kvs)), isValB x = true := by
        intro ts hok hhs x hx
        obtain ⟨t, ht, rfl⟩ := List.mem_map.mp hx
        exact (val_bd (hok t ht) (hhs t ht)).val
      cases ht with
      | @place x dx nm hx =>
        refine s_if (b := true) (et_isT (ev_var rfl) (fun H1 e => ty_ins T T.g_Place (e _ _ hx)) (kit_of T.g_Place T.x_Place_Place T.x_Place_Place)) (fun _ H1 e1 => ?_) (fun z => nomatch z)
        obtain ⟨y, hy, _⟩ := hh nm (by rw [TM.Tree.places]; exact List.mem_singleton.mpr rfl)
        refine s_ret (ev_dgetR (k := Sum.inr nm) (v := y) (ev_var rfl) (ev_getA (ev_var rfl) (e1 _ _ hx) ⟨rfl, rfl⟩ rfl) (ex_rd e1 hk) hy) fun H2 e2 => ?_
        have z := q H2 (e1.trans e2)
        rw [val, fD, hy] at z
        exact z
      | @endd x dx nm hx =>
        refine s_if (b := false) (et_isT (ev_var rfl) (fun H1 e => ty_ins T T.g_End (e _ _ hx)) (kit_of T.g_Place T.x_End_Place T.x_Place_Place)) (fun z => nomatch z) (fun _ H1 e1 => ?_)
        refine s_if (b := true) (et_isT (ev_var rfl) (fun H2 e => ty_ins T T.g_End ((e1.trans e) _ _ hx)) (kit_of T.g_End T.x_End_End T.x_End_End)) (fun _ H2 e2 => ?_) (fun z => nomatch z)
        refine s_ret (ev_getA (ev_var rfl) ((e1.trans e2) _ _ hx) ⟨rfl, rfl⟩ rfl) fun H3 e3 => ?_
        have z := q H3 ((e1.trans e2).trans e3)
        rw [val] at z
        exact z
      | @lesser x dx p xs ts hx hp hl hxs =>
        cases ok with
        | lesser hln hok =>
          refine s_if (b := false) (et_isT (ev_var rfl) (fun H1 e => ty_ins T T.g_Lesser (e _ _ hx)) (kit_of T.g_Place T.x_Lesser_Place T.x_Place_Place)) (fun z => nomatch z) (fun _ H1 e1 => ?_)
          refine s_if (b := false) (et_isT (ev_var rfl) (fun H2 e => ty_ins T T.g_Lesser ((e1.trans e) _ _ hx)) (kit_of T.g_End T.x_Lesser_End T.x_End_End)) (fun z => nomatch z) (fun _ H2 e2 => ?_)
          have e02 := e1.trans e2
          refine q_asgL (two (x := x) hp hl hxs hln hok (Nat.lt_of_succ_lt_succ (by simpa [TM.Tree.depth] using hd)) hh.lesser H2 e02 (ev_getA (ev_var rfl) (e02 _ _ hx) ⟨.inl rfl, rfl⟩ rfl)) fun l H3 hl3 e3 h3 => ?_
          refine s_ret (ev_if (b := true) (et_isT (ev_var rfl) (fun H4 e => ty_ins T T.g_Lesser (((e02.trans e3).trans e) _ _ hx)) (kit_of T.g_Lesser T.x_Lesser_Lesser T.x_Lesser_Lesser)) (fun _ => ev_fn (z := leastV (ts.map (val (fD kvs)))) (ea_cons (ev_var rfl) ea_nil) fun H4 e4 Q' q' E' => ⟨l, _, rfl, sq_of (e4 _ _ h3), vals hok hh.lesser, q' H4 (Ex.refl _)⟩) fun z => nomatch z) fun H4 e4 => ?_
          have z := q H4 ((e02.trans e3).trans e4)
          rw [val, valAll_map] at z
          exact z
      | @greater x dx p xs ts hx hp hl hxs =>
        cases ok with
        | greater hln hok =>
          refine s_if (b := false) (et_isT (ev_var rfl) (fun H1 e => ty_ins T T.g_Greater (e _ _ hx)) (kit_of T.g_Place T.x_Greater_Place T.x_Place_Place)) (fun z => nomatch z) (fun _ H1 e1 => ?_)
          refine s_if (b := false) (et_isT (ev_var rfl) (fun H2 e => ty_ins T T.g_Greater ((e1.trans e) _ _ hx)) (kit_of T.g_End T.x_Greater_End T.x_End_End)) (fun z => nomatch z) (fun _ H2 e2 => ?_)
          have e02 := e1.trans e2
          refine q_asgL (two (x := x) hp hl hxs hln hok (Nat.lt_of_succ_lt_succ (by simpa [TM.Tree.depth] using hd)) hh.greater H2 e02 (ev_getA (ev_var rfl) (e02 _ _ hx) ⟨.inr rfl, rfl⟩ rfl)) fun l H3 hl3 e3 h3 => ?_
          refine s_ret (ev_if (b := false) (et_isT (ev_var rfl) (fun H4 e => ty_ins T T.g_Greater (((e02.trans e3).trans e) _ _ hx)) (kit_of T.g_Lesser T.x_Greater_Lesser T.x_Lesser_Lesser)) (fun z => nomatch z) fun _ => ev_fn (z := greatestV (ts.map (val (fD kvs)))) (ea_cons (ev_var rfl) ea_nil) fun H4 e4 Q' q' E' => ⟨l, _, rfl, sq_of (e4 _ _ h3), vals hok hh.greater, q' H4 (Ex.refl _)⟩) fun H4 e4 => ?_
          have z := q H4 ((e02.trans e3).trans e4)
          rw [val, valAll_map] at z
          exact z
end
end K12
namespace K12
open PySem PySem.Spec PyProof.Rows L2 LG Evl
section
variable {P : Program} {w : World} {K : PySem.W.Frag} {mg : Str → Option Value} {base : Heap} {a : At}
/-! ### Term.at -/
/-- the dict at d has values for the places of t, and all is as it should be -/
structure DictFor (H : Hp) (d : Addr) (kvs : List (Key × V)) (t : TM.Tree) : Prop where
  at_ : Rd H d (.dK kvs)
  good : GoodD kvs []
  bd : ∀ kv ∈ kvs, Bd kv.2
  has : ∀ n ∈ t.places, (valV kvs (Sum.inr n)).isSome = true
theorem valV_mem {kvs : List (Key × V)} {k : Key} {x : V} (h : valV kvs k = some x) : (k, x) ∈ kvs := by
  obtain ⟨kv, hkv, rfl⟩ := Option.map_eq_some_iff.mp h
  have e : kv.1 = k := of_decide_eq_true (List.find?_some (p := fun kv : Key × V => decide (kv.1 = k)) hkv)
  have m := List.mem_of_find?_eq_some hkv
  rw [← e]
  exact m
theorem DictFor.hs {H : Hp} {d : Addr} {kvs : List (Key × V)} {t : TM.Tree} (h : DictFor H d kvs t) : Has kvs t := fun n hn => by
  obtain ⟨x, hx⟩ := Option.isSome_iff_exists.mp (h.has n hn)
  exact ⟨x, hx, h.bd _ (valV_mem hx)⟩
theorem DictFor.g {H : Hp} {d : Addr} {kvs : List (Key × V)} {t : TM.Tree} (h : DictFor H d kvs t) : GoodD kvs t.places := ⟨h.good.len, h.good.key, h.good.look, h.good.val, h.has⟩
theorem DictFor.up {H H' : Hp} {d : Addr} {kvs : List (Key × V)} {t : TM.Tree} (e : Ex H H') (h : DictFor H d kvs t) : DictFor H' d kvs t := ⟨ex_rd e h.at_, h.good, h.bd, h.has⟩
def sp_Term_at (a : At) : Sp := fun vs H Q E => ∃ v t u, vs = [v, u] ∧ TM.TmAt (csOf a) H v t ∧ TM.Ok t ∧ t.depth ≤ 4 ∧
  ((∃ d kvs, u = .ref d ∧ DictFor H d kvs t ∧ ∀ H', Ex H H' → Q (val (fD kvs) t) H') ∨ (BadV H t.places u ∧ Errs a.c_InvalidValues u H E))
theorem fnB_Term_at (T : Txt K mg a) : ∃ fd, FnB P w K mg base 9 a.m_Term_at fd ["self", "values"] (sp_Term_at a) ∧ Fun K "at" "Term.at" s_Term_at a.m_Term_at fd := by
  have G_places_in := ok_places_in (P := P) (w := w) (base := base) T 5
  have G_value_at := ok_value_at (P := P) (w := w) (base := base) T 5
  have G_want_values := ok_want_values (P := P) (w := w) (base := base) T
  obtain ⟨fd, F⟩ := T.m_Term_at.F
  refine ⟨fd, FnB.of F sc_Term_at fun cdv A outer s H vs Q E hg hr h => ?_, F⟩
  obtain ⟨v, t, u, rfl, ht, ok, hd, h⟩ := h
  refine ⟨_, (pss_cons (ps_expr (pe_fn (E := E) G_want_values hg (hr.mono (by decide)) T.d_want_values.kp T.d_want_values.m (by rfl) passC (pa_cons (pv 1) (pa_cons (pe_fn G_places_in hg (hr.mono (by decide)) T.d_places_in.kp T.d_places_in.m (by rfl) passL (pa_cons (pv 0) pa_nil)) pa_nil))))
    (pss_one (ps_ret (pe_fn G_value_at hg (hr.mono (by decide)) T.d_value_at.kp T.d_value_at.m (by rfl) passL (pa_cons (pv 0) (pa_cons (pv 1) pa_nil)))))), ?_⟩
  refine ⟨u, rfl, v, rfl, v, t, rfl, ht, ok, by omega, hd, fun l H1 hl e1 h1 => ?_⟩
  refine ⟨u, l, t.places, rfl, h1, Nat.le_trans (TM.places_len 4 t ok hd) (by decide), ok.names, ?_⟩
  rcases h with ⟨d, kvs, rfl, hdf, q⟩ | ⟨bad, err⟩
  · refine .inl ⟨d, kvs, rfl, ex_rd e1 hdf.at_, hdf.g, fun H2 e2 => ?_⟩
    exact ⟨v, rfl, .ref d, rfl, v, t, d, kvs, rfl, ht.up (e1.trans e2), ok, by omega, ex_rd (e1.trans e2) hdf.at_, hdf.hs, fun H3 e3 => q H3 ((e1.trans e2).trans e3)⟩
  · exact .inr ⟨bad.up e1, err.up e1⟩
theorem fn_Term_at (T : Txt K mg a) : Fn P w K mg base 9 a.m_Term_at (sp_Term_at a) := by
  obtain ⟨fd, B, F⟩ := fnB_Term_at (P := P) (w := w) (base := base) T
  refine B.fn (F.binds fun _ _ _ _ _ _ us hl => match us, hl with | [_, _], _ => rfl) fun vs H Q E h => ?_
  obtain ⟨_, _, _, rfl, _⟩ := h
  rfl
theorem g_at (T : Txt K mg a) : ∀ C, IsT a C → MetG K C a.m_Term_at "at" := by
  obtain ⟨fd, F⟩ := T.m_Term_at.F
  rintro C (rfl | rfl | rfl | rfl)
  · exact ⟨T.g_Place.cl, T.f_Place_at, T.m_Term_at.fn, F.kp⟩
  · exact ⟨T.g_End.cl, T.f_End_at, T.m_Term_at.fn, F.kp⟩
  · exact ⟨T.g_Lesser.cl, T.f_Lesser_at, T.m_Term_at.fn, F.kp⟩
  · exact ⟨T.g_Greater.cl, T.f_Greater_at, T.m_Term_at.fn, F.kp⟩
theorem g_places (T : Txt K mg a) : ∀ C, IsT a C → MetG K C a.m_Term_places "places" := by
  obtain ⟨fd, F⟩ := T.m_Term_places.F
  rintro C (rfl | rfl | rfl | rfl)
  · exact ⟨T.g_Place.cl, T.f_Place_places, T.m_Term_places.fn, F.kp⟩
  · exact ⟨T.g_End.cl, T.f_End_places, T.m_Term_places.fn, F.kp⟩
  · exact ⟨T.g_Lesser.cl, T.f_Lesser_places, T.m_Term_places.fn, F.kp⟩
  · exact ⟨T.g_Greater.cl, T.f_Greater_places, T.m_Term_places.fn, F.kp⟩
theorem tm_met {H : Hp} {v : V} {t : TM.Tree} (h : TM.TmAt (csOf a) H v t) : ∃ x C dx fs, v = .ref x ∧ H x = some (.ins C dx fs) ∧ IsT a C ∧ fs.lookup ("at" : Str) = none ∧ fs.lookup ("places" : Str) = none := by
  cases h with
  | place h => exact ⟨_, _, _, _, rfl, h, .inl rfl, rfl, rfl⟩
  | endd h => exact ⟨_, _, _, _, rfl, h, .inr (.inl rfl), rfl, rfl⟩
  | lesser h _ _ _ => exact ⟨_, _, _, _, rfl, h, .inr (.inr (.inl rfl)), rfl, rfl⟩
  | greater h _ _ _ => exact ⟨_, _, _, _, rfl, h, .inr (.inr (.inr rfl)), rfl, rfl⟩
/-- made.at(there) -/
theorem ev_at {E : XK} {to tu : TE} {σ : L2.St} {H : Hp} {v : V} {t : TM.Tree} {d : Addr} {kvs : List (Key × V)} (h : Ev to σ H v) (hu : Ev tu σ H (.ref d)) (ht : TM.TmAt (csOf a) H v t) (ok : TM.Ok t) (hd : t.depth ≤ 4) (hf : DictFor H d kvs t) :
    Ev (tMethA (IsT a) "at" (sp_Term_at a) E to (tCons tu tNil)) σ H (val (fD kvs) t) := by
  obtain ⟨x, C, dx, fs, rfl, hx, g, l1, _⟩ := tm_met ht
  exact ev_methA h hx g l1 (ea_cons hu ea_nil) fun H1 e Q q E' => ⟨_, t, _, rfl, ht.up e, ok, hd, .inl ⟨d, kvs, rfl, hf.up e, q⟩⟩
/-- made.at(values = there) -/
theorem ev_atK {E : XK} {to tu : TE} {σ : L2.St} {H : Hp} {v : V} {t : TM.Tree} {d : Addr} {kvs : List (Key × V)} (h : Ev to σ H v) (hu : Ev tu σ H (.ref d)) (ht : TM.TmAt (csOf a) H v t) (ok : TM.Ok t) (hd : t.depth ≤ 4) (hf : DictFor H d kvs t) :
    Ev (tMethA (IsT a) "at" (fun vs H Q E => vs.length = 2 ∧ sp_Term_at a vs H Q E) E to (tCons tu tNil)) σ H (val (fD kvs) t) := by
  obtain ⟨x, C, dx, fs, rfl, hx, g, l1, _⟩ := tm_met ht
  exact ev_methA h hx g l1 (ea_cons hu ea_nil) fun H1 e Q q E' => ⟨rfl, _, t, _, rfl, ht.up e, ok, hd, .inl ⟨d, kvs, rfl, hf.up e, q⟩⟩
end
end K12
/-! dict([(k, e) for k in ..]): new pairs, a new dict. -/
namespace LG
open PySem PySem.Spec PyProof.Rows L2 Evl
def PwR (H : Hp) (q : Addr) (kv : Key × V) : Prop := H q = some (.tup [kV kv.1, kv.2])
/-- i turns are done: the list at D holds the pairs of those that pass -/
def Pw (HL : Hp) (ks : List (Key × V)) (b : Key × V → Bool) (D : Addr) (i : Nat) (H' : Hp) : Prop := HL D = none ∧ Ex HL H' ∧ ∃ ps : List Addr, ps.length ≤ i ∧ H' D = some (.lst (ps.map V.ref)) ∧ Paired (PwR H') ps ((ks.take i).filter b)
theorem paired_up {H H' : Hp} (k : ∀ q o, (∀ xs, o ≠ .lst xs) → H q = some o → H' q = some o) {ps : List Addr} {ks : List (Key × V)} (h : Paired (PwR H) ps ks) : Paired (PwR H') ps ks := Paired.mapP h fun q kv z => k q _ (fun xs z => by cases z) z
theorem pw_start {HL : Hp} {ks : List (Key × V)} {b : Key × V → Bool} {D : Addr} (hD : HL D = none) : Pw HL ks b D 0 (upd HL D (.lst [])) := ⟨hD, Ex.new hD, [], Nat.le_refl _, upd_same, .nil⟩
theorem pw_turn {HL H' : Hp} {ks : List (Key × V)} {b : Key × V → Bool} {D : Addr} {i : Nat} {σ2 : L2.St} {t : TT} {te : TE} {kv : Key × V} (p : Pw HL ks b D i H') (hi : ks[i]? = some kv) (hz : ks.length ≤ 40000) (ht : EvT t σ2 HL (b kv)) (he : b kv = true → EvU te σ2 HL [kV kv.1, kv.2]) :
    t σ2 H' fun c H3 => if c = true then te σ2 H3 fun y H4 => ∃ acc, H4 D = some (.lst acc) ∧ acc.length < sizeLine ∧ Pw HL ks b D (i + 1) (upd H4 D (.lst (acc ++ [y]))) else Pw HL ks b D (i + 1) H3 := by
  obtain ⟨p1, p2, ps, pl, p3, p4⟩ := p
  have hlt : i < ks.length := (List.getElem?_eq_some_iff.mp hi).1
  have tk : (ks.take (i + 1)).filter b = (ks.take i).filter b ++ (if b kv = true then [kv] else []) := by
    rw [List.take_succ, hi, Option.toList_some, List.filter_append]
    congr 1
    rw [List.filter_cons]
    split <;> rfl
  refine ht H' p2 _ fun H3 e3 => ?_
  cases hb : b kv with
  | true =>
    show te σ2 H3 fun y H4 => ∃ acc, H4 D = some (.lst acc) ∧ acc.length < sizeLine ∧ Pw HL ks b D (i + 1) (upd H4 D (.lst (acc ++ [y])))
    refine he hb H3 (p2.trans e3) _ fun q H4 hq e4 h4 => ⟨ps.map V.ref, e4 D _ (e3 D _ p3), sz_lt (by rw [List.length_map]; omega), p1, Ex.mut ((p2.trans e3).trans e4) p1, ps ++ [q], by rw [List.length_append, List.length_singleton]; omega, by rw [List.map_append]; exact upd_same, ?_⟩
    rw [tk, hb, if_pos rfl]
    have hqD : q ≠ D := fun z => by
      rw [z, e3 D _ p3] at hq
      cases hq
    refine Paired.snoc (paired_up (fun r o ho z => ?_) p4) (by show upd H4 D _ q = _; rw [upd_ne hqD]; exact h4)
    have hr : r ≠ D := fun zz => by
      rw [zz, p3] at z
      exact ho _ (Option.some.inj z).symm
    rw [upd_ne hr]
    exact e4 _ _ (e3 _ _ z)
  | false =>
    show Pw HL ks b D (i + 1) H3
    refine ⟨p1, p2.trans e3, ps, by omega, e3 D _ p3, ?_⟩
    rw [tk, hb, if_neg (by decide), List.append_nil]
    exact paired_up (fun r o _ z => e3 _ _ z) p4
/-- a new list of new pairs -/
def EvP2 (te : TE) (σ : L2.St) (H : Hp) (kvs : List (Key × V)) : Prop := ∀ H1, Ex H H1 → ∀ Q : VK, (∀ p ps H2, H1 p = none → Ex H1 H2 → H2 p = some (.lst (ps.map V.ref)) → Paired (PwR H2) ps kvs → Q (.ref p) H2) → te σ H1 Q
theorem ep_keys {tt : TT} {te : TE} {σ : L2.St} {H : Hp} {a : Addr} {kvs ks : List (Key × V)} {b : Key × V → Bool} {i j : Nat} {vs : List Nat} (h : H a = some (.dK kvs)) (hv : σ[i]? = some (some (.ref a))) (hk : kvs.map (·.1) = ks.map (·.1)) (hz : ks.length ≤ 40000) (hw : ∀ x, wipe ((wipe σ vs).set j (some x)) vs = wipe σ vs)
    (ht : ∀ (n : Nat) (kv : Key × V) H1, ks[n]? = some kv → LkAt H a (.dK kvs) H1 → EvT tt ((wipe σ vs).set j (some (kV kv.1))) H1 (b kv)) (he : ∀ (n : Nat) (kv : Key × V) H1, ks[n]? = some kv → b kv = true → LkAt H a (.dK kvs) H1 → EvU te ((wipe σ vs).set j (some (kV kv.1))) H1 [kV kv.1, kv.2]) :
    EvP2 (tLockE (tLc (iKeysO (tVar i)) (gName j) tt te vs)) σ H (ks.filter b) := fun H1 e Q q => by
  have h1 : DkAt H1 a (.dK kvs) (kvs.map fun kv => kV kv.1) := .k (e _ _ h)
  refine ⟨a, .dK kvs, h1.at, h1.mut, fun od => keys_wk h1 hv fun J wk D hD => ?_⟩
  have Da : D ≠ a := fun z => by rw [z, upd_same] at hD; cases hD
  have h1D : H1 D = none := by rw [upd_ne Da] at hD; exact hD
  have lk : LkAt H a (.dK kvs) (upd H1 a (.frz od (.dK kvs))) := ⟨⟨od, upd_same⟩, fun b o n z => by rw [upd_ne n]; exact e b o z⟩
  have hlen : kvs.length = ks.length := by simpa using congrArg List.length hk
  refine lc_it wk (Pw (upd H1 a (.frz od (.dK kvs))) ks b D) (pw_start hD) (fun n H2 _ p => p.2.1 _ _ upd_same) (fun n x H2 hx p => ?_) fun H2 p => ?_
  · rw [List.getElem?_map] at hx
    obtain ⟨kv0, hkv0, rfl⟩ := Option.map_eq_some_iff.mp hx
    have hn : n < ks.length := hlen ▸ (List.getElem?_eq_some_iff.mp hkv0).1
    have hks : ks[n]? = some ks[n] := List.getElem?_eq_getElem hn
    have e1 : kv0.1 = ks[n].1 := by
      have z := congrArg (fun l => l[n]?) hk
      simp only [List.getElem?_map, hkv0, hks, Option.map_some] at z
      exact Option.some.inj z
    rw [e1]
    exact ⟨hw _, pw_turn p hks hz (ht n _ _ hks lk) fun hf => he n _ _ hks hf lk⟩
  · obtain ⟨_, p2, ps, _, p3, p4⟩ := p
    rw [List.length_map, hlen, List.take_length] at p4
    refine ⟨p2 _ _ upd_same, q D ps _ h1D (fun b o z => ?_) (by rw [upd_ne Da]; exact p3) (Paired.mapP p4 fun r kv z => ?_)⟩
    · by_cases hb : b = a
      · rw [hb] at z ⊢
        rw [upd_same, ← z, h1.at]
      · rw [upd_ne hb]
        exact p2 b o (by rw [upd_ne hb]; exact z)
    · have hr : r ≠ a := fun zz => by
        have z2 : H2 r = some (.tup [kV kv.1, kv.2]) := z
        rw [zz, p2 _ _ upd_same] at z2
        cases z2
      show upd H2 a _ r = _
      rw [upd_ne hr]
      exact z
theorem ep_list {K : PySem.W.Frag} {tl : TE} {te : TE} {σ : L2.St} {H : Hp} {l : Addr} {ks : List (Key × V)} {j : Nat} {vs : List Nat} (h : Ev tl σ H (.ref l)) (hl : SqL K H l (ks.map fun kv => kV kv.1)) (hz : ks.length ≤ 40000) (hw : ∀ x, wipe ((wipe σ vs).set j (some x)) vs = wipe σ vs)
    (he : ∀ (n : Nat) (kv : Key × V) H1, ks[n]? = some kv → Ex H H1 → EvU te ((wipe σ vs).set j (some (kV kv.1))) H1 [kV kv.1, kv.2]) :
    EvP2 (tLc (iList K tl) (gName j) tYes te vs) σ H ks := fun H1 e Q q => h H1 e _ fun H2 e2 => by
  refine ⟨l, rfl, ⟨_, ex_l (e.trans e2) hl⟩, fun D hD => ?_⟩
  refine lc_list (K := K) (a := l) (xs := ks.map fun kv => kV kv.1) (Pw H2 ks (fun _ => true) D) (pw_start hD) (fun n H3 _ p => ex_l ((e.trans e2).trans p.2.1) hl) (fun n x H3 hx p => ?_) fun H3 p => ?_
  · rw [List.getElem?_map] at hx
    obtain ⟨kv, hkv, rfl⟩ := Option.map_eq_some_iff.mp hx
    exact ⟨hw _, pw_turn p hkv hz (fun H4 e4 _ q => q H4 (Ex.refl H4)) fun _ => he n kv _ hkv (e.trans e2)⟩
  · obtain ⟨_, p2, ps, _, p3, p4⟩ := p
    rw [List.length_map, List.take_length, List.filter_eq_self.mpr fun _ _ => rfl] at p4
    exact q D ps H3 (fresh_back e2 hD) (e2.trans p2) p3 p4
/-! ### dict(..) -/
theorem merge_nodup : ∀ (more kvs : List (Key × V)), ((kvs ++ more).map (·.1)).Nodup → mergeK kvs more = kvs ++ more
  | [], kvs, _ => by rw [mergeK, List.foldl_nil, List.append_nil]
  | kv :: more, kvs, h => by
    have hk : ¬ (kvs.any fun x => decide (x.1 = kv.1)) = true := by
      rw [List.any_eq_true]
      rintro ⟨x, hx, e⟩
      have e1 := of_decide_eq_true e
      rw [List.map_append, List.map_cons, List.nodup_append] at h
      exact h.2.2 x.1 (List.mem_map.mpr ⟨x, hx, rfl⟩) kv.1 List.mem_cons_self e1
    have e : putK kvs kv.1 kv.2 = kvs ++ [kv] := by
      unfold putK
      rw [if_neg hk]
    rw [mergeK, List.foldl_cons, e]
    have z := merge_nodup more (kvs ++ [kv]) (by rw [List.append_assoc]; exact h)
    rw [mergeK] at z
    rw [z, List.append_assoc]
    rfl
def rDictP (K : PySem.W.Frag) : List V → Hp → VK → Prop := fun xs H Q => ∃ (a : Addr) (ps : List Addr) (kvs : List (Key × V)), xs = [.ref a] ∧ SqL K H a (ps.map V.ref) ∧ Paired (fun p kv => SqT K H p [kV kv.1, kv.2]) ps kvs ∧
    ∀ p, H p = none → Q (.ref p) (upd H p (.dK (mergeK [] kvs)))
theorem cr_dictP {X : Cx} (hcalm : X.calm = true) : CallR X (.type "dict") (rDictP X.K) := call_dictP hcalm
/-- a new dict -/
def EvD (te : TE) (σ : L2.St) (H : Hp) (kvs : List (Key × V)) : Prop := ∀ H1, Ex H H1 → ∀ Q : VK, (∀ p H2, H1 p = none → Ex H1 H2 → H2 p = some (.dK kvs) → Q (.ref p) H2) → te σ H1 Q
theorem ed_pairs {K : PySem.W.Frag} {te : TE} {σ : L2.St} {H : Hp} {kvs : List (Key × V)} (h : EvP2 te σ H kvs) (nd : (kvs.map (·.1)).Nodup) : EvD (tCB (rDictP K) (tCons te tNil)) σ H kvs := fun H1 e Q q =>
  h H1 e _ fun p ps H2 hp e2 h2 hps => ⟨p, ps, kvs, rfl, sq_of h2, Paired.mapP hps fun r kv z => st_of z, fun r hr => q r _ (fresh_back e2 hr) (e2.trans (Ex.new hr)) (by rw [upd_same, merge_nodup kvs [] nd]; rfl)⟩
theorem valV_map2 {g : V → V} {k : Key} : ∀ {kvs : List (Key × V)}, valV (kvs.map fun kv => (kv.1, g kv.2)) k = (valV kvs k).map g
  | [] => rfl
  | kv :: r => by
    rw [List.map_cons]
    by_cases e : kv.1 = k
    · rw [valV_pos (p := (kv.1, g kv.2)) e, valV_pos e]
      rfl
    · rw [valV_neg (p := (kv.1, g kv.2)) e, valV_neg e, valV_map2]
theorem look_of {kvs : List (Key × V)} (nd : (kvs.map (·.1)).Nodup) : ∀ kv ∈ kvs, valV kvs kv.1 = some kv.2 := by
  induction kvs with
  | nil => exact fun kv h => absurd h List.not_mem_nil
  | cons x r ih =>
    intro kv h
    rw [List.map_cons, List.nodup_cons] at nd
    rcases List.mem_cons.mp h with rfl | h
    · exact valV_pos rfl
    · rw [valV_neg (fun z => nd.1 (z ▸ List.mem_map.mpr ⟨kv, h, rfl⟩))]
      exact ih nd.2 kv h
end LG
namespace K12
open PySem PySem.Spec PyProof.Rows L2 LG Evl
/-- the same dict with this law's integers -/
def numsOf (kvs : List (Key × V)) : List (Key × V) := kvs.map fun kv => (kv.1, .int (num kv.2))
theorem least_num {xs : List V} {m : Int} (hx : ∀ x ∈ xs, Bd x) (h1 : m ∈ xs.map num) (h2 : ∀ y ∈ xs.map num, m ≤ y) : m = num (leastV xs) := by
  obtain ⟨x, hm, rfl⟩ := List.mem_map.mp h1
  rw [← least_is hx h1 h2, (hx x hm).sh]
theorem greatest_num {xs : List V} {m : Int} (hx : ∀ x ∈ xs, Bd x) (h1 : m ∈ xs.map num) (h2 : ∀ y ∈ xs.map num, y ≤ m) : m = num (greatestV xs) := by
  obtain ⟨x, hm, rfl⟩ := List.mem_map.mp h1
  rw [← greatest_is hx h1 h2, (hx x hm).sh]
section
variable {P : Program} {w : World} {K : PySem.W.Frag} {mg : Str → Option Value} {base : Heap} {a : At}
theorem ev_minL {K : PySem.W.Frag} {te : TE} {σ : L2.St} {H : Hp} {p : Addr} {ns : List Int} {m : Int} (h : Ev te σ H (.ref p)) (hp : H p = some (.lst (ns.map V.int))) (hne : 0 < ns.length) (hu : ∀ k, k ∈ ns → (∀ y, y ∈ ns → k ≤ y) → k = m) : Ev (tCB (rMin K) (tCons te tNil)) σ H (.int m) :=
  fun H1 e Q q => h H1 e _ fun H2 e2 => ⟨p, ns, rfl, sq_of (e2 _ _ (e _ _ hp)), hne, fun k a b => (hu k a b) ▸ q H2 e2⟩
theorem ev_maxP {K : PySem.W.Frag} {te : TE} {σ : L2.St} {H : Hp} {p : Addr} {ns : List Int} {m : Int} (h : Ev te σ H (.ref p)) (hp : H p = some (.lst (ns.map V.int))) (hne : 0 < ns.length) (hu : ∀ k, k ∈ ns → (∀ y, y ∈ ns → y ≤ k) → k = m) : Ev (tCB (rMax K) (tCons te tNil)) σ H (.int m) :=
  fun H1 e Q q => h H1 e _ fun H2 e2 => ⟨p, ns, rfl, sq_of (e2 _ _ (e _ _ hp)), hne, fun k a b => (hu k a b) ▸ q H2 e2⟩
/-! ### the value of the law's own tree -/
def sp__law_of (n : Nat) : Sp := fun vs H Q _ => ∃ (S : Addr → Prop) (v : V) (t : TM.Tree) (d : Addr) (kvs : List (Key × V)), vs = [v, .ref d] ∧ TM.MdAt S H v t ∧ TM.Ok t ∧ t.depth < n ∧ H d = some (.dK (numsOf kvs)) ∧ Has kvs t ∧ ∀ H', Ex H H' → Q (.int (num (val (fD kvs) t))) H'
theorem ok__law_of (T : Txt K mg a) : ∀ n, Fn P w K mg base (n + 2) a._law_of (sp__law_of n) := by
  intro n
  induction n with
  | zero =>
    refine T.d__law_of.fn sc__law_of (fun _ _ _ _ _ _ us hl => match us, hl with | [_, _], _ => rfl) (fun vs H Q E h => ?_) (fun cdv A outer s H vs Q E hg hr h => ?_)
    · obtain ⟨_, _, _, _, _, rfl, _⟩ := h
      rfl
    · obtain ⟨_, _, t, _, _, _, _, _, hd, _⟩ := h
      exact absurd hd (Nat.not_lt_zero _)
  | succ n ih =>
    have G__law_of := ih
    have G__law_number := ok__law_number (P := P) (w := w) (base := base) T
    refine T.d__law_of.fn sc__law_of (fun _ _ _ _ _ _ us hl => match us, hl with | [_, _], _ => rfl) (fun vs H Q E h => ?_) (fun cdv A outer s H vs Q E hg hr h => ?_)
    · obtain ⟨_, _, _, _, _, rfl, _⟩ := h
      rfl
    · obtain ⟨S, v, t, d, kvs, rfl, ht, ok, hd, hk, hh, q⟩ := h
      have nd := sc__law_of.nd
      have hu := hu_of hr
      refine ⟨_, (pss_cons (ps_if (pt_cmpR op_eq (pe_ix ix_tup (pv 0) pe_int (fun _ _ => rfl)) pe_str (nomark _)) (pss_one (ps_ret (pe_dget hu (pv 1) (pe_ix ix_tup (pv 0) pe_int (fun _ _ => rfl)) (fun _ _ => rfl)))) pss_nil)
    (pss_cons (ps_if (pt_cmpR op_eq (pe_ix ix_tup (pv 0) pe_int (fun _ _ => rfl)) pe_str (nomark _)) (pss_one (ps_ret (pe_fn G__law_number hg (hr.mono (by omega)) T.d__law_number.kp T.d__law_number.m (by rfl) passL (pa_cons (pe_ix ix_tup (pv 0) pe_int (fun _ _ => rfl)) pa_nil)))) pss_nil)
    (pss_cons (ps_setLc (i := 2) (own := [("part", 3)]) (g := gName 3) rfl (by exact nd) rfl rfl (by rfl) (pi_list (pe_ix ix_tup (pv 0) pe_int (fun _ _ => rfl))) (blkOk_by (own := [("part", 3)]) (N := ["term", "there", "parts", "part"]) (sc := defScope s__law_of) (by decide +kernel)) (fun _ _ _ _ _ => (pg_name (i := 3) nd rfl (.inl rfl))) (fun _ _ _ _ _ => pts_nil) (fun _ _ _ _ _ => (pe_fn G__law_of hg (hr.mono (by omega)) T.d__law_of.kp T.d__law_of.m (by rfl) passL (pa_cons (pv 3) (pa_cons (pv 1) pa_nil)))))
    (pss_one (ps_ret (pe_ifExp (pt_cmpR op_eq (pe_ix ix_tup (pv 0) pe_int (fun _ _ => rfl)) pe_str (nomark _)) (pe_callB (cr_min rfl) (by rfl) T.z_min (by decide +kernel) (pa_cons (pv 2) pa_nil)) (pe_callB (cr_max rfl) (by rfl) T.z_max (by decide +kernel) (pa_cons (pv 2) pa_nil)))))))), ?_⟩
      have two : ∀ {x l : Addr} {word : Str} {xs : List V} {ts : List TM.Tree} {r : V} , H x = some (.tup [.str word, .ref l]) → H l = some (.lst xs) → xs.length = ts.length → (∀ (i : Nat) (y : V) (t : TM.Tree), xs[i]? = some y → ts[i]? = some t → TM.MdAt S H y t) → TM.Ln ts.length → (∀ t ∈ ts, TM.Ok t) → TM.Tree.depthAll ts < n → (∀ t ∈ ts, Has kvs t) →
          (∀ H', Ex H H' → Q (.int (num r)) H') → ((word = "lesser" ∧ r = leastV (ts.map (val (fD kvs)))) ∨ (word = "greater" ∧ r = greatestV (ts.map (val (fD kvs))))) → ∀ H2, Ex H H2 →
          tSeq (tAsg (tLc (iList K (tOp (rIxT K) (tVar 0) (tC (.int 1)))) (gName 3) tYes (tFn (sp__law_of n) E0 (tCons (tVar 3) (tCons (tVar 1) tNil))) [3]) (gName 2)) (tRet (tIf (tTest (tOp rEq (tOp (rIxT K) (tVar 0) (tC (.int 0))) (tC (.str "lesser")))) (tCB (rMin K) (tCons (tVar 2) tNil)) (tCB (rMax K) (tCons (tVar 2) tNil)))) { nx := fun _ H' => Q .non H', rt := Q } [some (.ref x), some (.ref d), none, none] H2 := by
        intro x l word xs ts r hx hl hn hxs hln hok hdp hhs q hw H2 e2
        have h8 := hln.eight
        have h2 := hln.two
        have bds : ∀ y ∈ ts.map (val (fD kvs)), Bd y := fun y hy => by
          obtain ⟨t, ht, rfl⟩ := List.mem_map.mp hy
          exact val_bd (hok t ht) (hhs t ht)
        refine q_asgL (xs := ((ts.map (val (fD kvs))).map num).map V.int) (el_lmap (ev_op (ev_var rfl) ev_c (rv_ixT (st_of (e2 _ _ hx)) (i := 1) rfl)) (sq_of (e2 _ _ hl)) (by omega) (by simp [hn]) (fun _ => rfl) fun i y z H3 e3 hi hz => ?_) fun p H3 hp e3 h3 => ?_
        · rw [List.map_map, List.map_map, List.getElem?_map] at hz
          obtain ⟨u, hu2, rfl⟩ := Option.map_eq_some_iff.mp hz
          have hm := List.mem_of_getElem? hu2
          have e03 := e2.trans e3
          exact ev_fn (ea_cons (ev_var rfl) (ea_cons (ev_var rfl) ea_nil)) fun H4 e4 Q' q' E' => ⟨S, y, u, d, kvs, rfl, (hxs i y u hi hu2).ex (e03.trans e4), hok u hm, Nat.lt_of_le_of_lt (TM.depth_mem hm) hdp, (e03.trans e4) _ _ hk, hhs u hm, q'⟩
        · have e03 := e2.trans e3
          have pos : 0 < ((ts.map (val (fD kvs))).map num).length := by simp; omega
          rcases hw with ⟨rfl, rfl⟩ | ⟨rfl, rfl⟩
          · exact s_ret (ev_if (b := true) (et_eqT (ev_op (ev_var rfl) ev_c (rv_ixT (st_of (e03 _ _ hx)) (i := 0) rfl)) ev_c rfl rfl) (fun _ => ev_minL (ev_var rfl) h3 pos fun k h1 h2 => least_num bds h1 h2) fun z => nomatch z) fun H4 e4 => q H4 (e03.trans e4)
          · exact s_ret (ev_if (b := false) (et_eqF (ev_op (ev_var rfl) ev_c (rv_ixT (st_of (e03 _ _ hx)) (i := 0) rfl)) ev_c rfl (str_ne (by decide))) (fun z => nomatch z) fun _ => ev_maxP (ev_var rfl) h3 pos fun k h1 h2 => greatest_num bds h1 h2) fun H4 e4 => q H4 (e03.trans e4)
      cases ht with
      | @place x nm s hx =>
        refine q_when (b := true) (et_eqT (ev_op (ev_var rfl) ev_c (rv_ixT (st_of hx) (i := 0) rfl)) ev_c rfl rfl) (fun _ H1 e1 => ?_) (fun z => nomatch z)
        obtain ⟨y, hy, _⟩ := hh nm (by rw [TM.Tree.places]; exact List.mem_singleton.mpr rfl)
        refine s_ret (ev_dgetR (k := Sum.inr nm) (v := .int (num y)) (ev_var rfl) (ev_op (ev_var rfl) ev_c (rv_ixT (st_of (e1 _ _ hx)) (i := 1) rfl)) (.inl (e1 _ _ hk)) (by rw [numsOf, valV_map2 (g := fun v => V.int (num v)), hy]; rfl)) fun H2 e2 => ?_
        have z := q H2 (e1.trans e2)
        rw [val, fD, hy] at z
        exact z
      | @endd x nm s hx =>
        cases ok with
        | endd hnm =>
          refine q_when (b := false) (et_eqF (ev_op (ev_var rfl) ev_c (rv_ixT (st_of hx) (i := 0) rfl)) ev_c rfl (str_ne (by decide))) (fun z => nomatch z) (fun _ H1 e1 => ?_)
          refine q_when (b := true) (et_eqT (ev_op (ev_var rfl) ev_c (rv_ixT (st_of (e1 _ _ hx)) (i := 0) rfl)) ev_c rfl rfl) (fun _ H2 e2 => ?_) (fun z => nomatch z)
          have e02 := e1.trans e2
          refine s_ret (ev_fn (z := .int (num (.str nm))) (ea_cons (ev_op (ev_var rfl) ev_c (rv_ixT (st_of (e02 _ _ hx)) (i := 1) rfl)) ea_nil) fun H3 e3 Q' q' E' => ⟨.str nm, rfl, ?_, q'⟩) fun H3 e3 => ?_
          · have hb := val_bd (kvs := kvs) (.endd hnm) hh
            rw [val] at hb
            exact hb.val
          · have z := q H3 (e02.trans e3)
            rw [val] at z
            exact z
      | @lesser x l xs ts s hx sl hl hn hxs =>
        cases ok with
        | lesser hln hok =>
          refine q_when (b := false) (et_eqF (ev_op (ev_var rfl) ev_c (rv_ixT (st_of hx) (i := 0) rfl)) ev_c rfl (str_ne (by decide))) (fun z => nomatch z) (fun _ H1 e1 => ?_)
          refine q_when (b := false) (et_eqF (ev_op (ev_var rfl) ev_c (rv_ixT (st_of (e1 _ _ hx)) (i := 0) rfl)) ev_c rfl (str_ne (by decide))) (fun z => nomatch z) (fun _ H2 e2 => ?_)
          exact two hx hl hn hxs hln hok (Nat.lt_of_succ_lt_succ (by simpa [TM.Tree.depth] using hd)) hh.lesser (fun H' e => by have z := q H' e; rw [val, valAll_map] at z; exact z) (.inl ⟨rfl, rfl⟩) H2 (e1.trans e2)
      | @greater x l xs ts s hx sl hl hn hxs =>
        cases ok with
        | greater hln hok =>
          refine q_when (b := false) (et_eqF (ev_op (ev_var rfl) ev_c (rv_ixT (st_of hx) (i := 0) rfl)) ev_c rfl (str_ne (by decide))) (fun z => nomatch z) (fun _ H1 e1 => ?_)
          refine q_when (b := false) (et_eqF (ev_op (ev_var rfl) ev_c (rv_ixT (st_of (e1 _ _ hx)) (i := 0) rfl)) ev_c rfl (str_ne (by decide))) (fun z => nomatch z) (fun _ H2 e2 => ?_)
          exact two hx hl hn hxs hln hok (Nat.lt_of_succ_lt_succ (by simpa [TM.Tree.depth] using hd)) hh.greater (fun H' e => by have z := q H' e; rw [val, valAll_map] at z; exact z) (.inr ⟨rfl, rfl⟩) H2 (e1.trans e2)
end
end K12
namespace K12
open PySem PySem.Spec PyProof.Rows L2 LG Evl
section
variable {P : Program} {w : World} {K : PySem.W.Frag} {mg : Str → Option Value} {base : Heap} {a : At}
/-! ### the dict with this law's integers -/
def sp__law_numbers : Sp := fun vs H Q _ => ∃ (d : Addr) (kvs : List (Key × V)), vs = [.ref d] ∧ H d = some (.dK kvs) ∧ kvs.length ≤ 100 ∧ (kvs.map (·.1)).Nodup ∧ (∀ kv ∈ kvs, isValB kv.2 = true) ∧ ∀ p H', H p = none → Ex H H' → H' p = some (.dK (numsOf kvs)) → Q (.ref p) H'
theorem ok__law_numbers (T : Txt K mg a) : Fn P w K mg base 2 a._law_numbers sp__law_numbers := by
  have G__law_number := ok__law_number (P := P) (w := w) (base := base) T
  refine T.d__law_numbers.fn sc__law_numbers (fun _ _ _ _ _ _ us hl => match us, hl with | [_], _ => rfl) (fun vs H Q E h => ?_) (fun cdv A outer s H vs Q E hg hr h => ?_)
  · obtain ⟨_, _, rfl, _⟩ := h
    rfl
  · obtain ⟨d, kvs, rfl, hd, hl, nd2, hv, q⟩ := h
    have nd := sc__law_numbers.nd
    have hu := hu_of hr
    refine ⟨_, (pss_one (ps_ret (pe_callTy (cr_dictP rfl) (by rfl) T.z_dict (by decide +kernel) (pa_cons (pe_lock (pe_lc rfl (own := [("spot", 1)]) (g := gName 1) (by exact nd) (pi_keysO (pv 0)) (blkOk_by (own := [("spot", 1)]) (N := ["told", "spot"]) (sc := defScope s__law_numbers) (by decide +kernel)) (fun _ _ _ _ _ => (pg_name (i := 1) nd rfl (.inl rfl))) (fun _ _ _ _ _ => pts_nil) (fun _ _ _ _ _ => (pe_tup (pa_cons (pv 1) (pa_cons (pe_fn G__law_number hg (hr.mono (by decide)) T.d__law_number.kp T.d__law_number.m (by rfl) passL (pa_cons (pe_dget hu (pv 0) (pv 1) (fun _ _ => rfl)) pa_nil)) pa_nil)))))) pa_nil)))), ?_⟩
    have z : EvD (tCB (rDictP K) (tCons (tLockE (tLc (iKeysO (tVar 0)) (gName 1) tYes (tTup (tCons (tVar 1) (tCons (tFn sp__law_number E0 (tCons (tDGet (tVar 0) (tVar 1)) tNil)) tNil))) [1])) tNil)) [some (.ref d), none] H (numsOf kvs) := by
      refine ed_pairs ?_ (by rw [numsOf, List.map_map]; exact nd2)
      have e : numsOf kvs = (numsOf kvs).filter fun _ => true := (List.filter_eq_self.mpr fun _ _ => rfl).symm
      rw [e]
      refine ep_keys hd rfl (by rw [numsOf, List.map_map]; rfl) (by rw [numsOf, List.length_map]; omega) (fun _ => rfl) (fun n kv H1 _ _ => fun H2 e2 _ q => q H2 (Ex.refl H2)) (fun n kv H1 hn _ lk => ?_)
      rw [numsOf, List.getElem?_map] at hn
      obtain ⟨kv0, h0, rfl⟩ := Option.map_eq_some_iff.mp hn
      have hm := List.mem_of_getElem? h0
      exact eu_tup (ea_cons (ev_var rfl) (ea_cons (ev_fn (ea_cons (ev_dgetR (ev_var rfl) (ev_var rfl) (lk_get lk) (look_of nd2 kv0 hm)) ea_nil) fun H2 e2 Q' q' E' => ⟨kv0.2, rfl, hv kv0 hm, q'⟩) ea_nil)) (by show 2 ≤ 100000; decide)
    exact z H (Ex.refl H) _ fun p H2 hp e2 h2 => q p H2 hp e2 h2
/-! ### how deep -/
def sp__law_depth (n : Nat) : Sp := fun vs H Q _ => ∃ (S : Addr → Prop) (v : V) (t : TM.Tree), vs = [v] ∧ TM.MdAt S H v t ∧ TM.Ok t ∧ t.depth < n ∧ ∀ H', Ex H H' → Q (.int ((t.depth : Nat) : Int)) H'
theorem ok__law_depth (T : Txt K mg a) : ∀ n, Fn P w K mg base (n + 1) a._law_depth (sp__law_depth n) := by
  intro n
  induction n with
  | zero =>
    refine T.d__law_depth.fn sc__law_depth (fun _ _ _ _ _ _ us hl => match us, hl with | [_], _ => rfl) (fun vs H Q E h => ?_) (fun cdv A outer s H vs Q E hg hr h => ?_)
    · obtain ⟨_, _, _, rfl, _⟩ := h
      rfl
    · obtain ⟨_, _, t, _, _, _, hd, _⟩ := h
      exact absurd hd (Nat.not_lt_zero _)
  | succ n ih =>
    have G__law_depth := ih
    refine T.d__law_depth.fn sc__law_depth (fun _ _ _ _ _ _ us hl => match us, hl with | [_], _ => rfl) (fun vs H Q E h => ?_) (fun cdv A outer s H vs Q E hg hr h => ?_)
    · obtain ⟨_, _, _, rfl, _⟩ := h
      rfl
    · obtain ⟨S, v, t, rfl, ht, ok, hd, q⟩ := h
      have nd := sc__law_depth.nd
      refine ⟨_, (pss_cons (ps_if (pt_cmpR (op_in_seq : OpR _ (compareOp .In) (rIn K false)) (pe_ix ix_tup (pv 0) pe_int (fun _ _ => rfl)) (pe_tup (pa_cons pe_str (pa_cons pe_str pa_nil))) (by rfl)) (pss_one (ps_ret pe_int)) pss_nil)
    (pss_one (ps_ret (pe_op op_add pe_int (pe_callB (cr_max rfl) (by rfl) T.z_max (by decide +kernel) (pa_cons (pe_lc rfl (own := [("part", 1)]) (g := gName 1) (by exact nd) (pi_list (pe_ix ix_tup (pv 0) pe_int (fun _ _ => rfl))) (blkOk_by (own := [("part", 1)]) (N := ["term", "part"]) (sc := defScope s__law_depth) (by decide +kernel)) (fun _ _ _ _ _ => (pg_name (i := 1) nd rfl (.inl rfl))) (fun _ _ _ _ _ => pts_nil) (fun _ _ _ _ _ => (pe_fn G__law_depth hg (hr.mono (by omega)) T.d__law_depth.kp T.d__law_depth.m (by rfl) passL (pa_cons (pv 1) pa_nil)))) pa_nil)))))), ?_⟩
      have tw : EvU (tTup (tCons (tC (.str "place")) (tCons (tC (.str "end")) tNil))) [some v, none] H [.str "place", .str "end"] := eu_tup (ea_cons ev_c (ea_cons ev_c ea_nil)) (by show 2 ≤ 100000; decide)
      have two : ∀ {x l : Addr} {word : Str} {xs : List V} {ts : List TM.Tree}, H x = some (.tup [.str word, .ref l]) → H l = some (.lst xs) → xs.length = ts.length → (∀ (i : Nat) (y : V) (t : TM.Tree), xs[i]? = some y → ts[i]? = some t → TM.MdAt S H y t) → TM.Ln ts.length → (∀ t ∈ ts, TM.Ok t) → TM.Tree.depthAll ts < n →
          (∀ H', Ex H H' → Q (.int ((TM.Tree.depthAll ts + 1 : Nat) : Int)) H') → ∀ H2, Ex H H2 → tRet (tOp (rI0 fun x y => .int (x + y)) (tC (.int 1)) (tCB (rMax K) (tCons (tLc (iList K (tOp (rIxT K) (tVar 0) (tC (.int 1)))) (gName 1) tYes (tFn (sp__law_depth n) E0 (tCons (tVar 1) tNil)) [1]) tNil))) { nx := fun _ H' => Q .non H', rt := Q } [some (.ref x), none] H2 := by
        intro x l word xs ts hx hl hn hxs hln hok hdp q H2 e2
        have h8 := hln.eight
        have h2 := hln.two
        have L : EvL (tLc (iList K (tOp (rIxT K) (tVar 0) (tC (.int 1)))) (gName 1) tYes (tFn (sp__law_depth n) E0 (tCons (tVar 1) tNil)) [1]) [some (.ref x), none] H2 ((ts.map fun t => ((t.depth : Nat) : Int)).map V.int) := by
          refine el_lmap (ev_op (ev_var rfl) ev_c (rv_ixT (st_of (e2 _ _ hx)) (i := 1) rfl)) (sq_of (e2 _ _ hl)) (by omega) (by simp [hn]) (fun _ => rfl) fun i y z H3 e3 hi hz => ?_
          rw [List.map_map, List.getElem?_map] at hz
          obtain ⟨u, hu2, rfl⟩ := Option.map_eq_some_iff.mp hz
          have hm := List.mem_of_getElem? hu2
          have e03 := e2.trans e3
          exact ev_fn (ea_cons (ev_var rfl) ea_nil) fun H4 e4 Q' q' E' => ⟨S, y, u, rfl, (hxs i y u hi hu2).ex (e03.trans e4), hok u hm, Nat.lt_of_le_of_lt (TM.depth_mem hm) hdp, q'⟩
        refine s_ret (ev_is (ev_op ev_c (ev_maxL L (by rw [List.length_map]; omega) fun m a b => depthAll_is a b) rv_I0) ?_) fun H3 e3 => q H3 (e2.trans e3)
        congr 1
        push_cast
        omega
      cases ht with
      | @place x nm s hx =>
        refine q_when (b := true) (et_is (et_test (ev_inU (ev_op (ev_var rfl) ev_c (rv_ixT (st_of hx) (i := 0) rfl)) tw rfl rfl)) (by decide +kernel)) (fun _ H1 e1 => ?_) (fun z => nomatch z)
        exact s_ret ev_c fun H2 e2 => q H2 (e1.trans e2)
      | @endd x nm s hx =>
        refine q_when (b := true) (et_is (et_test (ev_inU (ev_op (ev_var rfl) ev_c (rv_ixT (st_of hx) (i := 0) rfl)) tw rfl rfl)) (by decide +kernel)) (fun _ H1 e1 => ?_) (fun z => nomatch z)
        exact s_ret ev_c fun H2 e2 => q H2 (e1.trans e2)
      | @lesser x l xs ts s hx sl hl hn hxs =>
        cases ok with
        | lesser hln hok =>
          refine q_when (b := false) (et_is (et_test (ev_inU (ev_op (ev_var rfl) ev_c (rv_ixT (st_of hx) (i := 0) rfl)) tw rfl rfl)) (by decide +kernel)) (fun z => nomatch z) (fun _ H1 e1 => ?_)
          exact two hx hl hn hxs hln hok (Nat.lt_of_succ_lt_succ (by simpa [TM.Tree.depth] using hd)) (fun H' e => by have z := q H' e; rw [TM.Tree.depth] at z; exact z) H1 e1
      | @greater x l xs ts s hx sl hl hn hxs =>
        cases ok with
        | greater hln hok =>
          refine q_when (b := false) (et_is (et_test (ev_inU (ev_op (ev_var rfl) ev_c (rv_ixT (st_of hx) (i := 0) rfl)) tw rfl rfl)) (by decide +kernel)) (fun z => nomatch z) (fun _ H1 e1 => ?_)
          exact two hx hl hn hxs hln hok (Nat.lt_of_succ_lt_succ (by simpa [TM.Tree.depth] using hd)) (fun H' e => by have z := q H' e; rw [TM.Tree.depth] at z; exact z) H1 e1
end
end K12
namespace K12
open PySem PySem.Spec PyProof.Rows L2 LG Evl
section
variable {P : Program} {w : World} {K : PySem.W.Frag} {mg : Str → Option Value} {base : Heap} {a : At}
/-! ### the places, sorted -/
def sp__law_spots (n : Nat) : Sp := fun vs H Q _ => ∃ (S : Addr → Prop) (v : V) (t : TM.Tree), vs = [v] ∧ TM.MdAt S H v t ∧ TM.Ok t ∧ t.depth < n ∧ ∀ p xs H', H p = none → Ex H H' → TM.Spots xs t → H' p = some (.lst (xs.map V.str)) → Q (.ref p) H'
theorem ok__law_spots (T : Txt K mg a) : ∀ n, Fn P w K mg base (n + 1) a._law_spots (sp__law_spots n) := by
  intro n
  induction n with
  | zero =>
    refine T.d__law_spots.fn sc__law_spots (fun _ _ _ _ _ _ us hl => match us, hl with | [_], _ => rfl) (fun vs H Q E h => ?_) (fun cdv A outer s H vs Q E hg hr h => ?_)
    · obtain ⟨_, _, _, rfl, _⟩ := h
      rfl
    · obtain ⟨_, _, t, _, _, _, hd, _⟩ := h
      exact absurd hd (Nat.not_lt_zero _)
  | succ n ih =>
    have G__law_spots := ih
    refine T.d__law_spots.fn sc__law_spots (fun _ _ _ _ _ _ us hl => match us, hl with | [_], _ => rfl) (fun vs H Q E h => ?_) (fun cdv A outer s H vs Q E hg hr h => ?_)
    · obtain ⟨_, _, _, rfl, _⟩ := h
      rfl
    · obtain ⟨S, v, t, rfl, ht, ok, hd, q⟩ := h
      have nd := sc__law_spots.nd
      refine ⟨_, (pss_cons (ps_if (pt_cmpR op_eq (pe_ix ix_tup (pv 0) pe_int (fun _ _ => rfl)) pe_str (nomark _)) (pss_one (ps_ret (pe_lst (pa_cons (pe_ix ix_tup (pv 0) pe_int (fun _ _ => rfl)) pa_nil)))) pss_nil)
    (pss_cons (ps_set (i := 1) nd rfl (.inl rfl) (pe_lst pa_nil))
    (pss_cons (ps_for PassesOwn.leaving rfl (pi_list (pe_ifExp (pt_cmpR op_ne (pe_ix ix_tup (pv 0) pe_int (fun _ _ => rfl)) pe_str (nomark _)) (pe_ix ix_tup (pv 0) pe_int (fun _ _ => rfl)) (pe_lst pa_nil))) (pg_name (i := 2) nd rfl (.inl rfl))
      (pss_one (ps_set (i := 1) nd rfl (.inl rfl) (pe_op op_catB (pv 1) (pe_fn G__law_spots hg (hr.mono (by omega)) T.d__law_spots.kp T.d__law_spots.m (by rfl) passL (pa_cons (pv 2) pa_nil))))))
    (pss_one (ps_ret (pe_callB (TM.cr_sortedSWN rfl) (by rfl) T.z_sorted (by decide +kernel) (pa_cons (pe_callTy (cr_setKL rfl) (by rfl) T.z_set (by decide +kernel) (pa_cons (pv 1) pa_nil)) pa_nil))))))), ?_⟩
      -- behind the loop
      have fin : ∀ (l : Addr) (fs : List Str) (σ : L2.St) (H2 : Hp), σ[1]? = some (some (.ref l)) → Ex H H2 → H2 l = some (.lst (fs.map V.str)) → fs.length ≤ 1000 → (∀ n, n ∈ fs ↔ n ∈ t.places) → tRet (tCB (TM.rSortedSWN P w) (tCons (tCB (rSetKL K P w) (tCons (tVar 1) tNil)) tNil)) { nx := fun _ H' => Q .non H', rt := Q } σ H2 := by
        intro l fs σ H2 hσ e2 h2 hz hm
        refine ⟨.ref l, hσ, l, fs.map Sum.inr, rfl, sq_of (by rw [h2, List.map_map]; rfl), by simpa using hz, fun c Sc m hc hS _ => ?_⟩
        refine ⟨c, Sc, m, TM.names, rfl, upd_same, by decide, fun k hk => ?_, fun xs p hs hnd hx hp => ?_⟩
        · obtain ⟨x, hx, rfl⟩ := List.mem_map.mp ((hS k).mp hk)
          exact ⟨x, ok.names x ((hm x).mp hx), rfl⟩
        · have e3 := e2.trans (Ex.new (o := SWO P w c Sc m) hc)
          refine q p xs _ (fresh_back e3 hp) (e3.trans (Ex.new hp)) ⟨hs, hnd, fun x => ?_⟩ upd_same
          rw [hx, hS, ← hm]
          constructor
          · intro h
            obtain ⟨y, hy, e⟩ := List.mem_map.mp h
            cases e
            exact hy
          · exact fun h => List.mem_map.mpr ⟨x, h, rfl⟩
      have two : ∀ {x l : Addr} {word : Str} {xs : List V} {ts : List TM.Tree}, word ≠ "end" → H x = some (.tup [.str word, .ref l]) → H l = some (.lst xs) → xs.length = ts.length → (∀ (i : Nat) (y : V) (t : TM.Tree), xs[i]? = some y → ts[i]? = some t → TM.MdAt S H y t) → TM.Ln ts.length → (∀ t ∈ ts, TM.Ok t) → TM.Tree.depthAll ts < n → t.places = TM.Tree.placesAll ts →
          ∀ H2, Ex H H2 → tSeq (tAsg (tLst tNil) (gName 1)) (tSeq (tFor (iList K (tIf (tTest (tOp rNe (tOp (rIxT K) (tVar 0) (tC (.int 0))) (tC (.str "end")))) (tOp (rIxT K) (tVar 0) (tC (.int 1))) (tLst tNil))) (gName 2) (tAsg (tOp rCatB (tVar 1) (tFn (sp__law_spots n) E0 (tCons (tVar 2) tNil))) (gName 1))) (tRet (tCB (TM.rSortedSWN P w) (tCons (tCB (rSetKL K P w) (tCons (tVar 1) tNil)) tNil)))) { nx := fun _ H' => Q .non H', rt := Q } [some (.ref x), none, none] H2 := by
        intro x l word xs ts hword hx hl hn hxs hln hok hdp hpl H2 e2
        have h8 := hln.eight
        refine ⟨(by decide : 0 ≤ sizeLine), fun l0 hl0 => ?_⟩
        have e3 := e2.trans (Ex.new (o := .lst []) hl0)
        refine s_forL (K := K) (a := l) (xs := xs) (ev_if (b := true) (et_is (et_test (ev_op (ev_op (ev_var rfl) ev_c (rv_ixT (st_of (e3 _ _ hx)) (i := 0) rfl)) ev_c (rv_ne rfl))) (by rw [decide_eq_false (str_ne hword)]; rfl)) (fun _ => ev_op (ev_var rfl) ev_c (rv_ixT (st_of (e3 _ _ hx)) (i := 1) rfl)) fun z => nomatch z) (sq_of (e3 _ _ hl)) (fun i σ' H' => ∃ (lf : Addr) (fs : List Str), (∃ u, σ' = [some (.ref x), some (.ref lf), u]) ∧ Ex H H' ∧ H' lf = some (.lst (fs.map V.str)) ∧ fs.length ≤ 8 * i ∧ ∀ n, n ∈ fs ↔ n ∈ TM.Tree.placesAll (ts.take i)) (fun H4 e4 => ⟨l0, [], ⟨_, rfl⟩, e3.trans e4, e4 _ _ upd_same, Nat.le_refl _, fun n => by simp [TM.Tree.placesAll]⟩) (fun i σ' H' _ h => ?_) ?_ ?_
        · obtain ⟨_, _, _, e4, _⟩ := h
          exact sq_of (e4 _ _ hl)
        · rintro i y σ' H' hi ⟨lf, fs, ⟨u, rfl⟩, e4, h4, hz, hm⟩
          have hi2 : i < ts.length := hn ▸ (List.getElem?_eq_some_iff.mp hi).1
          have ht : ts[i]? = some ts[i] := List.getElem?_eq_getElem hi2
          have hmem : ts[i] ∈ ts := List.getElem_mem hi2
          refine ⟨.ref lf, rfl, y, rfl, S, y, ts[i], rfl, (hxs i y _ hi ht).ex e4, hok _ hmem, Nat.lt_of_le_of_lt (TM.depth_mem hmem) hdp, fun p ss H5 hp e5 hss h5 => ?_⟩
          have hs8 := hss.len (hok _ hmem)
          refine ⟨lf, p, _, _, rfl, rfl, e5 _ _ h4, h5, sz_of (by rw [List.length_map, List.length_map]; omega), fun r hr _ => ⟨r, fs ++ ss, ⟨_, rfl⟩, (e4.trans e5).trans (Ex.new hr), by rw [List.map_append]; exact upd_same, by rw [List.length_append]; omega, fun n => ?_⟩⟩
          rw [List.mem_append, hm, hss.mem, List.take_succ, ht, Option.toList_some, placesAll_app, List.mem_append]
          simp [TM.Tree.placesAll]
        · rintro σ' H' ⟨lf, fs, ⟨u, rfl⟩, e4, h4, hz, hm⟩
          rw [hn, List.take_length, ← hpl] at hm
          exact fin lf fs _ H' rfl e4 h4 (by omega) hm
      cases ht with
      | @place x nm s hx =>
        refine q_when (b := true) (et_eqT (ev_op (ev_var rfl) ev_c (rv_ixT (st_of hx) (i := 0) rfl)) ev_c rfl rfl) (fun _ H1 e1 => ?_) (fun z => nomatch z)
        exact s_retL (el_lst (ea_cons (ev_op (ev_var rfl) ev_c (rv_ixT (st_of (e1 _ _ hx)) (i := 1) rfl)) ea_nil) (by show 1 ≤ 100000; decide)) fun p H2 hp e2 h2 => q p [nm] H2 (fresh_back e1 hp) (e1.trans e2) ⟨rfl, by simp, fun x => by simp [TM.Tree.places]⟩ h2
      | @endd x nm s hx =>
        refine q_when (b := false) (et_eqF (ev_op (ev_var rfl) ev_c (rv_ixT (st_of hx) (i := 0) rfl)) ev_c rfl (str_ne (by decide))) (fun z => nomatch z) (fun _ H1 e1 => ?_)
        have z : tSeq (tAsg (tLst tNil) (gName 1)) (tSeq (tFor (iList K (tIf (tTest (tOp rNe (tOp (rIxT K) (tVar 0) (tC (.int 0))) (tC (.str "end")))) (tOp (rIxT K) (tVar 0) (tC (.int 1))) (tLst tNil))) (gName 2) (tAsg (tOp rCatB (tVar 1) (tFn (sp__law_spots n) E0 (tCons (tVar 2) tNil))) (gName 1))) (tRet (tCB (TM.rSortedSWN P w) (tCons (tCB (rSetKL K P w) (tCons (tVar 1) tNil)) tNil)))) { nx := fun _ H' => Q .non H', rt := Q } [some (.ref x), none, none] H1 := by
          refine ⟨(by decide : 0 ≤ sizeLine), fun l0 hl0 => ?_⟩
          have e3 := e1.trans (Ex.new (o := .lst []) hl0)
          refine s_forNL (K := K) (xs := []) (tl := tIf (tTest (tOp rNe (tOp (rIxT K) (tVar 0) (tC (.int 0))) (tC (.str "end")))) (tOp (rIxT K) (tVar 0) (tC (.int 1))) (tLst tNil)) (fun H4 e4 Q' q' => ?_) (fun p i σ' H' => (∃ u, σ' = [some (.ref x), some (.ref l0), u]) ∧ Ex H H' ∧ H' l0 = some (.lst []) ∧ H' p = some (.lst [])) (fun p H4 hp e4 h4 => ⟨⟨_, rfl⟩, e3.trans e4, e4 _ _ upd_same, h4⟩) (fun p i σ' H' _ h => sq_of h.2.2.2) (fun p i y σ' H' hi _ => by simp at hi) ?_
          · refine et_is (b := false) (et_test (ev_op (ev_op (ev_var rfl) ev_c (rv_ixT (st_of (e3 _ _ hx)) (i := 0) rfl)) ev_c (rv_ne rfl))) (by simp) H4 e4 _ fun H5 e5 => ?_
            exact el_lst (vs := []) ea_nil (by decide) H5 (e4.trans e5) _ fun p H6 hp e6 h6 => q' p H6 (fresh_back e5 hp) (e5.trans e6) h6
          · rintro p σ' H' ⟨⟨u, rfl⟩, e4, h4, _⟩
            exact fin l0 [] _ H' rfl e4 h4 (Nat.zero_le _) fun n => by simp [TM.Tree.places]
        exact z
      | @lesser x l xs ts s hx sl hl hn hxs =>
        cases ok with
        | lesser hln hok =>
          refine q_when (b := false) (et_eqF (ev_op (ev_var rfl) ev_c (rv_ixT (st_of hx) (i := 0) rfl)) ev_c rfl (str_ne (by decide))) (fun z => nomatch z) (fun _ H1 e1 => ?_)
          exact two (by decide) hx hl hn hxs hln hok (Nat.lt_of_succ_lt_succ (by simpa [TM.Tree.depth] using hd)) (by rw [TM.Tree.places]) H1 e1
      | @greater x l xs ts s hx sl hl hn hxs =>
        cases ok with
        | greater hln hok =>
          refine q_when (b := false) (et_eqF (ev_op (ev_var rfl) ev_c (rv_ixT (st_of hx) (i := 0) rfl)) ev_c rfl (str_ne (by decide))) (fun z => nomatch z) (fun _ H1 e1 => ?_)
          exact two (by decide) hx hl hn hxs hln hok (Nat.lt_of_succ_lt_succ (by simpa [TM.Tree.depth] using hd)) (by rw [TM.Tree.places]) H1 e1
end
end K12
/-! Data with dicts of anything in it: what repr tells. -/
namespace LG
open PySem PySem.Spec PyProof.Rows L2 Evl
inductive Dz (K : PySem.W.Frag) (H : Hp) : V → PyData → Prop
  | q {v : V} {d : PyData} (h : Dq K H v d) : Dz K H v d
  | lst {a : Addr} {xs : List V} {ds : List PyData} (hs : SqL K H a xs) (hl : xs.length = ds.length) (hx : ∀ (i : Nat) (x : V) (d : PyData), xs[i]? = some x → ds[i]? = some d → Dz K H x d) (hn : a ≠ sysModules) : Dz K H (.ref a) (.list ds)
  | tup {a : Addr} {xs : List V} {ds : List PyData} (hs : SqT K H a xs) (hl : xs.length = ds.length) (hx : ∀ (i : Nat) (x : V) (d : PyData), xs[i]? = some x → ds[i]? = some d → Dz K H x d) : Dz K H (.ref a) (.tuple ds)
  | dic {a : Addr} {kvs : List (Key × V)} {ds : List (PyData × PyData)} (h : H a = some (.dK kvs)) (hl : kvs.length = ds.length) (hk : ∀ (i : Nat) (x : Key × V) (d : PyData × PyData), kvs[i]? = some x → ds[i]? = some d → Dz K H (kV x.1) d.1) (hx : ∀ (i : Nat) (x : Key × V) (d : PyData × PyData), kvs[i]? = some x → ds[i]? = some d → Dz K H x.2 d.2) : Dz K H (.ref a) (.dict ds)
  | odd {a : Addr} {kvs : List (V × V)} {ds : List (PyData × PyData)} (h : H a = some (odE a kvs)) (hl : kvs.length = ds.length) (hk : ∀ (i : Nat) (x : V × V) (d : PyData × PyData), kvs[i]? = some x → ds[i]? = some d → Dz K H x.1 d.1) (hx : ∀ (i : Nat) (x : V × V) (d : PyData × PyData), kvs[i]? = some x → ds[i]? = some d → Dz K H x.2 d.2) : Dz K H (.ref a) (.dict ds)
mutual
theorem Dq.up {K : PySem.W.Frag} {H H' : Hp} (e : Ex H H') : ∀ (d : PyData) (v : V), Dq K H v d → Dq K H' v d
  | .none, _, h => by cases h; exact .non
  | .bool _, _, h => by cases h; exact .bl _
  | .int _, _, h => by cases h; exact .int _
  | .str _, _, h => by cases h; exact .str _
  | .list ds, _, h => by
    cases h with
    | lst hs ha hn => exact .lst (ex_l e hs) (DqAll.up e ds _ ha) hn
  | .tuple ds, _, h => by
    cases h with
    | tup hs ha => exact .tup (ex_t e hs) (DqAll.up e ds _ ha)
  | .dict ds, _, h => by
    cases h with
    | dic hs ha => exact .dic (e _ _ hs) (DqKv.up e ds _ ha)
theorem DqAll.up {K : PySem.W.Frag} {H H' : Hp} (e : Ex H H') : ∀ (ds : List PyData) (vs : List V), DqAll K H vs ds → DqAll K H' vs ds
  | [], _, h => by cases h; exact .nil
  | d :: ds, _, h => by
    cases h with
    | cons h1 h2 => exact .cons (Dq.up e d _ h1) (DqAll.up e ds _ h2)
theorem DqKv.up {K : PySem.W.Frag} {H H' : Hp} (e : Ex H H') : ∀ (ds : List (PyData × PyData)) (vs : List (Key × V)), DqKv K H vs ds → DqKv K H' vs ds
  | [], _, h => by cases h; exact .nil
  | (d1, d2) :: ds, _, h => by
    cases h with
    | cons h1 p1 h2 p2 h3 => exact .cons (Dq.up e d1 _ h1) p1 (Dq.up e d2 _ h2) p2 (DqKv.up e ds _ h3)
end
theorem Dz.up {K : PySem.W.Frag} {H H' : Hp} (e : Ex H H') {v : V} {d : PyData} (h : Dz K H v d) : Dz K H' v d := by
  induction h with
  | q h => exact .q (Dq.up e _ _ h)
  | lst hs hl _ hn ih => exact .lst (ex_l e hs) hl ih hn
  | tup hs hl _ ih => exact .tup (ex_t e hs) hl ih
  | dic h hl _ _ ih1 ih2 => exact .dic (e _ _ h) hl ih1 ih2
  | odd h hl _ _ ih1 ih2 => exact .odd (e _ _ h) hl ih1 ih2
theorem reads_all {h : Heap} : ∀ {xs : List V} {us : List Value} {ds : List PyData}, xs.length = ds.length → Vals xs us → (∀ (i : Nat) (x : V) (d : PyData), xs[i]? = some x → ds[i]? = some d → ∀ u, RelV x u → ∃ as, Reads h u d as ∧ sysModules ∉ as) → ∃ as, ReadsAll h us ds as ∧ sysModules ∉ as
  | [], _, [], _, .nil, _ => ⟨_, .nil, List.not_mem_nil⟩
  | x :: xs, _, d :: ds, hl, .cons r t, k => by
    obtain ⟨as, q1, z1⟩ := k 0 x d rfl rfl _ r
    obtain ⟨bs, q2, z2⟩ := reads_all (Nat.succ.inj hl) t fun i x d a b => k (i + 1) x d a b
    exact ⟨_, .cons q1 q2, fun z => (List.mem_append.mp z).elim z1 z2⟩
  | [], _, _ :: _, hl, _, _ => by cases hl
  | _ :: _, _, [], hl, _, _ => by cases hl
theorem vals_en : ∀ {kvs : List (V × V)} {es : List DictEntry}, EnV kvs es → Vals (kvs.map (·.1)) (es.map (·.key)) ∧ Vals (kvs.map (·.2)) (es.map (·.val))
  | _, _, .nil => ⟨.nil, .nil⟩
  | _, _, .cons r t => let ⟨a, b⟩ := vals_en t; ⟨.cons r.1 a, .cons r.2 b⟩
theorem reads_dict {h : Heap} {a : Addr} {o : Obj} {es : Array DictEntry} {ep : Nat} {kvs : List (V × V)} {ds : List (PyData × PyData)} (hs : (a == sysModules) = false) (ho : h.get? a = some o) (hx : o.ExactDict) (hd : o.data = .dict es ep) (hv : EnV kvs es.toList) (hl : kvs.length = ds.length)
    (hk : ∀ (i : Nat) (x : V × V) (d : PyData × PyData), kvs[i]? = some x → ds[i]? = some d → ∀ u, RelV x.1 u → ∃ as, Reads h u d.1 as ∧ sysModules ∉ as) (hw : ∀ (i : Nat) (x : V × V) (d : PyData × PyData), kvs[i]? = some x → ds[i]? = some d → ∀ u, RelV x.2 u → ∃ as, Reads h u d.2 as ∧ sysModules ∉ as) :
    ∃ as, Reads h (.ref a) (.dict ds) as ∧ sysModules ∉ as := by
  obtain ⟨v1, v2⟩ := vals_en hv
  obtain ⟨as, q1, z1⟩ := reads_all (ds := ds.map (·.1)) (by simp [hl]) v1 fun i x d e1 e2 => by
    rw [List.getElem?_map] at e1 e2
    obtain ⟨p, hp, rfl⟩ := Option.map_eq_some_iff.mp e1
    obtain ⟨q, hq, rfl⟩ := Option.map_eq_some_iff.mp e2
    exact hk i p q hp hq
  obtain ⟨bs, q2, z2⟩ := reads_all (ds := ds.map (·.2)) (by simp [hl]) v2 fun i x d e1 e2 => by
    rw [List.getElem?_map] at e1 e2
    obtain ⟨p, hp, rfl⟩ := Option.map_eq_some_iff.mp e1
    obtain ⟨q, hq, rfl⟩ := Option.map_eq_some_iff.mp e2
    exact hw i p q hp hq
  refine ⟨_, Reads.dict ho hx.1 hd q1 q2, fun z => ?_⟩
  rcases List.mem_append.mp z with z | z
  · rcases List.mem_cons.mp z with z | z
    · rw [← z] at hs
      simp at hs
    · exact z1 z
  · exact z2 z
theorem Dz.reads {X : Cx} {pins : List (Addr × Obj)} {σ : L2.St} {H : Hp} {s : Shared} (I : Inv X pins σ H s) {v : V} {d : PyData} (h : Dz X.K H v d) : ∀ u, RelV v u → ∃ as, Reads s.heap u d as ∧ sysModules ∉ as := by
  induction h with
  | q h => exact fun u r => Dq.reads I _ _ u h r
  | @lst a xs ds hs hl _ hn ih =>
    intro u r
    cases r
    obtain ⟨its, rv, ⟨o, n, ho, hc, _, hd⟩, _⟩ := I.list hs
    obtain ⟨as, hr, hz⟩ := reads_all hl rv ih
    exact ⟨_, Reads.list ho hc hd hr, fun z => (List.mem_cons.mp z).elim (fun e => hn e.symm) hz⟩
  | @tup a xs ds hs hl _ ih =>
    intro u r
    cases r
    obtain ⟨its, rv, ⟨o, ho, hc, n, hd⟩, _⟩ := I.tuple hs
    obtain ⟨as, hr, hz⟩ := reads_all hl rv ih
    exact ⟨_, Reads.tuple ho hc hd hr, hz⟩
  | @dic a kvs ds hs hl _ _ ih1 ih2 =>
    intro u r
    cases r
    obtain ⟨_, hsys, vs, kv, o, es, ep, ho, hc, hd, _, hp, _⟩ := (show ObjOk X.prog X.w H s.heap a (.dK kvs) from I.hok a _ hs)
    refine reads_dict hsys ho hc hd (env_of kv hp) (by simpa using hl) (fun i x d e1 e2 => ?_) (fun i x d e1 e2 => ?_)
    · rw [List.getElem?_map] at e1
      obtain ⟨p, hp, rfl⟩ := Option.map_eq_some_iff.mp e1
      exact ih1 i p d hp e2
    · rw [List.getElem?_map] at e1
      obtain ⟨p, hp, rfl⟩ := Option.map_eq_some_iff.mp e1
      exact ih2 i p d hp e2
  | @odd a kvs ds hs hl _ _ ih1 ih2 =>
    intro u r
    cases r
    obtain ⟨⟨hsys, o, es, ep, ho, hx, hd, hv⟩, _⟩ := (show ObjOk X.prog X.w H s.heap a (odE a kvs) from I.hok a _ hs)
    exact reads_dict hsys ho hx hd hv hl ih1 ih2
/-- a list of such things, wherever it stands -/
def LzAt (K : PySem.W.Frag) (H : Hp) (x : V) (d : PyData) : Prop := ∃ (a : Addr) (xs : List V) (ds : List PyData), x = .ref a ∧ d = .list ds ∧ SqL K H a xs ∧ xs.length = ds.length ∧ ∀ (i : Nat) (y : V) (e : PyData), xs[i]? = some y → ds[i]? = some e → Dz K H y e
theorem LzAt.up {K : PySem.W.Frag} {H H' : Hp} {x : V} {d : PyData} (e : Ex H H') (h : LzAt K H x d) : LzAt K H' x d := let ⟨a, xs, ds, h1, h2, h3, h4, h5⟩ := h; ⟨a, xs, ds, h1, h2, ex_l e h3, h4, fun i y d e1 e2 => (h5 i y d e1 e2).up e⟩
theorem repr_list {prog : Program} {w : World} {A : Around} {E : Value → Shared → Prop} {s : Shared} {Q : Value → Shared → Prop} {a : Addr} {o : Obj} {vs : Array Value} {n : Nat} {ds : List PyData} {cs : List Addr} (g1 : s.heap.get? a = some o) (g2 : o.cls = .type "list") (g3 : o.data = .seq vs n) (g4 : ReadsAll s.heap vs.toList ds cs)
    (sh : PyData.showableAll ds = true) (no : sysModules ∉ cs) (hg : A.guards = some []) (hu : A.units + (PyData.depthAll ds + 1 + 1) < cLine) (hz : (PyData.list ds).shown.length ≤ sizeLine)
    (hQ : ∀ h' u tk, (∀ b o, s.heap.get? b = some o → h'.get? b = some o) → Q (.str (PyData.list ds).shown u) { s with heap := h', toks := tk }) : wpAny (model prog w) A (call (.builtin "repr") [.ref a]) Q E s := by
  have z1 : (listText (PyData.shownAll ds)).length ≤ sizeLine := by simpa only [PyData.shown] using hz
  obtain ⟨bs, k1, k2⟩ := ReprAllK.of_readsAll (prog := prog) (w := w) g4 sh (fun _ => no) (fun t ht => Nat.le_trans (listText_mem_le ht) z1)
  have k3 : a ∉ bs := not_mem_of_deeper (.list g1 g2 g3 g4) (by simp only [PyData.depth]; omega) k1
  simp only [PyData.shown] at hQ
  obtain ⟨l⟩ := vs
  refine call_repr_slot (by omega) ⟨o, g1, g2⟩ PySem.F.slot_list_repr.toG ?_
  cases l with
  | nil =>
    cases (show ReadsAll s.heap [] ds _ from g4)
    simp only [PyData.shownAll, listText_nil] at hQ
    exact call_list_repr_empty ⟨o, g1, g2⟩ g1 g3 ⟨_, _, rfl, hQ s.heap _ _ fun _ _ e => e⟩
  | cons x l =>
    exact call_list_reprK g1 g2 g3 k3 (by simpa using k2.length_eq) (fun i y e => k2.item i y (by simpa using e)) hg (fun b _ => Clear.nil b) (by show A.units + 1 + _ < _; omega) (fun _ _ e => e) (fun h' u tk hk => ⟨_, _, rfl, hQ h' u tk hk⟩) z1
def rReprZ (K : PySem.W.Frag) : List V → Hp → VK → Prop := fun xs H Q => ∃ (x : V) (d : PyData), xs = [x] ∧ (Dz K H x d ∨ Dp K H x d ∨ LzAt K H x d) ∧ Shows d ∧ Q (.str d.shown) H
theorem call_reprZ {X : Cx} (hg : X.A.guards = some []) (hu : X.A.units + 64 < cLine) : CallR X (.builtin "repr") (rReprZ X.K) := by
  intro pins s σ H xs us Q I r h
  obtain ⟨x, d, rfl, hd, ⟨hs, hdp, hz⟩, q⟩ := h
  obtain ⟨u, rfl, ru⟩ := vals1 r
  rcases hd.imp_right id with hd | hd | hd
  rotate_left 2
  · obtain ⟨a, zs, ds, rfl, rfl, hl, hn, hx⟩ := hd
    cases ru
    obtain ⟨its, rv, ⟨o, n, ho, hc, _, hdt⟩, _⟩ := I.list hl
    obtain ⟨cs, hr, hno⟩ := reads_all hn rv fun i x d e1 e2 => (hx i x d e1 e2).reads I
    simp only [PyData.showable, PyData.depth] at hs hdp
    exact repr_list ho hc hdt hr hs hno hg (by omega) hz fun h' t tk hk => ⟨.str (PyData.list ds).shown, H, I.kept hk, ⟨t, rfl⟩, q⟩
  all_goals
  have rd : ∃ as, Reads s.heap u d as ∧ (d.hasDict = true → sysModules ∉ as) := by
    first
    | obtain ⟨as, z1, z2⟩ := hd.reads I u ru
      exact ⟨as, z1, fun _ => z2⟩
    | obtain ⟨as, z1⟩ := Dp.reads I d x u hd ru
      exact ⟨as, z1, PyData.noDict_hsm (Dp.noDict d x hd)⟩
  obtain ⟨as, z1, z2⟩ := rd
  have fin : ∀ (h' : Heap) (tk : Nat) (t : Tok), (∀ b o, s.heap.get? b = some o → h'.get? b = some o) → EP X pins σ Q (.str d.shown t) { s with heap := h', toks := tk } :=
    fun h' tk t hk => ⟨.str d.shown, H, I.kept hk, ⟨t, rfl⟩, q⟩
  have tail : ∀ a, u = .ref a → wpAny (model X.prog X.w) X.A (call (.builtin "repr") [u]) (EP X pins σ Q) X.xe s := by
    intro a e
    subst e
    exact repr_of_reads' z1 hs z2 hg (by omega) (fun _ _ e => e) (fun h' t tk hk => fin h' tk t hk) hz
  cases z1 with
  | none => exact PySem.P.repr_of_none (fin s.heap _ _ fun _ _ e => e)
  | bool b =>
    have e := fin s.heap (s.toks + 1) s.toks fun _ _ e => e
    rw [shown_bool] at e
    exact PySem.P.repr_of_bool e
  | int i t =>
    have hi : i.natAbs.log2 < 1920 := by
      unfold PyData.showable at hs
      exact of_decide_eq_true hs
    exact PySem.P.repr_of_int hi (fin s.heap _ _ fun _ _ e => e)
  | str y t => exact PySem.P.repr_of_str (fin s.heap _ _ fun _ _ e => e) hz
  | list _ _ _ _ => exact tail _ rfl
  | tuple _ _ _ _ => exact tail _ rfl
  | dict _ _ _ _ _ => exact tail _ rfl
end LG
/-! list(zip(a tuple, a list)). -/
namespace ZL
open PySem PySem.Spec PyProof.Rows L2 LG Evl
section
variable {prog : Program} {w : World} {A : Around} {E : Value → Shared → Prop} {s : Shared}
theorem zm_first {z TI TO i1 i2 l1 l2 : Addr} {k1 k2 : Nat} {us ws : Array Value} {x y a b : Value} {Q : Value → Shared → Prop} (ap : ZipApart z TI TO i1 i2 l1 l2)
    (pz : IsZip s.heap z TI TO .none) (pI : IsPair s.heap TI (.ref i1) (.ref i2)) (pO : IsPair s.heap TO a b)
    (h1 : s.heap.IsTupleIter i1 l1 k1) (h2 : s.heap.IsListIter i2 l2 k2) (c1l : s.heap.IsTuple l1 us) (c2l : s.heap.IsList l2 ws) (ex : us[k1]? = some x) (ey : ws[k2]? = some y)
    (K : ∀ h', IsZip h' z TI TO (rawInt s.heap.objs.size) → IsPair h' TO x y → h'.IsTupleIter i1 l1 (k1 + 1) → h'.IsListIter i2 l2 (k2 + 1) → IsPair h' s.heap.objs.size x y → h'.objs.size = s.heap.objs.size + 1 →
      (∀ c o, c ≠ z → c ≠ TO → c ≠ i1 → c ≠ i2 → s.heap.get? c = some o → h'.get? c = some o) → Q (.ref s.heap.objs.size) { s with heap := h' }) :
    wpAny (model prog w) A (Builtin.«zip.__next__» ⟨[.ref z], []⟩) (fun fin s' => ∃ v, fin = .done (.ret v) ∧ Q v s') E s := by
  show wpAny _ _ (field (.ref z) 2 >>= _) _ _ _
  refine wpAny_bind (wpAny_field pz rfl (x := .bool false) rfl ?_)
  show wpAny _ _ (field (.ref z) 3 >>= _) _ _ _
  refine wpAny_bind (wpAny_field pz rfl (x := .ref TI) rfl ?_)
  refine wpAny_bind (wpAny_seqItems pI rfl ?_)
  show wpAny _ _ (Builtin.SmallTypes.ownedTupleIsFree (.ref z) >>= _) _ _ _
  refine wpAny_bind ?_
  unfold Builtin.SmallTypes.ownedTupleIsFree
  refine wpAny_bind (wpAny_field pz rfl (x := .none) rfl (wpAny_pure ?_))
  simp only [if_true]
  refine wpAny_bind (wpAny_rule ?_)
  refine wpAny_bind (wpAny_field pz rfl (x := .ref TO) rfl ?_)
  refine wpAny_bind (wpAny_setField_rec pz (by simp) fun g₁ y₁ q₁ => ?_)
  replace y₁ : IsZip g₁ z TI TO .ellipsis := y₁
  refine wpAny_bind ?_
  simp only [List.zipIdx_cons, List.zipIdx_nil, List.forIn_cons, List.forIn_nil]

  refine wpAny_bind (wpAny_bind (wpAny_onRaise ?_))
  show wpAny _ _ (Builtin.SmallTypes.nextOf (.ref i1) >>= _) _ _ _
  refine wpAny_bind (RZ.nextOf_tuple_item (h1.extBut q₁.extBut ap.i1z) (c1l.extBut q₁.extBut ap.l1z) ex fun g₂ e₂ q₂ => wpAny_pure ?_)
  have o₂ : IsPair g₂ TO a b := q₂.extBut _ _ ap.TOi1 (q₁.extBut _ _ ap.TOz pO)
  refine wpAny_bind (wpAny_seqItems o₂ rfl ?_)
  refine wpAny_bind (wpAny_updateSeq_pair o₂ fun g₃ o₃ q₃ => ?_)
  replace o₃ : IsPair g₃ TO x b := o₃
  refine wpAny_bind (wpAny_letGo (wpAny_pure ?_))

  refine wpAny_bind (wpAny_bind (wpAny_onRaise ?_))
  show wpAny _ _ (Builtin.SmallTypes.nextOf (.ref i2) >>= _) _ _ _
  refine wpAny_bind (wpAny_nextOf_list_item (((h2.extBut q₁.extBut ap.i2z).extBut q₂.extBut ap.i12.symm).extBut q₃.extBut ap.TOi2.symm)
    (((c2l.extBut q₁.extBut ap.l2z).extBut q₂.extBut ap.l2i1).extBut q₃.extBut ap.l2TO) ey fun g₄ f₄ q₄ => wpAny_pure ?_)
  have o₄ : IsPair g₄ TO x b := q₄.extBut _ _ ap.TOi2 o₃
  refine wpAny_bind (wpAny_seqItems o₄ rfl ?_)
  refine wpAny_bind (wpAny_updateSeq_pair o₄ fun g₅ o₅ q₅ => ?_)
  replace o₅ : IsPair g₅ TO x y := o₅
  refine wpAny_bind (wpAny_letGo (wpAny_pure (wpAny_pure ?_)))

  refine wpAny_bind (wpAny_seqItems o₅ rfl ?_)
  refine wpAny_bind (wpAny_newTuple ?_)
  have szE : g₅.objs.size = s.heap.objs.size := by rw [q₅.1, q₄.1, q₃.1, q₂.1, q₁.1]
  have y₅ : IsZip g₅ z TI TO .ellipsis := q₅.extBut _ _ ap.TOz.symm (q₄.extBut _ _ ap.i2z.symm (q₃.extBut _ _ ap.TOz.symm (q₂.extBut _ _ ap.i1z.symm y₁)))
  have kp₅ : ∀ c o, c ≠ z → c ≠ TO → c ≠ i1 → c ≠ i2 → s.heap.get? c = some o → g₅.get? c = some o := fun c o c1 c2 c3 c4 e =>
    q₅.extBut _ _ c2 (q₄.extBut _ _ c4 (q₃.extBut _ _ c2 (q₂.extBut _ _ c3 (q₁.extBut _ _ c1 e))))
  have e₅ : g₅.IsTupleIter i1 l1 (k1 + 1) := ((e₂.extBut q₃.extBut ap.TOi1.symm).extBut q₄.extBut ap.i12).extBut q₅.extBut ap.TOi1.symm
  have f₅ : g₅.IsListIter i2 l2 (k2 + 1) := f₄.extBut q₅.extBut ap.TOi2.symm
  have zlt : z < g₅.objs.size := Heap.lt_size y₅
  have olt : TO < g₅.objs.size := Heap.lt_size o₅
  have i1lt : i1 < g₅.objs.size := by obtain ⟨_, e, _⟩ := e₅; exact Heap.lt_size e
  have i2lt : i2 < g₅.objs.size := by obtain ⟨_, e, _⟩ := f₅; exact Heap.lt_size e
  show wpAny _ _ (Builtin.SmallTypes.ownedTupleHandOut (.ref z) (.ref g₅.objs.size) >>= _) _ _ _
  refine wpAny_bind ?_
  unfold Builtin.SmallTypes.ownedTupleHandOut
  have y₆ : IsZip (g₅.push { cls := .type "tuple", data := .seq #[x, y] }) z TI TO .ellipsis := Heap.get?_push_of_some _ y₅
  refine wpAny_bind (wpAny_setField_rec y₆ (by simp) fun g₇ y₇ q₇ => ?_)
  replace y₇ : IsZip g₇ z TI TO (rawInt g₅.objs.size) := y₇
  refine wpAny_setField_rec y₇ (by simp) fun g₈ y₈ q₈ => ?_
  replace y₈ : IsZip g₈ z TI TO (rawInt g₅.objs.size) := y₈
  have up : ∀ c o, c ≠ z → g₅.get? c = some o → g₈.get? c = some o := fun c o c1 e => q₈.extBut _ _ c1 (q₇.extBut _ _ c1 (Heap.get?_push_of_some _ e))
  have nw₈ : IsPair g₈ g₅.objs.size x y := q₈.extBut _ _ (Nat.ne_of_gt zlt) (q₇.extBut _ _ (Nat.ne_of_gt zlt) (Heap.get?_push_size _ rfl))
  have sz8 : g₈.objs.size = g₅.objs.size + 1 := by rw [q₈.1, q₇.1, Heap.size_push]
  rw [szE] at y₈ nw₈ sz8
  refine wpAny_pure ⟨_, rfl, ?_⟩
  show Q (.ref g₅.objs.size) _
  rw [szE]
  exact K g₈ y₈ (up _ _ ap.TOz o₅) (e₅.at fun o e => up _ o ap.i1z e) (f₅.at fun o e => up _ o ap.i2z e) nw₈ sz8 fun c o c1 c2 c3 c4 e => up c o c1 (kp₅ c o c1 c2 c3 c4 e)

/-- behind the first pair: the tuple handed out last is alive, so each pair is a new one -/
abbrev ZipF (h : Heap) (z TI TO T0 : Addr) (f : Bool) : Prop := h.get? z = some { cls := .type "zip", dict := none, data := .fields #[rawInt T0, .bool f, .bool false, .ref TI, .ref TO], slots := #[] }
theorem zm_notfree {z TI TO T0 : Addr} {f : Bool} {o : Obj} {Q : Bool → Shared → Prop} (pz : ZipF s.heap z TI TO T0 f) (ho : s.heap.get? T0 = some o)
    (K : ∀ h', ZipF h' z TI TO T0 true → Heap.SameBut z s.heap h' → Q false { s with heap := h' }) : wpAny (model prog w) A (Builtin.SmallTypes.ownedTupleIsFree (.ref z)) Q E s := by
  unfold Builtin.SmallTypes.ownedTupleIsFree
  refine wpAny_bind (wpAny_field pz rfl (x := rawInt T0) rfl ?_)
  show wpAny _ _ (loadIfAlive ((T0 : Int).toNat) >>= _) _ _ _
  rw [Int.toNat_natCast]
  refine wpAny_bind (PySem.W.kdx_alive ho ?_)
  simp only [Option.isNone_some, Bool.false_eq_true, if_false]
  refine wpAny_bind (wpAny_field pz rfl (x := .bool f) rfl ?_)
  cases f with
  | true =>
    rw [if_neg (show ¬ ((Value.bool true != Value.bool true) = true) from Bool.false_ne_true)]
    exact wpAny_pure (K s.heap pz (Heap.SameBut.refl _ _))
  | false =>
    rw [if_pos (show (Value.bool false != Value.bool true) = true from rfl)]
    refine wpAny_bind (wpAny_setField_rec pz (by simp) fun h' hz' sb => ?_)
    exact wpAny_pure (K h' hz' sb)
theorem zm_later {z TI TO T0 i1 i2 l1 l2 : Addr} {k : Nat} {f : Bool} {o : Obj} {us ws : Array Value} {x y : Value} {Q : Value → Shared → Prop} (ap : ZipApart z TI TO i1 i2 l1 l2)
    (pz : ZipF s.heap z TI TO T0 f) (ho : s.heap.get? T0 = some o) (pI : IsPair s.heap TI (.ref i1) (.ref i2))
    (t1 : s.heap.IsTupleIter i1 l1 k) (t2 : s.heap.IsListIter i2 l2 k) (c1 : s.heap.IsTuple l1 us) (c2 : s.heap.IsList l2 ws) (ex : us[k]? = some x) (ey : ws[k]? = some y)
    (K : ∀ h', ZipF h' z TI TO T0 true → h'.IsTupleIter i1 l1 (k + 1) → h'.IsListIter i2 l2 (k + 1) → IsPair h' s.heap.objs.size x y → h'.objs.size = s.heap.objs.size + 1 →
      (∀ c o, c ≠ z → c ≠ i1 → c ≠ i2 → s.heap.get? c = some o → h'.get? c = some o) → Q (.ref s.heap.objs.size) { s with heap := h' }) :
    wpAny (model prog w) A (Builtin.«zip.__next__» ⟨[.ref z], []⟩) (fun fin s' => ∃ v, fin = .done (.ret v) ∧ Q v s') E s := by
  show wpAny _ _ (field (.ref z) 2 >>= _) _ _ s
  refine wpAny_bind (wpAny_field pz rfl (x := .bool false) rfl ?_)
  show wpAny _ _ (field (.ref z) 3 >>= _) _ _ s
  refine wpAny_bind (wpAny_field pz rfl (x := .ref TI) rfl ?_)
  refine wpAny_bind (wpAny_seqItems pI rfl ?_)
  show wpAny _ _ (Builtin.SmallTypes.ownedTupleIsFree (.ref z) >>= _) _ _ s
  refine wpAny_bind (zm_notfree pz ho fun g1 z1 q1 => ?_)
  simp only [Bool.false_eq_true, if_false]
  refine wpAny_bind ?_
  simp only [List.forIn_toArray, List.forIn_cons, List.forIn_nil]
  have r1 := t1.extBut q1.extBut ap.i1z
  have r2 := t2.extBut q1.extBut ap.i2z
  refine wpAny_bind (wpAny_bind (wpAny_holding ?_))
  refine wpAny_bind (RZ.nextOf_tuple_item r1 (c1.extBut q1.extBut ap.l1z) ex fun g2 z2 q2 => wpAny_pure (wpAny_pure ?_))
  refine wpAny_bind (wpAny_bind (wpAny_holding ?_))
  refine wpAny_bind (wpAny_nextOf_list_item (r2.extBut q2.extBut ap.i12.symm) ((c2.extBut q1.extBut ap.l2z).extBut q2.extBut ap.l2i1) ey fun g3 z3 q3 => wpAny_pure (wpAny_pure (wpAny_pure ?_)))
  refine wpAny_bind (wpAny_newTuple (hsz := by show 2 ≤ sizeLine; decide) ?_)
  have sz : g3.objs.size = s.heap.objs.size := by rw [q3.1, q2.1, q1.1]
  have kp : ∀ c o, c ≠ z → c ≠ i1 → c ≠ i2 → s.heap.get? c = some o → g3.get? c = some o := fun c o n1 n2 n3 e => q3.extBut _ _ n3 (q2.extBut _ _ n2 (q1.extBut _ _ n1 e))
  have y3 : ZipF g3 z TI TO T0 true := q3.extBut _ _ ap.i2z.symm (q2.extBut _ _ ap.i1z.symm z1)
  have up : ∀ c o, g3.get? c = some o → (g3.push { cls := .type "tuple", data := .seq #[x, y] }).get? c = some o := fun c o e => Heap.get?_push_of_some _ e
  refine wpAny_pure ⟨_, rfl, ?_⟩
  show Q (.ref g3.objs.size) { s with heap := g3.push { cls := .type "tuple", data := .seq #[x, y] } }
  rw [sz]
  refine K _ (up _ _ y3) ((z2.extBut q3.extBut ap.i12).at fun o e => up _ o e) (z3.at fun o e => up _ o e) ?_ (by rw [Heap.size_push, sz]) fun c o n1 n2 n3 e => up _ _ (kp c o n1 n2 n3 e)
  rw [← sz]
  exact Heap.get?_push_size _ rfl
/-- at the end -/
theorem zm_end {z TI TO T0 i1 i2 l1 l2 : Addr} {k : Nat} {f : Bool} {o : Obj} {us : Array Value} {Q : Fin → Shared → Prop} (hh : A.handled = none) (ap : ZipApart z TI TO i1 i2 l1 l2)
    (pz : ZipF s.heap z TI TO T0 f) (ho : s.heap.get? T0 = some o) (pI : IsPair s.heap TI (.ref i1) (.ref i2))
    (t1 : s.heap.IsTupleIter i1 l1 k) (c1 : s.heap.IsTuple l1 us) (ex : us[k]? = none)
    (K : ∀ h' e, (∀ c o, c ≠ z → c ≠ i1 → s.heap.get? c = some o → h'.get? c = some o) → (∃ o, h'.get? e = some o ∧ o.cls = .type "StopIteration") → E (.ref e) { s with heap := h' }) :
    wpAny (model prog w) A (Builtin.«zip.__next__» ⟨[.ref z], []⟩) Q E s := by
  show wpAny _ _ (field (.ref z) 2 >>= _) _ _ s
  refine wpAny_bind (wpAny_field pz rfl (x := .bool false) rfl ?_)
  show wpAny _ _ (field (.ref z) 3 >>= _) _ _ s
  refine wpAny_bind (wpAny_field pz rfl (x := .ref TI) rfl ?_)
  refine wpAny_bind (wpAny_seqItems pI rfl ?_)
  show wpAny _ _ (Builtin.SmallTypes.ownedTupleIsFree (.ref z) >>= _) _ _ s
  refine wpAny_bind (zm_notfree pz ho fun g1 z1 q1 => ?_)
  simp only [Bool.false_eq_true, if_false]
  refine wpAny_bind ?_
  simp only [List.forIn_toArray, List.forIn_cons, List.forIn_nil]
  refine wpAny_bind (wpAny_bind (wpAny_holding ?_))
  exact wpAny_bind (RZ.nextOf_tuple_end hh (t1.extBut q1.extBut ap.i1z) (c1.extBut q1.extBut ap.l1z) ex fun g2 e q2 he => K g2 e (fun c o n1 n2 x => q2 _ _ n2 (q1.extBut _ _ n1 x)) he)
/-! ### the walk of list(..) -/
/-- i pairs are handed out -/
structure ZSt (h : Heap) (z TI TO i1 i2 l1 l2 S i : Nat) (us ws : Array Value) : Prop where
  st : (i = 0 ∧ IsZip h z TI TO .none ∧ ∃ a b, IsPair h TO a b) ∨ ∃ T0 f o, ZipF h z TI TO T0 f ∧ h.get? T0 = some o ∧ T0 ≠ z ∧ T0 ≠ i1 ∧ T0 ≠ i2 ∧ T0 ≠ S
  pI : IsPair h TI (.ref i1) (.ref i2)
  t1 : h.IsTupleIter i1 l1 i
  t2 : h.IsListIter i2 l2 i
  c1 : h.IsTuple l1 us
  c2 : h.IsList l2 ws
/-- S stands apart of all that the walk touches -/
structure SApart (S z TI TO i1 i2 l1 l2 : Addr) : Prop where
  a : S ≠ z ∧ S ≠ TI ∧ S ≠ TO ∧ S ≠ i1 ∧ S ≠ i2 ∧ S ≠ l1 ∧ S ≠ l2
theorem ZSt.keep {h h' : Heap} {z TI TO i1 i2 l1 l2 S i : Nat} {us ws : Array Value} (x : ZSt h z TI TO i1 i2 l1 l2 S i us ws) (sa : SApart S z TI TO i1 i2 l1 l2) (hk : ∀ b o, b ≠ S → h.get? b = some o → h'.get? b = some o) : ZSt h' z TI TO i1 i2 l1 l2 S i us ws := by
  obtain ⟨s1, s2, s3, s4, s5, s6, s7⟩ := sa.a
  refine ⟨?_, hk _ _ s2.symm x.pI, x.t1.at fun o e => hk _ o s4.symm e, x.t2.at fun o e => hk _ o s5.symm e, ?_, ?_⟩
  · rcases x.st with ⟨e, h1, a, b, h2⟩ | ⟨T0, f, o, h1, h2, n1, n2, n3, n4⟩
    · exact .inl ⟨e, hk _ _ s1.symm h1, a, b, hk _ _ s3.symm h2⟩
    · exact .inr ⟨T0, f, o, hk _ _ s1.symm h1, hk _ _ n4 h2, n1, n2, n3, n4⟩
  · obtain ⟨o, ho, r⟩ := x.c1
    exact ⟨o, hk _ o s6.symm ho, r⟩
  · obtain ⟨o, ho, r⟩ := x.c2
    exact ⟨o, hk _ o s7.symm ho, r⟩
theorem zm_item {z TI TO i1 i2 l1 l2 S i : Nat} {us ws : Array Value} {x y : Value} {Q : Option Value → Shared → Prop} (ap : ZipApart z TI TO i1 i2 l1 l2) (sa : SApart S z TI TO i1 i2 l1 l2) (hS : S < s.heap.objs.size) (hl : l1 ≠ TI ∧ l2 ≠ TI) (st : ZSt s.heap z TI TO i1 i2 l1 l2 S i us ws) (ex : us[i]? = some x) (ey : ws[i]? = some y)
    (K : ∀ h', ZSt h' z TI TO i1 i2 l1 l2 S (i + 1) us ws → IsPair h' s.heap.objs.size x y → h'.objs.size = s.heap.objs.size + 1 →
      (∀ c o, c ≠ z → c ≠ TO → c ≠ i1 → c ≠ i2 → s.heap.get? c = some o → h'.get? c = some o) → Q (some (.ref s.heap.objs.size)) { s with heap := h' }) :
    wpAny (model prog w) A (pyNext (.ref z)) Q E s := by
  obtain ⟨s1, s2, s3, s4, s5, s6, s7⟩ := sa.a
  have lt1 : i1 < s.heap.objs.size := by obtain ⟨_, e, _⟩ := st.t1; exact Heap.lt_size e
  have lt2 : i2 < s.heap.objs.size := by obtain ⟨_, e, _⟩ := st.t2; exact Heap.lt_size e
  have go : ∀ (lt : z < s.heap.objs.size) (Q' : Value → Shared → Prop), s.TypeIs (.ref z) "zip" → wpAny (model prog w) A.in1 (Builtin.«zip.__next__» ⟨[.ref z], []⟩) (fun fin s' => ∃ v, fin = .done (.ret v) ∧ Q' v s') (fun _ _ => False) s → (∀ v s', Q' v s' → Q (some v) s') → wpAny (model prog w) A (pyNext (.ref z)) Q E s := fun lt Q' hT h k => by
    unfold pyNext
    refine wpAny_bind (wpAny_attempt (wpAny_callSpecial?_slot (name := Str.ofString "__next__") hT PySem.F.slot_zip_next
      (wpAny_call_entry PySem.F.slot_zip_next hT PySem.F.entry_zip_next (wpAny_mono h (fun fin s' ⟨v, e, q⟩ => ⟨v, e, wpAny_pure (k v s' q)⟩) fun _ _ h => h.elim) (PySem.F.args_zip_next_1 _))))
  rcases st.st with ⟨rfl, h1, a, b, h2⟩ | ⟨T0, f, o, h1, h2, n1, n2, n3, n4⟩
  · refine go (Heap.lt_size h1) _ ⟨_, h1, rfl⟩ (zm_first ap h1 st.pI h2 st.t1 st.t2 st.c1 st.c2 ex ey fun h' z' o' t1' t2' nw sz kp => ?_) fun v s' q => q
    refine K h' ⟨.inr ⟨_, false, _, z', nw, Nat.ne_of_gt (Heap.lt_size h1), Nat.ne_of_gt lt1, Nat.ne_of_gt lt2, Nat.ne_of_gt hS⟩, kp _ _ ap.TIz ap.TITO ap.TIi1 ap.TIi2 st.pI, t1', t2', ?_, ?_⟩ nw sz kp
    · obtain ⟨o, ho, r⟩ := st.c1
      exact ⟨o, kp _ o ap.l1z ap.l1TO ap.l1i1 ap.l1i2 ho, r⟩
    · obtain ⟨o, ho, r⟩ := st.c2
      exact ⟨o, kp _ o ap.l2z ap.l2TO ap.l2i1 ap.l2i2 ho, r⟩
  · refine go (Heap.lt_size h1) _ ⟨_, h1, rfl⟩ (zm_later ap h1 h2 st.pI st.t1 st.t2 st.c1 st.c2 ex ey fun h' z' t1' t2' nw sz kp => ?_) fun v s' q => q
    refine K h' ⟨.inr ⟨T0, true, o, z', kp _ _ n1 n2 n3 h2, n1, n2, n3, n4⟩, kp _ _ ap.TIz ap.TIi1 ap.TIi2 st.pI, t1', t2', ?_, ?_⟩ nw sz fun c o m1 _ m3 m4 e => kp c o m1 m3 m4 e
    · obtain ⟨o, ho, r⟩ := st.c1
      exact ⟨o, kp _ o ap.l1z ap.l1i1 ap.l1i2 ho, r⟩
    · obtain ⟨o, ho, r⟩ := st.c2
      exact ⟨o, kp _ o ap.l2z ap.l2i1 ap.l2i2 ho, r⟩
theorem zm_done {z TI TO i1 i2 l1 l2 S i : Nat} {us ws : Array Value} {Q : Option Value → Shared → Prop} (hh : A.handled = none) (ap : ZipApart z TI TO i1 i2 l1 l2) (st : ZSt s.heap z TI TO i1 i2 l1 l2 S i us ws) (hi : i ≠ 0) (ex : us[i]? = none)
    (K : ∀ h', (∀ c o, c ≠ z → c ≠ i1 → s.heap.get? c = some o → h'.get? c = some o) → Q none { s with heap := h' }) : wpAny (model prog w) A (pyNext (.ref z)) Q E s := by
  rcases st.st with ⟨e, _⟩ | ⟨T0, f, o, h1, h2, n1, n2, n3, n4⟩
  · exact absurd e hi
  · have hT : s.TypeIs (.ref z) "zip" := ⟨_, h1, rfl⟩
    unfold pyNext
    refine wpAny_bind (wpAny_attempt (wpAny_callSpecial?_slot (name := Str.ofString "__next__") hT PySem.F.slot_zip_next
      (wpAny_call_entry PySem.F.slot_zip_next hT PySem.F.entry_zip_next (zm_end (A := A.in1) hh ap h1 h2 st.pI st.t1 st.c1 ex fun h' e hk he => ?_) (PySem.F.args_zip_next_1 _))))
    obtain ⟨o2, ho2, hc⟩ := he
    refine wpAny_bind (wpAny_isInstance (T := "StopIteration") (b := true) ⟨o2, ho2, hc⟩ isSubtype_stop ?_)
    exact wpAny_pure (K _ hk)
end
end ZL
namespace ZL
open PySem PySem.Spec PyProof.Rows L2 LG Evl
/-- the pairs that were made -/
structure ZG (us ws : Array Value) (lo : Addr) (h : Heap) (as : List Addr) : Prop where
  up : as.Pairwise (· < ·)
  lo : ∀ a ∈ as, lo < a
  pr : ∀ (j : Nat) (a : Addr), as[j]? = some a → ∃ x y, us[j]? = some x ∧ ws[j]? = some y ∧ IsPair h a x y
theorem ZG.in_ {us ws : Array Value} {lo : Addr} {h : Heap} {as : List Addr} (g : ZG us ws lo h as) {a : Addr} (ha : a ∈ as) : a < h.objs.size := by
  obtain ⟨j, hj⟩ := List.mem_iff_getElem?.mp ha
  obtain ⟨_, _, _, _, e⟩ := g.pr j a hj
  exact Heap.lt_size e
theorem ZG.snoc {us ws : Array Value} {lo : Addr} {h h' : Heap} {as : List Addr} {x y : Value} (g : ZG us ws lo h as) (hk : ∀ a ∈ as, ∀ o, h.get? a = some o → h'.get? a = some o) (hlo : lo < h.objs.size) (hx : us[as.length]? = some x) (hy : ws[as.length]? = some y) (hn : IsPair h' h.objs.size x y) : ZG us ws lo h' (as ++ [h.objs.size]) where
  up := List.pairwise_append.mpr ⟨g.up, List.pairwise_singleton _ _, fun a ha b hb => by
    rw [List.mem_singleton.mp hb]
    exact g.in_ ha⟩
  lo := fun a ha => by
    rcases List.mem_append.mp ha with ha | ha
    · exact g.lo a ha
    · rw [List.mem_singleton.mp ha]
      exact hlo
  pr := fun j b hj => by
    rcases Nat.lt_trichotomy j as.length with h1 | h1 | h1
    · rw [List.getElem?_append_left h1] at hj
      obtain ⟨x', y', e1, e2, e3⟩ := g.pr j b hj
      exact ⟨x', y', e1, e2, hk b (List.mem_of_getElem? hj) _ e3⟩
    · subst h1
      have hb : h.objs.size = b := by simpa using hj
      subst hb
      exact ⟨x, y, hx, hy, hn⟩
    · rw [List.getElem?_eq_none (by rw [List.length_append, List.length_singleton]; omega)] at hj
      cases hj
section
variable {prog : Program} {w : World} {A : Around} {s : Shared} {R : Result → Shared → Prop} {S z TI TO i1 i2 l1 l2 n : Nat} {us ws : Array Value}
theorem zl_loop (hh : A.handled = none) (ap : ZipApart z TI TO i1 i2 l1 l2) (sa : SApart S z TI TO i1 i2 l1 l2) (hl : l1 ≠ TI ∧ l2 ≠ TI) (low : z < S ∧ TO < S ∧ i1 < S ∧ i2 < S) (hn : n ≤ sizeLine) (h0 : 0 < n) (hu : us.size = n) (hw : ws.size = n) (res : Value) {g0 : Heap}
    (hR : ∀ h' tk acc c as, (∀ b o, b ≠ S → b ≠ z → b ≠ TO → b ≠ i1 → b ≠ i2 → g0.get? b = some o → h'.get? b = some o) → h'.get? S = some { cls := .type "list", dict := none, data := .seq acc c, slots := #[] } → as.length = n → ZG us ws S h' as →
      acc.toList = as.map Value.ref → R (.ok (.ret res)) { s with heap := h', toks := tk }) :
    ∀ (k i : Nat) (h : Heap) (tk c : Nat) (acc : Array Value) (as : List Addr), n - i = k → i ≤ n → ZSt h z TI TO i1 i2 l1 l2 S i us ws → (∀ b o, b ≠ S → b ≠ z → b ≠ TO → b ≠ i1 → b ≠ i2 → g0.get? b = some o → h.get? b = some o) →
      h.get? S = some { cls := .type "list", dict := none, data := .seq acc c, slots := #[] } → acc.toList = as.map Value.ref → as.length = i → ZG us ws S h as →
      codeAny (model prog w) A (.builtin "list.extend.loop" ⟨[.ref S, .ref z, res], []⟩) R { s with heap := h, toks := tk } := by
  obtain ⟨b1, b2, b3, b4⟩ := low
  obtain ⟨s1, s2, s3, s4, s5, s6, s7⟩ := sa.a
  intro k
  induction k with
  | zero =>
    intro i h tk c acc as hk hi st keep hS hacc hal G
    have hin : i = n := by omega
    refine codeAny_builtin PySem.F.entry_extend_loop ?_
    rw [Around.under_plainId PySem.F.plain_extend_loop _]
    show wpAny _ A.in1 (pyNext (.ref z) >>= _) _ _ _
    refine wpAny_bind (zm_done (s := { s with heap := h, toks := tk }) (A := A.in1) hh ap st (by omega) (Array.getElem?_eq_none (by omega)) fun h' he => ?_)
    refine wpAny_pure (hR h' tk acc c as (fun b o m1 m2 m3 m4 m5 e => he b o m2 m4 (keep b o m1 m2 m3 m4 m5 e)) (he S _ s1 s4 hS) (by omega) ⟨G.up, G.lo, fun j a hj => ?_⟩ hacc)
    obtain ⟨x, y, e1, e2, e3⟩ := G.pr j a hj
    have hlo := G.lo a (List.mem_of_getElem? hj)
    exact ⟨x, y, e1, e2, he a _ (Nat.ne_of_gt (Nat.lt_trans b1 hlo)) (Nat.ne_of_gt (Nat.lt_trans b3 hlo)) e3⟩
  | succ k ih =>
    intro i h tk c acc as hk hi st keep hS hacc hal G
    have hlt : i < n := by omega
    have ex : us[i]? = some us[i] := Array.getElem?_eq_getElem (by omega)
    have ey : ws[i]? = some ws[i] := Array.getElem?_eq_getElem (by omega)
    have hsz : acc.size = i := by rw [← Array.length_toList, hacc, List.length_map, hal]
    have hSl : S < h.objs.size := Heap.lt_size hS
    refine codeAny_builtin PySem.F.entry_extend_loop ?_
    rw [Around.under_plainId PySem.F.plain_extend_loop _]
    show wpAny _ A.in1 (pyNext (.ref z) >>= _) _ _ _
    refine wpAny_bind (zm_item (s := { s with heap := h, toks := tk }) ap sa hSl hl st ex ey fun h' st' nw sz kp => ?_)
    dsimp only at nw sz kp ⊢
    have hS' := kp S _ s1 s3 s4 s5 hS
    have upd1 : ∀ b o, b ≠ S → h'.get? b = some o → (h'.update S (Obj.mapSeq (·.push (Value.ref h.objs.size)))).get? b = some o := fun b o hb e => (Heap.get?_update_other _ _ (Ne.symm hb)).trans e
    show wpAny _ A.in1 (updateSeq S (·.push (Value.ref h.objs.size)) >>= _) _ _ _
    refine wpAny_bind ?_
    refine wpAny_updateSeq hS' rfl (wpAny_pure ⟨plainId_quiet PySem.F.plain_extend_loop _, ih (i + 1) _ tk _ (acc.push (Value.ref h.objs.size)) (as ++ [h.objs.size]) (by omega) hlt (st'.keep sa upd1)
      (fun b o m1 m2 m3 m4 m5 e => upd1 b o m1 (kp b o m2 m3 m4 m5 (keep b o m1 m2 m3 m4 m5 e))) (Heap.get?_update_self _ hS' rfl) (by rw [Array.toList_push, hacc, List.map_append]; rfl) (by rw [List.length_append, hal]; rfl)
      (G.snoc (fun a ha o e => upd1 a o (Nat.ne_of_gt (G.lo a ha)) (kp a o (Nat.ne_of_gt (Nat.lt_trans b1 (G.lo a ha))) (Nat.ne_of_gt (Nat.lt_trans b2 (G.lo a ha))) (Nat.ne_of_gt (Nat.lt_trans b3 (G.lo a ha))) (Nat.ne_of_gt (Nat.lt_trans b4 (G.lo a ha))) e)) hSl (by rw [hal]; exact ex) (by rw [hal]; exact ey) (upd1 _ _ (Nat.ne_of_gt hSl) nw))⟩)
      (by rw [hsz]; omega) (by show (acc.push (Value.ref h.objs.size)).size ≤ sizeLine + 1; rw [Array.size_push, hsz]; omega)
theorem zip_no_len : typeLookup (.type "zip") "__len__" = pure none := by rw [typeLookup_type, builtinLookup_eq_fast]; kernel_rfl
theorem zip_no_hint : typeLookup (.type "zip") "__length_hint__" = pure none := by rw [typeLookup_type, builtinLookup_eq_fast]; kernel_rfl
theorem zl_hint {E : Value → Shared → Prop} {Q : Bool → Shared → Prop} (hT : s.TypeIs (.ref z) "zip") (h : ∀ b, Q b s) : wpAny (model prog w) A (Builtin.List.listLengthHint (.ref z)) Q E s := by
  unfold Builtin.List.listLengthHint
  refine wpAny_bind (wpAny_specialOf hT zip_no_len ?_)
  show wpAny _ A (specialOf (Value.ref z) (Str.ofString "__length_hint__") >>= _) _ _ _
  refine wpAny_bind (wpAny_specialOf hT zip_no_hint ?_)
  exact wpAny_pure (h _)
theorem zl_extend (hh : A.handled = none) (ap : ZipApart z TI TO i1 i2 l1 l2) (sa : SApart S z TI TO i1 i2 l1 l2) (hl : l1 ≠ TI ∧ l2 ≠ TI) (low : z < S ∧ TO < S ∧ i1 < S ∧ i2 < S) (hn : n ≤ sizeLine) (h0 : 0 < n) (hu : us.size = n) (hw : ws.size = n) (res : Value) (c0 : Nat)
    (hz : IsZip s.heap z TI TO .none) (st : ZSt s.heap z TI TO i1 i2 l1 l2 S 0 us ws) (hS : s.heap.get? S = some { cls := .type "list", data := .seq #[] c0 })
    (hR : ∀ h' tk acc c as, (∀ b o, b ≠ S → b ≠ z → b ≠ TO → b ≠ i1 → b ≠ i2 → s.heap.get? b = some o → h'.get? b = some o) → h'.get? S = some { cls := .type "list", dict := none, data := .seq acc c, slots := #[] } → as.length = n → ZG us ws S h' as →
      acc.toList = as.map Value.ref → R (.ok (.ret res)) { s with heap := h', toks := tk }) :
    wpAny (model prog w) A.in1 (Builtin.List.listExtendWith (.ref S) (.ref z) res)
      (fun fin s' => match fin with | .done f => R (.ok f) s' | .again c' => c'.quiet = true ∧ codeAny (model prog w) A c' R s') (fun e s' => R (.error e) s') s := by
  obtain ⟨s1, s2, s3, s4, s5, s6, s7⟩ := sa.a
  have hT : s.TypeIs (.ref z) "zip" := ⟨_, hz, rfl⟩
  have key : ∀ (h : Heap) (c1 tk : Nat), (∀ b o, b ≠ S → s.heap.get? b = some o → h.get? b = some o) → h.get? S = some { cls := .type "list", data := .seq #[] c1 } → codeAny (model prog w) A (.builtin "list.extend.loop" ⟨[.ref S, .ref z, res], []⟩) R { s with heap := h, toks := tk } := fun h c1 tk hk hS1 =>
    zl_loop (s := s) (g0 := s.heap) hh ap sa hl low hn h0 hu hw res hR n 0 h tk c1 #[] [] (Nat.sub_zero _) (Nat.zero_le _) (st.keep sa hk) (fun b o m1 _ _ _ _ e => hk b o m1 e) hS1 rfl rfl ⟨List.Pairwise.nil, (fun _ ha => nomatch ha), (fun j a hj => by simp at hj)⟩
  unfold Builtin.List.listExtendWith
  refine wpAny_bind (wpAny_typeOf hT ?_)
  have n1 : Builtin.List.listSameRef (.ref S) (.ref z) = false := by simp [Builtin.List.listSameRef, s1]
  have n2 : (Value.type "zip" == Value.type "list") = false := by decide
  have n3 : (Value.type "zip" == Value.type "tuple") = false := by decide
  simp only [n1, n2, n3, Bool.or_false, Bool.false_eq_true, if_false]
  refine wpAny_bind (wpAny_pyIter_zip hz ?_)
  refine wpAny_bind (wpAny_holding (zl_hint hT fun b => ?_))
  refine wpAny_ite_split (fun _ => ?_) (fun _ => wpAny_pure ⟨plainId_quiet PySem.F.plain_extend_loop _, key _ c0 _ (fun b o _ e => e) hS⟩)
  refine wpAny_bind (wpAny_rule ?_)
  refine wpAny_bind ?_
  show wpAny _ _ (updateSeq S (·.push .none) >>= fun _ => updateSeq S (·.pop)) _ _ _
  refine wpAny_bind (wpAny_updateSeq hS rfl ?_)
  have g2 := Heap.get?_update_self (Obj.mapSeq (·.push Value.none)) hS rfl
  refine wpAny_updateSeq (hz := by seq_fits) g2 rfl ?_
  have g3 := Heap.get?_update_self (Obj.mapSeq (·.pop)) g2 rfl
  refine wpAny_pure ⟨plainId_quiet PySem.F.plain_extend_loop _, key _ _ _ (fun b o hb e => ?_) g3⟩
  exact (Heap.get?_update_other _ _ (Ne.symm hb)).trans ((Heap.get?_update_other _ _ (Ne.symm hb)).trans e)
theorem zl_init (hh : A.handled = none) (ap : ZipApart z TI TO i1 i2 l1 l2) (sa : SApart S z TI TO i1 i2 l1 l2) (hl : l1 ≠ TI ∧ l2 ≠ TI) (low : z < S ∧ TO < S ∧ i1 < S ∧ i2 < S) (hn : n ≤ sizeLine) (h0 : 0 < n) (hu : us.size = n) (hw : ws.size = n)
    (hz : IsZip s.heap z TI TO .none) (st : ZSt s.heap z TI TO i1 i2 l1 l2 S 0 us ws) (hS : s.heap.get? S = some { cls := .type "list", data := .seq #[] })
    (hR : ∀ h' tk acc c as, (∀ b o, b ≠ S → b ≠ z → b ≠ TO → b ≠ i1 → b ≠ i2 → s.heap.get? b = some o → h'.get? b = some o) → h'.get? S = some { cls := .type "list", dict := none, data := .seq acc c, slots := #[] } → as.length = n → ZG us ws S h' as →
      acc.toList = as.map Value.ref → R (.ok (.ret .none)) { s with heap := h', toks := tk }) :
    wpAny (model prog w) A.in1 (Builtin.«list.__init__» ⟨[.ref S, .ref z], []⟩)
      (fun fin s' => match fin with | .done f => R (.ok f) s' | .again c' => c'.quiet = true ∧ codeAny (model prog w) A c' R s') (fun e s' => R (.error e) s') s := by
  obtain ⟨s1, s2, s3, s4, s5, s6, s7⟩ := sa.a
  show wpAny _ _ (do let old ← Builtin.List.listItems (.ref S); Builtin.List.listUpdate (.ref S) (fun _ => #[]); letGo old.toList.reverse; Builtin.List.listExtendWith (.ref S) (.ref z) .none) _ _ s
  refine wpAny_bind ?_
  unfold Builtin.List.listItems
  refine wpAny_bind (wpAny_seqItems hS rfl (wpAny_pure ?_))
  show wpAny _ _ (updateSeq S (fun _ => #[]) >>= fun _ => letGo (#[] : Array Value).toList.reverse >>= fun _ => Builtin.List.listExtendWith (.ref S) (.ref z) .none) _ _ s
  refine wpAny_bind (wpAny_updateSeq hS rfl ?_)
  have g2 := Heap.get?_update_self (Obj.mapSeq (fun _ => (#[] : Array Value))) hS rfl
  have oth : ∀ b o, b ≠ S → s.heap.get? b = some o → (s.heap.update S (Obj.mapSeq (fun _ => (#[] : Array Value)))).get? b = some o := fun b o hb e => (Heap.get?_update_other _ _ (Ne.symm hb)).trans e
  refine wpAny_bind (wpAny_letGo ?_)
  exact zl_extend hh ap sa hl low hn h0 hu hw .none _ (oth _ _ s1.symm hz) (st.keep sa oth) g2 fun h' tk acc c as hk hS' hal hG hacc => hR h' tk acc c as (fun b o m1 m2 m3 m4 m5 e => hk b o m1 m2 m3 m4 m5 (oth b o m1 e)) hS' hal hG hacc
end
section
variable {prog : Program} {w : World} {A : Around} {E : Value → Shared → Prop} {s : Shared} {z TI TO i1 i2 l1 l2 n : Nat} {us ws : Array Value}
theorem zl_call {Q : Value → Shared → Prop} (hh : A.handled = none) (ap : ZipApart z TI TO i1 i2 l1 l2) (hl : l1 ≠ TI ∧ l2 ≠ TI) (hn : n ≤ sizeLine) (h0 : 0 < n) (hu : us.size = n) (hw : ws.size = n)
    (hz : IsZip s.heap z TI TO .none) (pI : IsPair s.heap TI (.ref i1) (.ref i2)) (pO : IsPair s.heap TO .none .none) (t1 : s.heap.IsTupleIter i1 l1 0) (t2 : s.heap.IsListIter i2 l2 0) (c1 : s.heap.IsTuple l1 us) (c2 : s.heap.IsList l2 ws)
    (hQ : ∀ h' tk acc c as, (∀ b o, b ≠ z → b ≠ TO → b ≠ i1 → b ≠ i2 → s.heap.get? b = some o → h'.get? b = some o) → h'.get? s.heap.objs.size = some { cls := .type "list", dict := none, data := .seq acc c, slots := #[] } → as.length = n → ZG us ws s.heap.objs.size h' as →
      acc.toList = as.map Value.ref → Q (.ref s.heap.objs.size) { s with heap := h', toks := tk }) :
    wpAny (model prog w) A (call (.type "list") [.ref z]) Q E s := by
  refine callType_codes (Q₁ := fun obj s₁ => obj = .ref s.heap.objs.size ∧ s₁ = { s with heap := s.heap.push { cls := .type "list", data := .seq #[] } }) PySem.F.called_list (PySem.F.typeCall_list_1 _) PySem.F.entry_list_init
    (code_list_new _ ⟨rfl, rfl⟩) fun obj s₁ h₁ => ?_
  obtain ⟨rfl, rfl⟩ := h₁
  have gS : (s.heap.push { cls := .type "list", data := .seq #[] }).get? s.heap.objs.size = some { cls := .type "list", data := .seq #[] } := Heap.get?_push_size _ rfl
  have up : ∀ b o, s.heap.get? b = some o → (s.heap.push { cls := .type "list", data := .seq #[] }).get? b = some o := fun b o e => Heap.get?_push_of_some _ e
  have lz : z < s.heap.objs.size := Heap.lt_size hz
  have lI : TI < s.heap.objs.size := Heap.lt_size pI
  have lO : TO < s.heap.objs.size := Heap.lt_size pO
  have li1 : i1 < s.heap.objs.size := let ⟨_, e, _⟩ := t1; Heap.lt_size e
  have li2 : i2 < s.heap.objs.size := let ⟨_, e, _⟩ := t2; Heap.lt_size e
  have ll1 : l1 < s.heap.objs.size := let ⟨_, e, _⟩ := c1; Heap.lt_size e
  have ll2 : l2 < s.heap.objs.size := let ⟨_, e, _⟩ := c2; Heap.lt_size e
  refine ⟨⟨_, gS, rfl⟩, PySem.F.args_list_init_2 _ _, zl_init (A := A.in1) hh ap ⟨Nat.ne_of_gt lz, Nat.ne_of_gt lI, Nat.ne_of_gt lO, Nat.ne_of_gt li1, Nat.ne_of_gt li2, Nat.ne_of_gt ll1, Nat.ne_of_gt ll2⟩ hl ⟨lz, lO, li1, li2⟩ hn h0 hu hw (up _ _ hz)
    ⟨.inl ⟨rfl, up _ _ hz, _, _, up _ _ pO⟩, up _ _ pI, t1.at fun o e => up _ o e, t2.at fun o e => up _ o e, let ⟨o, ho, r⟩ := c1; ⟨o, up _ o ho, r⟩, let ⟨o, ho, r⟩ := c2; ⟨o, up _ o ho, r⟩⟩ gS fun h' tk acc c as hk hS' hal hG hacc => ?_⟩
  exact ⟨rfl, hQ h' tk acc c as (fun b o m2 m3 m4 m5 e => hk b o (Nat.ne_of_lt (Heap.lt_size e)) m2 m3 m4 m5 (up b o e)) hS' hal hG hacc⟩
end
end ZL
namespace ZL
open PySem PySem.Spec PyProof.Rows L2 LG Evl
abbrev zmH1 (h : Heap) (l1 : Addr) : Heap := h.push { cls := .type "tuple_iterator", data := .fields #[.ref l1, .int 0 0] }
abbrev zmH2 (h : Heap) (l1 l2 : Addr) : Heap := (zmH1 h l1).push { cls := .type "list_iterator", data := .fields #[.ref l2, .int 0 0] }
abbrev zmH3 (h : Heap) (l1 l2 : Addr) : Heap := (zmH2 h l1 l2).push { cls := .type "tuple", data := .seq #[.ref h.objs.size, .ref (zmH1 h l1).objs.size] }
abbrev zmH4 (h : Heap) (l1 l2 : Addr) : Heap := (zmH3 h l1 l2).push { cls := .type "tuple", data := .seq #[.none, .none] }
abbrev zmH5 (h : Heap) (l1 l2 : Addr) : Heap := (zmH4 h l1 l2).push { cls := .type "zip", data := .fields #[.none, .bool false, .bool false, .ref (zmH2 h l1 l2).objs.size, .ref (zmH3 h l1 l2).objs.size] }
theorem meets_zipM (l1 l2 : Addr) (us ws : Array Value) :
    Meets (Builtin.«zip.__new__» ⟨[.type "zip", .ref l1, .ref l2], []⟩) (fun _ R s => s.heap.IsTuple l1 us ∧ s.heap.IsList l2 ws ∧
      R (.ok (.ret (.ref (zmH4 s.heap l1 l2).objs.size))) { s with heap := zmH5 s.heap l1 l2 }) :=
  .of_wp fun prog w A R s h => by
    obtain ⟨hp, g, d, tk, os⟩ := s; obtain ⟨c1, c2, h⟩ := h
    have hsub := sub_zip
    have L1 : Heap.IsTuple (Shared.heap ⟨hp, g, d, tk, os⟩) l1 us := c1
    have L2 : Heap.IsList (Shared.heap ⟨hp.push { cls := .type "tuple_iterator", data := .fields #[.ref l1, .int 0 0] }, g, d, tk, os⟩) l2 ws := Heap.IsList.push c2 _
    wp_walk using wpAny_pyIter_tuple L1, wpAny_pyIter_list L2
    exact ⟨_, rfl, h⟩
section
variable {prog : Program} {w : World} {A : Around} {E : Value → Shared → Prop} {s : Shared}
theorem call_zipM {l1 l2 : Addr} {us ws : Array Value} {Q : Value → Shared → Prop} (c1 : s.heap.IsTuple l1 us) (c2 : s.heap.IsList l2 ws)
    (h : ∀ h', IsZip h' (s.heap.objs.size + 4) (s.heap.objs.size + 2) (s.heap.objs.size + 3) .none → IsPair h' (s.heap.objs.size + 2) (.ref s.heap.objs.size) (.ref (s.heap.objs.size + 1)) →
      IsPair h' (s.heap.objs.size + 3) .none .none → h'.IsTupleIter s.heap.objs.size l1 0 → h'.IsListIter (s.heap.objs.size + 1) l2 0 → h'.objs.size = s.heap.objs.size + 5 →
      (∀ c o, s.heap.get? c = some o → h'.get? c = some o) → Q (.ref (s.heap.objs.size + 4)) { s with heap := h' }) :
    wpAny (model prog w) A (call (.type "zip") [.ref l1, .ref l2]) Q E s := by
  refine callType_new PySem.F.called_zip (by decide) (PySem.F.typeCall_zip_2 _ _) (PySem.F.newCall_zip_2 _ _) (fun obj => PySem.F.args_object_init_3 obj _ _) PySem.F.entry_zip_new
    (meets_zipM l1 l2 us ws) ⟨c1, c2, ?_⟩
  have z1 : (zmH1 s.heap l1).objs.size = s.heap.objs.size + 1 := Heap.size_push ..
  have z2 : (zmH2 s.heap l1 l2).objs.size = s.heap.objs.size + 2 := by rw [Heap.size_push, z1]
  have z3 : (zmH3 s.heap l1 l2).objs.size = s.heap.objs.size + 3 := by rw [Heap.size_push, z2]
  have z4 : (zmH4 s.heap l1 l2).objs.size = s.heap.objs.size + 4 := by rw [Heap.size_push, z3]
  have z5 : (zmH5 s.heap l1 l2).objs.size = s.heap.objs.size + 5 := by rw [Heap.size_push, z4]
  have g5 : (zmH5 s.heap l1 l2).get? (zmH4 s.heap l1 l2).objs.size = some _ := Heap.get?_push_size _ rfl
  have g4 : (zmH5 s.heap l1 l2).get? (zmH3 s.heap l1 l2).objs.size = some _ := Heap.get?_push_of_some _ (Heap.get?_push_size _ rfl)
  have g3 : (zmH5 s.heap l1 l2).get? (zmH2 s.heap l1 l2).objs.size = some _ := Heap.get?_push_of_some _ (Heap.get?_push_of_some _ (Heap.get?_push_size _ rfl))
  have g2 : (zmH5 s.heap l1 l2).get? (zmH1 s.heap l1).objs.size = some _ := Heap.get?_push_of_some _ (Heap.get?_push_of_some _ (Heap.get?_push_of_some _ (Heap.get?_push_size _ rfl)))
  have g1 : (zmH5 s.heap l1 l2).get? s.heap.objs.size = some _ := Heap.get?_push_of_some _ (Heap.get?_push_of_some _ (Heap.get?_push_of_some _ (Heap.get?_push_of_some _ (Heap.get?_push_size _ rfl))))
  show _ ∧ _
  rw [z2, z3, z4] at g5
  rw [z1, z2] at g3
  rw [z3] at g4
  rw [z1] at g2
  rw [z4]
  exact ⟨⟨_, g5, rfl⟩, h _ g5 g3 g4 ⟨_, g1, rfl, rfl⟩ ⟨_, g2, rfl, rfl⟩ z5 fun c o x =>
    Heap.get?_push_of_some _ (Heap.get?_push_of_some _ (Heap.get?_push_of_some _ (Heap.get?_push_of_some _ (Heap.get?_push_of_some _ x))))⟩
end
/-- the pairs tracked at their addresses -/
def putP : Hp → List Addr → List (V × V) → Hp
  | H, a :: as, p :: ps => putP (upd H a (.tup [p.1, p.2])) as ps
  | H, _, _ => H
theorem putP_off {b : Addr} : ∀ (as : List Addr) (ps : List (V × V)) (H : Hp), b ∉ as → putP H as ps b = H b
  | [], _, _, _ => rfl
  | _ :: _, [], _, _ => rfl
  | a :: as, p :: ps, H, h => by
    show putP (upd H a (.tup [p.1, p.2])) as ps b = H b
    rw [putP_off as ps _ (fun z => h (List.mem_cons_of_mem _ z)), upd_ne (fun z => h (by rw [z]; exact List.mem_cons_self))]
theorem putP_at : ∀ (as : List Addr) (ps : List (V × V)) (H : Hp), as.Nodup → ∀ (i : Nat) (t : Addr) (p : V × V), as[i]? = some t → ps[i]? = some p → putP H as ps t = some (.tup [p.1, p.2])
  | [], _, _, _, i, t, p, h, _ => by simp at h
  | _ :: _, [], _, _, i, t, p, _, h => by simp at h
  | a :: as, q :: ps, H, hn, 0, t, p, h1, h2 => by
    obtain rfl : a = t := by simpa using h1
    obtain rfl : q = p := by simpa using h2
    show putP (upd H a (.tup [q.1, q.2])) as ps a = _
    rw [putP_off as ps _ (List.nodup_cons.mp hn).1, upd_same]
  | a :: as, q :: ps, H, hn, i + 1, t, p, h1, h2 => putP_at as ps _ (List.nodup_cons.mp hn).2 i t p (by simpa using h1) (by simpa using h2)
section
variable {X : Cx} {pins : List (Addr × Obj)} {σ : L2.St} {H : Hp} {s : Shared} {h' : Heap} {tk : Nat} {xs ys : List V} {us ws : List Value} {acc : Array Value} {c n L : Nat} {as : List Addr}
theorem pairs_laid (I : Inv X pins σ H s) (hz : n ≤ sizeLine) (rx : Vals xs us) (ry : Vals ys ws) (hk : ∀ b o, s.heap.get? b = some o → h'.get? b = some o) (hL : s.heap.objs.size ≤ L) (hS : h'.get? L = some { cls := .type "list", dict := none, data := .seq acc c, slots := #[] }) (hl : as.length = n) (hx : xs.length = n) (hy : ys.length = n)
    (hG : ZG us.toArray ws.toArray L h' as) (hacc : acc.toList = as.map Value.ref) :
    ∃ H' : Hp, Ex H H' ∧ H L = none ∧ H' L = some (.lst (as.map V.ref)) ∧ (∀ (i : Nat) (t : Addr) (x y : V), as[i]? = some t → xs[i]? = some x → ys[i]? = some y → H' t = some (.tup [x, y])) ∧ (∀ t ∈ as, H t = none) ∧ Inv X pins σ H' { s with heap := h', toks := tk } := by
  have nS : L ∉ as := fun z => Nat.lt_irrefl _ (hG.lo _ z)
  have nd : as.Nodup := List.Pairwise.imp (fun {a b} (h : a < b) => Nat.ne_of_lt h) hG.up
  have new : ∀ t ∈ as, H t = none := fun t ht => I.hok.fresh (Nat.le_of_lt (Nat.lt_of_le_of_lt hL (hG.lo t ht)))
  have newL : H L = none := I.hok.fresh hL
  have off : ∀ b, b ∉ as → b ≠ L → putP (upd H L (.lst (as.map V.ref))) as (xs.zip ys) b = H b := fun b h1 h2 => by rw [putP_off as _ _ h1, upd_ne h2]
  have low : ∀ b o, s.heap.get? b = some o → b ∉ as ∧ b ≠ L := fun b o e => ⟨fun z => absurd (Heap.lt_size e) (Nat.not_lt.mpr (Nat.le_of_lt (Nat.lt_of_le_of_lt hL (hG.lo b z)))), Nat.ne_of_lt (Nat.lt_of_lt_of_le (Heap.lt_size e) hL)⟩
  have kp : ∀ b u, H b = some u → (putP (upd H L (.lst (as.map V.ref))) as (xs.zip ys)) b = some u := fun b u e => by
    rw [off b (fun z => by rw [new b z] at e; cases e) (fun z => by rw [z, newL] at e; cases e)]
    exact e
  have eL : putP (upd H L (.lst (as.map V.ref))) as (xs.zip ys) L = some (.lst (as.map V.ref)) := by rw [putP_off as _ _ nS, upd_same]
  have at2 : ∀ (i : Nat) (t : Addr) (x y : V), as[i]? = some t → xs[i]? = some x → ys[i]? = some y → putP (upd H L (.lst (as.map V.ref))) as (xs.zip ys) t = some (.tup [x, y]) := fun i t x y e1 e2 e3 =>
    putP_at as (xs.zip ys) _ nd i t (x, y) e1 (by rw [List.getElem?_zip_eq_some]; exact ⟨e2, e3⟩)
  refine ⟨putP (upd H L (.lst (as.map V.ref))) as (xs.zip ys), kp, newL, eL, at2, new, ?_⟩
  refine I.call' (ch := []) rfl ⟨fun b o q _ _ _ => hk b o q, fun b o q _ _ _ => ⟨o.slots, hk b o q⟩, fun b o q m _ => ?_, fun b o q _ => ⟨o, hk b o q⟩, fun b v q => kp b _ q, fun b o u q => kp b _ q, fun b ps q => ⟨#[], by rw [kp b _ q]; simp⟩⟩ (fun b u q => ?_) I.bare fun b z => by simp at z
  · obtain ⟨z1, z2⟩ := low b o q
    rw [off b z1 z2]
    exact m
  · by_cases hb : b ∈ as
    · obtain ⟨j, hj⟩ := List.mem_iff_getElem?.mp hb
      have hjl : j < n := hl ▸ (List.getElem?_eq_some_iff.mp hj).1
      obtain ⟨x, y, f1, f2, f3⟩ := hG.pr j b hj
      have ex : xs[j]? = some xs[j] := List.getElem?_eq_getElem (by omega)
      have ey : ys[j]? = some ys[j] := List.getElem?_eq_getElem (by omega)
      rw [at2 j b _ _ hj ex ey] at q
      cases q
      obtain ⟨u1, g1, r1⟩ := rx.get ex
      obtain ⟨u2, g2, r2⟩ := ry.get ey
      rw [List.getElem?_toArray, g1] at f1
      rw [List.getElem?_toArray, g2] at f2
      cases f1
      cases f2
      exact ⟨by show 2 ≤ sizeLine; decide, [_, _], .cons r1 (.cons r2 .nil), ⟨_, f3, rfl, _, rfl⟩⟩
    · by_cases hb2 : b = L
      · rw [hb2] at q ⊢
        rw [eL] at q
        cases q
        refine ⟨by rw [List.length_map]; omega, acc.toList, c, by rw [hacc]; exact LiI.vals_refs as, ?_⟩
        rw [Array.toArray_toList]
        exact hS
      · rw [off b hb hb2] at q
        exact (I.hok b u q).stay (fun d v _ y => hk d v y) (fun d y => kp d _ y) fun d v y => kp d _ y
end
def rListZip (K : PySem.W.Frag) : List V → Hp → VK → Prop := fun vs H Q => ∃ (a b : Addr) (xs ys : List V), vs = [.ref a, .ref b] ∧ SqT K H a xs ∧ SqL K H b ys ∧ xs.length = ys.length ∧ 0 < xs.length ∧
  ∀ (H' : Hp) (p : Addr) (ts : List Addr), Ex H H' → H p = none → H' p = some (.lst (ts.map V.ref)) → ts.length = xs.length → (∀ (i : Nat) (t : Addr) (x y : V), ts[i]? = some t → xs[i]? = some x → ys[i]? = some y → H' t = some (.tup [x, y])) → Q (.ref p) H'
section
variable {X : Cx} {e e2 : Expr} {ta : TA} {pl p pos pos2 : Pos}
/-- list(zip(e, e2)) -/
theorem pe_listZip (hc : X.calm = true) (hg : Gl X "list") (hm : X.mg "list" = none) (hv : bootBuiltins "list" = some (.type "list")) (hgz : Gl X "zip") (hmz : X.mg "zip" = none) (ha : PA X [e, e2] ta)
    (hs : starEach [e, e2] X.env = (false, eval e X.env) :: starEach [e2] X.env := by rfl) (hpl : (backTo pos2 (starEach [e2] X.env)).any (·.1) = false := by rfl)
    (hs1 : starEach [.Call (.Name "zip" p) [e, e2] [] pos2] X.env = (false, eval (.Call (.Name "zip" p) [e, e2] [] pos2) X.env) :: starEach [] X.env := by rfl) :
    PE X (.Call (.Name "list" pl) [.Call (.Name "zip" p) [e, e2] [] pos2] [] pos) (fun σ H Q => ta σ H fun vs H1 => rListZip X.K vs H1 Q) := by
  refine ⟨fun pins s σ H Q I h => ?_⟩
  refine wpAny_Call_Name_kw (ld_blt I hg hm hv ?_)
  refine PyProof.Rows.callWith_type1 ?_ hs1 rfl
  rw [hs1]
  show wpAny _ _ (spliced ((false, eval (.Call (.Name "zip" p) [e, e2] [] pos2) X.env) :: backTo pos (starEach [] X.env))) _ _ s
  refine Calls.spliced_cons ?_
  refine Call_ (ld_blt I hgz hmz PyProof.Rows.boot_zip (PyProof.Rows.callWith_type1 (thn (ha.run pos2 pins s σ H _ I h) fun us s1 ⟨vs, H1, I1, r1, q1⟩ => ?_) hs hpl))
  obtain ⟨a, b, xs, ys, rfl, hx, hy, hl, h0, q⟩ := q1
  obtain ⟨u1, u2, rfl, ra, rb⟩ := vals2 r1
  cases (show u1 = Value.ref a from ra)
  cases (show u2 = Value.ref b from rb)
  obtain ⟨ux, rx, px, hzx⟩ := I1.tuple hx
  obtain ⟨wy, ry, py, hzy⟩ := I1.list hy
  refine call_zipM px py.isList fun g hz pI pO t1 t2 sz kp => ?_
  refine Calls.spliced_nil ?_
  have la : a < s1.heap.objs.size := let ⟨_, e, _⟩ := px; Heap.lt_size e
  have lb : b < s1.heap.objs.size := let ⟨_, e, _⟩ := py.isList; Heap.lt_size e
  have nx : xs.length = ux.length := rx.length
  have ny : ys.length = wy.length := ry.length
  refine zl_call (n := xs.length) (us := ux.toArray) (ws := wy.toArray) (I1.ok.hd hc) (PySem.W.ktu_apart s1.heap.objs.size a b la lb) ⟨Nat.ne_of_lt (Nat.lt_trans la (by omega)), Nat.ne_of_lt (Nat.lt_trans lb (by omega))⟩ hzx h0 (by simpa using nx.symm) (by simpa using (hl.trans ny).symm) hz pI pO t1 t2 (let ⟨o, ho, r⟩ := px; ⟨o, kp _ o ho, r⟩) (let ⟨o, ho, r⟩ := py.isList; ⟨o, kp _ o ho, r⟩) fun h' tk acc c as hk hS hal hG hacc => ?_
  have hk2 : ∀ b o, s1.heap.get? b = some o → h'.get? b = some o := fun b o eb => by
    have hb := Heap.lt_size eb
    exact hk b o (Nat.ne_of_lt (Nat.lt_of_lt_of_le hb (Nat.le_add_right _ _))) (Nat.ne_of_lt (Nat.lt_of_lt_of_le hb (Nat.le_add_right _ _))) (Nat.ne_of_lt hb) (Nat.ne_of_lt (Nat.lt_of_lt_of_le hb (Nat.le_add_right _ _))) (kp b o eb)
  obtain ⟨H', k1, k2, k3, k4, k5, J⟩ := pairs_laid (tk := tk) I1 hzx rx ry hk2 (by show s1.heap.objs.size ≤ g.objs.size; omega) hS hal rfl hl.symm hG hacc
  exact ⟨.ref _, H', J, rfl, q H' _ as k1 k2 k3 hal k4⟩
end
end ZL
namespace K12
open PySem PySem.Spec PyProof.Rows L2 LG Evl
/-- te tells a value of which P holds -/
def EvP (te : TE) (σ : L2.St) (H : Hp) (P : V → Hp → Prop) : Prop := ∀ H1, Ex H H1 → ∀ Q : VK, (∀ v H2, Ex H1 H2 → P v H2 → Q v H2) → te σ H1 Q
mutual
theorem dp_up {K : PySem.W.Frag} {H H' : Hp} (e : Ex H H') : ∀ (d : PyData) (v : V), Dp K H v d → Dp K H' v d
  | .none, _, h => by cases h; exact .non
  | .bool _, _, h => by cases h; exact .bl _
  | .int _, _, h => by cases h; exact .int _
  | .str _, _, h => by cases h; exact .str _
  | .list ds, _, h => by
    cases h with
    | lst hs ha => exact .lst (ex_l e hs) (dp_upAll e ds _ ha)
  | .tuple ds, _, h => by
    cases h with
    | tup hs ha => exact .tup (ex_t e hs) (dp_upAll e ds _ ha)
  | .dict _, _, h => by cases h
theorem dp_upAll {K : PySem.W.Frag} {H H' : Hp} (e : Ex H H') : ∀ (ds : List PyData) (vs : List V), DpAll K H vs ds → DpAll K H' vs ds
  | [], _, h => by cases h; exact .nil
  | d :: ds, _, h => by
    cases h with
    | cons h1 h2 => exact .cons (dp_up e d _ h1) (dp_upAll e ds _ h2)
end
section
variable {K : PySem.W.Frag} {σ : L2.St} {H : Hp} {te ta tb : TE} {d d1 d2 : PyData}
def DpP (K : PySem.W.Frag) (d : PyData) (v : V) (H : Hp) : Prop := Dp K H v d
theorem ep_ev {v : V} {P : V → Hp → Prop} (h : Ev te σ H v) (p : ∀ H1, Ex H H1 → P v H1) : EvP te σ H P := fun H1 e Q q => h H1 e _ fun H2 e2 => q v H2 e2 (p H2 (e.trans e2))
theorem ep_lst2 (ha : EvP ta σ H (DpP K d1)) (hb : EvP tb σ H (DpP K d2)) : EvP (tLst (tCons ta (tCons tb tNil))) σ H (DpP K (.list [d1, d2])) := fun H1 e Q q =>
  ha H1 e _ fun x H2 e2 p => hb H2 (e.trans e2) _ fun y H3 e3 p2 => ⟨(by show 2 ≤ sizeLine; decide), fun l hl => q _ _ ((e2.trans e3).trans (Ex.new hl)) (.lst (sq_of upd_same) (.cons (dp_up (e3.trans (Ex.new hl)) _ _ p) (.cons (dp_up (Ex.new hl) _ _ p2) .nil)))⟩
/-- repr of such data -/
theorem ev_reprP (h : EvP te σ H (DpP K d)) (hs : Shows d) : Ev (tCB (rReprZ K) (tCons te tNil)) σ H (.str d.shown) := fun H1 e Q q => h H1 e _ fun v H2 e2 p => ⟨v, d, rfl, .inr (.inl p), hs, q H2 e2⟩
theorem ev_reprV {v : V} (h : Ev te σ H v) (hd : Dp K H v d) (hs : Shows d) : Ev (tCB (rReprZ K) (tCons te tNil)) σ H (.str d.shown) := ev_reprP (ep_ev h fun H1 e => dp_up e _ _ hd) hs
theorem et_neF {x : V} (ha : Ev ta σ H x) (hb : Ev tb σ H x) (hs : scal x x = true) : EvT (tTest (tOp rNe ta tb)) σ H false := et_is (et_test (ev_op ha hb (rv_ne hs))) (by rw [decide_eq_true rfl]; rfl)
theorem ev_eqT {x : V} (ha : Ev ta σ H x) (hb : Ev tb σ H x) (hs : scal x x = true) : Ev (tOp rEq ta tb) σ H (.bl true) := ev_is (ev_op ha hb (rv_eq hs)) (by rw [decide_eq_true rfl])
end
theorem name_sm : ∀ n ∈ TM.names, Sm 0 240 (.str n) := fun n hn => sm_str ((by decide +kernel : ∀ n ∈ TM.names, (n.cps.toList.all fun c => decide (c < 16 ^ 8)) = true) n hn) ((by decide +kernel : ∀ n ∈ TM.names, n.cps.size ≤ 240) n hn)
theorem names_sm {xs : List Str} (h : ∀ n ∈ xs, n ∈ TM.names) (hl : xs.length ≤ 8) : Sm 1 (8 * 241) (.list (xs.map .str)) := sm_list (k := 0) (n := 240) (m := 8) (fun d hd => by
  obtain ⟨n, hn, rfl⟩ := List.mem_map.mp hd
  exact name_sm n (h n hn)) (by simpa using hl)
theorem dp_strs {K : PySem.W.Frag} {H : Hp} : ∀ xs : List Str, DpAll K H (xs.map V.str) (xs.map PyData.str)
  | [] => .nil
  | x :: xs => .cons (.str x) (dp_strs xs)
/-- what the law's own tree is called -/
def word : TM.Tree → Str
  | .place _ => "place"
  | .endd _ => "end"
  | .lesser _ => "lesser"
  | .greater _ => "greater"
def words : List Str := ["place", "end", "lesser", "greater"]
theorem md_word {S : Addr → Prop} {H : Hp} {v : V} {t : TM.Tree} (h : TM.MdAt S H v t) : ∃ x y, v = .ref x ∧ H x = some (.tup [.str (word t), y]) := by
  cases h with
  | place _ h => exact ⟨_, _, rfl, h⟩
  | endd _ h => exact ⟨_, _, rfl, h⟩
  | lesser _ h _ _ _ _ => exact ⟨_, _, rfl, h⟩
  | greater _ h _ _ _ _ => exact ⟨_, _, rfl, h⟩
def kindB (t : TM.Tree) : List Bool := words.map fun w => decide (V.str (word t) = V.str w)
section
variable {P : Program} {w : World} {K : PySem.W.Frag} {mg : Str → Option Value} {base : Heap} {a : At}
/-- the class of a term, beside the four -/
theorem tm_kinds {H : Hp} {v : V} {t : TM.Tree} (T : Txt K mg a) (h : TM.TmAt (csOf a) H v t) : ∃ C, (∀ H1, Ex H H1 → TyX K H1 v (.ref C)) ∧ PySem.W.kitOne K (.ref C) (.ref a.k_Place) = some (decide (V.str (word t) = V.str "place")) ∧ PySem.W.kitOne K (.ref C) (.ref a.k_End) = some (decide (V.str (word t) = V.str "end")) ∧
    PySem.W.kitOne K (.ref C) (.ref a.k_Lesser) = some (decide (V.str (word t) = V.str "lesser")) ∧ PySem.W.kitOne K (.ref C) (.ref a.k_Greater) = some (decide (V.str (word t) = V.str "greater")) := by
  cases h with
  | place h =>
    refine ⟨_, fun H1 e => ty_ins T T.g_Place (e _ _ h), ?_⟩
    rw [kit_of T.g_Place T.x_Place_Place T.x_Place_Place, kit_of T.g_End T.x_Place_End T.x_End_End, kit_of T.g_Lesser T.x_Place_Lesser T.x_Lesser_Lesser, kit_of T.g_Greater T.x_Place_Greater T.x_Greater_Greater]
    exact (by decide +kernel : some true = some (decide (V.str ("place" : Str) = V.str "place")) ∧ some false = some (decide (V.str ("place" : Str) = V.str "end")) ∧ some false = some (decide (V.str ("place" : Str) = V.str "lesser")) ∧ some false = some (decide (V.str ("place" : Str) = V.str "greater")))
  | endd h =>
    refine ⟨_, fun H1 e => ty_ins T T.g_End (e _ _ h), ?_⟩
    rw [kit_of T.g_Place T.x_End_Place T.x_Place_Place, kit_of T.g_End T.x_End_End T.x_End_End, kit_of T.g_Lesser T.x_End_Lesser T.x_Lesser_Lesser, kit_of T.g_Greater T.x_End_Greater T.x_Greater_Greater]
    exact (by decide +kernel : some false = some (decide (V.str ("end" : Str) = V.str "place")) ∧ some true = some (decide (V.str ("end" : Str) = V.str "end")) ∧ some false = some (decide (V.str ("end" : Str) = V.str "lesser")) ∧ some false = some (decide (V.str ("end" : Str) = V.str "greater")))
  | lesser h _ _ _ =>
    refine ⟨_, fun H1 e => ty_ins T T.g_Lesser (e _ _ h), ?_⟩
    rw [kit_of T.g_Place T.x_Lesser_Place T.x_Place_Place, kit_of T.g_End T.x_Lesser_End T.x_End_End, kit_of T.g_Lesser T.x_Lesser_Lesser T.x_Lesser_Lesser, kit_of T.g_Greater T.x_Lesser_Greater T.x_Greater_Greater]
    exact (by decide +kernel : some false = some (decide (V.str ("lesser" : Str) = V.str "place")) ∧ some false = some (decide (V.str ("lesser" : Str) = V.str "end")) ∧ some true = some (decide (V.str ("lesser" : Str) = V.str "lesser")) ∧ some false = some (decide (V.str ("lesser" : Str) = V.str "greater")))
  | greater h _ _ _ =>
    refine ⟨_, fun H1 e => ty_ins T T.g_Greater (e _ _ h), ?_⟩
    rw [kit_of T.g_Place T.x_Greater_Place T.x_Place_Place, kit_of T.g_End T.x_Greater_End T.x_End_End, kit_of T.g_Lesser T.x_Greater_Lesser T.x_Lesser_Lesser, kit_of T.g_Greater T.x_Greater_Greater T.x_Greater_Greater]
    exact (by decide +kernel : some false = some (decide (V.str ("greater" : Str) = V.str "place")) ∧ some false = some (decide (V.str ("greater" : Str) = V.str "end")) ∧ some false = some (decide (V.str ("greater" : Str) = V.str "lesser")) ∧ some true = some (decide (V.str ("greater" : Str) = V.str "greater")))
theorem ev_isK {te : TE} {σ : L2.St} {H : Hp} {v : V} {C : Value} {D : Addr} {b : Bool} (hx : Ev te σ H v) (ty : ∀ H1, Ex H H1 → TyX K H1 v C) (hk : PySem.W.kitOne K C (.ref D) = some b) : Ev (tCB (rIsi K) (tCons te (tCons (tC (.ref D)) tNil))) σ H (.bl b) :=
  ev_cb (ea_cons hx (ea_cons ev_c ea_nil)) fun H1 e Q q => ⟨v, .ref D, _, _, _, rfl, .own _, ty H1 e, hk, q H1 (Ex.refl H1)⟩
/-- made.places() -/
theorem ep_places {E : XK} {to : TE} {σ : L2.St} {H : Hp} {v : V} {t : TM.Tree} {xs : List Str} (h : Ev to σ H v) (ht : TM.TmAt (csOf a) H v t) (ok : TM.Ok t) (hd : t.depth ≤ 3) (hs : TM.Spots xs t) : EvP (tMethA (IsT a) "places" (sp_Term_places a) E to tNil) σ H (DpP K (.list (xs.map .str))) := fun H1 e Q q => h H1 e _ fun H2 e2 => by
  obtain ⟨x, C, dx, fs, rfl, hx, g, _, l2⟩ := tm_met (ht.up (e.trans e2))
  refine ⟨x, C, dx, fs, rfl, hx, g, l2, _, t, rfl, ht.up (e.trans e2), ok, hd, fun p ys H3 hp e3 hss h3 => ?_⟩
  obtain rfl := TM.Spots.unique ok hss hs
  exact q _ H3 (e2.trans e3) (.lst (sq_of h3) (dp_strs ys))
/-- made.depth -/
theorem ev_depth {to : TE} {σ : L2.St} {H : Hp} {v : V} {t : TM.Tree} (h : Ev to σ H v) (ht : TM.TmAt (csOf a) H v t) : Ev (tGetA (gDepth a) to) σ H (.int ((t.depth : Nat) : Int)) := by
  obtain ⟨x, C, dx, fs, rfl, hx, g, hv⟩ := tm_depth ht
  exact ev_getA h hx g hv
/-- isinstance(made, Term) -/
theorem ev_isTerm {te : TE} {σ : L2.St} {H : Hp} {v : V} {t : TM.Tree} (T : Txt K mg a) (h : Ev te σ H v) (ht : TM.TmAt (csOf a) H v t) : Ev (tCB (rIsi K) (tCons te (tCons (tC (.ref a.k_Term)) tNil))) σ H (.bl true) := fun H1 e Q q => h H1 e _ fun H2 e2 => by
  obtain ⟨C, ty, kt⟩ := tm_ty T (ht.up (e.trans e2))
  exact ⟨v, .ref _, _, _, _, rfl, .own _, ty, kt, q H2 e2⟩
end
section
variable {K : PySem.W.Frag} {σ : L2.St} {H : Hp} {tl te : TE} {j k : Nat} {vs : List Nat}
/-- [e for j in a new list], e told by its items -/
theorem el_lmapN {xs ys : List V} (h : EvL tl σ H xs) (hz : xs.length ≤ 40000) (hl : xs.length = ys.length) (hw : ∀ x, wipe ((wipe σ vs).set j (some x)) vs = wipe σ vs)
    (he : ∀ (i : Nat) (x y : V) H1, Ex H H1 → xs[i]? = some x → ys[i]? = some y → Ev te ((wipe σ vs).set j (some x)) H1 y) : EvL (tLc (iList K tl) (gName j) tYes te vs) σ H ys := fun H1 e Q q =>
  h H1 e _ fun p H2 hp e2 h2 => el_lmap (K := K) (tl := tC (.ref p)) (H := H2) (ys := ys) ev_c (sq_of h2) hz hl hw (fun i x y H3 e3 => he i x y H3 ((e.trans e2).trans e3)) H2 (Ex.refl _) Q fun r H3 hr e3 h3 => q r H3 (fresh_back e2 hr) (e2.trans e3) h3
/-- [e for j, k in a list of pairs] -/
theorem el_lpair {l : Addr} {ts : List Addr} {xs ys zs : List V} (h : Ev tl σ H (.ref l)) (hq : H l = some (.lst (ts.map V.ref))) (ht : ∀ (i : Nat) (t : Addr) (x y : V), ts[i]? = some t → xs[i]? = some x → ys[i]? = some y → H t = some (.tup [x, y])) (h1 : ts.length = xs.length) (h2 : xs.length = ys.length) (h3 : xs.length = zs.length) (hz : xs.length ≤ 40000)
    (hw : ∀ x y, wipe (((wipe σ vs).set j (some x)).set k (some y)) vs = wipe σ vs) (he : ∀ (i : Nat) (x y z : V) H1, Ex H H1 → xs[i]? = some x → ys[i]? = some y → zs[i]? = some z → Ev te (((wipe σ vs).set j (some x)).set k (some y)) H1 z) :
    EvL (tLc (iList K tl) (gTup K 2 (gCons (gName j) (gCons (gName k) gNil))) tYes te vs) σ H zs := fun H1 e Q q => h H1 e _ fun H2 e2 => by
  have e02 := e.trans e2
  refine ⟨l, rfl, ⟨_, sq_of (e02 _ _ hq)⟩, fun D hD => ?_⟩
  have gz := given_map zs
  refine lc_list (K := K) (a := l) (xs := ts.map V.ref) (Cw H2 (fun _ => true) (fun i => zs.getD i .non) D) ⟨hD, Ex.new hD, upd_same⟩ (fun n H3 _ p => sq_of (p.2.1 _ _ (e02 _ _ hq))) (fun n x H3 hx p => ?_) fun H3 p => ?_
  · rw [List.getElem?_map] at hx
    obtain ⟨t, hti, rfl⟩ := Option.map_eq_some_iff.mp hx
    have hn : n < xs.length := h1 ▸ (List.getElem?_eq_some_iff.mp hti).1
    have hxi : xs[n]? = some xs[n] := List.getElem?_eq_getElem hn
    have hyi : ys[n]? = some ys[n] := List.getElem?_eq_getElem (h2 ▸ hn)
    have hzi : zs[n]? = some zs[n] := List.getElem?_eq_getElem (h3 ▸ hn)
    have tt := p.2.1 _ _ (e02 _ _ (ht n t _ _ hti hxi hyi))
    refine ⟨t, _, rfl, st_of tt, rfl, _, _, rfl, _, _, rfl, rfl, ⟨hw _ _, ?_⟩⟩
    refine cw_turn p (by omega) (fun H4 e4 _ q => q H4 (Ex.refl H4)) fun _ => ?_
    have ez : zs.getD n .non = zs[n] := by rw [List.getD_eq_getElem?_getD, hzi]; rfl
    rw [ez]
    exact he n _ _ _ H2 e02 hxi hyi hzi
  · rw [List.length_map, h1, h3] at p
    have z := p.2.2
    rw [gz] at z
    exact q D H3 (fresh_back e2 hD) (e2.trans p.2.1) z
end
end K12
namespace K12
open PySem PySem.Spec PyProof.Rows L2 LG Evl
theorem ix_tupK {X : Cx} {K : PySem.W.Frag} (hK : X.K = K) : IxR X (rIxT K) := by
  subst hK
  exact ix_tup
theorem q_asgA {r : List V → Hp → VK → Prop} {ta : TA} {vs : List V} {i : Nat} {tz : TS} {D : Ends} {σ : L2.St} {H : Hp} (h : EvA ta σ H vs) (k : ∀ H1, Ex H H1 → r vs H1 fun v H2 => tz D (σ.set i (some v)) H2) : tSeq (tAsg (fun σ H Q => ta σ H fun vs H1 => r vs H1 Q) (gName i)) tz D σ H := h H (Ex.refl H) _ k
section
variable {P : Program} {w : World} {K : PySem.W.Frag} {mg : Str → Option Value} {base : Heap} {a : At}
/-! ### the package's term is as the model has it -/
def sp__law_is_shaped (a : At) (n : Nat) : Sp := fun vs H Q _ => ∃ (S : Addr → Prop) (m v : V) (t : TM.Tree), vs = [m, v] ∧ TM.TmAt (csOf a) H m t ∧ TM.MdAt S H v t ∧ TM.Ok t ∧ t.depth ≤ 3 ∧ t.depth < n ∧ ∀ H', Ex H H' → Q (.bl true) H'
theorem ok__law_is_shaped (T : Txt K mg a) : ∀ n, Fn P w K mg base (n + 9) a._law_is_shaped (sp__law_is_shaped a n) := by
  intro n
  induction n with
  | zero =>
    refine T.d__law_is_shaped.fn sc__law_is_shaped (fun _ _ _ _ _ _ us hl => match us, hl with | [_, _], _ => rfl) (fun vs H Q E h => ?_) (fun cdv A outer s H vs Q E hg hr h => ?_)
    · obtain ⟨_, _, _, _, rfl, _⟩ := h
      rfl
    · obtain ⟨_, _, _, t, _, _, _, _, _, hd, _⟩ := h
      exact absurd hd (Nat.not_lt_zero _)
  | succ n ih =>
    have G__law_is_shaped := ih
    have G__law_depth := ok__law_depth (P := P) (w := w) (base := base) T 4
    have G__law_spots := ok__law_spots (P := P) (w := w) (base := base) T 4
    have G_places := fn_Term_places (P := P) (w := w) (base := base) T
    refine T.d__law_is_shaped.fn sc__law_is_shaped (fun _ _ _ _ _ _ us hl => match us, hl with | [_, _], _ => rfl) (fun vs H Q E h => ?_) (fun cdv A outer s H vs Q E hg hr h => ?_)
    · obtain ⟨_, _, _, _, rfl, _⟩ := h
      rfl
    · obtain ⟨S, m, v, t, rfl, tm, md, ok, hd3, hd, q⟩ := h
      have nd := sc__law_is_shaped.nd
      have hu : (A.deeper _).units + 64 < cLine := hr.units
      have hr2 := hr.mono (j := 2) (by omega)
      have hr8 := hr.mono (j := 8) (by omega)
      refine ⟨_, (pss_cons (ps_if (pt_not (pt_val (pe_callB call_isi (by rfl) T.z_isinstance (by decide +kernel) (pa_cons (pv 0) (pa_cons (pe_glob (v := .ref a.k_Term) (by rfl) T.g_Term.m rfl) pa_nil))))) (pss_one (ps_ret pe_bl)) pss_nil)
    (pss_cons (ps_set (i := 2) nd rfl (.inl rfl) (pe_lst (pa_cons (pe_fn G__law_depth hg (hr.mono (by omega)) T.d__law_depth.kp T.d__law_depth.m (by rfl) passL (pa_cons (pv 1) pa_nil)) (pa_cons (pe_fn G__law_spots hg (hr.mono (by omega)) T.d__law_spots.kp T.d__law_spots.m (by rfl) passL (pa_cons (pv 1) pa_nil)) pa_nil))))
    (pss_cons (ps_if (pt_cmpR op_ne (pe_callB (call_reprZ hg hu) (by rfl) T.z_repr (by decide +kernel) (pa_cons (pe_lst (pa_cons (pe_getA (G := gDepth a) (CX := CX0) (pv 0) (g_depth T) hr2 pass0 rfl) (pa_cons (pe_methA0 (G := IsT a) (pv 0) (g_places T) G_places hg hr8 passL) pa_nil))) pa_nil)) (pe_callB (call_reprZ hg hu) (by rfl) T.z_repr (by decide +kernel) (pa_cons (pv 2) pa_nil)) (nomark _)) (pss_one (ps_ret pe_bl)) pss_nil)
    (pss_cons (ps_set (i := 3) nd rfl (.inl rfl) (pe_lst (pa_cons (pe_callB call_isi (by rfl) T.z_isinstance (by decide +kernel) (pa_cons (pv 0) (pa_cons (pe_glob (v := .ref a.k_Place) (by rfl) T.g_Place.m rfl) pa_nil))) (pa_cons (pe_callB call_isi (by rfl) T.z_isinstance (by decide +kernel) (pa_cons (pv 0) (pa_cons (pe_glob (v := .ref a.k_End) (by rfl) T.g_End.m rfl) pa_nil))) pa_nil))))
    (pss_cons (ps_set (i := 3) nd rfl (.inl rfl) (pe_op op_cat (pv 3) (pe_lst (pa_cons (pe_callB call_isi (by rfl) T.z_isinstance (by decide +kernel) (pa_cons (pv 0) (pa_cons (pe_glob (v := .ref a.k_Lesser) (by rfl) T.g_Lesser.m rfl) pa_nil))) (pa_cons (pe_callB call_isi (by rfl) T.z_isinstance (by decide +kernel) (pa_cons (pv 0) (pa_cons (pe_glob (v := .ref a.k_Greater) (by rfl) T.g_Greater.m rfl) pa_nil))) pa_nil)))))
    (pss_cons (ps_if (pt_cmpR (op_neP hu) (pv 3) (pe_lc rfl (own := [("word", 5)]) (g := gName 5) (by exact nd) (pi_list (pe_lst (pa_cons pe_str (pa_cons pe_str (pa_cons pe_str (pa_cons pe_str pa_nil)))))) (blkOk_by (own := [("word", 5)]) (N := ["made", "term", "due", "kinds", "pairs", "word", "one", "part"]) (sc := defScope s__law_is_shaped) (by decide +kernel)) (fun _ _ _ _ _ => (pg_name (i := 5) nd rfl (.inl rfl))) (fun _ _ _ _ _ => pts_nil) (fun _ _ _ _ _ => (pe_cmpR op_eq (pe_ix (ix_tupK (K := K) rfl) (pv 1) pe_int (fun _ _ => rfl)) (pv 5) (nomark _)))) (nomark _)) (pss_one (ps_ret pe_bl)) pss_nil)
    (pss_cons (ps_if (pt_cmpR op_eq (pe_ix ix_tup (pv 1) pe_int (fun _ _ => rfl)) pe_str (nomark _)) (pss_one (ps_ret (pe_cmpR op_eq (pe_callB (call_reprZ hg hu) (by rfl) T.z_repr (by decide +kernel) (pa_cons (pe_getA (G := gNm a) (CX := CX0) (pv 0) (g_nm T) hr2 pass0 rfl) pa_nil)) (pe_callB (call_reprZ hg hu) (by rfl) T.z_repr (by decide +kernel) (pa_cons (pe_ix ix_tup (pv 1) pe_int (fun _ _ => rfl)) pa_nil)) (nomark _)))) pss_nil)
    (pss_cons (ps_if (pt_cmpR op_eq (pe_ix ix_tup (pv 1) pe_int (fun _ _ => rfl)) pe_str (nomark _)) (pss_one (ps_ret (pe_cmpR op_eq (pe_callB (call_reprZ hg hu) (by rfl) T.z_repr (by decide +kernel) (pa_cons (pe_getA (G := gEnd a) (CX := CX0) (pv 0) (g_end T) hr2 pass0 rfl) pa_nil)) (pe_callB (call_reprZ hg hu) (by rfl) T.z_repr (by decide +kernel) (pa_cons (pe_ix ix_tup (pv 1) pe_int (fun _ _ => rfl)) pa_nil)) (nomark _)))) pss_nil)
    (pss_cons (ps_if (PW.pt (pw_or (pt_not (pt_val (pe_callB call_isi (by rfl) T.z_isinstance (by decide +kernel) (pa_cons (pe_getA (G := gParts a) (CX := CX0) (pv 0) (g_parts T) hr2 pass0 rfl) (pa_cons (pe_ty "tuple" (by rfl) T.z_tuple (by decide +kernel)) pa_nil))))) (pw_or1 (pt_cmpR op_ne (pe_callB (cr_lenK rfl) (by rfl) T.z_len (by decide +kernel) (pa_cons (pe_getA (G := gParts a) (CX := CX0) (pv 0) (g_parts T) hr2 pass0 rfl) pa_nil)) (pe_callB (cr_lenK rfl) (by rfl) T.z_len (by decide +kernel) (pa_cons (pe_ix ix_tup (pv 1) pe_int (fun _ _ => rfl)) pa_nil)) (nomark _))))) (pss_one (ps_ret pe_bl)) pss_nil)
    (pss_cons (ps_set (i := 4) nd rfl (.inl rfl) (ZL.pe_listZip rfl (by rfl) T.z_list (by decide +kernel) (by rfl) T.z_zip (pa_cons (pe_getA (G := gParts a) (CX := CX0) (pv 0) (g_parts T) hr2 pass0 rfl) (pa_cons (pe_ix ix_tup (pv 1) pe_int (fun _ _ => rfl)) pa_nil))))
    (pss_one (ps_ret (pe_callB (cr_all rfl) (by rfl) T.z_all (by decide +kernel) (pa_cons (pe_lc rfl (own := [("one", 6), ("part", 7)]) (g := gTup K 2 (gCons (gName 6) (gCons (gName 7) gNil))) (by exact nd) (pi_list (pv 4)) (blkOk_by (own := [("one", 6), ("part", 7)]) (N := ["made", "term", "due", "kinds", "pairs", "word", "one", "part"]) (sc := defScope s__law_is_shaped) (by decide +kernel)) (fun _ _ _ _ _ => (pg_tup (by rfl) (pgs_cons (pg_name (i := 6) nd rfl (.inl rfl)) (pgs_cons (pg_name (i := 7) nd rfl (.inl rfl)) pgs_nil)))) (fun _ _ _ _ _ => pts_nil) (fun _ _ _ _ _ => (pe_fn G__law_is_shaped hg (hr.mono (by omega)) T.d__law_is_shaped.kp T.d__law_is_shaped.m (by rfl) passL (pa_cons (pv 6) (pa_cons (pv 7) pa_nil))))) pa_nil)))))))))))))), ?_⟩
      obtain ⟨C, ty, k1, k2, k3, k4⟩ := tm_kinds T tm
      obtain ⟨x, y, rfl, hx⟩ := md_word md
      refine q_when (b := false) (et_is (et_not (et_test (ev_isTerm T (ev_var rfl) tm))) rfl) (fun z => nomatch z) fun _ H1 e1 => ?_
      refine ⟨.ref x, rfl, S, _, t, rfl, md.ex e1, ok, by omega, fun H2 e2 => ⟨.ref x, rfl, S, _, t, rfl, md.ex (e1.trans e2), ok, by omega, fun p xs H3 hp e3 hss h3 => ⟨(by show 2 ≤ sizeLine; decide), fun l hl => ?_⟩⟩⟩
      have e04 : Ex H (upd H3 l (.lst [.int ((t.depth : Nat) : Int), .ref p])) := ((e1.trans e2).trans e3).trans (Ex.new hl)
      have l4 : (upd H3 l (.lst [.int ((t.depth : Nat) : Int), .ref p])) l = some (.lst [.int ((t.depth : Nat) : Int), .ref p]) := upd_same
      have p4 : (upd H3 l (.lst [.int ((t.depth : Nat) : Int), .ref p])) p = some (.lst (xs.map V.str)) := (Ex.new hl) _ _ h3
      generalize upd H3 l (.lst [.int ((t.depth : Nat) : Int), .ref p]) = H4 at *
      have sh : Shows (.list [.int ((t.depth : Nat) : Int), .list (xs.map .str)]) := by
        refine (sm_list (ds := [.int ((t.depth : Nat) : Int), .list (xs.map .str)]) (k := 1) (n := 8 * 241) (m := 2) (fun z hz => ?_) (Nat.le_refl 2)).shows (by decide) (by decide)
        simp only [List.mem_cons, List.not_mem_nil, or_false] at hz
        rcases hz with rfl | rfl
        · exact (sm_int (by omega)).mono (by decide) (by decide)
        · exact names_sm (fun n hn => ok.names n ((hss.mem n).mp hn)) (hss.len ok)
      refine q_when (b := false) (et_neF (x := .str (PyData.list [.int ((t.depth : Nat) : Int), .list (xs.map .str)]).shown) (ev_reprP (ep_lst2 (ep_ev (ev_depth (ev_var rfl) (tm.up e04)) fun _ _ => .int _) (ep_places (ev_var rfl) (tm.up e04) ok hd3 hss)) sh) (ev_reprV (ev_var rfl) (.lst (sq_of l4) (.cons (.int _) (.cons (.lst (sq_of p4) (dp_strs xs)) .nil))) sh) rfl) (fun z => nomatch z) fun _ H5 e5 => ?_
      have e05 := e04.trans e5
      refine q_asgL (el_lst (ea_cons (ev_isK (ev_var rfl) (fun H1 e => ty H1 (e05.trans e)) k1) (ea_cons (ev_isK (ev_var rfl) (fun H1 e => ty H1 (e05.trans e)) k2) ea_nil)) (by show 2 ≤ 100000; decide)) fun l6 H6 hl6 e6 h6 => ?_
      have e06 := e05.trans e6
      refine q_asgL (el_cat (of_ev (ev_var rfl) h6) (el_lst (ea_cons (ev_isK (ev_var rfl) (fun H1 e => ty H1 (e06.trans e)) k3) (ea_cons (ev_isK (ev_var rfl) (fun H1 e => ty H1 (e06.trans e)) k4) ea_nil)) (by show 2 ≤ 100000; decide)) (by show 4 ≤ 100000; decide)) fun l7 H7 hl7 e7 h7 => ?_
      have e07 := e06.trans e7
      have h7' : H7 l7 = some (.lst ((kindB t).map V.bl)) := h7
      clear h7
      refine q_when (b := false) (et_is (a := !PyData.eqv (.list ((kindB t).map .bool)) (.list ((kindB t).map .bool))) (et_test (ev_opL (ev_var rfl) (el_lmapN (xs := words.map V.str) (ys := (kindB t).map V.bl) (el_lst (ea_cons ev_c (ea_cons ev_c (ea_cons ev_c (ea_cons ev_c ea_nil)))) (by show 4 ≤ 100000; decide)) (by show 4 ≤ 40000; decide) rfl (fun _ => rfl) fun i u z H8 e8 hu2 hz => ?_) fun p8 H8 h8 e8 => ?_)) ?_) (fun z => nomatch z) fun _ H8 e8 => ?_
      · rw [List.getElem?_map] at hu2
        rw [kindB, List.map_map, List.getElem?_map] at hz
        obtain ⟨wd, hw, rfl⟩ := Option.map_eq_some_iff.mp hu2
        rw [hw] at hz
        cases hz
        exact ev_op (ev_op (ev_var rfl) ev_c (rv_ixT (st_of ((e07.trans e8) _ _ hx)) (i := 0) rfl)) (ev_var rfl) (rv_eq rfl)
      · have dp : ∀ bs : List Bool, ∀ H9 : Hp, DpAll K H9 (bs.map V.bl) (bs.map PyData.bool) := fun bs H9 => by
          induction bs with
          | nil => exact .nil
          | cons b bs ih => exact .cons (.bl b) ih
        have pl : (PyData.list ((kindB t).map .bool)).plain = true := by simp [kindB, words, PyData.plain, PyData.plainAll]
        have dp2 : (PyData.list ((kindB t).map .bool)).depth ≤ 64 := by simp [kindB, words, PyData.depth, PyData.depthAll]
        exact fun H9 e9 Q' q' => ⟨_, _, .lst (sq_of ((e8.trans e9) _ _ h7')) (dp _ _), .lst (sq_of (e9 _ _ h8)) (dp _ _), pl, pl, dp2, q' H9 (Ex.refl _)⟩
      · have pl : (PyData.list ((kindB t).map .bool)).plain = true := by simp [kindB, words, PyData.plain, PyData.plainAll]
        rw [SeqAt.eqv_refl_plain _ pl]
        rfl
      have e08 := e07.trans e8
      have two : ∀ {r dx pp lq Cc : Addr} {dd : Int} {wd : Str} {us xs : List V} {ts : List TM.Tree}, m = .ref r → H r = some (.ins Cc dx [("own_depth", .int dd), ("own_parts", .ref pp)]) → (Cc = a.k_Lesser ∨ Cc = a.k_Greater) → H pp = some (.tup us) → us.length = ts.length → (∀ (i : Nat) (y : V) (t : TM.Tree), us[i]? = some y → ts[i]? = some t → TM.TmAt (csOf a) H y t) →
          H x = some (.tup [.str wd, .ref lq]) → H lq = some (.lst xs) → xs.length = ts.length → (∀ (i : Nat) (y : V) (t : TM.Tree), xs[i]? = some y → ts[i]? = some t → TM.MdAt S H y t) → TM.Ln ts.length → (∀ t ∈ ts, TM.Ok t) → TM.Tree.depthAll ts < n → TM.Tree.depthAll ts ≤ 3 → ∀ H2, Ex H H2 →
          tSeq (tIfS (tOr (tNot (tTest (tCB (rIsi K) (tCons (tGetA (gParts a) (tVar 0)) (tCons (tC (.ty "tuple")) tNil))))) (tTest (tOp rNe (tCB (rLenS K) (tCons (tGetA (gParts a) (tVar 0)) tNil)) (tCB (rLenS K) (tCons (tOp (rIxT K) (tVar 1) (tC (.int 1))) tNil))))) (tRet (tC (.bl false))) tNext)
          (tSeq (tAsg (fun σ H Q => tCons (tGetA (gParts a) (tVar 0)) (tCons (tOp (rIxT K) (tVar 1) (tC (.int 1))) tNil) σ H fun vs H1 => ZL.rListZip K vs H1 Q) (gName 4)) (tRet (tCB (rAll K) (tCons (tLc (iList K (tVar 4)) (gTup K 2 (gCons (gName 6) (gCons (gName 7) gNil))) tYes (tFn (sp__law_is_shaped a n) E0 (tCons (tVar 6) (tCons (tVar 7) tNil))) [6, 7]) tNil)))) { nx := fun _ H' => Q .non H', rt := Q } [some m, some (.ref x), some (.ref l), some (.ref l7), none, none, none, none] H2 := by
        intro r dx pp lq Cc dd wd us xs ts hm hr hC hp2 hul hus hx2 hq hxl hxs hln hok hdn hd3 H2 e2
        subst hm
        have h8 := hln.eight
        have h2 := hln.two
        have gp : ∀ H3, Ex H2 H3 → Ev (tGetA (gParts a) (tVar 0)) [some (.ref r), some (.ref x), some (.ref l), some (.ref l7), none, none, none, none] H3 (.ref pp) := fun H3 e3 => ev_getA (ev_var rfl) ((e2.trans e3) _ _ hr) ⟨hC, rfl⟩ rfl
        have gq : ∀ H3, Ex H2 H3 → Ev (tOp (rIxT K) (tVar 1) (tC (.int 1))) [some (.ref r), some (.ref x), some (.ref l), some (.ref l7), none, none, none, none] H3 (.ref lq) := fun H3 e3 => ev_op (ev_var rfl) ev_c (rv_ixT (st_of ((e2.trans e3) _ _ hx2)) (i := 1) rfl)
        refine q_when (b := false) (et_is (et_or (et_not (et_test (ev_cb (ea_cons (gp H2 (Ex.refl _)) (ea_cons ev_c ea_nil)) fun H3 e3 Q' q' => ⟨_, _, _, _, true, rfl, .ty _, (Kn.tup ((e2.trans e3) _ _ hp2)).ty, kit_ty (by decide +kernel), q' H3 (Ex.refl _)⟩))) fun _ => et_neF (x := .int (us.length : Int)) (ev_cb (ea_cons (gp H2 (Ex.refl _)) ea_nil) fun H3 e3 Q' q' => ⟨pp, us, rfl, .inr (st_of ((e2.trans e3) _ _ hp2)), q' H3 (Ex.refl _)⟩) (ev_is (ev_len (gq H2 (Ex.refl _)) (sq_of (e2 _ _ hq))) (by rw [hxl, hul])) rfl) rfl) (fun z => nomatch z) fun _ H3 e3 => ?_
        have e03 := e2.trans e3
        refine q_asgA (ea_cons (gp H3 e3) (ea_cons (gq H3 e3) ea_nil)) fun H4 e4 => ?_
        have e04 := e03.trans e4
        refine ⟨pp, lq, us, xs, rfl, st_of (e04 _ _ hp2), sq_of (e04 _ _ hq), by omega, by omega, fun H5 l9 rs e5 hl9 h9 hrs hpr => ?_⟩
        have e05 := e04.trans e5
        refine s_ret (ev_is (ev_all (K := K) (bs := List.replicate us.length true) (el_lpair (ev_var rfl) h9 hpr hrs (by omega) (by rw [List.length_map, List.length_replicate]) (by omega) (fun _ _ => rfl) fun i u v z H6 e6 hui hvi hz => ?_)) ?_) fun H6 e6 => q H6 (e05.trans e6)
        · have hil : i < ts.length := hul ▸ (List.getElem?_eq_some_iff.mp hui).1
          have hti : ts[i]? = some ts[i] := List.getElem?_eq_getElem hil
          have hmem : ts[i] ∈ ts := List.getElem_mem hil
          have hz2 : z = .bl true := by
            rw [List.getElem?_map, List.getElem?_replicate] at hz
            split at hz
            · exact (Option.some.inj hz).symm
            · cases hz
          subst hz2
          exact ev_fn (ea_cons (ev_var rfl) (ea_cons (ev_var rfl) ea_nil)) fun H7 e7 Q' q' E' => ⟨S, u, v, ts[i], rfl, (hus i u _ hui hti).up ((e05.trans e6).trans e7), (hxs i v _ hvi hti).ex ((e05.trans e6).trans e7), hok _ hmem, Nat.le_trans (TM.depth_mem hmem) hd3, Nat.lt_of_le_of_lt (TM.depth_mem hmem) hdn, q'⟩
        · congr 1
          rw [List.all_eq_true]
          intro b hb
          rw [List.eq_of_mem_replicate hb]
          rfl
      cases md with
      | @place _ nm s hx' =>
        cases tm with
        | @place r dx _ hr =>
          cases ok with
          | place hnm =>
            refine q_when (b := true) (et_eqT (ev_op (ev_var rfl) ev_c (rv_ixT (st_of (e08 _ _ hx')) (i := 0) rfl)) ev_c rfl rfl) (fun _ H9 e9 => ?_) (fun z => nomatch z)
            have e09 := e08.trans e9
            have shn : Shows (.str nm) := (name_sm nm hnm).shows (by decide) (by decide)
            exact s_ret (ev_eqT (x := .str (PyData.str nm).shown) (ev_reprV (ev_getA (ev_var rfl) (e09 _ _ hr) ⟨rfl, rfl⟩ rfl) (.str _) shn) (ev_reprV (ev_op (ev_var rfl) ev_c (rv_ixT (st_of (e09 _ _ hx')) (i := 1) rfl)) (.str _) shn) rfl) fun H10 e10 => q H10 (e09.trans e10)
      | @endd _ nm s hx' =>
        cases tm with
        | @endd r dx _ hr =>
          cases ok with
          | endd hnm =>
            refine q_when (b := false) (et_eqF (ev_op (ev_var rfl) ev_c (rv_ixT (st_of (e08 _ _ hx')) (i := 0) rfl)) ev_c rfl (str_ne (by decide))) (fun z => nomatch z) (fun _ H9 e9 => ?_)
            have e09 := e08.trans e9
            refine q_when (b := true) (et_eqT (ev_op (ev_var rfl) ev_c (rv_ixT (st_of (e09 _ _ hx')) (i := 0) rfl)) ev_c rfl rfl) (fun _ H10 e10 => ?_) (fun z => nomatch z)
            have e010 := e09.trans e10
            have shn : Shows (.str nm) := (sm_str ((by decide +kernel : ∀ n ∈ (["bottom", "top"] : List Str), (n.cps.toList.all fun c => decide (c < 16 ^ 8)) = true) nm hnm) ((by decide +kernel : ∀ n ∈ (["bottom", "top"] : List Str), n.cps.size ≤ 240) nm hnm)).shows (by decide) (by decide)
            exact s_ret (ev_eqT (x := .str (PyData.str nm).shown) (ev_reprV (ev_getA (ev_var rfl) (e010 _ _ hr) ⟨rfl, rfl⟩ rfl) (.str _) shn) (ev_reprV (ev_op (ev_var rfl) ev_c (rv_ixT (st_of (e010 _ _ hx')) (i := 1) rfl)) (.str _) shn) rfl) fun H11 e11 => q H11 (e010.trans e11)
      | @lesser _ lq xs2 ts s hx' sl hq hn hxs =>
        cases tm with
        | @lesser r dx pp us _ hr hp2 hul hus =>
          cases ok with
          | lesser hln hok =>
            refine q_when (b := false) (et_eqF (ev_op (ev_var rfl) ev_c (rv_ixT (st_of (e08 _ _ hx')) (i := 0) rfl)) ev_c rfl (str_ne (by decide))) (fun z => nomatch z) (fun _ H9 e9 => ?_)
            have e09 := e08.trans e9
            refine q_when (b := false) (et_eqF (ev_op (ev_var rfl) ev_c (rv_ixT (st_of (e09 _ _ hx')) (i := 0) rfl)) ev_c rfl (str_ne (by decide))) (fun z => nomatch z) (fun _ H10 e10 => ?_)
            exact two rfl hr (.inl rfl) hp2 hul hus hx' hq hn hxs hln hok (Nat.lt_of_succ_lt_succ (by simpa [TM.Tree.depth] using hd)) (by have := hd3; simp [TM.Tree.depth] at this; omega) H10 (e09.trans e10)
      | @greater _ lq xs2 ts s hx' sl hq hn hxs =>
        cases tm with
        | @greater r dx pp us _ hr hp2 hul hus =>
          cases ok with
          | greater hln hok =>
            refine q_when (b := false) (et_eqF (ev_op (ev_var rfl) ev_c (rv_ixT (st_of (e08 _ _ hx')) (i := 0) rfl)) ev_c rfl (str_ne (by decide))) (fun z => nomatch z) (fun _ H9 e9 => ?_)
            have e09 := e08.trans e9
            refine q_when (b := false) (et_eqF (ev_op (ev_var rfl) ev_c (rv_ixT (st_of (e09 _ _ hx')) (i := 0) rfl)) ev_c rfl (str_ne (by decide))) (fun z => nomatch z) (fun _ H10 e10 => ?_)
            exact two rfl hr (.inr rfl) hp2 hul hus hx' hq hn hxs hln hok (Nat.lt_of_succ_lt_succ (by simpa [TM.Tree.depth] using hd)) (by have := hd3; simp [TM.Tree.depth] at this; omega) H10 (e09.trans e10)
end
end K12
namespace K12
open PySem PySem.Spec PyProof.Rows L2 LG Evl LamX
theorem takesLen {X : Cx} {W : WX} (t : Takes X W) : Takes X (fun cls d σ H => σ.length = X.N.length → W cls d σ H) := fun u s' ⟨a, B, sI, pins, σ, H, cls, d, e, I, nb, up, sky, na, os, ag, w⟩ =>
  t u s' ⟨a, B, sI, pins, σ, H, cls, d, e, I, nb, up, sky, na, os, ag, w I.len⟩
theorem pss_by {X : Cx} {st : List Stmt} {t : TS} (h : ∀ D σ H, t D σ H → ∃ u, PSs X st u ∧ u D σ H) : PSs X st t := ⟨fun pins s σ H D I hh => let ⟨_, h1, h2⟩ := h D σ H hh; h1.run pins s σ H D I h2⟩
def sTold (C : Addr) : Addr → Value → Option Addr → TS := fun a0 cls d D σ H => ∃ dd v, cls = .ref C ∧ d = some dd ∧ σ[3]? = some (some (.ref a0)) ∧ H dd = some (.xd [("value", v)]) ∧
  ∀ p, H p = none → p ≠ sysModules → D.nx (σ.set 2 (some (.ref p))) (upd H p (.lst [.str "values", v, .bl true]))
theorem lk (v : V) : List.lookup ("value" : Str) [(("value" : Str), v)] = some v := by simp
theorem kit_sub {K : PySem.W.Frag} {C D : Addr} (g : OexC K D) (x : ExcC K D) (h : PySem.W.subIn K (.ref C) (.ref D) = some true) : PySem.W.kitOne K (.ref C) (.ref D) = some true := by
  unfold PySem.W.kitOne
  split
  · rfl
  · obtain ⟨cd, hc, _⟩ := PySem.W.any_some x.hd
    show (if ((PySem.W.clsIn K D).isSome && PySem.W.typeIn K (.ref D) == some (.type "type")) = true then PySem.W.subIn K (.ref C) (.ref D) else none) = some true
    rw [if_pos (by rw [hc, g.tyC]; rfl)]
    exact h
def doneD (v : V) : PyData := .list [.str "done", dV v]
def valuesD (d : PyData) : PyData := .list [.str "values", d, .bool true]
theorem bd_flat {v : V} (h : Bd v) : flat1 v = true ∧ Sm 0 240 (dV v) := by
  rcases h with rfl | rfl | ⟨i, rfl, h1, h2⟩
  · exact ⟨rfl, sm_str (by decide +kernel) (by decide +kernel)⟩
  · exact ⟨rfl, sm_str (by decide +kernel) (by decide +kernel)⟩
  · refine ⟨rfl, sm_int ?_⟩
    rw [big_eq] at h1 h2
    omega
theorem done_sh {v : V} (h : Bd v) : Shows (doneD v) := by
  refine (sm_list (ds := [.str "done", dV v]) (k := 0) (n := 240) (m := 2) (fun z hz => ?_) (Nat.le_refl 2)).shows (by decide) (by decide)
  simp only [List.mem_cons, List.not_mem_nil, or_false] at hz
  rcases hz with rfl | rfl
  · exact sm_str (by decide +kernel) (by decide +kernel)
  · exact (bd_flat h).2
theorem values_sh {d : PyData} (h : Sm 4 40000 d) : Shows (valuesD d) := by
  refine (sm_list (ds := [.str "values", d, .bool true]) (k := 4) (n := 40000) (m := 3) (fun z hz => ?_) (Nat.le_refl 3)).shows (by decide) (by decide)
  simp only [List.mem_cons, List.not_mem_nil, or_false] at hz
  rcases hz with rfl | rfl | rfl
  · exact (sm_str (by decide +kernel) (by decide +kernel)).mono (by decide) (by decide)
  · exact h
  · exact sm_bool.mono (by decide) (by decide)
section
variable {P : Program} {w : World} {K : PySem.W.Frag} {mg : Str → Option Value} {base : Heap} {a : At}
def sp__law_told (K : PySem.W.Frag) (a : At) : Sp := fun vs H Q _ => ∃ m u t, vs = [m, u] ∧ TM.TmAt (csOf a) H m t ∧ TM.Ok t ∧ t.depth ≤ 4 ∧
  ((∃ d kvs, u = .ref d ∧ DictFor H d kvs t ∧ ∀ H', Ex H H' → Q (.str (doneD (val (fD kvs) t)).shown) H') ∨
   (BadV H t.places u ∧ ∃ dat, Dz K H u dat ∧ Sm 4 40000 dat ∧ ∀ H', Ex H H' → Q (.str (valuesD dat).shown) H'))
theorem ok__law_told (T : Txt K mg a) : Fn P w K mg base 10 a._law_told (sp__law_told K a) := by
  have G_at := fn_Term_at (P := P) (w := w) (base := base) T
  refine T.d__law_told.fn sc__law_told (fun _ _ _ _ _ _ us hl => match us, hl with | [_, _], _ => rfl) (fun vs H Q E h => ?_) (fun cdv A outer s H vs Q E hg hr h => ?_)
  · obtain ⟨_, _, _, rfl, _⟩ := h
    rfl
  · obtain ⟨m, u, t, rfl, tm, ok, hd, h⟩ := h
    have nd := sc__law_told.nd
    have hu : (A.deeper _).units + 64 < cLine := hr.units
    have exm : PySem.W.exmOne K (.ref a.c_InvalidValues) (.ref a.c_InvalidValues) = some true := PySem.W.exm_ref T.e_InvalidValues.o.exC T.e_InvalidValues.is.hd T.e_InvalidValues.o.tyC T.x_InvalidValues_InvalidValues
    refine ⟨_, pss_cons (ps_set (i := 2) nd rfl (.inl rfl) (pe_lst (pa_cons pe_str pa_nil)))
    (pss_cons (ps_try_manyAs (n := "e") (i := 3) (Wout := fun _ _ _ _ => False) (tb := fun W D σ H => ∃ Ech : XK, (∀ cls d σ' H', Ech cls d H' → σ'.length = 4 → W cls d σ' H') ∧ tAsg (tLst (tCons (tC (.str "done")) (tCons (tMethA (IsT a) "at" (sp_Term_at a) Ech (tVar 0) (tCons (tVar 1) tNil)) tNil))) (gName 2) D σ H) rfl rfl nd rfl rfl LamX.takes0 (fun W pn xe tk _ => pss_by fun D σ H1 hh => ?_)
      (.cons (c := .ref a.c_InvalidValues) (ts := sTold a.c_InvalidValues) ⟨by rfl, by decide, .inl T.e_InvalidValues.m⟩ (fun a0 oe cls d pn hz hf => pss_by fun D σ HZ ⟨dd, v, e1, e2, hσ, hd, qq⟩ => by
        subst e1 e2
        refine ⟨_, pss_one (ps_set (i := 2) nd rfl (.inl rfl) (pe_lstB (pa_cons pe_str (pa_cons (pe_xf T.e_InvalidValues.xf T.e_InvalidValues.v hz hf (pv 3)) (pa_cons (pe_callB (call_isE2 T.e_InvalidValues.is hz hf) (by rfl) T.z_isinstance (by decide +kernel) (pa_cons (pv 3) (pa_cons (pe_glob (v := .ref a.c_HeldError) (by rfl) T.e_HeldError.m rfl) pa_nil))) pa_nil))))), ?_⟩
        exact ⟨.ref a0, hσ, rfl, rfl, dd, [("value", v)], v, rfl, hd, lk v, .ref a0, hσ, ⟨_, hd⟩, .ref a.c_HeldError, .ref a.c_HeldError, true, rfl, fun _ e => e, kit_sub T.e_HeldError.o T.e_HeldError.is T.x_InvalidValues_HeldError, (by decide : 3 ≤ sizeLine), qq⟩)
      .nil))
    (pss_one (ps_ret (pe_callB (call_reprZ hg hu) (by rfl) T.z_repr (by decide +kernel) (pa_cons (pv 2) pa_nil))))), ?_⟩
    · obtain ⟨Ech, hW, h1⟩ := hh
      exact ⟨_, pss_one (ps_set (i := 2) nd rfl (.inl rfl) (pe_lst (pa_cons pe_str (pa_cons (pe_methA (E := Ech) (G := IsT a) (pv 0) (g_at T) G_at hg (hr.mono (by decide)) (passes_call (takesLen tk) fun cls d σ' H' e hl => hW cls d σ' H' e hl) (pa_cons (pv 1) pa_nil)) pa_nil)))), h1⟩
    · refine ⟨(by decide : 1 ≤ sizeLine), fun p0 hp0 => ?_⟩
      have e0 : Ex H (upd H p0 (.lst [.str "other"])) := Ex.new hp0
      generalize upd H p0 (.lst [.str "other"]) = H0 at *
      obtain ⟨x, C, dx, fs, rfl, hx, g, l1, _⟩ := tm_met (tm.up e0)
      refine ⟨fun cls d H' => ∃ dd dat, cls = .ref a.c_InvalidValues ∧ d = some dd ∧ Ex H0 H' ∧ H' dd = some (.xd [("value", u)]) ∧ Dz K H u dat ∧ Sm 4 40000 dat ∧ ∀ H', Ex H H' → Q (.str (valuesD dat).shown) H', fun cls d σ' H' he hl => ?_, .ref x, rfl, x, C, dx, fs, rfl, hx, g, l1, u, rfl, _, t, u, rfl, tm.up e0, ok, hd, ?_⟩
      · obtain ⟨dd, dat, rfl, rfl, e1, hdd, hdz, hsm, q⟩ := he
        obtain ⟨s0, s1, s2, s3, rfl⟩ : ∃ s0 s1 s2 s3, σ' = [s0, s1, s2, s3] := match σ', hl with | [s0, s1, s2, s3], _ => ⟨s0, s1, s2, s3, rfl⟩
        refine ⟨true, exm, fun _ a0 _ => ⟨dd, u, rfl, rfl, rfl, hdd, fun p hp hm => ?_⟩, (fun z => nomatch z)⟩
        have e2 := (e0.trans e1).trans (Ex.new (o := .lst [.str "values", u, .bl true]) hp)
        refine ⟨.ref p, rfl, .ref p, valuesD dat, rfl, .inl (.lst (sq_of upd_same) rfl (fun i y e h1 h2 => ?_) hm), values_sh hsm, q _ e2⟩
        match i, h1, h2 with
        | 0, h1, h2 => cases h1; cases h2; exact .q (.str _)
        | 1, h1, h2 => cases h1; cases h2; exact hdz.up e2
        | 2, h1, h2 => cases h1; cases h2; exact .q (.bl true)
      · rcases h with ⟨d, kvs, rfl, hdf, q⟩ | ⟨bad, dat, hdz, hsm, q⟩
        · refine .inl ⟨d, kvs, rfl, hdf.up e0, fun H1 e1 => ⟨(by show 2 ≤ sizeLine; decide), fun l hl => ?_⟩⟩
          have hb := val_bd (kvs := kvs) ok hdf.hs
          have e2 := (e0.trans e1).trans (Ex.new (o := .lst [.str "done", val (fD kvs) t]) hl)
          exact ⟨.ref l, rfl, .ref l, doneD (val (fD kvs) t), rfl, .inr (.inl (.lst (sq_of upd_same) (.cons (.str _) (.cons (dp_flat (bd_flat hb).1) .nil)))), done_sh hb, q _ e2⟩
        · exact .inr ⟨bad.up e0, fun d H' e1 hdd => ⟨d, dat, rfl, rfl, e1, hdd, hdz, hsm, q⟩⟩
end
end K12
namespace K12
open PySem PySem.Spec PyProof.Rows L2 LG Evl
theorem inV_str {n : Str} : ∀ ns : List Str, inV (.str n) (ns.map V.str) = decide (n ∈ ns)
  | [] => by simp [inV]
  | m :: ns => by
    have ih := inV_str (n := n) ns
    unfold inV at ih ⊢
    rw [List.map_cons, List.any_cons, ih]
    have e : eqV (.str m) (.str n) = decide (n = m) := by
      by_cases h : n = m
      · subst h
        simp [eqV]
      · simp [eqV, h]
        exact fun z => h z.symm
    rw [e, ← Bool.decide_or]
    simp
/-- [e for j in a new list if ..] -/
theorem el_lcLN {K : PySem.W.Frag} {σ : L2.St} {H : Hp} {tl te : TE} {t : TT} {j : Nat} {vs : List Nat} {xs : List V} (f : Nat → Bool) (v : Nat → V) (h : EvL tl σ H xs) (hz : xs.length ≤ 40000) (hw : ∀ x, wipe ((wipe σ vs).set j (some x)) vs = wipe σ vs)
    (ht : ∀ (i : Nat) (x : V) H1, Ex H H1 → xs[i]? = some x → EvT t ((wipe σ vs).set j (some x)) H1 (f i)) (he : ∀ (i : Nat) (x : V) H1, Ex H H1 → xs[i]? = some x → f i = true → Ev te ((wipe σ vs).set j (some x)) H1 (v i)) : EvL (tLc (iList K tl) (gName j) t te vs) σ H (given xs.length f v) := fun H1 e Q q =>
  h H1 e _ fun p H2 hp e2 h2 => el_lcL (K := K) (tl := tC (.ref p)) (H := H2) f v ev_c (sq_of h2) hz hw (fun i x H3 e3 => ht i x H3 ((e.trans e2).trans e3)) (fun i x H3 e3 => he i x H3 ((e.trans e2).trans e3)) H2 (Ex.refl _) Q fun r H3 hr e3 h3 => q r H3 (fresh_back e2 hr) (e2.trans e3) h3
theorem put_new {kvs : List (Key × V)} {k : Key} {v : V} (h : k ∉ kvs.map (·.1)) : putK kvs k v = kvs ++ [(k, v)] := by
  unfold putK
  rw [if_neg]
  rw [List.any_eq_true]
  rintro ⟨x, hx, e⟩
  exact h (List.mem_map.mpr ⟨x, hx, of_decide_eq_true e⟩)
theorem er_map {α β : Type} (f : α → β) : ∀ (l : List α) (i : Nat), (l.map f).eraseIdx i = (l.eraseIdx i).map f
  | [], _ => rfl
  | _ :: _, 0 => rfl
  | x :: l, i + 1 => by
    rw [List.map_cons, List.eraseIdx_cons_succ, List.eraseIdx_cons_succ, List.map_cons, er_map f l i]
theorem er_perm {α : Type} : ∀ (l : List α) (i : Nat) (h : i < l.length), l.Perm (l[i] :: l.eraseIdx i)
  | x :: l, 0, _ => List.Perm.refl _
  | x :: l, i + 1, h => by
    have ih := er_perm l i (by simpa using h)
    rw [List.eraseIdx_cons_succ, List.getElem_cons_succ]
    exact (List.Perm.cons x ih).trans (List.Perm.swap _ _ _)
/-- a dict of values for t, as the law makes it -/
structure GD (H : Hp) (d : Addr) (kvs : List (Key × V)) (t : TM.Tree) : Prop where
  at_ : H d = some (.dK kvs)
  f : DictFor H d kvs t
  nd : (kvs.map (·.1)).Nodup
  inv : ∀ kv ∈ kvs, InV kv.2
theorem GD.up {H H' : Hp} {d : Addr} {kvs : List (Key × V)} {t : TM.Tree} (e : Ex H H') (h : GD H d kvs t) : GD H' d kvs t := ⟨e _ _ h.at_, h.f.up e, h.nd, h.inv⟩
theorem keys_few {kvs : List (Key × V)} (key : ∀ kv ∈ kvs, ∃ n, n ∈ TM.names ∧ kv.1 = Sum.inr n) (nd : (kvs.map (·.1)).Nodup) : kvs.length ≤ 8 := by
  have := List.Nodup.length_le_of_subset (l₂ := TM.names.map (Sum.inr : Str → Key)) nd fun k hk => by
    obtain ⟨kv, hkv, rfl⟩ := List.mem_map.mp hk
    obtain ⟨n, hn, e⟩ := key kv hkv
    exact List.mem_map.mpr ⟨n, hn, e.symm⟩
  simpa [TM.names] using this
theorem isSome_of_key {kvs : List (Key × V)} {k : Key} (h : k ∈ kvs.map (·.1)) : (valV kvs k).isSome = true := by
  rw [← valV_any, List.any_eq_true]
  obtain ⟨kv, hkv, e⟩ := List.mem_map.mp h
  exact ⟨kv, hkv, decide_eq_true e⟩
theorem gd_of {H : Hp} {d : Addr} {kvs : List (Key × V)} {t : TM.Tree} (hd : H d = some (.dK kvs)) (key : ∀ kv ∈ kvs, ∃ n, n ∈ TM.names ∧ kv.1 = Sum.inr n) (nd : (kvs.map (·.1)).Nodup) (inv : ∀ kv ∈ kvs, InV kv.2) (has : ∀ n ∈ t.places, (Sum.inr n : Key) ∈ kvs.map (·.1)) : GD H d kvs t :=
  ⟨hd, ⟨.inl hd, ⟨Nat.le_trans (keys_few key nd) (by decide), key, look_of nd, fun kv h => (inv kv h).val, fun n h => absurd h List.not_mem_nil⟩, fun kv h => (inv kv h).bd, fun n hn => isSome_of_key (has n hn)⟩, nd, inv⟩
section
variable {P : Program} {w : World} {K : PySem.W.Frag} {mg : Str → Option Value} {base : Heap} {a : At}
/-! ### a dict of values -/
def sp__law_there : Sp := fun vs H Q _ => ∃ (p : Addr) (S : Addr → Prop) (v : V) (t : TM.Tree), vs = [.ref p, v] ∧ Po p H ∧ TM.MdAt S H v t ∧ TM.Ok t ∧ t.depth ≤ 3 ∧ ∀ d kvs H', H d = none → Px p H H' → GD H' d kvs t → Q (.ref d) H'
def spareV (ns : List Str) : List Str := (["r0", "r5", "x1"] : List Str).filter fun n => !decide (n ∈ ns)
theorem ok__law_there (T : Txt K mg a) : Fn P w K mg base 6 a._law_there sp__law_there := by
  have G__law_spots := ok__law_spots (P := P) (w := w) (base := base) T 4
  have G__law_draw := ok__law_draw (P := P) (w := w) (base := base) T
  have G__law_things := ok__law_things (P := P) (w := w) (base := base) T
  refine T.d__law_there.fn sc__law_there (fun _ _ _ _ _ _ us hl => match us, hl with | [_, _], _ => rfl) (fun vs H Q E h => ?_) (fun cdv A outer s H vs Q E hg hr h => ?_)
  · obtain ⟨_, _, _, _, rfl, _⟩ := h
    rfl
  · obtain ⟨p, S, v, t, rfl, hp, md, ok, hd3, q⟩ := h
    have nd := sc__law_there.nd
    have hu := hu_of hr
    refine ⟨_, (pss_cons (ps_set (i := 2) nd rfl (.inr rfl) (pe_fn G__law_spots hg (hr.mono (by decide)) T.d__law_spots.kp T.d__law_spots.m (by rfl) passL (pa_cons (pv 1) pa_nil)))
    (pss_cons (ps_setLc (i := 3) (own := [("spot", 8)]) (g := gName 8) rfl (by exact nd) rfl rfl (by rfl) (pi_list (pe_lst (pa_cons pe_str (pa_cons pe_str (pa_cons pe_str pa_nil))))) (blkOk_by (own := [("spot", 8)]) (N := ["pot", "term", "names", "spare", "turn", "things", "found", "at", "spot"]) (sc := defScope s__law_there) (by decide +kernel)) (fun _ _ _ _ _ => (pg_name (i := 8) nd rfl (.inl rfl))) (fun _ _ _ _ _ => (pts_one (pt_cmpR (op_notIn_seq : OpR _ (compareOp .NotIn) (rIn K true)) (pv 8) (pv 2) (by rfl)))) (fun _ _ _ _ _ => (pv 8)))
    (pss_cons (ps_set (i := 2) nd rfl (.inr rfl) (pe_op op_cat (pv 2) (pe_lc rfl (own := [("spot", 8)]) (g := gName 8) (by exact nd) (pi_list (pv 3)) (blkOk_by (own := [("spot", 8)]) (N := ["pot", "term", "names", "spare", "turn", "things", "found", "at", "spot"]) (sc := defScope s__law_there) (by decide +kernel)) (fun _ _ _ _ _ => (pg_name (i := 8) nd rfl (.inl rfl))) (fun _ _ _ _ _ => (pts_one (pt_cmpR op_eq (pe_fn G__law_draw hg (hr.mono (by decide)) T.d__law_draw.kp T.d__law_draw.m (by rfl) passL (pa_cons (pv 0) (pa_cons pe_int pa_nil))) pe_int (nomark _)))) (fun _ _ _ _ _ => (pv 8)))))
    (pss_cons (ps_par (i := 5) (j := 6) rfl nd rfl rfl (by decide) rfl rfl (pa_cons (pe_fn G__law_things hg (hr.mono (by decide)) T.d__law_things.kp T.d__law_things.m (by rfl) passL (pa_cons (pv 0) (pa_cons (pe_callB (cr_lenK rfl) (by rfl) T.z_len (by decide +kernel) (pa_cons (pv 2) pa_nil)) pa_nil))) (pa_cons pe_dnewK pa_nil)) (by rfl))
    (pss_cons (ps_for PassesOwn.leaving rfl (pi_range1 (by rfl) T.z_range (pa_cons (pe_callB (cr_lenK rfl) (by rfl) T.z_len (by decide +kernel) (pa_cons (pv 2) pa_nil)) pa_nil)) (pg_name (i := 4) nd rfl (.inl rfl))
      (pss_cons (ps_set (i := 7) nd rfl (.inl rfl) (pe_fn G__law_draw hg (hr.mono (by decide)) T.d__law_draw.kp T.d__law_draw.m (by rfl) passL (pa_cons (pv 0) (pa_cons (pe_callB (cr_lenK rfl) (by rfl) T.z_len (by decide +kernel) (pa_cons (pv 2) pa_nil)) pa_nil))))
        (pss_one (ps_asg (pe_bmK (K := K) rfl PySem.F.plainAttrs_list PySem.F.slot_list_pop PySem.F.type_list_pop mt_popR (pv 5) (pa_cons (pv 7) pa_nil)) (pg_sub (pv 6) (pe_bmK (K := K) rfl PySem.F.plainAttrs_list PySem.F.slot_list_pop PySem.F.type_list_pop mt_popR (pv 2) (pa_cons (pv 7) pa_nil)) (set_dict hu))))))
    (pss_one (ps_ret (pv 6)))))))), ?_⟩
    -- the names
    refine ⟨v, rfl, S, v, t, rfl, md, ok, by omega, fun l ns H1 hl e1 hss h1 => ?_⟩
    have lp : l ≠ p := hp.ne hl
    have hnn : ∀ n ∈ ns, n ∈ TM.names := fun n hn => ok.names n ((hss.mem n).mp hn)
    -- those that are spare
    have gs : given 3 (fun i => (fun x => !inV x (ns.map V.str)) (([.str "r0", .str "r5", .str "x1"] : List V).getD i .non)) (fun i => id (([.str "r0", .str "r5", .str "x1"] : List V).getD i .non)) = (spareV ns).map V.str := by
      rw [show (3 : Nat) = ([.str "r0", .str "r5", .str "x1"] : List V).length from rfl, given_if (f := fun x => !inV x (ns.map V.str)) (g := id)]
      rw [List.map_id, spareV, show ([.str "r0", .str "r5", .str "x1"] : List V) = (["r0", "r5", "x1"] : List Str).map V.str from rfl, List.filter_map]
      congr 1
      refine List.filter_congr fun x _ => ?_
      show (!inV (.str x) (ns.map V.str)) = _
      rw [inV_str]
    have L : EvL (tLc (iList K (tLst (tCons (tC (.str "r0")) (tCons (tC (.str "r5")) (tCons (tC (.str "x1")) tNil))))) (gName 8) (tTest (tOp (rIn K true) (tVar 8) (tVar 2))) (tVar 8) [8]) [some (.ref p), some v, some (.ref l), none, none, none, none, none, none] H1 ((spareV ns).map V.str) := by
      have z := el_lcLN (K := K) (t := tTest (tOp (rIn K true) (tVar 8) (tVar 2))) (te := tVar 8) (σ := [some (.ref p), some v, some (.ref l), none, none, none, none, none, none]) (H := H1) (xs := [.str "r0", .str "r5", .str "x1"]) (j := 8) (vs := [8]) (fun i => (fun x => !inV x (ns.map V.str)) (([.str "r0", .str "r5", .str "x1"] : List V).getD i .non)) (fun i => id (([.str "r0", .str "r5", .str "x1"] : List V).getD i .non)) (el_lst (ea_cons ev_c (ea_cons ev_c (ea_cons ev_c ea_nil))) (by show 3 ≤ 100000; decide)) (by show 3 ≤ 40000; decide) (fun _ => rfl) (fun i x H4 e4 hx => ?_) (fun i x H4 e4 hx _ => ?_)
      · rw [show ([.str "r0", .str "r5", .str "x1"] : List V).length = 3 from rfl, gs] at z
        exact z
      · rw [getD_of hx]
        have fl : flatV x = true := by
          have hm := List.mem_of_getElem? hx
          simp only [List.mem_cons, List.not_mem_nil, or_false] at hm
          rcases hm with rfl | rfl | rfl <;> rfl
        exact et_test (ev_op (ev_var rfl) (ev_var rfl) (rv_niL (sq_of (e4 _ _ h1)) fl (by rw [List.all_eq_true]; intro y hy; obtain ⟨n, _, rfl⟩ := List.mem_map.mp hy; rfl)))
      · rw [getD_of hx]
        exact ev_var rfl
    refine q_asgL L fun l2 H2 hl2 e2 h2 => ?_
    have e02 := e1.trans e2
    have l2p : l2 ≠ p := (hp.up e1).ne hl2
    -- names, with some of them
    refine ⟨.ref l, rfl, .ref l2, rfl, l2, rfl, ⟨_, sq_of h2⟩, ?_⟩
    intro D hD
    have Dp : D ≠ p := (hp.up e02).ne hD
    have lD : l ≠ D := ne_of_none (e2 _ _ h1) hD
    have l2D : l2 ≠ D := ne_of_none h2 hD
    refine lc_list (K := K) (a := l2) (xs := (spareV ns).map V.str) (fun i H3 => (∀ b o, b ≠ p → b ≠ D → H2 b = some o → H3 b = some o) ∧ Po p H3 ∧ ∃ ys : List Str, H3 D = some (.lst (ys.map V.str)) ∧ ys.Sublist ((spareV ns).take i)) ⟨fun b o _ bd e => by rw [upd_ne bd]; exact e, (hp.up e02).up (Ex.new hD), [], upd_same, List.nil_sublist _⟩ (fun i H3 _ h => sq_of (h.1 _ _ l2p l2D h2)) (fun i x H3 hx h => ?_) (fun H3 h => ?_)
    · obtain ⟨f3, po3, ys, hD3, sub⟩ := h
      rw [List.getElem?_map] at hx
      obtain ⟨n, hn, rfl⟩ := Option.map_eq_some_iff.mp hx
      have hlen := sub.length_le
      rw [List.length_take] at hlen
      have hsp : (spareV ns).length ≤ 3 := List.length_filter_le _ _
      refine ⟨rfl, .ref p, rfl, p, 3, rfl, po3, by decide, by decide, fun dd H4 d0 d1 x4 => ⟨rfl, _, rfl, ?_⟩⟩
      have f4 : ∀ b o, b ≠ p → b ≠ D → H2 b = some o → H4 b = some o := fun b o bp bd e => x4.1 b o bp (f3 b o bp bd e)
      have hD4 := x4.1 _ _ Dp hD3
      have tk : (spareV ns).take (i + 1) = (spareV ns).take i ++ [n] := by rw [List.take_succ, hn]; rfl
      by_cases c : V.int dd = V.int 0
      · rw [decide_eq_true c]
        refine iteT ⟨.str n, rfl, _, hD4, sz_lt (by rw [List.length_map]; omega), fun b o bp bd e => by rw [upd_ne bd]; exact f4 b o bp bd e, ?_, ys ++ [n], by rw [List.map_append]; exact upd_same, ?_⟩
        · obtain ⟨x1, y1, g1, g2⟩ := x4.2
          exact ⟨x1, y1, by rw [upd_ne (Ne.symm Dp)]; exact g1, g2⟩
        · rw [tk]
          exact sub.append (List.Sublist.refl _)
      · rw [decide_eq_false c]
        refine iteF ⟨f4, x4.2, ys, hD4, ?_⟩
        rw [tk]
        exact sub.trans (List.sublist_append_left _ _)
    · obtain ⟨f3, po3, ys, hD3, sub⟩ := h
      rw [List.length_map, List.take_length] at sub
      have hys : ∀ n ∈ ys, n ∈ spareV ns := fun n hn => sub.subset hn
      have hsp : ∀ n ∈ spareV ns, n ∈ TM.names ∧ n ∉ ns := fun n hn => by
        rw [spareV, List.mem_filter] at hn
        refine ⟨?_, by simpa using hn.2⟩
        have := hn.1
        simp only [List.mem_cons, List.not_mem_nil, or_false] at this
        rcases this with rfl | rfl | rfl <;> decide
      have ndm : (ns ++ ys).Nodup := List.nodup_append.mpr ⟨hss.nd, sub.nodup (List.Pairwise.filter _ (by decide)), fun x hx y hy e => (hsp y (hys y hy)).2 (e ▸ hx)⟩
      have hmm : ∀ n ∈ ns ++ ys, n ∈ TM.names := fun n hn => by
        rcases List.mem_append.mp hn with hn | hn
        · exact hnn n hn
        · exact (hsp n (hys n hn)).1
      have hm8 : (ns ++ ys).length ≤ 8 := List.Nodup.length_le_of_subset (l₂ := TM.names) ndm hmm
      have hl3 := f3 _ _ lp lD (e2 _ _ h1)
      refine ⟨l, D, _, _, rfl, rfl, hl3, hD3, sz_of (by rw [List.length_append] at hm8; rw [List.length_map, List.length_map]; omega), fun l5 hl5 => ?_⟩
      rw [← List.map_append]
      have l5p : l5 ≠ p := po3.ne hl5
      have x03 : Px p H H3 := ⟨fun b o bp e => f3 b o bp (ne_of_none (e02 _ _ e) hD) (e02 _ _ e), po3⟩
      have hl5H : H l5 = none := x03.fresh hl5
      have x05 : Px p H (upd H3 l5 (.lst ((ns ++ ys).map V.str))) := x03.ex (Ex.new hl5)
      have h5 : (upd H3 l5 (.lst ((ns ++ ys).map V.str))) l5 = some (.lst ((ns ++ ys).map V.str)) := upd_same
      generalize upd H3 l5 (.lst ((ns ++ ys).map V.str)) = H5 at *
      have has : ∀ n ∈ t.places, n ∈ ns ++ ys := fun n hn => List.mem_append_left _ ((hss.mem n).mpr hn)
      generalize ns ++ ys = ms at *
      clear hys sub hD3 hl3 f3 gs h2 l2p l2D lD Dp hD po3
      -- the values
      refine ⟨.ref p, rfl, .ref l5, rfl, l5, _, rfl, .inl (sq_of h5), p, (ms.map V.str).length, rfl, x05.2, by rw [List.length_map]; omega, fun lt xs H6 hlt _ hxl hxv x6 h6 d hd => ⟨_, _, rfl, ?_⟩⟩
      have x06 := x05.trans x6
      have hltH : H lt = none := x05.fresh hlt
      have hdH : H d = none := x06.fresh hd
      have ltp : lt ≠ p := x05.ne hlt
      have dp : d ≠ p := x06.ne hd
      have l56 := x6.1 _ _ l5p h5
      have nlt : l5 ≠ lt := ne_of_none h5 hlt
      have nd5 : l5 ≠ d := ne_of_none l56 hd
      have ndt : lt ≠ d := ne_of_none h6 hd
      have x07 : Px p H (upd H6 d (.dK [])) := x06.ex (Ex.new hd)
      have g5 : (upd H6 d (.dK [])) l5 = some (.lst (ms.map V.str)) := (Ex.new hd) _ _ l56
      have gt : (upd H6 d (.dK [])) lt = some (.lst xs) := (Ex.new hd) _ _ h6
      have gd : (upd H6 d (.dK [])) d = some (.dK []) := upd_same
      generalize upd H6 d (.dK []) = H7 at *
      rw [List.length_map] at hxl
      refine q_forR1 (n := ((ms.map V.str).length : Int)) (ea_cons (ev_len (ev_var rfl) (sq_of g5)) ea_nil) (by rw [List.length_map]; omega) (fun i σ' H' => ∃ (kvs : List (Key × V)) (mr : List Str) (xr : List V), (∃ u z, σ' = [some (.ref p), some v, some (.ref l5), some (.ref l2), u, some (.ref lt), some (.ref d), z, none]) ∧ H' l5 = some (.lst (mr.map V.str)) ∧ H' lt = some (.lst xr) ∧ H' d = some (.dK kvs) ∧ mr.length + i = ms.length ∧ xr.length = mr.length ∧
        (∀ kv ∈ kvs, ∃ n, n ∈ TM.names ∧ kv.1 = Sum.inr n) ∧ (∀ kv ∈ kvs, InV kv.2) ∧ (∀ x ∈ xr, InV x) ∧ (kvs.map (·.1) ++ mr.map (Sum.inr : Str → Key)).Nodup ∧ (∀ n ∈ ms, (Sum.inr n : Key) ∈ kvs.map (·.1) ∨ n ∈ mr) ∧ (∀ n ∈ mr, n ∈ TM.names) ∧ Px p H H') (fun H8 e8 => ?_) ?_ ?_
      · refine ⟨[], ms, xs, ⟨_, _, rfl⟩, e8 _ _ g5, e8 _ _ gt, e8 _ _ gd, rfl, hxl, fun kv h => absurd h List.not_mem_nil, fun kv h => absurd h List.not_mem_nil, hxv, ?_, fun n hn => .inr hn, hmm, x07.ex e8⟩
        rw [List.map_nil, List.nil_append]
        exact List.Pairwise.map (Sum.inr : Str → Key) (fun a b hab z => hab (Sum.inr.inj z)) ndm
      · rintro i σ' H8 hi ⟨kvs, mr, xr, ⟨u, z, rfl⟩, a5, at', ad, hml, hxr, hk, hiv, hxi, hnd, hcov, hmn, x8⟩
        rw [List.length_map] at hi
        refine ⟨.ref p, rfl, .ref l5, rfl, l5, _, rfl, .inl (sq_of a5), p, ((mr.map V.str).length : Int), rfl, x8.2, by rw [List.length_map]; omega, by rw [List.length_map]; omega, fun k H9 k0 k1 x9 => ?_⟩
        rw [List.length_map] at k1
        obtain ⟨m, rfl⟩ := Int.eq_ofNat_of_zero_le k0
        have hm : m < mr.length := by omega
        have hmx : m < xr.length := by omega
        have b5 := x9.1 _ _ l5p a5
        have bt := x9.1 _ _ ltp at'
        have bd := x9.1 _ _ dp ad
        have x09 := x8.trans x9
        have hnk : (Sum.inr mr[m] : Key) ∉ kvs.map (·.1) := fun z => (List.nodup_append.mp hnd).2.2 _ z _ (List.mem_map.mpr ⟨mr[m], List.getElem_mem hm, rfl⟩) rfl
        have hk8 : kvs.length ≤ 8 := keys_few hk (List.nodup_append.mp hnd).1
        refine ⟨.ref lt, rfl, .inl ⟨rfl, _, sq_of bt⟩, .int m, rfl, lt, xr, m, m, xr[m], rfl, rfl, bt, by omega, by omega, seq_ix hmx, List.getElem?_eq_getElem hmx, ?_⟩
        have c5 : (upd H9 lt (.lst (xr.eraseIdx m))) l5 = some (.lst (mr.map V.str)) := by rw [upd_ne nlt]; exact b5
        refine ⟨.ref d, rfl, .ref l5, rfl, .inl ⟨rfl, _, sq_of c5⟩, .int m, rfl, l5, mr.map V.str, m, m, .str mr[m], rfl, rfl, c5, by omega, by omega, by rw [List.length_map]; exact seq_ix hm, by rw [List.getElem?_map, List.getElem?_eq_getElem hm]; rfl, d, _, rfl, DPut.k (k := Sum.inr mr[m]) (kvs := kvs) (by rw [upd_ne (Ne.symm nd5), upd_ne (Ne.symm ndt)]; exact bd) (sz_lt (by omega)), ?_⟩
        rw [put_new hnk]
        have er : (mr.map V.str).eraseIdx m = (mr.eraseIdx m).map V.str := er_map _ _ _
        rw [er]
        refine ⟨kvs ++ [(Sum.inr mr[m], xr[m])], mr.eraseIdx m, xr.eraseIdx m, ⟨_, _, rfl⟩, by rw [upd_ne nd5, upd_same], by rw [upd_ne ndt, upd_ne (Ne.symm nlt), upd_same], upd_same, by rw [List.length_eraseIdx_of_lt hm]; omega, by rw [List.length_eraseIdx_of_lt hm, List.length_eraseIdx_of_lt hmx]; omega, fun kv h => ?_, fun kv h => ?_, fun x h => hxi x (List.mem_of_mem_eraseIdx h), ?_, fun n hn => ?_, fun n hn => hmn n (List.mem_of_mem_eraseIdx hn), ?_⟩
        · rcases List.mem_append.mp h with h | h
          · exact hk kv h
          · rw [List.mem_singleton.mp h]
            exact ⟨_, hmn _ (List.getElem_mem hm), rfl⟩
        · rcases List.mem_append.mp h with h | h
          · exact hiv kv h
          · rw [List.mem_singleton.mp h]
            exact hxi _ (List.getElem_mem hmx)
        · have pm : (kvs.map (·.1) ++ mr.map (Sum.inr : Str → Key)).Perm (kvs.map (·.1) ++ ((Sum.inr mr[m] : Key) :: (mr.eraseIdx m).map (Sum.inr : Str → Key))) := by
            refine List.Perm.append_left _ ?_
            rw [← List.map_cons (f := (Sum.inr : Str → Key))]
            exact (er_perm mr m hm).map _
          have := pm.nodup_iff.mp hnd
          rw [List.map_append, List.append_assoc]
          exact this
        · rcases hcov n hn with h | h
          · exact .inl (by rw [List.map_append]; exact List.mem_append_left _ h)
          · by_cases e : n = mr[m]
            · exact .inl (by rw [List.map_append, e]; exact List.mem_append_right _ (List.mem_singleton.mpr rfl))
            · refine .inr ?_
              have := (er_perm mr m hm).mem_iff.mp h
              rcases List.mem_cons.mp this with z | z
              · exact absurd z e
              · exact z
        · refine ⟨fun b o bp e => ?_, ?_⟩
          · rw [upd_ne (ne_of_none e hdH), upd_ne (ne_of_none e hl5H), upd_ne (ne_of_none e hltH)]
            exact x09.1 b o bp e
          · obtain ⟨x1, y1, g1, g2⟩ := x09.2
            exact ⟨x1, y1, by rw [upd_ne (Ne.symm dp), upd_ne (Ne.symm l5p), upd_ne (Ne.symm ltp)]; exact g1, g2⟩
      · rintro σ' H8 ⟨kvs, mr, xr, ⟨u, z, rfl⟩, a5, at', ad, hml, hxr, hk, hiv, hxi, hnd, hcov, hmn, x8⟩
        rw [List.length_map] at hml
        have hm0 : mr = [] := List.eq_nil_of_length_eq_zero (by omega)
        subst hm0
        refine ⟨_, rfl, q d kvs H8 hdH x8 (gd_of ad hk (List.nodup_append.mp hnd).1 hiv fun n hn => ?_)⟩
        rcases hcov n (has n hn) with h | h
        · exact h
        · exact absurd h List.not_mem_nil
end
end K12
namespace K12
open PySem PySem.Spec PyProof.Rows L2 LG Evl
theorem tm_lk {c : TM.Cs} {H H1 : Hp} {d : Addr} {kvs : List (Key × V)} {v : V} {t : TM.Tree} (hd : H d = some (.dK kvs)) (e : ∀ b o, b ≠ d → H b = some o → H1 b = some o) (h : TM.TmAt c H v t) : TM.TmAt c H1 v t := by
  have k : ∀ {b : Addr} {o : HO}, H b = some o → (o ≠ .dK kvs) → H1 b = some o := fun {b o} hb hn => e b o (fun z => hn (by
    rw [z, hd] at hb
    cases hb
    rfl)) hb
  induction h with
  | place h => exact .place (k h (fun z => by cases z))
  | endd h => exact .endd (k h (fun z => by cases z))
  | lesser h hp hl _ ih => exact .lesser (k h (fun z => by cases z)) (k hp (fun z => by cases z)) hl ih
  | greater h hp hl _ ih => exact .greater (k h (fun z => by cases z)) (k hp (fun z => by cases z)) hl ih
/-! ### two values -/
theorem least2 {x y : V} (hx : Bd x) (hy : Bd y) : leastV [x, y] = shV (if num y < num x then num y else num x) := by
  refine (least_is (fun z hz => ?_) ?_ fun z hz => ?_).symm
  · simp only [List.mem_cons, List.not_mem_nil, or_false] at hz
    rcases hz with rfl | rfl
    · exact hx
    · exact hy
  · by_cases c : num y < num x
    · rw [if_pos c]; simp
    · rw [if_neg c]; simp
  · simp only [List.map_cons, List.map_nil, List.mem_cons, List.not_mem_nil, or_false] at hz
    by_cases c : num y < num x
    · rw [if_pos c]; omega
    · rw [if_neg c]; omega
theorem greatest2 {x y : V} (hx : Bd x) (hy : Bd y) : greatestV [x, y] = shV (if num y > num x then num y else num x) := by
  refine (greatest_is (fun z hz => ?_) ?_ fun z hz => ?_).symm
  · simp only [List.mem_cons, List.not_mem_nil, or_false] at hz
    rcases hz with rfl | rfl
    · exact hx
    · exact hy
  · by_cases c : num y > num x
    · rw [if_pos c]; simp
    · rw [if_neg c]; simp
  · simp only [List.map_cons, List.map_nil, List.mem_cons, List.not_mem_nil, or_false] at hz
    by_cases c : num y > num x
    · rw [if_pos c]; omega
    · rw [if_neg c]; omega
theorem least_bot {x : V} (hx : Bd x) : leastV [x, .str "bottom"] = .str "bottom" := by
  have := hx.le
  rw [least2 hx (.inl rfl), num_bot]
  by_cases c : -big < num x
  · rw [if_pos c, ← num_bot, Bd.sh (.inl rfl)]
  · rw [if_neg c, show num x = -big by omega, ← num_bot, Bd.sh (.inl rfl)]
theorem greatest_top {x : V} (hx : Bd x) : greatestV [x, .str "top"] = .str "top" := by
  have := hx.le
  rw [greatest2 hx (.inr (.inl rfl)), num_top]
  by_cases c : big > num x
  · rw [if_pos c, ← num_top, Bd.sh (.inr (.inl rfl))]
  · rw [if_neg c, show num x = big by omega, ← num_top, Bd.sh (.inr (.inl rfl))]
theorem valV_nums {kvs : List (Key × V)} {k : Key} {x : V} (h : valV kvs k = some x) : valV (numsOf kvs) k = some (.int (num x)) := by
  have : valV (numsOf kvs) k = (valV kvs k).map fun v => V.int (num v) := valV_map2 (g := fun v => V.int (num v))
  rw [this, h]
  rfl
section
variable {P : Program} {w : World} {K : PySem.W.Frag} {mg : Str → Option Value} {base : Heap} {a : At}
/-! ### terms made on the way -/
def TmP (a : At) (t : TM.Tree) (v : V) (H : Hp) : Prop := TM.TmAt (csOf a) H v t
theorem ep_tm {te : TE} {σ : L2.St} {H : Hp} {v : V} {t : TM.Tree} (h : Ev te σ H v) (ht : TM.TmAt (csOf a) H v t) : EvP te σ H (TmP a t) := ep_ev h fun _ e => ht.up e
theorem ep_and {ta tb : TE} {σ : L2.St} {H : Hp} {t t2 : TM.Tree} (h1 : EvP ta σ H (TmP a t)) (h2 : EvP tb σ H (TmP a t2)) : EvP (tOp (rAndT a) ta tb) σ H (TmP a (.lesser [t, t2])) := fun H1 e Q q =>
  h1 H1 e _ fun x H2 e2 p => h2 H2 (e.trans e2) _ fun y H3 e3 p2 => ⟨t, t2, p.up e3, p2, fun v H4 e4 hv => q v H4 ((e2.trans e3).trans e4) hv⟩
theorem ep_or {ta tb : TE} {σ : L2.St} {H : Hp} {t t2 : TM.Tree} (h1 : EvP ta σ H (TmP a t)) (h2 : EvP tb σ H (TmP a t2)) : EvP (tOp (rOrT a) ta tb) σ H (TmP a (.greater [t, t2])) := fun H1 e Q q =>
  h1 H1 e _ fun x H2 e2 p => h2 H2 (e.trans e2) _ fun y H3 e3 p2 => ⟨t, t2, p.up e3, p2, fun v H4 e4 hv => q v H4 ((e2.trans e3).trans e4) hv⟩
theorem ep_place {te : TE} {σ : L2.St} {H : Hp} {n : Str} {E : XK} (h : Ev te σ H (.str n)) (hn : n ∈ TM.names) : EvP (tMake a.k_Place (sp_Place_init K a) [] E (tCons te tNil)) σ H (TmP a (.place n)) := fun H1 e Q q =>
  h H1 e _ fun H2 e2 y dy hy hdy ne => ⟨y, dy, .str n, _, rfl, upd_same, .str _, fun _ => ⟨rfl, q _ _ (e2.trans (by rw [upd_upd]; exact (Ex.new hdy).trans (Ex.new (by rw [upd_ne (Ne.symm ne)]; exact hy)))) (.place upd_same)⟩, fun z => by rw [name_pl n hn] at z; cases z⟩
theorem ep_end {te : TE} {σ : L2.St} {H : Hp} {n : Str} {E : XK} (h : Ev te σ H (.str n)) (hn : n ∈ (["bottom", "top"] : List Str)) : EvP (tMake a.k_End (sp_End_init K a) [] E (tCons te tNil)) σ H (TmP a (.endd n)) := fun H1 e Q q =>
  h H1 e _ fun H2 e2 y dy hy hdy ne => ⟨y, dy, .str n, _, rfl, upd_same, .str _, fun _ => ⟨rfl, q _ _ (e2.trans (by rw [upd_upd]; exact (Ex.new hdy).trans (Ex.new (by rw [upd_ne (Ne.symm ne)]; exact hy)))) (.endd upd_same)⟩, fun z => by rw [(by decide +kernel : ∀ n ∈ (["bottom", "top"] : List Str), isEndS (.str n) = true) n hn] at z; cases z⟩
def rMin2 : List V → Hp → VK → Prop := fun xs H Q => ∃ i j, xs = [.int i, .int j] ∧ Q (.int (if j < i then j else i)) H
theorem ev_min2 {ta tb : TE} {σ : L2.St} {H : Hp} {i j : Int} (ha : Ev ta σ H (.int i)) (hb : Ev tb σ H (.int j)) : Ev (tCB rMin2 (tCons ta (tCons tb tNil))) σ H (.int (if j < i then j else i)) := fun H1 e Q q =>
  ha H1 e _ fun H2 e2 => hb H2 (e.trans e2) _ fun H3 e3 => ⟨i, j, rfl, q H3 (e2.trans e3)⟩
theorem ev_shown {te : TE} {σ : L2.St} {H : Hp} {i : Int} {E : XK} (h : Ev te σ H (.int i)) : Ev (tFn sp__law_shown E (tCons te tNil)) σ H (shV i) := ev_fn (ea_cons h ea_nil) fun H1 e Q q E => ⟨i, rfl, q⟩
theorem bd_pair {x y : V} (hx : Bd x) (hy : Bd y) : Shows (.list [dV x, dV y]) := by
  refine (sm_list (ds := [dV x, dV y]) (k := 0) (n := 240) (m := 2) (fun z hz => ?_) (Nat.le_refl 2)).shows (by decide) (by decide)
  simp only [List.mem_cons, List.not_mem_nil, or_false] at hz
  rcases hz with rfl | rfl
  · exact (bd_flat hx).2
  · exact (bd_flat hy).2
theorem ok2 {t : TM.Tree} {n : Str} (ok : TM.Ok t) (hn : n ∈ TM.names) : TM.Ok (.lesser [t, .place n]) ∧ TM.Ok (.greater [.place n, t]) :=
  ⟨.lesser (.inl rfl) (by simpa using ⟨ok, TM.Ok.place hn⟩), .greater (.inl rfl) (by simpa using ⟨TM.Ok.place hn, ok⟩)⟩
theorem DictFor.of {H : Hp} {d : Addr} {kvs : List (Key × V)} {t u : TM.Tree} (h : DictFor H d kvs t) (hu : ∀ n ∈ u.places, n ∈ t.places ∨ (valV kvs (Sum.inr n)).isSome = true) : DictFor H d kvs u := ⟨h.at_, h.good, h.bd, fun n hn => (hu n hn).elim (h.has n) id⟩
theorem el_rep2 {te : TE} {σ : L2.St} {H : Hp} {x : V} (h : EvL te σ H [x]) : EvL (tOp rRep te (tC (.int 2))) σ H [x, x] := fun H1 e Q q =>
  h H1 e _ fun l H2 hl e2 h2 => ⟨l, 2, [x], rfl, rfl, h2, by decide, by decide, sz_of (by show 1 * 2 ≤ 100000; decide), fun p hp => q p _ (fresh_back e2 hp) (e2.trans (Ex.new hp)) upd_same⟩
theorem dpp {te : TE} {σ : L2.St} {H : Hp} {x : V} (h : Ev te σ H x) (hx : Bd x) : EvP te σ H (DpP K (dV x)) := ep_ev h fun _ _ => dp_flat (bd_flat hx).1
theorem val_l2 {f : Str → V} {t u : TM.Tree} : val f (.lesser [t, u]) = leastV [val f t, val f u] := by
  rw [val, valAll, valAll, valAll]
theorem val_g2 {f : Str → V} {t u : TM.Tree} : val f (.greater [t, u]) = greatestV [val f t, val f u] := by
  rw [val, valAll, valAll, valAll]
def sp__law_signs_right (a : At) : Sp := fun vs H Q _ => ∃ (S : Addr → Prop) (m v : V) (t : TM.Tree) (d : Addr) (kvs : List (Key × V)), vs = [m, v, .ref d] ∧ TM.TmAt (csOf a) H m t ∧ TM.MdAt S H v t ∧ TM.Ok t ∧ t.depth ≤ 3 ∧ GD H d kvs t ∧ ∀ H', Ex H H' → Q (.bl true) H'
theorem ok__law_signs_right (T : Txt K mg a) (F : Files P K a) : Fn P w K mg base 11 a._law_signs_right (sp__law_signs_right a) := by
  obtain ⟨fdP, FP, bP⟩ := ok_Place_init (P := P) (w := w) (mg := mg) (base := base) T F.place F.top
  obtain ⟨fdE, FE, bE⟩ := ok_End_init (P := P) (w := w) (mg := mg) (base := base) T F.endd F.top
  have G__law_numbers := ok__law_numbers (P := P) (w := w) (base := base) T
  have G__law_of := ok__law_of (P := P) (w := w) (base := base) T 4
  have G__law_shown := ok__law_shown (P := P) (w := w) (base := base) T
  have G_at := fn_Term_at (P := P) (w := w) (base := base) T
  refine T.d__law_signs_right.fn sc__law_signs_right (fun _ _ _ _ _ _ us hl => match us, hl with | [_, _, _], _ => rfl) (fun vs H Q E h => ?_) (fun cdv A outer s H vs Q E hg hr h => ?_)
  · obtain ⟨_, _, _, _, _, _, rfl, _⟩ := h
    rfl
  · obtain ⟨S, m, v, t, d, kvs, rfl, tm, md, ok, hd3, gd, q⟩ := h
    have nd := sc__law_signs_right.nd
    have hu := hu_of hr
    have hu64 : (A.deeper _).units + 64 < cLine := hr.units
    have hr2 := hr.mono (j := 2) (by decide)
    have hr7 := hr.mono (j := 7) (by decide)
    have hr9 := hr.mono (j := 9) (by decide)
    refine ⟨_, (pss_cons (ps_set (i := 3) nd rfl (.inl rfl) (pe_fn G__law_numbers hg (hr.mono (by decide)) T.d__law_numbers.kp T.d__law_numbers.m (by rfl) passL (pa_cons (pv 2) pa_nil)))
    (pss_cons (ps_par3 (i := 5) (j := 6) (l := 7) rfl nd rfl rfl rfl (by decide) (by decide) (by decide) rfl rfl rfl (pa_cons (pe_fn G__law_of hg (hr.mono (by decide)) T.d__law_of.kp T.d__law_of.m (by rfl) passL (pa_cons (pv 1) (pa_cons (pv 3) pa_nil))) (pa_cons (pe_op (op_and_tm (E := E0) T F hg hr7 passL) (pv 0) (pe_make T.mk_End FE (hr.mono (by decide)) (by rfl) T.g_End.m bE .nil passL (pa_cons pe_str pa_nil))) (pa_cons (pe_op (op_or_tm (E := E0) T F hg hr7 passL) (pv 0) (pe_make T.mk_End FE (hr.mono (by decide)) (by rfl) T.g_End.m bE .nil passL (pa_cons pe_str pa_nil))) pa_nil))) (by rfl))
    (pss_cons (ps_if (pt_cmpR op_ne (pe_callB (call_reprZ hg hu64) (by rfl) T.z_repr (by decide +kernel) (pa_cons (pe_lst (pa_cons (pe_methA (E := E0) (G := IsT a) (pv 6) (g_at T) G_at hg hr9 passL (pa_cons (pv 2) pa_nil)) (pa_cons (pe_methA (E := E0) (G := IsT a) (pv 7) (g_at T) G_at hg hr9 passL (pa_cons (pv 2) pa_nil)) pa_nil))) pa_nil)) (pe_callB (call_reprZ hg hu64) (by rfl) T.z_repr (by decide +kernel) (pa_cons (pe_lst (pa_cons pe_str (pa_cons pe_str pa_nil))) pa_nil)) (nomark _)) (pss_one (ps_ret pe_bl)) pss_nil)
    (pss_cons (ps_lock (ps_for PassesOwn.leaving rfl (pi_keysO (pv 2)) (pg_name (i := 4) nd rfl (.inl rfl))
      (pss_cons (ps_par (i := 9) (j := 10) rfl nd rfl rfl (by decide) rfl rfl (pa_cons (pe_op (op_and_tm (E := E0) T F hg hr7 passL) (pv 0) (pe_make T.mk_Place FP (hr.mono (by decide)) (by rfl) T.g_Place.m bP .nil passL (pa_cons (pv 4) pa_nil))) (pa_cons (pe_op (op_or_tm (E := E0) T F hg hr7 passL) (pe_make T.mk_Place FP (hr.mono (by decide)) (by rfl) T.g_Place.m bP .nil passL (pa_cons (pv 4) pa_nil)) (pv 0)) pa_nil)) (by rfl))
        (pss_cons (ps_set (i := 8) nd rfl (.inl rfl) (pe_lst (pa_cons (pe_fn G__law_shown hg (hr.mono (by decide)) T.d__law_shown.kp T.d__law_shown.m (by rfl) passL (pa_cons (pe_callB (r := rMin2) (call_min2 rfl) (by rfl) T.z_min (by decide +kernel) (pa_cons (pv 5) (pa_cons (pe_dget hu (pv 3) (pv 4) (fun _ _ => rfl)) pa_nil))) pa_nil)) (pa_cons (pe_fn G__law_shown hg (hr.mono (by decide)) T.d__law_shown.kp T.d__law_shown.m (by rfl) passL (pa_cons (pe_callB (r := rMax2) (call_max2 rfl) (by rfl) T.z_max (by decide +kernel) (pa_cons (pv 5) (pa_cons (pe_dget hu (pv 3) (pv 4) (fun _ _ => rfl)) pa_nil))) pa_nil)) pa_nil))))
        (pss_cons (ps_if (pt_cmpR op_ne (pe_callB (call_reprZ hg hu64) (by rfl) T.z_repr (by decide +kernel) (pa_cons (pe_lst (pa_cons (pe_methA (E := E0) (G := IsT a) (pv 9) (g_at T) G_at hg hr9 passL (pa_cons (pv 2) pa_nil)) (pa_cons (pe_methA (E := E0) (G := IsT a) (pv 10) (g_at T) G_at hg hr9 passL (pa_cons (pv 2) pa_nil)) pa_nil))) pa_nil)) (pe_callB (call_reprZ hg hu64) (by rfl) T.z_repr (by decide +kernel) (pa_cons (pv 8) pa_nil)) (nomark _)) (pss_one (ps_ret pe_bl)) pss_nil)
        (pss_cons (ps_if (PW.pt (pw_or (pt_not (pt_val (pe_callB call_isi (by rfl) T.z_isinstance (by decide +kernel) (pa_cons (pv 9) (pa_cons (pe_glob (v := .ref a.k_Lesser) (by rfl) T.g_Lesser.m rfl) pa_nil))))) (pw_or1 (pt_not (pt_val (pe_callB call_isi (by rfl) T.z_isinstance (by decide +kernel) (pa_cons (pv 10) (pa_cons (pe_glob (v := .ref a.k_Greater) (by rfl) T.g_Greater.m rfl) pa_nil)))))))) (pss_one (ps_ret pe_bl)) pss_nil)
        (pss_one (ps_if (pt_cmpR (op_neP hu64) (pe_lst (pa_cons (pe_getA (G := gDepth a) (CX := CX0) (pv 9) (g_depth T) hr2 pass0 rfl) (pa_cons (pe_getA (G := gDepth a) (CX := CX0) (pv 10) (g_depth T) hr2 pass0 rfl) pa_nil))) (pe_op op_rep (pe_lst (pa_cons (pe_op op_add pe_int (pe_getA (G := gDepth a) (CX := CX0) (pv 0) (g_depth T) hr2 pass0 rfl)) pa_nil)) pe_int) (nomark _)) (pss_one (ps_ret pe_bl)) pss_nil))))))))
    (pss_one (ps_ret pe_bl)))))), ?_⟩
    have hs := gd.f.hs
    have bt := val_bd ok hs
    have hend : ∀ n ∈ (["bottom", "top"] : List Str), TM.Ok (.endd n) := fun n hn => .endd hn
    have okL : TM.Ok (.lesser [t, .endd "bottom"]) := .lesser (.inl rfl) (by simpa using ⟨ok, hend "bottom" (by decide)⟩)
    have okG : TM.Ok (.greater [t, .endd "top"]) := .greater (.inl rfl) (by simpa using ⟨ok, hend "top" (by decide)⟩)
    have dL : (TM.Tree.lesser [t, .endd "bottom"]).depth ≤ 4 := by simp [TM.Tree.depth, TM.Tree.depthAll]; omega
    have dG : (TM.Tree.greater [t, .endd "top"]).depth ≤ 4 := by simp [TM.Tree.depth, TM.Tree.depthAll]; omega
    refine ⟨.ref d, rfl, d, kvs, rfl, gd.at_, gd.f.good.len, gd.nd, fun kv h => gd.f.good.val kv h, fun pn H1 hpn e1 h1 => ?_⟩
    refine ⟨v, rfl, .ref pn, rfl, S, v, t, pn, kvs, rfl, md.ex e1, ok, by omega, h1, hs, fun H2 e2 => ?_⟩
    refine ep_and (a := a) (t := t) (t2 := .endd "bottom") (ep_tm (ev_var rfl) (tm.up (e1.trans e2))) (ep_end ev_c (by decide)) H2 (Ex.refl _) _ fun lo H3 e3 tlo => ?_
    refine ep_or (a := a) (t := t) (t2 := .endd "top") (ep_tm (ev_var rfl) (tm.up ((e1.trans e2).trans e3))) (ep_end ev_c (by decide)) H3 (Ex.refl _) _ fun hi H4 e4 thi => ⟨_, _, _, rfl, ?_⟩
    have e04 := ((e1.trans e2).trans e3).trans e4
    have h4 := ((e2.trans e3).trans e4) _ _ h1
    have tlo : TM.TmAt (csOf a) H4 lo (.lesser [t, .endd "bottom"]) := TM.TmAt.up e4 tlo
    have thi : TM.TmAt (csOf a) H4 hi (.greater [t, .endd "top"]) := thi
    have b1 : Bd (.str "bottom") := .inl rfl
    have b2 : Bd (.str "top") := .inr (.inl rfl)
    refine q_when (b := false) (et_neF (x := .str (PyData.list [dV (.str "bottom"), dV (.str "top")]).shown) (ev_reprP (ep_lst2
        (dpp (ev_is (ev_at (ev_var rfl) (ev_var rfl) tlo okL dL ((gd.f.up e04).of fun n hn => .inl (by simpa [TM.Tree.places, TM.Tree.placesAll] using hn))) (by rw [val_l2, val]; exact least_bot bt)) b1)
        (dpp (ev_is (ev_at (ev_var rfl) (ev_var rfl) thi okG dG ((gd.f.up e04).of fun n hn => .inl (by simpa [TM.Tree.places, TM.Tree.placesAll] using hn))) (by rw [val_g2, val]; exact greatest_top bt)) b2)) (bd_pair b1 b2))
        (ev_reprP (ep_lst2 (dpp ev_c b1) (dpp ev_c b2)) (bd_pair b1 b2)) rfl) (fun z => nomatch z) fun _ H5 e5 => ?_
    have e05 := e04.trans e5
    have hd5 := e05 _ _ gd.at_
    have pnd : pn ≠ d := fun z => by rw [z, gd.at_] at hpn; cases hpn
    have hp5 := e5 _ _ h4
    have tm5 := tm.up e05
    refine ⟨d, .dK kvs, hd5, True.intro, fun od => ?_⟩
    have tmL : TM.TmAt (csOf a) (upd H5 d (.frz od (.dK kvs))) m t := tm_lk hd5 (fun b o bd e => by rw [upd_ne bd]; exact e) tm5
    have hpL : (upd H5 d (.frz od (.dK kvs))) pn = some (.dK (numsOf kvs)) := by rw [upd_ne pnd]; exact hp5
    have hdL : (upd H5 d (.frz od (.dK kvs))) d = some (.frz od (.dK kvs)) := upd_same
    refine keys_wk (DkAt.k hd5) rfl fun J wk => ?_
    have back : ∀ H', Ex (upd H5 d (.frz od (.dK kvs))) H' → Ex H5 (upd H' d (.dK kvs)) := fun H' e b o z => by
      by_cases hb : b = d
      · rw [hb] at z ⊢
        rw [upd_same, ← z, hd5]
      · rw [upd_ne hb]
        exact e b o (by rw [upd_ne hb]; exact z)
    generalize upd H5 d (.frz od (.dK kvs)) = HL at *
    refine for_it wk (fun i σ' H' => Ex HL H' ∧ ∃ u4 u8 u9 u10, σ' = [some m, some v, some (.ref d), some (.ref pn), u4, some (.int (num (val (fD kvs) t))), some lo, some hi, u8, u9, u10]) ⟨Ex.refl _, _, _, _, _, rfl⟩ (fun i σ' H' _ h => h.1 _ _ hdL) ?_ ?_
    · rintro i x σ' H6 hx ⟨e6, u4, u8, u9, u10, rfl⟩
      rw [List.getElem?_map] at hx
      obtain ⟨kv, hkv, rfl⟩ := Option.map_eq_some_iff.mp hx
      have hm := List.mem_of_getElem? hkv
      obtain ⟨n, hn, ek⟩ := gd.f.good.key kv hm
      have hv := gd.f.good.look kv hm
      have bv := gd.f.bd kv hm
      rw [ek] at hv ⊢
      have df : ∀ {H' : Hp}, Ex HL H' → ∀ {u : TM.Tree}, (∀ k ∈ u.places, k ∈ t.places ∨ k = n) → DictFor H' d kvs u := fun {H'} e {u} hu => ⟨.inr ⟨od, e _ _ hdL⟩, gd.f.good, gd.f.bd, fun k hk => (hu k hk).elim (gd.f.has k) fun z => by rw [z, hv]; rfl⟩
      obtain ⟨ok1, ok2⟩ := ok2 ok hn
      refine ep_and (a := a) (t := t) (t2 := .place n) (ep_tm (ev_var rfl) (tmL.up e6)) (ep_place (ev_var rfl) hn) H6 (Ex.refl _) _ fun le H7 e7 tle => ?_
      refine ep_or (a := a) (t := .place n) (t2 := t) (ep_place (ev_var rfl) hn) (ep_tm (ev_var rfl) (tmL.up (e6.trans e7))) H7 (Ex.refl _) _ fun mo H8 e8 tmo => ⟨_, _, rfl, ?_⟩
      have e08 := (e6.trans e7).trans e8
      have tle : TM.TmAt (csOf a) H8 le (.lesser [t, .place n]) := TM.TmAt.up e8 tle
      have tmo : TM.TmAt (csOf a) H8 mo (.greater [.place n, t]) := tmo
      have d1 : (TM.Tree.lesser [t, .place n]).depth = t.depth + 1 := by simp [TM.Tree.depth, TM.Tree.depthAll]
      have d2 : (TM.Tree.greater [.place n, t]).depth = t.depth + 1 := by simp [TM.Tree.depth, TM.Tree.depthAll]
      have fn : fD kvs n = kv.2 := by unfold fD; rw [hv]; rfl
      have v1 : val (fD kvs) (.lesser [t, .place n]) = shV (if num kv.2 < num (val (fD kvs) t) then num kv.2 else num (val (fD kvs) t)) := by
        rw [val_l2, val, fn]
        exact least2 bt bv
      have v2 : val (fD kvs) (.greater [.place n, t]) = shV (if num kv.2 > num (val (fD kvs) t) then num kv.2 else num (val (fD kvs) t)) := by
        rw [val_g2, val, fn, greatest2 bv bt]
        congr 1
        by_cases c : num kv.2 > num (val (fD kvs) t)
        · rw [if_pos c, if_neg (by omega)]
        · rw [if_neg c]
          by_cases c2 : num (val (fD kvs) t) > num kv.2
          · rw [if_pos c2]
          · rw [if_neg c2]; omega
      have bd1 : Bd (val (fD kvs) (.lesser [t, .place n])) := val_bd ok1 (df (Ex.refl _) fun k hk => by simpa [TM.Tree.places, TM.Tree.placesAll] using hk).hs
      have bd2 : Bd (val (fD kvs) (.greater [.place n, t])) := val_bd ok2 (df (Ex.refl _) fun k hk => by simpa [TM.Tree.places, TM.Tree.placesAll, or_comm] using hk).hs
      have num_at : ∀ {σ : L2.St} {H' : Hp}, Ex HL H' → σ[3]? = some (some (.ref pn)) → σ[4]? = some (some (.str n)) → Ev (tDGet (tVar 3) (tVar 4)) σ H' (.int (num kv.2)) := fun e s3 s4 => ev_dgetR (k := Sum.inr n) (ev_var s3) (ev_var s4) (.inl (e _ _ hpL)) (valV_nums hv)
      refine q_asgL (xs := [val (fD kvs) (.lesser [t, .place n]), val (fD kvs) (.greater [.place n, t])]) (el_lst (ea_cons (ev_is (ev_shown (ev_min2 (ev_var rfl) (num_at e08 rfl rfl))) v1.symm) (ea_cons (ev_is (ev_shown (ev_max2 (ev_var rfl) (num_at e08 rfl rfl))) v2.symm) ea_nil)) (by show 2 ≤ 100000; decide)) fun l9 H9 hl9 e9 h9 => ?_
      have e09 := e08.trans e9
      refine q_when (b := false) (et_neF (x := .str (PyData.list [dV (val (fD kvs) (.lesser [t, .place n])), dV (val (fD kvs) (.greater [.place n, t]))]).shown) (ev_reprP (ep_lst2
        (dpp (ev_at (ev_var rfl) (ev_var rfl) (tle.up e9) ok1 (by omega) (df e09 fun k hk => by simpa [TM.Tree.places, TM.Tree.placesAll] using hk)) bd1)
        (dpp (ev_at (ev_var rfl) (ev_var rfl) (tmo.up e9) ok2 (by omega) (df e09 fun k hk => by simpa [TM.Tree.places, TM.Tree.placesAll, or_comm] using hk)) bd2)) (bd_pair bd1 bd2))
        (ev_reprV (ev_var rfl) (.lst (sq_of h9) (.cons (dp_flat (bd_flat bd1).1) (.cons (dp_flat (bd_flat bd2).1) .nil))) (bd_pair bd1 bd2)) rfl) (fun z => nomatch z) fun _ H10 e10 => ?_
      have e810 := e9.trans e10
      obtain ⟨C1, ty1, _, _, k3, _⟩ := tm_kinds T (tle.up e810)
      obtain ⟨C2, ty2, _, _, _, k4⟩ := tm_kinds T (tmo.up e810)
      refine q_when (b := false) (et_is (et_or (et_not (et_test (ev_isK (ev_var rfl) ty1 k3))) fun _ => et_not (et_test (ev_isK (ev_var rfl) ty2 k4))) (by show (!decide (V.str ("lesser" : Str) = V.str "lesser") || !decide (V.str ("greater" : Str) = V.str "greater")) = false; decide +kernel)) (fun z => nomatch z) fun _ H11 e11 => ?_
      have e811 := e810.trans e11
      have e011 := e08.trans e811
      refine s_when (b := false) (et_is (a := !PyData.eqv (.list [.int ((t.depth + 1 : Nat) : Int), .int ((t.depth + 1 : Nat) : Int)]) (.list [.int ((t.depth + 1 : Nat) : Int), .int ((t.depth + 1 : Nat) : Int)])) (et_test (ev_opLL (el_lst (ea_cons (ev_is (ev_depth (ev_var rfl) (tle.up e811)) (by rw [d1])) (ea_cons (ev_is (ev_depth (ev_var rfl) (tmo.up e811)) (by rw [d2])) ea_nil)) (by show 2 ≤ 100000; decide))
        (el_rep2 (el_lst (ea_cons (ev_is (w := .int ((t.depth + 1 : Nat) : Int)) (ev_op ev_c (ev_depth (ev_var rfl) (tmL.up e011)) rv_I0) (by congr 1; push_cast; omega)) ea_nil) (by show 1 ≤ 100000; decide))) fun p8 q8 H12 hp8 hq8 e12 => fun H13 e13 Q' q' => ?_)) ?_) (fun z => nomatch z) fun _ H12 e12 => ?_
      · refine ⟨_, _, .lst (sq_of (e13 _ _ hp8)) (.cons (.int _) (.cons (.int _) .nil)), .lst (sq_of (e13 _ _ hq8)) (.cons (.int _) (.cons (.int _) .nil)), by simp [PyData.plain, PyData.plainAll], by simp [PyData.plain, PyData.plainAll], by simp [PyData.depth, PyData.depthAll], q' H13 (Ex.refl _)⟩
      · rw [SeqAt.eqv_refl_plain _ (by simp [PyData.plain, PyData.plainAll])]
        rfl
      · exact ⟨e011.trans e12, _, _, _, _, rfl⟩
    · rintro σ' H6 ⟨e6, u4, u8, u9, u10, rfl⟩
      exact ⟨e6 _ _ hdL, q _ (e05.trans (back _ e6))⟩
end
end K12
namespace K12
open PySem PySem.Spec PyProof.Rows L2 LG Evl
/-! ### data of dicts -/
theorem sm_kv {k n : Nat} : ∀ {ds : List (PyData × PyData)}, (∀ d ∈ ds, Sm k n d.1 ∧ Sm k n d.2) → PyData.leavesShortKv 72 ds = true ∧ PyData.showableKv ds = true ∧ PyData.depthKv ds ≤ k ∧ PyData.weightKv ds ≤ ds.length * (2 * n + 2)
  | [], _ => ⟨rfl, rfl, by simp only [PyData.depthKv]; omega, by simp only [PyData.weightKv]; omega⟩
  | (d, e) :: ds, h => by
    obtain ⟨⟨a1, a2, a3, a4⟩, c1, c2, c3, c4⟩ := h (d, e) List.mem_cons_self
    obtain ⟨b1, b2, b3, b4⟩ := sm_kv fun y hy => h y (List.mem_cons_of_mem _ hy)
    refine ⟨?_, ?_, ?_, ?_⟩
    · simp only [PyData.leavesShortKv, a1, b1, c1, Bool.and_self]
    · simp only [PyData.showableKv, a2, b2, c2, Bool.and_self]
    · simp only [PyData.depthKv]
      dsimp only at *
      omega
    · simp only [PyData.weightKv, List.length_cons, Nat.add_mul]
      dsimp only at *
      omega
theorem sm_dict {k n m : Nat} {ds : List (PyData × PyData)} (h : ∀ d ∈ ds, Sm k n d.1 ∧ Sm k n d.2) (hl : ds.length ≤ m) : Sm (k + 1) (m * (2 * n + 2)) (.dict ds) := by
  obtain ⟨b1, b2, b3, b4⟩ := sm_kv h
  refine ⟨by simp only [PyData.leavesShort]; exact b1, by simp only [PyData.showable]; exact b2, by simp only [PyData.depth]; omega, ?_⟩
  simp only [PyData.weight]
  exact Nat.le_trans b4 (Nat.mul_le_mul_right _ hl)
/-- small data stands for v -/
def DzS (K : PySem.W.Frag) (H : Hp) (k n : Nat) (v : V) : Prop := ∃ d, Dz K H v d ∧ Sm k n d
theorem DzS.mono {K : PySem.W.Frag} {H : Hp} {k n j m : Nat} {v : V} (h : DzS K H k n v) (h1 : k ≤ j) (h2 : n ≤ m) : DzS K H j m v := let ⟨d, a, b⟩ := h; ⟨d, a, b.mono h1 h2⟩
theorem DzS.up {K : PySem.W.Frag} {H H' : Hp} {k n : Nat} {v : V} (e : Ex H H') (h : DzS K H k n v) : DzS K H' k n v := let ⟨d, a, b⟩ := h; ⟨d, a.up e, b⟩
theorem dz_get {α β : Type} {R : α → β → Prop} : ∀ {xs : List α}, (∀ x ∈ xs, ∃ d, R x d) → ∃ ds : List β, xs.length = ds.length ∧ (∀ (i : Nat) (x : α) (d : β), xs[i]? = some x → ds[i]? = some d → R x d) ∧ ∀ d ∈ ds, ∃ x, R x d
  | [], _ => ⟨[], rfl, fun i x d h => by simp at h, fun d h => absurd h List.not_mem_nil⟩
  | x :: xs, h => by
    obtain ⟨d, hd⟩ := h x List.mem_cons_self
    obtain ⟨ds, h1, h2, h3⟩ := dz_get fun y hy => h y (List.mem_cons_of_mem _ hy)
    refine ⟨d :: ds, by simp [h1], fun i y e a b => ?_, fun e he => ?_⟩
    · match i, a, b with
      | 0, a, b => cases a; cases b; exact hd
      | i + 1, a, b => exact h2 i y e a b
    · rcases List.mem_cons.mp he with rfl | he
      · exact ⟨x, hd⟩
      · exact h3 e he
theorem dz_lst {K : PySem.W.Frag} {H : Hp} {a : Addr} {xs : List V} {k n m : Nat} (h : H a = some (.lst xs)) (hx : ∀ x ∈ xs, DzS K H k n x) (hl : xs.length ≤ m) (hn : a ≠ sysModules) : DzS K H (k + 1) (m * (n + 1)) (.ref a) := by
  obtain ⟨ds, h1, h2, h3⟩ := dz_get hx
  exact ⟨.list ds, .lst (sq_of h) h1 (fun i x d a b => (h2 i x d a b).1) hn, sm_list (fun d hd => let ⟨_, z⟩ := h3 d hd; z.2) (h1 ▸ hl)⟩
theorem dz_tup {K : PySem.W.Frag} {H : Hp} {a : Addr} {xs : List V} {k n m : Nat} (h : H a = some (.tup xs)) (hx : ∀ x ∈ xs, DzS K H k n x) (hl : xs.length ≤ m) : DzS K H (k + 1) (m * (n + 1)) (.ref a) := by
  obtain ⟨ds, h1, h2, h3⟩ := dz_get hx
  exact ⟨.tuple ds, .tup (st_of h) h1 (fun i x d a b => (h2 i x d a b).1), sm_tuple (fun d hd => let ⟨_, z⟩ := h3 d hd; z.2) (h1 ▸ hl)⟩
theorem dz_dic {K : PySem.W.Frag} {H : Hp} {a : Addr} {kvs : List (Key × V)} {k n m : Nat} (h : H a = some (.dK kvs)) (hx : ∀ x ∈ kvs, DzS K H k n (kV x.1) ∧ DzS K H k n x.2) (hl : kvs.length ≤ m) : DzS K H (k + 1) (m * (2 * n + 2)) (.ref a) := by
  obtain ⟨ds, h1, h2, h3⟩ := dz_get (R := fun (x : Key × V) (d : PyData × PyData) => (Dz K H (kV x.1) d.1 ∧ Sm k n d.1) ∧ Dz K H x.2 d.2 ∧ Sm k n d.2) fun x hx' => let ⟨⟨d, a⟩, e, b⟩ := hx x hx'; ⟨(d, e), a, b⟩
  exact ⟨.dict ds, .dic h h1 (fun i x d a b => (h2 i x d a b).1.1) (fun i x d a b => (h2 i x d a b).2.1), sm_dict (fun d hd => let ⟨_, z⟩ := h3 d hd; ⟨z.1.2, z.2.2⟩) (h1 ▸ hl)⟩
theorem dz_odd {K : PySem.W.Frag} {H : Hp} {a : Addr} {kvs : List (V × V)} {k n m : Nat} (h : H a = some (odE a kvs)) (hx : ∀ x ∈ kvs, DzS K H k n x.1 ∧ DzS K H k n x.2) (hl : kvs.length ≤ m) : DzS K H (k + 1) (m * (2 * n + 2)) (.ref a) := by
  obtain ⟨ds, h1, h2, h3⟩ := dz_get (R := fun (x : V × V) (d : PyData × PyData) => (Dz K H x.1 d.1 ∧ Sm k n d.1) ∧ Dz K H x.2 d.2 ∧ Sm k n d.2) fun x hx' => let ⟨⟨d, a⟩, e, b⟩ := hx x hx'; ⟨(d, e), a, b⟩
  exact ⟨.dict ds, .odd h h1 (fun i x d a b => (h2 i x d a b).1.1) (fun i x d a b => (h2 i x d a b).2.1), sm_dict (fun d hd => let ⟨_, z⟩ := h3 d hd; ⟨z.1.2, z.2.2⟩) (h1 ▸ hl)⟩
theorem dz_str {K : PySem.W.Frag} {H : Hp} {x : Str} (h : (x.cps.toList.all fun c => decide (c < 16 ^ 8)) = true) (hl : x.cps.size ≤ 240) : DzS K H 0 240 (.str x) := ⟨.str x, .q (.str x), sm_str h hl⟩
theorem dz_name {K : PySem.W.Frag} {H : Hp} {x : Str} (h : x ∈ TM.names) : DzS K H 0 240 (.str x) := ⟨.str x, .q (.str x), name_sm x h⟩
theorem dz_bl {K : PySem.W.Frag} {H : Hp} {b : Bool} : DzS K H 0 240 (.bl b) := ⟨.bool b, .q (.bl b), sm_bool⟩
theorem dz_non {K : PySem.W.Frag} {H : Hp} : DzS K H 0 240 .non := ⟨.none, .q .non, sm_none⟩
theorem dz_int {K : PySem.W.Frag} {H : Hp} {i : Int} (h : i.natAbs < 10 ^ 70) : DzS K H 0 240 (.int i) := ⟨.int i, .q (.int i), sm_int h⟩
theorem dz_bd {K : PySem.W.Frag} {H : Hp} {v : V} (h : Bd v) : DzS K H 0 240 v := by
  refine ⟨dV v, .q ?_, (bd_flat h).2⟩
  rcases h with rfl | rfl | ⟨i, rfl, _⟩
  · exact .str _
  · exact .str _
  · exact .int i
/-! ### what is wrong -/
/-- u is refused, and shown as small data -/
def Bz (K : PySem.W.Frag) (H : Hp) (ns : List Str) (u : V) : Prop := BadV H ns u ∧ DzS K H 4 40000 u
theorem Bz.up {K : PySem.W.Frag} {H H' : Hp} {ns : List Str} {u : V} (e : Ex H H') (h : Bz K H ns u) : Bz K H' ns u := ⟨h.1.up e, h.2.up e⟩
/-- a value that is none -/
structure OddV (K : PySem.W.Frag) (H : Hp) (x : V) : Prop where
  no : isValB x = false
  kn : ∃ t, Kn H x t
  dz : DzS K H 2 600 x
theorem OddV.up {K : PySem.W.Frag} {H H' : Hp} {x : V} (e : Ex H H') (h : OddV K H x) : OddV K H' x := ⟨h.no, let ⟨t, z⟩ := h.kn; ⟨t, z.up e⟩, h.dz.up e⟩
theorem all_false {α : Type} {xs : List α} {f : α → Bool} {x : α} (h : x ∈ xs) (hf : f x = false) : (xs.map f).all id = false := by
  rw [List.all_map, Bool.eq_false_iff]
  intro z
  have := List.all_eq_true.mp z x h
  rw [Function.comp, hf] at this
  cases this
theorem put_nodup {kvs : List (Key × V)} {k : Key} {v : V} (nd : (kvs.map (·.1)).Nodup) : ((putK kvs k v).map (·.1)).Nodup := by
  unfold putK
  by_cases c : (kvs.any fun kv => decide (kv.1 = k)) = true
  · rw [if_pos c, List.map_map]
    have : ((fun x : Key × V => x.1) ∘ fun kv => if kv.1 = k then (kv.1, v) else kv) = fun x => x.1 := by
      funext x
      by_cases e : x.1 = k
      · simp only [Function.comp, if_pos e]
      · simp only [Function.comp, if_neg e]
    rw [this]
    exact nd
  · rw [if_neg c, List.map_append]
    refine List.nodup_append.mpr ⟨nd, by simp, fun x hx y hy e => c ?_⟩
    obtain ⟨kv, hkv, rfl⟩ := List.mem_map.mp hx
    rw [List.map_cons, List.map_nil, List.mem_singleton] at hy
    rw [List.any_eq_true]
    exact ⟨kv, hkv, decide_eq_true (e.trans hy)⟩
theorem put_mem {kvs : List (Key × V)} {k : Key} {v : V} : ∀ kv ∈ putK kvs k v, (kv ∈ kvs ∨ kv = (k, v)) := by
  intro kv h
  unfold putK at h
  by_cases c : (kvs.any fun kv => decide (kv.1 = k)) = true
  · rw [if_pos c] at h
    obtain ⟨x, hx, rfl⟩ := List.mem_map.mp h
    by_cases e : x.1 = k
    · rw [if_pos e, ← e]; exact .inr rfl
    · rw [if_neg e]; exact .inl hx
  · rw [if_neg c] at h
    rcases List.mem_append.mp h with h | h
    · exact .inl h
    · exact .inr (List.mem_singleton.mp h)
theorem put_in {kvs : List (Key × V)} {k : Key} {v : V} : (k, v) ∈ putK kvs k v := by
  unfold putK
  by_cases c : (kvs.any fun kv => decide (kv.1 = k)) = true
  · rw [if_pos c]
    obtain ⟨x, hx, e⟩ := List.any_eq_true.mp c
    have e := of_decide_eq_true e
    exact List.mem_map.mpr ⟨x, hx, by rw [if_pos e, e]⟩
  · rw [if_neg c]
    exact List.mem_append_right _ List.mem_cons_self
/-- the dicts of values, told alone -/
structure Gk (kvs : List (Key × V)) : Prop where
  key : ∀ kv ∈ kvs, ∃ n, n ∈ TM.names ∧ kv.1 = Sum.inr n
  nd : (kvs.map (·.1)).Nodup
  inv : ∀ kv ∈ kvs, InV kv.2
theorem GD.gk {H : Hp} {d : Addr} {kvs : List (Key × V)} {t : TM.Tree} (h : GD H d kvs t) : Gk kvs := ⟨h.f.good.key, h.nd, h.inv⟩
theorem Gk.len {kvs : List (Key × V)} (h : Gk kvs) : kvs.length ≤ 8 := keys_few h.key h.nd
theorem Gk.good {kvs : List (Key × V)} (h : Gk kvs) : GoodD kvs [] := ⟨Nat.le_trans h.len (by decide), h.key, look_of h.nd, fun kv z => (h.inv kv z).val, fun n z => absurd z List.not_mem_nil⟩
theorem Gk.dz {K : PySem.W.Frag} {H : Hp} {kvs : List (Key × V)} (h : Gk kvs) {k n : Nat} (hn : 240 ≤ n) : ∀ x ∈ kvs, DzS K H k n (kV x.1) ∧ DzS K H k n x.2 := fun x hx => by
  obtain ⟨m, hm, e⟩ := h.key x hx
  rw [e]
  exact ⟨(dz_name hm).mono (Nat.zero_le _) hn, (dz_bd (h.inv x hx).bd).mono (Nat.zero_le _) hn⟩
/-- with a value that is none -/
theorem bz_val {K : PySem.W.Frag} {H : Hp} {d : Addr} {kvs : List (Key × V)} {ns : List Str} {n : Str} {x : V} (g : Gk kvs) (hn : n ∈ TM.names) (hd : H d = some (.dK (putK kvs (Sum.inr n) x))) (ox : OddV K H x) (hx : x ≠ .ref d) : Bz K H ns (.ref d) := by
  have l8 := g.len
  have lp := length_putK kvs (Sum.inr n : Key) x
  refine ⟨.val hd (by omega) (fun kv h => ?_) (look_of (put_nodup g.nd)) (fun kv h => ?_) (all_false (f := fun kv : Key × V => isValB kv.2) put_in ox.no), (dz_dic (k := 2) (n := 600) (m := 9) hd (fun kv h => ?_) (by omega)).mono (by decide) (by decide)⟩
  · rcases put_mem kv h with h | rfl
    · exact g.key kv h
    · exact ⟨n, hn, rfl⟩
  · rcases put_mem kv h with h | rfl
    · exact vals_kn (g.inv kv h).val
    · exact ⟨hx, ox.kn⟩
  · rcases put_mem kv h with h | rfl
    · exact g.dz (by decide) kv h
    · exact ⟨(dz_name hn).mono (by decide) (by decide), ox.dz⟩
/-- with a key that is no place -/
theorem bz_key {K : PySem.W.Frag} {H : Hp} {d : Addr} {kvs : List (Key × V)} {ns : List Str} {k : Key} (g : Gk kvs) (hd : H d = some (.dK (putK kvs k (.int 1)))) (no : isPlB (kV k) = false) (kn : ∃ t, Kn H (kV k) t) (hk : kV k ≠ .ref d) (dz : DzS K H 0 240 (kV k)) : Bz K H ns (.ref d) := by
  have l8 := g.len
  have lp := length_putK kvs k (.int 1)
  refine ⟨.key (.k hd) (by rw [List.length_map]; omega) (fun x h => ?_) (all_false (x := kV k) (List.mem_map.mpr ⟨_, put_in, rfl⟩) no), (dz_dic (k := 0) (n := 240) (m := 9) hd (fun kv h => ?_) (by omega)).mono (by decide) (by decide)⟩
  · obtain ⟨kv, h2, rfl⟩ := List.mem_map.mp h
    rcases put_mem kv h2 with h | rfl
    · obtain ⟨m, _, e⟩ := g.key kv h
      rw [e]
      exact ⟨fun z => (by cases z), _, .str m⟩
    · exact ⟨hk, kn⟩
  · rcases put_mem kv h with h | rfl
    · exact g.dz (by decide) kv h
    · exact ⟨dz, dz_int (by decide)⟩
theorem bz_odd {K : PySem.W.Frag} {H : Hp} {d : Addr} {kvs : List (Key × V)} {ns : List Str} {i : V} (g : Gk kvs) (hd : H d = some (odE d ((kvs.map fun kv => (kV kv.1, kv.2)) ++ [(i, .int 1)]))) (no : isPlB i = false) (kn : ∃ t, Kn H i t) (hk : i ≠ .ref d) (dz : DzS K H 2 600 i) : Bz K H ns (.ref d) := by
  have l8 := g.len
  refine ⟨.key (.o hd) (by rw [List.length_map, List.length_append, List.length_map]; simp; omega) (fun x h => ?_) (all_false (x := i) (by simp) no), (dz_odd (k := 2) (n := 600) (m := 9) hd (fun kv h => ?_) (by rw [List.length_append, List.length_map]; simp; omega)).mono (by decide) (by decide)⟩
  · obtain ⟨kv, h2, rfl⟩ := List.mem_map.mp h
    rcases List.mem_append.mp h2 with h | h
    · obtain ⟨kv, h3, rfl⟩ := List.mem_map.mp h
      obtain ⟨m, _, e⟩ := g.key kv h3
      dsimp only
      rw [e]
      exact ⟨fun z => (by cases z), _, .str m⟩
    · rw [List.mem_singleton.mp h]
      exact ⟨hk, kn⟩
  · rcases List.mem_append.mp h with h | h
    · obtain ⟨kv, h2, rfl⟩ := List.mem_map.mp h
      exact g.dz (by decide) kv h2
    · rw [List.mem_singleton.mp h]
      exact ⟨dz, (dz_int (by decide)).mono (by decide) (by decide)⟩
/-- without a place -/
theorem bz_miss {K : PySem.W.Frag} {H : Hp} {d : Addr} {kvs : List (Key × V)} {ns : List Str} {n : Str} {b : Key × V → Bool} (g : Gk kvs) (hd : H d = some (.dK (kvs.filter b))) (hb : ∀ kv, kv.1 = Sum.inr n → b kv = false) (hn : n ∈ ns) : Bz K H ns (.ref d) := by
  have g2 : Gk (kvs.filter b) := ⟨fun kv h => g.key kv (List.mem_filter.mp h).1, (List.Sublist.map _ List.filter_sublist).nodup g.nd, fun kv h => g.inv kv (List.mem_filter.mp h).1⟩
  have l8 := g2.len
  refine ⟨.miss hd g2.good (all_false (f := fun n => (valV (kvs.filter b) (Sum.inr n)).isSome) hn ?_), (dz_dic (k := 0) (n := 240) (m := 9) hd (g2.dz (by decide)) (by omega)).mono (by decide) (by decide)⟩
  rw [← valV_any, Bool.eq_false_iff]
  intro z
  obtain ⟨kv, h, e⟩ := List.any_eq_true.mp z
  obtain ⟨_, h2⟩ := List.mem_filter.mp h
  rw [hb kv (of_decide_eq_true e)] at h2
  cases h2
end K12
namespace K12
open PySem PySem.Spec PyProof.Rows L2 LG Evl
theorem Px.mut {p d : Addr} {H H' : Hp} {o : HO} (x : Px p H H') (hd : H d = none) (dp : d ≠ p) : Px p H (upd H' d o) := by
  refine ⟨fun b u bp e => by rw [upd_ne (ne_of_none e hd)]; exact x.1 b u bp e, ?_⟩
  obtain ⟨x1, y1, g1, g2⟩ := x.2
  exact ⟨x1, y1, by rw [upd_ne (Ne.symm dp)]; exact g1, g2⟩
theorem tm_px {c : TM.Cs} {p : Addr} {H H' : Hp} {v : V} {t : TM.Tree} (po : Po p H) (x : Px p H H') (h : TM.TmAt c H v t) : TM.TmAt c H' v t := by
  obtain ⟨x1, y1, g1, _⟩ := po
  exact h.upW g1 fun b o bp _ e => x.1 b o bp e
theorem plain_strs : ∀ xs : List Str, PyData.plainAll (xs.map .str) = true
  | [] => rfl
  | x :: xs => by simp [PyData.plainAll, PyData.plain, plain_strs xs]
theorem depth_strs : ∀ xs : List Str, PyData.depthAll (xs.map .str) ≤ 0
  | [] => by simp [PyData.depthAll]
  | x :: xs => by
    have := depth_strs xs
    simp only [List.map_cons, PyData.depthAll, PyData.depth]
    omega
def onesOf (xs : List Str) : List (Key × V) := xs.map fun n => ((Sum.inr n : Key), V.int 1)
theorem ones_key {xs : List Str} : (onesOf xs).map (·.1) = xs.map Sum.inr := by rw [onesOf, List.map_map]; rfl
theorem ones_nums {xs : List Str} : numsOf (onesOf xs) = onesOf xs := by rw [numsOf, onesOf, List.map_map]; rfl
theorem ones_gk {xs : List Str} (hn : ∀ n ∈ xs, n ∈ TM.names) (nd : xs.Nodup) : Gk (onesOf xs) := by
  refine ⟨fun kv h => ?_, ?_, fun kv h => ?_⟩
  · obtain ⟨n, hm, rfl⟩ := List.mem_map.mp h
    exact ⟨n, hn n hm, rfl⟩
  · rw [ones_key]
    exact List.Pairwise.map (Sum.inr : Str → Key) (fun a b hab z => hab (Sum.inr.inj z)) nd
  · obtain ⟨n, hm, rfl⟩ := List.mem_map.mp h
    exact .inr (.inr ⟨1, rfl, by decide⟩)
section
variable {P : Program} {w : World} {K : PySem.W.Frag} {mg : Str → Option Value} {base : Heap} {a : At}
theorem ev_of {S : Addr → Prop} {tv td : TE} {σ : L2.St} {H : Hp} {v : V} {t : TM.Tree} {d : Addr} {kvs : List (Key × V)} {E : XK} (h1 : Ev tv σ H v) (h2 : Ev td σ H (.ref d)) (md : TM.MdAt S H v t) (ok : TM.Ok t) (hd : t.depth ≤ 3) (hk : H d = some (.dK (numsOf kvs))) (hs : Has kvs t) :
    Ev (tFn (sp__law_of 4) E (tCons tv (tCons td tNil))) σ H (.int (num (val (fD kvs) t))) := ev_fn (ea_cons h1 (ea_cons h2 ea_nil)) fun H1 e Q q E => ⟨S, v, t, d, kvs, rfl, md.ex e, ok, by omega, e _ _ hk, hs, q⟩
theorem ev_told {tm td : TE} {σ : L2.St} {H : Hp} {m : V} {t : TM.Tree} {d : Addr} {kvs : List (Key × V)} {E : XK} (h1 : Ev tm σ H m) (h2 : Ev td σ H (.ref d)) (ht : TM.TmAt (csOf a) H m t) (ok : TM.Ok t) (hd : t.depth ≤ 4) (hf : DictFor H d kvs t) :
    Ev (tFn (sp__law_told K a) E (tCons tm (tCons td tNil))) σ H (.str (doneD (val (fD kvs) t)).shown) := ev_fn (ea_cons h1 (ea_cons h2 ea_nil)) fun H1 e Q q E => ⟨m, _, t, rfl, ht.up e, ok, hd, .inl ⟨d, kvs, rfl, hf.up e, q⟩⟩
theorem ev_toldB {tm td : TE} {σ : L2.St} {H : Hp} {m u : V} {t : TM.Tree} {dat : PyData} {E : XK} (h1 : Ev tm σ H m) (h2 : Ev td σ H u) (ht : TM.TmAt (csOf a) H m t) (ok : TM.Ok t) (hd : t.depth ≤ 4) (bad : BadV H t.places u) (dz : Dz K H u dat) (sm : Sm 4 40000 dat) :
    Ev (tFn (sp__law_told K a) E (tCons tm (tCons td tNil))) σ H (.str (valuesD dat).shown) := ev_fn (ea_cons h1 (ea_cons h2 ea_nil)) fun H1 e Q q E => ⟨m, u, t, rfl, ht.up e, ok, hd, .inr ⟨bad.up e, dat, dz.up e, sm, q⟩⟩
theorem ev_reprLz {te : TE} {σ : L2.St} {H : Hp} {xs : List V} {d : PyData} (h : EvL te σ H xs) (hd : ∀ p H1, Ex H H1 → H1 p = some (.lst xs) → LzAt K H1 (.ref p) d) (hs : Shows d) : Ev (tCB (rReprZ K) (tCons te tNil)) σ H (.str d.shown) := fun H1 e Q q => h H1 e _ fun p H2 _ e2 h2 => ⟨.ref p, d, rfl, .inr (.inr (hd p H2 (e.trans e2) h2)), hs, q H2 e2⟩
/-- repr(["values", u, True]) -/
theorem ev_valuesR {td : TE} {σ : L2.St} {H : Hp} {u : V} {dat : PyData} (h : Ev td σ H u) (dz : Dz K H u dat) (sm : Sm 4 40000 dat) : Ev (tCB (rReprZ K) (tCons (tLst (tCons (tC (.str "values")) (tCons td (tCons (tC (.bl true)) tNil)))) tNil)) σ H (.str (valuesD dat).shown) := by
  refine ev_reprLz (el_lst (ea_cons ev_c (ea_cons h (ea_cons ev_c ea_nil))) (by show 3 ≤ 100000; decide)) (fun p H2 e2 h2 => ⟨p, _, _, rfl, rfl, sq_of h2, rfl, fun i y d h1 h2 => ?_⟩) (values_sh sm)
  match i, h1, h2 with
  | 0, h1, h2 => cases h1; cases h2; exact .q (.str _)
  | 1, h1, h2 => cases h1; cases h2; exact dz.up e2
  | 2, h1, h2 => cases h1; cases h2; exact .q (.bl true)
/-- repr(["done", x]) -/
theorem ev_doneR {td : TE} {σ : L2.St} {H : Hp} {x : V} (h : Ev td σ H x) (hb : Bd x) : Ev (tCB (rReprZ K) (tCons (tLst (tCons (tC (.str "done")) (tCons td tNil))) tNil)) σ H (.str (doneD x).shown) :=
  ev_reprP (ep_lst2 (ep_ev ev_c fun _ _ => .str _) (dpp h hb)) (done_sh hb)
def sp__law_ones_right (a : At) : Sp := fun vs H Q _ => ∃ (p : Addr) (S : Addr → Prop) (v m : V) (t : TM.Tree), vs = [.ref p, v, m] ∧ Po p H ∧ TM.MdAt S H v t ∧ TM.TmAt (csOf a) H m t ∧ TM.Ok t ∧ t.depth ≤ 3 ∧ ∀ H', Px p H H' → Q (.bl true) H'
theorem ok__law_ones_right (T : Txt K mg a) : Fn P w K mg base 11 a._law_ones_right (sp__law_ones_right a) := by
  have G__law_spots := ok__law_spots (P := P) (w := w) (base := base) T 4
  have G__law_of := ok__law_of (P := P) (w := w) (base := base) T 4
  have G__law_shown := ok__law_shown (P := P) (w := w) (base := base) T
  have G__law_told := ok__law_told (P := P) (w := w) (base := base) T
  have G__law_pick := ok__law_pick (P := P) (w := w) (base := base) T
  refine T.d__law_ones_right.fn sc__law_ones_right (fun _ _ _ _ _ _ us hl => match us, hl with | [_, _, _], _ => rfl) (fun vs H Q E h => ?_) (fun cdv A outer s H vs Q E hg hr h => ?_)
  · obtain ⟨_, _, _, _, _, rfl, _⟩ := h
    rfl
  · obtain ⟨p, S, v, m, t, rfl, po, md, tm, ok, hd3, q⟩ := h
    have nd := sc__law_ones_right.nd
    have hu := hu_of hr
    have hu64 : (A.deeper _).units + 64 < cLine := hr.units
    refine ⟨_, (pss_cons (ps_set (i := 3) nd rfl (.inl rfl) (pe_fn G__law_spots hg (hr.mono (by decide)) T.d__law_spots.kp T.d__law_spots.m (by rfl) passL (pa_cons (pv 1) pa_nil)))
    (pss_cons (ps_par (i := 6) (j := 7) rfl nd rfl rfl (by decide) rfl rfl (pa_cons (pe_callTy (cr_dictP rfl) (by rfl) T.z_dict (by decide +kernel) (pa_cons (pe_lc rfl (own := [("spot", 8)]) (g := gName 8) (by exact nd) (pi_list (pv 3)) (blkOk_by (own := [("spot", 8)]) (N := ["pot", "term", "made", "spots", "due", "told", "ones", "odd", "spot"]) (sc := defScope s__law_ones_right) (by decide +kernel)) (fun _ _ _ _ _ => (pg_name (i := 8) nd rfl (.inl rfl))) (fun _ _ _ _ _ => pts_nil) (fun _ _ _ _ _ => (pe_tup (pa_cons (pv 8) (pa_cons pe_int pa_nil))))) pa_nil)) (pa_cons (pe_callTy (cr_dictP rfl) (by rfl) T.z_dict (by decide +kernel) (pa_cons (pe_lc rfl (own := [("spot", 8)]) (g := gName 8) (by exact nd) (pi_list (pv 3)) (blkOk_by (own := [("spot", 8)]) (N := ["pot", "term", "made", "spots", "due", "told", "ones", "odd", "spot"]) (sc := defScope s__law_ones_right) (by decide +kernel)) (fun _ _ _ _ _ => (pg_name (i := 8) nd rfl (.inl rfl))) (fun _ _ _ _ _ => pts_nil) (fun _ _ _ _ _ => (pe_tup (pa_cons (pv 8) (pa_cons pe_int pa_nil))))) pa_nil)) pa_nil)) (by rfl))
    (pss_cons (ps_set (i := 4) nd rfl (.inl rfl) (pe_callB (call_reprZ hg hu64) (by rfl) T.z_repr (by decide +kernel) (pa_cons (pe_lst (pa_cons pe_str (pa_cons (pe_fn G__law_shown hg (hr.mono (by decide)) T.d__law_shown.kp T.d__law_shown.m (by rfl) passL (pa_cons (pe_fn G__law_of hg (hr.mono (by decide)) T.d__law_of.kp T.d__law_of.m (by rfl) passL (pa_cons (pv 1) (pa_cons (pv 6) pa_nil))) pa_nil)) pa_nil))) pa_nil)))
    (pss_cons (ps_if (pt_cmpR (op_eqP hu64) (pv 3) (pe_lst pa_nil) (nomark _)) (pss_one (ps_ret (pe_cmpR op_eq (pe_fn G__law_told hg (hr.mono (by decide)) T.d__law_told.kp T.d__law_told.m (by rfl) passL (pa_cons (pv 2) (pa_cons (pv 6) pa_nil))) (pv 4) (nomark _)))) pss_nil)
    (pss_cons (ps_asg pe_bl (pg_sub (pv 7) (pe_fn G__law_pick hg (hr.mono (by decide)) T.d__law_pick.kp T.d__law_pick.m (by rfl) passL (pa_cons (pv 0) (pa_cons (pv 3) pa_nil))) (set_dict hu)))
    (pss_cons (ps_set (i := 5) nd rfl (.inl rfl) (pe_lst (pa_cons (pe_fn G__law_told hg (hr.mono (by decide)) T.d__law_told.kp T.d__law_told.m (by rfl) passL (pa_cons (pv 2) (pa_cons (pv 6) pa_nil))) (pa_cons (pe_fn G__law_told hg (hr.mono (by decide)) T.d__law_told.kp T.d__law_told.m (by rfl) passL (pa_cons (pv 2) (pa_cons (pv 7) pa_nil))) (pa_cons (pe_fn G__law_told hg (hr.mono (by decide)) T.d__law_told.kp T.d__law_told.m (by rfl) passL (pa_cons (pv 2) (pa_cons (pv 6) pa_nil))) pa_nil)))))
    (pss_one (ps_ret (pe_cmpR (op_eqP hu64) (pv 5) (pe_lst (pa_cons (pv 4) (pa_cons (pe_callB (call_reprZ hg hu64) (by rfl) T.z_repr (by decide +kernel) (pa_cons (pe_lst (pa_cons pe_str (pa_cons (pv 7) (pa_cons pe_bl pa_nil)))) pa_nil)) (pa_cons (pv 4) pa_nil)))) (nomark _)))))))))), ?_⟩
    refine ⟨v, rfl, S, v, t, rfl, md, ok, by omega, fun l xs H1 hl e1 hss h1 => ?_⟩
    have hnn : ∀ n ∈ xs, n ∈ TM.names := fun n hn => ok.names n ((hss.mem n).mp hn)
    have gk := ones_gk hnn hss.nd
    have l8 : xs.length ≤ 8 := hss.len ok
    have mk : ∀ {σ : L2.St} {H2 : Hp}, H2 l = some (.lst (xs.map V.str)) → σ[3]? = some (some (.ref l)) → σ.length = 9 → EvD (tCB (rDictP K) (tCons (tLc (iList K (tVar 3)) (gName 8) tYes (tTup (tCons (tVar 8) (tCons (tC (.int 1)) tNil))) [8]) tNil)) σ H2 (onesOf xs) := fun {σ H2} h2 s3 sl => by
      obtain ⟨a0, a1, a2, a3, a4, a5, a6, a7, a8, rfl⟩ : ∃ a0 a1 a2 a3 a4 a5 a6 a7 a8, σ = [a0, a1, a2, a3, a4, a5, a6, a7, a8] := match σ, sl with | [a0, a1, a2, a3, a4, a5, a6, a7, a8], _ => ⟨_, _, _, _, _, _, _, _, _, rfl⟩
      refine ed_pairs (ep_list (K := K) (l := l) (ks := onesOf xs) (j := 8) (vs := [8]) (ev_var s3) (by rw [onesOf, List.map_map]; exact sq_of h2) (by rw [onesOf, List.length_map]; omega) (fun _ => rfl) fun n kv H3 hkv e3 => ?_) gk.nd
      have : kv.2 = .int 1 := by
        rw [onesOf, List.getElem?_map] at hkv
        obtain ⟨_, _, rfl⟩ := Option.map_eq_some_iff.mp hkv
        rfl
      rw [this]
      exact eu_tup (ea_cons (ev_var rfl) (ea_cons ev_c ea_nil)) (by show 2 ≤ 100000; decide)
    refine mk h1 rfl rfl H1 (Ex.refl _) _ fun d1 H2 hd1 e2 h2 => mk (e2 _ _ h1) rfl rfl H2 (Ex.refl _) _ fun d2 H3 hd2 e3 h3 => ⟨_, _, rfl, ?_⟩
    have e03 := (e1.trans e2).trans e3
    have k1 := e3 _ _ h2
    have hl3 := e3 _ _ (e2 _ _ h1)
    have d12 : d1 ≠ d2 := ne_of_none h2 hd2
    have ld2 : l ≠ d2 := ne_of_none (e2 _ _ h1) hd2
    have g1 : GD H3 d1 (onesOf xs) t := gd_of k1 gk.key gk.nd gk.inv fun n hn => by rw [ones_key]; exact List.mem_map.mpr ⟨n, (hss.mem n).mpr hn, rfl⟩
    have hs := g1.f.hs
    have hb := val_bd ok hs
    refine q_asg (ev_doneR (ev_is (ev_shown (ev_of (ev_var rfl) (ev_var rfl) (md.ex e03) ok hd3 (by rw [ones_nums]; exact k1) hs)) hb.sh) hb) fun H4 e4 => ?_
    have e04 := e03.trans e4
    have hl4 := e4 _ _ hl3
    have g4 := g1.up e4
    have T1 : ∀ {σ : L2.St} {H' : Hp} {E : XK}, TM.TmAt (csOf a) H' m t → DictFor H' d1 (onesOf xs) t → σ[2]? = some (some m) → σ[6]? = some (some (.ref d1)) → Ev (tFn (sp__law_told K a) E (tCons (tVar 2) (tCons (tVar 6) tNil))) σ H' (.str (doneD (val (fD (onesOf xs)) t)).shown) := fun t1 f1 s2 s6 => ev_told (ev_var s2) (ev_var s6) t1 ok (by omega) f1
    have tst : EvT (tTest (tOp (rEqP K) (tVar 3) (tLst tNil))) [some (.ref p), some v, some m, some (.ref l), some (.str (doneD (val (fD (onesOf xs)) t)).shown), none, some (.ref d1), some (.ref d2), none] H4 (PyData.eqv (.list (xs.map .str)) (.list [])) := by
      refine et_test (ev_opL (ev_var rfl) (el_lst ea_nil (by show 0 ≤ 100000; decide)) fun z H5 hz e5 => fun H6 e6 Q' q' => ⟨_, _, .lst (sq_of ((e5.trans e6) _ _ hl4)) (dp_strs xs), .lst (sq_of (e6 _ _ hz)) .nil, ?_, by simp [PyData.plain, PyData.plainAll], ?_, q' H6 (Ex.refl _)⟩)
      · simp only [PyData.plain]
        exact plain_strs xs
      · have := depth_strs xs
        simp only [PyData.depth]
        omega
    refine q_when tst (fun _ H5 e5 => ?_) (fun hne H5 e5 => ?_)
    · exact s_ret (ev_eqT (T1 (tm.up (e04.trans e5)) (g4.f.up e5) rfl rfl) (ev_var rfl) rfl) fun H6 e6 => q H6 (Px.of po ((e04.trans e5).trans e6))
    · have hpos : 0 < xs.length := by
        rcases xs with _ | ⟨x, r⟩
        · cases hne
        · exact Nat.succ_pos _
      have e05 := e04.trans e5
      have lp : l ≠ p := po.ne hl
      have d2p : d2 ≠ p := (po.up (e1.trans e2)).ne hd2
      refine ⟨.ref d2, rfl, .ref p, rfl, .ref l, rfl, p, l, xs.map V.str, rfl, po.up e05, e5 _ _ hl4, lp, by rw [List.length_map]; exact hpos, by rw [List.length_map]; omega, fun x hx H6 x6 => ?_⟩
      obtain ⟨n, hn, rfl⟩ := List.mem_map.mp hx
      have x06 := (Px.of po e05).trans x6
      have k6 := x6.1 _ _ d2p (e5 _ _ (e4 _ _ h3))
      refine ⟨d2, _, rfl, DPut.k (k := Sum.inr n) (kvs := onesOf xs) k6 (sz_lt (by rw [onesOf, List.length_map]; omega)), ?_⟩
      have d1p : d1 ≠ p := (po.up e1).ne hd1
      have x07 : Px p H (upd H6 d2 (.dK (putK (onesOf xs) (Sum.inr n) (.bl true)))) := x06.mut ((Px.of po (e1.trans e2)).fresh hd2) d2p
      have tm7 : TM.TmAt (csOf a) (upd H6 d2 (.dK (putK (onesOf xs) (Sum.inr n) (.bl true)))) m t := tm_lk k6 (fun b o bd e => by rw [upd_ne bd]; exact e) (tm_px po x06 tm)
      have k17 : (upd H6 d2 (.dK (putK (onesOf xs) (Sum.inr n) (.bl true)))) d1 = some (.dK (onesOf xs)) := by rw [upd_ne d12]; exact x6.1 _ _ d1p (e5 _ _ (e4 _ _ k1))
      have g7 : GD (upd H6 d2 (.dK (putK (onesOf xs) (Sum.inr n) (.bl true)))) d1 (onesOf xs) t := gd_of k17 gk.key gk.nd gk.inv fun n hn => by rw [ones_key]; exact List.mem_map.mpr ⟨n, (hss.mem n).mpr hn, rfl⟩
      have k27 : (upd H6 d2 (.dK (putK (onesOf xs) (Sum.inr n) (.bl true)))) d2 = some (.dK (putK (onesOf xs) (Sum.inr n) (.bl true))) := upd_same
      generalize upd H6 d2 (.dK (putK (onesOf xs) (Sum.inr n) (.bl true))) = H7 at *
      obtain ⟨bad, dat, dz, sm⟩ := bz_val (K := K) (ns := t.places) gk (hnn n hn) k27 ⟨rfl, ⟨_, .bl true⟩, dz_bl.mono (by decide) (by decide)⟩ (fun z => by cases z)
      refine q_asgL (el_lst (ea_cons (T1 tm7 g7.f rfl rfl) (ea_cons (ev_toldB (ev_var rfl) (ev_var rfl) tm7 ok (by omega) bad dz sm) (ea_cons (T1 tm7 g7.f rfl rfl) ea_nil))) (by show 3 ≤ 100000; decide)) fun l8 H8 hl8 e8 h8 => ?_
      refine s_ret (v := .bl true) (ev_is (v := .bl (PyData.eqv (.list [.str (doneD (val (fD (onesOf xs)) t)).shown, .str (valuesD dat).shown, .str (doneD (val (fD (onesOf xs)) t)).shown]) (.list [.str (doneD (val (fD (onesOf xs)) t)).shown, .str (valuesD dat).shown, .str (doneD (val (fD (onesOf xs)) t)).shown]))) (ev_opL (ev_var rfl) (el_lst (ea_cons (ev_var rfl) (ea_cons (ev_valuesR (ev_var rfl) (dz.up e8) sm) (ea_cons (ev_var rfl) ea_nil))) (by show 3 ≤ 100000; decide)) fun z H9 hz e9 => fun H10 e10 Q' q' => ?_) ?_) fun H9 e9 => q H9 ((x07.ex e8).ex e9)
      · exact ⟨_, _, .lst (sq_of ((e9.trans e10) _ _ h8)) (.cons (.str _) (.cons (.str _) (.cons (.str _) .nil))), .lst (sq_of (e10 _ _ hz)) (.cons (.str _) (.cons (.str _) (.cons (.str _) .nil))), by simp [PyData.plain, PyData.plainAll], by simp [PyData.plain, PyData.plainAll], by simp [PyData.depth, PyData.depthAll], q' H10 (Ex.refl _)⟩
      · rw [SeqAt.eqv_refl_plain _ (by simp [PyData.plain, PyData.plainAll])]
end
end K12
namespace K12
open PySem PySem.Spec PyProof.Rows L2 LG Evl
/-- list of a dict, the new list no part of the interpreter's own -/
def rKeysB : List V → Hp → VK → Prop := fun xs H Q => ∃ (p : Addr) (kvs : List (Key × V)), xs = [.ref p] ∧ H p = some (.dK kvs) ∧ ∀ l, H l = none → l ≠ sysModules → Q (.ref l) (upd H l (.lst (kvs.map fun kv => kV kv.1)))
theorem cr_keysB {X : Cx} (calm : X.calm = true) : CallR X (.type "list") rKeysB := by
  rintro pins s σ H xs us Q inv rel ⟨p, kvs, rfl, here, want⟩
  obtain ⟨u, rfl, ru⟩ := vals1 rel
  obtain rfl : u = Value.ref p := ru
  obtain ⟨small, low, vs, kv, dict⟩ := (show ObjOk X.prog X.w H s.heap p (.dK kvs) from inv.hok p _ here)
  have many : kvs.length = vs.length := Paired.length kv
  obtain ⟨ep, dat⟩ := dict.dictAt
  refine PySem.W.kdl_call (PySem.W.kdl_dict (knd := mixKind X.prog X.w) (kvs := vs) (ep := ep) low) (inv.ok.hd calm) dat (many ▸ small) fun h' tk got c' keep seq told => ?_
  have gotl : got.toList.length = got.size := by simp
  have ok : ObjOk X.prog X.w (upd H s.heap.objs.size (.lst (kvs.map fun kv => kV kv.1))) h' s.heap.objs.size (.lst (kvs.map fun kv => kV kv.1)) := by
    refine ⟨by rw [List.length_map]; exact small, got.toList, c', vals_of_at (by rw [List.length_map, gotl, told.1, many]) fun j x z h1 h2 => ?_, by rw [Array.toArray_toList]; exact seq⟩
    obtain ⟨k, y, pair, is⟩ := told.2 j z (by rw [← Array.getElem?_toList]; exact h2)
    have keyj : (kvs.map (·.1))[j]? = some k := by
      rw [KV.keys kv, List.getElem?_map, pair]; rfl
    rw [List.getElem?_map] at h1 keyj
    obtain ⟨q, hq, rfl⟩ := Option.map_eq_some_iff.mp h1
    rw [hq] at keyj
    cases keyj
    exact keyIs_rel is
  exact ⟨.ref s.heap.objs.size, _, inv.laid keep (Nat.le_refl _) ok, rfl, want _ (inv.hok.fresh (Nat.le_refl _)) (Nat.ne_of_gt (big_of inv))⟩
theorem ix_listK {X : Cx} {K : PySem.W.Frag} (hK : X.K = K) : IxR X (rIxL K) := by
  subst hK
  exact ix_list
theorem sl_listK {X : Cx} {K : PySem.W.Frag} (hK : X.K = K) : SlR X (rSlL K) := by
  subst hK
  exact sl_list
section
variable {P : Program} {w : World} {K : PySem.W.Frag} {mg : Str → Option Value} {base : Heap} {a : At}
def Mk (p l : Addr) (H : Hp) : Hp := fun b => if b = p ∨ b = l then none else H b
theorem mk_ex {p l : Addr} {H : Hp} : Ex (Mk p l H) H := fun b o h => by
  unfold Mk at h
  by_cases c : b = p ∨ b = l
  · rw [if_pos c] at h; cases h
  · rw [if_neg c] at h; exact h
theorem mk_at {p l b : Addr} {H : Hp} {o : HO} (hp : b ≠ p) (hl : b ≠ l) (h : H b = some o) : Mk p l H b = some o := by
  unfold Mk
  rw [if_neg fun c => c.elim hp hl]
  exact h
theorem mk_of {p l b : Addr} {H : Hp} {o : HO} (h : Mk p l H b = some o) : b ≠ p ∧ b ≠ l ∧ H b = some o := by
  unfold Mk at h
  by_cases c : b = p ∨ b = l
  · rw [if_pos c] at h; cases h
  · rw [if_neg c] at h; exact ⟨fun z => c (.inl z), fun z => c (.inr z), h⟩
/-- what stands stays, but the pot and the list -/
structure Fx (p l : Addr) (H H' : Hp) : Prop where
  k : ∀ b o, b ≠ p → b ≠ l → H b = some o → H' b = some o
  po : Po p H'
theorem Fx.mkx {p l : Addr} {H H' : Hp} (f : Fx p l H H') : Ex (Mk p l H) (Mk p l H') := fun b o h => let ⟨h1, h2, h3⟩ := mk_of h; mk_at h1 h2 (f.k b o h1 h2 h3)
theorem Fx.refl {p l : Addr} {H : Hp} (po : Po p H) : Fx p l H H := ⟨fun _ _ _ _ h => h, po⟩
theorem Fx.trans {p l : Addr} {H H1 H2 : Hp} (f : Fx p l H H1) (g : Fx p l H1 H2) : Fx p l H H2 := ⟨fun b o h1 h2 h => g.k b o h1 h2 (f.k b o h1 h2 h), g.po⟩
theorem Fx.ex {p l : Addr} {H H1 H2 : Hp} (f : Fx p l H H1) (e : Ex H1 H2) : Fx p l H H2 := ⟨fun b o h1 h2 h => e b o (f.k b o h1 h2 h), f.po.up e⟩
theorem Fx.px {p l : Addr} {H H1 H2 : Hp} (f : Fx p l H H1) (x : Px p H1 H2) : Fx p l H H2 := ⟨fun b o h1 h2 h => x.1 b o h1 (f.k b o h1 h2 h), x.2⟩
theorem po_upd {p c : Addr} {H : Hp} {o : HO} (po : Po p H) (h : c ≠ p) : Po p (upd H c o) := let ⟨x, y, g1, g2⟩ := po; ⟨x, y, by rw [upd_ne (Ne.symm h)]; exact g1, g2⟩
theorem Fx.mut {p l c : Addr} {H H1 : Hp} {o : HO} (f : Fx p l H H1) (hc : H c = none) (cp : c ≠ p) : Fx p l H (upd H1 c o) := ⟨fun b u h1 h2 h => by rw [upd_ne (ne_of_none h hc)]; exact f.k b u h1 h2 h, po_upd f.po cp⟩
theorem Fx.app {p l : Addr} {H H1 : Hp} {o : HO} (f : Fx p l H H1) (lp : l ≠ p) : Fx p l H (upd H1 l o) := ⟨fun b u h1 h2 h => by rw [upd_ne h2]; exact f.k b u h1 h2 h, po_upd f.po lp⟩
abbrev dictR : List V → Hp → VK → Prop := fun xs H Q => ∃ a kvs, xs = [V.ref a] ∧ Rd H a (HO.dK kvs) ∧ ∀ (p : Addr), H p = none → Q (V.ref p) (upd H p (HO.dK kvs))
theorem q_copy {K : PySem.W.Frag} {k : Nat} {rest : TS} {D : Ends} {σ : L2.St} {H : Hp} {l d : Addr} {ws : List V} {kvs : List (Key × V)} (s3 : σ[3]? = some (some (.ref l))) (s2 : σ[2]? = some (some (.ref d))) (hl : H l = some (.lst ws)) (hd : H d = some (.dK kvs)) (hz : ws.length ≤ 100)
    (kk : ∀ c, H c = none → c ≠ l → rest D (σ.set k (some (.ref c))) (upd (upd H c (.dK kvs)) l (.lst (ws ++ [.ref c])))) :
    tSeq (tDrop (tBM K "list" rAppend (tVar 3) (tCons (tCB dictR (tCons (tVar 2) tNil)) tNil))) (tSeq (tAsg (tOp (rIxL K) (tVar 3) (tUn (rU fun i => V.int (-i)) (tC (V.int 1)))) (gName k)) rest) D σ H := by
  refine ⟨.ref l, s3, .inl ⟨rfl, _, sq_of hl⟩, .ref d, s2, d, kvs, rfl, .inl hd, fun c hc => ?_⟩
  have cl : c ≠ l := fun z => by rw [z, hl] at hc; cases hc
  have h2 : (upd H c (.dK kvs)) l = some (.lst ws) := by rw [upd_ne (Ne.symm cl)]; exact hl
  refine ⟨l, ws, .ref c, rfl, rfl, h2, sz_lt (by omega), ?_⟩
  exact ⟨.ref l, s3, 1, rfl, l, ws ++ [.ref c], -1, .ref c, rfl, rfl, sq_of upd_same, atI_last ws _, kk c hc cl⟩
/-- a key that is no place, as the law draws it -/
def OddK (K : PySem.W.Frag) (H : Hp) (x : V) : Prop := (∃ k : Key, x = kV k ∧ isPlB (kV k) = false ∧ (∃ t, Kn H (kV k) t) ∧ (∀ c, kV k ≠ .ref c) ∧ DzS K H 0 240 (kV k)) ∨ x = .non ∨ ∃ T, x = .ref T ∧ H T = some (.tup [.str "r0"])
theorem OddK.up {K : PySem.W.Frag} {H H' : Hp} {x : V} (e : Ex H H') (h : OddK K H x) : OddK K H' x := by
  rcases h with ⟨k, h1, h2, ⟨t, h3⟩, h4, h5⟩ | h | ⟨T, h1, h2⟩
  · exact .inl ⟨k, h1, h2, ⟨t, h3.up e⟩, h4, h5.up e⟩
  · exact .inr (.inl h)
  · exact .inr (.inr ⟨T, h1, e _ _ h2⟩)
theorem oddk_str {K : PySem.W.Frag} {H : Hp} {x : Str} (h : isPlB (.str x) = false) (h1 : (x.cps.toList.all fun c => decide (c < 16 ^ 8)) = true) (h2 : x.cps.size ≤ 240) : OddK K H (.str x) := .inl ⟨.inr x, rfl, h, ⟨_, .str x⟩, (fun c z => by cases z), dz_str h1 h2⟩
theorem bz_nd {K : PySem.W.Frag} {H : Hp} {ns : List Str} {u : V} {t : String} {k n : Nat} (h : Kn H u t) (ht : t ≠ "dict") (dz : DzS K H k n u) (hk : k ≤ 4) (hn : n ≤ 40000) : Bz K H ns u := ⟨.nd h ht, dz.mono hk hn⟩
theorem cutV_mem {xs : List V} {lo hi : Option Int} {x : V} (h : x ∈ cutV xs lo hi) : x ∈ xs := List.mem_of_mem_drop (List.mem_of_mem_take h)
end
end K12
namespace K12
open PySem PySem.Spec PyProof.Rows L2 LG Evl
section
variable {P : Program} {w : World} {K : PySem.W.Frag} {mg : Str → Option Value} {base : Heap} {a : At}
def sp__law_wrong (K : PySem.W.Frag) : Sp := fun vs H Q _ => ∃ (p : Addr) (S : Addr → Prop) (v : V) (t : TM.Tree) (d : Addr) (kvs : List (Key × V)) (xs : List V), vs = [.ref p, v, .ref d] ∧ Po p H ∧ TM.MdAt S (Mk p p H) v t ∧ TM.Ok t ∧ t.depth ≤ 3 ∧ TM.Pl xs t ∧ xs.length ≤ 5 ∧ GD H d kvs t ∧
  ∀ l ws H', H l = none → l ≠ p → Px p H H' → H' l = some (.lst ws) → ws.length ≤ 50 → (∀ w ∈ ws, Bz K (Mk p p H') t.places w) → Q (.ref l) H'
theorem el_spots {S : Addr → Prop} {tv : TE} {σ : L2.St} {H : Hp} {v : V} {t : TM.Tree} {ys : List Str} {E : XK} (h : Ev tv σ H v) (md : TM.MdAt S H v t) (ok : TM.Ok t) (hd : t.depth ≤ 3) (hs : TM.Spots ys t) : EvL (tFn (sp__law_spots 4) E (tCons tv tNil)) σ H (ys.map V.str) := fun H1 e Q q =>
  h H1 e _ fun H2 e2 => ⟨S, v, t, rfl, md.ex (e.trans e2), ok, by omega, fun p zs H3 hp e3 hss h3 => by
    obtain rfl := TM.Spots.unique ok hss hs
    exact q p H3 (fresh_back e2 hp) (e2.trans e3) h3⟩
def lackS (ys : List Str) : List Str := TM.names.filter fun n => !decide (n ∈ ys)
theorem lack_pos {ys : List Str} {t : TM.Tree} {xs : List V} (hs : TM.Spots ys t) (pl : TM.Pl xs t) (x5 : xs.length ≤ 5) : 0 < (lackS ys).length := by
  rw [Nat.pos_iff_ne_zero]
  intro z
  have z := List.eq_nil_of_length_eq_zero z
  have sub : ∀ n ∈ TM.names, n ∈ ys := fun n hn => by
    by_cases c : n ∈ ys
    · exact c
    · have : n ∈ lackS ys := List.mem_filter.mpr ⟨hn, by simpa using c⟩
      rw [z] at this
      exact absurd this List.not_mem_nil
  have h1 := List.Nodup.length_le_of_subset (l₁ := TM.names) (l₂ := ys) (by decide) sub
  have h2 := List.Nodup.length_le_of_subset (l₁ := ys.map V.str) (l₂ := xs) (List.Pairwise.map V.str (fun a b hab z => hab (V.str.inj z)) hs.nd) fun x hx => by
    obtain ⟨n, hn, rfl⟩ := List.mem_map.mp hx
    exact pl n ((hs.mem n).mp hn)
  rw [List.length_map] at h2
  have : TM.names.length = 8 := by decide
  omega
theorem ok__law_wrong (T : Txt K mg a) : Fn P w K mg base 7 a._law_wrong (sp__law_wrong K) := by
  have G__law_spots := ok__law_spots (P := P) (w := w) (base := base) T 4
  have G__law_pick := ok__law_pick (P := P) (w := w) (base := base) T
  refine T.d__law_wrong.fn sc__law_wrong (fun _ _ _ _ _ _ us hl => match us, hl with | [_, _, _], _ => rfl) (fun vs H Q E h => ?_) (fun cdv A outer s H vs Q E hg hr h => ?_)
  · obtain ⟨_, _, _, _, _, _, _, rfl, _⟩ := h
    rfl
  · obtain ⟨p, S, v, t, d, kvs, xs, rfl, po, md, ok, hd3, pl, x5, gd, q⟩ := h
    have nd := sc__law_wrong.nd
    have hu := hu_of hr
    refine ⟨_, (pss_cons (ps_set (i := 3) nd rfl (.inl rfl) (pe_lst (pa_cons pe_non (pa_cons pe_int (pa_cons pe_str (pa_cons (pe_lstB (pa_cons (pe_tup (pa_cons pe_str (pa_cons pe_int pa_nil))) pa_nil)) (pa_cons (pe_tup pa_nil) (pa_cons pe_bl (pa_cons (pe_callTy (cr_keysB rfl) (by rfl) T.z_list (by decide +kernel) (pa_cons (pv 2) pa_nil)) pa_nil)))))))))
    (pss_cons (ps_for PassesOwn.leaving rfl (pi_list (pe_lst (pa_cons (pe_fn G__law_pick hg (hr.mono (by decide)) T.d__law_pick.kp T.d__law_pick.m (by rfl) passL (pa_cons (pv 0) (pa_cons (pe_lst (pa_cons pe_str (pa_cons pe_str (pa_cons pe_str (pa_cons pe_str (pa_cons pe_str (pa_cons pe_str (pa_cons pe_int (pa_cons pe_non (pa_cons (pe_tup (pa_cons pe_str pa_nil)) pa_nil)))))))))) pa_nil))) (pa_cons pe_str pa_nil)))) (pg_name (i := 4) nd rfl (.inl rfl))
      (pss_cons (ps_expr (pe_bmK (K := K) rfl PySem.F.plainAttrs_list PySem.F.slot_list_append PySem.F.type_list_append mt_append (pv 3) (pa_cons (pe_callTy call_dictD (by rfl) T.z_dict (by decide +kernel) (pa_cons (pv 2) pa_nil)) pa_nil)))
        (pss_cons (ps_set (i := 8) nd rfl (.inl rfl) (pe_ix (ix_listK (K := K) rfl) (pv 3) (pe_un un_neg pe_int) (fun _ _ => rfl)))
        (pss_one (ps_asg pe_int (pg_sub (pv 8) (pv 4) (set_odd hu)))))))
    (pss_cons (ps_for PassesOwn.leaving rfl (pi_list (pe_slice (sl_listK (K := K) rfl) (pe_fn G__law_spots hg (hr.mono (by decide)) T.d__law_spots.kp T.d__law_spots.m (by rfl) passL (pa_cons (pv 1) pa_nil)) po_none (po_some pe_int))) (pg_name (i := 5) nd rfl (.inr rfl))
      (pss_cons (ps_expr (pe_bmK (K := K) rfl PySem.F.plainAttrs_list PySem.F.slot_list_append PySem.F.type_list_append mt_append (pv 3) (pa_cons (pe_callTy call_dictD (by rfl) T.z_dict (by decide +kernel) (pa_cons (pv 2) pa_nil)) pa_nil)))
        (pss_cons (ps_set (i := 9) nd rfl (.inl rfl) (pe_ix (ix_listK (K := K) rfl) (pv 3) (pe_un un_neg pe_int) (fun _ _ => rfl)))
        (pss_cons (ps_asg (pe_fn G__law_pick hg (hr.mono (by decide)) T.d__law_pick.kp T.d__law_pick.m (by rfl) passL (pa_cons (pv 0) (pa_cons (pe_lst (pa_cons pe_bl (pa_cons pe_bl (pa_cons pe_non (pa_cons pe_str (pa_cons pe_str (pa_cons pe_str (pa_cons (pe_lstB (pa_cons pe_int pa_nil)) (pa_cons (pe_tup (pa_cons pe_int pa_nil)) (pa_cons pe_dnewK pa_nil)))))))))) pa_nil))) (pg_sub (pv 9) (pv 5) (set_dict hu)))
        (pss_one (ps_expr (pe_bmK (K := K) rfl PySem.F.plainAttrs_list PySem.F.slot_list_append PySem.F.type_list_append mt_append (pv 3) (pa_cons (pe_callTy (cr_dictP rfl) (by rfl) T.z_dict (by decide +kernel) (pa_cons (pe_lock (pe_lc rfl (own := [("name", 10)]) (g := gName 10) (by exact nd) (pi_keysO (pv 2)) (blkOk_by (own := [("name", 10)]) (N := ["pot", "term", "there", "found", "odd", "spot", "lacking", "further", "wider", "changed", "name"]) (sc := defScope s__law_wrong) (by decide +kernel)) (fun _ _ _ _ _ => (pg_name (i := 10) nd rfl (.inl rfl))) (fun _ _ _ _ _ => (pts_one (pt_cmpR op_ne (pv 10) (pv 5) (nomark _)))) (fun _ _ _ _ _ => (pe_tup (pa_cons (pv 10) (pa_cons (pe_dget hu (pv 2) (pv 10) (fun _ _ => rfl)) pa_nil)))))) pa_nil)) pa_nil))))))))
    (pss_cons (ps_setLc (i := 6) (own := [("name", 10)]) (g := gName 10) rfl (by exact nd) rfl rfl (by rfl) (pi_list (pe_lst (pa_cons pe_str (pa_cons pe_str (pa_cons pe_str (pa_cons pe_str (pa_cons pe_str (pa_cons pe_str (pa_cons pe_str (pa_cons pe_str pa_nil)))))))))) (blkOk_by (own := [("name", 10)]) (N := ["pot", "term", "there", "found", "odd", "spot", "lacking", "further", "wider", "changed", "name"]) (sc := defScope s__law_wrong) (by decide +kernel)) (fun _ _ _ _ _ => (pg_name (i := 10) nd rfl (.inl rfl))) (fun _ _ _ _ _ => (pts_one (pt_cmpR (op_notIn_seq : OpR _ (compareOp .NotIn) (rIn K true)) (pv 10) (pe_fn G__law_spots hg (hr.mono (by decide)) T.d__law_spots.kp T.d__law_spots.m (by rfl) passL (pa_cons (pv 1) pa_nil)) (by rfl)))) (fun _ _ _ _ _ => (pv 10)))
    (pss_cons (ps_expr (pe_bmK (K := K) rfl PySem.F.plainAttrs_list PySem.F.slot_list_append PySem.F.type_list_append mt_append (pv 3) (pa_cons (pe_callTy call_dictD (by rfl) T.z_dict (by decide +kernel) (pa_cons (pv 2) pa_nil)) pa_nil)))
    (pss_cons (ps_set (i := 7) nd rfl (.inl rfl) (pe_ix (ix_listK (K := K) rfl) (pv 3) (pe_un un_neg pe_int) (fun _ _ => rfl)))
    (pss_cons (ps_asg (pe_fn G__law_pick hg (hr.mono (by decide)) T.d__law_pick.kp T.d__law_pick.m (by rfl) passL (pa_cons (pv 0) (pa_cons (pe_lst (pa_cons pe_bl (pa_cons pe_non (pa_cons pe_str (pa_cons (pe_lstB (pa_cons pe_int pa_nil)) (pa_cons pe_str pa_nil)))))) pa_nil))) (pg_sub (pv 7) (pe_fn G__law_pick hg (hr.mono (by decide)) T.d__law_pick.kp T.d__law_pick.m (by rfl) passL (pa_cons (pv 0) (pa_cons (pv 6) pa_nil))) (set_dict hu)))
    (pss_one (ps_ret (pv 3)))))))))), ?_⟩
    have dp : d ≠ p := fun z => by
      obtain ⟨_, _, g1, _⟩ := po
      have g2 := gd.at_
      rw [z, g1] at g2
      cases g2
    have gk := gd.gk
    have kvn : ∀ kv ∈ kvs, ∃ x, kv.1 = Sum.inr x := fun kv h => let ⟨n, _, e⟩ := gk.key kv h; ⟨n, e⟩
    have l8 := gk.len
    -- the list
    refine ⟨(by show 2 ≤ sizeLine; decide), fun t1 ht1 => ?_⟩
    have e1 : Ex H (upd H t1 (.tup [.str "r0", .int 1])) := Ex.new ht1
    have k1 : (upd H t1 (.tup [.str "r0", .int 1])) t1 = some (.tup [.str "r0", .int 1]) := upd_same
    generalize upd H t1 (.tup [.str "r0", .int 1]) = H1 at *
    refine ⟨(by show 1 ≤ sizeLine; decide), fun l1 hl1 hs1 => ?_⟩
    have e2 : Ex H1 (upd H1 l1 (.lst [.ref t1])) := Ex.new hl1
    have k2 : (upd H1 l1 (.lst [.ref t1])) l1 = some (.lst [.ref t1]) := upd_same
    generalize upd H1 l1 (.lst [.ref t1]) = H2 at *
    refine ⟨(by show 0 ≤ sizeLine; decide), fun t2 ht2 => ?_⟩
    have e3 : Ex H2 (upd H2 t2 (.tup [])) := Ex.new ht2
    have k3 : (upd H2 t2 (.tup [])) t2 = some (.tup []) := upd_same
    generalize upd H2 t2 (.tup []) = H3 at *
    have e03 := (e1.trans e2).trans e3
    refine ⟨.ref d, rfl, d, kvs, rfl, e03 _ _ gd.at_, fun l2 hl2 hs2 => ?_⟩
    have e4 : Ex H3 (upd H3 l2 (.lst (kvs.map fun kv => kV kv.1))) := Ex.new hl2
    have k4 : (upd H3 l2 (.lst (kvs.map fun kv => kV kv.1))) l2 = some (.lst (kvs.map fun kv => kV kv.1)) := upd_same
    generalize upd H3 l2 (.lst (kvs.map fun kv => kV kv.1)) = H4 at *
    refine ⟨(by show 7 ≤ sizeLine; decide), fun l hl => ?_⟩
    have e04 := e03.trans e4
    have lp : l ≠ p := (po.up e04).ne hl
    have lH : H l = none := fresh_back e04 hl
    have dl : d ≠ l := ne_of_none gd.at_ lH
    have F5 : Fx p l H (upd H4 l (.lst [.non, .int 5, .str "r0", .ref l1, .ref t2, .bl true, .ref l2])) := (Fx.refl po).ex (e04.trans (Ex.new hl))
    have L5 : (upd H4 l (.lst [.non, .int 5, .str "r0", .ref l1, .ref t2, .bl true, .ref l2])) l = some (.lst [.non, .int 5, .str "r0", .ref l1, .ref t2, .bl true, .ref l2]) := upd_same
    have b5 : ∀ w ∈ ([.non, .int 5, .str "r0", .ref l1, .ref t2, .bl true, .ref l2] : List V), Bz K (Mk p l (upd H4 l (.lst [.non, .int 5, .str "r0", .ref l1, .ref t2, .bl true, .ref l2]))) t.places w := by
      have at5 : ∀ {b o}, H4 b = some o → b ≠ p → Mk p l (upd H4 l (.lst [.non, .int 5, .str "r0", .ref l1, .ref t2, .bl true, .ref l2])) b = some o := fun {b o} h bp => mk_at bp (ne_of_none h hl) (Ex.new hl _ _ h)
      have a1 := at5 (((e2.trans e3).trans e4) _ _ k1) (po.ne ht1)
      have a2 := at5 ((e3.trans e4) _ _ k2) ((po.up e1).ne hl1)
      have a3 := at5 (e4 _ _ k3) ((po.up (e1.trans e2)).ne ht2)
      have a4 := at5 k4 ((po.up e03).ne hl2)
      intro w hw
      simp only [List.mem_cons, List.not_mem_nil, or_false] at hw
      rcases hw with rfl | rfl | rfl | rfl | rfl | rfl | rfl
      · exact bz_nd .non (by decide) dz_non (by decide) (by decide)
      · exact bz_nd (.int 5) (by decide) (dz_int (by decide)) (by decide) (by decide)
      · exact bz_nd (.str _) (by decide) (dz_name (by decide)) (by decide) (by decide)
      · refine bz_nd (.lst a2) (by decide) (dz_lst (k := 1) (n := 2 * 241) (m := 1) a2 (fun x hx => ?_) (Nat.le_refl 1) hs1) (by decide) (by decide)
        rw [List.mem_singleton.mp hx]
        refine dz_tup (k := 0) (n := 240) (m := 2) a1 (fun x hx => ?_) (Nat.le_refl 2)
        simp only [List.mem_cons, List.not_mem_nil, or_false] at hx
        rcases hx with rfl | rfl
        · exact dz_name (by decide)
        · exact dz_int (by decide)
      · exact bz_nd (.tup a3) (by decide) (dz_tup (k := 0) (n := 240) (m := 0) a3 (fun x hx => absurd hx List.not_mem_nil) (Nat.le_refl 0)) (by decide) (by decide)
      · exact bz_nd (.bl true) (by decide) dz_bl (by decide) (by decide)
      · refine bz_nd (.lst a4) (by decide) (dz_lst (k := 0) (n := 240) (m := 8) a4 (fun x hx => ?_) (by rw [List.length_map]; exact l8) hs2) (by decide) (by decide)
        obtain ⟨kv, hkv, rfl⟩ := List.mem_map.mp hx
        obtain ⟨n, hn, e⟩ := gk.key kv hkv
        rw [e]
        exact dz_name hn
    have w7 : ([.non, .int 5, .str "r0", .ref l1, .ref t2, .bl true, .ref l2] : List V).length ≤ 7 := Nat.le_refl 7
    generalize upd H4 l (.lst [.non, .int 5, .str "r0", .ref l1, .ref t2, .bl true, .ref l2]) = H5 at *
    generalize ([.non, .int 5, .str "r0", .ref l1, .ref t2, .bl true, .ref l2] : List V) = ws0 at *
    clear e1 e2 e3 e4 k1 k2 k3 k4 e03 e04 hs1 hs2 ht1 hl1 ht2 hl2
    have md5 : TM.MdAt S (Mk p l H5) v t := md.ex fun b o h => let ⟨h1, _, h3⟩ := mk_of h; mk_at h1 (ne_of_none h3 lH) (F5.k b o h1 (ne_of_none h3 lH) h3)
    -- keys that are no places
    refine ⟨.ref p, rfl, (by show 1 ≤ sizeLine; decide), fun t3 ht3 => ?_⟩
    have e6 : Ex H5 (upd H5 t3 (.tup [.str "r0"])) := Ex.new ht3
    have k6 : (upd H5 t3 (.tup [.str "r0"])) t3 = some (.tup [.str "r0"]) := upd_same
    have t3p : t3 ≠ p := F5.po.ne ht3
    have t3l : t3 ≠ l := fun z => by rw [z, L5] at ht3; cases ht3
    generalize upd H5 t3 (.tup [.str "r0"]) = H6 at *
    refine ⟨(by show 9 ≤ sizeLine; decide), fun l3 hl3 => ?_⟩
    have F6 := F5.ex e6
    refine ⟨p, l3, _, rfl, F6.po.up (Ex.new hl3), upd_same, F6.po.ne hl3, (by show 0 < 9; decide), (by show 9 ≤ 1000; decide), fun x hx H8 x8 => ?_⟩
    have F58 : Fx p l H5 H8 := (((Fx.refl F5.po).ex e6).ex (Ex.new hl3)).px x8
    have ox : OddK K (Mk p l H8) x := by
      simp only [List.mem_cons, List.not_mem_nil, or_false] at hx
      rcases hx with rfl | rfl | rfl | rfl | rfl | rfl | rfl | rfl | rfl
      · exact oddk_str (by decide +kernel) (by decide +kernel) (by decide +kernel)
      · exact oddk_str (by decide +kernel) (by decide +kernel) (by decide +kernel)
      · exact oddk_str (by decide +kernel) (by decide +kernel) (by decide +kernel)
      · exact oddk_str (by decide +kernel) (by decide +kernel) (by decide +kernel)
      · exact oddk_str (by decide +kernel) (by decide +kernel) (by decide +kernel)
      · exact oddk_str (by decide +kernel) (by decide +kernel) (by decide +kernel)
      · exact .inl ⟨.inl 0, rfl, rfl, ⟨_, .int 0⟩, (fun c z => by cases z), dz_int (by decide)⟩
      · exact .inr (.inl rfl)
      · exact .inr (.inr ⟨t3, rfl, mk_at t3p t3l (x8.1 _ _ t3p ((Ex.new hl3) _ _ k6))⟩)
    have L8 : H8 l = some (.lst ws0) := x8.1 _ _ lp ((Ex.new hl3) _ _ (e6 _ _ L5))
    clear hl3 k6 e6 x8 hx
    refine ⟨(by show 2 ≤ sizeLine; decide), fun l4 hl4 => ⟨l4, rfl, ⟨_, sq_of upd_same⟩, ?_⟩⟩
    have l4p : l4 ≠ p := F58.po.ne hl4
    have l4l : l4 ≠ l := fun z => by rw [z, L8] at hl4; cases hl4
    have F59 : Fx p l H5 (upd H8 l4 (.lst [x, .str "r01"])) := F58.ex (Ex.new hl4)
    have F89 : Fx p l H8 (upd H8 l4 (.lst [x, .str "r01"])) := (Fx.refl F58.po).ex (Ex.new hl4)
    have k9 : (upd H8 l4 (.lst [x, .str "r01"])) l4 = some (.lst [x, .str "r01"]) := upd_same
    have L9 : (upd H8 l4 (.lst [x, .str "r01"])) l = some (.lst ws0) := (Ex.new hl4) _ _ L8
    generalize upd H8 l4 (.lst [x, .str "r01"]) = H9 at *
    refine for_list (K := K) (a := l4) (xs := [x, .str "r01"]) (fun i σ' H' => (∃ u4 u8, σ' = [some (.ref p), some v, some (.ref d), some (.ref l), u4, none, none, none, u8, none, none]) ∧ Fx p l H9 H' ∧ ∃ ws, H' l = some (.lst ws) ∧ ws.length ≤ 7 + i ∧ ∀ w ∈ ws, Bz K (Mk p l H') t.places w) ⟨⟨_, _, rfl⟩, Fx.refl F59.po, ws0, L9, w7, fun w hw => (b5 w hw).up F59.mkx⟩ (fun i σ' H' _ h => sq_of (h.2.1.k _ _ l4p l4l k9)) ?_ ?_
    · rintro i x2 σ' H10 hx2 ⟨⟨u4, u8, rfl⟩, F10, ws, hl10, hz10, hb10⟩
      have ox2 : OddK K (Mk p l H9) x2 := by
        have := List.mem_of_getElem? hx2
        simp only [List.mem_cons, List.not_mem_nil, or_false] at this
        rcases this with rfl | rfl
        · exact ox.up F89.mkx
        · exact oddk_str (by decide +kernel) (by decide +kernel) (by decide +kernel)
      have i2 : i < 2 := (List.getElem?_eq_some_iff.mp hx2).1
      have hd10 : H10 d = some (.dK kvs) := F10.k _ _ dp dl (F59.k _ _ dp dl (F5.k _ _ dp dl gd.at_))
      refine q_copy rfl rfl hl10 hd10 (by omega) fun c hc cl => ?_
      have cp : c ≠ p := F10.po.ne hc
      have Fc : ∀ o, Fx p l H10 (upd (upd (upd H10 c (.dK kvs)) l (.lst (ws ++ [.ref c]))) c o) := fun o => (((Fx.refl F10.po).mut hc cp).app lp).mut hc cp
      have hlc : ∀ o, (upd (upd (upd H10 c (.dK kvs)) l (.lst (ws ++ [.ref c]))) c o) l = some (.lst (ws ++ [.ref c])) := fun o => by rw [upd_ne (Ne.symm cl), upd_same]
      have hcc : (upd (upd H10 c (.dK kvs)) l (.lst (ws ++ [.ref c]))) c = some (.dK kvs) := by rw [upd_ne cl, upd_same]
      have fin : ∀ o, Bz K (Mk p l (upd (upd (upd H10 c (.dK kvs)) l (.lst (ws ++ [.ref c]))) c o)) t.places (.ref c) → (fun i σ' H' => (∃ u4 u8, σ' = [some (.ref p), some v, some (.ref d), some (.ref l), u4, none, none, none, u8, none, none]) ∧ Fx p l H9 H' ∧ ∃ ws, H' l = some (.lst ws) ∧ ws.length ≤ 7 + i ∧ ∀ w ∈ ws, Bz K (Mk p l H') t.places w) (i + 1) [some (.ref p), some v, some (.ref d), some (.ref l), some x2, none, none, none, some (.ref c), none, none] (upd (upd (upd H10 c (.dK kvs)) l (.lst (ws ++ [.ref c]))) c o) := fun o hb => by
        refine ⟨⟨_, _, rfl⟩, F10.trans (Fc o), _, hlc o, by rw [List.length_append]; simp; omega, fun w hw => ?_⟩
        rcases List.mem_append.mp hw with hw | hw
        · exact (hb10 w hw).up (Fc o).mkx
        · rw [List.mem_singleton.mp hw]
          exact hb
      refine ⟨.ref c, rfl, x2, rfl, ?_⟩
      rcases ox2 with ⟨k, rfl, no, ⟨tk, kn⟩, ne, dz⟩ | rfl | ⟨T0, rfl, hT⟩
      · refine .inl ⟨c, _, rfl, DPut.k (k := k) (kvs := kvs) hcc (sz_lt (by omega)), ?_⟩
        exact fin _ (bz_key gk (mk_at cp cl upd_same) no ⟨tk, kn.up (F10.trans (Fc _)).mkx⟩ (ne c) (dz.up (F10.trans (Fc _)).mkx))
      · refine .inr ⟨c, kvs, rfl, hcc, kvn, sz_lt (by omega), .inl rfl, ?_⟩
        exact fin _ (bz_odd gk (mk_at cp cl upd_same) rfl ⟨_, .non⟩ (fun z => by cases z) (dz_non.mono (by decide) (by decide)))
      · obtain ⟨Tp, Tl, hT9⟩ := mk_of hT
        have hT10 := F10.k _ _ Tp Tl hT9
        have Tc : T0 ≠ c := ne_of_none hT10 hc
        refine .inr ⟨c, kvs, rfl, hcc, kvn, sz_lt (by omega), .inr ⟨T0, [Sum.inr "r0"], rfl, by rw [upd_ne Tl, upd_ne Tc]; exact hT10⟩, ?_⟩
        refine fin _ (bz_odd gk (mk_at cp cl upd_same) rfl ⟨_, .tup ((F10.trans (Fc _)).mkx _ _ hT)⟩ (fun z => Tc (V.ref.inj z)) ((dz_tup (k := 0) (n := 240) (m := 1) ((F10.trans (Fc _)).mkx _ _ hT) (fun y hy => ?_) (Nat.le_refl 1)).mono (by decide) (by decide)))
        rw [List.mem_singleton.mp hy]
        exact dz_name (by decide)
    · rintro σ' H10 ⟨⟨u4, u8, rfl⟩, F910, ws1, hl10, hz10, hb10⟩
      have F510 := F59.trans F910
      have F10 := F5.trans F510
      have md10 := md5.ex F510.mkx
      have z10 : ws1.length ≤ 9 := hz10
      clear hz10 F910 k9 L9 F89 F59 L8 F58 ox hl4 md5 b5 w7 L5 F6 F510 F5
      -- values that are none, places that are not there
      refine ⟨v, rfl, S, v, t, rfl, md10.ex mk_ex, ok, by omega, fun ls ys H11 hls e11 hss h11 => ?_⟩
      have y8 : ys.length ≤ 8 := hss.len ok
      refine ⟨2, rfl, ls, ys.map V.str, rfl, sq_of h11, fun l12 hl12 => ⟨l12, rfl, ⟨_, sq_of upd_same⟩, ?_⟩⟩
      have e012 := e11.trans (Ex.new (o := .lst (cutV (ys.map V.str) none (some 2))) hl12)
      have F12 := F10.ex e012
      have F1012 : Fx p l H10 (upd H11 l12 (.lst (cutV (ys.map V.str) none (some 2)))) := (Fx.refl F10.po).ex e012
      have l12p : l12 ≠ p := (F10.po.up e11).ne hl12
      have l12l : l12 ≠ l := fun z => by rw [z, e11 _ _ hl10] at hl12; cases hl12
      have k12 : (upd H11 l12 (.lst (cutV (ys.map V.str) none (some 2)))) l12 = some (.lst (cutV (ys.map V.str) none (some 2))) := upd_same
      have L12 := e012 _ _ hl10
      have cmem : ∀ x ∈ cutV (ys.map V.str) none (some 2), ∃ n, x = .str n ∧ n ∈ t.places ∧ n ∈ TM.names := fun x hx => by
        obtain ⟨n, hn, rfl⟩ := List.mem_map.mp (cutV_mem hx)
        exact ⟨n, rfl, (hss.mem n).mp hn, ok.names n ((hss.mem n).mp hn)⟩
      have clen : (cutV (ys.map V.str) none (some 2)).length ≤ 8 := Nat.le_trans (cutV_length _ _ _) (by rw [List.length_map]; exact y8)
      generalize upd H11 l12 (.lst (cutV (ys.map V.str) none (some 2))) = H12 at *
      generalize cutV (ys.map V.str) none (some 2) = cut at *
      refine for_list (K := K) (a := l12) (xs := cut) (fun i σ' H' => (∃ u4 u5 u8 u9, σ' = [some (.ref p), some v, some (.ref d), some (.ref l), u4, u5, none, none, u8, u9, none]) ∧ Fx p l H12 H' ∧ ∃ ws, H' l = some (.lst ws) ∧ ws.length ≤ 9 + 2 * i ∧ ∀ w ∈ ws, Bz K (Mk p l H') t.places w) ⟨⟨_, _, _, _, rfl⟩, Fx.refl F12.po, ws1, L12, z10, fun w hw => (hb10 w hw).up F1012.mkx⟩ (fun i σ' H' _ h => sq_of (h.2.1.k _ _ l12p l12l k12)) ?_ ?_
      · rintro i x2 σ' H13 hx2 ⟨⟨u4, u5, u8, u9, rfl⟩, F13, ws, hl13, hz13, hb13⟩
        obtain ⟨n, rfl, hnt, hnn⟩ := cmem _ (List.mem_of_getElem? hx2)
        have i8 : i < 8 := Nat.lt_of_lt_of_le (List.getElem?_eq_some_iff.mp hx2).1 clen
        have hd13 : H13 d = some (.dK kvs) := F13.k _ _ dp dl (F12.k _ _ dp dl gd.at_)
        refine q_copy rfl rfl hl13 hd13 (by omega) fun c hc cl => ?_
        have cp : c ≠ p := F13.po.ne hc
        have Fc : Fx p l H13 (upd (upd H13 c (.dK kvs)) l (.lst (ws ++ [.ref c]))) := ((Fx.refl F13.po).mut hc cp).app lp
        have hlc : (upd (upd H13 c (.dK kvs)) l (.lst (ws ++ [.ref c]))) l = some (.lst (ws ++ [.ref c])) := upd_same
        have hcc : (upd (upd H13 c (.dK kvs)) l (.lst (ws ++ [.ref c]))) c = some (.dK kvs) := by rw [upd_ne cl, upd_same]
        generalize upd (upd H13 c (.dK kvs)) l (.lst (ws ++ [.ref c])) = Hc at *
        refine ⟨.ref p, rfl, (by show 1 ≤ sizeLine; decide), fun l6 hl6 hs6 => ?_⟩
        have e6 : Ex Hc (upd Hc l6 (.lst [.int 1])) := Ex.new hl6
        have k6 : (upd Hc l6 (.lst [.int 1])) l6 = some (.lst [.int 1]) := upd_same
        generalize upd Hc l6 (.lst [.int 1]) = He1 at *
        refine ⟨(by show 1 ≤ sizeLine; decide), fun t6 ht6 d6 hd6 => ?_⟩
        have e7 : Ex He1 (upd He1 t6 (.tup [.int 1])) := Ex.new ht6
        have k7 : (upd He1 t6 (.tup [.int 1])) t6 = some (.tup [.int 1]) := upd_same
        generalize upd He1 t6 (.tup [.int 1]) = He2 at *
        have e8 : Ex He2 (upd He2 d6 (.dK [])) := Ex.new hd6
        have k8 : (upd He2 d6 (.dK [])) d6 = some (.dK []) := upd_same
        generalize upd He2 d6 (.dK []) = He3 at *
        refine ⟨(by show 9 ≤ sizeLine; decide), fun l7 hl7 => ?_⟩
        have e68 := (e6.trans e7).trans e8
        have e69 := e68.trans (Ex.new (o := .lst [.bl true, .bl false, .non, .str "", .str "Top", .str "1", .ref l6, .ref t6, .ref d6]) hl7)
        refine ⟨p, l7, _, rfl, Fc.po.up e69, upd_same, (Fc.po.up e68).ne hl7, (by show 0 < 9; decide), (by show 9 ≤ 1000; decide), fun x hx Hp px => ?_⟩
        have Fp : Fx p l Hc Hp := ((Fx.refl Fc.po).ex e69).px px
        have hlp := px.1 _ _ lp (e69 _ _ hlc)
        have hcp := px.1 _ _ cp (e69 _ _ hcc)
        refine ⟨.ref c, rfl, .str n, rfl, c, _, rfl, DPut.k (k := Sum.inr n) (kvs := kvs) hcp (sz_lt (by omega)), ?_⟩
        have new : ∀ {b : Addr} {o : HO}, He3 b = some o → Hc b = none → b ≠ p → b ≠ c ∧ Mk p l (upd Hp c (.dK (putK kvs (Sum.inr n) x))) b = some o := fun {b o} h hn bp => by
          have bc : b ≠ c := fun z => by rw [z, hcc] at hn; cases hn
          have bl : b ≠ l := fun z => by rw [z, hlc] at hn; cases hn
          exact ⟨bc, mk_at bp bl (by rw [upd_ne bc]; exact px.1 _ _ bp ((Ex.new hl7) _ _ h))⟩
        obtain ⟨c6, m6⟩ := new (((e7.trans e8)) _ _ k6) hl6 (Fc.po.ne hl6)
        obtain ⟨c7, m7⟩ := new (e8 _ _ k7) (fresh_back e6 ht6) (Fc.po.ne (fresh_back e6 ht6))
        obtain ⟨c8, m8⟩ := new k8 (fresh_back (e6.trans e7) hd6) (Fc.po.ne (fresh_back (e6.trans e7) hd6))
        have one : DzS K (Mk p l (upd Hp c (.dK (putK kvs (Sum.inr n) x)))) 0 240 (.int 1) := dz_int (by decide)
        have ox : OddV K (Mk p l (upd Hp c (.dK (putK kvs (Sum.inr n) x)))) x ∧ x ≠ .ref c := by
          generalize upd Hp c (.dK (putK kvs (Sum.inr n) x)) = Hq at *
          simp only [List.mem_cons, List.not_mem_nil, or_false] at hx
          rcases hx with rfl | rfl | rfl | rfl | rfl | rfl | rfl | rfl | rfl
          · exact ⟨⟨rfl, ⟨_, .bl _⟩, dz_bl.mono (by decide) (by decide)⟩, fun z => by cases z⟩
          · exact ⟨⟨rfl, ⟨_, .bl _⟩, dz_bl.mono (by decide) (by decide)⟩, fun z => by cases z⟩
          · exact ⟨⟨rfl, ⟨_, .non⟩, dz_non.mono (by decide) (by decide)⟩, fun z => by cases z⟩
          · exact ⟨⟨by decide +kernel, ⟨_, .str _⟩, (dz_str (by decide +kernel) (by decide +kernel)).mono (by decide) (by decide)⟩, fun z => by cases z⟩
          · exact ⟨⟨by decide +kernel, ⟨_, .str _⟩, (dz_str (by decide +kernel) (by decide +kernel)).mono (by decide) (by decide)⟩, fun z => by cases z⟩
          · exact ⟨⟨by decide +kernel, ⟨_, .str _⟩, (dz_str (by decide +kernel) (by decide +kernel)).mono (by decide) (by decide)⟩, fun z => by cases z⟩
          · exact ⟨⟨rfl, ⟨_, .lst m6⟩, (dz_lst (k := 0) (n := 240) (m := 1) m6 (fun y hy => by rw [List.mem_singleton.mp hy]; exact one) (Nat.le_refl 1) hs6).mono (by decide) (by decide)⟩, fun z => c6 (V.ref.inj z)⟩
          · exact ⟨⟨rfl, ⟨_, .tup m7⟩, (dz_tup (k := 0) (n := 240) (m := 1) m7 (fun y hy => by rw [List.mem_singleton.mp hy]; exact one) (Nat.le_refl 1)).mono (by decide) (by decide)⟩, fun z => c7 (V.ref.inj z)⟩
          · exact ⟨⟨rfl, ⟨_, .dic m8⟩, (dz_dic (k := 0) (n := 240) (m := 0) m8 (fun y hy => absurd hy List.not_mem_nil) (Nat.le_refl 0)).mono (by decide) (by decide)⟩, fun z => c8 (V.ref.inj z)⟩
        have Fq : Fx p l H13 (upd Hp c (.dK (putK kvs (Sum.inr n) x))) := (Fc.trans Fp).mut hc cp
        have hbq : Bz K (Mk p l (upd Hp c (.dK (putK kvs (Sum.inr n) x)))) t.places (.ref c) := bz_val gk hnn (mk_at cp cl upd_same) ox.1 ox.2
        have hlq : (upd Hp c (.dK (putK kvs (Sum.inr n) x))) l = some (.lst (ws ++ [.ref c])) := by rw [upd_ne (Ne.symm cl)]; exact hlp
        have hdq : (upd Hp c (.dK (putK kvs (Sum.inr n) x))) d = some (.dK kvs) := Fq.k _ _ dp dl hd13
        generalize upd Hp c (.dK (putK kvs (Sum.inr n) x)) = Hq at *
        refine ⟨.ref l, rfl, .inl ⟨rfl, _, sq_of hlq⟩, ?_⟩
        refine ed_pairs (ep_keys (ks := kvs) (b := fun kv => !decide (kV kv.1 = V.str n)) (kvs := kvs) hdq rfl rfl (by omega) (fun _ => rfl) (fun j kv H14 hkv lk => ?_) (fun j kv H14 hkv _ lk => ?_)) ((List.Sublist.map _ List.filter_sublist).nodup gk.nd) Hq (Ex.refl _) _ fun d9 Hr hd9 er hr9 => ?_
        · obtain ⟨m, _, ek⟩ := gk.key kv (List.mem_of_getElem? hkv)
          rw [ek]
          exact et_test (ev_op (ev_var rfl) (ev_var rfl) (rv_ne rfl))
        · have hm := List.mem_of_getElem? hkv
          exact eu_tup (ea_cons (ev_var rfl) (ea_cons (ev_dgetR (ev_var rfl) (ev_var rfl) (lk_get lk) (look_of gk.nd kv hm)) ea_nil)) (by show 2 ≤ 100000; decide)
        · have Fr : Fx p l Hq Hr := (Fx.refl Fq.po).ex er
          have d9l : d9 ≠ l := fun z => by rw [z, hlq] at hd9; cases hd9
          have d9p : d9 ≠ p := Fq.po.ne hd9
          refine ⟨l, _, .ref d9, rfl, rfl, er _ _ hlq, sz_lt (by rw [List.length_append]; simp; omega), ⟨_, _, _, _, rfl⟩, F13.trans ((Fq.trans Fr).app lp), _, upd_same, by rw [List.length_append, List.length_append]; simp; omega, fun w hw => ?_⟩
          rcases List.mem_append.mp hw with hw | hw
          · rcases List.mem_append.mp hw with hw | hw
            · exact (hb13 w hw).up ((Fq.trans Fr).app lp).mkx
            · rw [List.mem_singleton.mp hw]
              exact hbq.up (Fr.app lp).mkx
          · rw [List.mem_singleton.mp hw]
            refine bz_miss gk (mk_at d9p d9l (by rw [upd_ne d9l]; exact hr9)) (fun kv e => ?_) hnt
            rw [e]
            show (!decide (V.str n = V.str n)) = false
            rw [decide_eq_true rfl]
            rfl
      · rintro σ' H13 ⟨⟨u4, u5, u8, u9, rfl⟩, F1213, ws2, hl13, hz13, hb13⟩
        have F13 := F12.trans F1213
        have md13 : TM.MdAt S H13 v t := (md10.ex (F1012.trans F1213).mkx).ex mk_ex
        have z13 : ws2.length ≤ 25 := by omega
        clear hz13 F1213 F1012 F12 k12 L12 cmem e012 hl12 h11 e11 hls hb10 z10 md10 F10 hl10
        -- a place that is not asked for
        have gs : given 8 (fun i => (fun x => !inV x (ys.map V.str)) (([.str "r0", .str "r1", .str "r2", .str "r3", .str "r4", .str "r5", .str "x0", .str "x1"] : List V).getD i .non)) (fun i => id (([.str "r0", .str "r1", .str "r2", .str "r3", .str "r4", .str "r5", .str "x0", .str "x1"] : List V).getD i .non)) = (lackS ys).map V.str := by
          rw [show (8 : Nat) = ([.str "r0", .str "r1", .str "r2", .str "r3", .str "r4", .str "r5", .str "x0", .str "x1"] : List V).length from rfl, given_if (f := fun x => !inV x (ys.map V.str)) (g := id)]
          rw [List.map_id, lackS, show ([.str "r0", .str "r1", .str "r2", .str "r3", .str "r4", .str "r5", .str "x0", .str "x1"] : List V) = TM.names.map V.str from rfl, List.filter_map]
          congr 1
          refine List.filter_congr fun x _ => ?_
          show (!inV (.str x) (ys.map V.str)) = _
          rw [inV_str]
        have L : EvL (tLc (iList K (tLst (tCons (tC (.str "r0")) (tCons (tC (.str "r1")) (tCons (tC (.str "r2")) (tCons (tC (.str "r3")) (tCons (tC (.str "r4")) (tCons (tC (.str "r5")) (tCons (tC (.str "x0")) (tCons (tC (.str "x1")) tNil)))))))))) (gName 10) (tTest (tOp (rIn K true) (tVar 10) (tFn (sp__law_spots 4) E0 (tCons (tVar 1) tNil)))) (tVar 10) [10]) [some (.ref p), some v, some (.ref d), some (.ref l), u4, u5, none, none, u8, u9, none] H13 ((lackS ys).map V.str) := by
          have z := el_lcLN (K := K) (t := tTest (tOp (rIn K true) (tVar 10) (tFn (sp__law_spots 4) E0 (tCons (tVar 1) tNil)))) (te := tVar 10) (σ := [some (.ref p), some v, some (.ref d), some (.ref l), u4, u5, none, none, u8, u9, none]) (H := H13) (xs := [.str "r0", .str "r1", .str "r2", .str "r3", .str "r4", .str "r5", .str "x0", .str "x1"]) (j := 10) (vs := [10]) (fun i => (fun x => !inV x (ys.map V.str)) (([.str "r0", .str "r1", .str "r2", .str "r3", .str "r4", .str "r5", .str "x0", .str "x1"] : List V).getD i .non)) (fun i => id (([.str "r0", .str "r1", .str "r2", .str "r3", .str "r4", .str "r5", .str "x0", .str "x1"] : List V).getD i .non)) (el_lst (ea_cons ev_c (ea_cons ev_c (ea_cons ev_c (ea_cons ev_c (ea_cons ev_c (ea_cons ev_c (ea_cons ev_c (ea_cons ev_c ea_nil)))))))) (by show 8 ≤ 100000; decide)) (by show 8 ≤ 40000; decide) (fun _ => rfl) (fun i x H14 e14 hx => ?_) (fun i x H14 e14 hx _ => ?_)
          · rw [show ([.str "r0", .str "r1", .str "r2", .str "r3", .str "r4", .str "r5", .str "x0", .str "x1"] : List V).length = 8 from rfl, gs] at z
            exact z
          · rw [getD_of hx]
            have fl : flatV x = true := by
              have hm := List.mem_of_getElem? hx
              simp only [List.mem_cons, List.not_mem_nil, or_false] at hm
              rcases hm with rfl | rfl | rfl | rfl | rfl | rfl | rfl | rfl <;> rfl
            exact et_test (ev_opL (ev_var rfl) (el_spots (ev_var rfl) (md13.ex e14) ok hd3 hss) fun z Hz hz ez => rv_niL (sq_of hz) fl (by rw [List.all_eq_true]; intro y hy; obtain ⟨n, _, rfl⟩ := List.mem_map.mp hy; rfl))
          · rw [getD_of hx]
            exact ev_var rfl
        refine q_asgL L fun lk H14 hlk e14 h14 => ?_
        have F14 := F13.ex e14
        have F1314 : Fx p l H13 H14 := (Fx.refl F13.po).ex e14
        have lkp : lk ≠ p := F13.po.ne hlk
        have lkl : lk ≠ l := fun z => by rw [z, hl13] at hlk; cases hlk
        refine q_copy rfl rfl (e14 _ _ hl13) (F14.k _ _ dp dl gd.at_) (by omega) fun c hc cl => ?_
        have cp : c ≠ p := F14.po.ne hc
        have Fc : Fx p l H14 (upd (upd H14 c (.dK kvs)) l (.lst (ws2 ++ [.ref c]))) := ((Fx.refl F14.po).mut hc cp).app lp
        have hlc : (upd (upd H14 c (.dK kvs)) l (.lst (ws2 ++ [.ref c]))) l = some (.lst (ws2 ++ [.ref c])) := upd_same
        have hcc : (upd (upd H14 c (.dK kvs)) l (.lst (ws2 ++ [.ref c]))) c = some (.dK kvs) := by rw [upd_ne cl, upd_same]
        generalize upd (upd H14 c (.dK kvs)) l (.lst (ws2 ++ [.ref c])) = Hc at *
        refine ⟨.ref p, rfl, (by show 1 ≤ sizeLine; decide), fun l6 hl6 hs6 => ?_⟩
        have e6 : Ex Hc (upd Hc l6 (.lst [.int 1])) := Ex.new hl6
        have k6 : (upd Hc l6 (.lst [.int 1])) l6 = some (.lst [.int 1]) := upd_same
        generalize upd Hc l6 (.lst [.int 1]) = He1 at *
        refine ⟨(by show 5 ≤ sizeLine; decide), fun l7 hl7 => ?_⟩
        have e69 := e6.trans (Ex.new (o := .lst [.bl true, .non, .str "Top", .ref l6, .str "no bound"]) hl7)
        refine ⟨p, l7, _, rfl, Fc.po.up e69, upd_same, (Fc.po.up e6).ne hl7, (by show 0 < 5; decide), (by show 5 ≤ 1000; decide), fun x hx Hp px => ?_⟩
        have Fp : Fx p l Hc Hp := ((Fx.refl Fc.po).ex e69).px px
        have kl : Hp lk = some (.lst ((lackS ys).map V.str)) := Fp.k _ _ lkp lkl (Fc.k _ _ lkp lkl h14)
        have lk8 : (lackS ys).length ≤ 8 := List.length_filter_le _ _
        refine ⟨.ref c, rfl, .ref p, rfl, .ref lk, rfl, p, lk, _, rfl, px.2, kl, lkp, by rw [List.length_map]; exact lack_pos hss pl x5, by rw [List.length_map]; omega, fun y hy Hp2 px2 => ?_⟩
        obtain ⟨n, hn, rfl⟩ := List.mem_map.mp hy
        have hnn : n ∈ TM.names := (List.mem_filter.mp hn).1
        have Fp2 := Fp.px px2
        have hlp := px2.1 _ _ lp (px.1 _ _ lp (e69 _ _ hlc))
        have hcp := px2.1 _ _ cp (px.1 _ _ cp (e69 _ _ hcc))
        refine ⟨c, _, rfl, DPut.k (k := Sum.inr n) (kvs := kvs) hcp (sz_lt (by omega)), ?_⟩
        have c6 : l6 ≠ c := fun z => by rw [z, hcc] at hl6; cases hl6
        have l6l : l6 ≠ l := fun z => by rw [z, hlc] at hl6; cases hl6
        have l6p : l6 ≠ p := Fc.po.ne hl6
        have m6 : Mk p l (upd Hp2 c (.dK (putK kvs (Sum.inr n) x))) l6 = some (.lst [.int 1]) := mk_at l6p l6l (by rw [upd_ne c6]; exact px2.1 _ _ l6p (px.1 _ _ l6p ((Ex.new hl7) _ _ k6)))
        have ox : OddV K (Mk p l (upd Hp2 c (.dK (putK kvs (Sum.inr n) x)))) x ∧ x ≠ .ref c := by
          generalize upd Hp2 c (.dK (putK kvs (Sum.inr n) x)) = Hq at *
          simp only [List.mem_cons, List.not_mem_nil, or_false] at hx
          rcases hx with rfl | rfl | rfl | rfl | rfl
          · exact ⟨⟨rfl, ⟨_, .bl _⟩, dz_bl.mono (by decide) (by decide)⟩, fun z => by cases z⟩
          · exact ⟨⟨rfl, ⟨_, .non⟩, dz_non.mono (by decide) (by decide)⟩, fun z => by cases z⟩
          · exact ⟨⟨by decide +kernel, ⟨_, .str _⟩, (dz_str (by decide +kernel) (by decide +kernel)).mono (by decide) (by decide)⟩, fun z => by cases z⟩
          · exact ⟨⟨rfl, ⟨_, .lst m6⟩, (dz_lst (k := 0) (n := 240) (m := 1) m6 (fun y hy => by rw [List.mem_singleton.mp hy]; exact dz_int (by decide)) (Nat.le_refl 1) hs6).mono (by decide) (by decide)⟩, fun z => c6 (V.ref.inj z)⟩
          · exact ⟨⟨by decide +kernel, ⟨_, .str _⟩, (dz_str (by decide +kernel) (by decide +kernel)).mono (by decide) (by decide)⟩, fun z => by cases z⟩
        have Fq : Fx p l H14 (upd Hp2 c (.dK (putK kvs (Sum.inr n) x))) := (Fc.trans Fp2).mut hc cp
        have hbq : Bz K (Mk p l (upd Hp2 c (.dK (putK kvs (Sum.inr n) x)))) t.places (.ref c) := bz_val gk hnn (mk_at cp cl upd_same) ox.1 ox.2
        have hlq : (upd Hp2 c (.dK (putK kvs (Sum.inr n) x))) l = some (.lst (ws2 ++ [.ref c])) := by rw [upd_ne (Ne.symm cl)]; exact hlp
        generalize upd Hp2 c (.dK (putK kvs (Sum.inr n) x)) = Hq at *
        refine ⟨.ref l, rfl, q l _ Hq lH lp ⟨fun b o bp e => (F14.trans Fq).k b o bp (ne_of_none e lH) e, Fq.po⟩ hlq (by rw [List.length_append]; simp; omega) fun w hw => ?_⟩
        have up : Ex (Mk p l Hq) (Mk p p Hq) := fun b o h => let ⟨h1, _, h3⟩ := mk_of h; mk_at h1 h1 h3
        rcases List.mem_append.mp hw with hw | hw
        · exact ((hb13 w hw).up (F1314.trans Fq).mkx).up up
        · rw [List.mem_singleton.mp hw]
          exact hbq.up up
end
end K12
namespace K12
open PySem PySem.Spec PyProof.Rows L2 LG Evl
/-- the dicts that serve t, wherever they stand -/
def Gt (kvs : List (Key × V)) (t : TM.Tree) : Prop := ∀ (H : Hp) (d : Addr), H d = some (.dK kvs) → GD H d kvs t
theorem GD.gt {H : Hp} {d : Addr} {kvs : List (Key × V)} {t : TM.Tree} (h : GD H d kvs t) : Gt kvs t := fun _ _ e => ⟨e, ⟨.inl e, h.f.good, h.f.bd, h.f.has⟩, h.nd, h.inv⟩
theorem call_reprZK {X : Cx} {K : PySem.W.Frag} (hK : X.K = K) (hg : X.A.guards = some []) (hu : X.A.units + 64 < cLine) : CallR X (.builtin "repr") (rReprZ K) := by
  subst hK
  exact call_reprZ hg hu
section
variable {P : Program} {w : World} {K : PySem.W.Frag} {mg : Str → Option Value} {base : Heap} {a : At}
theorem ev_shaped {S : Addr → Prop} {tm tv : TE} {σ : L2.St} {H : Hp} {m v : V} {t : TM.Tree} {E : XK} (h1 : Ev tm σ H m) (h2 : Ev tv σ H v) (ht : TM.TmAt (csOf a) H m t) (md : TM.MdAt S H v t) (ok : TM.Ok t) (hd : t.depth ≤ 3) : Ev (tFn (sp__law_is_shaped a 4) E (tCons tm (tCons tv tNil))) σ H (.bl true) :=
  ev_fn (ea_cons h1 (ea_cons h2 ea_nil)) fun H1 e Q q E => ⟨S, m, v, t, rfl, ht.up e, md.ex e, ok, hd, by omega, q⟩
theorem ev_signs {S : Addr → Prop} {tm tv td : TE} {σ : L2.St} {H : Hp} {m v : V} {t : TM.Tree} {d : Addr} {kvs : List (Key × V)} {E : XK} (h1 : Ev tm σ H m) (h2 : Ev tv σ H v) (h3 : Ev td σ H (.ref d)) (ht : TM.TmAt (csOf a) H m t) (md : TM.MdAt S H v t) (ok : TM.Ok t) (hd : t.depth ≤ 3) (g : GD H d kvs t) : Ev (tFn (sp__law_signs_right a) E (tCons tm (tCons tv (tCons td tNil)))) σ H (.bl true) :=
  ev_fn (ea_cons h1 (ea_cons h2 (ea_cons h3 ea_nil))) fun H1 e Q q E => ⟨S, m, v, t, d, kvs, rfl, ht.up e, md.ex e, ok, hd, g.up e, q⟩
theorem ev_ofN {S : Addr → Prop} {tv td : TE} {σ : L2.St} {H : Hp} {v : V} {t : TM.Tree} {d : Addr} {kvs : List (Key × V)} {E E' : XK} (h1 : Ev tv σ H v) (h2 : Ev td σ H (.ref d)) (md : TM.MdAt S H v t) (ok : TM.Ok t) (hd : t.depth ≤ 3) (g : GD H d kvs t) :
    Ev (tFn (sp__law_of 4) E (tCons tv (tCons (tFn sp__law_numbers E' (tCons td tNil)) tNil))) σ H (.int (num (val (fD kvs) t))) := fun H1 e Q q =>
  h1 H1 e _ fun H2 e2 => h2 H2 (e.trans e2) _ fun H3 e3 => ⟨d, kvs, rfl, ((e.trans e2).trans e3) _ _ g.at_, g.f.good.len, g.nd, fun kv h => g.f.good.val kv h, fun pn H4 hpn e4 h4 => ⟨S, v, t, pn, kvs, rfl, md.ex (((e.trans e2).trans e3).trans e4), ok, by omega, h4, g.f.hs, fun H5 e5 => q H5 (((e2.trans e3).trans e4).trans e5)⟩⟩
theorem ev_reprLv {te : TE} {σ : L2.St} {H : Hp} {x : V} {d : PyData} (h : Ev te σ H x) (lz : LzAt K H x d) (hs : Shows d) : Ev (tCB (rReprZ K) (tCons te tNil)) σ H (.str d.shown) := fun H1 e Q q =>
  h H1 e _ fun H2 e2 => ⟨x, d, rfl, .inr (.inr (lz.up (e.trans e2))), hs, q H2 e2⟩
theorem ev_any {σ : L2.St} {H : Hp} {te : TE} {bs : List Bool} (h : EvL te σ H (bs.map V.bl)) : Ev (tCB (rAny K) (tCons te tNil)) σ H (.bl (bs.any id)) := fun H1 e Q q => h H1 e _ fun p H2 _ e2 h2 => ⟨p, bs, rfl, sq_of h2, q H2 e2⟩
theorem bd_shows {x : V} (h : Bd x) : Shows (dV x) := (bd_flat h).2.shows (by decide) (by decide)
theorem mk_px {p : Addr} {H H' : Hp} (x : Px p H H') : Ex (Mk p p H) (Mk p p H') := fun b o h => let ⟨h1, _, h3⟩ := mk_of h; mk_at h1 h1 (x.1 b o h1 h3)
/-- the dicts made so far -/
def WD (p : Addr) (t : TM.Tree) (H3 : Hp) (D : Addr) (_ : Nat) (acc : List V) (H' : Hp) : Prop := Px p H3 H' ∧ ∃ ds : List (Addr × List (Key × V)), acc = ds.map (fun x => V.ref x.1) ∧ ∀ x ∈ ds, x.1 ≠ p ∧ x.1 ≠ D ∧ H' x.1 = some (.dK x.2) ∧ Gt x.2 t
theorem et_ne2F {te tu : TE} {σ : L2.St} {H : Hp} {x y : Str} (h1 : EvL te σ H [.str x, .str y]) (h2 : EvL tu σ H [.str x, .str y]) : EvT (tTest (tOp (rNeP K) te tu)) σ H false := by
  refine et_is (a := !PyData.eqv (.list [.str x, .str y]) (.list [.str x, .str y])) (et_test (ev_opLL h1 h2 fun p8 q8 H12 hp8 hq8 e12 => fun H13 e13 Q' q' => ⟨_, _, .lst (sq_of (e13 _ _ hp8)) (.cons (.str _) (.cons (.str _) .nil)), .lst (sq_of (e13 _ _ hq8)) (.cons (.str _) (.cons (.str _) .nil)), by simp [PyData.plain, PyData.plainAll], by simp [PyData.plain, PyData.plainAll], by simp [PyData.depth, PyData.depthAll], q' H13 (Ex.refl _)⟩)) ?_
  rw [SeqAt.eqv_refl_plain _ (by simp [PyData.plain, PyData.plainAll])]
  rfl
def sp__law_right : Sp := fun vs H Q _ => ∃ (p : Addr), vs = [.ref p] ∧ Po p H ∧ ∀ H', Px p H H' → Q (.bl true) H'
theorem ok__law_right (T : Txt K mg a) (F : Files P K a) : Fn P w K mg base 15 a._law_right sp__law_right := by
  have G__law_term := ok__law_term (P := P) (w := w) (base := base) T 4
  have G__law_places := ok__law_places (P := P) (w := w) (base := base) T
  have G__law_real := ok__law_real (P := P) (w := w) (base := base) T F 4
  have G__law_there := ok__law_there (P := P) (w := w) (base := base) T
  have G__law_is_shaped := ok__law_is_shaped (P := P) (w := w) (base := base) T 4
  have G__law_shown := ok__law_shown (P := P) (w := w) (base := base) T
  have G__law_of := ok__law_of (P := P) (w := w) (base := base) T 4
  have G__law_numbers := ok__law_numbers (P := P) (w := w) (base := base) T
  have G__law_signs_right := ok__law_signs_right (P := P) (w := w) (base := base) T F
  have G__law_wrong := ok__law_wrong (P := P) (w := w) (base := base) T
  have G__law_told := ok__law_told (P := P) (w := w) (base := base) T
  have G__law_ones_right := ok__law_ones_right (P := P) (w := w) (base := base) T
  have G_places := fn_Term_places (P := P) (w := w) (base := base) T
  have G_at := fn_Term_at (P := P) (w := w) (base := base) T
  obtain ⟨fdA, BA, FA⟩ := fnB_Term_at (P := P) (w := w) (base := base) T
  have hbA : ∀ (u : Value) (ws : List Value), ws.length = 1 → bindArgs fdA ⟨[u], (["values"] : List Str).zip ws⟩ = pure ((["self", "values"] : List Str).zip (u :: ws)) := fun u ws hl => by
    obtain ⟨oc, od, kV, doc, pm, an, cdv, ct, osl, rfl, _, _⟩ := FA.ex
    match ws, hl with
    | [_], _ => rfl
  refine T.d__law_right.fn sc__law_right (fun _ _ _ _ _ _ us hl => match us, hl with | [_], _ => rfl) (fun vs H Q E h => ?_) (fun cdv A outer s H vs Q E hg hr h => ?_)
  · obtain ⟨_, rfl, _⟩ := h
    rfl
  · obtain ⟨p, rfl, po, q⟩ := h
    have nd := sc__law_right.nd
    have hu := hu_of hr
    have hu64 : (A.deeper _).units + 64 < cLine := hr.units
    have hr8 := hr.mono (j := 8) (by decide)
    have hr9 := hr.mono (j := 9) (by decide)
    refine ⟨_, (pss_cons (ps_set (i := 1) nd rfl (.inr rfl) (pe_fn G__law_term hg (hr.mono (by decide)) T.d__law_term.kp T.d__law_term.m (by rfl) passL (pa_cons (pv 0) (pa_cons (pe_fn G__law_places hg (hr.mono (by decide)) T.d__law_places.kp T.d__law_places.m (by rfl) passL (pa_cons (pv 0) pa_nil)) (pa_cons pe_int pa_nil)))))
    (pss_cons (ps_asg (pe_tup (pa_cons (pe_fn G__law_real hg (hr.mono (by decide)) T.d__law_real.kp T.d__law_real.m (by rfl) passL (pa_cons (pv 1) pa_nil)) (pa_cons (pe_lc rfl (own := [("turn", 8)]) (g := gName 8) (by exact nd) (pi_range1 (by rfl) T.z_range (pa_cons pe_int pa_nil)) (blkOk_by (own := [("turn", 8)]) (N := ["pot", "term", "shown", "there", "wrong", "made", "dicts", "due", "turn", "one"]) (sc := defScope s__law_right) (by decide +kernel)) (fun _ _ _ _ _ => (pg_name (i := 8) nd rfl (.inl rfl))) (fun _ _ _ _ _ => pts_nil) (fun _ _ _ _ _ => (pe_fn G__law_there hg (hr.mono (by decide)) T.d__law_there.kp T.d__law_there.m (by rfl) passL (pa_cons (pv 0) (pa_cons (pv 1) pa_nil))))) pa_nil))) (pg_tup (by rfl) (pgs_cons (pg_name (i := 5) nd rfl (.inr rfl)) (pgs_cons (pg_name (i := 6) nd rfl (.inl rfl)) pgs_nil))))
    (pss_cons (ps_if (pt_not (pt_val (pe_fn G__law_is_shaped hg (hr.mono (by decide)) T.d__law_is_shaped.kp T.d__law_is_shaped.m (by rfl) passL (pa_cons (pv 5) (pa_cons (pv 1) pa_nil))))) (pss_one (ps_ret pe_bl)) pss_nil)
    (pss_cons (ps_expr (pe_bmK (K := K) rfl PySem.F.plainAttrs_list PySem.F.slot_list_append PySem.F.type_list_append mt_append (pe_methA0 (E := E0) (G := IsT a) (pv 5) (g_places T) G_places hg hr8 passL) (pa_cons pe_str pa_nil)))
    (pss_cons (ps_if (pt_not (pt_val (pe_fn G__law_is_shaped hg (hr.mono (by decide)) T.d__law_is_shaped.kp T.d__law_is_shaped.m (by rfl) passL (pa_cons (pv 5) (pa_cons (pv 1) pa_nil))))) (pss_one (ps_ret pe_bl)) pss_nil)
    (pss_cons (ps_set (i := 2) nd rfl (.inl rfl) (pe_callB (call_reprZ hg hu64) (by rfl) T.z_repr (by decide +kernel) (pa_cons (pv 6) pa_nil)))
    (pss_cons (ps_for PassesOwn.leaving rfl (pi_list (pe_op op_cat (pv 6) (pe_slice (sl_listK (K := K) rfl) (pv 6) po_none (po_some pe_int)))) (pg_name (i := 3) nd rfl (.inl rfl))
      (pss_cons (ps_set (i := 7) nd rfl (.inl rfl) (pe_callB (call_reprZ hg hu64) (by rfl) T.z_repr (by decide +kernel) (pa_cons (pe_fn G__law_shown hg (hr.mono (by decide)) T.d__law_shown.kp T.d__law_shown.m (by rfl) passL (pa_cons (pe_fn G__law_of hg (hr.mono (by decide)) T.d__law_of.kp T.d__law_of.m (by rfl) passL (pa_cons (pv 1) (pa_cons (pe_fn G__law_numbers hg (hr.mono (by decide)) T.d__law_numbers.kp T.d__law_numbers.m (by rfl) passL (pa_cons (pv 3) pa_nil)) pa_nil))) pa_nil)) pa_nil)))
        (pss_one (ps_if (pt_cmpR (op_neP hu64) (pe_lst (pa_cons (pe_callB (call_reprZ hg hu64) (by rfl) T.z_repr (by decide +kernel) (pa_cons (pe_methA (E := E0) (G := IsT a) (pv 5) (g_at T) G_at hg hr9 passL (pa_cons (pv 3) pa_nil)) pa_nil)) (pa_cons (pe_callB (call_reprZ hg hu64) (by rfl) T.z_repr (by decide +kernel) (pa_cons (pe_methAK (E := E0) (G := IsT a) (ks := ["values"]) (pv 5) (g_at T) BA hg hr9 passL hbA rfl (pk_cons (pv 3) pk_nil)) pa_nil)) pa_nil))) (pe_lst (pa_cons (pv 7) (pa_cons (pv 7) pa_nil))) (nomark _)) (pss_one (ps_ret pe_bl)) pss_nil))))
    (pss_cons (ps_if (PW.pt (pw_or (pt_not (pt_val (pe_fn G__law_signs_right hg (hr.mono (by decide)) T.d__law_signs_right.kp T.d__law_signs_right.m (by rfl) passL (pa_cons (pv 5) (pa_cons (pv 1) (pa_cons (pe_ix (ix_listK (K := K) rfl) (pv 6) pe_int (fun _ _ => rfl)) pa_nil)))))) (pw_or1 (pt_cmpR op_ne (pe_callB (call_reprZ hg hu64) (by rfl) T.z_repr (by decide +kernel) (pa_cons (pv 6) pa_nil)) (pv 2) (nomark _))))) (pss_one (ps_ret pe_bl)) pss_nil)
    (pss_cons (ps_set (i := 4) nd rfl (.inl rfl) (pe_fn G__law_wrong hg (hr.mono (by decide)) T.d__law_wrong.kp T.d__law_wrong.m (by rfl) passL (pa_cons (pv 0) (pa_cons (pv 1) (pa_cons (pe_ix (ix_listK (K := K) rfl) (pv 6) pe_int (fun _ _ => rfl)) pa_nil)))))
    (pss_cons (ps_if (pt_val (pe_callB (cr_any rfl) (by rfl) T.z_any (by decide +kernel) (pa_cons (pe_lc rfl (own := [("one", 9)]) (g := gName 9) (by exact nd) (pi_list (pv 4)) (blkOk_by (own := [("one", 9)]) (N := ["pot", "term", "shown", "there", "wrong", "made", "dicts", "due", "turn", "one"]) (sc := defScope s__law_right) (by decide +kernel)) (fun _ _ _ _ _ => (pg_name (i := 9) nd rfl (.inl rfl))) (fun _ _ _ _ _ => pts_nil) (fun _ _ _ _ _ => (pe_cmpR op_ne (pe_fn G__law_told hg (hr.mono (by decide)) T.d__law_told.kp T.d__law_told.m (by rfl) passL (pa_cons (pv 5) (pa_cons (pv 9) pa_nil))) (pe_callB (call_reprZK (K := K) rfl hg hu64) (by rfl) T.z_repr (by decide +kernel) (pa_cons (pe_lst (pa_cons pe_str (pa_cons (pv 9) (pa_cons pe_bl pa_nil)))) pa_nil)) (nomark _)))) pa_nil))) (pss_one (ps_ret pe_bl)) pss_nil)
    (pss_cons (ps_if (pt_not (pt_val (pe_fn G__law_ones_right hg (hr.mono (by decide)) T.d__law_ones_right.kp T.d__law_ones_right.m (by rfl) passL (pa_cons (pv 0) (pa_cons (pv 1) (pa_cons (pv 5) pa_nil)))))) (pss_one (ps_ret pe_bl)) pss_nil)
    (pss_one (ps_ret (pe_and (pe_cmpR op_eq (pe_callB (call_reprZ hg hu64) (by rfl) T.z_repr (by decide +kernel) (pa_cons (pv 6) pa_nil)) (pv 2) (nomark _)) (pe_one (pe_fn G__law_is_shaped hg (hr.mono (by decide)) T.d__law_is_shaped.kp T.d__law_is_shaped.m (by rfl) passL (pa_cons (pv 5) (pa_cons (pv 1) pa_nil)))))))))))))))))), ?_⟩
    -- the term
    refine ⟨.ref p, rfl, .ref p, rfl, p, rfl, po, fun lq xs H1 hlq h1 xpos x5 xnm px1 => ?_⟩
    refine ⟨p, lq, xs, 3, 3, rfl, rfl, by decide, px1.2, h1, po.ne hlq, xpos, x5, xnm, fun v t H2 ok hd3 pl md px2 => ?_⟩
    have px02 := px1.trans px2
    have mdp : TM.MdAt (fun b => H1 b = none) (Mk p p H2) v t := md.up (fun _ s => s) fun b o s e => have bp : b ≠ p := fun z => px1.2.at (z ▸ s); mk_at bp bp e
    have mdx : ∀ {H'}, Px p H2 H' → TM.MdAt (fun b => H1 b = none) (Mk p p H') v t := fun x => mdp.ex (mk_px x)
    refine ⟨v, rfl, _, v, t, rfl, md, ok, by omega, fun m H3 e3 tm => ?_⟩
    have px23 : Px p H2 H3 := (Px.refl px2.2).ex e3
    -- the dicts
    refine ⟨3, rfl, by decide, by decide, ?_⟩
    refine lcR_inv (m := 3) (by decide) (fun _ => rfl) (WD p t H3) (fun D hD => ⟨(Px.refl px23.2).ex (Ex.new hD), [], rfl, fun x h => absurd h List.not_mem_nil⟩) ?_ ?_
    · rintro D i acc H' hD hi hlen ⟨px, ds, rfl, hds⟩ hacc Q' k
      refine ⟨.ref p, rfl, v, rfl, p, _, v, t, rfl, px.2, (mdx (px23.trans px)).ex mk_ex, ok, hd3, fun d kvs H4 hd x4 g => ?_⟩
      have Dp : D ≠ p := px23.2.ne hD
      have dD : d ≠ D := (ne_of_none hacc hd).symm
      refine k (.ref d) H4 (x4.1 D _ Dp hacc) ⟨(px.trans x4).mut hD Dp, ds ++ [(d, kvs)], by simp, fun x hx => ?_⟩
      rcases List.mem_append.mp hx with hx | hx
      · obtain ⟨h1, h2, h3, h4⟩ := hds x hx
        exact ⟨h1, h2, by rw [upd_ne h2]; exact x4.1 _ _ h1 h3, h4⟩
      · rw [List.mem_singleton.mp hx]
        exact ⟨px.2.ne hd, dD, by rw [upd_ne dD]; exact g.at_, g.gt⟩
    · rintro D acc H4 hD hlen ⟨px, ds, rfl, hds⟩ hacc
      have hl3 : ds.length = 3 := by
        rw [List.length_map] at hlen
        omega
      obtain ⟨x0, x1, x2, rfl⟩ : ∃ x0 x1 x2, ds = [x0, x1, x2] := match ds, hl3 with | [x0, x1, x2], _ => ⟨x0, x1, x2, rfl⟩
      have Dp : D ≠ p := px23.2.ne hD
      refine ⟨(by show 2 ≤ sizeLine; decide), fun tp htp => ⟨tp, _, rfl, st_of upd_same, rfl, m, _, rfl, .ref D, [], rfl, rfl, ?_⟩⟩
      have e5 : Ex H4 (upd H4 tp (.tup [m, .ref D])) := Ex.new htp
      have px5 := px.ex e5
      have hD5 := e5 _ _ hacc
      have hx5 : ∀ x ∈ [x0, x1, x2], x.1 ≠ p ∧ (upd H4 tp (.tup [m, .ref D])) x.1 = some (.dK x.2) ∧ Gt x.2 t := fun x hx => let ⟨h1, _, h3, h4⟩ := hds x hx; ⟨h1, e5 _ _ h3, h4⟩
      have tm5 := (tm_px px23.2 px tm).up e5
      generalize upd H4 tp (.tup [m, .ref D]) = H5 at *
      have px25 := px23.trans px5
      have px05 := px02.trans px25
      clear hds hacc e5 htp px hD px23 e3 hlen hl3
      -- what stays
      have tmA : ∀ {H'}, Px p H5 H' → TM.TmAt (csOf a) H' m t := fun x => tm_px px5.2 x tm5
      have mdM : ∀ {H'}, Px p H5 H' → TM.MdAt (fun b => H1 b = none) (Mk p p H') v t := fun x => mdx (px25.trans x)
      have mdA : ∀ {H'}, Px p H5 H' → TM.MdAt (fun b => H1 b = none) H' v t := fun x => (mdM x).ex mk_ex
      have gdA : ∀ {H'} x, x ∈ [x0, x1, x2] → Px p H5 H' → GD H' x.1 x.2 t := fun x hx z => let ⟨h1, h2, h3⟩ := hx5 x hx; h3 _ _ (z.1 _ _ h1 h2)
      have ldA : ∀ {H'}, Px p H5 H' → H' D = some (.lst [.ref x0.1, .ref x1.1, .ref x2.1]) := fun z => z.1 _ _ Dp hD5
      obtain ⟨dats, l1, l2, l3⟩ := dz_get (R := fun x d => Dz K (Mk p p H5) x d ∧ Sm 1 3856 d) (xs := [x0, x1, x2].map fun x => V.ref x.1) fun y hy => by
        obtain ⟨x, hx, rfl⟩ := List.mem_map.mp hy
        obtain ⟨h1, h2, h3⟩ := hx5 x hx
        have gk := (h3 _ _ h2).gk
        exact dz_dic (k := 0) (n := 240) (m := 8) (mk_at h1 h1 h2) (gk.dz (by decide)) gk.len
      have lz5 : LzAt K (Mk p p H5) (.ref D) (.list dats) := ⟨D, _, dats, rfl, rfl, sq_of (mk_at Dp Dp hD5), l1, fun i y e a b => (l2 i y e a b).1⟩
      have lzA : ∀ {H'}, Px p H5 H' → LzAt K H' (.ref D) (.list dats) := fun z => (lz5.up (mk_px z)).up mk_ex
      have shd : Shows (.list dats) := (sm_list (k := 1) (n := 3856) (m := 3) (fun d hd => let ⟨_, z⟩ := l3 d hd; z.2) (by rw [← l1]; exact Nat.le_refl 3)).shows (by decide) (by decide)
      have of : ∀ {H'}, Ex H5 H' → Px p H5 H' := fun e => Px.of px5.2 e
      clear lz5 l1 l2 l3 hD5 mdx mdp md
      refine q_when (b := false) (et_is (et_not (et_B (ev_shaped (ev_var rfl) (ev_var rfl) tm5 (mdA (of (Ex.refl _))) ok hd3))) rfl) (fun z => nomatch z) fun _ H6 e6 => ?_
      obtain ⟨xm, C, dx, fs, rfl, hH, g, _, lk2⟩ := tm_met (tmA (of e6))
      refine ⟨.ref xm, rfl, xm, C, dx, fs, rfl, hH, g, lk2, _, t, rfl, tmA (of e6), ok, hd3, fun pl' ys H7 hp7 e7 hss h7 => ?_⟩
      refine ⟨.inl ⟨rfl, _, sq_of h7⟩, pl', _, .str "zz", rfl, rfl, h7, sz_lt (by rw [List.length_map]; have := hss.len ok; omega), ?_⟩
      have e68 : Ex H6 (upd H7 pl' (.lst (ys.map V.str ++ [.str "zz"]))) := e7.mut hp7
      generalize upd H7 pl' (.lst (ys.map V.str ++ [.str "zz"])) = H8 at *
      have e58 := e6.trans e68
      refine q_when (b := false) (et_is (et_not (et_B (ev_shaped (ev_var rfl) (ev_var rfl) (tmA (of e58)) (mdA (of e58)) ok hd3))) rfl) (fun z => nomatch z) fun _ H9 e9 => ?_
      have e59 := e58.trans e9
      refine q_asg (ev_reprLv (ev_var rfl) (lzA (of e59)) shd) fun H10 e10 => ?_
      have e510 := e59.trans e10
      refine q_forNLn (xs := [.ref x0.1, .ref x1.1, .ref x2.1] ++ cutV [.ref x0.1, .ref x1.1, .ref x2.1] none (some 1)) (el_cat (of_ev (ev_var rfl) (ldA (of e510))) (el_sl (ev_var rfl) eo_none (eo_some ev_c) (sq_of (ldA (of e510)))) (by have := cutV_length [.ref x0.1, .ref x1.1, .ref x2.1] none (some 1); simp at this ⊢; omega)) (fun lt i σ' H' => Ex H10 H' ∧ H' lt = some (.lst ([.ref x0.1, .ref x1.1, .ref x2.1] ++ cutV [.ref x0.1, .ref x1.1, .ref x2.1] none (some 1))) ∧ ∃ u3 u7, σ' = [some (.ref p), some v, some (.str (PyData.list dats).shown), u3, none, some (.ref xm), some (.ref D), u7, none, none]) (fun lt H11 _ e11 h11 => ⟨e11, h11, _, _, rfl⟩) (fun lt i σ' H' _ h => sq_of h.2.1) ?_ ?_
      · rintro lt i x σ' H11 hx ⟨e11, h11, u3, u7, rfl⟩
        have e511 := e510.trans e11
        obtain ⟨y, hy, rfl⟩ : ∃ y, y ∈ [x0, x1, x2] ∧ x = V.ref y.1 := by
          have hm : x ∈ [x0, x1, x2].map fun x => V.ref x.1 := by
            rcases List.mem_append.mp (List.mem_of_getElem? hx) with h | h
            · exact h
            · exact cutV_mem h
          obtain ⟨y, hy, e⟩ := List.mem_map.mp hm
          exact ⟨y, hy, e.symm⟩
        have gy := gdA y hy (of e511)
        have hs := gy.f.hs
        have hb := val_bd ok hs
        refine q_asg (ev_reprV (d := dV (val (fD y.2) t)) (ev_is (ev_shown (ev_ofN (ev_var rfl) (ev_var rfl) (mdA (of e511)) ok hd3 gy)) hb.sh) (dp_flat (bd_flat hb).1) (bd_shows hb)) fun H12 e12 => ?_
        have e512 := e511.trans e12
        have g12 := gdA y hy (of e512)
        refine s_when (b := false) (et_ne2F (x := (dV (val (fD y.2) t)).shown) (y := (dV (val (fD y.2) t)).shown) (el_lst (ea_cons (ev_reprV (ev_at (ev_var rfl) (ev_var rfl) (tmA (of e512)) ok (by omega) g12.f) (dp_flat (bd_flat hb).1) (bd_shows hb)) (ea_cons (ev_reprV (ev_atK (ev_var rfl) (ev_var rfl) (tmA (of e512)) ok (by omega) g12.f) (dp_flat (bd_flat hb).1) (bd_shows hb)) ea_nil)) (by show 2 ≤ 100000; decide)) (el_lst (ea_cons (ev_var rfl) (ea_cons (ev_var rfl) ea_nil)) (by show 2 ≤ 100000; decide))) (fun z => nomatch z) fun _ H13 e13 => ?_
        exact ⟨(e11.trans e12).trans e13, (e12.trans e13) _ _ h11, _, _, rfl⟩
      · rintro lt σ' H11 ⟨e11, _, u3, u7, rfl⟩
        have e511 := e510.trans e11
        clear e11 e510 e10 e59 e9 e58 e68 h7 e7 hp7 e6 hH
        refine q_when (b := false) (et_is (et_or (et_not (et_B (ev_signs (ev_var rfl) (ev_var rfl) (ev_op (ev_var rfl) ev_c (rv_ixL (sq_of (ldA (of e511))) (i := 0) rfl)) (tmA (of e511)) (mdA (of e511)) ok hd3 (gdA x0 (by simp) (of e511))))) fun _ => et_neF (ev_reprLv (ev_var rfl) (lzA (of e511)) shd) (ev_var rfl) rfl) rfl) (fun z => nomatch z) fun _ H12 e12 => ?_
        have e512 := e511.trans e12
        refine ⟨.ref p, rfl, v, rfl, .ref D, rfl, D, _, 1, .ref x1.1, rfl, rfl, sq_of (ldA (of e512)), rfl, p, (fun b => H1 b = none), v, t, x1.1, x1.2, xs, rfl, (of e512).2, ?_, ok, hd3, pl, x5, gdA x1 (by simp) (of e512), fun lw ws H13 hlw lwp px13 hws hz hb => ?_⟩
        · exact mdM (of e512)
        · have px513 := (of e512).trans px13
          have L : EvL (tLc (iList K (tVar 4)) (gName 9) tYes (tOp rNe (tFn (sp__law_told K a) E0 (tCons (tVar 5) (tCons (tVar 9) tNil))) (tCB (rReprZ K) (tCons (tLst (tCons (tC (.str "values")) (tCons (tVar 9) (tCons (tC (.bl true)) tNil)))) tNil))) [9]) [some (.ref p), some v, some (.str (PyData.list dats).shown), u3, some (.ref lw), some (.ref xm), some (.ref D), u7, none, none] H13 ((ws.map fun _ => false).map V.bl) := by
            refine el_lmap (ev_var rfl) (sq_of hws) (by omega) (by simp) (fun _ => rfl) fun i x y H14 e14 hx hy => ?_
            rw [List.map_map, List.getElem?_map, hx] at hy
            cases hy
            obtain ⟨bad, dat, dz, sm⟩ := ((hb x (List.mem_of_getElem? hx)).up mk_ex).up e14
            exact ev_is (ev_op (ev_toldB (ev_var rfl) (ev_var rfl) (tmA (px513.ex e14)) ok (by omega) bad dz sm) (ev_valuesR (ev_var rfl) dz sm) (rv_ne rfl)) (by rw [decide_eq_true rfl]; rfl)
          refine q_when (b := false) (et_is (et_B (ev_any L)) ?_) (fun z => nomatch z) fun _ H14 e14 => ?_
          · rw [List.any_map, Bool.eq_false_iff]
            intro z
            obtain ⟨_, _, z⟩ := List.any_eq_true.mp z
            cases z
          · have px514 := px513.ex e14
            refine ⟨.ref p, rfl, v, rfl, .ref xm, rfl, p, (fun b => H1 b = none), v, .ref xm, t, rfl, px514.2, mdA px514, tmA px514, ok, hd3, fun H15 px15 => ⟨true, rfl, ?_⟩⟩
            have px515 := px514.trans px15
            refine iteF ?_
            exact s_ret (v := .bl true) (ev_is (ev_andV (a := true) (b := true) (ev_eqT (ev_reprLv (ev_var rfl) (lzA px515) shd) (ev_var rfl) rfl) fun _ => ev_shaped (ev_var rfl) (ev_var rfl) (tmA px515) (mdA px515) ok hd3) rfl) fun H16 e16 => q H16 ((px05.trans px515).ex e16)
end
end K12
namespace K12
open PySem PySem.Spec PyProof.Rows L2 LG Evl
section
variable {K : PySem.W.Frag} {σ : L2.St} {H : Hp} {te ta : TE}
/-- all([e for j in range(n)]), each e True -/
theorem all_R1 {ta : TA} {j : Nat} {n : Int} (h : EvA ta σ H [.int n]) (hn : 0 ≤ n ∧ n ≤ 1000) (hw : ∀ x, wipe ((wipe σ [j]).set j (some x)) [j] = wipe σ [j]) (W : Addr → Hp → Prop) (h0 : ∀ H1 Dl, Ex H H1 → H1 Dl = none → W Dl (upd H1 Dl (.lst [])))
    (hs : ∀ (i : Nat) (Dl : Addr) (H' : Hp) (zs : List V), (i : Int) < n → W Dl H' → H' Dl = some (.lst zs) → ∀ Q' : VK, (∀ H2, H2 Dl = some (.lst zs) → W Dl (upd H2 Dl (.lst (zs ++ [.bl true]))) → Q' (.bl true) H2) → te ((wipe σ [j]).set j (some (.int (i : Int)))) H' Q')
    {D : Ends} (q : ∀ H', D.rt (.bl true) H') : tRet (tCB (rAll K) (tCons (tLc (iRng1 ta) (gName j) tYes te [j]) tNil)) D σ H := h H (Ex.refl H) _ fun H1 e1 => ⟨n, rfl, by omega, by omega, fun Dl hD =>
  lc_range (lo := 0) (n := n.toNat) (fun i H' => H' Dl = some (.lst (List.replicate i (.bl true))) ∧ W Dl H') ⟨upd_same, h0 H1 Dl e1 hD⟩ (fun i H' hi p => by
    have e0 : (0 : Int) + (i : Int) = (i : Int) := Int.zero_add _
    show wipe ((wipe σ [j]).set j (some (.int ((0 : Int) + (i : Int))))) [j] = wipe σ [j] ∧ te ((wipe σ [j]).set j (some (.int ((0 : Int) + (i : Int))))) H' fun y H4 => ∃ acc, H4 Dl = some (.lst acc) ∧ acc.length < sizeLine ∧ (upd H4 Dl (.lst (acc ++ [y]))) Dl = some (.lst (List.replicate (i + 1) (.bl true))) ∧ W Dl (upd H4 Dl (.lst (acc ++ [y])))
    rw [e0]
    refine ⟨hw _, hs i Dl H' _ (by omega) p.2 p.1 _ fun H2 h2 w2 => ⟨_, h2, sz_lt (by rw [List.length_replicate]; omega), ?_, w2⟩⟩
    rw [upd_same, List.replicate_succ'])
    (fun H' p => ⟨Dl, List.replicate n.toNat true, rfl, sq_of (by rw [p.1, List.map_replicate]), by
      have e : (List.replicate n.toNat true).all id = true := by
        rw [List.all_eq_true]
        intro b hb
        exact (List.mem_replicate.mp hb).2
      rw [e]
      exact q H'⟩)⟩
end
section
variable {P : Program} {w : World} {K : PySem.W.Frag} {mg : Str → Option Value} {base : Heap} {a : At}
def sp_law (K : PySem.W.Frag) : Sp := fun vs H Q _ => ∃ (l : Addr) (ns : List Int), vs = [.ref l] ∧ SqL K H l (ns.map V.int) ∧ ns.length ≤ 63 ∧ ∀ H', Q (.bl true) H'
theorem ok_law (T : Txt K mg a) (F : Files P K a) : Fn P w K mg base 16 a.law (sp_law K) := by
  have G__law_pot : Fn P w K mg base 1 a._law_pot (sp__law_pot K) := ok__law_pot T
  have G__law_right : Fn P w K mg base 15 a._law_right sp__law_right := ok__law_right T F
  refine T.d_law.fn sc_law (fun _ _ _ _ _ _ us hl => match us, hl with | [_], _ => rfl) (fun vs H Q E h => ?_) (fun cdv A outer s H vs Q E hg hr h => ?_)
  · obtain ⟨_, _, rfl, _⟩ := h
    rfl
  · obtain ⟨l, ns, rfl, hs, hlen, q⟩ := h
    have nd := sc_law.nd
    refine ⟨_, (pss_one (ps_ret (pe_callB (cr_all rfl) (by rfl) T.z_all (by decide +kernel) (pa_cons (pe_lc rfl (own := [("k", 1)]) (g := gName 1) (by exact nd) (pi_range1 (by rfl) T.z_range (pa_cons (pe_callB (call_max2 rfl) (by rfl) T.z_max (by decide +kernel) (pa_cons pe_int (pa_cons (pe_callB (call_min2 rfl) (by rfl) T.z_min (by decide +kernel) (pa_cons (pe_callB call_len_seq (by rfl) T.z_len (by decide +kernel) (pa_cons (pv 0) pa_nil)) (pa_cons pe_int pa_nil))) pa_nil))) pa_nil)) (blkOk_by (own := [("k", 1)]) (N := ["script", "k"]) (sc := defScope s_law) (by decide +kernel)) (fun _ _ _ _ _ => (pg_name (i := 1) nd rfl (.inl rfl))) (fun _ _ _ _ _ => pts_nil) (fun _ _ _ _ _ => (pe_fn G__law_right hg (hr.mono (by decide)) T.d__law_right.kp T.d__law_right.m (by rfl) passL (pa_cons (pe_fn G__law_pot hg (hr.mono (by decide)) T.d__law_pot.kp T.d__law_pot.m (by rfl) passL (pa_cons (pv 0) (pa_cons (pv 1) pa_nil))) pa_nil)))) pa_nil)))), ?_⟩
    have stays : ∀ H', (∀ o, H l = some o → H' l = some o) → SqL K H' l (ns.map V.int) := fun H' h => by
      rcases hs with (h1 | ⟨ob, h1⟩) | h1
      · exact .inl (.inl (h _ h1))
      · exact .inl (.inr ⟨ob, h _ h1⟩)
      · exact .inr h1
    refine all_R1 (K := K) (σ := [some (.ref l), none]) (j := 1) (D := { nx := fun _ H' => Q .non H', rt := Q }) (n := if (if (5 : Int) < (ns.map V.int).length then 5 else ((ns.map V.int).length : Int)) > 1 then (if (5 : Int) < (ns.map V.int).length then 5 else ((ns.map V.int).length : Int)) else 1) ?_ ?_ (fun _ => rfl) (fun Dl H' => ∀ o, H l = some o → H' l = some o ∧ l ≠ Dl) (fun H1 Dl e1 hD => fun o ho => ⟨Ex.new hD l _ (e1 l _ ho), ne_of_none (e1 l _ ho) hD⟩) (fun i Dl H' zs hi st hD Q' q' => ?_) q
    · exact fun H1 e1 Q1 q1 => ⟨.ref l, rfl, l, _, rfl, .inl (ex_l e1 hs), _, 5, rfl, 1, _, rfl, q1 H1 (Ex.refl H1)⟩
    · rw [List.length_map]
      split <;> split <;> omega
    · refine ⟨.ref l, rfl, .int i, rfl, l, ns, i, rfl, stays H' (fun o ho => (st o ho).1), hlen, ?_, fun p H1 hp e1 po1 => ⟨p, rfl, po1, fun H2 px => ?_⟩⟩
      · rw [List.length_map] at hi
        split at hi <;> split at hi <;> omega
      · have Dp : Dl ≠ p := ne_of_none hD hp
        have h2 := px.1 Dl _ Dp (e1 Dl _ hD)
        refine q' H2 h2 fun o ho => ?_
        obtain ⟨hl, hne⟩ := st o ho
        have nlp : l ≠ p := ne_of_none hl hp
        refine ⟨?_, hne⟩
        rw [upd_ne hne]
        exact px.1 l o nlp (e1 l _ hl)
end
end K12
namespace K12
open PySem PySem.Spec PyProof.Rows L2 LG
theorem gfn_of {K : PySem.W.Frag} {h : Heap} {mg : Str → Option Value} (X : K.In h) (G : h.Ns mainGlobals mg) {x : Str} {st : Stmt} {f : Addr} {od an : Option Addr} {sl : Array (Option Value)} {oc kV dc pm cd ct : Value}
    (n : PySem.W.nsIn K mainGlobals x = some (some (.ref f))) (l : K.lookup f = some ⟨oc, od, .func (PySem.W.fnOf x x (defArgs st) (defBody st) (defScope st) .none kV dc pm an cd ct), sl⟩) (c : PySem.W.codeIn K cd x = true) (k : PySem.W.keepIn K (.ref f) = true) : GFn K mg x st f :=
  ⟨PySem.W.mg_of X G n, _, fun_mk l c k⟩
theorem gex_of {K : PySem.W.Frag} {h : Heap} {mg : Str → Option Value} (X : K.In h) (G : h.Ns mainGlobals mg) {x : Str} {C fI : Addr} {nm : Str} {q : Str} {N : Addr} {bs bm : List Value} {sn : List Str} {sub : List Value} {ab : Bool} {col : Option Bool} {dd : Option Addr}
    {k0 k1 k2 k3 k5 : Option Value}
    (n : PySem.W.nsIn K mainGlobals x = some (some (.ref C))) (l : K.lookup C = some (PySem.excClassObj nm q C N bs bm true sn sub ab col dd k0 k1 k2 k3 k5 "ValueError.__new__")) (r : PySem.HandSPX.refsVE bm = true)
    (sa : PySem.W.findIn K (.ref C) "__setattr__" = some (some (.builtin "object.__setattr__"))) (e1 : PySem.W.subIn K (.ref C) (.type "BaseException") = some true) (e2 : PySem.W.typeIn K (.ref C) = some (.type "type")) (e3 : PySem.W.keepIn K (.ref C) = true)
    (i : PySem.W.findIn K (.ref C) "__init__" = some (some (.ref fI))) (v : PySem.W.findIn K (.ref C) "value" = some none)
    (ga : PySem.W.findIn K (.ref C) "__getattribute__" = some (some (.builtin "BaseException.__getattribute__"))) (gg : PySem.W.findIn K (.ref C) "__getattr__" = some none) (hd : PySem.W.hasDictIn K C = true)
    (ha : PySem.W.findIn K (.ref C) "__class__" = some (some (.builtin "object.__class__"))) (hn : PySem.W.specialIn K (.builtin "object.__class__") "__get__" = some (some (.builtin "getset_descriptor.__get__"))) (ht : PySem.W.takesIn K (.builtin "object.__class__") = some true) (hm : PySem.W.mroIn K C (.type "object") = some true) : GEx K mg x C fI :=
  ⟨PySem.W.mg_of X G n, ⟨⟨nm, q, N, bs, bm, sn, sub, ab, col, dd, k0, k1, k2, k3, k5, l, r⟩, sa, e1, e2, e3⟩, i, v, ⟨ga, gg, e1, hd⟩, ⟨ga, gg, e1, hd, ha, hn, ht, hm⟩⟩
theorem cls_some {K : PySem.W.Frag} {C : Addr} (h : PySem.W.selfFirst K C = true) : PySem.W.clsIn K C ≠ none := fun z => by
  unfold PySem.W.selfFirst at h
  rw [z] at h
  cases h
theorem all_facts {K : PySem.W.Frag} {mg : Str → Option Value} {w : World} {h : Heap} {fa : Addr} (l : PySem.W.OpenLaw) (X : K.In h) (G : h.Ns mainGlobals mg) (hmg : mg "law" = some (.ref fa))
  {f__wall f_is_integer f_is_end f_is_value f_is_not_less f_least_of f_greatest_of f_is_place f_want_term f_want_terms f_depth_above f_want_values f_value_at f_places_in f_term_text f_term_repr f__law_pot f__law_draw f__law_pick f__law_number f__law_shown f__law_thing f__law_things f__law_places f__law_term f__law_joined f__law_real f__law_of f__law_numbers f__law_spots f__law_depth f__law_is_shaped f__law_there f__law_told f__law_wrong f__law_ones_right f__law_signs_right f__law_right f_law g_ENDS g_PLACES f_init TD C_HeldError C_InvalidPlace C_InvalidEnd C_InvalidTerm C_InvalidValues k_Term k_Place k_End k_Lesser k_Greater m_Term_init m_Term_depth p_Term_depth m_Term_at m_Term_places m_Term_turned m_Term_put m_Term_and m_Term_or m_Term_str m_Term_repr m_Term_eq m_Place_init w_Place_init o_Place_init m_Place_name p_Place_name m_End_init w_End_init o_End_init m_End_end p_End_end m_Lesser_init w_Lesser_init o_Lesser_init m_Lesser_parts p_Lesser_parts m_Greater_init w_Greater_init o_Greater_init m_Greater_parts p_Greater_parts : Addr}
  {t_BOTTOM t_TOP t_LEAST_PARTS t_ENDS_0 t_ENDS_1 t_PLACES_0 t_PLACES_1 t_PLACES_2 t_PLACES_3 t_PLACES_4 t_PLACES_5 t_PLACES_6 t_PLACES_7 : Tok}
  {od__wall an__wall od_is_integer an_is_integer od_is_end an_is_end od_is_value an_is_value od_is_not_less an_is_not_less od_least_of an_least_of od_greatest_of an_greatest_of od_is_place an_is_place od_want_term an_want_term od_want_terms an_want_terms od_depth_above an_depth_above od_want_values an_want_values od_value_at an_value_at od_places_in an_places_in od_term_text an_term_text od_term_repr an_term_repr od__law_pot an__law_pot od__law_draw an__law_draw od__law_pick an__law_pick od__law_number an__law_number od__law_shown an__law_shown od__law_thing an__law_thing od__law_things an__law_things od__law_places an__law_places od__law_term an__law_term od__law_joined an__law_joined od__law_real an__law_real od__law_of an__law_of od__law_numbers an__law_numbers od__law_spots an__law_spots od__law_depth an__law_depth od__law_is_shaped an__law_is_shaped od__law_there an__law_there od__law_told an__law_told od__law_wrong an__law_wrong od__law_ones_right an__law_ones_right od__law_signs_right an__law_signs_right od__law_right an__law_right od_law an_law od_ENDS od_PLACES od_init an_init odD od_Term_init an_Term_init od_Term_depth an_Term_depth od_Term_at an_Term_at od_Term_places an_Term_places od_Term_turned an_Term_turned od_Term_put an_Term_put od_Term_and an_Term_and od_Term_or an_Term_or od_Term_str an_Term_str od_Term_repr an_Term_repr od_Term_eq an_Term_eq od_Place_init an_Place_init odo_Place_init odw_Place_init od_Place_name an_Place_name od_End_init an_End_init odo_End_init odw_End_init od_End_end an_End_end od_Lesser_init an_Lesser_init odo_Lesser_init odw_Lesser_init od_Lesser_parts an_Lesser_parts od_Greater_init an_Greater_init odo_Greater_init odw_Greater_init od_Greater_parts an_Greater_parts dd_HeldError dd_InvalidPlace dd_InvalidEnd dd_InvalidTerm dd_InvalidValues : Option Addr}
  {sl__wall sl_is_integer sl_is_end sl_is_value sl_is_not_less sl_least_of sl_greatest_of sl_is_place sl_want_term sl_want_terms sl_depth_above sl_want_values sl_value_at sl_places_in sl_term_text sl_term_repr sl__law_pot sl__law_draw sl__law_pick sl__law_number sl__law_shown sl__law_thing sl__law_things sl__law_places sl__law_term sl__law_joined sl__law_real sl__law_of sl__law_numbers sl__law_spots sl__law_depth sl__law_is_shaped sl__law_there sl__law_told sl__law_wrong sl__law_ones_right sl__law_signs_right sl__law_right sl_law sl_ENDS sl_PLACES sl_init slD sl_Term_init sl_Term_depth sl_Term_at sl_Term_places sl_Term_turned sl_Term_put sl_Term_and sl_Term_or sl_Term_str sl_Term_repr sl_Term_eq sl_Place_init slo_Place_init slw_Place_init sl_Place_name sl_End_init slo_End_init slw_End_init sl_End_end sl_Lesser_init slo_Lesser_init slw_Lesser_init sl_Lesser_parts sl_Greater_init slo_Greater_init slw_Greater_init sl_Greater_parts : Array (Option Value)}
  {oc__wall kV__wall dc__wall pm__wall ct__wall cd__wall oc_is_integer kV_is_integer dc_is_integer pm_is_integer ct_is_integer cd_is_integer oc_is_end kV_is_end dc_is_end pm_is_end ct_is_end cd_is_end oc_is_value kV_is_value dc_is_value pm_is_value ct_is_value cd_is_value oc_is_not_less kV_is_not_less dc_is_not_less pm_is_not_less ct_is_not_less cd_is_not_less oc_least_of kV_least_of dc_least_of pm_least_of ct_least_of cd_least_of oc_greatest_of kV_greatest_of dc_greatest_of pm_greatest_of ct_greatest_of cd_greatest_of oc_is_place kV_is_place dc_is_place pm_is_place ct_is_place cd_is_place oc_want_term kV_want_term dc_want_term pm_want_term ct_want_term cd_want_term oc_want_terms kV_want_terms dc_want_terms pm_want_terms ct_want_terms cd_want_terms oc_depth_above kV_depth_above dc_depth_above pm_depth_above ct_depth_above cd_depth_above oc_want_values kV_want_values dc_want_values pm_want_values ct_want_values cd_want_values oc_value_at kV_value_at dc_value_at pm_value_at ct_value_at cd_value_at oc_places_in kV_places_in dc_places_in pm_places_in ct_places_in cd_places_in oc_term_text kV_term_text dc_term_text pm_term_text ct_term_text cd_term_text oc_term_repr kV_term_repr dc_term_repr pm_term_repr ct_term_repr cd_term_repr oc__law_pot kV__law_pot dc__law_pot pm__law_pot ct__law_pot cd__law_pot oc__law_draw kV__law_draw dc__law_draw pm__law_draw ct__law_draw cd__law_draw oc__law_pick kV__law_pick dc__law_pick pm__law_pick ct__law_pick cd__law_pick oc__law_number kV__law_number dc__law_number pm__law_number ct__law_number cd__law_number oc__law_shown kV__law_shown dc__law_shown pm__law_shown ct__law_shown cd__law_shown oc__law_thing kV__law_thing dc__law_thing pm__law_thing ct__law_thing cd__law_thing oc__law_things kV__law_things dc__law_things pm__law_things ct__law_things cd__law_things oc__law_places kV__law_places dc__law_places pm__law_places ct__law_places cd__law_places oc__law_term kV__law_term dc__law_term pm__law_term ct__law_term cd__law_term oc__law_joined kV__law_joined dc__law_joined pm__law_joined ct__law_joined cd__law_joined oc__law_real kV__law_real dc__law_real pm__law_real ct__law_real cd__law_real oc__law_of kV__law_of dc__law_of pm__law_of ct__law_of cd__law_of oc__law_numbers kV__law_numbers dc__law_numbers pm__law_numbers ct__law_numbers cd__law_numbers oc__law_spots kV__law_spots dc__law_spots pm__law_spots ct__law_spots cd__law_spots oc__law_depth kV__law_depth dc__law_depth pm__law_depth ct__law_depth cd__law_depth oc__law_is_shaped kV__law_is_shaped dc__law_is_shaped pm__law_is_shaped ct__law_is_shaped cd__law_is_shaped oc__law_there kV__law_there dc__law_there pm__law_there ct__law_there cd__law_there oc__law_told kV__law_told dc__law_told pm__law_told ct__law_told cd__law_told oc__law_wrong kV__law_wrong dc__law_wrong pm__law_wrong ct__law_wrong cd__law_wrong oc__law_ones_right kV__law_ones_right dc__law_ones_right pm__law_ones_right ct__law_ones_right cd__law_ones_right oc__law_signs_right kV__law_signs_right dc__law_signs_right pm__law_signs_right ct__law_signs_right cd__law_signs_right oc__law_right kV__law_right dc__law_right pm__law_right ct__law_right cd__law_right oc_law kV_law dc_law pm_law ct_law cd_law oc_init kV_init dc_init pm_init ct_init cd_init ocD oc_Term_init kV_Term_init dc_Term_init pm_Term_init ct_Term_init cd_Term_init oc_Term_depth kV_Term_depth dc_Term_depth pm_Term_depth ct_Term_depth cd_Term_depth oc_Term_at kV_Term_at dc_Term_at pm_Term_at ct_Term_at cd_Term_at oc_Term_places kV_Term_places dc_Term_places pm_Term_places ct_Term_places cd_Term_places oc_Term_turned kV_Term_turned dc_Term_turned pm_Term_turned ct_Term_turned cd_Term_turned oc_Term_put kV_Term_put dc_Term_put pm_Term_put ct_Term_put cd_Term_put oc_Term_and kV_Term_and dc_Term_and pm_Term_and ct_Term_and cd_Term_and oc_Term_or kV_Term_or dc_Term_or pm_Term_or ct_Term_or cd_Term_or oc_Term_str kV_Term_str dc_Term_str pm_Term_str ct_Term_str cd_Term_str oc_Term_repr kV_Term_repr dc_Term_repr pm_Term_repr ct_Term_repr cd_Term_repr oc_Term_eq kV_Term_eq dc_Term_eq pm_Term_eq ct_Term_eq cd_Term_eq oc_Place_init kV_Place_init dc_Place_init pm_Place_init ct_Place_init oco_Place_init ocw_Place_init oc_Place_name kV_Place_name dc_Place_name pm_Place_name ct_Place_name cd_Place_name oc_End_init kV_End_init dc_End_init pm_End_init ct_End_init oco_End_init ocw_End_init oc_End_end kV_End_end dc_End_end pm_End_end ct_End_end cd_End_end oc_Lesser_init kV_Lesser_init dc_Lesser_init pm_Lesser_init ct_Lesser_init oco_Lesser_init ocw_Lesser_init oc_Lesser_parts kV_Lesser_parts dc_Lesser_parts pm_Lesser_parts ct_Lesser_parts cd_Lesser_parts oc_Greater_init kV_Greater_init dc_Greater_init pm_Greater_init ct_Greater_init oco_Greater_init ocw_Greater_init oc_Greater_parts kV_Greater_parts dc_Greater_parts pm_Greater_parts ct_Greater_parts cd_Greater_parts : Value}
  {n_ENDS n_PLACES nD : Nat}
  {rest_Term_depth : List Value} {vs_Place_init : Array Value} {tx_Place_init : Str} {tf_Place_init : Tok} {rest_Place_name : List Value} {vs_End_init : Array Value} {tx_End_init : Str} {tf_End_init : Tok} {rest_End_end : List Value} {vs_Lesser_init : Array Value} {tx_Lesser_init : Str} {tf_Lesser_init : Tok} {rest_Lesser_parts : List Value} {vs_Greater_init : Array Value} {tx_Greater_init : Str} {tf_Greater_init : Tok} {rest_Greater_parts : List Value}
  {nm_HeldError q_HeldError nm_InvalidPlace q_InvalidPlace nm_InvalidEnd q_InvalidEnd nm_InvalidTerm q_InvalidTerm nm_InvalidValues q_InvalidValues : Str} {N_HeldError N_InvalidPlace N_InvalidEnd N_InvalidTerm N_InvalidValues : Addr} {bs_HeldError bm_HeldError bs_InvalidPlace bm_InvalidPlace bs_InvalidEnd bm_InvalidEnd bs_InvalidTerm bm_InvalidTerm bs_InvalidValues bm_InvalidValues : List Value} {sn_HeldError sn_InvalidPlace sn_InvalidEnd sn_InvalidTerm sn_InvalidValues : List Str} {sub_HeldError sub_InvalidPlace sub_InvalidEnd sub_InvalidTerm sub_InvalidValues : List Value} {ab_HeldError ab_InvalidPlace ab_InvalidEnd ab_InvalidTerm ab_InvalidValues : Bool} {col_HeldError col_InvalidPlace col_InvalidEnd col_InvalidTerm col_InvalidValues : Option Bool} {k0_HeldError k1_HeldError k2_HeldError k3_HeldError k5_HeldError k0_InvalidPlace k1_InvalidPlace k2_InvalidPlace k3_InvalidPlace k5_InvalidPlace k0_InvalidEnd k1_InvalidEnd k2_InvalidEnd k3_InvalidEnd k5_InvalidEnd k0_InvalidTerm k1_InvalidTerm k2_InvalidTerm k3_InvalidTerm k5_InvalidTerm k0_InvalidValues k1_InvalidValues k2_InvalidValues k3_InvalidValues k5_InvalidValues : Option Value}
  (h_n__wall : PySem.W.nsIn K mainGlobals "_wall" = some (some (.ref f__wall)))
  (h_l__wall : K.lookup f__wall = some ⟨oc__wall, od__wall, .func (PySem.W.fnOf "_wall" "_wall" (defArgs s__wall) (defBody s__wall) (defScope s__wall) .none kV__wall dc__wall pm__wall an__wall cd__wall ct__wall), sl__wall⟩)
  (h_c__wall : PySem.W.codeIn K cd__wall "_wall" = true)
  (h_k__wall : PySem.W.keepIn K (.ref f__wall) = true)
  (h_n_is_integer : PySem.W.nsIn K mainGlobals "is_integer" = some (some (.ref f_is_integer)))
  (h_l_is_integer : K.lookup f_is_integer = some ⟨oc_is_integer, od_is_integer, .func (PySem.W.fnOf "is_integer" "is_integer" (defArgs s_is_integer) (defBody s_is_integer) (defScope s_is_integer) .none kV_is_integer dc_is_integer pm_is_integer an_is_integer cd_is_integer ct_is_integer), sl_is_integer⟩)
  (h_c_is_integer : PySem.W.codeIn K cd_is_integer "is_integer" = true)
  (h_k_is_integer : PySem.W.keepIn K (.ref f_is_integer) = true)
  (h_n_is_end : PySem.W.nsIn K mainGlobals "is_end" = some (some (.ref f_is_end)))
  (h_l_is_end : K.lookup f_is_end = some ⟨oc_is_end, od_is_end, .func (PySem.W.fnOf "is_end" "is_end" (defArgs s_is_end) (defBody s_is_end) (defScope s_is_end) .none kV_is_end dc_is_end pm_is_end an_is_end cd_is_end ct_is_end), sl_is_end⟩)
  (h_c_is_end : PySem.W.codeIn K cd_is_end "is_end" = true)
  (h_k_is_end : PySem.W.keepIn K (.ref f_is_end) = true)
  (h_n_is_value : PySem.W.nsIn K mainGlobals "is_value" = some (some (.ref f_is_value)))
  (h_l_is_value : K.lookup f_is_value = some ⟨oc_is_value, od_is_value, .func (PySem.W.fnOf "is_value" "is_value" (defArgs s_is_value) (defBody s_is_value) (defScope s_is_value) .none kV_is_value dc_is_value pm_is_value an_is_value cd_is_value ct_is_value), sl_is_value⟩)
  (h_c_is_value : PySem.W.codeIn K cd_is_value "is_value" = true)
  (h_k_is_value : PySem.W.keepIn K (.ref f_is_value) = true)
  (h_n_is_not_less : PySem.W.nsIn K mainGlobals "is_not_less" = some (some (.ref f_is_not_less)))
  (h_l_is_not_less : K.lookup f_is_not_less = some ⟨oc_is_not_less, od_is_not_less, .func (PySem.W.fnOf "is_not_less" "is_not_less" (defArgs s_is_not_less) (defBody s_is_not_less) (defScope s_is_not_less) .none kV_is_not_less dc_is_not_less pm_is_not_less an_is_not_less cd_is_not_less ct_is_not_less), sl_is_not_less⟩)
  (h_c_is_not_less : PySem.W.codeIn K cd_is_not_less "is_not_less" = true)
  (h_k_is_not_less : PySem.W.keepIn K (.ref f_is_not_less) = true)
  (h_n_least_of : PySem.W.nsIn K mainGlobals "least_of" = some (some (.ref f_least_of)))
  (h_l_least_of : K.lookup f_least_of = some ⟨oc_least_of, od_least_of, .func (PySem.W.fnOf "least_of" "least_of" (defArgs s_least_of) (defBody s_least_of) (defScope s_least_of) .none kV_least_of dc_least_of pm_least_of an_least_of cd_least_of ct_least_of), sl_least_of⟩)
  (h_c_least_of : PySem.W.codeIn K cd_least_of "least_of" = true)
  (h_k_least_of : PySem.W.keepIn K (.ref f_least_of) = true)
  (h_n_greatest_of : PySem.W.nsIn K mainGlobals "greatest_of" = some (some (.ref f_greatest_of)))
  (h_l_greatest_of : K.lookup f_greatest_of = some ⟨oc_greatest_of, od_greatest_of, .func (PySem.W.fnOf "greatest_of" "greatest_of" (defArgs s_greatest_of) (defBody s_greatest_of) (defScope s_greatest_of) .none kV_greatest_of dc_greatest_of pm_greatest_of an_greatest_of cd_greatest_of ct_greatest_of), sl_greatest_of⟩)
  (h_c_greatest_of : PySem.W.codeIn K cd_greatest_of "greatest_of" = true)
  (h_k_greatest_of : PySem.W.keepIn K (.ref f_greatest_of) = true)
  (h_n_is_place : PySem.W.nsIn K mainGlobals "is_place" = some (some (.ref f_is_place)))
  (h_l_is_place : K.lookup f_is_place = some ⟨oc_is_place, od_is_place, .func (PySem.W.fnOf "is_place" "is_place" (defArgs s_is_place) (defBody s_is_place) (defScope s_is_place) .none kV_is_place dc_is_place pm_is_place an_is_place cd_is_place ct_is_place), sl_is_place⟩)
  (h_c_is_place : PySem.W.codeIn K cd_is_place "is_place" = true)
  (h_k_is_place : PySem.W.keepIn K (.ref f_is_place) = true)
  (h_n_want_term : PySem.W.nsIn K mainGlobals "want_term" = some (some (.ref f_want_term)))
  (h_l_want_term : K.lookup f_want_term = some ⟨oc_want_term, od_want_term, .func (PySem.W.fnOf "want_term" "want_term" (defArgs s_want_term) (defBody s_want_term) (defScope s_want_term) .none kV_want_term dc_want_term pm_want_term an_want_term cd_want_term ct_want_term), sl_want_term⟩)
  (h_c_want_term : PySem.W.codeIn K cd_want_term "want_term" = true)
  (h_k_want_term : PySem.W.keepIn K (.ref f_want_term) = true)
  (h_n_want_terms : PySem.W.nsIn K mainGlobals "want_terms" = some (some (.ref f_want_terms)))
  (h_l_want_terms : K.lookup f_want_terms = some ⟨oc_want_terms, od_want_terms, .func (PySem.W.fnOf "want_terms" "want_terms" (defArgs s_want_terms) (defBody s_want_terms) (defScope s_want_terms) .none kV_want_terms dc_want_terms pm_want_terms an_want_terms cd_want_terms ct_want_terms), sl_want_terms⟩)
  (h_c_want_terms : PySem.W.codeIn K cd_want_terms "want_terms" = true)
  (h_k_want_terms : PySem.W.keepIn K (.ref f_want_terms) = true)
  (h_n_depth_above : PySem.W.nsIn K mainGlobals "depth_above" = some (some (.ref f_depth_above)))
  (h_l_depth_above : K.lookup f_depth_above = some ⟨oc_depth_above, od_depth_above, .func (PySem.W.fnOf "depth_above" "depth_above" (defArgs s_depth_above) (defBody s_depth_above) (defScope s_depth_above) .none kV_depth_above dc_depth_above pm_depth_above an_depth_above cd_depth_above ct_depth_above), sl_depth_above⟩)
  (h_c_depth_above : PySem.W.codeIn K cd_depth_above "depth_above" = true)
  (h_k_depth_above : PySem.W.keepIn K (.ref f_depth_above) = true)
  (h_n_want_values : PySem.W.nsIn K mainGlobals "want_values" = some (some (.ref f_want_values)))
  (h_l_want_values : K.lookup f_want_values = some ⟨oc_want_values, od_want_values, .func (PySem.W.fnOf "want_values" "want_values" (defArgs s_want_values) (defBody s_want_values) (defScope s_want_values) .none kV_want_values dc_want_values pm_want_values an_want_values cd_want_values ct_want_values), sl_want_values⟩)
  (h_c_want_values : PySem.W.codeIn K cd_want_values "want_values" = true)
  (h_k_want_values : PySem.W.keepIn K (.ref f_want_values) = true)
  (h_n_value_at : PySem.W.nsIn K mainGlobals "value_at" = some (some (.ref f_value_at)))
  (h_l_value_at : K.lookup f_value_at = some ⟨oc_value_at, od_value_at, .func (PySem.W.fnOf "value_at" "value_at" (defArgs s_value_at) (defBody s_value_at) (defScope s_value_at) .none kV_value_at dc_value_at pm_value_at an_value_at cd_value_at ct_value_at), sl_value_at⟩)
  (h_c_value_at : PySem.W.codeIn K cd_value_at "value_at" = true)
  (h_k_value_at : PySem.W.keepIn K (.ref f_value_at) = true)
  (h_n_places_in : PySem.W.nsIn K mainGlobals "places_in" = some (some (.ref f_places_in)))
  (h_l_places_in : K.lookup f_places_in = some ⟨oc_places_in, od_places_in, .func (PySem.W.fnOf "places_in" "places_in" (defArgs s_places_in) (defBody s_places_in) (defScope s_places_in) .none kV_places_in dc_places_in pm_places_in an_places_in cd_places_in ct_places_in), sl_places_in⟩)
  (h_c_places_in : PySem.W.codeIn K cd_places_in "places_in" = true)
  (h_k_places_in : PySem.W.keepIn K (.ref f_places_in) = true)
  (h_n_term_text : PySem.W.nsIn K mainGlobals "term_text" = some (some (.ref f_term_text)))
  (h_l_term_text : K.lookup f_term_text = some ⟨oc_term_text, od_term_text, .func (PySem.W.fnOf "term_text" "term_text" (defArgs s_term_text) (defBody s_term_text) (defScope s_term_text) .none kV_term_text dc_term_text pm_term_text an_term_text cd_term_text ct_term_text), sl_term_text⟩)
  (h_c_term_text : PySem.W.codeIn K cd_term_text "term_text" = true)
  (h_k_term_text : PySem.W.keepIn K (.ref f_term_text) = true)
  (h_n_term_repr : PySem.W.nsIn K mainGlobals "term_repr" = some (some (.ref f_term_repr)))
  (h_l_term_repr : K.lookup f_term_repr = some ⟨oc_term_repr, od_term_repr, .func (PySem.W.fnOf "term_repr" "term_repr" (defArgs s_term_repr) (defBody s_term_repr) (defScope s_term_repr) .none kV_term_repr dc_term_repr pm_term_repr an_term_repr cd_term_repr ct_term_repr), sl_term_repr⟩)
  (h_c_term_repr : PySem.W.codeIn K cd_term_repr "term_repr" = true)
  (h_k_term_repr : PySem.W.keepIn K (.ref f_term_repr) = true)
  (h_n__law_pot : PySem.W.nsIn K mainGlobals "_law_pot" = some (some (.ref f__law_pot)))
  (h_l__law_pot : K.lookup f__law_pot = some ⟨oc__law_pot, od__law_pot, .func (PySem.W.fnOf "_law_pot" "_law_pot" (defArgs s__law_pot) (defBody s__law_pot) (defScope s__law_pot) .none kV__law_pot dc__law_pot pm__law_pot an__law_pot cd__law_pot ct__law_pot), sl__law_pot⟩)
  (h_c__law_pot : PySem.W.codeIn K cd__law_pot "_law_pot" = true)
  (h_k__law_pot : PySem.W.keepIn K (.ref f__law_pot) = true)
  (h_n__law_draw : PySem.W.nsIn K mainGlobals "_law_draw" = some (some (.ref f__law_draw)))
  (h_l__law_draw : K.lookup f__law_draw = some ⟨oc__law_draw, od__law_draw, .func (PySem.W.fnOf "_law_draw" "_law_draw" (defArgs s__law_draw) (defBody s__law_draw) (defScope s__law_draw) .none kV__law_draw dc__law_draw pm__law_draw an__law_draw cd__law_draw ct__law_draw), sl__law_draw⟩)
  (h_c__law_draw : PySem.W.codeIn K cd__law_draw "_law_draw" = true)
  (h_k__law_draw : PySem.W.keepIn K (.ref f__law_draw) = true)
  (h_n__law_pick : PySem.W.nsIn K mainGlobals "_law_pick" = some (some (.ref f__law_pick)))
  (h_l__law_pick : K.lookup f__law_pick = some ⟨oc__law_pick, od__law_pick, .func (PySem.W.fnOf "_law_pick" "_law_pick" (defArgs s__law_pick) (defBody s__law_pick) (defScope s__law_pick) .none kV__law_pick dc__law_pick pm__law_pick an__law_pick cd__law_pick ct__law_pick), sl__law_pick⟩)
  (h_c__law_pick : PySem.W.codeIn K cd__law_pick "_law_pick" = true)
  (h_k__law_pick : PySem.W.keepIn K (.ref f__law_pick) = true)
  (h_n__law_number : PySem.W.nsIn K mainGlobals "_law_number" = some (some (.ref f__law_number)))
  (h_l__law_number : K.lookup f__law_number = some ⟨oc__law_number, od__law_number, .func (PySem.W.fnOf "_law_number" "_law_number" (defArgs s__law_number) (defBody s__law_number) (defScope s__law_number) .none kV__law_number dc__law_number pm__law_number an__law_number cd__law_number ct__law_number), sl__law_number⟩)
  (h_c__law_number : PySem.W.codeIn K cd__law_number "_law_number" = true)
  (h_k__law_number : PySem.W.keepIn K (.ref f__law_number) = true)
  (h_n__law_shown : PySem.W.nsIn K mainGlobals "_law_shown" = some (some (.ref f__law_shown)))
  (h_l__law_shown : K.lookup f__law_shown = some ⟨oc__law_shown, od__law_shown, .func (PySem.W.fnOf "_law_shown" "_law_shown" (defArgs s__law_shown) (defBody s__law_shown) (defScope s__law_shown) .none kV__law_shown dc__law_shown pm__law_shown an__law_shown cd__law_shown ct__law_shown), sl__law_shown⟩)
  (h_c__law_shown : PySem.W.codeIn K cd__law_shown "_law_shown" = true)
  (h_k__law_shown : PySem.W.keepIn K (.ref f__law_shown) = true)
  (h_n__law_thing : PySem.W.nsIn K mainGlobals "_law_thing" = some (some (.ref f__law_thing)))
  (h_l__law_thing : K.lookup f__law_thing = some ⟨oc__law_thing, od__law_thing, .func (PySem.W.fnOf "_law_thing" "_law_thing" (defArgs s__law_thing) (defBody s__law_thing) (defScope s__law_thing) .none kV__law_thing dc__law_thing pm__law_thing an__law_thing cd__law_thing ct__law_thing), sl__law_thing⟩)
  (h_c__law_thing : PySem.W.codeIn K cd__law_thing "_law_thing" = true)
  (h_k__law_thing : PySem.W.keepIn K (.ref f__law_thing) = true)
  (h_n__law_things : PySem.W.nsIn K mainGlobals "_law_things" = some (some (.ref f__law_things)))
  (h_l__law_things : K.lookup f__law_things = some ⟨oc__law_things, od__law_things, .func (PySem.W.fnOf "_law_things" "_law_things" (defArgs s__law_things) (defBody s__law_things) (defScope s__law_things) .none kV__law_things dc__law_things pm__law_things an__law_things cd__law_things ct__law_things), sl__law_things⟩)
  (h_c__law_things : PySem.W.codeIn K cd__law_things "_law_things" = true)
  (h_k__law_things : PySem.W.keepIn K (.ref f__law_things) = true)
  (h_n__law_places : PySem.W.nsIn K mainGlobals "_law_places" = some (some (.ref f__law_places)))
  (h_l__law_places : K.lookup f__law_places = some ⟨oc__law_places, od__law_places, .func (PySem.W.fnOf "_law_places" "_law_places" (defArgs s__law_places) (defBody s__law_places) (defScope s__law_places) .none kV__law_places dc__law_places pm__law_places an__law_places cd__law_places ct__law_places), sl__law_places⟩)
  (h_c__law_places : PySem.W.codeIn K cd__law_places "_law_places" = true)
  (h_k__law_places : PySem.W.keepIn K (.ref f__law_places) = true)
  (h_n__law_term : PySem.W.nsIn K mainGlobals "_law_term" = some (some (.ref f__law_term)))
  (h_l__law_term : K.lookup f__law_term = some ⟨oc__law_term, od__law_term, .func (PySem.W.fnOf "_law_term" "_law_term" (defArgs s__law_term) (defBody s__law_term) (defScope s__law_term) .none kV__law_term dc__law_term pm__law_term an__law_term cd__law_term ct__law_term), sl__law_term⟩)
  (h_c__law_term : PySem.W.codeIn K cd__law_term "_law_term" = true)
  (h_k__law_term : PySem.W.keepIn K (.ref f__law_term) = true)
  (h_n__law_joined : PySem.W.nsIn K mainGlobals "_law_joined" = some (some (.ref f__law_joined)))
  (h_l__law_joined : K.lookup f__law_joined = some ⟨oc__law_joined, od__law_joined, .func (PySem.W.fnOf "_law_joined" "_law_joined" (defArgs s__law_joined) (defBody s__law_joined) (defScope s__law_joined) .none kV__law_joined dc__law_joined pm__law_joined an__law_joined cd__law_joined ct__law_joined), sl__law_joined⟩)
  (h_c__law_joined : PySem.W.codeIn K cd__law_joined "_law_joined" = true)
  (h_k__law_joined : PySem.W.keepIn K (.ref f__law_joined) = true)
  (h_n__law_real : PySem.W.nsIn K mainGlobals "_law_real" = some (some (.ref f__law_real)))
  (h_l__law_real : K.lookup f__law_real = some ⟨oc__law_real, od__law_real, .func (PySem.W.fnOf "_law_real" "_law_real" (defArgs s__law_real) (defBody s__law_real) (defScope s__law_real) .none kV__law_real dc__law_real pm__law_real an__law_real cd__law_real ct__law_real), sl__law_real⟩)
  (h_c__law_real : PySem.W.codeIn K cd__law_real "_law_real" = true)
  (h_k__law_real : PySem.W.keepIn K (.ref f__law_real) = true)
  (h_n__law_of : PySem.W.nsIn K mainGlobals "_law_of" = some (some (.ref f__law_of)))
  (h_l__law_of : K.lookup f__law_of = some ⟨oc__law_of, od__law_of, .func (PySem.W.fnOf "_law_of" "_law_of" (defArgs s__law_of) (defBody s__law_of) (defScope s__law_of) .none kV__law_of dc__law_of pm__law_of an__law_of cd__law_of ct__law_of), sl__law_of⟩)
  (h_c__law_of : PySem.W.codeIn K cd__law_of "_law_of" = true)
  (h_k__law_of : PySem.W.keepIn K (.ref f__law_of) = true)
  (h_n__law_numbers : PySem.W.nsIn K mainGlobals "_law_numbers" = some (some (.ref f__law_numbers)))
  (h_l__law_numbers : K.lookup f__law_numbers = some ⟨oc__law_numbers, od__law_numbers, .func (PySem.W.fnOf "_law_numbers" "_law_numbers" (defArgs s__law_numbers) (defBody s__law_numbers) (defScope s__law_numbers) .none kV__law_numbers dc__law_numbers pm__law_numbers an__law_numbers cd__law_numbers ct__law_numbers), sl__law_numbers⟩)
  (h_c__law_numbers : PySem.W.codeIn K cd__law_numbers "_law_numbers" = true)
  (h_k__law_numbers : PySem.W.keepIn K (.ref f__law_numbers) = true)
  (h_n__law_spots : PySem.W.nsIn K mainGlobals "_law_spots" = some (some (.ref f__law_spots)))
  (h_l__law_spots : K.lookup f__law_spots = some ⟨oc__law_spots, od__law_spots, .func (PySem.W.fnOf "_law_spots" "_law_spots" (defArgs s__law_spots) (defBody s__law_spots) (defScope s__law_spots) .none kV__law_spots dc__law_spots pm__law_spots an__law_spots cd__law_spots ct__law_spots), sl__law_spots⟩)
  (h_c__law_spots : PySem.W.codeIn K cd__law_spots "_law_spots" = true)
  (h_k__law_spots : PySem.W.keepIn K (.ref f__law_spots) = true)
  (h_n__law_depth : PySem.W.nsIn K mainGlobals "_law_depth" = some (some (.ref f__law_depth)))
  (h_l__law_depth : K.lookup f__law_depth = some ⟨oc__law_depth, od__law_depth, .func (PySem.W.fnOf "_law_depth" "_law_depth" (defArgs s__law_depth) (defBody s__law_depth) (defScope s__law_depth) .none kV__law_depth dc__law_depth pm__law_depth an__law_depth cd__law_depth ct__law_depth), sl__law_depth⟩)
  (h_c__law_depth : PySem.W.codeIn K cd__law_depth "_law_depth" = true)
  (h_k__law_depth : PySem.W.keepIn K (.ref f__law_depth) = true)
  (h_n__law_is_shaped : PySem.W.nsIn K mainGlobals "_law_is_shaped" = some (some (.ref f__law_is_shaped)))
  (h_l__law_is_shaped : K.lookup f__law_is_shaped = some ⟨oc__law_is_shaped, od__law_is_shaped, .func (PySem.W.fnOf "_law_is_shaped" "_law_is_shaped" (defArgs s__law_is_shaped) (defBody s__law_is_shaped) (defScope s__law_is_shaped) .none kV__law_is_shaped dc__law_is_shaped pm__law_is_shaped an__law_is_shaped cd__law_is_shaped ct__law_is_shaped), sl__law_is_shaped⟩)
  (h_c__law_is_shaped : PySem.W.codeIn K cd__law_is_shaped "_law_is_shaped" = true)
  (h_k__law_is_shaped : PySem.W.keepIn K (.ref f__law_is_shaped) = true)
  (h_n__law_there : PySem.W.nsIn K mainGlobals "_law_there" = some (some (.ref f__law_there)))
  (h_l__law_there : K.lookup f__law_there = some ⟨oc__law_there, od__law_there, .func (PySem.W.fnOf "_law_there" "_law_there" (defArgs s__law_there) (defBody s__law_there) (defScope s__law_there) .none kV__law_there dc__law_there pm__law_there an__law_there cd__law_there ct__law_there), sl__law_there⟩)
  (h_c__law_there : PySem.W.codeIn K cd__law_there "_law_there" = true)
  (h_k__law_there : PySem.W.keepIn K (.ref f__law_there) = true)
  (h_n__law_told : PySem.W.nsIn K mainGlobals "_law_told" = some (some (.ref f__law_told)))
  (h_l__law_told : K.lookup f__law_told = some ⟨oc__law_told, od__law_told, .func (PySem.W.fnOf "_law_told" "_law_told" (defArgs s__law_told) (defBody s__law_told) (defScope s__law_told) .none kV__law_told dc__law_told pm__law_told an__law_told cd__law_told ct__law_told), sl__law_told⟩)
  (h_c__law_told : PySem.W.codeIn K cd__law_told "_law_told" = true)
  (h_k__law_told : PySem.W.keepIn K (.ref f__law_told) = true)
  (h_n__law_wrong : PySem.W.nsIn K mainGlobals "_law_wrong" = some (some (.ref f__law_wrong)))
  (h_l__law_wrong : K.lookup f__law_wrong = some ⟨oc__law_wrong, od__law_wrong, .func (PySem.W.fnOf "_law_wrong" "_law_wrong" (defArgs s__law_wrong) (defBody s__law_wrong) (defScope s__law_wrong) .none kV__law_wrong dc__law_wrong pm__law_wrong an__law_wrong cd__law_wrong ct__law_wrong), sl__law_wrong⟩)
  (h_c__law_wrong : PySem.W.codeIn K cd__law_wrong "_law_wrong" = true)
  (h_k__law_wrong : PySem.W.keepIn K (.ref f__law_wrong) = true)
  (h_n__law_ones_right : PySem.W.nsIn K mainGlobals "_law_ones_right" = some (some (.ref f__law_ones_right)))
  (h_l__law_ones_right : K.lookup f__law_ones_right = some ⟨oc__law_ones_right, od__law_ones_right, .func (PySem.W.fnOf "_law_ones_right" "_law_ones_right" (defArgs s__law_ones_right) (defBody s__law_ones_right) (defScope s__law_ones_right) .none kV__law_ones_right dc__law_ones_right pm__law_ones_right an__law_ones_right cd__law_ones_right ct__law_ones_right), sl__law_ones_right⟩)
  (h_c__law_ones_right : PySem.W.codeIn K cd__law_ones_right "_law_ones_right" = true)
  (h_k__law_ones_right : PySem.W.keepIn K (.ref f__law_ones_right) = true)
  (h_n__law_signs_right : PySem.W.nsIn K mainGlobals "_law_signs_right" = some (some (.ref f__law_signs_right)))
  (h_l__law_signs_right : K.lookup f__law_signs_right = some ⟨oc__law_signs_right, od__law_signs_right, .func (PySem.W.fnOf "_law_signs_right" "_law_signs_right" (defArgs s__law_signs_right) (defBody s__law_signs_right) (defScope s__law_signs_right) .none kV__law_signs_right dc__law_signs_right pm__law_signs_right an__law_signs_right cd__law_signs_right ct__law_signs_right), sl__law_signs_right⟩)
  (h_c__law_signs_right : PySem.W.codeIn K cd__law_signs_right "_law_signs_right" = true)
  (h_k__law_signs_right : PySem.W.keepIn K (.ref f__law_signs_right) = true)
  (h_n__law_right : PySem.W.nsIn K mainGlobals "_law_right" = some (some (.ref f__law_right)))
  (h_l__law_right : K.lookup f__law_right = some ⟨oc__law_right, od__law_right, .func (PySem.W.fnOf "_law_right" "_law_right" (defArgs s__law_right) (defBody s__law_right) (defScope s__law_right) .none kV__law_right dc__law_right pm__law_right an__law_right cd__law_right ct__law_right), sl__law_right⟩)
  (h_c__law_right : PySem.W.codeIn K cd__law_right "_law_right" = true)
  (h_k__law_right : PySem.W.keepIn K (.ref f__law_right) = true)
  (h_n_law : PySem.W.nsIn K mainGlobals "law" = some (some (.ref f_law)))
  (h_l_law : K.lookup f_law = some ⟨oc_law, od_law, .func (PySem.W.fnOf "law" "law" (defArgs s_law) (defBody s_law) (defScope s_law) .none kV_law dc_law pm_law an_law cd_law ct_law), sl_law⟩)
  (h_c_law : PySem.W.codeIn K cd_law "law" = true)
  (h_k_law : PySem.W.keepIn K (.ref f_law) = true)
  (h_z_abs : PySem.W.nsIn K mainGlobals "abs" = some none)
  (h_z_all : PySem.W.nsIn K mainGlobals "all" = some none)
  (h_z_any : PySem.W.nsIn K mainGlobals "any" = some none)
  (h_z_bool : PySem.W.nsIn K mainGlobals "bool" = some none)
  (h_z_dict : PySem.W.nsIn K mainGlobals "dict" = some none)
  (h_z_divmod : PySem.W.nsIn K mainGlobals "divmod" = some none)
  (h_z_int : PySem.W.nsIn K mainGlobals "int" = some none)
  (h_z_isinstance : PySem.W.nsIn K mainGlobals "isinstance" = some none)
  (h_z_len : PySem.W.nsIn K mainGlobals "len" = some none)
  (h_z_list : PySem.W.nsIn K mainGlobals "list" = some none)
  (h_z_max : PySem.W.nsIn K mainGlobals "max" = some none)
  (h_z_min : PySem.W.nsIn K mainGlobals "min" = some none)
  (h_z_property : PySem.W.nsIn K mainGlobals "property" = some none)
  (h_z_range : PySem.W.nsIn K mainGlobals "range" = some none)
  (h_z_repr : PySem.W.nsIn K mainGlobals "repr" = some none)
  (h_z_set : PySem.W.nsIn K mainGlobals "set" = some none)
  (h_z_sorted : PySem.W.nsIn K mainGlobals "sorted" = some none)
  (h_z_str : PySem.W.nsIn K mainGlobals "str" = some none)
  (h_z_super : PySem.W.nsIn K mainGlobals "super" = some none)
  (h_z_tuple : PySem.W.nsIn K mainGlobals "tuple" = some none)
  (h_z_zip : PySem.W.nsIn K mainGlobals "zip" = some none)
  (h_v_BOTTOM : PySem.W.nsIn K mainGlobals "BOTTOM" = some (some (.str "bottom" t_BOTTOM)))
  (h_v_TOP : PySem.W.nsIn K mainGlobals "TOP" = some (some (.str "top" t_TOP)))
  (h_v_LEAST_PARTS : PySem.W.nsIn K mainGlobals "LEAST_PARTS" = some (some (.int 2 t_LEAST_PARTS)))
  (h_v_ENDS : PySem.W.nsIn K mainGlobals "ENDS" = some (some (.ref g_ENDS)))
  (h_l_ENDS : K.lookup g_ENDS = some ⟨.type "tuple", od_ENDS, .seq #[.str "bottom" t_ENDS_0, .str "top" t_ENDS_1] n_ENDS, sl_ENDS⟩)
  (h_v_PLACES : PySem.W.nsIn K mainGlobals "PLACES" = some (some (.ref g_PLACES)))
  (h_l_PLACES : K.lookup g_PLACES = some ⟨.type "tuple", od_PLACES, .seq #[.str "r0" t_PLACES_0, .str "r1" t_PLACES_1, .str "r2" t_PLACES_2, .str "r3" t_PLACES_3, .str "r4" t_PLACES_4, .str "r5" t_PLACES_5, .str "x0" t_PLACES_6, .str "x1" t_PLACES_7] n_PLACES, sl_PLACES⟩)
  (e_hn : PySem.W.specialIn K (.builtin "object.__class__") "__get__" = some (some (.builtin "getset_descriptor.__get__")))
  (e_ht : PySem.W.takesIn K (.builtin "object.__class__") = some true)
  (e_n_HeldError : PySem.W.nsIn K mainGlobals "HeldError" = some (some (.ref C_HeldError)))
  (e_l_HeldError : K.lookup C_HeldError = some (PySem.excClassObj nm_HeldError q_HeldError C_HeldError N_HeldError bs_HeldError bm_HeldError true sn_HeldError sub_HeldError ab_HeldError col_HeldError dd_HeldError k0_HeldError k1_HeldError k2_HeldError k3_HeldError k5_HeldError "ValueError.__new__"))
  (e_r_HeldError : PySem.HandSPX.refsVE bm_HeldError = true)
  (e_sa_HeldError : PySem.W.findIn K (.ref C_HeldError) "__setattr__" = some (some (.builtin "object.__setattr__")))
  (e_e1_HeldError : PySem.W.subIn K (.ref C_HeldError) (.type "BaseException") = some true)
  (e_e2_HeldError : PySem.W.typeIn K (.ref C_HeldError) = some (.type "type"))
  (e_e3_HeldError : PySem.W.keepIn K (.ref C_HeldError) = true)
  (e_i_HeldError : PySem.W.findIn K (.ref C_HeldError) "__init__" = some (some (.ref f_init)))
  (e_v_HeldError : PySem.W.findIn K (.ref C_HeldError) "value" = some none)
  (e_ga_HeldError : PySem.W.findIn K (.ref C_HeldError) "__getattribute__" = some (some (.builtin "BaseException.__getattribute__")))
  (e_gg_HeldError : PySem.W.findIn K (.ref C_HeldError) "__getattr__" = some none)
  (e_hd_HeldError : PySem.W.hasDictIn K C_HeldError = true)
  (e_ha_HeldError : PySem.W.findIn K (.ref C_HeldError) "__class__" = some (some (.builtin "object.__class__")))
  (e_hm_HeldError : PySem.W.mroIn K C_HeldError (.type "object") = some true)
  (e_n_InvalidPlace : PySem.W.nsIn K mainGlobals "InvalidPlace" = some (some (.ref C_InvalidPlace)))
  (e_l_InvalidPlace : K.lookup C_InvalidPlace = some (PySem.excClassObj nm_InvalidPlace q_InvalidPlace C_InvalidPlace N_InvalidPlace bs_InvalidPlace bm_InvalidPlace true sn_InvalidPlace sub_InvalidPlace ab_InvalidPlace col_InvalidPlace dd_InvalidPlace k0_InvalidPlace k1_InvalidPlace k2_InvalidPlace k3_InvalidPlace k5_InvalidPlace "ValueError.__new__"))
  (e_r_InvalidPlace : PySem.HandSPX.refsVE bm_InvalidPlace = true)
  (e_sa_InvalidPlace : PySem.W.findIn K (.ref C_InvalidPlace) "__setattr__" = some (some (.builtin "object.__setattr__")))
  (e_e1_InvalidPlace : PySem.W.subIn K (.ref C_InvalidPlace) (.type "BaseException") = some true)
  (e_e2_InvalidPlace : PySem.W.typeIn K (.ref C_InvalidPlace) = some (.type "type"))
  (e_e3_InvalidPlace : PySem.W.keepIn K (.ref C_InvalidPlace) = true)
  (e_i_InvalidPlace : PySem.W.findIn K (.ref C_InvalidPlace) "__init__" = some (some (.ref f_init)))
  (e_v_InvalidPlace : PySem.W.findIn K (.ref C_InvalidPlace) "value" = some none)
  (e_ga_InvalidPlace : PySem.W.findIn K (.ref C_InvalidPlace) "__getattribute__" = some (some (.builtin "BaseException.__getattribute__")))
  (e_gg_InvalidPlace : PySem.W.findIn K (.ref C_InvalidPlace) "__getattr__" = some none)
  (e_hd_InvalidPlace : PySem.W.hasDictIn K C_InvalidPlace = true)
  (e_ha_InvalidPlace : PySem.W.findIn K (.ref C_InvalidPlace) "__class__" = some (some (.builtin "object.__class__")))
  (e_hm_InvalidPlace : PySem.W.mroIn K C_InvalidPlace (.type "object") = some true)
  (e_n_InvalidEnd : PySem.W.nsIn K mainGlobals "InvalidEnd" = some (some (.ref C_InvalidEnd)))
  (e_l_InvalidEnd : K.lookup C_InvalidEnd = some (PySem.excClassObj nm_InvalidEnd q_InvalidEnd C_InvalidEnd N_InvalidEnd bs_InvalidEnd bm_InvalidEnd true sn_InvalidEnd sub_InvalidEnd ab_InvalidEnd col_InvalidEnd dd_InvalidEnd k0_InvalidEnd k1_InvalidEnd k2_InvalidEnd k3_InvalidEnd k5_InvalidEnd "ValueError.__new__"))
  (e_r_InvalidEnd : PySem.HandSPX.refsVE bm_InvalidEnd = true)
  (e_sa_InvalidEnd : PySem.W.findIn K (.ref C_InvalidEnd) "__setattr__" = some (some (.builtin "object.__setattr__")))
  (e_e1_InvalidEnd : PySem.W.subIn K (.ref C_InvalidEnd) (.type "BaseException") = some true)
  (e_e2_InvalidEnd : PySem.W.typeIn K (.ref C_InvalidEnd) = some (.type "type"))
  (e_e3_InvalidEnd : PySem.W.keepIn K (.ref C_InvalidEnd) = true)
  (e_i_InvalidEnd : PySem.W.findIn K (.ref C_InvalidEnd) "__init__" = some (some (.ref f_init)))
  (e_v_InvalidEnd : PySem.W.findIn K (.ref C_InvalidEnd) "value" = some none)
  (e_ga_InvalidEnd : PySem.W.findIn K (.ref C_InvalidEnd) "__getattribute__" = some (some (.builtin "BaseException.__getattribute__")))
  (e_gg_InvalidEnd : PySem.W.findIn K (.ref C_InvalidEnd) "__getattr__" = some none)
  (e_hd_InvalidEnd : PySem.W.hasDictIn K C_InvalidEnd = true)
  (e_ha_InvalidEnd : PySem.W.findIn K (.ref C_InvalidEnd) "__class__" = some (some (.builtin "object.__class__")))
  (e_hm_InvalidEnd : PySem.W.mroIn K C_InvalidEnd (.type "object") = some true)
  (e_n_InvalidTerm : PySem.W.nsIn K mainGlobals "InvalidTerm" = some (some (.ref C_InvalidTerm)))
  (e_l_InvalidTerm : K.lookup C_InvalidTerm = some (PySem.excClassObj nm_InvalidTerm q_InvalidTerm C_InvalidTerm N_InvalidTerm bs_InvalidTerm bm_InvalidTerm true sn_InvalidTerm sub_InvalidTerm ab_InvalidTerm col_InvalidTerm dd_InvalidTerm k0_InvalidTerm k1_InvalidTerm k2_InvalidTerm k3_InvalidTerm k5_InvalidTerm "ValueError.__new__"))
  (e_r_InvalidTerm : PySem.HandSPX.refsVE bm_InvalidTerm = true)
  (e_sa_InvalidTerm : PySem.W.findIn K (.ref C_InvalidTerm) "__setattr__" = some (some (.builtin "object.__setattr__")))
  (e_e1_InvalidTerm : PySem.W.subIn K (.ref C_InvalidTerm) (.type "BaseException") = some true)
  (e_e2_InvalidTerm : PySem.W.typeIn K (.ref C_InvalidTerm) = some (.type "type"))
  (e_e3_InvalidTerm : PySem.W.keepIn K (.ref C_InvalidTerm) = true)
  (e_i_InvalidTerm : PySem.W.findIn K (.ref C_InvalidTerm) "__init__" = some (some (.ref f_init)))
  (e_v_InvalidTerm : PySem.W.findIn K (.ref C_InvalidTerm) "value" = some none)
  (e_ga_InvalidTerm : PySem.W.findIn K (.ref C_InvalidTerm) "__getattribute__" = some (some (.builtin "BaseException.__getattribute__")))
  (e_gg_InvalidTerm : PySem.W.findIn K (.ref C_InvalidTerm) "__getattr__" = some none)
  (e_hd_InvalidTerm : PySem.W.hasDictIn K C_InvalidTerm = true)
  (e_ha_InvalidTerm : PySem.W.findIn K (.ref C_InvalidTerm) "__class__" = some (some (.builtin "object.__class__")))
  (e_hm_InvalidTerm : PySem.W.mroIn K C_InvalidTerm (.type "object") = some true)
  (e_n_InvalidValues : PySem.W.nsIn K mainGlobals "InvalidValues" = some (some (.ref C_InvalidValues)))
  (e_l_InvalidValues : K.lookup C_InvalidValues = some (PySem.excClassObj nm_InvalidValues q_InvalidValues C_InvalidValues N_InvalidValues bs_InvalidValues bm_InvalidValues true sn_InvalidValues sub_InvalidValues ab_InvalidValues col_InvalidValues dd_InvalidValues k0_InvalidValues k1_InvalidValues k2_InvalidValues k3_InvalidValues k5_InvalidValues "ValueError.__new__"))
  (e_r_InvalidValues : PySem.HandSPX.refsVE bm_InvalidValues = true)
  (e_sa_InvalidValues : PySem.W.findIn K (.ref C_InvalidValues) "__setattr__" = some (some (.builtin "object.__setattr__")))
  (e_e1_InvalidValues : PySem.W.subIn K (.ref C_InvalidValues) (.type "BaseException") = some true)
  (e_e2_InvalidValues : PySem.W.typeIn K (.ref C_InvalidValues) = some (.type "type"))
  (e_e3_InvalidValues : PySem.W.keepIn K (.ref C_InvalidValues) = true)
  (e_i_InvalidValues : PySem.W.findIn K (.ref C_InvalidValues) "__init__" = some (some (.ref f_init)))
  (e_v_InvalidValues : PySem.W.findIn K (.ref C_InvalidValues) "value" = some none)
  (e_ga_InvalidValues : PySem.W.findIn K (.ref C_InvalidValues) "__getattribute__" = some (some (.builtin "BaseException.__getattribute__")))
  (e_gg_InvalidValues : PySem.W.findIn K (.ref C_InvalidValues) "__getattr__" = some none)
  (e_hd_InvalidValues : PySem.W.hasDictIn K C_InvalidValues = true)
  (e_ha_InvalidValues : PySem.W.findIn K (.ref C_InvalidValues) "__class__" = some (some (.builtin "object.__class__")))
  (e_hm_InvalidValues : PySem.W.mroIn K C_InvalidValues (.type "object") = some true)
  (h_ti : PySem.W.typeIn K (.ref f_init) = some (.type "function"))
  (h_il : K.lookup f_init = some ⟨oc_init, od_init, .func (PySem.W.fnOf "__init__" "HeldError.__init__" (defArgs s_init) (defBody s_init) (defScope s_init) (.ref TD) kV_init dc_init pm_init an_init cd_init ct_init), sl_init⟩)
  (h_ic : PySem.W.codeIn K cd_init "HeldError.__init__" = true)
  (h_ik : PySem.W.keepIn K (.ref f_init) = true)
  (h_iD : K.lookup TD = some ⟨ocD, odD, .seq #[.none] nD, slD⟩)
  (h_any : PySem.W.nsIn K cStatics "thirdparty.any" = some none)
  (h_n_Term : PySem.W.nsIn K mainGlobals "Term" = some (some (.ref k_Term)))
  (c_pg_Term : PySem.W.plainGet K k_Term Str.empty = true)
  (c_hd_Term : PySem.W.hasDictIn K k_Term = true)
  (c_po_Term : PySem.W.plainOver K k_Term = true)
  (c_sa_Term : PySem.W.findIn K (.ref k_Term) "__setattr__" = some (some (.builtin "object.__setattr__")))
  (c_ha_Term : PySem.W.findIn K (.ref k_Term) "__class__" = some (some (.builtin "object.__class__")))
  (c_hm_Term : PySem.W.mroIn K k_Term (.type "object") = some true)
  (c_ne_Term : PySem.W.findIn K (.ref k_Term) "__ne__" = some (some (.builtin "object.__ne__")))
  (c_ty_Term : PySem.W.typeIn K (.ref k_Term) = some (.type "type"))
  (c_sf_Term : PySem.W.selfFirst K k_Term = true)
  (h_n_Place : PySem.W.nsIn K mainGlobals "Place" = some (some (.ref k_Place)))
  (c_pg_Place : PySem.W.plainGet K k_Place Str.empty = true)
  (c_hd_Place : PySem.W.hasDictIn K k_Place = true)
  (c_po_Place : PySem.W.plainOver K k_Place = true)
  (c_sa_Place : PySem.W.findIn K (.ref k_Place) "__setattr__" = some (some (.builtin "object.__setattr__")))
  (c_ha_Place : PySem.W.findIn K (.ref k_Place) "__class__" = some (some (.builtin "object.__class__")))
  (c_hm_Place : PySem.W.mroIn K k_Place (.type "object") = some true)
  (c_ne_Place : PySem.W.findIn K (.ref k_Place) "__ne__" = some (some (.builtin "object.__ne__")))
  (c_ty_Place : PySem.W.typeIn K (.ref k_Place) = some (.type "type"))
  (c_sf_Place : PySem.W.selfFirst K k_Place = true)
  (h_n_End : PySem.W.nsIn K mainGlobals "End" = some (some (.ref k_End)))
  (c_pg_End : PySem.W.plainGet K k_End Str.empty = true)
  (c_hd_End : PySem.W.hasDictIn K k_End = true)
  (c_po_End : PySem.W.plainOver K k_End = true)
  (c_sa_End : PySem.W.findIn K (.ref k_End) "__setattr__" = some (some (.builtin "object.__setattr__")))
  (c_ha_End : PySem.W.findIn K (.ref k_End) "__class__" = some (some (.builtin "object.__class__")))
  (c_hm_End : PySem.W.mroIn K k_End (.type "object") = some true)
  (c_ne_End : PySem.W.findIn K (.ref k_End) "__ne__" = some (some (.builtin "object.__ne__")))
  (c_ty_End : PySem.W.typeIn K (.ref k_End) = some (.type "type"))
  (c_sf_End : PySem.W.selfFirst K k_End = true)
  (h_n_Lesser : PySem.W.nsIn K mainGlobals "Lesser" = some (some (.ref k_Lesser)))
  (c_pg_Lesser : PySem.W.plainGet K k_Lesser Str.empty = true)
  (c_hd_Lesser : PySem.W.hasDictIn K k_Lesser = true)
  (c_po_Lesser : PySem.W.plainOver K k_Lesser = true)
  (c_sa_Lesser : PySem.W.findIn K (.ref k_Lesser) "__setattr__" = some (some (.builtin "object.__setattr__")))
  (c_ha_Lesser : PySem.W.findIn K (.ref k_Lesser) "__class__" = some (some (.builtin "object.__class__")))
  (c_hm_Lesser : PySem.W.mroIn K k_Lesser (.type "object") = some true)
  (c_ne_Lesser : PySem.W.findIn K (.ref k_Lesser) "__ne__" = some (some (.builtin "object.__ne__")))
  (c_ty_Lesser : PySem.W.typeIn K (.ref k_Lesser) = some (.type "type"))
  (c_sf_Lesser : PySem.W.selfFirst K k_Lesser = true)
  (h_n_Greater : PySem.W.nsIn K mainGlobals "Greater" = some (some (.ref k_Greater)))
  (c_pg_Greater : PySem.W.plainGet K k_Greater Str.empty = true)
  (c_hd_Greater : PySem.W.hasDictIn K k_Greater = true)
  (c_po_Greater : PySem.W.plainOver K k_Greater = true)
  (c_sa_Greater : PySem.W.findIn K (.ref k_Greater) "__setattr__" = some (some (.builtin "object.__setattr__")))
  (c_ha_Greater : PySem.W.findIn K (.ref k_Greater) "__class__" = some (some (.builtin "object.__class__")))
  (c_hm_Greater : PySem.W.mroIn K k_Greater (.type "object") = some true)
  (c_ne_Greater : PySem.W.findIn K (.ref k_Greater) "__ne__" = some (some (.builtin "object.__ne__")))
  (c_ty_Greater : PySem.W.typeIn K (.ref k_Greater) = some (.type "type"))
  (c_sf_Greater : PySem.W.selfFirst K k_Greater = true)
  (f_Term_init : PySem.W.findIn K (.ref k_Term) "__init__" = some (some (.ref m_Term_init)))
  (p_at_Term_depth : PySem.W.findIn K (.ref k_Term) "depth" = some (some (.ref p_Term_depth)))
  (f_Term_at : PySem.W.findIn K (.ref k_Term) "at" = some (some (.ref m_Term_at)))
  (f_Term_places : PySem.W.findIn K (.ref k_Term) "places" = some (some (.ref m_Term_places)))
  (f_Term_turned : PySem.W.findIn K (.ref k_Term) "turned" = some (some (.ref m_Term_turned)))
  (f_Term_put : PySem.W.findIn K (.ref k_Term) "put" = some (some (.ref m_Term_put)))
  (f_Term_and : PySem.W.findIn K (.ref k_Term) "__and__" = some (some (.ref m_Term_and)))
  (f_Term_or : PySem.W.findIn K (.ref k_Term) "__or__" = some (some (.ref m_Term_or)))
  (f_Term_str : PySem.W.findIn K (.ref k_Term) "__str__" = some (some (.ref m_Term_str)))
  (f_Term_repr : PySem.W.findIn K (.ref k_Term) "__repr__" = some (some (.ref m_Term_repr)))
  (f_Term_eq : PySem.W.findIn K (.ref k_Term) "__eq__" = some (some (.ref m_Term_eq)))
  (f_Place_init : PySem.W.findIn K (.ref k_Place) "__init__" = some (some (.ref m_Place_init)))
  (p_at_Place_name : PySem.W.findIn K (.ref k_Place) "name" = some (some (.ref p_Place_name)))
  (p_at_Place_depth : PySem.W.findIn K (.ref k_Place) "depth" = some (some (.ref p_Term_depth)))
  (f_Place_at : PySem.W.findIn K (.ref k_Place) "at" = some (some (.ref m_Term_at)))
  (f_Place_places : PySem.W.findIn K (.ref k_Place) "places" = some (some (.ref m_Term_places)))
  (f_Place_turned : PySem.W.findIn K (.ref k_Place) "turned" = some (some (.ref m_Term_turned)))
  (f_Place_put : PySem.W.findIn K (.ref k_Place) "put" = some (some (.ref m_Term_put)))
  (f_Place_and : PySem.W.findIn K (.ref k_Place) "__and__" = some (some (.ref m_Term_and)))
  (f_Place_or : PySem.W.findIn K (.ref k_Place) "__or__" = some (some (.ref m_Term_or)))
  (f_Place_str : PySem.W.findIn K (.ref k_Place) "__str__" = some (some (.ref m_Term_str)))
  (f_Place_repr : PySem.W.findIn K (.ref k_Place) "__repr__" = some (some (.ref m_Term_repr)))
  (f_Place_eq : PySem.W.findIn K (.ref k_Place) "__eq__" = some (some (.ref m_Term_eq)))
  (f_End_init : PySem.W.findIn K (.ref k_End) "__init__" = some (some (.ref m_End_init)))
  (p_at_End_end : PySem.W.findIn K (.ref k_End) "end" = some (some (.ref p_End_end)))
  (p_at_End_depth : PySem.W.findIn K (.ref k_End) "depth" = some (some (.ref p_Term_depth)))
  (f_End_at : PySem.W.findIn K (.ref k_End) "at" = some (some (.ref m_Term_at)))
  (f_End_places : PySem.W.findIn K (.ref k_End) "places" = some (some (.ref m_Term_places)))
  (f_End_turned : PySem.W.findIn K (.ref k_End) "turned" = some (some (.ref m_Term_turned)))
  (f_End_put : PySem.W.findIn K (.ref k_End) "put" = some (some (.ref m_Term_put)))
  (f_End_and : PySem.W.findIn K (.ref k_End) "__and__" = some (some (.ref m_Term_and)))
  (f_End_or : PySem.W.findIn K (.ref k_End) "__or__" = some (some (.ref m_Term_or)))
  (f_End_str : PySem.W.findIn K (.ref k_End) "__str__" = some (some (.ref m_Term_str)))
  (f_End_repr : PySem.W.findIn K (.ref k_End) "__repr__" = some (some (.ref m_Term_repr)))
  (f_End_eq : PySem.W.findIn K (.ref k_End) "__eq__" = some (some (.ref m_Term_eq)))
  (f_Lesser_init : PySem.W.findIn K (.ref k_Lesser) "__init__" = some (some (.ref m_Lesser_init)))
  (p_at_Lesser_parts : PySem.W.findIn K (.ref k_Lesser) "parts" = some (some (.ref p_Lesser_parts)))
  (p_at_Lesser_depth : PySem.W.findIn K (.ref k_Lesser) "depth" = some (some (.ref p_Term_depth)))
  (f_Lesser_at : PySem.W.findIn K (.ref k_Lesser) "at" = some (some (.ref m_Term_at)))
  (f_Lesser_places : PySem.W.findIn K (.ref k_Lesser) "places" = some (some (.ref m_Term_places)))
  (f_Lesser_turned : PySem.W.findIn K (.ref k_Lesser) "turned" = some (some (.ref m_Term_turned)))
  (f_Lesser_put : PySem.W.findIn K (.ref k_Lesser) "put" = some (some (.ref m_Term_put)))
  (f_Lesser_and : PySem.W.findIn K (.ref k_Lesser) "__and__" = some (some (.ref m_Term_and)))
  (f_Lesser_or : PySem.W.findIn K (.ref k_Lesser) "__or__" = some (some (.ref m_Term_or)))
  (f_Lesser_str : PySem.W.findIn K (.ref k_Lesser) "__str__" = some (some (.ref m_Term_str)))
  (f_Lesser_repr : PySem.W.findIn K (.ref k_Lesser) "__repr__" = some (some (.ref m_Term_repr)))
  (f_Lesser_eq : PySem.W.findIn K (.ref k_Lesser) "__eq__" = some (some (.ref m_Term_eq)))
  (f_Greater_init : PySem.W.findIn K (.ref k_Greater) "__init__" = some (some (.ref m_Greater_init)))
  (p_at_Greater_parts : PySem.W.findIn K (.ref k_Greater) "parts" = some (some (.ref p_Greater_parts)))
  (p_at_Greater_depth : PySem.W.findIn K (.ref k_Greater) "depth" = some (some (.ref p_Term_depth)))
  (f_Greater_at : PySem.W.findIn K (.ref k_Greater) "at" = some (some (.ref m_Term_at)))
  (f_Greater_places : PySem.W.findIn K (.ref k_Greater) "places" = some (some (.ref m_Term_places)))
  (f_Greater_turned : PySem.W.findIn K (.ref k_Greater) "turned" = some (some (.ref m_Term_turned)))
  (f_Greater_put : PySem.W.findIn K (.ref k_Greater) "put" = some (some (.ref m_Term_put)))
  (f_Greater_and : PySem.W.findIn K (.ref k_Greater) "__and__" = some (some (.ref m_Term_and)))
  (f_Greater_or : PySem.W.findIn K (.ref k_Greater) "__or__" = some (some (.ref m_Term_or)))
  (f_Greater_str : PySem.W.findIn K (.ref k_Greater) "__str__" = some (some (.ref m_Term_str)))
  (f_Greater_repr : PySem.W.findIn K (.ref k_Greater) "__repr__" = some (some (.ref m_Term_repr)))
  (f_Greater_eq : PySem.W.findIn K (.ref k_Greater) "__eq__" = some (some (.ref m_Term_eq)))
  (p_get_Term_depth : PySem.W.specialIn K (.ref p_Term_depth) "__get__" = some (some (.builtin "property.__get__")))
  (p_tak_Term_depth : PySem.W.takesIn K (.ref p_Term_depth) = some true)
  (p_rec_Term_depth : PySem.W.recIn K p_Term_depth "property" = some (.ref m_Term_depth :: rest_Term_depth))
  (p_get_Place_name : PySem.W.specialIn K (.ref p_Place_name) "__get__" = some (some (.builtin "property.__get__")))
  (p_tak_Place_name : PySem.W.takesIn K (.ref p_Place_name) = some true)
  (p_rec_Place_name : PySem.W.recIn K p_Place_name "property" = some (.ref m_Place_name :: rest_Place_name))
  (p_get_End_end : PySem.W.specialIn K (.ref p_End_end) "__get__" = some (some (.builtin "property.__get__")))
  (p_tak_End_end : PySem.W.takesIn K (.ref p_End_end) = some true)
  (p_rec_End_end : PySem.W.recIn K p_End_end "property" = some (.ref m_End_end :: rest_End_end))
  (p_get_Lesser_parts : PySem.W.specialIn K (.ref p_Lesser_parts) "__get__" = some (some (.builtin "property.__get__")))
  (p_tak_Lesser_parts : PySem.W.takesIn K (.ref p_Lesser_parts) = some true)
  (p_rec_Lesser_parts : PySem.W.recIn K p_Lesser_parts "property" = some (.ref m_Lesser_parts :: rest_Lesser_parts))
  (p_get_Greater_parts : PySem.W.specialIn K (.ref p_Greater_parts) "__get__" = some (some (.builtin "property.__get__")))
  (p_tak_Greater_parts : PySem.W.takesIn K (.ref p_Greater_parts) = some true)
  (p_rec_Greater_parts : PySem.W.recIn K p_Greater_parts "property" = some (.ref m_Greater_parts :: rest_Greater_parts))
  (h_l_Term_init : K.lookup m_Term_init = some ⟨oc_Term_init, od_Term_init, .func (PySem.W.fnOf "__init__" "Term.__init__" (defArgs s_Term_init) (defBody s_Term_init) (defScope s_Term_init) .none kV_Term_init dc_Term_init pm_Term_init an_Term_init cd_Term_init ct_Term_init), sl_Term_init⟩)
  (h_c_Term_init : PySem.W.codeIn K cd_Term_init "Term.__init__" = true)
  (h_k_Term_init : PySem.W.keepIn K (.ref m_Term_init) = true)
  (h_fn_Term_init : PySem.W.isFn K (.ref m_Term_init) = true)
  (h_l_Term_depth : K.lookup m_Term_depth = some ⟨oc_Term_depth, od_Term_depth, .func (PySem.W.fnOf "depth" "Term.depth" (defArgs s_Term_depth) (defBody s_Term_depth) (defScope s_Term_depth) .none kV_Term_depth dc_Term_depth pm_Term_depth an_Term_depth cd_Term_depth ct_Term_depth), sl_Term_depth⟩)
  (h_c_Term_depth : PySem.W.codeIn K cd_Term_depth "Term.depth" = true)
  (h_k_Term_depth : PySem.W.keepIn K (.ref m_Term_depth) = true)
  (h_fn_Term_depth : PySem.W.isFn K (.ref m_Term_depth) = true)
  (h_l_Term_at : K.lookup m_Term_at = some ⟨oc_Term_at, od_Term_at, .func (PySem.W.fnOf "at" "Term.at" (defArgs s_Term_at) (defBody s_Term_at) (defScope s_Term_at) .none kV_Term_at dc_Term_at pm_Term_at an_Term_at cd_Term_at ct_Term_at), sl_Term_at⟩)
  (h_c_Term_at : PySem.W.codeIn K cd_Term_at "Term.at" = true)
  (h_k_Term_at : PySem.W.keepIn K (.ref m_Term_at) = true)
  (h_fn_Term_at : PySem.W.isFn K (.ref m_Term_at) = true)
  (h_l_Term_places : K.lookup m_Term_places = some ⟨oc_Term_places, od_Term_places, .func (PySem.W.fnOf "places" "Term.places" (defArgs s_Term_places) (defBody s_Term_places) (defScope s_Term_places) .none kV_Term_places dc_Term_places pm_Term_places an_Term_places cd_Term_places ct_Term_places), sl_Term_places⟩)
  (h_c_Term_places : PySem.W.codeIn K cd_Term_places "Term.places" = true)
  (h_k_Term_places : PySem.W.keepIn K (.ref m_Term_places) = true)
  (h_fn_Term_places : PySem.W.isFn K (.ref m_Term_places) = true)
  (h_l_Term_turned : K.lookup m_Term_turned = some ⟨oc_Term_turned, od_Term_turned, .func (PySem.W.fnOf "turned" "Term.turned" (defArgs s_Term_turned) (defBody s_Term_turned) (defScope s_Term_turned) .none kV_Term_turned dc_Term_turned pm_Term_turned an_Term_turned cd_Term_turned ct_Term_turned), sl_Term_turned⟩)
  (h_c_Term_turned : PySem.W.codeIn K cd_Term_turned "Term.turned" = true)
  (h_k_Term_turned : PySem.W.keepIn K (.ref m_Term_turned) = true)
  (h_fn_Term_turned : PySem.W.isFn K (.ref m_Term_turned) = true)
  (h_l_Term_put : K.lookup m_Term_put = some ⟨oc_Term_put, od_Term_put, .func (PySem.W.fnOf "put" "Term.put" (defArgs s_Term_put) (defBody s_Term_put) (defScope s_Term_put) .none kV_Term_put dc_Term_put pm_Term_put an_Term_put cd_Term_put ct_Term_put), sl_Term_put⟩)
  (h_c_Term_put : PySem.W.codeIn K cd_Term_put "Term.put" = true)
  (h_k_Term_put : PySem.W.keepIn K (.ref m_Term_put) = true)
  (h_fn_Term_put : PySem.W.isFn K (.ref m_Term_put) = true)
  (h_l_Term_and : K.lookup m_Term_and = some ⟨oc_Term_and, od_Term_and, .func (PySem.W.fnOf "__and__" "Term.__and__" (defArgs s_Term_and) (defBody s_Term_and) (defScope s_Term_and) .none kV_Term_and dc_Term_and pm_Term_and an_Term_and cd_Term_and ct_Term_and), sl_Term_and⟩)
  (h_c_Term_and : PySem.W.codeIn K cd_Term_and "Term.__and__" = true)
  (h_k_Term_and : PySem.W.keepIn K (.ref m_Term_and) = true)
  (h_fn_Term_and : PySem.W.isFn K (.ref m_Term_and) = true)
  (h_l_Term_or : K.lookup m_Term_or = some ⟨oc_Term_or, od_Term_or, .func (PySem.W.fnOf "__or__" "Term.__or__" (defArgs s_Term_or) (defBody s_Term_or) (defScope s_Term_or) .none kV_Term_or dc_Term_or pm_Term_or an_Term_or cd_Term_or ct_Term_or), sl_Term_or⟩)
  (h_c_Term_or : PySem.W.codeIn K cd_Term_or "Term.__or__" = true)
  (h_k_Term_or : PySem.W.keepIn K (.ref m_Term_or) = true)
  (h_fn_Term_or : PySem.W.isFn K (.ref m_Term_or) = true)
  (h_l_Term_str : K.lookup m_Term_str = some ⟨oc_Term_str, od_Term_str, .func (PySem.W.fnOf "__str__" "Term.__str__" (defArgs s_Term_str) (defBody s_Term_str) (defScope s_Term_str) .none kV_Term_str dc_Term_str pm_Term_str an_Term_str cd_Term_str ct_Term_str), sl_Term_str⟩)
  (h_c_Term_str : PySem.W.codeIn K cd_Term_str "Term.__str__" = true)
  (h_k_Term_str : PySem.W.keepIn K (.ref m_Term_str) = true)
  (h_fn_Term_str : PySem.W.isFn K (.ref m_Term_str) = true)
  (h_l_Term_repr : K.lookup m_Term_repr = some ⟨oc_Term_repr, od_Term_repr, .func (PySem.W.fnOf "__repr__" "Term.__repr__" (defArgs s_Term_repr) (defBody s_Term_repr) (defScope s_Term_repr) .none kV_Term_repr dc_Term_repr pm_Term_repr an_Term_repr cd_Term_repr ct_Term_repr), sl_Term_repr⟩)
  (h_c_Term_repr : PySem.W.codeIn K cd_Term_repr "Term.__repr__" = true)
  (h_k_Term_repr : PySem.W.keepIn K (.ref m_Term_repr) = true)
  (h_fn_Term_repr : PySem.W.isFn K (.ref m_Term_repr) = true)
  (h_l_Term_eq : K.lookup m_Term_eq = some ⟨oc_Term_eq, od_Term_eq, .func (PySem.W.fnOf "__eq__" "Term.__eq__" (defArgs s_Term_eq) (defBody s_Term_eq) (defScope s_Term_eq) .none kV_Term_eq dc_Term_eq pm_Term_eq an_Term_eq cd_Term_eq ct_Term_eq), sl_Term_eq⟩)
  (h_c_Term_eq : PySem.W.codeIn K cd_Term_eq "Term.__eq__" = true)
  (h_k_Term_eq : PySem.W.keepIn K (.ref m_Term_eq) = true)
  (h_fn_Term_eq : PySem.W.isFn K (.ref m_Term_eq) = true)
  (h_l_Place_init : K.lookup m_Place_init = some ⟨oc_Place_init, od_Place_init, .func (PySem.W.ksFn "__init__" "Place.__init__" (defArgs s_Place_init) (defBody s_Place_init) (defScope s_Place_init) .none kV_Place_init dc_Place_init pm_Place_init an_Place_init (.ref o_Place_init) ct_Place_init w_Place_init), sl_Place_init⟩)
  (h_c_Place_init : PySem.W.codeIn K (.ref o_Place_init) "Place.__init__" = true)
  (h_o_Place_init : K.lookup o_Place_init = some ⟨oco_Place_init, odo_Place_init, .fields vs_Place_init, slo_Place_init⟩)
  (h_x_Place_init : vs_Place_init[2]? = some (.str tx_Place_init tf_Place_init))
  (h_w_Place_init : K.lookup w_Place_init = some ⟨ocw_Place_init, odw_Place_init, .cell (some (.ref k_Place)), slw_Place_init⟩)
  (h_fi_Place_init : ((l.prog.main.file : Str) == tx_Place_init) = true)
  (h_fn_Place_init : PySem.W.isFn K (.ref m_Place_init) = true)
  (h_l_Place_name : K.lookup m_Place_name = some ⟨oc_Place_name, od_Place_name, .func (PySem.W.fnOf "name" "Place.name" (defArgs s_Place_name) (defBody s_Place_name) (defScope s_Place_name) .none kV_Place_name dc_Place_name pm_Place_name an_Place_name cd_Place_name ct_Place_name), sl_Place_name⟩)
  (h_c_Place_name : PySem.W.codeIn K cd_Place_name "Place.name" = true)
  (h_k_Place_name : PySem.W.keepIn K (.ref m_Place_name) = true)
  (h_fn_Place_name : PySem.W.isFn K (.ref m_Place_name) = true)
  (h_l_End_init : K.lookup m_End_init = some ⟨oc_End_init, od_End_init, .func (PySem.W.ksFn "__init__" "End.__init__" (defArgs s_End_init) (defBody s_End_init) (defScope s_End_init) .none kV_End_init dc_End_init pm_End_init an_End_init (.ref o_End_init) ct_End_init w_End_init), sl_End_init⟩)
  (h_c_End_init : PySem.W.codeIn K (.ref o_End_init) "End.__init__" = true)
  (h_o_End_init : K.lookup o_End_init = some ⟨oco_End_init, odo_End_init, .fields vs_End_init, slo_End_init⟩)
  (h_x_End_init : vs_End_init[2]? = some (.str tx_End_init tf_End_init))
  (h_w_End_init : K.lookup w_End_init = some ⟨ocw_End_init, odw_End_init, .cell (some (.ref k_End)), slw_End_init⟩)
  (h_fi_End_init : ((l.prog.main.file : Str) == tx_End_init) = true)
  (h_fn_End_init : PySem.W.isFn K (.ref m_End_init) = true)
  (h_l_End_end : K.lookup m_End_end = some ⟨oc_End_end, od_End_end, .func (PySem.W.fnOf "end" "End.end" (defArgs s_End_end) (defBody s_End_end) (defScope s_End_end) .none kV_End_end dc_End_end pm_End_end an_End_end cd_End_end ct_End_end), sl_End_end⟩)
  (h_c_End_end : PySem.W.codeIn K cd_End_end "End.end" = true)
  (h_k_End_end : PySem.W.keepIn K (.ref m_End_end) = true)
  (h_fn_End_end : PySem.W.isFn K (.ref m_End_end) = true)
  (h_l_Lesser_init : K.lookup m_Lesser_init = some ⟨oc_Lesser_init, od_Lesser_init, .func (PySem.W.ksFn "__init__" "Lesser.__init__" (defArgs s_Lesser_init) (defBody s_Lesser_init) (defScope s_Lesser_init) .none kV_Lesser_init dc_Lesser_init pm_Lesser_init an_Lesser_init (.ref o_Lesser_init) ct_Lesser_init w_Lesser_init), sl_Lesser_init⟩)
  (h_c_Lesser_init : PySem.W.codeIn K (.ref o_Lesser_init) "Lesser.__init__" = true)
  (h_o_Lesser_init : K.lookup o_Lesser_init = some ⟨oco_Lesser_init, odo_Lesser_init, .fields vs_Lesser_init, slo_Lesser_init⟩)
  (h_x_Lesser_init : vs_Lesser_init[2]? = some (.str tx_Lesser_init tf_Lesser_init))
  (h_w_Lesser_init : K.lookup w_Lesser_init = some ⟨ocw_Lesser_init, odw_Lesser_init, .cell (some (.ref k_Lesser)), slw_Lesser_init⟩)
  (h_fi_Lesser_init : ((l.prog.main.file : Str) == tx_Lesser_init) = true)
  (h_fn_Lesser_init : PySem.W.isFn K (.ref m_Lesser_init) = true)
  (h_l_Lesser_parts : K.lookup m_Lesser_parts = some ⟨oc_Lesser_parts, od_Lesser_parts, .func (PySem.W.fnOf "parts" "Lesser.parts" (defArgs s_Lesser_parts) (defBody s_Lesser_parts) (defScope s_Lesser_parts) .none kV_Lesser_parts dc_Lesser_parts pm_Lesser_parts an_Lesser_parts cd_Lesser_parts ct_Lesser_parts), sl_Lesser_parts⟩)
  (h_c_Lesser_parts : PySem.W.codeIn K cd_Lesser_parts "Lesser.parts" = true)
  (h_k_Lesser_parts : PySem.W.keepIn K (.ref m_Lesser_parts) = true)
  (h_fn_Lesser_parts : PySem.W.isFn K (.ref m_Lesser_parts) = true)
  (h_l_Greater_init : K.lookup m_Greater_init = some ⟨oc_Greater_init, od_Greater_init, .func (PySem.W.ksFn "__init__" "Greater.__init__" (defArgs s_Greater_init) (defBody s_Greater_init) (defScope s_Greater_init) .none kV_Greater_init dc_Greater_init pm_Greater_init an_Greater_init (.ref o_Greater_init) ct_Greater_init w_Greater_init), sl_Greater_init⟩)
  (h_c_Greater_init : PySem.W.codeIn K (.ref o_Greater_init) "Greater.__init__" = true)
  (h_o_Greater_init : K.lookup o_Greater_init = some ⟨oco_Greater_init, odo_Greater_init, .fields vs_Greater_init, slo_Greater_init⟩)
  (h_x_Greater_init : vs_Greater_init[2]? = some (.str tx_Greater_init tf_Greater_init))
  (h_w_Greater_init : K.lookup w_Greater_init = some ⟨ocw_Greater_init, odw_Greater_init, .cell (some (.ref k_Greater)), slw_Greater_init⟩)
  (h_fi_Greater_init : ((l.prog.main.file : Str) == tx_Greater_init) = true)
  (h_fn_Greater_init : PySem.W.isFn K (.ref m_Greater_init) = true)
  (h_l_Greater_parts : K.lookup m_Greater_parts = some ⟨oc_Greater_parts, od_Greater_parts, .func (PySem.W.fnOf "parts" "Greater.parts" (defArgs s_Greater_parts) (defBody s_Greater_parts) (defScope s_Greater_parts) .none kV_Greater_parts dc_Greater_parts pm_Greater_parts an_Greater_parts cd_Greater_parts ct_Greater_parts), sl_Greater_parts⟩)
  (h_c_Greater_parts : PySem.W.codeIn K cd_Greater_parts "Greater.parts" = true)
  (h_k_Greater_parts : PySem.W.keepIn K (.ref m_Greater_parts) = true)
  (h_fn_Greater_parts : PySem.W.isFn K (.ref m_Greater_parts) = true)
  (mk_Term : PySem.W.makesIn K k_Term = true)
  (kp_Term : PySem.W.keepIn K (.ref k_Term) = true)
  (rand_Term : PySem.W.findIn K (.ref k_Term) (PySem.dunderR "and") = some none)
  (ror_Term : PySem.W.findIn K (.ref k_Term) (PySem.dunderR "or") = some none)
  (na_Term_own_depth : PySem.W.findIn K (.ref k_Term) "own_depth" = some none)
  (s_sub_Place : PySem.W.mroIn K k_Place (.ref k_Place) = some true)
  (s_sup_Place : PySem.W.ks_superIn K k_Place k_Place "__init__" = some (some (.ref m_Term_init)))
  (s_ty_m_Term_init : PySem.W.typeIn K (.ref m_Term_init) = some (.type "function"))
  (s_fn_m_Term_init : PySem.W.fnIn K m_Term_init = true)
  (mk_Place : PySem.W.makesIn K k_Place = true)
  (kp_Place : PySem.W.keepIn K (.ref k_Place) = true)
  (rand_Place : PySem.W.findIn K (.ref k_Place) (PySem.dunderR "and") = some none)
  (ror_Place : PySem.W.findIn K (.ref k_Place) (PySem.dunderR "or") = some none)
  (na_Place_own_depth : PySem.W.findIn K (.ref k_Place) "own_depth" = some none)
  (na_Place_own_name : PySem.W.findIn K (.ref k_Place) "own_name" = some none)
  (s_sub_End : PySem.W.mroIn K k_End (.ref k_End) = some true)
  (s_sup_End : PySem.W.ks_superIn K k_End k_End "__init__" = some (some (.ref m_Term_init)))
  (mk_End : PySem.W.makesIn K k_End = true)
  (kp_End : PySem.W.keepIn K (.ref k_End) = true)
  (rand_End : PySem.W.findIn K (.ref k_End) (PySem.dunderR "and") = some none)
  (ror_End : PySem.W.findIn K (.ref k_End) (PySem.dunderR "or") = some none)
  (na_End_own_depth : PySem.W.findIn K (.ref k_End) "own_depth" = some none)
  (na_End_own_end : PySem.W.findIn K (.ref k_End) "own_end" = some none)
  (s_sub_Lesser : PySem.W.mroIn K k_Lesser (.ref k_Lesser) = some true)
  (s_sup_Lesser : PySem.W.ks_superIn K k_Lesser k_Lesser "__init__" = some (some (.ref m_Term_init)))
  (mk_Lesser : PySem.W.makesIn K k_Lesser = true)
  (kp_Lesser : PySem.W.keepIn K (.ref k_Lesser) = true)
  (rand_Lesser : PySem.W.findIn K (.ref k_Lesser) (PySem.dunderR "and") = some none)
  (ror_Lesser : PySem.W.findIn K (.ref k_Lesser) (PySem.dunderR "or") = some none)
  (na_Lesser_own_depth : PySem.W.findIn K (.ref k_Lesser) "own_depth" = some none)
  (na_Lesser_own_parts : PySem.W.findIn K (.ref k_Lesser) "own_parts" = some none)
  (s_sub_Greater : PySem.W.mroIn K k_Greater (.ref k_Greater) = some true)
  (s_sup_Greater : PySem.W.ks_superIn K k_Greater k_Greater "__init__" = some (some (.ref m_Term_init)))
  (mk_Greater : PySem.W.makesIn K k_Greater = true)
  (kp_Greater : PySem.W.keepIn K (.ref k_Greater) = true)
  (rand_Greater : PySem.W.findIn K (.ref k_Greater) (PySem.dunderR "and") = some none)
  (ror_Greater : PySem.W.findIn K (.ref k_Greater) (PySem.dunderR "or") = some none)
  (na_Greater_own_depth : PySem.W.findIn K (.ref k_Greater) "own_depth" = some none)
  (na_Greater_own_parts : PySem.W.findIn K (.ref k_Greater) "own_parts" = some none)
  (x_Term_Term : PySem.W.subIn K (.ref k_Term) (.ref k_Term) = some true)
  (x_Term_Place : PySem.W.subIn K (.ref k_Term) (.ref k_Place) = some false)
  (x_Term_End : PySem.W.subIn K (.ref k_Term) (.ref k_End) = some false)
  (x_Term_Lesser : PySem.W.subIn K (.ref k_Term) (.ref k_Lesser) = some false)
  (x_Term_Greater : PySem.W.subIn K (.ref k_Term) (.ref k_Greater) = some false)
  (x_Place_Term : PySem.W.subIn K (.ref k_Place) (.ref k_Term) = some true)
  (x_Place_Place : PySem.W.subIn K (.ref k_Place) (.ref k_Place) = some true)
  (x_Place_End : PySem.W.subIn K (.ref k_Place) (.ref k_End) = some false)
  (x_Place_Lesser : PySem.W.subIn K (.ref k_Place) (.ref k_Lesser) = some false)
  (x_Place_Greater : PySem.W.subIn K (.ref k_Place) (.ref k_Greater) = some false)
  (x_End_Term : PySem.W.subIn K (.ref k_End) (.ref k_Term) = some true)
  (x_End_Place : PySem.W.subIn K (.ref k_End) (.ref k_Place) = some false)
  (x_End_End : PySem.W.subIn K (.ref k_End) (.ref k_End) = some true)
  (x_End_Lesser : PySem.W.subIn K (.ref k_End) (.ref k_Lesser) = some false)
  (x_End_Greater : PySem.W.subIn K (.ref k_End) (.ref k_Greater) = some false)
  (x_Lesser_Term : PySem.W.subIn K (.ref k_Lesser) (.ref k_Term) = some true)
  (x_Lesser_Place : PySem.W.subIn K (.ref k_Lesser) (.ref k_Place) = some false)
  (x_Lesser_End : PySem.W.subIn K (.ref k_Lesser) (.ref k_End) = some false)
  (x_Lesser_Lesser : PySem.W.subIn K (.ref k_Lesser) (.ref k_Lesser) = some true)
  (x_Lesser_Greater : PySem.W.subIn K (.ref k_Lesser) (.ref k_Greater) = some false)
  (x_Greater_Term : PySem.W.subIn K (.ref k_Greater) (.ref k_Term) = some true)
  (x_Greater_Place : PySem.W.subIn K (.ref k_Greater) (.ref k_Place) = some false)
  (x_Greater_End : PySem.W.subIn K (.ref k_Greater) (.ref k_End) = some false)
  (x_Greater_Lesser : PySem.W.subIn K (.ref k_Greater) (.ref k_Lesser) = some false)
  (x_Greater_Greater : PySem.W.subIn K (.ref k_Greater) (.ref k_Greater) = some true)
  (x_HeldError_HeldError : PySem.W.subIn K (.ref C_HeldError) (.ref C_HeldError) = some true)
  (x_HeldError_InvalidPlace : PySem.W.subIn K (.ref C_HeldError) (.ref C_InvalidPlace) = some false)
  (x_HeldError_InvalidEnd : PySem.W.subIn K (.ref C_HeldError) (.ref C_InvalidEnd) = some false)
  (x_HeldError_InvalidTerm : PySem.W.subIn K (.ref C_HeldError) (.ref C_InvalidTerm) = some false)
  (x_HeldError_InvalidValues : PySem.W.subIn K (.ref C_HeldError) (.ref C_InvalidValues) = some false)
  (x_InvalidPlace_HeldError : PySem.W.subIn K (.ref C_InvalidPlace) (.ref C_HeldError) = some true)
  (x_InvalidPlace_InvalidPlace : PySem.W.subIn K (.ref C_InvalidPlace) (.ref C_InvalidPlace) = some true)
  (x_InvalidPlace_InvalidEnd : PySem.W.subIn K (.ref C_InvalidPlace) (.ref C_InvalidEnd) = some false)
  (x_InvalidPlace_InvalidTerm : PySem.W.subIn K (.ref C_InvalidPlace) (.ref C_InvalidTerm) = some false)
  (x_InvalidPlace_InvalidValues : PySem.W.subIn K (.ref C_InvalidPlace) (.ref C_InvalidValues) = some false)
  (x_InvalidEnd_HeldError : PySem.W.subIn K (.ref C_InvalidEnd) (.ref C_HeldError) = some true)
  (x_InvalidEnd_InvalidPlace : PySem.W.subIn K (.ref C_InvalidEnd) (.ref C_InvalidPlace) = some false)
  (x_InvalidEnd_InvalidEnd : PySem.W.subIn K (.ref C_InvalidEnd) (.ref C_InvalidEnd) = some true)
  (x_InvalidEnd_InvalidTerm : PySem.W.subIn K (.ref C_InvalidEnd) (.ref C_InvalidTerm) = some false)
  (x_InvalidEnd_InvalidValues : PySem.W.subIn K (.ref C_InvalidEnd) (.ref C_InvalidValues) = some false)
  (x_InvalidTerm_HeldError : PySem.W.subIn K (.ref C_InvalidTerm) (.ref C_HeldError) = some true)
  (x_InvalidTerm_InvalidPlace : PySem.W.subIn K (.ref C_InvalidTerm) (.ref C_InvalidPlace) = some false)
  (x_InvalidTerm_InvalidEnd : PySem.W.subIn K (.ref C_InvalidTerm) (.ref C_InvalidEnd) = some false)
  (x_InvalidTerm_InvalidTerm : PySem.W.subIn K (.ref C_InvalidTerm) (.ref C_InvalidTerm) = some true)
  (x_InvalidTerm_InvalidValues : PySem.W.subIn K (.ref C_InvalidTerm) (.ref C_InvalidValues) = some false)
  (x_InvalidValues_HeldError : PySem.W.subIn K (.ref C_InvalidValues) (.ref C_HeldError) = some true)
  (x_InvalidValues_InvalidPlace : PySem.W.subIn K (.ref C_InvalidValues) (.ref C_InvalidPlace) = some false)
  (x_InvalidValues_InvalidEnd : PySem.W.subIn K (.ref C_InvalidValues) (.ref C_InvalidEnd) = some false)
  (x_InvalidValues_InvalidTerm : PySem.W.subIn K (.ref C_InvalidValues) (.ref C_InvalidTerm) = some false)
  (x_InvalidValues_InvalidValues : PySem.W.subIn K (.ref C_InvalidValues) (.ref C_InvalidValues) = some true)
  (y_HeldError : PySem.W.subIn K (.ref C_HeldError) (.type "ValueError") = some true)
  (y_InvalidPlace : PySem.W.subIn K (.ref C_InvalidPlace) (.type "ValueError") = some true)
  (y_InvalidEnd : PySem.W.subIn K (.ref C_InvalidEnd) (.type "ValueError") = some true)
  (y_InvalidTerm : PySem.W.subIn K (.ref C_InvalidTerm) (.type "ValueError") = some true)
  (y_InvalidValues : PySem.W.subIn K (.ref C_InvalidValues) (.type "ValueError") = some true)
  (nk_Place : LG.noKinds K k_Place = true)
  (nk_End : LG.noKinds K k_End = true)
  (nk_Lesser : LG.noKinds K k_Lesser = true)
  (nk_Greater : LG.noKinds K k_Greater = true)
  (h_top : (l.prog.main.scope.names.lookup ("super" : Str)).isSome = false)
  : LG.LawAt l w K 16 63 mg fa h := by
  let a : At := { c_HeldError := C_HeldError, c_InvalidPlace := C_InvalidPlace, c_InvalidEnd := C_InvalidEnd, c_InvalidTerm := C_InvalidTerm, c_InvalidValues := C_InvalidValues, k_Term := k_Term, k_Place := k_Place, k_End := k_End, k_Lesser := k_Lesser, k_Greater := k_Greater, init := f_init, _wall := f__wall, is_integer := f_is_integer, is_end := f_is_end, is_value := f_is_value, is_not_less := f_is_not_less, least_of := f_least_of, greatest_of := f_greatest_of, is_place := f_is_place, want_term := f_want_term, want_terms := f_want_terms, depth_above := f_depth_above, want_values := f_want_values, value_at := f_value_at, places_in := f_places_in, term_text := f_term_text, term_repr := f_term_repr, _law_pot := f__law_pot, _law_draw := f__law_draw, _law_pick := f__law_pick, _law_number := f__law_number, _law_shown := f__law_shown, _law_thing := f__law_thing, _law_things := f__law_things, _law_places := f__law_places, _law_term := f__law_term, _law_joined := f__law_joined, _law_real := f__law_real, _law_of := f__law_of, _law_numbers := f__law_numbers, _law_spots := f__law_spots, _law_depth := f__law_depth, _law_is_shaped := f__law_is_shaped, _law_there := f__law_there, _law_told := f__law_told, _law_wrong := f__law_wrong, _law_ones_right := f__law_ones_right, _law_signs_right := f__law_signs_right, _law_right := f__law_right, law := f_law, m_Term_init := m_Term_init, m_Term_depth := m_Term_depth, p_Term_depth := p_Term_depth, m_Term_at := m_Term_at, m_Term_places := m_Term_places, m_Term_turned := m_Term_turned, m_Term_put := m_Term_put, m_Term_and := m_Term_and, m_Term_or := m_Term_or, m_Term_str := m_Term_str, m_Term_repr := m_Term_repr, m_Term_eq := m_Term_eq, m_Place_init := m_Place_init, w_Place_init := w_Place_init, o_Place_init := o_Place_init, m_Place_name := m_Place_name, p_Place_name := p_Place_name, m_End_init := m_End_init, w_End_init := w_End_init, o_End_init := o_End_init, m_End_end := m_End_end, p_End_end := p_End_end, m_Lesser_init := m_Lesser_init, w_Lesser_init := w_Lesser_init, o_Lesser_init := o_Lesser_init, m_Lesser_parts := m_Lesser_parts, p_Lesser_parts := p_Lesser_parts, m_Greater_init := m_Greater_init, w_Greater_init := w_Greater_init, o_Greater_init := o_Greater_init, m_Greater_parts := m_Greater_parts, p_Greater_parts := p_Greater_parts, t_BOTTOM := t_BOTTOM, t_TOP := t_TOP, t_LEAST_PARTS := t_LEAST_PARTS, ENDS := g_ENDS, PLACES := g_PLACES }
  have T : Txt K mg a :=
    { d__wall := gfn_of X G h_n__wall h_l__wall h_c__wall h_k__wall
      d_is_integer := gfn_of X G h_n_is_integer h_l_is_integer h_c_is_integer h_k_is_integer
      d_is_end := gfn_of X G h_n_is_end h_l_is_end h_c_is_end h_k_is_end
      d_is_value := gfn_of X G h_n_is_value h_l_is_value h_c_is_value h_k_is_value
      d_is_not_less := gfn_of X G h_n_is_not_less h_l_is_not_less h_c_is_not_less h_k_is_not_less
      d_least_of := gfn_of X G h_n_least_of h_l_least_of h_c_least_of h_k_least_of
      d_greatest_of := gfn_of X G h_n_greatest_of h_l_greatest_of h_c_greatest_of h_k_greatest_of
      d_is_place := gfn_of X G h_n_is_place h_l_is_place h_c_is_place h_k_is_place
      d_want_term := gfn_of X G h_n_want_term h_l_want_term h_c_want_term h_k_want_term
      d_want_terms := gfn_of X G h_n_want_terms h_l_want_terms h_c_want_terms h_k_want_terms
      d_depth_above := gfn_of X G h_n_depth_above h_l_depth_above h_c_depth_above h_k_depth_above
      d_want_values := gfn_of X G h_n_want_values h_l_want_values h_c_want_values h_k_want_values
      d_value_at := gfn_of X G h_n_value_at h_l_value_at h_c_value_at h_k_value_at
      d_places_in := gfn_of X G h_n_places_in h_l_places_in h_c_places_in h_k_places_in
      d_term_text := gfn_of X G h_n_term_text h_l_term_text h_c_term_text h_k_term_text
      d_term_repr := gfn_of X G h_n_term_repr h_l_term_repr h_c_term_repr h_k_term_repr
      d__law_pot := gfn_of X G h_n__law_pot h_l__law_pot h_c__law_pot h_k__law_pot
      d__law_draw := gfn_of X G h_n__law_draw h_l__law_draw h_c__law_draw h_k__law_draw
      d__law_pick := gfn_of X G h_n__law_pick h_l__law_pick h_c__law_pick h_k__law_pick
      d__law_number := gfn_of X G h_n__law_number h_l__law_number h_c__law_number h_k__law_number
      d__law_shown := gfn_of X G h_n__law_shown h_l__law_shown h_c__law_shown h_k__law_shown
      d__law_thing := gfn_of X G h_n__law_thing h_l__law_thing h_c__law_thing h_k__law_thing
      d__law_things := gfn_of X G h_n__law_things h_l__law_things h_c__law_things h_k__law_things
      d__law_places := gfn_of X G h_n__law_places h_l__law_places h_c__law_places h_k__law_places
      d__law_term := gfn_of X G h_n__law_term h_l__law_term h_c__law_term h_k__law_term
      d__law_joined := gfn_of X G h_n__law_joined h_l__law_joined h_c__law_joined h_k__law_joined
      d__law_real := gfn_of X G h_n__law_real h_l__law_real h_c__law_real h_k__law_real
      d__law_of := gfn_of X G h_n__law_of h_l__law_of h_c__law_of h_k__law_of
      d__law_numbers := gfn_of X G h_n__law_numbers h_l__law_numbers h_c__law_numbers h_k__law_numbers
      d__law_spots := gfn_of X G h_n__law_spots h_l__law_spots h_c__law_spots h_k__law_spots
      d__law_depth := gfn_of X G h_n__law_depth h_l__law_depth h_c__law_depth h_k__law_depth
      d__law_is_shaped := gfn_of X G h_n__law_is_shaped h_l__law_is_shaped h_c__law_is_shaped h_k__law_is_shaped
      d__law_there := gfn_of X G h_n__law_there h_l__law_there h_c__law_there h_k__law_there
      d__law_told := gfn_of X G h_n__law_told h_l__law_told h_c__law_told h_k__law_told
      d__law_wrong := gfn_of X G h_n__law_wrong h_l__law_wrong h_c__law_wrong h_k__law_wrong
      d__law_ones_right := gfn_of X G h_n__law_ones_right h_l__law_ones_right h_c__law_ones_right h_k__law_ones_right
      d__law_signs_right := gfn_of X G h_n__law_signs_right h_l__law_signs_right h_c__law_signs_right h_k__law_signs_right
      d__law_right := gfn_of X G h_n__law_right h_l__law_right h_c__law_right h_k__law_right
      d_law := gfn_of X G h_n_law h_l_law h_c_law h_k_law
      z_abs := PySem.W.mg_none_of X G h_z_abs
      z_all := PySem.W.mg_none_of X G h_z_all
      z_any := PySem.W.mg_none_of X G h_z_any
      z_bool := PySem.W.mg_none_of X G h_z_bool
      z_dict := PySem.W.mg_none_of X G h_z_dict
      z_divmod := PySem.W.mg_none_of X G h_z_divmod
      z_int := PySem.W.mg_none_of X G h_z_int
      z_isinstance := PySem.W.mg_none_of X G h_z_isinstance
      z_len := PySem.W.mg_none_of X G h_z_len
      z_list := PySem.W.mg_none_of X G h_z_list
      z_max := PySem.W.mg_none_of X G h_z_max
      z_min := PySem.W.mg_none_of X G h_z_min
      z_property := PySem.W.mg_none_of X G h_z_property
      z_range := PySem.W.mg_none_of X G h_z_range
      z_repr := PySem.W.mg_none_of X G h_z_repr
      z_set := PySem.W.mg_none_of X G h_z_set
      z_sorted := PySem.W.mg_none_of X G h_z_sorted
      z_str := PySem.W.mg_none_of X G h_z_str
      z_super := PySem.W.mg_none_of X G h_z_super
      z_tuple := PySem.W.mg_none_of X G h_z_tuple
      z_zip := PySem.W.mg_none_of X G h_z_zip
      v_BOTTOM := PySem.W.mg_of X G h_v_BOTTOM
      v_TOP := PySem.W.mg_of X G h_v_TOP
      v_LEAST_PARTS := PySem.W.mg_of X G h_v_LEAST_PARTS
      v_ENDS := PySem.W.mg_of X G h_v_ENDS
      l_ENDS := ⟨_, [.str "bottom" t_ENDS_0, .str "top" t_ENDS_1], _, _, h_l_ENDS, .cons ⟨_, rfl⟩ (.cons ⟨_, rfl⟩ (.nil))⟩
      v_PLACES := PySem.W.mg_of X G h_v_PLACES
      l_PLACES := ⟨_, [.str "r0" t_PLACES_0, .str "r1" t_PLACES_1, .str "r2" t_PLACES_2, .str "r3" t_PLACES_3, .str "r4" t_PLACES_4, .str "r5" t_PLACES_5, .str "x0" t_PLACES_6, .str "x1" t_PLACES_7], _, _, h_l_PLACES, .cons ⟨_, rfl⟩ (.cons ⟨_, rfl⟩ (.cons ⟨_, rfl⟩ (.cons ⟨_, rfl⟩ (.cons ⟨_, rfl⟩ (.cons ⟨_, rfl⟩ (.cons ⟨_, rfl⟩ (.cons ⟨_, rfl⟩ (.nil))))))))⟩
      e_HeldError := gex_of X G e_n_HeldError e_l_HeldError e_r_HeldError e_sa_HeldError e_e1_HeldError e_e2_HeldError e_e3_HeldError e_i_HeldError e_v_HeldError e_ga_HeldError e_gg_HeldError e_hd_HeldError e_ha_HeldError e_hn e_ht e_hm_HeldError
      e_InvalidPlace := gex_of X G e_n_InvalidPlace e_l_InvalidPlace e_r_InvalidPlace e_sa_InvalidPlace e_e1_InvalidPlace e_e2_InvalidPlace e_e3_InvalidPlace e_i_InvalidPlace e_v_InvalidPlace e_ga_InvalidPlace e_gg_InvalidPlace e_hd_InvalidPlace e_ha_InvalidPlace e_hn e_ht e_hm_InvalidPlace
      e_InvalidEnd := gex_of X G e_n_InvalidEnd e_l_InvalidEnd e_r_InvalidEnd e_sa_InvalidEnd e_e1_InvalidEnd e_e2_InvalidEnd e_e3_InvalidEnd e_i_InvalidEnd e_v_InvalidEnd e_ga_InvalidEnd e_gg_InvalidEnd e_hd_InvalidEnd e_ha_InvalidEnd e_hn e_ht e_hm_InvalidEnd
      e_InvalidTerm := gex_of X G e_n_InvalidTerm e_l_InvalidTerm e_r_InvalidTerm e_sa_InvalidTerm e_e1_InvalidTerm e_e2_InvalidTerm e_e3_InvalidTerm e_i_InvalidTerm e_v_InvalidTerm e_ga_InvalidTerm e_gg_InvalidTerm e_hd_InvalidTerm e_ha_InvalidTerm e_hn e_ht e_hm_InvalidTerm
      e_InvalidValues := gex_of X G e_n_InvalidValues e_l_InvalidValues e_r_InvalidValues e_sa_InvalidValues e_e1_InvalidValues e_e2_InvalidValues e_e3_InvalidValues e_i_InvalidValues e_v_InvalidValues e_ga_InvalidValues e_gg_InvalidValues e_hd_InvalidValues e_ha_InvalidValues e_hn e_ht e_hm_InvalidValues
      ti := h_ti
      di := ⟨_, ⟨_, _, _, _, _, _, _, _, _, _, rfl, h_il, h_ic, .inr ⟨by simp, TD, _, [.none], _, rfl, h_iD, rfl, .cons rfl .nil⟩, .inl rfl⟩, h_ik⟩
      hn := e_hn
      htk := e_ht
      any := h_any
      g_Term := ⟨PySem.W.mg_of X G h_n_Term, ⟨c_pg_Term, c_hd_Term, c_po_Term, c_sa_Term⟩, c_ha_Term, c_hm_Term, c_ne_Term, cls_some c_sf_Term, c_ty_Term⟩
      g_Place := ⟨PySem.W.mg_of X G h_n_Place, ⟨c_pg_Place, c_hd_Place, c_po_Place, c_sa_Place⟩, c_ha_Place, c_hm_Place, c_ne_Place, cls_some c_sf_Place, c_ty_Place⟩
      g_End := ⟨PySem.W.mg_of X G h_n_End, ⟨c_pg_End, c_hd_End, c_po_End, c_sa_End⟩, c_ha_End, c_hm_End, c_ne_End, cls_some c_sf_End, c_ty_End⟩
      g_Lesser := ⟨PySem.W.mg_of X G h_n_Lesser, ⟨c_pg_Lesser, c_hd_Lesser, c_po_Lesser, c_sa_Lesser⟩, c_ha_Lesser, c_hm_Lesser, c_ne_Lesser, cls_some c_sf_Lesser, c_ty_Lesser⟩
      g_Greater := ⟨PySem.W.mg_of X G h_n_Greater, ⟨c_pg_Greater, c_hd_Greater, c_po_Greater, c_sa_Greater⟩, c_ha_Greater, c_hm_Greater, c_ne_Greater, cls_some c_sf_Greater, c_ty_Greater⟩
      m_Term_init := ⟨⟨_, fun_mk h_l_Term_init h_c_Term_init h_k_Term_init⟩, h_fn_Term_init⟩
      m_Term_depth := ⟨⟨_, fun_mk h_l_Term_depth h_c_Term_depth h_k_Term_depth⟩, h_fn_Term_depth⟩
      m_Term_at := ⟨⟨_, fun_mk h_l_Term_at h_c_Term_at h_k_Term_at⟩, h_fn_Term_at⟩
      m_Term_places := ⟨⟨_, fun_mk h_l_Term_places h_c_Term_places h_k_Term_places⟩, h_fn_Term_places⟩
      m_Term_turned := ⟨⟨_, fun_mk h_l_Term_turned h_c_Term_turned h_k_Term_turned⟩, h_fn_Term_turned⟩
      m_Term_put := ⟨⟨_, fun_mk h_l_Term_put h_c_Term_put h_k_Term_put⟩, h_fn_Term_put⟩
      m_Term_and := ⟨⟨_, fun_mk h_l_Term_and h_c_Term_and h_k_Term_and⟩, h_fn_Term_and⟩
      m_Term_or := ⟨⟨_, fun_mk h_l_Term_or h_c_Term_or h_k_Term_or⟩, h_fn_Term_or⟩
      m_Term_str := ⟨⟨_, fun_mk h_l_Term_str h_c_Term_str h_k_Term_str⟩, h_fn_Term_str⟩
      m_Term_repr := ⟨⟨_, fun_mk h_l_Term_repr h_c_Term_repr h_k_Term_repr⟩, h_fn_Term_repr⟩
      m_Term_eq := ⟨⟨_, fun_mk h_l_Term_eq h_c_Term_eq h_k_Term_eq⟩, h_fn_Term_eq⟩
      m_Place_init := ⟨⟨_, _, _, _, _, _, _, _, h_l_Place_init⟩, h_c_Place_init, ⟨_, _, _, _, _, _, h_o_Place_init, h_x_Place_init⟩, ⟨_, _, _, h_w_Place_init⟩, Option.ne_none_iff_exists'.mp (cls_some c_sf_Place)⟩
      m_Place_name := ⟨⟨_, fun_mk h_l_Place_name h_c_Place_name h_k_Place_name⟩, h_fn_Place_name⟩
      m_End_init := ⟨⟨_, _, _, _, _, _, _, _, h_l_End_init⟩, h_c_End_init, ⟨_, _, _, _, _, _, h_o_End_init, h_x_End_init⟩, ⟨_, _, _, h_w_End_init⟩, Option.ne_none_iff_exists'.mp (cls_some c_sf_End)⟩
      m_End_end := ⟨⟨_, fun_mk h_l_End_end h_c_End_end h_k_End_end⟩, h_fn_End_end⟩
      m_Lesser_init := ⟨⟨_, _, _, _, _, _, _, _, h_l_Lesser_init⟩, h_c_Lesser_init, ⟨_, _, _, _, _, _, h_o_Lesser_init, h_x_Lesser_init⟩, ⟨_, _, _, h_w_Lesser_init⟩, Option.ne_none_iff_exists'.mp (cls_some c_sf_Lesser)⟩
      m_Lesser_parts := ⟨⟨_, fun_mk h_l_Lesser_parts h_c_Lesser_parts h_k_Lesser_parts⟩, h_fn_Lesser_parts⟩
      m_Greater_init := ⟨⟨_, _, _, _, _, _, _, _, h_l_Greater_init⟩, h_c_Greater_init, ⟨_, _, _, _, _, _, h_o_Greater_init, h_x_Greater_init⟩, ⟨_, _, _, h_w_Greater_init⟩, Option.ne_none_iff_exists'.mp (cls_some c_sf_Greater)⟩
      m_Greater_parts := ⟨⟨_, fun_mk h_l_Greater_parts h_c_Greater_parts h_k_Greater_parts⟩, h_fn_Greater_parts⟩
      f_Term_init := f_Term_init
      p_Term_depth := ⟨p_at_Term_depth, p_get_Term_depth, p_tak_Term_depth, _, p_rec_Term_depth⟩
      f_Term_at := f_Term_at
      f_Term_places := f_Term_places
      f_Term_turned := f_Term_turned
      f_Term_put := f_Term_put
      f_Term_and := f_Term_and
      f_Term_or := f_Term_or
      f_Term_str := f_Term_str
      f_Term_repr := f_Term_repr
      f_Term_eq := f_Term_eq
      mk_Term := ⟨mk_Term, f_Term_init, h_fn_Term_init, kp_Term⟩
      first_Term := c_sf_Term
      rand_Term := rand_Term
      ror_Term := ror_Term
      na_Term_own_depth := na_Term_own_depth
      f_Place_init := f_Place_init
      p_Place_name := ⟨p_at_Place_name, p_get_Place_name, p_tak_Place_name, _, p_rec_Place_name⟩
      p_Place_depth := ⟨p_at_Place_depth, p_get_Term_depth, p_tak_Term_depth, _, p_rec_Term_depth⟩
      f_Place_at := f_Place_at
      f_Place_places := f_Place_places
      f_Place_turned := f_Place_turned
      f_Place_put := f_Place_put
      f_Place_and := f_Place_and
      f_Place_or := f_Place_or
      f_Place_str := f_Place_str
      f_Place_repr := f_Place_repr
      f_Place_eq := f_Place_eq
      s_Place := ⟨s_sub_Place, s_sup_Place, s_ty_m_Term_init, h_any, s_fn_m_Term_init⟩
      mk_Place := ⟨mk_Place, f_Place_init, h_fn_Place_init, kp_Place⟩
      first_Place := c_sf_Place
      rand_Place := rand_Place
      ror_Place := ror_Place
      na_Place_own_depth := na_Place_own_depth
      na_Place_own_name := na_Place_own_name
      f_End_init := f_End_init
      p_End_end := ⟨p_at_End_end, p_get_End_end, p_tak_End_end, _, p_rec_End_end⟩
      p_End_depth := ⟨p_at_End_depth, p_get_Term_depth, p_tak_Term_depth, _, p_rec_Term_depth⟩
      f_End_at := f_End_at
      f_End_places := f_End_places
      f_End_turned := f_End_turned
      f_End_put := f_End_put
      f_End_and := f_End_and
      f_End_or := f_End_or
      f_End_str := f_End_str
      f_End_repr := f_End_repr
      f_End_eq := f_End_eq
      s_End := ⟨s_sub_End, s_sup_End, s_ty_m_Term_init, h_any, s_fn_m_Term_init⟩
      mk_End := ⟨mk_End, f_End_init, h_fn_End_init, kp_End⟩
      first_End := c_sf_End
      rand_End := rand_End
      ror_End := ror_End
      na_End_own_depth := na_End_own_depth
      na_End_own_end := na_End_own_end
      f_Lesser_init := f_Lesser_init
      p_Lesser_parts := ⟨p_at_Lesser_parts, p_get_Lesser_parts, p_tak_Lesser_parts, _, p_rec_Lesser_parts⟩
      p_Lesser_depth := ⟨p_at_Lesser_depth, p_get_Term_depth, p_tak_Term_depth, _, p_rec_Term_depth⟩
      f_Lesser_at := f_Lesser_at
      f_Lesser_places := f_Lesser_places
      f_Lesser_turned := f_Lesser_turned
      f_Lesser_put := f_Lesser_put
      f_Lesser_and := f_Lesser_and
      f_Lesser_or := f_Lesser_or
      f_Lesser_str := f_Lesser_str
      f_Lesser_repr := f_Lesser_repr
      f_Lesser_eq := f_Lesser_eq
      s_Lesser := ⟨s_sub_Lesser, s_sup_Lesser, s_ty_m_Term_init, h_any, s_fn_m_Term_init⟩
      mk_Lesser := ⟨mk_Lesser, f_Lesser_init, h_fn_Lesser_init, kp_Lesser⟩
      first_Lesser := c_sf_Lesser
      rand_Lesser := rand_Lesser
      ror_Lesser := ror_Lesser
      na_Lesser_own_depth := na_Lesser_own_depth
      na_Lesser_own_parts := na_Lesser_own_parts
      f_Greater_init := f_Greater_init
      p_Greater_parts := ⟨p_at_Greater_parts, p_get_Greater_parts, p_tak_Greater_parts, _, p_rec_Greater_parts⟩
      p_Greater_depth := ⟨p_at_Greater_depth, p_get_Term_depth, p_tak_Term_depth, _, p_rec_Term_depth⟩
      f_Greater_at := f_Greater_at
      f_Greater_places := f_Greater_places
      f_Greater_turned := f_Greater_turned
      f_Greater_put := f_Greater_put
      f_Greater_and := f_Greater_and
      f_Greater_or := f_Greater_or
      f_Greater_str := f_Greater_str
      f_Greater_repr := f_Greater_repr
      f_Greater_eq := f_Greater_eq
      s_Greater := ⟨s_sub_Greater, s_sup_Greater, s_ty_m_Term_init, h_any, s_fn_m_Term_init⟩
      mk_Greater := ⟨mk_Greater, f_Greater_init, h_fn_Greater_init, kp_Greater⟩
      first_Greater := c_sf_Greater
      rand_Greater := rand_Greater
      ror_Greater := ror_Greater
      na_Greater_own_depth := na_Greater_own_depth
      na_Greater_own_parts := na_Greater_own_parts
      x_Term_Term := x_Term_Term
      x_Term_Place := x_Term_Place
      x_Term_End := x_Term_End
      x_Term_Lesser := x_Term_Lesser
      x_Term_Greater := x_Term_Greater
      x_Place_Term := x_Place_Term
      x_Place_Place := x_Place_Place
      x_Place_End := x_Place_End
      x_Place_Lesser := x_Place_Lesser
      x_Place_Greater := x_Place_Greater
      x_End_Term := x_End_Term
      x_End_Place := x_End_Place
      x_End_End := x_End_End
      x_End_Lesser := x_End_Lesser
      x_End_Greater := x_End_Greater
      x_Lesser_Term := x_Lesser_Term
      x_Lesser_Place := x_Lesser_Place
      x_Lesser_End := x_Lesser_End
      x_Lesser_Lesser := x_Lesser_Lesser
      x_Lesser_Greater := x_Lesser_Greater
      x_Greater_Term := x_Greater_Term
      x_Greater_Place := x_Greater_Place
      x_Greater_End := x_Greater_End
      x_Greater_Lesser := x_Greater_Lesser
      x_Greater_Greater := x_Greater_Greater
      x_HeldError_HeldError := x_HeldError_HeldError
      x_HeldError_InvalidPlace := x_HeldError_InvalidPlace
      x_HeldError_InvalidEnd := x_HeldError_InvalidEnd
      x_HeldError_InvalidTerm := x_HeldError_InvalidTerm
      x_HeldError_InvalidValues := x_HeldError_InvalidValues
      x_InvalidPlace_HeldError := x_InvalidPlace_HeldError
      x_InvalidPlace_InvalidPlace := x_InvalidPlace_InvalidPlace
      x_InvalidPlace_InvalidEnd := x_InvalidPlace_InvalidEnd
      x_InvalidPlace_InvalidTerm := x_InvalidPlace_InvalidTerm
      x_InvalidPlace_InvalidValues := x_InvalidPlace_InvalidValues
      x_InvalidEnd_HeldError := x_InvalidEnd_HeldError
      x_InvalidEnd_InvalidPlace := x_InvalidEnd_InvalidPlace
      x_InvalidEnd_InvalidEnd := x_InvalidEnd_InvalidEnd
      x_InvalidEnd_InvalidTerm := x_InvalidEnd_InvalidTerm
      x_InvalidEnd_InvalidValues := x_InvalidEnd_InvalidValues
      x_InvalidTerm_HeldError := x_InvalidTerm_HeldError
      x_InvalidTerm_InvalidPlace := x_InvalidTerm_InvalidPlace
      x_InvalidTerm_InvalidEnd := x_InvalidTerm_InvalidEnd
      x_InvalidTerm_InvalidTerm := x_InvalidTerm_InvalidTerm
      x_InvalidTerm_InvalidValues := x_InvalidTerm_InvalidValues
      x_InvalidValues_HeldError := x_InvalidValues_HeldError
      x_InvalidValues_InvalidPlace := x_InvalidValues_InvalidPlace
      x_InvalidValues_InvalidEnd := x_InvalidValues_InvalidEnd
      x_InvalidValues_InvalidTerm := x_InvalidValues_InvalidTerm
      x_InvalidValues_InvalidValues := x_InvalidValues_InvalidValues
      y_HeldError := y_HeldError
      y_InvalidPlace := y_InvalidPlace
      y_InvalidEnd := y_InvalidEnd
      y_InvalidTerm := y_InvalidTerm
      y_InvalidValues := y_InvalidValues }
  have fl : Files l.prog K a :=
    { place := fun vs cl cd sl tx tf h1 h2 => by
        rw [show K.lookup a.o_Place_init = _ from h_o_Place_init] at h1
        cases h1
        rw [h_x_Place_init] at h2
        cases h2
        exact h_fi_Place_init
      endd := fun vs cl cd sl tx tf h1 h2 => by
        rw [show K.lookup a.o_End_init = _ from h_o_End_init] at h1
        cases h1
        rw [h_x_End_init] at h2
        cases h2
        exact h_fi_End_init
      lesser := fun vs cl cd sl tx tf h1 h2 => by
        rw [show K.lookup a.o_Lesser_init = _ from h_o_Lesser_init] at h1
        cases h1
        rw [h_x_Lesser_init] at h2
        cases h2
        exact h_fi_Lesser_init
      greater := fun vs cl cd sl tx tf h1 h2 => by
        rw [show K.lookup a.o_Greater_init = _ from h_o_Greater_init] at h1
        cases h1
        rw [h_x_Greater_init] at h2
        cases h2
        exact h_fi_Greater_init
      top := h_top
      nk_place := nk_Place
      nk_end := nk_End
      nk_lesser := nk_Lesser
      nk_greater := nk_Greater }
  have hfa : fa = f_law := by
    have e := hmg.symm.trans T.d_law.m
    cases e
    rfl
  subst hfa
  refine ⟨[], sp_law K, fun p hp => absurd hp List.not_mem_nil, fun p hp => absurd hp List.not_mem_nil, fun p hp => absurd hp List.not_mem_nil, ?_, ?_⟩
  · intro H b ns hn _ _ hS
    exact ⟨b, ns, rfl, hS, hn, fun _ => rfl⟩
  · intro base _ _ _
    exact ok_law T fl
end K12
open PySem PySem.W PyProof.Rows
set_option maxHeartbeats 0
open_top hd13 for PySem.Challenge.rw_rankchances_k12_terms_and_their_values
theorem PySem.Challenge.cw_rankchances_k12_terms_and_their_values_holds : PySem.Challenge.rw_rankchances_k12_terms_and_their_values.Holds := by
  refine hd13 ?_
  k_fill
  refine LG.walk_law (l := PySem.Challenge.rw_rankchances_k12_terms_and_their_values) (n := 63) (k := 16) rfl (by decide) rfl ⟨rfl, by decide, by decide⟩ (fun w h Y => PySem.W.kIn_of Y) ?F
  case F =>
    intro w mg fa h Y KX G hmg
    refine' K12.all_facts _ KX G hmg ?h_n__wall ?h_l__wall ?h_c__wall ?h_k__wall ?h_n_is_integer ?h_l_is_integer ?h_c_is_integer ?h_k_is_integer ?h_n_is_end ?h_l_is_end ?h_c_is_end ?h_k_is_end ?h_n_is_value ?h_l_is_value ?h_c_is_value ?h_k_is_value ?h_n_is_not_less ?h_l_is_not_less ?h_c_is_not_less ?h_k_is_not_less ?h_n_least_of ?h_l_least_of ?h_c_least_of ?h_k_least_of ?h_n_greatest_of ?h_l_greatest_of ?h_c_greatest_of ?h_k_greatest_of ?h_n_is_place ?h_l_is_place ?h_c_is_place ?h_k_is_place ?h_n_want_term ?h_l_want_term ?h_c_want_term ?h_k_want_term ?h_n_want_terms ?h_l_want_terms ?h_c_want_terms ?h_k_want_terms ?h_n_depth_above ?h_l_depth_above ?h_c_depth_above ?h_k_depth_above ?h_n_want_values ?h_l_want_values ?h_c_want_values ?h_k_want_values ?h_n_value_at ?h_l_value_at ?h_c_value_at ?h_k_value_at ?h_n_places_in ?h_l_places_in ?h_c_places_in ?h_k_places_in ?h_n_term_text ?h_l_term_text ?h_c_term_text ?h_k_term_text ?h_n_term_repr ?h_l_term_repr ?h_c_term_repr ?h_k_term_repr ?h_n__law_pot ?h_l__law_pot ?h_c__law_pot ?h_k__law_pot ?h_n__law_draw ?h_l__law_draw ?h_c__law_draw ?h_k__law_draw ?h_n__law_pick ?h_l__law_pick ?h_c__law_pick ?h_k__law_pick ?h_n__law_number ?h_l__law_number ?h_c__law_number ?h_k__law_number ?h_n__law_shown ?h_l__law_shown ?h_c__law_shown ?h_k__law_shown ?h_n__law_thing ?h_l__law_thing ?h_c__law_thing ?h_k__law_thing ?h_n__law_things ?h_l__law_things ?h_c__law_things ?h_k__law_things ?h_n__law_places ?h_l__law_places ?h_c__law_places ?h_k__law_places ?h_n__law_term ?h_l__law_term ?h_c__law_term ?h_k__law_term ?h_n__law_joined ?h_l__law_joined ?h_c__law_joined ?h_k__law_joined ?h_n__law_real ?h_l__law_real ?h_c__law_real ?h_k__law_real ?h_n__law_of ?h_l__law_of ?h_c__law_of ?h_k__law_of ?h_n__law_numbers ?h_l__law_numbers ?h_c__law_numbers ?h_k__law_numbers ?h_n__law_spots ?h_l__law_spots ?h_c__law_spots ?h_k__law_spots ?h_n__law_depth ?h_l__law_depth ?h_c__law_depth ?h_k__law_depth ?h_n__law_is_shaped ?h_l__law_is_shaped ?h_c__law_is_shaped ?h_k__law_is_shaped ?h_n__law_there ?h_l__law_there ?h_c__law_there ?h_k__law_there ?h_n__law_told ?h_l__law_told ?h_c__law_told ?h_k__law_told ?h_n__law_wrong ?h_l__law_wrong ?h_c__law_wrong ?h_k__law_wrong ?h_n__law_ones_right ?h_l__law_ones_right ?h_c__law_ones_right ?h_k__law_ones_right ?h_n__law_signs_right ?h_l__law_signs_right ?h_c__law_signs_right ?h_k__law_signs_right ?h_n__law_right ?h_l__law_right ?h_c__law_right ?h_k__law_right ?h_n_law ?h_l_law ?h_c_law ?h_k_law ?h_z_abs ?h_z_all ?h_z_any ?h_z_bool ?h_z_dict ?h_z_divmod ?h_z_int ?h_z_isinstance ?h_z_len ?h_z_list ?h_z_max ?h_z_min ?h_z_property ?h_z_range ?h_z_repr ?h_z_set ?h_z_sorted ?h_z_str ?h_z_super ?h_z_tuple ?h_z_zip ?h_v_BOTTOM ?h_v_TOP ?h_v_LEAST_PARTS ?h_v_ENDS ?h_l_ENDS ?h_v_PLACES ?h_l_PLACES ?e_hn ?e_ht ?e_n_HeldError ?e_l_HeldError ?e_r_HeldError ?e_sa_HeldError ?e_e1_HeldError ?e_e2_HeldError ?e_e3_HeldError ?e_i_HeldError ?e_v_HeldError ?e_ga_HeldError ?e_gg_HeldError ?e_hd_HeldError ?e_ha_HeldError ?e_hm_HeldError ?e_n_InvalidPlace ?e_l_InvalidPlace ?e_r_InvalidPlace ?e_sa_InvalidPlace ?e_e1_InvalidPlace ?e_e2_InvalidPlace ?e_e3_InvalidPlace ?e_i_InvalidPlace ?e_v_InvalidPlace ?e_ga_InvalidPlace ?e_gg_InvalidPlace ?e_hd_InvalidPlace ?e_ha_InvalidPlace ?e_hm_InvalidPlace ?e_n_InvalidEnd ?e_l_InvalidEnd ?e_r_InvalidEnd ?e_sa_InvalidEnd ?e_e1_InvalidEnd ?e_e2_InvalidEnd ?e_e3_InvalidEnd ?e_i_InvalidEnd ?e_v_InvalidEnd ?e_ga_InvalidEnd ?e_gg_InvalidEnd ?e_hd_InvalidEnd ?e_ha_InvalidEnd ?e_hm_InvalidEnd ?e_n_InvalidTerm ?e_l_InvalidTerm ?e_r_InvalidTerm ?e_sa_InvalidTerm ?e_e1_InvalidTerm ?e_e2_InvalidTerm ?e_e3_InvalidTerm ?e_i_InvalidTerm ?e_v_InvalidTerm ?e_ga_InvalidTerm ?e_gg_InvalidTerm ?e_hd_InvalidTerm ?e_ha_InvalidTerm ?e_hm_InvalidTerm ?e_n_InvalidValues ?e_l_InvalidValues ?e_r_InvalidValues ?e_sa_InvalidValues ?e_e1_InvalidValues ?e_e2_InvalidValues ?e_e3_InvalidValues ?e_i_InvalidValues ?e_v_InvalidValues ?e_ga_InvalidValues ?e_gg_InvalidValues ?e_hd_InvalidValues ?e_ha_InvalidValues ?e_hm_InvalidValues ?h_ti ?h_il ?h_ic ?h_ik ?h_iD ?h_any ?h_n_Term ?c_pg_Term ?c_hd_Term ?c_po_Term ?c_sa_Term ?c_ha_Term ?c_hm_Term ?c_ne_Term ?c_ty_Term ?c_sf_Term ?h_n_Place ?c_pg_Place ?c_hd_Place ?c_po_Place ?c_sa_Place ?c_ha_Place ?c_hm_Place ?c_ne_Place ?c_ty_Place ?c_sf_Place ?h_n_End ?c_pg_End ?c_hd_End ?c_po_End ?c_sa_End ?c_ha_End ?c_hm_End ?c_ne_End ?c_ty_End ?c_sf_End ?h_n_Lesser ?c_pg_Lesser ?c_hd_Lesser ?c_po_Lesser ?c_sa_Lesser ?c_ha_Lesser ?c_hm_Lesser ?c_ne_Lesser ?c_ty_Lesser ?c_sf_Lesser ?h_n_Greater ?c_pg_Greater ?c_hd_Greater ?c_po_Greater ?c_sa_Greater ?c_ha_Greater ?c_hm_Greater ?c_ne_Greater ?c_ty_Greater ?c_sf_Greater ?f_Term_init ?p_at_Term_depth ?f_Term_at ?f_Term_places ?f_Term_turned ?f_Term_put ?f_Term_and ?f_Term_or ?f_Term_str ?f_Term_repr ?f_Term_eq ?f_Place_init ?p_at_Place_name ?p_at_Place_depth ?f_Place_at ?f_Place_places ?f_Place_turned ?f_Place_put ?f_Place_and ?f_Place_or ?f_Place_str ?f_Place_repr ?f_Place_eq ?f_End_init ?p_at_End_end ?p_at_End_depth ?f_End_at ?f_End_places ?f_End_turned ?f_End_put ?f_End_and ?f_End_or ?f_End_str ?f_End_repr ?f_End_eq ?f_Lesser_init ?p_at_Lesser_parts ?p_at_Lesser_depth ?f_Lesser_at ?f_Lesser_places ?f_Lesser_turned ?f_Lesser_put ?f_Lesser_and ?f_Lesser_or ?f_Lesser_str ?f_Lesser_repr ?f_Lesser_eq ?f_Greater_init ?p_at_Greater_parts ?p_at_Greater_depth ?f_Greater_at ?f_Greater_places ?f_Greater_turned ?f_Greater_put ?f_Greater_and ?f_Greater_or ?f_Greater_str ?f_Greater_repr ?f_Greater_eq ?p_get_Term_depth ?p_tak_Term_depth ?p_rec_Term_depth ?p_get_Place_name ?p_tak_Place_name ?p_rec_Place_name ?p_get_End_end ?p_tak_End_end ?p_rec_End_end ?p_get_Lesser_parts ?p_tak_Lesser_parts ?p_rec_Lesser_parts ?p_get_Greater_parts ?p_tak_Greater_parts ?p_rec_Greater_parts ?h_l_Term_init ?h_c_Term_init ?h_k_Term_init ?h_fn_Term_init ?h_l_Term_depth ?h_c_Term_depth ?h_k_Term_depth ?h_fn_Term_depth ?h_l_Term_at ?h_c_Term_at ?h_k_Term_at ?h_fn_Term_at ?h_l_Term_places ?h_c_Term_places ?h_k_Term_places ?h_fn_Term_places ?h_l_Term_turned ?h_c_Term_turned ?h_k_Term_turned ?h_fn_Term_turned ?h_l_Term_put ?h_c_Term_put ?h_k_Term_put ?h_fn_Term_put ?h_l_Term_and ?h_c_Term_and ?h_k_Term_and ?h_fn_Term_and ?h_l_Term_or ?h_c_Term_or ?h_k_Term_or ?h_fn_Term_or ?h_l_Term_str ?h_c_Term_str ?h_k_Term_str ?h_fn_Term_str ?h_l_Term_repr ?h_c_Term_repr ?h_k_Term_repr ?h_fn_Term_repr ?h_l_Term_eq ?h_c_Term_eq ?h_k_Term_eq ?h_fn_Term_eq ?h_l_Place_init ?h_c_Place_init ?h_o_Place_init ?h_x_Place_init ?h_w_Place_init ?h_fi_Place_init ?h_fn_Place_init ?h_l_Place_name ?h_c_Place_name ?h_k_Place_name ?h_fn_Place_name ?h_l_End_init ?h_c_End_init ?h_o_End_init ?h_x_End_init ?h_w_End_init ?h_fi_End_init ?h_fn_End_init ?h_l_End_end ?h_c_End_end ?h_k_End_end ?h_fn_End_end ?h_l_Lesser_init ?h_c_Lesser_init ?h_o_Lesser_init ?h_x_Lesser_init ?h_w_Lesser_init ?h_fi_Lesser_init ?h_fn_Lesser_init ?h_l_Lesser_parts ?h_c_Lesser_parts ?h_k_Lesser_parts ?h_fn_Lesser_parts ?h_l_Greater_init ?h_c_Greater_init ?h_o_Greater_init ?h_x_Greater_init ?h_w_Greater_init ?h_fi_Greater_init ?h_fn_Greater_init ?h_l_Greater_parts ?h_c_Greater_parts ?h_k_Greater_parts ?h_fn_Greater_parts ?mk_Term ?kp_Term ?rand_Term ?ror_Term ?na_Term_own_depth ?s_sub_Place ?s_sup_Place ?s_ty_m_Term_init ?s_fn_m_Term_init ?mk_Place ?kp_Place ?rand_Place ?ror_Place ?na_Place_own_depth ?na_Place_own_name ?s_sub_End ?s_sup_End ?mk_End ?kp_End ?rand_End ?ror_End ?na_End_own_depth ?na_End_own_end ?s_sub_Lesser ?s_sup_Lesser ?mk_Lesser ?kp_Lesser ?rand_Lesser ?ror_Lesser ?na_Lesser_own_depth ?na_Lesser_own_parts ?s_sub_Greater ?s_sup_Greater ?mk_Greater ?kp_Greater ?rand_Greater ?ror_Greater ?na_Greater_own_depth ?na_Greater_own_parts ?x_Term_Term ?x_Term_Place ?x_Term_End ?x_Term_Lesser ?x_Term_Greater ?x_Place_Term ?x_Place_Place ?x_Place_End ?x_Place_Lesser ?x_Place_Greater ?x_End_Term ?x_End_Place ?x_End_End ?x_End_Lesser ?x_End_Greater ?x_Lesser_Term ?x_Lesser_Place ?x_Lesser_End ?x_Lesser_Lesser ?x_Lesser_Greater ?x_Greater_Term ?x_Greater_Place ?x_Greater_End ?x_Greater_Lesser ?x_Greater_Greater ?x_HeldError_HeldError ?x_HeldError_InvalidPlace ?x_HeldError_InvalidEnd ?x_HeldError_InvalidTerm ?x_HeldError_InvalidValues ?x_InvalidPlace_HeldError ?x_InvalidPlace_InvalidPlace ?x_InvalidPlace_InvalidEnd ?x_InvalidPlace_InvalidTerm ?x_InvalidPlace_InvalidValues ?x_InvalidEnd_HeldError ?x_InvalidEnd_InvalidPlace ?x_InvalidEnd_InvalidEnd ?x_InvalidEnd_InvalidTerm ?x_InvalidEnd_InvalidValues ?x_InvalidTerm_HeldError ?x_InvalidTerm_InvalidPlace ?x_InvalidTerm_InvalidEnd ?x_InvalidTerm_InvalidTerm ?x_InvalidTerm_InvalidValues ?x_InvalidValues_HeldError ?x_InvalidValues_InvalidPlace ?x_InvalidValues_InvalidEnd ?x_InvalidValues_InvalidTerm ?x_InvalidValues_InvalidValues ?y_HeldError ?y_InvalidPlace ?y_InvalidEnd ?y_InvalidTerm ?y_InvalidValues ?nk_Place ?nk_End ?nk_Lesser ?nk_Greater ?h_top
    (case h_n__wall => k_is)
    (case h_l__wall => k_is)
    (case h_c__wall => k_is)
    (case h_k__wall => k_is)
    (case h_n_is_integer => k_is)
    (case h_l_is_integer => k_is)
    (case h_c_is_integer => k_is)
    (case h_k_is_integer => k_is)
    (case h_n_is_end => k_is)
    (case h_l_is_end => k_is)
    (case h_c_is_end => k_is)
    (case h_k_is_end => k_is)
    (case h_n_is_value => k_is)
    (case h_l_is_value => k_is)
    (case h_c_is_value => k_is)
    (case h_k_is_value => k_is)
    (case h_n_is_not_less => k_is)
    (case h_l_is_not_less => k_is)
    (case h_c_is_not_less => k_is)
    (case h_k_is_not_less => k_is)
    (case h_n_least_of => k_is)
    (case h_l_least_of => k_is)
    (case h_c_least_of => k_is)
    (case h_k_least_of => k_is)
    (case h_n_greatest_of => k_is)
    (case h_l_greatest_of => k_is)
    (case h_c_greatest_of => k_is)
    (case h_k_greatest_of => k_is)
    (case h_n_is_place => k_is)
    (case h_l_is_place => k_is)
    (case h_c_is_place => k_is)
    (case h_k_is_place => k_is)
    (case h_n_want_term => k_is)
    (case h_l_want_term => k_is)
    (case h_c_want_term => k_is)
    (case h_k_want_term => k_is)
    (case h_n_want_terms => k_is)
    (case h_l_want_terms => k_is)
    (case h_c_want_terms => k_is)
    (case h_k_want_terms => k_is)
    (case h_n_depth_above => k_is)
    (case h_l_depth_above => k_is)
    (case h_c_depth_above => k_is)
    (case h_k_depth_above => k_is)
    (case h_n_want_values => k_is)
    (case h_l_want_values => k_is)
    (case h_c_want_values => k_is)
    (case h_k_want_values => k_is)
    (case h_n_value_at => k_is)
    (case h_l_value_at => k_is)
    (case h_c_value_at => k_is)
    (case h_k_value_at => k_is)
    (case h_n_places_in => k_is)
    (case h_l_places_in => k_is)
    (case h_c_places_in => k_is)
    (case h_k_places_in => k_is)
    (case h_n_term_text => k_is)
    (case h_l_term_text => k_is)
    (case h_c_term_text => k_is)
    (case h_k_term_text => k_is)
    (case h_n_term_repr => k_is)
    (case h_l_term_repr => k_is)
    (case h_c_term_repr => k_is)
    (case h_k_term_repr => k_is)
    (case h_n__law_pot => k_is)
    (case h_l__law_pot => k_is)
    (case h_c__law_pot => k_is)
    (case h_k__law_pot => k_is)
    (case h_n__law_draw => k_is)
    (case h_l__law_draw => k_is)
    (case h_c__law_draw => k_is)
    (case h_k__law_draw => k_is)
    (case h_n__law_pick => k_is)
    (case h_l__law_pick => k_is)
    (case h_c__law_pick => k_is)
    (case h_k__law_pick => k_is)
    (case h_n__law_number => k_is)
    (case h_l__law_number => k_is)
    (case h_c__law_number => k_is)
    (case h_k__law_number => k_is)
    (case h_n__law_shown => k_is)
    (case h_l__law_shown => k_is)
    (case h_c__law_shown => k_is)
    (case h_k__law_shown => k_is)
    (case h_n__law_thing => k_is)
    (case h_l__law_thing => k_is)
    (case h_c__law_thing => k_is)
    (case h_k__law_thing => k_is)
    (case h_n__law_things => k_is)
    (case h_l__law_things => k_is)
    (case h_c__law_things => k_is)
    (case h_k__law_things => k_is)
    (case h_n__law_places => k_is)
    (case h_l__law_places => k_is)
    (case h_c__law_places => k_is)
    (case h_k__law_places => k_is)
    (case h_n__law_term => k_is)
    (case h_l__law_term => k_is)
    (case h_c__law_term => k_is)
    (case h_k__law_term => k_is)
    (case h_n__law_joined => k_is)
    (case h_l__law_joined => k_is)
    (case h_c__law_joined => k_is)
    (case h_k__law_joined => k_is)
    (case h_n__law_real => k_is)
    (case h_l__law_real => k_is)
    (case h_c__law_real => k_is)
    (case h_k__law_real => k_is)
    (case h_n__law_of => k_is)
    (case h_l__law_of => k_is)
    (case h_c__law_of => k_is)
    (case h_k__law_of => k_is)
    (case h_n__law_numbers => k_is)
    (case h_l__law_numbers => k_is)
    (case h_c__law_numbers => k_is)
    (case h_k__law_numbers => k_is)
    (case h_n__law_spots => k_is)
    (case h_l__law_spots => k_is)
    (case h_c__law_spots => k_is)
    (case h_k__law_spots => k_is)
    (case h_n__law_depth => k_is)
    (case h_l__law_depth => k_is)
    (case h_c__law_depth => k_is)
    (case h_k__law_depth => k_is)
    (case h_n__law_is_shaped => k_is)
    (case h_l__law_is_shaped => k_is)
    (case h_c__law_is_shaped => k_is)
    (case h_k__law_is_shaped => k_is)
    (case h_n__law_there => k_is)
    (case h_l__law_there => k_is)
    (case h_c__law_there => k_is)
    (case h_k__law_there => k_is)
    (case h_n__law_told => k_is)
    (case h_l__law_told => k_is)
    (case h_c__law_told => k_is)
    (case h_k__law_told => k_is)
    (case h_n__law_wrong => k_is)
    (case h_l__law_wrong => k_is)
    (case h_c__law_wrong => k_is)
    (case h_k__law_wrong => k_is)
    (case h_n__law_ones_right => k_is)
    (case h_l__law_ones_right => k_is)
    (case h_c__law_ones_right => k_is)
    (case h_k__law_ones_right => k_is)
    (case h_n__law_signs_right => k_is)
    (case h_l__law_signs_right => k_is)
    (case h_c__law_signs_right => k_is)
    (case h_k__law_signs_right => k_is)
    (case h_n__law_right => k_is)
    (case h_l__law_right => k_is)
    (case h_c__law_right => k_is)
    (case h_k__law_right => k_is)
    (case h_n_law => k_is)
    (case h_l_law => k_is)
    (case h_c_law => k_is)
    (case h_k_law => k_is)
    (case h_z_abs => k_is)
    (case h_z_all => k_is)
    (case h_z_any => k_is)
    (case h_z_bool => k_is)
    (case h_z_dict => k_is)
    (case h_z_divmod => k_is)
    (case h_z_int => k_is)
    (case h_z_isinstance => k_is)
    (case h_z_len => k_is)
    (case h_z_list => k_is)
    (case h_z_max => k_is)
    (case h_z_min => k_is)
    (case h_z_property => k_is)
    (case h_z_range => k_is)
    (case h_z_repr => k_is)
    (case h_z_set => k_is)
    (case h_z_sorted => k_is)
    (case h_z_str => k_is)
    (case h_z_super => k_is)
    (case h_z_tuple => k_is)
    (case h_z_zip => k_is)
    (case h_v_BOTTOM => k_is)
    (case h_v_TOP => k_is)
    (case h_v_LEAST_PARTS => k_is)
    (case h_v_ENDS => k_is)
    (case h_l_ENDS => k_is)
    (case h_v_PLACES => k_is)
    (case h_l_PLACES => k_is)
    (case e_hn => k_is)
    (case e_ht => k_is)
    (case e_n_HeldError => k_is)
    (case e_l_HeldError => k_is)
    (case e_r_HeldError => first | kernel_rfl | exact rfl)
    (case e_sa_HeldError => k_is)
    (case e_e1_HeldError => k_is)
    (case e_e2_HeldError => k_is)
    (case e_e3_HeldError => k_is)
    (case e_i_HeldError => k_is)
    (case e_v_HeldError => k_is)
    (case e_ga_HeldError => k_is)
    (case e_gg_HeldError => k_is)
    (case e_hd_HeldError => k_is)
    (case e_ha_HeldError => k_is)
    (case e_hm_HeldError => k_is)
    (case e_n_InvalidPlace => k_is)
    (case e_l_InvalidPlace => k_is)
    (case e_r_InvalidPlace => first | kernel_rfl | exact rfl)
    (case e_sa_InvalidPlace => k_is)
    (case e_e1_InvalidPlace => k_is)
    (case e_e2_InvalidPlace => k_is)
    (case e_e3_InvalidPlace => k_is)
    (case e_i_InvalidPlace => k_is)
    (case e_v_InvalidPlace => k_is)
    (case e_ga_InvalidPlace => k_is)
    (case e_gg_InvalidPlace => k_is)
    (case e_hd_InvalidPlace => k_is)
    (case e_ha_InvalidPlace => k_is)
    (case e_hm_InvalidPlace => k_is)
    (case e_n_InvalidEnd => k_is)
    (case e_l_InvalidEnd => k_is)
    (case e_r_InvalidEnd => first | kernel_rfl | exact rfl)
    (case e_sa_InvalidEnd => k_is)
    (case e_e1_InvalidEnd => k_is)
    (case e_e2_InvalidEnd => k_is)
    (case e_e3_InvalidEnd => k_is)
    (case e_i_InvalidEnd => k_is)
    (case e_v_InvalidEnd => k_is)
    (case e_ga_InvalidEnd => k_is)
    (case e_gg_InvalidEnd => k_is)
    (case e_hd_InvalidEnd => k_is)
    (case e_ha_InvalidEnd => k_is)
    (case e_hm_InvalidEnd => k_is)
    (case e_n_InvalidTerm => k_is)
    (case e_l_InvalidTerm => k_is)
    (case e_r_InvalidTerm => first | kernel_rfl | exact rfl)
    (case e_sa_InvalidTerm => k_is)
    (case e_e1_InvalidTerm => k_is)
    (case e_e2_InvalidTerm => k_is)
    (case e_e3_InvalidTerm => k_is)
    (case e_i_InvalidTerm => k_is)
    (case e_v_InvalidTerm => k_is)
    (case e_ga_InvalidTerm => k_is)
    (case e_gg_InvalidTerm => k_is)
    (case e_hd_InvalidTerm => k_is)
    (case e_ha_InvalidTerm => k_is)
    (case e_hm_InvalidTerm => k_is)
    (case e_n_InvalidValues => k_is)
    (case e_l_InvalidValues => k_is)
    (case e_r_InvalidValues => first | kernel_rfl | exact rfl)
    (case e_sa_InvalidValues => k_is)
    (case e_e1_InvalidValues => k_is)
    (case e_e2_InvalidValues => k_is)
    (case e_e3_InvalidValues => k_is)
    (case e_i_InvalidValues => k_is)
    (case e_v_InvalidValues => k_is)
    (case e_ga_InvalidValues => k_is)
    (case e_gg_InvalidValues => k_is)
    (case e_hd_InvalidValues => k_is)
    (case e_ha_InvalidValues => k_is)
    (case e_hm_InvalidValues => k_is)
    (case h_ti => k_is)
    (case h_il => k_is)
    (case h_ic => k_is)
    (case h_ik => k_is)
    (case h_iD => k_is)
    (case h_any => k_is)
    (case h_n_Term => k_is)
    (case c_pg_Term => k_is)
    (case c_hd_Term => k_is)
    (case c_po_Term => k_is)
    (case c_sa_Term => k_is)
    (case c_ha_Term => k_is)
    (case c_hm_Term => k_is)
    (case c_ne_Term => k_is)
    (case c_ty_Term => k_is)
    (case c_sf_Term => k_is)
    (case h_n_Place => k_is)
    (case c_pg_Place => k_is)
    (case c_hd_Place => k_is)
    (case c_po_Place => k_is)
    (case c_sa_Place => k_is)
    (case c_ha_Place => k_is)
    (case c_hm_Place => k_is)
    (case c_ne_Place => k_is)
    (case c_ty_Place => k_is)
    (case c_sf_Place => k_is)
    (case h_n_End => k_is)
    (case c_pg_End => k_is)
    (case c_hd_End => k_is)
    (case c_po_End => k_is)
    (case c_sa_End => k_is)
    (case c_ha_End => k_is)
    (case c_hm_End => k_is)
    (case c_ne_End => k_is)
    (case c_ty_End => k_is)
    (case c_sf_End => k_is)
    (case h_n_Lesser => k_is)
    (case c_pg_Lesser => k_is)
    (case c_hd_Lesser => k_is)
    (case c_po_Lesser => k_is)
    (case c_sa_Lesser => k_is)
    (case c_ha_Lesser => k_is)
    (case c_hm_Lesser => k_is)
    (case c_ne_Lesser => k_is)
    (case c_ty_Lesser => k_is)
    (case c_sf_Lesser => k_is)
    (case h_n_Greater => k_is)
    (case c_pg_Greater => k_is)
    (case c_hd_Greater => k_is)
    (case c_po_Greater => k_is)
    (case c_sa_Greater => k_is)
    (case c_ha_Greater => k_is)
    (case c_hm_Greater => k_is)
    (case c_ne_Greater => k_is)
    (case c_ty_Greater => k_is)
    (case c_sf_Greater => k_is)
    (case f_Term_init => k_is)
    (case p_at_Term_depth => k_is)
    (case f_Term_at => k_is)
    (case f_Term_places => k_is)
    (case f_Term_turned => k_is)
    (case f_Term_put => k_is)
    (case f_Term_and => k_is)
    (case f_Term_or => k_is)
    (case f_Term_str => k_is)
    (case f_Term_repr => k_is)
    (case f_Term_eq => k_is)
    (case f_Place_init => k_is)
    (case p_at_Place_name => k_is)
    (case p_at_Place_depth => k_is)
    (case f_Place_at => k_is)
    (case f_Place_places => k_is)
    (case f_Place_turned => k_is)
    (case f_Place_put => k_is)
    (case f_Place_and => k_is)
    (case f_Place_or => k_is)
    (case f_Place_str => k_is)
    (case f_Place_repr => k_is)
    (case f_Place_eq => k_is)
    (case f_End_init => k_is)
    (case p_at_End_end => k_is)
    (case p_at_End_depth => k_is)
    (case f_End_at => k_is)
    (case f_End_places => k_is)
    (case f_End_turned => k_is)
    (case f_End_put => k_is)
    (case f_End_and => k_is)
    (case f_End_or => k_is)
    (case f_End_str => k_is)
    (case f_End_repr => k_is)
    (case f_End_eq => k_is)
    (case f_Lesser_init => k_is)
    (case p_at_Lesser_parts => k_is)
    (case p_at_Lesser_depth => k_is)
    (case f_Lesser_at => k_is)
    (case f_Lesser_places => k_is)
    (case f_Lesser_turned => k_is)
    (case f_Lesser_put => k_is)
    (case f_Lesser_and => k_is)
    (case f_Lesser_or => k_is)
    (case f_Lesser_str => k_is)
    (case f_Lesser_repr => k_is)
    (case f_Lesser_eq => k_is)
    (case f_Greater_init => k_is)
    (case p_at_Greater_parts => k_is)
    (case p_at_Greater_depth => k_is)
    (case f_Greater_at => k_is)
    (case f_Greater_places => k_is)
    (case f_Greater_turned => k_is)
    (case f_Greater_put => k_is)
    (case f_Greater_and => k_is)
    (case f_Greater_or => k_is)
    (case f_Greater_str => k_is)
    (case f_Greater_repr => k_is)
    (case f_Greater_eq => k_is)
    (case p_get_Term_depth => k_is)
    (case p_tak_Term_depth => k_is)
    (case p_rec_Term_depth => first | exact rfl | k_is)
    (case p_get_Place_name => k_is)
    (case p_tak_Place_name => k_is)
    (case p_rec_Place_name => first | exact rfl | k_is)
    (case p_get_End_end => k_is)
    (case p_tak_End_end => k_is)
    (case p_rec_End_end => first | exact rfl | k_is)
    (case p_get_Lesser_parts => k_is)
    (case p_tak_Lesser_parts => k_is)
    (case p_rec_Lesser_parts => first | exact rfl | k_is)
    (case p_get_Greater_parts => k_is)
    (case p_tak_Greater_parts => k_is)
    (case p_rec_Greater_parts => first | exact rfl | k_is)
    (case h_l_Term_init => k_is)
    (case h_c_Term_init => k_is)
    (case h_k_Term_init => k_is)
    (case h_fn_Term_init => k_is)
    (case h_l_Term_depth => k_is)
    (case h_c_Term_depth => k_is)
    (case h_k_Term_depth => k_is)
    (case h_fn_Term_depth => k_is)
    (case h_l_Term_at => k_is)
    (case h_c_Term_at => k_is)
    (case h_k_Term_at => k_is)
    (case h_fn_Term_at => k_is)
    (case h_l_Term_places => k_is)
    (case h_c_Term_places => k_is)
    (case h_k_Term_places => k_is)
    (case h_fn_Term_places => k_is)
    (case h_l_Term_turned => k_is)
    (case h_c_Term_turned => k_is)
    (case h_k_Term_turned => k_is)
    (case h_fn_Term_turned => k_is)
    (case h_l_Term_put => k_is)
    (case h_c_Term_put => k_is)
    (case h_k_Term_put => k_is)
    (case h_fn_Term_put => k_is)
    (case h_l_Term_and => k_is)
    (case h_c_Term_and => k_is)
    (case h_k_Term_and => k_is)
    (case h_fn_Term_and => k_is)
    (case h_l_Term_or => k_is)
    (case h_c_Term_or => k_is)
    (case h_k_Term_or => k_is)
    (case h_fn_Term_or => k_is)
    (case h_l_Term_str => k_is)
    (case h_c_Term_str => k_is)
    (case h_k_Term_str => k_is)
    (case h_fn_Term_str => k_is)
    (case h_l_Term_repr => k_is)
    (case h_c_Term_repr => k_is)
    (case h_k_Term_repr => k_is)
    (case h_fn_Term_repr => k_is)
    (case h_l_Term_eq => k_is)
    (case h_c_Term_eq => k_is)
    (case h_k_Term_eq => k_is)
    (case h_fn_Term_eq => k_is)
    (case h_l_Place_init => k_is)
    (case h_c_Place_init => k_is)
    (case h_o_Place_init => k_is)
    (case h_x_Place_init => first | exact rfl | k_is)
    (case h_w_Place_init => k_is)
    (case h_fi_Place_init => first | kernel_rfl | exact rfl)
    (case h_fn_Place_init => k_is)
    (case h_l_Place_name => k_is)
    (case h_c_Place_name => k_is)
    (case h_k_Place_name => k_is)
    (case h_fn_Place_name => k_is)
    (case h_l_End_init => k_is)
    (case h_c_End_init => k_is)
    (case h_o_End_init => k_is)
    (case h_x_End_init => first | exact rfl | k_is)
    (case h_w_End_init => k_is)
    (case h_fi_End_init => first | kernel_rfl | exact rfl)
    (case h_fn_End_init => k_is)
    (case h_l_End_end => k_is)
    (case h_c_End_end => k_is)
    (case h_k_End_end => k_is)
    (case h_fn_End_end => k_is)
    (case h_l_Lesser_init => k_is)
    (case h_c_Lesser_init => k_is)
    (case h_o_Lesser_init => k_is)
    (case h_x_Lesser_init => first | exact rfl | k_is)
    (case h_w_Lesser_init => k_is)
    (case h_fi_Lesser_init => first | kernel_rfl | exact rfl)
    (case h_fn_Lesser_init => k_is)
    (case h_l_Lesser_parts => k_is)
    (case h_c_Lesser_parts => k_is)
    (case h_k_Lesser_parts => k_is)
    (case h_fn_Lesser_parts => k_is)
    (case h_l_Greater_init => k_is)
    (case h_c_Greater_init => k_is)
    (case h_o_Greater_init => k_is)
    (case h_x_Greater_init => first | exact rfl | k_is)
    (case h_w_Greater_init => k_is)
    (case h_fi_Greater_init => first | kernel_rfl | exact rfl)
    (case h_fn_Greater_init => k_is)
    (case h_l_Greater_parts => k_is)
    (case h_c_Greater_parts => k_is)
    (case h_k_Greater_parts => k_is)
    (case h_fn_Greater_parts => k_is)
    (case mk_Term => k_is)
    (case kp_Term => k_is)
    (case rand_Term => k_is)
    (case ror_Term => k_is)
    (case na_Term_own_depth => k_is)
    (case s_sub_Place => k_is)
    (case s_sup_Place => ks_is)
    (case s_ty_m_Term_init => k_is)
    (case s_fn_m_Term_init => k_is)
    (case mk_Place => k_is)
    (case kp_Place => k_is)
    (case rand_Place => k_is)
    (case ror_Place => k_is)
    (case na_Place_own_depth => k_is)
    (case na_Place_own_name => k_is)
    (case s_sub_End => k_is)
    (case s_sup_End => ks_is)
    (case mk_End => k_is)
    (case kp_End => k_is)
    (case rand_End => k_is)
    (case ror_End => k_is)
    (case na_End_own_depth => k_is)
    (case na_End_own_end => k_is)
    (case s_sub_Lesser => k_is)
    (case s_sup_Lesser => ks_is)
    (case mk_Lesser => k_is)
    (case kp_Lesser => k_is)
    (case rand_Lesser => k_is)
    (case ror_Lesser => k_is)
    (case na_Lesser_own_depth => k_is)
    (case na_Lesser_own_parts => k_is)
    (case s_sub_Greater => k_is)
    (case s_sup_Greater => ks_is)
    (case mk_Greater => k_is)
    (case kp_Greater => k_is)
    (case rand_Greater => k_is)
    (case ror_Greater => k_is)
    (case na_Greater_own_depth => k_is)
    (case na_Greater_own_parts => k_is)
    (case x_Term_Term => k_is)
    (case x_Term_Place => k_is)
    (case x_Term_End => k_is)
    (case x_Term_Lesser => k_is)
    (case x_Term_Greater => k_is)
    (case x_Place_Term => k_is)
    (case x_Place_Place => k_is)
    (case x_Place_End => k_is)
    (case x_Place_Lesser => k_is)
    (case x_Place_Greater => k_is)
    (case x_End_Term => k_is)
    (case x_End_Place => k_is)
    (case x_End_End => k_is)
    (case x_End_Lesser => k_is)
    (case x_End_Greater => k_is)
    (case x_Lesser_Term => k_is)
    (case x_Lesser_Place => k_is)
    (case x_Lesser_End => k_is)
    (case x_Lesser_Lesser => k_is)
    (case x_Lesser_Greater => k_is)
    (case x_Greater_Term => k_is)
    (case x_Greater_Place => k_is)
    (case x_Greater_End => k_is)
    (case x_Greater_Lesser => k_is)
    (case x_Greater_Greater => k_is)
    (case x_HeldError_HeldError => k_is)
    (case x_HeldError_InvalidPlace => k_is)
    (case x_HeldError_InvalidEnd => k_is)
    (case x_HeldError_InvalidTerm => k_is)
    (case x_HeldError_InvalidValues => k_is)
    (case x_InvalidPlace_HeldError => k_is)
    (case x_InvalidPlace_InvalidPlace => k_is)
    (case x_InvalidPlace_InvalidEnd => k_is)
    (case x_InvalidPlace_InvalidTerm => k_is)
    (case x_InvalidPlace_InvalidValues => k_is)
    (case x_InvalidEnd_HeldError => k_is)
    (case x_InvalidEnd_InvalidPlace => k_is)
    (case x_InvalidEnd_InvalidEnd => k_is)
    (case x_InvalidEnd_InvalidTerm => k_is)
    (case x_InvalidEnd_InvalidValues => k_is)
    (case x_InvalidTerm_HeldError => k_is)
    (case x_InvalidTerm_InvalidPlace => k_is)
    (case x_InvalidTerm_InvalidEnd => k_is)
    (case x_InvalidTerm_InvalidTerm => k_is)
    (case x_InvalidTerm_InvalidValues => k_is)
    (case x_InvalidValues_HeldError => k_is)
    (case x_InvalidValues_InvalidPlace => k_is)
    (case x_InvalidValues_InvalidEnd => k_is)
    (case x_InvalidValues_InvalidTerm => k_is)
    (case x_InvalidValues_InvalidValues => k_is)
    (case y_HeldError => k_is)
    (case y_InvalidPlace => k_is)
    (case y_InvalidEnd => k_is)
    (case y_InvalidTerm => k_is)
    (case y_InvalidValues => k_is)
    (case nk_Place => first | kernel_rfl | exact rfl)
    (case nk_End => first | kernel_rfl | exact rfl)
    (case nk_Lesser => first | kernel_rfl | exact rfl)
    (case nk_Greater => first | kernel_rfl | exact rfl)
    (case h_top => first | kernel_rfl | exact rfl)
