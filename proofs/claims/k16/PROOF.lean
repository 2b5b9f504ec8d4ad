import PyProof.Rows.All
import Wide.All
import OpenK.AllK
import Wide.FinOn
import HandS.ForMost
import HandS.ForExc
import HandS.Lambda
import HandS.EndTab
import HandS.RaiseMore
import HandS.IsInst
import PyProof.ReprRoads
import PyProof.CallFns
import HandS.ExcIs
import HandS.ExcField
import HandS.ExcInit
import HandS.TryMany
import KE.KExcIs
import HandS.Strs
import HandS.SetFor
import HandS.SetBool
import HandS.Star
import HandS.Nested
import HandS.ClsMeth
import KE.KSuper
import KE.KCallOwn
import OpenK.KOps
import HandS.SlotsOwn
import PyProof.InstEq
import KE.KOpsOwn
import OpenK.KMeth
import HandS.Style
import HandS.WideBits
import HandS.More
import HandS.Small
import HandS.Defaults
import HandS.Property
import HandS.Evl
import HandS.FStr
import HandS.Text
import PyProof.StrLaws
import KE.DataEq
import PyProof.EqKinds
import PyProof.MeetsIn
import PyProof.FactsAll.dict
import HandS.Comp
import HandS.Set
import HandS.SetKeys
import PyProof.Rows.SortStr
import HandS.Iter
import HandS.Dict
import HandS.NoneIn
import HandS.TupSets
import KE.KDictKeyed
import PyProof.ReprNest
import PyProof.ReprDict
import PyProof.ReprText
import KE.SortData
import KE.SortKeyHeap
import HandS.SortKw
import HandS.TupAny
import HandS.DictComp
import HandS.Conv
import HandS.Finally
import KE.KNestM
import KE.RegKSuper
import HandS.Words
import PySem.Challenge.RW_rankchances_k16_same_and_never_above
set_option Elab.async false
set_option linter.all false
set_option maxRecDepth 100000
set_option maxHeartbeats 4000000
/-! General rules: a def's promise where no repr runs (Fn), repr of data. -/
namespace LG
open PySem PySem.Spec PyProof.Rows L2

/-! ### Fn: a promise by positional values, told where no guard is on the stack -/
def Fn (P : Program) (w : World) (K : PySem.W.Frag) (mg : Str → Option Value) (base : Heap) (k : Nat) (f : Addr) (sp : Sp) : Prop :=
  ∀ (A : Around) (outer : List Env) (s : Shared) (H : Hp) (us : List Value) (vs : List V) (Q : VK) (E : XK),
    A.guards = some [] → Room k A → Env0 P w K mg base A outer s H → Vals vs us → sp vs H Q E →
    codeAny (model P w) A (.call (.ref f) ⟨us, []⟩) (CR (L2.CX P w) outer P w H s Q E) s
section
variable {P : Program} {w : World} {K : PySem.W.Frag} {mg : Str → Option Value} {base : Heap} {j k : Nat} {f : Addr} {sp sp' : Sp}
theorem Fn.mono (F : Fn P w K mg base j f sp) (h : j ≤ k) : Fn P w K mg base k f sp :=
  fun A o s H us vs Q E g r => F A o s H us vs Q E g (r.mono h)
theorem Fn.imp (F : Fn P w K mg base k f sp) (h : ∀ vs H Q E, sp' vs H Q E → sp vs H Q E) : Fn P w K mg base k f sp' :=
  fun A o s H us vs Q E g r e0 rv z => F A o s H us vs Q E g r e0 rv (h _ _ _ _ z)
/-- a def of the text (no defaults used), by its body -/
theorem Fn.of {x qual : Str} {st : Stmt} {fd : FuncData} {N ps : List Str} (F : Fun K x qual st f fd) (S : FnScope N ps (defScope st)) (hb : Binds K fd ps [])
    (len : ∀ vs H Q E, sp vs H Q E → vs.length = ps.length)
    (body : ∀ (cdv : Value) (A : Around) (outer : List Env) (s : Shared) (H : Hp) (vs : List V) (Q : VK) (E : XK), A.guards = some [] →
      Room k (A.deeper (envOfC qual (defScope st) s.heap.objs.size f cdv)) → PySem.W.codeIn K cdv qual = true → sp vs H Q E →
      ∃ t, PSs (cxOf (L2.CX P w) P w K mg base N qual (defScope st) f cdv A outer s H E) (defBody st) t ∧ t { nx := fun _ H' => Q .non H', rt := Q } (start N vs) H) :
    Fn P w K mg base (k + 1) f sp := by
  intro A outer s H us vs Q E hg hr e0 rv hsp
  obtain ⟨oc, od, kV, doc, pm, an, cdv, ct, osl, rfl, lk, hcd⟩ := F.ex
  have hl := len _ _ _ _ hsp
  have KX : K.In s.heap := e0.mod.kin.keeps fun b o e => (e0.bs b o e).1
  have hul : us.length = ps.length := by rw [← rv.length]; exact hl
  have hb' := hb s us KX (by rw [List.append_nil]; exact hul)
  rw [List.append_nil] at hb'
  exact LamX.run_ofS lk hcd S hr e0 hb' rv hl fun hr' => body cdv A outer s H vs Q E hg hr' hcd hsp
end
section
variable {X : Cx} {k : Nat} {f : Addr} {sp : Sp} {E : XK} {x : Str} {p pos : Pos} {e : Expr} {es : List Expr} {t : TA}
theorem run_Fn {pins : List (Addr × Obj)} {σ : L2.St} {H : Hp} {s : Shared} {Q : VK} {us : List Value} {vs : List V} (F : Fn X.prog X.w X.K X.mg X.base k f sp) (g0 : X.A.guards = some []) (hr : Room k X.A)
    (hx : Passes (L2.CX X.prog X.w) X E) (I : Inv X pins σ H s) (r : Vals vs us) (h : sp vs H Q E) : wpAny (model X.prog X.w) X.A (call (.ref f) us) (EP X pins σ Q) X.xe s := by
  refine wpAny_call (codeAny_mono (F X.A X.stack s H us vs Q E g0 hr I.env0 r h) fun res s' hq => ?_)
  match res, hq with
  | .error e, hq => exact hx pins σ H s e s' I hq
  | .ok (.ret u), hq => exact I.after hq
  | .ok .next, hq => exact hq.elim
  | .ok .brk, hq => exact hq.elim
  | .ok .cont, hq => exact hq.elim
/-- f(e, ..) -/
def tFn (sp : Sp) (E : XK) (t : TA) : TE := fun σ H Q => t σ H fun vs H1 => sp vs H1 Q E
theorem pe_fn (F : Fn X.prog X.w X.K X.mg X.base k f sp) (g0 : X.A.guards = some []) (hr : Room k X.A) (hk : PySem.W.keepIn X.K (.ref f) = true) (hm : X.mg x = some (.ref f)) (hg : Gl X x) (hx : Passes (L2.CX X.prog X.w) X E)
    (ha : PA X (e :: es) t) (hdb : (x == ("__debug__" : Str)) = false := by decide) (he : starEach (e :: es) X.env = (false, eval e X.env) :: starEach es X.env := by rfl)
    (hpl : (backTo pos (starEach es X.env)).any (·.1) = false := by rfl) : PE X (.Call (.Name x p) (e :: es) [] pos) (tFn sp E t) := by
  constructor
  intro pins s σ H Q I h
  refine wpAny_Call_Name_kw (ld_glob I hg hm (PySem.W.callWith_K (h₀ := X.base) I.ok.mod.kin hk (thn (ha.run pos pins s σ H _ I h) ?_) he hpl) hdb)
  rintro us s1 ⟨vs, H1, I1, r, q⟩
  exact ⟨I1.kIn, run_Fn F g0 hr hx I1 r q⟩
/-- f() -/
theorem pe_fn0 (F : Fn X.prog X.w X.K X.mg X.base k f sp) (g0 : X.A.guards = some []) (hr : Room k X.A) (hk : PySem.W.keepIn X.K (.ref f) = true) (hm : X.mg x = some (.ref f)) (hg : Gl X x) (hx : Passes (L2.CX X.prog X.w) X E)
    (hdb : (x == ("__debug__" : Str)) = false := by decide) : PE X (.Call (.Name x p) [] [] pos) (fun _ H Q => sp [] H Q E) := by
  constructor
  intro pins s σ H Q I h
  exact wpAny_Call_Name_kw (ld_glob I hg hm (PySem.W.callWith_K0 I.kIn hk (run_Fn (us := []) F g0 hr hx I .nil h)) hdb)
end

/-! ### data of any depth, dicts among it: what repr tells of it -/
def plainD : PyData → Bool
  | .none | .bool _ | .int _ | .str _ => true
  | _ => false
mutual
inductive Dq (K : PySem.W.Frag) (H : Hp) : V → PyData → Prop
  | non : Dq K H .non .none
  | bl (b : Bool) : Dq K H (.bl b) (.bool b)
  | int (i : Int) : Dq K H (.int i) (.int i)
  | str (x : Str) : Dq K H (.str x) (.str x)
  | lst {a : Addr} {xs : List V} {ds : List PyData} : SqL K H a xs → DqAll K H xs ds → a ≠ sysModules → Dq K H (.ref a) (.list ds)
  | tup {a : Addr} {xs : List V} {ds : List PyData} : SqT K H a xs → DqAll K H xs ds → Dq K H (.ref a) (.tuple ds)
  | dic {a : Addr} {kvs : List (Key × V)} {ds : List (PyData × PyData)} : H a = some (.dK kvs) → DqKv K H kvs ds → Dq K H (.ref a) (.dict ds)
inductive DqAll (K : PySem.W.Frag) (H : Hp) : List V → List PyData → Prop
  | nil : DqAll K H [] []
  | cons {v : V} {vs : List V} {d : PyData} {ds : List PyData} : Dq K H v d → DqAll K H vs ds → DqAll K H (v :: vs) (d :: ds)
inductive DqKv (K : PySem.W.Frag) (H : Hp) : List (Key × V) → List (PyData × PyData) → Prop
  | nil : DqKv K H [] []
  | cons {k : Key} {v : V} {vs : List (Key × V)} {dk d : PyData} {ds : List (PyData × PyData)} : Dq K H (kV k) dk → plainD dk = true → Dq K H v d → plainD d = true → DqKv K H vs ds → DqKv K H ((k, v) :: vs) ((dk, d) :: ds)
end
section
variable {X : Cx} {pins : List (Addr × Obj)} {σ : L2.St} {H : Hp} {s : Shared}
theorem plain_reads {h : Heap} {v : V} {u : Value} {d : PyData} {K : PySem.W.Frag} (q : Dq K H v d) (p : plainD d = true) (r : RelV v u) : Reads h u d [] := by
  cases q with
  | non => cases r; exact .none
  | bl b => cases r; exact .bool b
  | int i => obtain ⟨t, rfl⟩ := r; exact .int i t
  | str x => obtain ⟨t, rfl⟩ := r; exact .str x t
  | lst _ _ _ => cases p
  | tup _ _ => cases p
  | dic _ _ => cases p
theorem key_rel {k : Key} {u : Value} (h : keyIs k u = true) : RelV (kV k) u := by
  rcases keyIs_shape h with ⟨i, t, rfl, rfl⟩ | ⟨x, t, rfl, rfl⟩
  · exact ⟨t, rfl⟩
  · exact ⟨t, rfl⟩
theorem kv_reads {h : Heap} {K : PySem.W.Frag} {P : Program} {w : World} : ∀ {kvs : List (Key × V)} {ds : List (PyData × PyData)} {vs : List (Key × Value)} {es : List DictEntry}, DqKv K H kvs ds → KV kvs vs → Pairs (mixKind P w) es vs →
    ReadsAll h (es.map (·.key)) (ds.map (·.1)) [] ∧ ReadsAll h (es.map (·.val)) (ds.map (·.2)) []
  | _, _, _, _, .nil, .nil, .nil => ⟨.nil, .nil⟩
  | _, _, _, _, .cons dk pk dv pv r, .cons hk hr, .cons ik ev hp => by
    obtain ⟨h1, h2⟩ := kv_reads r hr hp
    have e1 := hk.1
    have e2 := hk.2
    dsimp only at e1 e2
    refine ⟨ReadsAll.cons (as := []) (plain_reads dk pk (key_rel ?_)) h1, ReadsAll.cons (as := []) (plain_reads dv pv ?_) h2⟩
    · rw [e1]
      exact ik
    · exact (congrArg (L2.RelV _) ev).mpr e2
mutual
theorem Dq.reads (I : Inv X pins σ H s) : ∀ (d : PyData) (v : V) (u : Value), Dq X.K H v d → RelV v u → ∃ as, Reads s.heap u d as ∧ sysModules ∉ as
  | .none, _, _, h, r => ⟨[], plain_reads h rfl r, List.not_mem_nil⟩
  | .bool _, _, _, h, r => ⟨[], plain_reads h rfl r, List.not_mem_nil⟩
  | .int _, _, _, h, r => ⟨[], plain_reads h rfl r, List.not_mem_nil⟩
  | .str _, _, _, h, r => ⟨[], plain_reads h rfl r, List.not_mem_nil⟩
  | .list ds, _, _, h, r => by
    cases h with
    | lst hs ha hn =>
      cases r
      obtain ⟨its, rv, ⟨o, n, ho, hc, _, hd⟩, _⟩ := I.list hs
      obtain ⟨as, hr, hz⟩ := Dq.readsAll I ds _ its ha rv
      exact ⟨_, Reads.list ho hc hd hr, fun z => (List.mem_cons.mp z).elim (fun e => hn e.symm) hz⟩
  | .tuple ds, _, _, h, r => by
    cases h with
    | tup hs ha =>
      cases r
      obtain ⟨its, rv, ⟨o, ho, hc, n, hd⟩, _⟩ := I.tuple hs
      obtain ⟨as, hr, hz⟩ := Dq.readsAll I ds _ its ha rv
      exact ⟨_, Reads.tuple ho hc hd hr, hz⟩
  | .dict ds, _, _, h, r => by
    cases h with
    | @dic a kvs _ hs ha =>
      cases r
      obtain ⟨_, hsys, vs, kv, o, es, ep, ho, hc, hd, _, hp, _⟩ := I.hok a _ hs
      obtain ⟨h1, h2⟩ := kv_reads (h := s.heap) ha kv hp
      refine ⟨_, Reads.dict ho hc.1 hd h1 h2, fun z => ?_⟩
      rw [List.append_nil] at z
      have z2 := List.mem_singleton.mp z
      rw [← z2] at hsys
      simp at hsys
theorem Dq.readsAll (I : Inv X pins σ H s) : ∀ (ds : List PyData) (vs : List V) (us : List Value), DqAll X.K H vs ds → Vals vs us → ∃ as, ReadsAll s.heap us ds as ∧ sysModules ∉ as
  | [], _, _, h, r => by
    cases h
    cases r
    exact ⟨_, ReadsAll.nil, List.not_mem_nil⟩
  | d :: ds, _, _, h, r => by
    cases h with
    | cons h1 h2 =>
      cases r with
      | cons r1 r2 =>
        obtain ⟨as, q1, z1⟩ := Dq.reads I d _ _ h1 r1
        obtain ⟨bs, q2, z2⟩ := Dq.readsAll I ds _ _ h2 r2
        exact ⟨_, ReadsAll.cons q1 q2, fun z => (List.mem_append.mp z).elim z1 z2⟩
end
end
mutual
theorem Dp.noDict {K : PySem.W.Frag} {H : Hp} : ∀ (d : PyData) (v : V), Dp K H v d → d.hasDict = false
  | .none, _, _ => by simp only [PyData.hasDict]
  | .bool _, _, _ => by simp only [PyData.hasDict]
  | .int _, _, _ => by simp only [PyData.hasDict]
  | .str _, _, _ => by simp only [PyData.hasDict]
  | .list ds, _, h => by
    cases h with
    | lst _ ha =>
      simp only [PyData.hasDict]
      exact DpAll.noDict ds _ ha
  | .tuple ds, _, h => by
    cases h with
    | tup _ ha =>
      simp only [PyData.hasDict]
      exact DpAll.noDict ds _ ha
  | .dict _, _, h => by cases h
theorem DpAll.noDict {K : PySem.W.Frag} {H : Hp} : ∀ (ds : List PyData) (vs : List V), DpAll K H vs ds → PyData.hasDictAll ds = false
  | [], _, _ => by simp only [PyData.hasDictAll]
  | d :: ds, _, h => by
    cases h with
    | cons h1 h2 => simp only [PyData.hasDictAll, Dp.noDict d _ h1, DpAll.noDict ds _ h2, Bool.or_self]
end
/-- what repr asks of data: its numbers are no longer than the line, its text fits, it is not deep -/
def Shows (d : PyData) : Prop := d.showable = true ∧ d.depth ≤ 60 ∧ d.shown.length ≤ sizeLine
def rRepr (K : PySem.W.Frag) : List V → Hp → VK → Prop := fun xs H Q => ∃ (x : V) (d : PyData), xs = [x] ∧ (Dq K H x d ∨ Dp K H x d) ∧ Shows d ∧ Q (.str d.shown) H
section
variable {X : Cx}
theorem shown_bool (b : Bool) : (PyData.bool b).shown = (if b then Str.ofString "True" else Str.ofString "False") := by cases b <;> simp only [PyData.shown] <;> rfl
theorem call_repr (hg : X.A.guards = some []) (hu : X.A.units + 64 < cLine) : CallR X (.builtin "repr") (rRepr X.K) := by
  intro pins s σ H xs us Q I r h
  obtain ⟨x, d, rfl, hd, ⟨hs, hdp, hz⟩, q⟩ := h
  obtain ⟨u, rfl, ru⟩ := vals1 r
  have rd : ∃ as, Reads s.heap u d as ∧ (d.hasDict = true → sysModules ∉ as) := by
    rcases hd with hd | hd
    · obtain ⟨as, z1, z2⟩ := Dq.reads I d x u hd ru
      exact ⟨as, z1, fun _ => z2⟩
    · obtain ⟨as, z1⟩ := Dp.reads I d x u hd ru
      exact ⟨as, z1, PyData.noDict_hsm (Dp.noDict d x hd)⟩
  obtain ⟨as, z1, z2⟩ := rd
  have fin : ∀ (h' : Heap) (tk : Nat) (t : Tok), (∀ b o, s.heap.get? b = some o → h'.get? b = some o) → EP X pins σ Q (.str d.shown t) { s with heap := h', toks := tk } :=
    fun h' tk t hk => ⟨.str d.shown, H, I.kept hk, ⟨t, rfl⟩, q⟩
  have tail : ∀ a, u = .ref a → wpAny (model X.prog X.w) X.A (call (.builtin "repr") [u]) (EP X pins σ Q) X.xe s := by
    intro a e
    subst e
    exact repr_of_reads' z1 hs z2 hg (by omega) (fun _ _ e => e) (fun h' t tk hk => fin h' tk t hk) hz
  cases z1 with
  | none => exact PySem.P.repr_of_none (fin s.heap _ _ fun _ _ e => e)
  | bool b =>
    have e := fin s.heap (s.toks + 1) s.toks fun _ _ e => e
    rw [shown_bool] at e
    exact PySem.P.repr_of_bool e
  | int i t =>
    have hi : i.natAbs.log2 < 1920 := by
      unfold PyData.showable at hs
      exact of_decide_eq_true hs
    exact PySem.P.repr_of_int hi (fin s.heap _ _ fun _ _ e => e)
  | str y t => exact PySem.P.repr_of_str (fin s.heap _ _ fun _ _ e => e) hz
  | list _ _ _ _ => exact tail _ rfl
  | tuple _ _ _ _ => exact tail _ rfl
  | dict _ _ _ _ _ => exact tail _ rfl
end
/-! ### lists that are made: they are not the table of modules -/
section
variable {X : Cx} {es : List Expr} {t : TA} {pos : Pos}
theorem big_of {pins : List (Addr × Obj)} {σ : L2.St} {H : Hp} {s : Shared} (I : Inv X pins σ H s) : sysModules < s.heap.objs.size :=
  Nat.lt_of_lt_of_le (Nat.lt_trans (by decide) I.mod.glob.lt) (Nat.le_trans I.ok.bsz I.sz)
def tLstB (t : TA) : TE := fun σ H Q => t σ H fun xs H1 => xs.length ≤ sizeLine ∧ ∀ p, H1 p = none → p ≠ sysModules → Q (.ref p) (upd H1 p (.lst xs))
theorem pe_lstB (h : PA X es t) : PE X (.List es pos) (tLstB t) := by
  constructor
  intro pins s σ H Q I hq
  refine wpAny_List_spliced (thn (h.run pos pins s σ H _ I hq) ?_)
  rintro us s1 ⟨xs, H1, I1, r, z, q⟩
  have hf := I1.hok.fresh (a := s1.heap.objs.size) (Nat.le_refl _)
  have hl : us.length ≤ sizeLine := by
    rw [← r.length]
    exact z
  exact ⟨hl, .ref s1.heap.objs.size, upd H1 s1.heap.objs.size (.lst xs), I1.laid (t' := s1.toks) (fun b u e => Heap.get?_push_of_some _ e) (Nat.le_refl _) ⟨z, us, 0, r, Heap.get?_push_size _ rfl⟩, rfl, q _ hf (Nat.ne_of_gt (big_of I1))⟩
end
end LG
/-! Several clauses "except X as n" of one name n; isinstance of a caught error that has its own dict. -/
namespace LG
open PySem PySem.Spec PyProof.Rows L2

/-- behind a suite the clause's name is gone -/
def offN (i : Nat) (D : Ends) : Ends := { nx := fun σ H => D.nx (σ.set i none) H, rt := D.rt, bk := fun σ H => D.bk (σ.set i none) H, ct := fun σ H => D.ct (σ.set i none) H }
/-- what the clauses wish of an error of the body, one after the other -/
def wManyAs (K : PySem.W.Frag) (i : Nat) (Wout : WX) (D : Ends) : List (Value × (Addr → Value → Option Addr → TS)) → WX
  | [] => Wout
  | p :: r => fun cls d σ H => ∃ b, PySem.W.exmOne K cls p.1 = some b ∧
      (b = true → ∀ a, H a = none → p.2 a cls d (offN i D) (σ.set i (some (.ref a))) H) ∧ (b = false → wManyAs K i Wout D r cls d σ H)
/-- the clauses as they stand -/
inductive HdsAs (X : Cx) (n : Str) : List ExceptHandler → List (Value × (Addr → Value → Option Addr → TS)) → Prop
  | nil : HdsAs X n [] []
  | cons {x : Str} {c : Value} {ts : Addr → Value → Option Addr → TS} {b₀ : Stmt} {suite : List Stmt} {np pos' : Pos} {hds : List ExceptHandler} {l : List (Value × (Addr → Value → Option Addr → TS))}
      (hc : Names X x c) (hsu : ∀ (a : Addr) (oe : Obj) (cls : Value) (d : Option Addr) (pn : List (Addr × Obj)), Zc cls d oe → (∃ vs, oe.data = .fields vs) → PSs (X.suite a ((a, oe) :: pn)) (b₀ :: suite) (ts a cls d))
      (r : HdsAs X n hds l) : HdsAs X n (.ExceptHandler (some (.Name x np)) (some n) (b₀ :: suite) pos' :: hds) ((c, ts) :: l)
section
variable {X : Cx} {n : Str} {i : Nat} {body : List Stmt} {h₀ : ExceptHandler} {hds : List ExceptHandler} {l : List (Value × (Addr → Value → Option Addr → TS))} {pos : Pos} {tb : WX → TS} {Wout : WX}
/-- the clauses, from the first one on, where the error at a is in flight -/
theorem clauses_as (hs : X.stack = X.env :: X.outer) (hf : X.env.frame = some X.env.locals) (hN : X.N.Nodup) (hi : X.N[i]? = some n) (hln : X.env.kindOf n = some .local) (tk : Takes X Wout)
    {pins pinsF : List (Addr × Obj)} {σ : L2.St} {H : Hp} {D : Ends} {sI s : Shared} {a : Addr} {B h3 : Heap} {cls : Value} {d : Option Addr}
    (J : Inv X pins σ H sI) (nb : ∀ b o, sI.heap.get? b = some o → b ∉ frs X.stack → B.get? b = some o) (fl : HandSPX.FlyingZ B (X.env :: X.outer) a (Zc cls d) h3) (up : sI.heap.UpToSlots h3)
    (na : H a = none) (os : s.os = sI.os) (ag : AllBare s.gens) (ep : pinsF = pins) :
    ∀ {hds : List ExceptHandler} {l : List (Value × (Addr → Value → Option Addr → TS))}, HdsAs X n hds l → wManyAs X.K i Wout D l cls d σ H →
      wpAny (model X.prog X.w) X.A (handleBy (.ref a) X.env hds) (SP X pinsF D) X.xe { s with heap := h3 } := by
  subst ep
  have ok := J.ok
  have J3 : Inv X pinsF σ H { s with heap := h3 } := J.landed nb fl.1 up os ag
  obtain ⟨oe3, vs3, he3, hz3, hd3⟩ := fl.there
  have nfr : a ∉ frs (X.env :: X.outer) := by
    intro hm
    obtain ⟨_, o, eo, hno⟩ := fl.2.2.1.mem hm
    rw [he3] at eo
    cases eo
    exact hno _ hd3
  have nL : a ≠ X.env.locals := fun z => nfr (List.mem_filterMap.mpr ⟨X.env, List.mem_cons_self, by rw [hf, z]⟩)
  have nF : a ∉ X.fs := by
    intro hm
    obtain ⟨e, he, q⟩ := List.mem_filterMap.mp hm
    exact nfr (List.mem_filterMap.mpr ⟨e, List.mem_cons_of_mem _ he, q⟩)
  have S3 := J3.suite he3 hd3 na nL nF
  have ty : PySem.W.Looks (model X.prog X.w) h3 (typeOf (.ref a)) cls := fun A Q E s k q => wpAny_typeOf_ref (k _ _ he3) (by rw [hz3.1]; exact q)
  intro hds l hk
  induction hk with
  | nil =>
    intro w
    refine wpAny_handleBy_nil ?_
    obtain ⟨_, _, _, oe, vs, T, oT, ts', he, _, hd, h1, _⟩ := id fl
    have last : wpAny (model X.prog X.w) X.A (setFlight (.ref a) X.env.frame) (fun _ s4 => wpAny (model X.prog X.w) X.A (throw (.ref a) : Sem Flow) (SP X pinsF D) X.xe s4) X.xe { s with heap := h3 } := by
      rw [hf]
      refine HandSPX.setFlight_upZ fl fun h4 hh4 up4 => wpAny_throw (tk _ _ ?_)
      exact ⟨a, B, sI, pinsF, σ, H, cls, d, rfl, J, nb, up.trans up4, .inr (.inr (by rw [hs]; exact hh4)), na, os, ag, w⟩
    unfold PySem.passOn
    refine wpAny_bind (wpAny_field he hd h1 ?_)
    rw [if_neg (by simp : ¬ ((Value.ref T == Value.none) = true))]
    first
      | exact wpAny_bind (wpAny_pure (wpAny_bind last))
      | exact wpAny_bind last
  | @cons x c ts b₀ suite np pos' rest l2 hc hsu r ih =>
    intro w
    obtain ⟨b, hb1, yes, no⟩ := w
    have nameOk : ∀ {Q : Value → Shared → Prop} {E : Value → Shared → Prop}, Q c { s with heap := h3 } → wpAny (model X.prog X.w) (X.A.mark (some (.ref a))) (eval (.Name x np) X.env) Q E { s with heap := h3 } := by
      intro Q E q
      obtain ⟨hg, hdb, hm | ⟨hm, hv, hnn⟩⟩ := hc
      · exact ld_glob (X := X.suite a ((a, oe3) :: (X.pn ++ pinsF))) S3 hg hm q hdb
      · exact ld_blt (X := X.suite a ((a, oe3) :: (X.pn ++ pinsF))) S3 hg hm hv q hnn hdb
    refine wpAny_handleBy_cons (codeAny_handlers_test (nameOk ((PySem.W.exm_one (M := model X.prog X.w) J3.kIn ty hb1).here ?_))) nofun
    cases b with
    | false => exact ih (no rfl)
    | true =>
      refine codeAny_handlers_suite_as (HandSPX.lands_againZ fl fun h4 fl4 up4 => ?_)
      have J4 : Inv X pinsF σ H { s with heap := h4 } := J.landed nb fl4.1 (up.trans up4) os ag
      obtain ⟨oe4, vs4, he4, hz4, hd4⟩ := fl4.there
      refine store_ok (X := X.suite a ((a, oe4) :: (X.pn ++ pinsF))) (v := .ref a) (J4.suite he4 hd4 na nL nF) hN hi (.inl hln) rfl (fun s5 S5 => ?_) (.inr hln)
      have gone : ∀ {σ6 : L2.St} {H6 : Hp} {s6 : Shared} {Q : Shared → Prop}, Inv (X.suite a ((a, oe4) :: (X.pn ++ pinsF))) [] σ6 H6 s6 → (∀ s7, Inv X pinsF (σ6.set i none) H6 s7 → Q s7) →
          wpAny (model X.prog X.w) X.A (do bindName X.env n .none; unbindBehindTheSuite X.env n pos') (fun _ s7 => Q s7) X.xe s6 := fun S6 hq => gone_ok (S6.unsuite ok) hN hi hln hq
      refine wpAny_mono ((hsu a oe4 cls d (X.pn ++ pinsF) hz4 ⟨_, hd4⟩).run [] s5 _ H _ S5 (yes rfl a na)) (fun f s6 hf6 => ?_) (fun _ _ z => z.elim)
      match f, hf6 with
      | .next, ⟨_, _, S6, q6⟩ => exact gone S6 fun s7 J7 => ⟨_, _, J7, q6⟩
      | .brk, ⟨_, _, S6, q6⟩ => exact gone S6 fun s7 J7 => ⟨_, _, J7, q6⟩
      | .cont, ⟨_, _, S6, q6⟩ => exact gone S6 fun s7 J7 => ⟨_, _, J7, q6⟩
      | .ret u, ⟨_, _, _, S6, r6, q6⟩ => exact gone S6 fun s7 J7 => ⟨_, _, _, J7, r6, q6⟩
/-- try: body / except X as n: .. / except Y as n: .. -/
theorem ps_try_manyAs (hs : X.stack = X.env :: X.outer) (hf : X.env.frame = some X.env.locals) (hN : X.N.Nodup) (hi : X.N[i]? = some n) (hln : X.env.kindOf n = some .local) (tk : Takes X Wout)
    (hb : ∀ (W : WX) (pn : List (Addr × Obj)) (xe : Value → Shared → Prop), Takes (X.tr pn xe) W → PassesOwn (model X.prog X.w) X.A X.env xe → PSs (X.tr pn xe) body (tb W)) (hh : HdsAs X n (h₀ :: hds) l) :
    PS X (.Try body (h₀ :: hds) [] [] pos) (fun D σ H => tb (wManyAs X.K i Wout D l) D σ H) := by
  constructor
  intro pins s σ H D I h
  have ok := I.ok
  have hfr : X.A.frames = some (X.env :: X.outer) := by
    rw [ok.frames, hs]
  refine wpAny_Try_except (wpAny_mono ((hb (wManyAs X.K i Wout D l) (X.pn ++ pins) (fun e s₁ => wpAny (model X.prog X.w) X.A (noteFrame e X.env) (fun _ s₂ => wpAny (model X.prog X.w) X.A (setFlight e none)
    (fun _ s₃ => wpAny (model X.prog X.w) X.A (handleBy e X.env (h₀ :: hds)) (SP X pins D) X.xe s₃) X.xe s₂) X.xe s₁) (fun u s' xx => ?_) PassesOwn.looking).run [] s σ H D (I.toTry _) h) (fun f s1 hsp => ?_) fun _ _ he => he)
  · obtain ⟨a, B, sI, pins', σ', H', cls, d, rfl, J', nb, up, sky, na, os, ag, w⟩ := xx
    have J : Inv X pins σ' H' sI := J'.ofTry ok
    rw [hs] at sky
    show wpAny (model X.prog X.w) X.A (noteFrame (.ref a) X.env) _ _ _
    refine Sky.land Zc.steady hfr hf sky fun h3 fl3 up3 => ?_
    exact clauses_as hs hf hN hi hln tk J nb fl3 (up.trans up3) na os ag rfl hh w
  · match f, hsp with
    | .next, ⟨_, _, J', q⟩ => exact wpAny_execs_nil ⟨_, _, J'.ofTry ok, q⟩
    | .brk, ⟨_, _, J', q⟩ => exact ⟨_, _, J'.ofTry ok, q⟩
    | .cont, ⟨_, _, J', q⟩ => exact ⟨_, _, J'.ofTry ok, q⟩
    | .ret u, ⟨_, _, _, J', r, q⟩ => exact ⟨_, _, _, J'.ofTry ok, r, q⟩
end
/-! ### isinstance(e, c), e an error with an own dict -/
theorem call_isE2 {X : Cx} {a D dd : Addr} {oe : Obj} {pn : List (Addr × Obj)} (C : ExcC X.K D) (hz : Zc (.ref D) (some dd) oe) (hf : ∃ vs, oe.data = .fields vs) :
    CallR (X.suite a ((a, oe) :: pn)) (.builtin "isinstance") (fun xs H Q => (∃ fs, H dd = some (.xd fs)) ∧ rIsE X.K D a xs H Q) := by
  intro pins s σ H xs us Q I r h
  obtain ⟨⟨fs, hdd⟩, c, cv, b, rfl, hcv, e, q⟩ := h
  obtain ⟨u1, u2, rfl, r1, r2⟩ := vals2 r
  obtain rfl : u1 = Value.ref a := r1
  obtain rfl := hcv _ r2
  obtain ⟨hget, _⟩ := I.pin (a, oe) (List.mem_append.mpr (.inl List.mem_cons_self))
  obtain ⟨vs, hv⟩ := hf
  obtain ⟨mA, ⟨od, es, ep, hod, _⟩, _⟩ := I.hok dd _ hdd
  have J : PySem.W.InstAt s.heap a oe D (some od) := by
    obtain ⟨oc, oda, odt, osl⟩ := oe
    obtain ⟨h1, h2⟩ := hz
    dsimp only at h1 h2 hv
    subst h1 h2 hv
    exact ⟨hget, rfl, rfl, hod⟩
  have hcl : (PySem.W.clsIn X.K D).isSome = true := by
    obtain ⟨cd, hc, _⟩ := PySem.W.any_some C.hd
    rw [hc]
    rfl
  have KX : PySem.W.KitX X.K (.ref a) (.ref D) (fun h => PySem.W.InstAt h a oe D (some od)) := PySem.W.kitx_exc hcl C.hg C.hk C.hs C.ha C.hn C.ht C.hm
  exact PySem.W.kia_one KX I.kIn J e (fun z => nomatch z) fun tk => ⟨.bl b, H, I.kept (t' := tk) fun _ _ z => z, rfl, q⟩
end LG
/-! Sets of ints: set(list of ints), a set comprehension of ints. -/
namespace LG
open PySem PySem.Spec PyProof.Rows L2
/-- a set that was just made -/
abbrev oSet (w : World) : Obj := { cls := .type "set", dict := none, data := .set #[] 0 (.fresh 0 0 (!w.params.followText "set-order")) }
section
variable {P : Program} {w : World} {A : Around} {E : Value → Shared → Prop} {s : Shared}
theorem setR_nil {h : Heap} {a : Addr} (ho : h.get? a = some (oSet w)) : SetR w h a (fun _ => false) 0 := (setR_new_at (ns := []) ho).congr fun k => by simp
theorem oSet_in {h : Heap} : (h.push (oSet w)).get? h.objs.size = some (oSet w) := Heap.get?_push_size _ rfl
/-- set.__init__(S, l): the members of the list l, from left to right -/
theorem set_init_list {l : Addr} {items : Array Value} (ns : List Int) (hh : A.handled = none) (hl : s.heap.IsList l items) (hit : IntsAre items.toList ns) (hb : ns.length + 1 < scanBound)
    {R : Result → Shared → Prop} (h : ∀ (h' : Heap) (tk c : Nat), SetR w h' s.heap.objs.size (fun j => decide (j ∈ ns)) c → c ≤ ns.length → (∀ b o, s.heap.get? b = some o → h'.get? b = some o) → R (.ok (.ret .none)) { s with heap := h', toks := tk }) :
    codeAny (model P w) A (.call (.builtin "set.__init__") ⟨[.ref s.heap.objs.size, .ref l], []⟩) R { s with heap := s.heap.push (oSet w) } := by
  have hisz : items.size = ns.length := by
    rw [← Array.length_toList, IntsAre.length hit]
  have hT : Shared.TypeIs { s with heap := s.heap.push (oSet w) } (.ref s.heap.objs.size) "set" := ⟨_, oSet_in, rfl⟩
  have hi : s.heap.objs.size + 1 = (s.heap.push (oSet w)).objs.size := (Heap.size_push _ _).symm
  refine codeAny_call_builtin PySem.F.called_set.init.plain PySem.F.entry_set_init (check_set_init_1 hT ?_)
  obtain ⟨ol, hol, hcl, nl, hdl⟩ := hl
  obtain ⟨ocls, odict, odata, oslots⟩ := ol
  simp only at hcl hdl
  subst hcl
  subst hdl
  have hol' := Heap.get?_push_of_some (oSet w) hol
  have hl1 : (s.heap.push (oSet w)).IsList l items := ⟨_, hol', rfl, nl, rfl⟩
  have f1 := PySem.F.sub_list_set
  have f2 := PySem.F.sub_list_frozenset
  have f3 : (Value.type "list" == Value.type "dict") = false := by decide
  have hlS : l < s.heap.objs.size := Heap.lt_size hol
  unfold Builtin.«set.__init__» noKeywords Builtin.Frozenset.updateFrom
  generalize hPI : pyIter = PI
  wp_walk
  subst hPI
  refine wpAny_pyIter_list hl1 (wpAny_bind (wpAny_runValue ?_))
  have hh3 : A.in1.in1.handled = none := by simp [hh]
  have nI : l ≠ (s.heap.push (oSet w)).objs.size := by
    rw [← hi]
    exact Nat.ne_of_lt (Nat.lt_succ_of_lt hlS)
  have nS : s.heap.objs.size ∉ [(s.heap.push (oSet w)).objs.size, l] := by
    rw [← hi]
    simp only [List.mem_cons, List.not_mem_nil, or_false, not_or]
    exact ⟨Nat.ne_of_lt (Nat.lt_succ_self _), Nat.ne_of_gt hlS⟩
  have each : ∀ (i : Nat) (v : Value), items[i]? = some v → ∃ k t, ns[i]? = some k ∧ v = .int k t := by
    intro i v hv
    have hi : i < ns.length := by
      rw [← hisz]
      exact (Array.getElem?_eq_some_iff.mp hv).1
    obtain ⟨t, e⟩ := IntsAre.int_at hit i v (by rw [Array.getElem?_toList]; exact hv)
    refine ⟨ns[i], t, List.getElem?_eq_getElem hi, e.trans ?_⟩
    rw [List.getD_eq_getElem?_getD, List.getElem?_eq_getElem hi]
    rfl
  refine set_update_ints ((Walks.list hh3 _ l nI items).toS) s.heap.objs.size nS ns hisz hb each (items.size - 0) 0 _ (by omega) (Nat.zero_le _) ?hst ?hS0 ?hR
  case hst => exact ⟨⟨_, Heap.get?_push_size _ rfl, rfl, rfl⟩, hl1.push _⟩
  case hS0 =>
    have z : ((s.heap.push (oSet w)).push { cls := .type "list_iterator", data := .fields #[.ref l, .int 0 0] }).get? s.heap.objs.size = some (oSet w) := Heap.get?_push_of_some _ oSet_in
    exact ⟨0, Nat.le_refl 0, setR_new_at z⟩
  intro s' c hm hc hS
  obtain ⟨h', g', d', tk', os'⟩ := s'
  obtain rfl : g' = s.gens := hm.gens
  obtain rfl : d' = s.drawn := hm.drawn
  obtain rfl : os' = s.os := hm.os
  show wpAny _ _ _ _ _ _
  refine wpAny_pure ?_
  show wpAny _ _ (ret Value.none) _ _ _
  rw [hisz] at hc
  refine wpAny_pure (h h' tk' c hS hc fun b o e => hm.heap b o ?_ (Heap.get?_push_of_some _ (Heap.get?_push_of_some _ e)))
  have hb0 := Heap.lt_size e
  rw [← hi]
  simp only [List.mem_cons, List.not_mem_nil, or_false, not_or]
  exact ⟨Nat.ne_of_lt hb0, Nat.ne_of_lt (Nat.lt_succ_of_lt hb0)⟩
/-- set(l), l a list of ints -/
theorem call_set_list {l : Addr} {items : Array Value} (ns : List Int) {Q : Value → Shared → Prop} (hh : A.handled = none) (hl : s.heap.IsList l items) (hit : IntsAre items.toList ns) (hb : ns.length + 1 < scanBound)
    (h : ∀ (h' : Heap) (tk c : Nat), SetR w h' s.heap.objs.size (fun j => decide (j ∈ ns)) c → c ≤ ns.length → (∀ b o, s.heap.get? b = some o → h'.get? b = some o) → Q (.ref s.heap.objs.size) { s with heap := h', toks := tk }) :
    wpAny (model P w) A (call (.type "set") [.ref l]) Q E s := by
  obtain ⟨c, tl, hmro⟩ := PySem.F.called_set.mro
  have hmade := PySem.F.called_set.made
  have hsub := PySem.F.called_set.sub
  have h1 := PySem.F.called_set.notType
  have h2 := PySem.F.called_set.canCreate
  have hct := PySem.F.typeCall_set_1 (.ref l)
  have hli := PySem.F.called_set.init.lookup
  have hbi := PySem.F.called_set.init.bind (.ref s.heap.objs.size)
  refine wpAny_call (codeAny_of_tree ?_)
  show wpAny _ _ (callAny (.type "set") _) _ _ _
  refine wpAny_pure ⟨Code.quiet_builtin _ (by decide +kernel), codeAny_builtin PySem.F.entry_type_call ?_⟩
  rw [Around.under_plain (weight_type_call_type "set" [.ref l] []) rfl]
  repeat (any_goals (first | assumption | wp_step))
  refine codeAny_mono (code_set_led1 (.ref l) (E := E) (Q₁ := fun obj s₁ => obj = .ref s.heap.objs.size ∧ s₁ = { s with heap := s.heap.push (oSet w) }) ⟨rfl, rfl⟩) fun r s₁ hr => ?_
  match r, hr with
  | .error e, hr => exact hr
  | .ok (.ret obj), ⟨e1, e2⟩ =>
    subst e1 e2
    have hT : Shared.TypeIs { s with heap := s.heap.push (oSet w) } (.ref s.heap.objs.size) "set" := ⟨_, oSet_in, rfl⟩
    repeat (any_goals (first | assumption | wp_step))
    refine codeAny_mono (set_init_list (R := wants (fun r s₂ => r = .none ∧ ∃ h' tk c, s₂ = { s with heap := h', toks := tk } ∧ SetR w h' s.heap.objs.size (fun j => decide (j ∈ ns)) c ∧ c ≤ ns.length ∧
      (∀ b o, s.heap.get? b = some o → h'.get? b = some o)) E) ns (by simp [hh]) hl hit hb fun h' tk c a b e => ⟨rfl, h', tk, c, rfl, a, b, e⟩) fun r₂ s₂ hr₂ => ?_
    match r₂, hr₂ with
    | .ok (.ret r), ⟨e1, h', tk, c', e2, hS', hc', hk'⟩ =>
      subst e1 e2
      repeat (any_goals (first | assumption | wp_step))
      exact h _ _ _ hS' hc' hk'
    | .error e, hr₂ => exact hr₂
end
/-- as a rule: the members are the ints of the list -/
def rSetL (K : PySem.W.Frag) (w : World) : List V → Hp → VK → Prop := fun xs H Q => ∃ (l : Addr) (ns : List Int), xs = [.ref l] ∧ SqL K H l (ns.map V.int) ∧ ns.length ≤ 1000 ∧
  ∀ (p : Addr) (S : Int → Bool) (n : Nat), H p = none → (∀ k, S k = true ↔ k ∈ ns) → n ≤ ns.length → Q (.ref p) (upd H p (SetO w p S n))
theorem cr_setL {X : Cx} (hc : X.calm = true) : CallR X (.type "set") (rSetL X.K X.w) := by
  intro pins s σ H xs us Q I r h
  obtain ⟨l, ns, rfl, hs, hl, q⟩ := h
  obtain ⟨u, rfl, r1⟩ := vals1 r
  obtain rfl : u = Value.ref l := r1
  obtain ⟨its, rv, pl, _⟩ := I.list hs
  refine call_set_list ns (I.ok.hd hc) pl.isList (ints_of_vals rv) (by unfold scanBound; omega) fun h' tk c hS hcl hk => ?_
  exact ⟨.ref s.heap.objs.size, upd H s.heap.objs.size (SetO X.w s.heap.objs.size (fun j => decide (j ∈ ns)) c), I.laid hk (Nat.le_refl _) (setO_new hS), rfl, q _ _ _ (I.hok.fresh (Nat.le_refl _)) (fun k => decide_eq_true_iff) hcl⟩
end LG
/-! A set comprehension whose members are of one kind (ints; keys), and its loops. -/
namespace LG
open PySem PySem.Spec PyProof.Rows L2
/-- a kind of sets: how a member stands as a value, how such a set stands in the heap, and the two facts that are used of it -/
structure SetK1 (κ : Type) [DecidableEq κ] where
  toV : κ → V
  SO : Program → World → Addr → (κ → Bool) → Nat → HO
  fresh : ∀ {P : Program} {w : World} {H : Hp} {h : Heap} {a : Addr}, h.get? a = some (oSet w) → ObjOk P w H h a (SO P w a (fun _ => false) 0)
  add : ∀ {X : Cx} {pins : List (Addr × Obj)} {σ : L2.St} {H : Hp} {s : Shared} {E : Value → Shared → Prop} {D : Addr} {S : κ → Bool} {n : Nat} {y : κ} {u : Value} {Q : Value → Shared → Prop}, Inv X pins σ H s → H D = some (SO X.prog X.w D S n) → n + 1 < scanBound → L2.RelV (toV y) u →
    (∀ s', Inv X pins σ (upd H D (SO X.prog X.w D (fun j => S j || decide (j = y)) (if S y = true then n else n + 1))) s' → Q .none s') → wpAny (model X.prog X.w) X.A (call (.builtin "set.add") [.ref D, u]) Q E s
def setI : SetK1 Int where
  toV := V.int
  SO := fun _ w a S n => SetO w a S n
  fresh := fun h => setO_new (setR_nil h)
  add := fun {X pins σ H s E D S n y u Q} I hD room r h => by
    obtain ⟨t, rfl⟩ := r
    refine setR_add (setO_get I hD) room fun h' sb new => ?_
    have he : ∃ o, h'.get? D = some o := by
      obtain ⟨o, _, _, _, ho, _⟩ := id new
      exact ⟨o, ho⟩
    exact h _ (I.write (e := D) (t' := s.toks + 1) (by rw [hD]; trivial) (.inl rfl) (fun b o hb ho => (sb.2 b hb).trans ho) he (setO_new new))
section
variable {κ : Type} [DecidableEq κ] (k : SetK1 κ)
/-- {elt for target in iter if ..} -/
def tScK (P : Program) (w : World) (wi : TI) (g : TG) (tt : TT) (te : TE) (vs : List Nat) : TE := fun σ H Q => wi σ H fun J H1 => ∀ D, H1 D = none → ∃ W : Nat → Nat → Hp → Prop, (∃ m, W 0 m (upd H1 D (k.SO P w D (fun _ => false) 0))) ∧ ∀ i m H, W i m H →
  (J.stop i H ∧ Q (.ref D) H) ∨ (J.go i H ∧ ∃ Nx : Hp → Prop, (∀ H', Nx H' → ∃ m', m' < m ∧ W (i + 1) m' H') ∧ ∀ x H', J.yld i H x H' → g x (wipe σ vs) H' fun σ2 H2 => wipe σ2 vs = wipe σ vs ∧ tt σ2 H2 fun b H3 =>
    if b = true then te σ2 H3 fun y H4 => ∃ (c : κ) (S : κ → Bool) (n : Nat), y = k.toV c ∧ H4 D = some (k.SO P w D S n) ∧ n + 1 < scanBound ∧ Nx (upd H4 D (k.SO P w D (fun j => S j || decide (j = c)) (if S c = true then n else n + 1))) else Nx H3)
variable {X : Cx}
theorem pe_scK {elt tg iter : Expr} {ifs : List Expr} {scope : Scope} {own : List (PySem.Str × Nat)} {pos : Pos} {wi : TI} {g : TG} {tt : TT} {te : TE} (hc : X.calm = true) (hN : X.N.Nodup) (hi : PI X tg iter wi) (ok : BlkOk X.N X.env.scope scope own)
    (hg : ∀ (s : Shared) (H : Hp) (C : Addr) (cl : List (PySem.Str × Addr)) (fp : List Addr), PG (X.blk s H scope (compEnvC scope cl C X.env) fp) tg g)
    (ht : ∀ (s : Shared) (H : Hp) (C : Addr) (cl : List (PySem.Str × Addr)) (fp : List Addr), PTs (X.blk s H scope (compEnvC scope cl C X.env) fp) ifs tt)
    (he : ∀ (s : Shared) (H : Hp) (C : Addr) (cl : List (PySem.Str × Addr)) (fp : List Addr), PE (X.blk s H scope (compEnvC scope cl C X.env) fp) elt te)
    (hs : ∀ x, foldedSetIterable iter X.env x = pure x := by intro _; rfl) :
    PE X (.SetComp elt [⟨tg, iter, ifs, 0⟩] scope pos) (tScK k X.prog X.w wi g tt te (own.map (·.2))) := by
  constructor
  intro pins s σ H Q I h
  rw [PpSet.eval_SetComp]
  have hfree : ∀ y ∈ scope.names, y.2 = .free → ∃ c, X.env.cells.lookup y.1 = some c := fun y hy e => (ok.free y hy e).elim (fun z => I.ok.has _ (.inl z)) fun z => I.ok.has _ (.inr z)
  refine wpAny_comprehension_free rfl hs (closure_ok hfree) ok.kind (fun y hy e => by rw [ok.uniq y hy, e]) (thn (hi.run pins s σ H _ I h) fun xv s1 hx => thn hx fun itv s2 h2 => ?_)
  obtain ⟨it, fp, tn, J, H2, e, I2, T, st2, f2, q⟩ := h2
  subst e
  refine PpSet.newSet_ok (newEnv_comp ?_)
  have szD : H2 s2.heap.objs.size = none := I2.hok.fresh (Nat.le_refl _)
  generalize hD : s2.heap.objs.size = D at szD
  obtain ⟨W, ⟨m0, w0⟩, turn⟩ := q D szD
  generalize hO : k.SO X.prog X.w D (fun _ => false) 0 = o0 at w0
  generalize hs3 : ({ s2 with heap := s2.heap.push (oSet X.w) } : Shared) = s3
  have h3 : s3.heap = s2.heap.push (oSet X.w) := by
    rw [← hs3]
  have I3 : Inv X pins σ (upd H2 D o0) s3 := by
    rw [← hs3, ← hO]
    refine I2.laid (t' := s2.toks) (fun b o e => Heap.get?_push_of_some _ e) (Nat.le_of_eq hD) (k.fresh ?_)
    rw [← hD]
    exact oSet_in
  have sz : ∀ b ∈ fp, b < s2.heap.objs.size := fun b hb => by
    obtain ⟨o, e, _⟩ := T.obj _ _ st2 b hb
    exact Heap.lt_size e
  have f3 : ∀ b ∈ fp, FpOk X pins (upd H2 D o0) b ∧ b < s3.heap.objs.size := fun b hb => by
    have hlt := sz b hb
    refine ⟨⟨?_, (f2 b hb).2⟩, ?_⟩
    · rw [upd_ne (by rw [← hD]; exact Nat.ne_of_lt hlt)]
      exact (f2 b hb).1
    · rw [h3, Heap.size_push]
      exact Nat.lt_succ_of_lt hlt
  have st3 : tn 0 s3.heap := T.keep _ _ _ st2 fun b _ o e => by
    rw [h3]
    exact Heap.get?_push_of_some _ e
  have I4 := block_start I3 ok hN f3
  have pg := hg s3 (upd H2 D o0) s3.heap.objs.size (cellsFrom (s3.heap.objs.size + 1) scope.names (cloFrom X.env.cells scope.names [])) fp
  have pt := ht s3 (upd H2 D o0) s3.heap.objs.size (cellsFrom (s3.heap.objs.size + 1) scope.names (cloFrom X.env.cells scope.names [])) fp
  have pe := he s3 (upd H2 D o0) s3.heap.objs.size (cellsFrom (s3.heap.objs.size + 1) scope.names (cloFrom X.env.cells scope.names [])) fp
  show codeAny _ _ (.compStart (.SetComp elt [⟨tg, iter, ifs, 0⟩] scope pos) 0 (.ref it) (.ref D) (compEnvC scope (cellsFrom (s3.heap.objs.size + 1) scope.names (cloFrom X.env.cells scope.names [])) s3.heap.objs.size X.env)) _ { s3 with heap := pushCells (s3.heap.push { cls := .type "dict", data := .dict #[] }) scope.names }
  generalize hce : compEnvC scope (cellsFrom (s3.heap.objs.size + 1) scope.names (cloFrom X.env.cells scope.names [])) s3.heap.objs.size X.env = ce at I4 pg pt pe ⊢
  have cL : ce.locals = s3.heap.objs.size := by
    subst hce
    rfl
  have nfp : ∀ b ∈ fp, (upd H2 D o0) b = none := fun b hb => (f3 b hb).1.1
  generalize hH3 : upd H2 D o0 = H3 at I3 I4 pg pt pe w0 nfp f3
  generalize hs4 : ({ s3 with heap := pushCells (s3.heap.push { cls := .type "dict", data := .dict #[] }) scope.names } : Shared) = s4 at I4 ⊢
  have st4 : tn 0 s4.heap := T.keep _ _ _ st3 fun b _ o e => by
    rw [← hs4]
    exact pushCells_keeps _ _ _ _ (Heap.get?_push_of_some _ e)
  have stat : ∀ {σ' : L2.St} {H' : Hp} {s' : Shared}, Inv (X.blk s3 H3 scope ce fp) [] σ' H' s' → (∀ b ∈ fp, H' b = none) → ∀ b ∈ fp, FpOk (X.blk s3 H3 scope ce fp) [] H' b := fun I' hn b hb =>
    ⟨hn b hb, (I'.ok.exf b hb).1, I'.ok.exfs b hb, .inl hb, fun x c e => (I'.ok.exf b hb).2 x c e, fun p hp => absurd (show p ∈ ([] : List (Addr × Obj)) ++ [] from hp) (by simp)⟩
  refine (fun loop => PpSet.codeAny_compStart_set loop (T.self X.A 0 _ _ _ st4 loop)) ?_
  refine PpSet.compLoopS_any (fun n s' => ∃ i H', Inv (X.blk s3 H3 scope ce fp) [] (wipe σ (own.map (·.2))) H' s' ∧ tn i s'.heap ∧ (∀ b ∈ fp, H' b = none) ∧ W i n H') ?_ m0 ⟨0, H3, I4, st4, nfp, w0⟩
  rintro n s5 ⟨i, H5, I5, st5, n5, w5⟩
  rcases turn i n H5 w5 with ⟨stop, qq⟩ | ⟨go, Nx, hNx, step⟩
  · refine thnF (T.done (X.blk s3 H3 scope ce fp) rfl rfl rfl hc i [] s5 _ H5 (fun _ _ => False) I5 (stat I5 n5) st5 stop) fun r s6 ⟨hr, I6⟩ => ?_
    subst hr
    have I7 : Inv X pins σ H5 s6 := I3.call' (ch := fp) I6.os I6.base I6.hok I6.bare fun b hb => ⟨(f3 b hb).1.2.2.2.1, (f3 b hb).1.2.1, (f3 b hb).1.2.2.2.2.1, (f3 b hb).1.2.2.2.2.2⟩
    have nC : H5 s3.heap.objs.size = none := by
      rw [← cL]
      exact I6.free
    obtain ⟨m, hn, _⟩ := I6.loc
    have hn' : s6.heap.Ns s3.heap.objs.size m := by
      rw [← cL]
      exact hn
    obtain ⟨f0, f1, _, f3', f4, f5⟩ := I3.fpOk (Nat.le_refl _) nC
    refine ⟨m, hn', fun h'' sb => ?_⟩
    exact ⟨.ref D, H5, I7.turned (t' := s6.toks) (fun b o hb e => (sb.2 b hb).trans e) f0 f1 f3' f4 f5, rfl, qq⟩
  · refine thnF (T.item (X.blk s3 H3 scope ce fp) rfl rfl rfl hc i [] s5 _ H5 (fun _ _ => False) I5 (stat I5 n5) st5 go) fun r s6 ⟨u, hr, h6⟩ => ?_
    subst hr
    refine thnF h6 fun _ s7 ⟨x, H7, I7, r7, y7, st7, n7⟩ => ?_
    have I7' := I7.pinned (stat I7 n7) (T.obj _ _ st7)
    refine thnF (pg.run _ s7 _ H7 x u _ I7' r7 (step x H7 y7)) fun _ s8 ⟨σ8, H8, I8, hw8, q8⟩ => ?_
    refine thnF (pt.run _ s8 σ8 H8 _ I8 q8) fun b s9 ⟨H9, I9, q9⟩ => ?_
    have fin : ∀ {s' : Shared} {H' : Hp}, Inv (X.blk s3 H3 scope ce fp) ([] ++ pinsAt fp s7.heap) σ8 H' s' → Nx H' → ∃ m, m < n ∧ ∃ i H', Inv (X.blk s3 H3 scope ce fp) [] (wipe σ (own.map (·.2))) H' s' ∧ tn i s'.heap ∧ (∀ b ∈ fp, H' b = none) ∧ W i m H' := by
      intro s' H' I' nx
      obtain ⟨m', hm, w'⟩ := hNx H' nx
      have pin' : ∀ b ∈ fp, ∀ o, s7.heap.get? b = some o → s'.heap.get? b = some o ∧ H' b = none := fun b hb o e =>
        let z := I'.pin (b, o) (List.mem_append_right _ (List.mem_append_right _ (mem_pinsAt hb e)))
        ⟨z.1, z.2.1⟩
      have hl : (wipe σ (own.map (·.2))).length = σ8.length := by
        rw [← hw8, wipe_length]
      refine ⟨m', hm, i + 1, H', (I'.unpinned (pins := [])).weak hl (fun j v e => ?_), T.keep _ _ _ st7 fun b hb o e => (pin' b hb o e).1, fun b hb => ?_, w'⟩
      · rw [← hw8] at e
        exact (wipe_some e).1
      · obtain ⟨o, e, _⟩ := T.obj _ _ st7 b hb
        exact (pin' b hb o e).2
    cases b with
    | false =>
      simp only [Bool.false_eq_true, if_false] at q9 ⊢
      exact fin I9 q9
    | true =>
      simp only [if_true] at q9 ⊢
      refine thnF (pe.run _ s9 σ8 H9 _ I9 q9) fun z s10 ⟨yv, H10, I10, r10, cb, S0, n0, ey, hD10, hz10, nx⟩ => ?_
      subst ey
      exact k.add (X := X.blk s3 H3 scope ce fp) I10 hD10 hz10 r10 fun s11 I11 => fin I11 nx
/-- over a list that the block leaves as it is -/
theorem sc_list {P : Program} {w : World} {K : PySem.W.Frag} {a : Addr} {xs : List V} {g : TG} {tt : TT} {te : TE} {vs : List Nat} {σ : L2.St} {H1 : Hp} {D : Addr} {Qd : Hp → Prop} (Pv : Nat → Hp → Prop) (h0 : Pv 0 (upd H1 D (k.SO P w D (fun _ => false) 0)))
    (hl : ∀ i H, i ≤ xs.length → Pv i H → SqL K H a xs)
    (hs : ∀ i x H, xs[i]? = some x → Pv i H → g x (wipe σ vs) H fun σ2 H2 => wipe σ2 vs = wipe σ vs ∧ tt σ2 H2 fun b H3 =>
      if b = true then te σ2 H3 fun y H4 => ∃ (c : κ) (S : κ → Bool) (n : Nat), y = k.toV c ∧ H4 D = some (k.SO P w D S n) ∧ n + 1 < scanBound ∧ Pv (i + 1) (upd H4 D (k.SO P w D (fun j => S j || decide (j = c)) (if S c = true then n else n + 1))) else Pv (i + 1) H3) (hd : ∀ H, Pv xs.length H → Qd H) :
    ∃ W : Nat → Nat → Hp → Prop, (∃ m, W 0 m (upd H1 D (k.SO P w D (fun _ => false) 0))) ∧ ∀ i m H, W i m H →
      ((Itl K a).stop i H ∧ Qd H) ∨ ((Itl K a).go i H ∧ ∃ Nx : Hp → Prop, (∀ H', Nx H' → ∃ m', m' < m ∧ W (i + 1) m' H') ∧ ∀ x H', (Itl K a).yld i H x H' → g x (wipe σ vs) H' fun σ2 H2 => wipe σ2 vs = wipe σ vs ∧ tt σ2 H2 fun b H3 =>
        if b = true then te σ2 H3 fun y H4 => ∃ (c : κ) (S : κ → Bool) (n : Nat), y = k.toV c ∧ H4 D = some (k.SO P w D S n) ∧ n + 1 < scanBound ∧ Nx (upd H4 D (k.SO P w D (fun j => S j || decide (j = c)) (if S c = true then n else n + 1))) else Nx H3) := by
  refine ⟨fun i m H => m = xs.length - i ∧ i ≤ xs.length ∧ Pv i H, ⟨xs.length, by simp, Nat.zero_le _, h0⟩, ?_⟩
  rintro i m H ⟨rfl, hi, p⟩
  have q := hl i H hi p
  rcases Nat.lt_or_ge i xs.length with hlt | hge
  · refine .inr ⟨⟨xs, xs[i], q, by simp [hlt]⟩, Pv (i + 1), fun H' p' => ⟨xs.length - (i + 1), by omega, rfl, hlt, p'⟩, ?_⟩
    rintro x H' ⟨e, y⟩
    subst e
    exact hs i x _ (y xs q) p
  · obtain rfl : i = xs.length := by omega
    exact .inl ⟨⟨xs, q, Nat.le_refl _⟩, hd H p⟩
/-- over a tuple that the block leaves as it is -/
theorem sc_tupK {P : Program} {w : World} {K : PySem.W.Frag} {a : Addr} {xs : List V} {g : TG} {tt : TT} {te : TE} {vs : List Nat} {σ : L2.St} {H1 : Hp} {D : Addr} {Qd : Hp → Prop} (Pv : Nat → Hp → Prop) (h0 : Pv 0 (upd H1 D (k.SO P w D (fun _ => false) 0)))
    (hl : ∀ i H, i ≤ xs.length → Pv i H → SqT K H a xs)
    (hs : ∀ i x H, xs[i]? = some x → Pv i H → g x (wipe σ vs) H fun σ2 H2 => wipe σ2 vs = wipe σ vs ∧ tt σ2 H2 fun b H3 =>
      if b = true then te σ2 H3 fun y H4 => ∃ (c : κ) (S : κ → Bool) (n : Nat), y = k.toV c ∧ H4 D = some (k.SO P w D S n) ∧ n + 1 < scanBound ∧ Pv (i + 1) (upd H4 D (k.SO P w D (fun j => S j || decide (j = c)) (if S c = true then n else n + 1))) else Pv (i + 1) H3) (hd : ∀ H, Pv xs.length H → Qd H) :
    ∃ W : Nat → Nat → Hp → Prop, (∃ m, W 0 m (upd H1 D (k.SO P w D (fun _ => false) 0))) ∧ ∀ i m H, W i m H →
      ((Itt K a).stop i H ∧ Qd H) ∨ ((Itt K a).go i H ∧ ∃ Nx : Hp → Prop, (∀ H', Nx H' → ∃ m', m' < m ∧ W (i + 1) m' H') ∧ ∀ x H', (Itt K a).yld i H x H' → g x (wipe σ vs) H' fun σ2 H2 => wipe σ2 vs = wipe σ vs ∧ tt σ2 H2 fun b H3 =>
        if b = true then te σ2 H3 fun y H4 => ∃ (c : κ) (S : κ → Bool) (n : Nat), y = k.toV c ∧ H4 D = some (k.SO P w D S n) ∧ n + 1 < scanBound ∧ Nx (upd H4 D (k.SO P w D (fun j => S j || decide (j = c)) (if S c = true then n else n + 1))) else Nx H3) := by
  refine ⟨fun i m H => m = xs.length - i ∧ i ≤ xs.length ∧ Pv i H, ⟨xs.length, by simp, Nat.zero_le _, h0⟩, ?_⟩
  rintro i m H ⟨rfl, hi, p⟩
  have q := hl i H hi p
  rcases Nat.lt_or_ge i xs.length with hlt | hge
  · refine .inr ⟨⟨xs, xs[i], q, by simp [hlt]⟩, Pv (i + 1), fun H' p' => ⟨xs.length - (i + 1), by omega, rfl, hlt, p'⟩, ?_⟩
    rintro x H' ⟨e, y⟩
    subst e
    exact hs i x _ (y xs q) p
  · obtain rfl : i = xs.length := by omega
    exact .inl ⟨⟨xs, q, Nat.le_refl _⟩, hd H p⟩
end
end LG
/-! Calls by keywords alone, defs with a star, the law's entry where no guard is on the stack. -/
namespace LG
open PySem PySem.Spec PyProof.Rows L2

/-! ### a promise for any way to bind -/
def FnB (P : Program) (w : World) (K : PySem.W.Frag) (mg : Str → Option Value) (base : Heap) (k : Nat) (f : Addr) (fd : FuncData) (ps : List Str) (sp : Sp) : Prop :=
  ∀ (A : Around) (outer : List Env) (s : Shared) (H : Hp) (args : Args) (us : List Value) (vs : List V) (Q : VK) (E : XK),
    A.guards = some [] → Room k A → Env0 P w K mg base A outer s H → BindsTo s fd args (ps.zip us) → Vals vs us → vs.length = ps.length → sp vs H Q E →
    codeAny (model P w) A (.call (.ref f) args) (CR (L2.CX P w) outer P w H s Q E) s
section
variable {P : Program} {w : World} {K : PySem.W.Frag} {mg : Str → Option Value} {base : Heap} {k : Nat} {f : Addr} {sp : Sp} {x qual : Str} {st : Stmt} {fd : FuncData} {N ps : List Str}
theorem FnB.of (F : Fun K x qual st f fd) (S : FnScope N ps (defScope st))
    (body : ∀ (cdv : Value) (A : Around) (outer : List Env) (s : Shared) (H : Hp) (vs : List V) (Q : VK) (E : XK), A.guards = some [] →
      Room k (A.deeper (envOfC qual (defScope st) s.heap.objs.size f cdv)) → sp vs H Q E →
      ∃ t, PSs (cxOf (L2.CX P w) P w K mg base N qual (defScope st) f cdv A outer s H E) (defBody st) t ∧ t { nx := fun _ H' => Q .non H', rt := Q } (start N vs) H) :
    FnB P w K mg base (k + 1) f fd ps sp := by
  intro A outer s H args us vs Q E hg hr e0 hb rv hl hsp
  obtain ⟨oc, od, kV, doc, pm, an, cdv, ct, osl, rfl, lk, hcd⟩ := F.ex
  exact LamX.run_ofS lk hcd S hr e0 hb rv hl fun hr' => body cdv A outer s H vs Q E hg hr' hsp
theorem FnB.fn (F : FnB P w K mg base k f fd ps sp) (hb : Binds K fd ps []) (len : ∀ vs H Q E, sp vs H Q E → vs.length = ps.length) : Fn P w K mg base k f sp := by
  intro A outer s H us vs Q E hg hr e0 rv hsp
  have KX : K.In s.heap := e0.mod.kin.keeps fun b o e => (e0.bs b o e).1
  have hl := len _ _ _ _ hsp
  have hb' := hb s us KX (by rw [List.append_nil, ← rv.length]; exact hl)
  rw [List.append_nil] at hb'
  exact F A outer s H ⟨us, []⟩ us vs Q E hg hr e0 hb' rv hl hsp
/-- def f(*v): the arguments are a new tuple -/
theorem Fn.ofStar {pv : Str} (F : Fun K x qual st f fd) (S : FnScope N [pv] (defScope st)) (hb : ∀ us : List Value, bindArgs fd ⟨us, []⟩ = (newTuple us >>= fun t => pure [(pv, t)]))
    (body : ∀ (cdv : Value) (A : Around) (outer : List Env) (s : Shared) (H : Hp) (vs : List V) (Q : VK) (E : XK), A.guards = some [] →
      Room k (A.deeper (envOfC qual (defScope st) s.heap.objs.size f cdv)) → sp vs H Q E →
      ∃ t, PSs (cxOf (L2.CX P w) P w K mg base N qual (defScope st) f cdv A outer s H E) (defBody st) t ∧ t { nx := fun _ H' => Q .non H', rt := Q } (start N vs) H) :
    Fn P w K mg base (k + 1) f (fun vs H Q E => vs.length ≤ sizeLine ∧ ∀ p, H p = none → sp [V.ref p] (upd H p (.tup vs)) Q E) := by
  intro A outer s H us vs Q E hg hr e0 rv hsp
  obtain ⟨hz, hq⟩ := hsp
  obtain ⟨oc, od, kV, doc, pm, an, cdv, ct, osl, rfl, lk, hcd⟩ := F.ex
  have hn : H s.heap.objs.size = none := e0.hok.fresh (Nat.le_refl _)
  have hl : us.length ≤ sizeLine := by
    rw [← rv.length]
    exact hz
  refine StX.run_bnd lk hcd S hr e0 (G := fun xs H2 => ∃ p, H p = none ∧ xs = [V.ref p] ∧ H2 = upd H p (.tup vs)) (fun A' Ex Q' h => ?_) fun s2 H2 xs ⟨p, hp, ex, eH⟩ hr' => ?_
  · rw [hb us]
    refine wpAny_bind (wpAny_newTuple (wpAny_pure ?_) hl)
    have new : ObjOk P w (upd H s.heap.objs.size (.tup vs)) (s.heap.push ({ cls := .type "tuple", data := .seq us.toArray } : Obj)) s.heap.objs.size (.tup vs) := ⟨hz, us, rv, ⟨_, Heap.get?_push_size _ rfl, rfl, _, rfl⟩⟩
    have un := StX.un_laid (fs := frs outer) (s := s) (o := ({ cls := .type "tuple", data := .seq us.toArray } : Obj)) (u := .tup vs) hn
    exact h _ _ [V.ref s.heap.objs.size] [Value.ref s.heap.objs.size] (StX.env0_laid e0 new) un rfl (fun e s' => StX.cxUp outer s H _ _ E e s' un (fun b o q => Heap.get?_push_of_some _ q) rfl) (.cons rfl .nil) rfl ⟨_, hn, rfl, rfl⟩
  · subst ex eH
    exact body cdv A outer s2 _ _ Q E hg hr' (hq p hp)
end
section
variable {X : Cx} {k : Nat} {f : Addr} {fd : FuncData} {ps ks : List Str} {sp : Sp} {E : XK} {x : Str} {p pos : Pos} {kws : List Keyword} {tk : TA}
/-- f(k = v, ..): each parameter by its name, g puts the values in the parameters' order -/
theorem pe_fnK0 {g : {α : Type} → List α → List α} (F : FnB X.prog X.w X.K X.mg X.base k f fd ps sp) (g0 : X.A.guards = some []) (hr : Room k X.A) (hk : PySem.W.keepIn X.K (.ref f) = true) (hm : X.mg x = some (.ref f)) (hg : Gl X x) (hx : Passes (L2.CX X.prog X.w) X E)
    (hb : ∀ ws : List Value, ws.length = ks.length → bindArgs fd ⟨[], ks.zip ws⟩ = pure (ps.zip (g ws))) (hv : ∀ {vs : List V} {us : List Value}, Vals vs us → vs.length = ks.length → Vals (g vs) (g us) ∧ (g vs).length = ps.length) (hkw : PK X kws tk)
    (hall : (backToKw pos (keywordEach kws X.env)).all (·.1.isSome) = true := by rfl) (hks : (backToKw pos (keywordEach kws X.env)).filterMap (·.1) = ks := by rfl) (hdb : (x == ("__debug__" : Str)) = false := by decide)
    (hpl : ((backTo pos (starEach [] X.env)).any (·.1) || (backToKw pos (keywordEach kws X.env)).any (·.1.isNone)) = false := by rfl) :
    PE X (.Call (.Name x p) [] kws pos) (fun σ H Q => tk σ H fun zs H1 => zs.length = ks.length ∧ sp (g zs) H1 Q E) := by
  constructor
  intro pins s σ H Q I h
  refine wpAny_Call_Name_kw (ld_glob I hg hm (PySem.W.callWith_KW0 (h₀ := X.base) I.ok.mod.kin hk hall (thn (hkw.run pos pins s σ H _ I h) ?_) hpl) hdb)
  rintro ws s2 ⟨zs, H2, I2, rz, hl, q⟩
  refine ⟨I2.kIn, ?_⟩
  rw [hks]
  obtain ⟨rv, hl2⟩ := hv rz hl
  refine wpAny_call (codeAny_mono (F X.A X.stack s2 H2 ⟨[], ks.zip ws⟩ (g ws) (g zs) Q E g0 hr I2.env0 (.of_eq (hb ws (by rw [← rz.length]; exact hl))) rv hl2 q) fun res s' hq => ?_)
  match res, hq with
  | .error e, hq => exact hx pins σ H2 s2 e s' I2 hq
  | .ok (.ret u), hq => exact I2.after hq
  | .ok .next, hq => exact hq.elim
  | .ok .brk, hq => exact hq.elim
  | .ok .cont, hq => exact hq.elim
end

/-! ### the law's entry -/
/-- nothing is tracked but the script and the tables of code objects cs -/
theorem law_enter {P : Program} {w : World} {K : PySem.W.Frag} {mg mb : Str → Option Value} {k : Nat} {fa a : Addr} {cs : List (Addr × Addr)} {sp : Sp} {s₁ : Shared} {vs : List Value} {ns : List Int}
    (KX : K.In s₁.heap) (hns : s₁.heap.Ns mainGlobals mg) (hb : s₁.heap.Ns builtinsNs mb) (hbb : ∀ x : Str, x ≠ "__name__" → mb x = bootBuiltins x) (hlim : s₁.heap.NoLimit) (hg : s₁.gens = #[])
    (hT : ∀ p ∈ cs, s₁.heap.get? p.2 = some { cls := .none, data := .fields #[] }) (nT : ∀ p ∈ cs, K.lookup p.2 = none) (C : ∀ p ∈ cs, PySem.W.CodeHd s₁.heap p.1 p.2)
    (hbm : ∃ (bm : Addr) (ob : Obj), mg "__builtins__" = some (.ref bm) ∧ bm ≠ builtinsNs ∧ s₁.heap.get? bm = some ob ∧ ob.cls = .type "module" ∧ ob.dict = some builtinsNs ∧ ob.data = .plain)
    (ha : s₁.heap.get? a = some { cls := .type "list", data := .seq vs.toArray }) (hi : IntsAre vs ns) (hl : ns.length ≤ sizeLine) (hr : Room k callerA)
    (F : ∀ base : Heap, K.In base → base.Ns mainGlobals mg → (∀ p ∈ cs, LamX.TabB base mg p.1 p.2) → Fn P w K mg base k fa sp)
    (hsp : ∀ H : Hp, (∀ p ∈ cs, H p.2 = some (.tbl #[])) → SqL K H a (ns.map V.int) → sp [.ref a] H (fun v _ => v = .bl true) fun _ _ _ => False) :
    codeAny (model P w) callerA (.call (.ref fa) ⟨[.ref a], []⟩) (fun r s' => r = .ok (.ret (.bool true)) ∧ OldK s₁.heap s'.heap ∧ s'.os = s₁.os ∧ AllBare s'.gens) s₁ := by
  have isT : ∀ b : Addr, b ∈ cs.map (·.2) → s₁.heap.get? b = some { cls := .none, data := .fields #[] } := by
    intro b hb
    obtain ⟨p, hp, e⟩ := List.mem_map.mp hb
    exact e ▸ hT p hp
  have memT : ∀ p ∈ cs, p.2 ∈ cs.map (·.2) := fun p hp => List.mem_map.mpr ⟨p, hp, rfl⟩
  have aT : a ∉ cs.map (·.2) := by
    intro z
    have q := isT a z
    rw [ha] at q
    cases Option.some.inj q
  -- the abstract heap
  let scr : Option HO := if (K.lookup a).isSome then none else some (.frz { cls := .type "list", data := .seq vs.toArray } (.lst (ns.map V.int)))
  let H : Hp := fun b => if b ∈ cs.map (·.2) then some (.tbl #[]) else if b = a then scr else none
  have H_t : ∀ b, b ∈ cs.map (·.2) → H b = some (.tbl #[]) := fun b hb => if_pos hb
  have H_a : H a = scr := (if_neg aT).trans (if_pos rfl)
  have H_o : ∀ b, b ∉ cs.map (·.2) → b ≠ a → H b = none := fun b h1 h2 => (if_neg h1).trans (if_neg h2)
  have scr_cases : (scr = none ∧ ∃ o, K.lookup a = some o) ∨ (scr = some (.frz { cls := .type "list", data := .seq vs.toArray } (.lst (ns.map V.int))) ∧ K.lookup a = none) := by
    cases e : K.lookup a with
    | some o => exact .inl ⟨if_pos (by rw [e]; rfl), o, rfl⟩
    | none => exact .inr ⟨if_neg (by rw [e]; exact Bool.false_ne_true), rfl⟩
  have H_is : ∀ b, H b ≠ none → b ∈ cs.map (·.2) ∨ (b = a ∧ scr ≠ none) := by
    intro b hb
    by_cases h1 : b ∈ cs.map (·.2)
    · exact .inl h1
    · by_cases h2 : b = a
      · subst h2
        exact .inr ⟨rfl, fun z => hb (H_a.trans z)⟩
      · exact absurd (H_o b h1 h2) hb
  have lenV := hi.length
  have okA : ∀ (H' : Hp), ObjOk P w H' s₁.heap a (.frz { cls := .type "list", data := .seq vs.toArray } (.lst (ns.map V.int))) := fun H' => ⟨ha, by rw [List.length_map]; exact hl, vs, _, vals_ints hi, ha⟩
  have hok : HOk P w H s₁.heap := by
    intro b u e
    rcases H_is b (by rw [e]; exact Option.some_ne_none u) with hb | ⟨hb, hs⟩
    · have z := (H_t b hb).symm.trans e
      cases z
      exact isT b hb
    · subst hb
      rcases scr_cases with ⟨z, _⟩ | ⟨z, _⟩
      · exact absurd z hs
      · have z' := (H_a.trans z).symm.trans e
        cases z'
        exact okA H
  have seqA : SqL K H a (ns.map V.int) := by
    rcases scr_cases with ⟨_, o, hk⟩ | ⟨z, _⟩
    · have e := KX a o hk
      rw [ha] at e
      cases e
      exact .inr ⟨_, vs.toArray, _, hk, rfl, rfl, rfl, by rw [List.size_toArray, lenV]; exact hl, vals_ints hi⟩
    · exact .inl (.inr ⟨_, H_a.trans z⟩)
  -- what is neither a list nor a table is not tracked
  have off : ∀ {b : Addr} {o : Obj}, s₁.heap.get? b = some o → (∀ vs n, o.data ≠ .seq vs n) → o.data ≠ .fields #[] → H b = none := by
    intro b o e h1 h2
    refine H_o b (fun z => h2 ?_) fun z => ?_
    · have q := (isT b z).symm.trans e
      cases q
      rfl
    · subst z
      have q := ha.symm.trans e
      cases q
      exact h1 _ _ rfl
  have base_of : ∀ {b : Addr} {o : Obj}, s₁.heap.get? b = some o → H b = none → (hidT s₁.heap H).get? b = some o := fun e n => hidT_get e n
  have offD : ∀ {b : Addr} {o : Obj} {es : Array DictEntry} {ep : Nat}, s₁.heap.get? b = some o → o.data = .dict es ep → H b = none := fun e d => off e (fun vs n z => by rw [d] at z; cases z) fun z => by rw [d] at z; cases z
  have nsK : ∀ {b : Addr} {m : Str → Option Value}, s₁.heap.Ns b m → (hidT s₁.heap H).Ns b m := fun ⟨o, es, ep, e, d, r⟩ => ⟨o, es, ep, base_of e (offD e d), d, r⟩
  have hKb : K.In (hidT s₁.heap H) := by
    intro b o e
    refine base_of (KX b o e) ?_
    cases q : H b with
    | none => rfl
    | some u =>
      rcases H_is b (by rw [q]; exact Option.some_ne_none u) with hb | ⟨hb, hs⟩
      · obtain ⟨p, hp, ep⟩ := List.mem_map.mp hb
        rw [← ep, nT p hp] at e
        cases e
      · subst hb
        rcases scr_cases with ⟨z, _⟩ | ⟨_, z⟩
        · exact absurd z hs
        · rw [z] at e
          cases e
  have hM : Mod K mg (hidT s₁.heap H) := ⟨hKb, nsK hns, ⟨mb, nsK hb, hbb⟩, let ⟨mc, h1, h2⟩ := hlim; ⟨mc, nsK h1, h2⟩⟩
  have TB : ∀ p ∈ cs, LamX.TabB (hidT s₁.heap H) mg p.1 p.2 := by
    intro p hp
    have hTp := hT p hp
    have gP : mainGlobals ≠ p.2 := fun z => by
      obtain ⟨o, es, ep, e, hd, _⟩ := hns
      rw [z, hTp] at e
      cases e
      cases hd
    refine ⟨?_, ?_, gP⟩
    · obtain ⟨o, us, file, tf, flags, tg, inF, text, tt, e1, r1, r2, r3, rest⟩ := C p hp
      refine ⟨o, us, file, tf, flags, tg, inF, text, tt, base_of e1 (off e1 (fun vs n z => ?_) fun z => ?_), r1, r2, r3, rest⟩
      · rw [r2] at z
        cases z
      · rw [r2] at z
        cases z
        simp at r3
    · obtain ⟨bm, ob, b1, b2, b3, b4, b5, b6⟩ := hbm
      have nG : bm ≠ mainGlobals := fun q => by
        obtain ⟨o, es, ep, e, hd, _⟩ := hns
        rw [q, e] at b3
        cases b3
        rw [hd] at b6
        cases b6
      have nP : bm ≠ p.2 := fun q => by
        rw [q, hTp] at b3
        cases b3
        cases b6
      refine ⟨bm, ob, b1, b2, nG, nP, base_of b3 (off b3 (fun vs n z => ?_) fun z => ?_), b4, b5, b6⟩
      · rw [b6] at z
        cases z
      · rw [b6] at z
        cases z
  have e0 : Env0 P w K mg (hidT s₁.heap H) callerA [] s₁ H := ⟨rfl, hM, fun b o e => of_hidT e, Nat.le_of_eq (hidT_size _ _), trivial, fun b hb => absurd (show b ∈ ([] : List Addr) from hb) (by simp), hok, .of_eq hg⟩
  refine codeAny_mono (F _ hKb (nsK hns) TB callerA [] s₁ H [.ref a] [.ref a] _ _ rfl hr e0 (.cons rfl .nil) (hsp H (fun p hp => H_t _ (memT p hp)) seqA)) fun r s' h => ?_
  match r, h with
  | .error e, h =>
    obtain ⟨_, _, _, _, _, _, _, _, _, _, _, _, z⟩ := h
    exact z.elim
  | .ok .next, h => exact h.elim
  | .ok .brk, h => exact h.elim
  | .ok .cont, h => exact h.elim
  | .ok (.ret u), ⟨v, H', os, bare, un, hok', r', q⟩ =>
    have q' : v = .bl true := q
    subst q'
    obtain rfl : u = Value.bool true := r'
    have key : ∀ b o, b ∉ cs.map (·.2) → s₁.heap.get? b = some o → s'.heap.get? b = some o := by
      intro b o nb e
      by_cases hb : b = a
      · subst hb
        rcases scr_cases with ⟨z, _⟩ | ⟨z, _⟩
        · exact un.keep b o e (H_a.trans z) (by simp [frs]) (by simp)
        · have z2 := un.frzs b _ _ (H_a.trans z)
          obtain ⟨e2, _⟩ := hok' b _ z2
          rw [ha] at e
          cases e
          exact e2
      · exact un.keep b o e (H_o b nb hb) (by simp [frs]) (by simp)
    have grown : ∀ p ∈ cs, ∃ more : Array Value, s'.heap.get? p.2 = some { cls := .none, data := .fields more } := by
      intro p hp
      obtain ⟨more, z⟩ := un.tbls p.2 #[] (H_t _ (memT p hp))
      exact ⟨_, hok' p.2 _ z⟩
    refine ⟨rfl, ⟨fun b o e => ?_, fun b o e => ?_⟩, os, bare⟩
    · by_cases hb : b ∈ cs.map (·.2)
      · obtain ⟨p, hp, ep⟩ := List.mem_map.mp hb
        subst ep
        obtain ⟨more, hm⟩ := grown p hp
        have z := (hT p hp).symm.trans e
        cases z
        exact .inr (.inl ⟨((C p hp).tab (hT p hp)).isCodeTable, rfl, #[], more, rfl, by rw [Array.empty_append]; exact hm⟩)
      · exact .inl (key b o hb e)
    · by_cases hb : b ∈ cs.map (·.2)
      · obtain ⟨p, hp, ep⟩ := List.mem_map.mp hb
        subst ep
        obtain ⟨more, hm⟩ := grown p hp
        exact ⟨_, hm⟩
      · exact ⟨o, key b o hb e⟩
/-- what is to be shown of the law's def at the heap behind the top -/
def LawAt (l : PySem.W.OpenLaw) (w : World) (K : PySem.W.Frag) (k n : Nat) (mg : Str → Option Value) (fa : Addr) (h : Heap) : Prop :=
  ∃ (cs : List (Addr × Addr)) (sp : Sp), (∀ p ∈ cs, h.get? p.2 = some { cls := .none, data := .fields #[] }) ∧ (∀ p ∈ cs, K.lookup p.2 = none) ∧ (∀ p ∈ cs, PySem.W.CodeHd h p.1 p.2) ∧
    (∀ (H : Hp) (a : Addr) (ns : List Int), ns.length ≤ n → (∀ z ∈ ns, Builtin.Int.intBits z ≤ 1048576) → (∀ p ∈ cs, H p.2 = some (.tbl #[])) → SqL K H a (ns.map V.int) → sp [.ref a] H (fun v _ => v = .bl true) fun _ _ _ => False) ∧
    ∀ base : Heap, K.In base → base.Ns mainGlobals mg → (∀ p ∈ cs, LamX.TabB base mg p.1 p.2) → Fn l.prog w K mg base k fa sp
theorem walk_law {l : PySem.W.OpenLaw} {n k : Nat} {q : Program} {loose : List Str} {XP : (Str → Option Value) → Heap → Prop} {YP : World → Heap → Prop} {d : DefRec} {K : Params → PySem.W.Frag}
    (hn : l.most = some n) (hn2 : n ≤ sizeLine) (hdf : d.params.defaults = []) (hr : Room k callerA) (hY : ∀ (w : World) (h : Heap), YP w h → (K w.params).In h)
    (F : ∀ (w : World) (mg : Str → Option Value) (fa : Addr) (h : Heap), YP w h → (K w.params).In h → h.Ns mainGlobals mg → mg d.name = some (.ref fa) → LawAt l w (K w.params) k n mg fa h) :
    PySem.W.WalkO q loose XP YP l.row.toRowW d [] (fun f vs => PySem.call f vs) := by
  refine Att.attach_callB hn hdf ?_
  intro w s₀ s₁ mg mb fa o pm cd doc a vs ns G Y ho hd hcd hmg hobj hints hlen hbits hg
  obtain ⟨cs, sp, hT, nT, C, hsp, hF⟩ := F w mg fa _ Y (hY w _ Y) G.T.g hmg
  exact law_enter (hY w _ Y) G.T.g G.T.b G.T.builtins G.T.nolimit hg hT nT C G.T.bmain hobj hints (Nat.le_trans hlen hn2) hr hF fun H hH hS => hsp H a ns hlen hbits hH hS
end LG
/-! super().m(..) in a def of an own class. -/
namespace LG
open PySem PySem.Spec PyProof.Rows L2
/-! ### a body that asks which function runs -/
def PSsAt (X : Cx) (B st : List Stmt) (t : TS) : Prop := ∀ (pins : List (Addr × Obj)) (s : Shared) (σ : L2.St) (H : Hp) (D : Ends), Inv X pins σ H s → t D σ H → _root_.PySem.wpAt (model X.prog X.w) X.A (.func B X.env) (execs st X.env) (SP X pins D) X.xe s
section
variable {X : Cx} {B st rest : List Stmt} {b : Stmt} {t u : TS}
theorem pssAt_of (h : PSs X st t) : PSsAt X B st t := fun pins s σ H D I q => PySem.wpAt_of_wpAny (h.run pins s σ H D I q)
theorem pssAt_cons (h1 : PS X b t) (h2 : PSsAt X B rest u) : PSsAt X B (b :: rest) (tSeq t u) := fun pins s σ H D I q => by
  refine PySem.ks_wpAt_execs_cons (PySem.wpAt_of_wpAny (thn (h1.run pins s σ H { D with nx := u D } I q) fun f s1 z => ?_))
  match f, z with
  | .next, ⟨σ', H', I', q'⟩ => exact h2 pins s1 σ' H' D I' q'
  | .ret v, z => exact z
  | .brk, z => exact z
  | .cont, z => exact z
end
/-- the def at f of the class at D; its closure holds the class (it says super()) -/
structure FunS (K : PySem.W.Frag) (x qual : Str) (st : Stmt) (cc cda D f : Addr) : Prop where
  ex : ∃ (oc : Value) (od : Option Addr) (kV doc pm : Value) (an : Option Addr) (ct : Value) (osl : Array (Option Value)), K.lookup f = some ⟨oc, od, .func (PySem.W.ksFn x qual (defArgs st) (defBody st) (defScope st) .none kV doc pm an (.ref cda) ct cc), osl⟩
  code : PySem.W.codeIn K (.ref cda) qual = true
  file : ∃ (cl : Value) (cd : Option Addr) (vs : Array Value) (sl : Array (Option Value)) (tx : Str) (tf : Tok), K.lookup cda = some ⟨cl, cd, .fields vs, sl⟩ ∧ vs[2]? = some (.str tx tf)
  cell : ∃ (cl : Value) (cd : Option Addr) (sl : Array (Option Value)), K.lookup cc = some ⟨cl, cd, .cell (some (.ref D)), sl⟩
  cls : ∃ cd, PySem.W.clsIn K D = some cd
/-- an instance of C: super() in a def of D finds m at f2 -/
structure SupC (K : PySem.W.Frag) (C D f2 : Addr) (m : Str) : Prop where
  sub : PySem.W.mroIn K C (.ref D) = some true
  sup : PySem.W.ks_superIn K C D m = some (some (.ref f2))
  ty : PySem.W.typeIn K (.ref f2) = some (.type "function")
  any : PySem.W.nsIn K cStatics "thirdparty.any" = some none
  fn : PySem.W.fnIn K f2 = true
abbrev nfOf (x qual : Str) (st : Stmt) (cc cda : Addr) : NdefX.NF := ⟨x, qual, defArgs st, defBody st, defScope st, [("__class__", cc)], cda⟩
section
variable {P : Program} {w : World} {K : PySem.W.Frag} {mg : Str → Option Value} {base : Heap} {cc cda D f : Addr} {x qual : Str} {st : Stmt} {N ps : List Str} {k : Nat} {sp : Sp} {CX : CXT}
/-- a def that says super(), by its body -/
theorem FunS.ok (F : FunS K x qual st cc cda D f) (S : NdefX.NScope N ps ["__class__"] (defScope st)) (len : ∀ vs H Q E, sp vs H Q E → vs.length = ps.length)
    (hbody : ∀ (A : Around) (outer : List Env) (s : Shared) (H : Hp) (vs : List V) (Q : VK) (E : XK), Room k (A.deeper (NdefX.envF (nfOf x qual st cc cda) f s.heap.objs.size)) → sp vs H Q E →
      ∃ t, PSsAt (NdefX.ncx CX P w K mg base N (nfOf x qual st cc cda) f A outer s H E) (defBody st) (defBody st) t ∧ t { nx := fun _ H' => Q .non H', rt := Q } (NdefX.startF N vs [some (.ref D)]) H) :
    ∃ fd, FnOk P w K mg base CX (k + 1) f fd ps sp ∧ ∃ (oc : Value) (od : Option Addr) (kV doc pm : Value) (an : Option Addr) (ct : Value) (osl : Array (Option Value)), fd = PySem.W.ksFn x qual (defArgs st) (defBody st) (defScope st) .none kV doc pm an (.ref cda) ct cc ∧ K.lookup f = some ⟨oc, od, .func fd, osl⟩ := by
  obtain ⟨oc, od, kV, doc, pm, an, ct, osl, lk⟩ := F.ex
  refine ⟨_, ⟨len, fun A outer s H args us vs Q E hr e0 hb r hsp => ?_⟩, oc, od, kV, doc, pm, an, ct, osl, rfl, lk⟩
  have hl := len _ _ _ _ hsp
  have KX : K.In s.heap := e0.mod.kin.keeps fun b o e => (e0.bs b o e).1
  have lim : s.heap.NoLimit := e0.mod.nolimit.keeps fun b o e => (e0.bs b o e).1
  obtain ⟨cl, cd, sl, hcell⟩ := F.cell
  have C : NdefX.CellsAt [("__class__", cc)] ["__class__"] [some (V.ref D)] s.heap H := by
    have one : ∀ {y : Str} {c : Addr}, List.lookup y [(("__class__" : Str), cc)] = some c → y = "__class__" ∧ c = cc := fun {y c} h => by
      rw [List.lookup_cons] at h
      split at h
      · rename_i z
        cases h
        exact ⟨eq_of_beq z, rfl⟩
      · cases h
    have isC : s.heap.IsCell cc (some (.ref D)) := ⟨_, KX _ _ hcell, rfl⟩
    refine ⟨rfl, fun y c h => ?_, fun a b c h1 h2 => (one h1).1.trans (one h2).1.symm, fun i y hy => ?_⟩
    · obtain ⟨_, rfl⟩ := one h
      exact ⟨(e0.bs _ _ (e0.mod.kin _ _ hcell)).2, _, isC⟩
    · match i, hy with
      | 0, hy =>
        cases hy
        exact ⟨cc, by simp, fun v hv => by cases hv; exact ⟨.ref D, rfl, isC⟩⟩
  refine PySem.ks_codeAny_call_defAt (binds := ps.zip us) (body := defBody st) hr.depth (KX _ _ lk) rfl lim (PySem.W.codeRec_of KX F.code) rfl hb (fun y hy => S.nocell y hy) (fun ⟨n, _⟩ hy => S.par n (List.of_mem_zip hy).1) (fun h₁ hns kp => ?_) S.co S.gen S.kind
  obtain ⟨t, ht, hq⟩ := hbody A outer s H vs Q E (hr.deeper _) hsp
  have I : Inv (NdefX.ncx CX P w K mg base N (nfOf x qual st cc cda) f A outer s H E) [] (NdefX.startF N vs [some (.ref D)]) H { s with heap := h₁, toks := s.toks + (ps.zip us).length } := NdefX.inv_startN S hr.hd e0 hl r C hns kp
  refine PySem.ks_wpAt_mono (ht [] _ _ H _ I hq) (fun fl s' hs => ?_) fun e s' hs => hs
  have fin : ∀ {σ' : L2.St} {H' : Hp} {v : V} {u : Value}, Inv (NdefX.ncx CX P w K mg base N (nfOf x qual st cc cda) f A outer s H E) [] σ' H' s' → L2.RelV v u → Q v H' → CE outer P w H s Q u s' :=
    fun {σ' H' v u} J rv q => ⟨v, H', J.os, J.bare, J.base, J.hok, rv, q⟩
  match fl, hs with
  | .ret u, ⟨v, σ', H', J, rv, q⟩ => exact fin J rv q
  | .next, ⟨σ', H', J, q⟩ => exact fin (v := V.non) (u := Value.none) J rfl q
  | .brk, ⟨_, _, _, q⟩ => exact False.elim q
  | .cont, ⟨_, _, _, q⟩ => exact False.elim q
end
/-! ### super().m(e, ..) as a statement -/
def tSup (K : PySem.W.Frag) (D f2 : Addr) (m : Str) (sp : Sp) (E : XK) (t : TA) : TS := fun Dd σ H => ∃ a C dx fs, σ[0]? = some (some (.ref a)) ∧ H a = some (.ins C dx fs) ∧ SupC K C D f2 m ∧ t σ H fun vs H1 => sp (.ref a :: vs) H1 (fun _ H2 => Dd.nx σ H2) E
section
variable {P : Program} {w : World} {K : PySem.W.Frag} {mg : Str → Option Value} {base : Heap} {cc cda D f f2 : Addr} {x qual m : Str} {st : Stmt} {N : List Str} {k : Nat} {sp : Sp} {CX : CXT} {A : Around} {outer : List Env} {s0 : Shared} {H0 : Hp} {E0' E : XK}
  {e : Expr} {es : List Expr} {t : TA} {u : TS} {rest B : List Stmt} {p0 p1 p2 p3 p4 : Pos} {fd : FuncData} {ps : List Str} {n0 : Str}
theorem pssAt_super {X : Cx} {pl : Sem Bool} (hX : X = NdefX.ncx CX P w K mg base N (nfOf x qual st cc cda) f A outer s0 H0 E0') (F : FunS K x qual st cc cda D f) (F2 : FnOk P w K mg base CX k f2 fd ps sp) (hb : Binds K fd ps []) (hr : Room k X.A) (hx : Passes CX X E)
    (hz : mg "super" = none) (hks : (defScope st).names.lookup ("super" : Str) = some .globalImplicit) (hkc : (defScope st).names.lookup ("__class__" : Str) = some .free) (hkn : (defScope st).names.lookup n0 = some .local) (hn0 : N[0]? = some n0) (hkd : (defScope st).kind = .function)
    (har : ∃ ar, ((defArgs st).posonlyargs ++ (defArgs st).args).head? = some ar ∧ ar.arg = n0) (hfile : ∀ (vs : Array Value) (cl : Value) (cd : Option Addr) (sl : Array (Option Value)) (tx : Str) (tf : Tok), K.lookup cda = some ⟨cl, cd, .fields vs, sl⟩ → vs[2]? = some (.str tx tf) → ((P.main.file : Str) == tx) = true)
    (htop : (P.main.scope.names.lookup ("super" : Str)).isSome = false) (hm : (m == ("__class__" : Str)) = false) (ha : PA X (e :: es) t) (hrest : PSsAt X B rest u)
    (he : eval (.Call (.Attribute (.Call (.Name "super" p0) [] [] p1) m p2) (e :: es) [] p3) X.env = (do
      let ov ← attributeBase (.Call (.Name "super" p0) [] [] p1) m X.env (eval (.Call (.Name "super" p0) [] [] p1) X.env)
      standAt p2.atName
      let (f, first) ← holding [ov] (getMethod ov m pl)
      callWith p3 f first (backTo p3 (starEach (e :: es) X.env)) []) := by rfl)
    (hi : interactive X.env = false := by rfl) (hsw : swapsWith (.Call (.Attribute (.Call (.Name "super" p0) [] [] p1) m p2) (e :: es) [] p3) none p4.line X.env = pure false := by rfl)
    (hst : starEach (e :: es) X.env = (false, eval e X.env) :: starEach es X.env := by rfl) (hpl : (backTo p3 (starEach es X.env)).any (·.1) = false := by rfl) :
    PSsAt X B (.Expr (.Call (.Attribute (.Call (.Name "super" p0) [] [] p1) m p2) (e :: es) [] p3) p4 :: rest) (tSeq (tSup K D f2 m sp E t) u) := by
  subst hX
  intro pins s σ H Dd I ⟨a, C, dx, fs, hσ, hH, sc, q⟩
  obtain ⟨oc, od, kV, doc, pm, an, ct, osl, lk⟩ := F.ex
  obtain ⟨cl, cd, vs0, sl0, tx, tf, hcode, hvs⟩ := F.file
  obtain ⟨cl2, cd2, sl2, hcell⟩ := F.cell
  obtain ⟨cdD, hD⟩ := F.cls
  obtain ⟨ar, har1, har2⟩ := har
  obtain ⟨mb, hb1, hb2⟩ := I.mod.blt
  have KX := I.kIn
  obtain ⟨oD, hD1, hD2⟩ : ∃ oD, s.heap.get? D = some oD ∧ oD.data = .cls cdD := by
    unfold PySem.W.clsIn at hD
    split at hD
    · rename_i c d cd' sl ho
      cases hD
      exact ⟨_, KX _ _ ho, rfl⟩
    · cases hD
  obtain ⟨mA, O, _, _, _, _⟩ := ins_get I.hok hH
  obtain ⟨odx, J, _⟩ := O.look
  refine PySem.ks_wpAt_execs_cons (PySem.ks_wpAt_Expr_any (PySem.ks_wpAt_MethodCall (pl := pl) ?_ he) hi hsw)
  refine PySem.ks_wpAt_super_base (f := f) (cc := cda) hks hkc hm rfl (KX _ _ lk) rfl har1 rfl (KX _ _ hcode) rfl hvs (hfile _ _ _ _ _ _ hcode hvs) htop ?_
  refine PySem.W.ks_loadName_global hkd hks (Calls.loadGlobal_builtin (by rw [I.ok.glob]; exact I.mod.glob.keeps I.bk) hz (by rw [I.ok.blt]; exact hb1.keeps I.bk) ((hb2 _ (by decide)).trans (by kernel_rfl)) ⟨rfl, ?_⟩)
  refine wpAny_loadName_free hkd hkc (c := cc) (by show List.lookup _ [(("__class__" : Str), cc)] = some cc; simp) ⟨_, KX _ _ hcell, rfl⟩ ?_
  rw [har2]
  obtain ⟨mL, hnL, hlL⟩ := id I.loc
  obtain ⟨uL, rL, lL⟩ := hlL 0 n0 (.ref a) hn0 hσ (.inl hkn)
  obtain rfl : uL = Value.ref a := rL
  have hmL : mL n0 = some (.ref a) := by
    rcases lL with ⟨_, z⟩ | ⟨z, _⟩
    · exact z
    · rcases z with z | z
      · exact absurd (hkn.symm.trans z) (by simp)
      · exact absurd (hkn.symm.trans z) (by simp)
  refine wpAny_loadName_local hkd hkn hnL hmL ?_
  refine PySem.ks_wpAny_isType_cls hD1 hD2 ⟨rfl, ?_⟩
  refine PySem.ks_wpAny_call_super hD1 hD2 J.at_ J.cls (fun c e => ?_) (PySem.W.looks_mroIn KX sc.sub) (fun h' e k => ?_)
  · have z := J.no
    unfold PySem.W.notCls at z
    rw [e] at z
    exact Bool.noConfusion z
  have I1 := ClX.pin_new (t' := s.toks) I k (Nat.le_refl _) e (fun v z => by cases z)
  have KX1 := I1.kIn
  cases hc : PySem.W.clsIn K C with
  | none =>
    have z := sc.sup
    unfold PySem.W.ks_superIn at z
    rw [hc] at z
    cases z
  | some cdC =>
    have hsup := sc.sup
    unfold PySem.W.ks_superIn at hsup
    rw [hc] at hsup
    obtain ⟨of, hof, hofc⟩ : ∃ of, h'.get? f2 = some of ∧ of.cls = .type "function" := by
      have ht' : (K.lookup f2).map (·.cls) = some (.type "function") := sc.ty
      cases z : K.lookup f2 with
      | none => rw [z] at ht'; cases ht'
      | some of => rw [z] at ht'; exact ⟨of, KX1 _ _ z, Option.some.inj ht'⟩
    refine PySem.ks_wpAny_getMethod_super e (PySem.W.looks_opaque KX1 sc.any) (l₀ := cdC.mro) ?_ rfl KX1 hsup hof hofc (PySem.W.ks_ne KX J hc) hm ?_
    · exact fun A Q E s k q => wpAny_bind ((PySem.W.looks_clsIn KX1 hc) A _ E s k (wpAny_pure q))
    · have I2 := ClX.pin_new (o := PySem.W.methodObj (.ref f2) (.ref a)) (h' := h'.push { cls := .type "method", data := .fields #[.ref f2, .ref a] }) (t' := s.toks + 1) I1 (fun b o z => Heap.get?_push_of_some _ z) (Nat.le_refl _) (Heap.get?_push_at rfl rfl) (fun v z => by cases z)
      refine ClX.callwith_cm (C := a) (g := f2) I2 (ClX.base_none I1 (Nat.le_refl _)) sc.fn (thn (ha.run p3 _ _ σ H _ I2 q) fun us s3 ⟨vs, H3, I3, r, q3⟩ => ⟨⟨ClX.pin_at I3, I3.kIn⟩, ?_⟩) hst hpl
      have hl : (Value.ref a :: us).length = ps.length := by
        have z := F2.len _ _ _ _ q3
        rw [← z, List.length_cons, List.length_cons, r.length]
      have hbt := hb s3 (.ref a :: us) I3.kIn (by rw [List.append_nil]; exact hl)
      rw [List.append_nil] at hbt
      refine wpAny_call (PySem.W.method_call (ClX.pin_at I3) (codeAny_mono (F2.run _ _ s3 H3 ⟨.ref a :: us, []⟩ (.ref a :: us) (.ref a :: vs) _ E hr I3.env0 hbt (.cons rfl r) q3) fun res s4 hq => ?_))
      match res, hq with
      | .error er, hq => exact hx _ σ H3 s3 er s4 I3 hq
      | .ok (.ret v), hq =>
        obtain ⟨v', H4, I4, rv, q4⟩ := I3.after hq
        exact hrest pins s4 σ H4 Dd (ClX.unpin (ClX.unpin I4)) q4
      | .ok .next, hq => exact hq.elim
      | .ok .brk, hq => exact hq.elim
      | .ok .cont, hq => exact hq.elim
end
end LG
/-! Instances of own classes with a dict: repr(x), str(x) by own defs. -/
namespace LG
open PySem PySem.Spec PyProof.Rows L2
section
variable {X : Cx} {k : Nat} {C g : Addr} {sp : Sp} {E : XK} {pins : List (Addr × Obj)} {σ : L2.St} {H : Hp} {s : Shared}
/-- a promise kept one call deeper -/
theorem run_FnIn {Q : VK} {us : List Value} {vs : List V} (F : Fn X.prog X.w X.K X.mg X.base k g sp) (g0 : X.A.guards = some []) (hr : Room (k + 1) X.A) (hx : Passes (L2.CX X.prog X.w) X E) (I : Inv X pins σ H s) (r : Vals vs us) (h : sp vs H Q E) :
    wpAny (model X.prog X.w) X.A.in1 (call (.ref g) us) (EP X pins σ Q) X.xe s := by
  refine wpAny_call (codeAny_mono (F X.A.in1 X.stack s H us vs Q E g0 hr.in1 I.env0.in1 r h) fun res s' hq => ?_)
  match res, hq with
  | .error e, hq => exact hx pins σ H s e s' I hq
  | .ok (.ret u), hq => exact I.after hq
  | .ok .next, hq => exact hq.elim
  | .ok .brk, hq => exact hq.elim
  | .ok .cont, hq => exact hq.elim
/-- repr(x), x an instance of C -/
theorem call_reprOwn (hs : PySem.W.findIn X.K (.ref C) "__repr__" = some (some (.ref g))) (hf : PySem.W.isFn X.K (.ref g) = true) (F : Fn X.prog X.w X.K X.mg X.base k g sp) (g0 : X.A.guards = some []) (hr : Room (k + 1) X.A) (hx : Passes (L2.CX X.prog X.w) X E) :
    CallR X (.builtin "repr") (fun xs H Q => ∃ a dx fs, xs = [V.ref a] ∧ H a = some (.ins C dx fs) ∧ sp [.ref a] H (fun v H' => ∃ z, v = .str z ∧ Q v H') E) := by
  intro pins s σ H xs us Q I r h
  obtain ⟨a, dx, fs, rfl, hH, q⟩ := h
  obtain ⟨u, rfl, ru⟩ := vals1 r
  obtain rfl : u = Value.ref a := ru
  obtain ⟨mA, O, _, _, _, _⟩ := ins_get I.hok hH
  obtain ⟨odx, J, _⟩ := O.look
  obtain ⟨m, hF⟩ := I.fr
  refine PySem.W.repr_K hr.in1.units0 hF I.ok.mod.kin J hs hf (thn (run_FnIn (us := [.ref a]) (vs := [.ref a]) F g0 hr hx I (.cons rfl .nil) q) ?_)
  rintro v s' ⟨w', H', I', rv, z, rfl, q'⟩
  obtain ⟨t, rfl⟩ := rv
  exact ⟨.str z, H', I', ⟨t, rfl⟩, q'⟩
/-- .. two calls deeper -/
theorem run_FnIn2 {Q : VK} {us : List Value} {vs : List V} (F : Fn X.prog X.w X.K X.mg X.base k g sp) (g0 : X.A.guards = some []) (hr : Room (k + 2) X.A) (hx : Passes (L2.CX X.prog X.w) X E) (I : Inv X pins σ H s) (r : Vals vs us) (h : sp vs H Q E) :
    wpAny (model X.prog X.w) X.A.in1.in1 (call (.ref g) us) (EP X pins σ Q) X.xe s := by
  refine wpAny_call (codeAny_mono (F X.A.in1.in1 X.stack s H us vs Q E g0 hr.in1.in1 I.env0.in1.in1 r h) fun res s' hq => ?_)
  match res, hq with
  | .error e, hq => exact hx pins σ H s e s' I hq
  | .ok (.ret u), hq => exact I.after hq
  | .ok .next, hq => exact hq.elim
  | .ok .brk, hq => exact hq.elim
  | .ok .cont, hq => exact hq.elim
/-- str(x), x an instance of C -/
theorem call_strOwn (hs : PySem.W.findIn X.K (.ref C) "__str__" = some (some (.ref g))) (hf : PySem.W.isFn X.K (.ref g) = true) (F : Fn X.prog X.w X.K X.mg X.base k g sp) (g0 : X.A.guards = some []) (hr : Room (k + 2) X.A) (hx : Passes (L2.CX X.prog X.w) X E) :
    CallR X (.type "str") (fun xs H Q => ∃ a dx fs, xs = [V.ref a] ∧ H a = some (.ins C dx fs) ∧ sp [.ref a] H (fun v H' => ∃ z, v = .str z ∧ Q v H') E) := by
  intro pins s σ H xs us Q I r h
  obtain ⟨a, dx, fs, rfl, hH, q⟩ := h
  obtain ⟨u, rfl, ru⟩ := vals1 r
  obtain rfl : u = Value.ref a := ru
  obtain ⟨mA, O, _, _, _, _⟩ := ins_get I.hok hH
  obtain ⟨odx, J, _⟩ := O.look
  refine PySem.W.kso_call hr.in1.in1.units0 I.kIn J hs hf (thn (run_FnIn2 (us := [.ref a]) (vs := [.ref a]) F g0 hr hx I (.cons rfl .nil) q) ?_)
  rintro v s' ⟨w', H', I', rv, z, rfl, q'⟩
  obtain ⟨t, rfl⟩ := rv
  exact ⟨.str z, H', I', ⟨t, rfl⟩, q'⟩
end
end LG
/-! x == y, x an instance whose class has an own __eq__. -/
namespace LG
open PySem PySem.Spec PyProof.Rows L2
section
variable {X : Cx} {k : Nat} {C g : Addr} {sp : Sp} {E : XK} {pins : List (Addr × Obj)} {σ : L2.St} {H : Hp} {s : Shared}
theorem run_Fn0 {Q : VK} {us : List Value} {vs : List V} (F : Fn X.prog X.w X.K X.mg X.base k g sp) (g0 : X.A.guards = some []) (hr : Room k X.A) (hx : Passes (L2.CX X.prog X.w) X E) (I : Inv X pins σ H s) (r : Vals vs us) (h : sp vs H Q E) :
    wpAny (model X.prog X.w) X.A (call (.ref g) us) (EP X pins σ Q) X.xe s := by
  refine wpAny_call (codeAny_mono (F X.A X.stack s H us vs Q E g0 hr I.env0 r h) fun res s' hq => ?_)
  match res, hq with
  | .error e, hq => exact hx pins σ H s e s' I hq
  | .ok (.ret u), hq => exact I.after hq
  | .ok .next, hq => exact hq.elim
  | .ok .brk, hq => exact hq.elim
  | .ok .cont, hq => exact hq.elim
theorem looks_ty {y : V} {u tb : Value} (I : Inv X pins σ H s) (ry : RelV y u) (ty : TyX X.K H y tb) : PySem.W.Looks (model X.prog X.w) s.heap (typeOf u) tb := by
  obtain ⟨P, KX, hP, _⟩ := kit_of I ry ty
  exact KX.ty _ _ I.kIn hP
/-- x == y, y of a class that is not below x's -/
def rEqOwn (K : PySem.W.Frag) (C : Addr) (sp : Sp) (E : XK) : R2 := fun x y H Q => ∃ a dx fs tb, x = .ref a ∧ H a = some (.ins C dx fs) ∧ TyX K H y tb ∧ PySem.W.notFirst K C tb = true ∧ sp [x, y] H (fun v H' => ∃ b, v = .bl b ∧ Q v H') E
theorem op_eqOwn (hs : PySem.W.findIn X.K (.ref C) "__eq__" = some (some (.ref g))) (hf : PySem.W.isFn X.K (.ref g) = true) (F : Fn X.prog X.w X.K X.mg X.base k g sp) (g0 : X.A.guards = some []) (hr : Room k X.A) (hx : Passes (L2.CX X.prog X.w) X E) : OpR X (compareOp .Eq) (rEqOwn X.K C sp E) := by
  intro pins s σ H x y v u Q I rx ry h
  obtain ⟨a, dx, fs, tb, rfl, hH, ty, hn, q⟩ := h
  obtain rfl : v = Value.ref a := rx
  obtain ⟨mA, O, _, _, _, _⟩ := ins_get I.hok hH
  obtain ⟨odx, J, _⟩ := O.look
  obtain ⟨m, hF⟩ := I.fr
  show wpAny _ _ (richCompare .Eq (.ref a) u) _ _ _
  refine PySem.W.cmp_K (op := .Eq) (tb := tb) hr.units0 hF I.ok.mod.kin J (looks_ty I ry ty) hn hs hf (thn (run_Fn0 (us := [.ref a, u]) (vs := [.ref a, y]) F g0 hr hx I (.cons rfl (.cons ry .nil)) q) ?_)
  rintro v s' ⟨w', H', I', rv, b, rfl, q'⟩
  obtain rfl : v = Value.bool b := rv
  exact ⟨.bl b, H', I', rfl, q'⟩
end
end LG
/-! x != y, x an instance whose class has an own __eq__ and no own __ne__. -/
namespace LG
open PySem PySem.Spec PyProof.Rows L2
section
variable {prog : Program} {w : World} {A : Around} {E : Value → Shared → Prop} {s : Shared} {K : PySem.W.Frag} {x C f : Addr} {ox : Obj} {od : Option Obj} {u tb : Value}
theorem ne_entry {Q : Fin → Shared → Prop} (X : K.In s.heap) (I : PySem.W.InstAt s.heap x ox C od) (hs : PySem.W.findIn K (.ref C) "__eq__" = some (some (.ref f))) (hf : PySem.W.isFn K (.ref f) = true) (hu : A.units < cLine)
    (h : wpAny (model prog w) A (call (.ref f) [.ref x, u]) (fun v s' => ∃ b, v = .bool b ∧ Q (.done (.ret (.bool (!b)))) s') E s) : wpAny (model prog w) A (Builtin.«object.__ne__» ⟨[.ref x, u], []⟩) Q E s := by
  unfold Builtin.«object.__ne__»
  have key : wpAny (model prog w) A (callSpecialIfBound? (.ref x) "__eq__" [u]) (fun r s' => ∃ b, r = some (.bool b) ∧ Q (.done (.ret (.bool (!b)))) s') E s := PySem.W.ifBound_K X I hs hf (wpAny_mono h (fun v s' ⟨b, e, q⟩ => ⟨b, by rw [e], q⟩) fun _ _ z => z)
  refine wpAny_bind (wpAny_pure ?_)
  dsimp only
  refine wpAny_bind (wpAny_cRoomFor hu ?_)
  refine wpAny_bind (wpAny_mono key (fun r s' hr => ?_) fun _ _ z => z)
  obtain ⟨b, rfl, q⟩ := hr
  repeat wp_step
  exact q
/-- (x).__ne__(u), asked by a comparison -/
theorem tryNe {Q : Option Value → Shared → Prop} (X : K.In s.heap) (I : PySem.W.InstAt s.heap x ox C od) (hm : PySem.W.mroIn K C (.type "object") = some true) (hne : PySem.W.findIn K (.ref C) "__ne__" = some (some (.builtin "object.__ne__"))) (hs : PySem.W.findIn K (.ref C) "__eq__" = some (some (.ref f)))
    (hf : PySem.W.isFn K (.ref f) = true) (hu : A.in1.units < cLine) (h : wpAny (model prog w) A.in1 (call (.ref f) [.ref x, u]) (fun v s' => ∃ b, v = .bool b ∧ Q (some (.bool (!b))) s') E s) : wpAny (model prog w) A (tryCompare (.ref x) "__ne__" u) Q E s := by
  have body : wpAny (model prog w) A (call (.builtin "object.__ne__") [.ref x, u]) (fun v s' => ∃ b, v = .bool b ∧ Q (some v) s') E s :=
    wpAny_call (codeAny_call_builtin F.cmp_object.ne.plain F.cmpEntry_ne (PySem.W.check_slot F.cmpKind_ne F.cmpSplit_ne (I.type.andThen (PySem.W.looks_mroIn X hm)) (F.cmpArgs_ne _ _) (ne_entry X I hs hf hu (wpAny_mono h (fun v s' ⟨b, e, q⟩ => ⟨b, e, ⟨!b, rfl, q⟩⟩) fun _ _ z => z))))
  have fin : wpAny (model prog w) A (call (.builtin "object.__ne__") ([.ref x] ++ [u]) >>= fun v => pure (some v)) (fun r s' => ∃ b, r = some (.bool b) ∧ Q r s') E s := wpAny_bind (wpAny_mono body (fun v s' ⟨b, e, q⟩ => wpAny_pure ⟨b, by rw [e], q⟩) fun _ _ z => z)
  unfold tryCompare
  refine wpAny_bind (wpAny_mono (Q := fun r s' => ∃ b, r = some (.bool b) ∧ Q r s') ?_ (fun r s' hr => ?_) fun _ _ z => z)
  · simp only [callSpecialIfBound?, bindSpecialIfBound?]
    refine wpAny_holding (wpAny_bind (wpAny_bind (wpAny_bind (I.type.here ((PySem.W.looks_findIn X hne).here ?_)))))
    refine wpAny_bind (wpAny_askSetting (wpAny_ite ?_))
    split
    · exact wpAny_bind (wpAny_of_eq (F.cmp_object.ne.bind _) (wpAny_pure (by exact fin)))
    · exact wpAny_tryCatch (wpAny_bind (wpAny_of_eq (F.cmp_object.ne.bind _) (wpAny_pure (by exact fin))))
  · obtain ⟨b, rfl, q⟩ := hr
    exact wpAny_pure q
theorem rc_ne {Q : Value → Shared → Prop} (X : K.In s.heap) (I : PySem.W.InstAt s.heap x ox C od) (hb : PySem.W.Looks (model prog w) s.heap (typeOf u) tb) (hn : PySem.W.notFirst K C tb = true) (hm : PySem.W.mroIn K C (.type "object") = some true)
    (hne : PySem.W.findIn K (.ref C) "__ne__" = some (some (.builtin "object.__ne__"))) (hs : PySem.W.findIn K (.ref C) "__eq__" = some (some (.ref f))) (hf : PySem.W.isFn K (.ref f) = true) (hu : A.units < cLine) (hu1 : A.in1.units < cLine)
    (h : wpAny (model prog w) A.in1 (call (.ref f) [.ref x, u]) (fun v s' => ∃ b, v = .bool b ∧ Q (.bool (!b)) s') E s) : wpAny (model prog w) A (richCompare .NotEq (.ref x) u) Q E s := by
  have one : wpAny (model prog w) A (tryCompare (.ref x) "__ne__" u) (fun r s' => ∃ v, r = some v ∧ Q v s') E s := tryNe X I hm hne hs hf hu1 (wpAny_mono h (fun v s' ⟨b, e, q⟩ => ⟨b, e, ⟨_, rfl, q⟩⟩) fun _ _ z => z)
  unfold richCompare
  simp only [PySem.oneThing_ref]
  refine wpAny_holding (wpAny_bind (wpAny_cRoomFor hu ?_))
  refine wpAny_bind (I.type.here (wpAny_bind (hb.here ?_)))
  split
  · rename_i q
    have e : PySem.W.subIn K tb (.ref C) = some false := by
      rcases Bool.or_eq_true_iff.mp hn with e | e
      · rw [beq_iff_eq.mp e] at q
        simp at q
      · exact beq_iff_eq.mp e
    refine wpAny_bind ((PySem.W.looks_subIn X e).here ?_)
    simp only [Bool.false_eq_true, if_false]
    refine wpAny_bind (wpAny_mono one (fun r s' z => ?_) fun _ _ e => e)
    obtain ⟨v, rfl, hq⟩ := z
    exact wpAny_pure hq
  · refine wpAny_bind (wpAny_pure ?_)
    simp only [Bool.false_eq_true, if_false]
    refine wpAny_bind (wpAny_mono one (fun r s' z => ?_) fun _ _ e => e)
    obtain ⟨v, rfl, hq⟩ := z
    exact wpAny_pure hq
end
section
variable {X : Cx} {k : Nat} {C g : Addr} {sp : Sp} {E : XK}
/-- x != y -/
def rNeOwn (K : PySem.W.Frag) (C : Addr) (sp : Sp) (E : XK) : R2 := fun x y H Q => ∃ a dx fs tb, x = .ref a ∧ H a = some (.ins C dx fs) ∧ TyX K H y tb ∧ PySem.W.notFirst K C tb = true ∧ sp [x, y] H (fun v H' => ∃ b, v = .bl b ∧ Q (.bl (!b)) H') E
theorem op_neOwn (hm : PySem.W.mroIn X.K C (.type "object") = some true) (hne : PySem.W.findIn X.K (.ref C) "__ne__" = some (some (.builtin "object.__ne__"))) (hs : PySem.W.findIn X.K (.ref C) "__eq__" = some (some (.ref g))) (hf : PySem.W.isFn X.K (.ref g) = true)
    (F : Fn X.prog X.w X.K X.mg X.base k g sp) (g0 : X.A.guards = some []) (hr : Room (k + 1) X.A) (hx : Passes (L2.CX X.prog X.w) X E) : OpR X (compareOp .NotEq) (rNeOwn X.K C sp E) := by
  intro pins s σ H x y v u Q I rx ry h
  obtain ⟨a, dx, fs, tb, rfl, hH, ty, hn, q⟩ := h
  obtain rfl : v = Value.ref a := rx
  obtain ⟨mA, O, _, _, _, _⟩ := ins_get I.hok hH
  obtain ⟨odx, J, _⟩ := O.look
  show wpAny _ _ (richCompare .NotEq (.ref a) u) _ _ _
  refine rc_ne I.kIn J (looks_ty I ry ty) hn hm hne hs hf hr.units0 hr.in1.units0 (thn (run_FnIn (us := [.ref a, u]) (vs := [.ref a, y]) F g0 hr hx I (.cons rfl (.cons ry .nil)) q) ?_)
  rintro v s' ⟨w', H', I', rv, b, rfl, q'⟩
  obtain rfl : v = Value.bool b := rv
  exact ⟨b, rfl, .bl (!b), H', I', rfl, q'⟩
end
end LG
/-! x & y, x | y: two instances of own classes that have one own def for the sign. -/
namespace PySem.W
open PySem PySem.Calls PyProof.Rows
section
variable {prog : Program} {w : World} {A : Around} {E : Value → Shared → Prop} {s : Shared} {K : Frag} {x C C2 L f f' : Addr} {h₀ : Heap} {m : Str → Option Value} {ox : Obj} {od : Option Obj}
theorem binop_CC {op : Operator} {b : Value} {rc rc' : Option Value} {Q : Value → Shared → Prop} (F : Fr h₀ L s.heap m) (X₀ : K.In h₀) (I : InstAt s.heap x ox C od) (hb : Looks (model prog w) s.heap (typeOf b) (.ref C2)) (hne0 : C ≠ C2) (hc : selfFirst K C = true) (hc2 : selfFirst K C2 = true)
    (hs : findIn K (.ref C) (PySem.dunder op.info.2) = some (some (.ref f))) (hf : isFn K (.ref f) = true) (hr : findIn K (.ref C) (dunderR op.info.2) = some rc) (hp : rc = none ∨ ∃ g : Addr, rc = some (.ref g))
    (hs2 : findIn K (.ref C2) (PySem.dunder op.info.2) = some (some (.ref f'))) (hr2 : findIn K (.ref C2) (dunderR op.info.2) = some rc') (hp2 : rc' = none ∨ ∃ g : Addr, rc' = some (.ref g)) (hsub : subIn K (.ref C2) (.ref C) = some false)
    (h : wpAny (model prog w) A (call (.ref f) [.ref x, b]) (CmpBack Q) E s) : wpAny (model prog w) A (binaryOp op (.ref x) b) Q E s := by
  have X := X₀.keeps F.keep
  obtain ⟨cd, rest, hcd, hm⟩ := ksp_first hc
  obtain ⟨cd2, rest2, hcd2, hm2⟩ := ksp_first hc2
  rcases hi : op.info with ⟨sym, nm'⟩
  rw [hi] at hs hr hs2 hr2
  dsimp only at hs hr hs2 hr2
  have one := ksp_try X I hs hf h
  obtain ⟨hh, g, d, tt, os⟩ := s
  have L1 : Looks (model prog w) hh (typeOf (.ref x)) (.ref C) := I.type
  have L2 : Looks (model prog w) hh (typeOf b) (.ref C2) := hb
  have L3 : Looks (model prog w) hh (fillsNumberSlot (.ref C) nm') true := fills_K X hcd hm hs
  have L4 : Looks (model prog w) hh (fillsNumberSlot (.ref C2) nm') true := fills_K X hcd2 hm2 hs2
  have L5 : Looks (model prog w) hh (isSubtype (.ref C2) (.ref C)) false := looks_subIn X hsub
  have L6 : Looks (model prog w) hh (numberSlotInPython (.ref C) nm') true := ksp_inPy X hs hr hp
  have L7 : Looks (model prog w) hh (numberSlotInPython (.ref C2) nm') true := ksp_inPy X hs2 hr2 hp2
  have hne : (Value.ref C == Value.ref C2) = false := Bool.eq_false_iff.mpr fun q => hne0 (Value.ref.inj (beq_iff_eq.mp q))
  simp only [binaryOp, hi]
  refine wpAny_holding (wpAny_bind ?_)
  unfold binaryOp1
  refine wpAny_bind (L1.at (wpAny_bind (L2.at (wpAny_bind (L3.at ?_)))))
  simp only [hne, Bool.false_eq_true, if_false]
  ksp_lk
  refine wpAny_mono one (fun r s' hr' => ?_) fun _ _ e => e
  obtain ⟨v, rfl, hq⟩ := hr'
  ksp_lk
  exact hq
end
end PySem.W
namespace LG
open PySem PySem.Spec PyProof.Rows L2
/-- what a class must have for the sign nm: its own def at g, no reflected one in C's way -/
structure BinC (K : PySem.W.Frag) (C g : Addr) (nm : String) : Prop where
  first : PySem.W.selfFirst K C = true
  at_ : PySem.W.findIn K (.ref C) (PySem.dunder nm) = some (some (.ref g))
  refl : PySem.W.findIn K (.ref C) (dunderR nm) = some none
section
variable {X : Cx} {k : Nat} {g : Addr} {sp : Sp} {E : XK}
/-- x op y, both of classes whose def for it is at g -/
def rBinOwn (K : PySem.W.Frag) (g : Addr) (nm : String) (sp : Sp) (E : XK) : R2 := fun x y H Q => ∃ a C dx fs b C2 dy gs, x = .ref a ∧ H a = some (.ins C dx fs) ∧ y = .ref b ∧ H b = some (.ins C2 dy gs) ∧ BinC K C g nm ∧ BinC K C2 g nm ∧ (C = C2 ∨ PySem.W.subIn K (.ref C2) (.ref C) = some false) ∧ sp [x, y] H (fun v H' => ∃ c, v = .ref c ∧ Q v H') E
theorem op_binOwn {op : Operator} (hf : PySem.W.isFn X.K (.ref g) = true) (F : Fn X.prog X.w X.K X.mg X.base k g sp) (g0 : X.A.guards = some []) (hr : Room k X.A) (hx : Passes (L2.CX X.prog X.w) X E) : OpR X (binaryOp op) (rBinOwn X.K g op.info.2 sp E) := by
  intro pins s σ H x y v u Q I rx ry h
  obtain ⟨a, C, dx, fs, b, C2, dy, gs, rfl, hH, rfl, hH2, c1, c2, hcc, q⟩ := h
  obtain rfl : v = Value.ref a := rx
  obtain rfl : u = Value.ref b := ry
  obtain ⟨mA, O, _, _, _, _⟩ := ins_get I.hok hH
  obtain ⟨odx, J, _⟩ := O.look
  obtain ⟨mB, O2, _, _, _, _⟩ := ins_get I.hok hH2
  obtain ⟨ody, J2, _⟩ := O2.look
  obtain ⟨m, hF⟩ := I.fr
  have run : wpAny (model X.prog X.w) X.A (call (.ref g) [.ref a, .ref b]) (PySem.W.CmpBack (EP X pins σ Q)) X.xe s := by
    refine thn (run_Fn0 (us := [.ref a, .ref b]) (vs := [.ref a, .ref b]) F g0 hr hx I (.cons rfl (.cons rfl .nil)) q) ?_
    rintro v s' ⟨w', H', I', rv, c, rfl, q'⟩
    obtain rfl : v = Value.ref c := rv
    exact ⟨.ref c, H', I', rfl, q'⟩
  by_cases hne : C = C2
  · subst hne
    exact PySem.W.binop_K hF I.ok.mod.kin J J2.type c1.first c1.at_ hf run
  · rcases hcc with z | z
    · exact absurd z hne
    · exact PySem.W.binop_CC hF I.ok.mod.kin J J2.type hne c1.first c2.first c1.at_ hf c1.refl (.inl rfl) c2.at_ c2.refl (.inl rfl) z run
end
end LG
namespace K16
open PySem PySem.Spec PyProof.Rows L2 LG
def top (i : Nat) : Stmt := PySem.Challenge.pw_rankchances_k16_same_and_never_above.main.body.getD i (.Pass ⟨0, 0, 0, 0⟩)
abbrev s__wall : Stmt := top 0
abbrev s_is_integer : Stmt := top 11
abbrev s_is_end : Stmt := top 12
abbrev s_is_value : Stmt := top 13
abbrev s_is_not_less : Stmt := top 14
abbrev s_least_of : Stmt := top 15
abbrev s_greatest_of : Stmt := top 16
abbrev s_is_place : Stmt := top 20
abbrev s_want_term : Stmt := top 21
abbrev s_want_terms : Stmt := top 22
abbrev s_depth_above : Stmt := top 23
abbrev s_want_values : Stmt := top 24
abbrev s_value_at : Stmt := top 25
abbrev s_places_in : Stmt := top 26
abbrev s_term_text : Stmt := top 27
abbrev s_term_repr : Stmt := top 28
abbrev s_is_within : Stmt := top 35
abbrev s_least_sets : Stmt := top 36
abbrev s_found_form : Stmt := top 37
abbrev s_is_above : Stmt := top 38
abbrev s_is_same : Stmt := top 39
abbrev s_is_never_above : Stmt := top 40
abbrev s_showing : Stmt := top 41
abbrev s__law_pot : Stmt := top 43
abbrev s__law_draw : Stmt := top 44
abbrev s__law_pick : Stmt := top 45
abbrev s__law_number : Stmt := top 46
abbrev s__law_shown : Stmt := top 47
abbrev s__law_places : Stmt := top 48
abbrev s__law_term : Stmt := top 49
abbrev s__law_joined : Stmt := top 50
abbrev s__law_real : Stmt := top 51
abbrev s__law_of : Stmt := top 52
abbrev s__law_numbers : Stmt := top 53
abbrev s__law_spots : Stmt := top 54
abbrev s__law_all_ends : Stmt := top 55
abbrev s__law_beside : Stmt := top 56
abbrev s__law_is_shown : Stmt := top 57
abbrev s__law_pair_right : Stmt := top 58
abbrev s__law_asked : Stmt := top 59
abbrev s__law_told : Stmt := top 60
abbrev s__law_right : Stmt := top 61
abbrev s_law : Stmt := top 62
abbrev s_init : Stmt := inClass (top 2) 0
abbrev s_Term_init : Stmt := inClass (top 29) 0
abbrev s_Term_depth : Stmt := inClass (top 29) 1
abbrev s_Term_at : Stmt := inClass (top 29) 2
abbrev s_Term_places : Stmt := inClass (top 29) 3
abbrev s_Term_turned : Stmt := inClass (top 29) 4
abbrev s_Term_put : Stmt := inClass (top 29) 5
abbrev s_Term_and : Stmt := inClass (top 29) 6
abbrev s_Term_or : Stmt := inClass (top 29) 7
abbrev s_Term_str : Stmt := inClass (top 29) 8
abbrev s_Term_repr : Stmt := inClass (top 29) 9
abbrev s_Term_eq : Stmt := inClass (top 29) 10
abbrev s_Place_init : Stmt := inClass (top 30) 0
abbrev s_Place_name : Stmt := inClass (top 30) 1
abbrev s_End_init : Stmt := inClass (top 31) 0
abbrev s_End_end : Stmt := inClass (top 31) 1
abbrev s_Lesser_init : Stmt := inClass (top 32) 0
abbrev s_Lesser_parts : Stmt := inClass (top 32) 1
abbrev s_Greater_init : Stmt := inClass (top 33) 0
abbrev s_Greater_parts : Stmt := inClass (top 33) 1
theorem sc__wall : FnScope ["k"] ["k"] (defScope s__wall) := ⟨rfl, rfl, rfl, by decide +kernel, rfl, by decide +kernel, by decide +kernel⟩
theorem sc_is_integer : FnScope ["value"] ["value"] (defScope s_is_integer) := ⟨rfl, rfl, rfl, by decide +kernel, rfl, by decide +kernel, by decide +kernel⟩
theorem sc_is_end : FnScope ["value"] ["value"] (defScope s_is_end) := ⟨rfl, rfl, rfl, by decide +kernel, rfl, by decide +kernel, by decide +kernel⟩
theorem sc_is_value : FnScope ["value"] ["value"] (defScope s_is_value) := ⟨rfl, rfl, rfl, by decide +kernel, rfl, by decide +kernel, by decide +kernel⟩
theorem sc_is_not_less : FnScope ["one", "other"] ["one", "other"] (defScope s_is_not_less) := ⟨rfl, rfl, rfl, by decide +kernel, rfl, by decide +kernel, by decide +kernel⟩
theorem sc_least_of : FnScope ["values", "found", "value"] ["values"] (defScope s_least_of) := ⟨rfl, rfl, rfl, by decide +kernel, rfl, by decide +kernel, by decide +kernel⟩
theorem sc_greatest_of : FnScope ["values", "found", "value"] ["values"] (defScope s_greatest_of) := ⟨rfl, rfl, rfl, by decide +kernel, rfl, by decide +kernel, by decide +kernel⟩
theorem sc_is_place : FnScope ["value"] ["value"] (defScope s_is_place) := ⟨rfl, rfl, rfl, by decide +kernel, rfl, by decide +kernel, by decide +kernel⟩
theorem sc_want_term : FnScope ["value"] ["value"] (defScope s_want_term) := ⟨rfl, rfl, rfl, by decide +kernel, rfl, by decide +kernel, by decide +kernel⟩
theorem sc_want_terms : FnScope ["values", "value"] ["values"] (defScope s_want_terms) := ⟨rfl, rfl, rfl, by decide +kernel, rfl, by decide +kernel, by decide +kernel⟩
theorem sc_depth_above : FnScope ["terms", "term"] ["terms"] (defScope s_depth_above) := ⟨rfl, rfl, rfl, by decide +kernel, rfl, by decide +kernel, by decide +kernel⟩
theorem sc_want_values : FnScope ["values", "places", "place"] ["values", "places"] (defScope s_want_values) := ⟨rfl, rfl, rfl, by decide +kernel, rfl, by decide +kernel, by decide +kernel⟩
theorem sc_value_at : FnScope ["term", "values", "found", "part"] ["term", "values"] (defScope s_value_at) := ⟨rfl, rfl, rfl, by decide +kernel, rfl, by decide +kernel, by decide +kernel⟩
theorem sc_places_in : FnScope ["term", "found", "part"] ["term"] (defScope s_places_in) := ⟨rfl, rfl, rfl, by decide +kernel, rfl, by decide +kernel, by decide +kernel⟩
theorem sc_term_text : FnScope ["term", "texts", "part"] ["term"] (defScope s_term_text) := ⟨rfl, rfl, rfl, by decide +kernel, rfl, by decide +kernel, by decide +kernel⟩
theorem sc_term_repr : FnScope ["term", "inner", "part"] ["term"] (defScope s_term_repr) := ⟨rfl, rfl, rfl, by decide +kernel, rfl, by decide +kernel, by decide +kernel⟩
theorem sc_is_within : FnScope ["part", "places", "place"] ["part", "places"] (defScope s_is_within) := ⟨rfl, rfl, rfl, by decide +kernel, rfl, by decide +kernel, by decide +kernel⟩
theorem sc_least_sets : FnScope ["sets", "found", "places", "one"] ["sets"] (defScope s_least_sets) := ⟨rfl, rfl, rfl, by decide +kernel, rfl, by decide +kernel, by decide +kernel⟩
theorem sc_found_form : FnScope ["term", "forms", "form", "other", "part", "one", "more"] ["term"] (defScope s_found_form) := ⟨rfl, rfl, rfl, by decide +kernel, rfl, by decide +kernel, by decide +kernel⟩
theorem sc_is_above : FnScope ["one", "other", "places", "part"] ["one", "other"] (defScope s_is_above) := ⟨rfl, rfl, rfl, by decide +kernel, rfl, by decide +kernel, by decide +kernel⟩
theorem sc_is_same : FnScope ["one", "other"] ["one", "other"] (defScope s_is_same) := ⟨rfl, rfl, rfl, by decide +kernel, rfl, by decide +kernel, by decide +kernel⟩
theorem sc_is_never_above : FnScope ["one", "other"] ["one", "other"] (defScope s_is_never_above) := ⟨rfl, rfl, rfl, by decide +kernel, rfl, by decide +kernel, by decide +kernel⟩
theorem sc_showing : FnScope ["one", "other", "places", "place"] ["one", "other"] (defScope s_showing) := ⟨rfl, rfl, rfl, by decide +kernel, rfl, by decide +kernel, by decide +kernel⟩
theorem sc__law_pot : FnScope ["script", "k", "cell"] ["script", "k"] (defScope s__law_pot) := ⟨rfl, rfl, rfl, by decide +kernel, rfl, by decide +kernel, by decide +kernel⟩
theorem sc__law_draw : FnScope ["pot", "many", "digit"] ["pot", "many"] (defScope s__law_draw) := ⟨rfl, rfl, rfl, by decide +kernel, rfl, by decide +kernel, by decide +kernel⟩
theorem sc__law_pick : FnScope ["pot", "some"] ["pot", "some"] (defScope s__law_pick) := ⟨rfl, rfl, rfl, by decide +kernel, rfl, by decide +kernel, by decide +kernel⟩
theorem sc__law_number : FnScope ["thing"] ["thing"] (defScope s__law_number) := ⟨rfl, rfl, rfl, by decide +kernel, rfl, by decide +kernel, by decide +kernel⟩
theorem sc__law_shown : FnScope ["number"] ["number"] (defScope s__law_shown) := ⟨rfl, rfl, rfl, by decide +kernel, rfl, by decide +kernel, by decide +kernel⟩
theorem sc__law_places : FnScope ["pot", "left", "turn"] ["pot"] (defScope s__law_places) := ⟨rfl, rfl, rfl, by decide +kernel, rfl, by decide +kernel, by decide +kernel⟩
theorem sc__law_term : FnScope ["pot", "places", "deep", "way", "word", "turn"] ["pot", "places", "deep"] (defScope s__law_term) := ⟨rfl, rfl, rfl, by decide +kernel, rfl, by decide +kernel, by decide +kernel⟩
theorem sc__law_joined : FnScope ["word", "p"] ["word", "p"] (defScope s__law_joined) := ⟨rfl, rfl, rfl, by decide +kernel, rfl, by decide +kernel, by decide +kernel⟩
theorem sc__law_real : FnScope ["term", "part"] ["term"] (defScope s__law_real) := ⟨rfl, rfl, rfl, by decide +kernel, rfl, by decide +kernel, by decide +kernel⟩
theorem sc__law_of : FnScope ["term", "there", "parts", "part"] ["term", "there"] (defScope s__law_of) := ⟨rfl, rfl, rfl, by decide +kernel, rfl, by decide +kernel, by decide +kernel⟩
theorem sc__law_numbers : FnScope ["told", "spot"] ["told"] (defScope s__law_numbers) := ⟨rfl, rfl, rfl, by decide +kernel, rfl, by decide +kernel, by decide +kernel⟩
theorem sc__law_spots : FnScope ["term", "found", "part"] ["term"] (defScope s__law_spots) := ⟨rfl, rfl, rfl, by decide +kernel, rfl, by decide +kernel, by decide +kernel⟩
theorem sc__law_all_ends : FnScope ["spots", "found", "spot", "longer", "told", "number", "wider"] ["spots"] (defScope s__law_all_ends) := ⟨rfl, rfl, rfl, by decide +kernel, rfl, by decide +kernel, by decide +kernel⟩
theorem sc__law_beside : FnScope ["pot", "term", "places", "way", "more"] ["pot", "term", "places"] (defScope s__law_beside) := ⟨rfl, rfl, rfl, by decide +kernel, rfl, by decide +kernel, by decide +kernel⟩
theorem sc__law_is_shown : FnScope ["term", "rival", "told", "spots", "there", "spot"] ["term", "rival", "told"] (defScope s__law_is_shown) := ⟨rfl, rfl, rfl, by decide +kernel, rfl, by decide +kernel, by decide +kernel⟩
theorem sc__law_pair_right : FnScope ["term", "rival", "spots", "pairs", "due", "told", "made", "real", "there", "mine", "its"] ["term", "rival"] (defScope s__law_pair_right) := ⟨rfl, rfl, rfl, by decide +kernel, rfl, by decide +kernel, by decide +kernel⟩
theorem sc__law_asked : FnScope ["way", "mine", "its"] ["way", "mine", "its"] (defScope s__law_asked) := ⟨rfl, rfl, rfl, by decide +kernel, rfl, by decide +kernel, by decide +kernel⟩
theorem sc__law_told : FnScope ["way", "mine", "its", "found", "e"] ["way", "mine", "its"] (defScope s__law_told) := ⟨rfl, rfl, rfl, by decide +kernel, rfl, by decide +kernel, by decide +kernel⟩
theorem sc__law_right : FnScope ["pot", "places", "term", "turn", "made", "way", "rival", "odd", "more"] ["pot"] (defScope s__law_right) := ⟨rfl, rfl, rfl, by decide +kernel, rfl, by decide +kernel, by decide +kernel⟩
theorem sc_law : FnScope ["script", "k"] ["script"] (defScope s_law) := ⟨rfl, rfl, rfl, by decide +kernel, rfl, by decide +kernel, by decide +kernel⟩
theorem sc_Term_init : FnScope ["self", "depth"] ["self", "depth"] (defScope s_Term_init) := ⟨rfl, rfl, rfl, by decide +kernel, rfl, by decide +kernel, by decide +kernel⟩
theorem sc_Term_depth : FnScope ["self"] ["self"] (defScope s_Term_depth) := ⟨rfl, rfl, rfl, by decide +kernel, rfl, by decide +kernel, by decide +kernel⟩
theorem sc_Term_at : FnScope ["self", "values"] ["self", "values"] (defScope s_Term_at) := ⟨rfl, rfl, rfl, by decide +kernel, rfl, by decide +kernel, by decide +kernel⟩
theorem sc_Term_places : FnScope ["self", "place"] ["self"] (defScope s_Term_places) := ⟨rfl, rfl, rfl, by decide +kernel, rfl, by decide +kernel, by decide +kernel⟩
theorem sc_Term_turned : FnScope ["self"] ["self"] (defScope s_Term_turned) := ⟨rfl, rfl, rfl, by decide +kernel, rfl, by decide +kernel, by decide +kernel⟩
theorem sc_Term_put : FnScope ["self", "terms"] ["self", "terms"] (defScope s_Term_put) := ⟨rfl, rfl, rfl, by decide +kernel, rfl, by decide +kernel, by decide +kernel⟩
theorem sc_Term_and : FnScope ["self", "other"] ["self", "other"] (defScope s_Term_and) := ⟨rfl, rfl, rfl, by decide +kernel, rfl, by decide +kernel, by decide +kernel⟩
theorem sc_Term_or : FnScope ["self", "other"] ["self", "other"] (defScope s_Term_or) := ⟨rfl, rfl, rfl, by decide +kernel, rfl, by decide +kernel, by decide +kernel⟩
theorem sc_Term_str : FnScope ["self"] ["self"] (defScope s_Term_str) := ⟨rfl, rfl, rfl, by decide +kernel, rfl, by decide +kernel, by decide +kernel⟩
theorem sc_Term_repr : FnScope ["self"] ["self"] (defScope s_Term_repr) := ⟨rfl, rfl, rfl, by decide +kernel, rfl, by decide +kernel, by decide +kernel⟩
theorem sc_Term_eq : FnScope ["self", "other"] ["self", "other"] (defScope s_Term_eq) := ⟨rfl, rfl, rfl, by decide +kernel, rfl, by decide +kernel, by decide +kernel⟩
theorem sc_Place_init : NdefX.NScope ["self", "name", "__class__"] ["self", "name"] ["__class__"] (defScope s_Place_init) := NdefX.nscope_by (by decide +kernel)
theorem sc_Place_name : FnScope ["self"] ["self"] (defScope s_Place_name) := ⟨rfl, rfl, rfl, by decide +kernel, rfl, by decide +kernel, by decide +kernel⟩
theorem sc_End_init : NdefX.NScope ["self", "end", "__class__"] ["self", "end"] ["__class__"] (defScope s_End_init) := NdefX.nscope_by (by decide +kernel)
theorem sc_End_end : FnScope ["self"] ["self"] (defScope s_End_end) := ⟨rfl, rfl, rfl, by decide +kernel, rfl, by decide +kernel, by decide +kernel⟩
theorem sc_Lesser_init : NdefX.NScope ["self", "terms", "__class__"] ["self", "terms"] ["__class__"] (defScope s_Lesser_init) := NdefX.nscope_by (by decide +kernel)
theorem sc_Lesser_parts : FnScope ["self"] ["self"] (defScope s_Lesser_parts) := ⟨rfl, rfl, rfl, by decide +kernel, rfl, by decide +kernel, by decide +kernel⟩
theorem sc_Greater_init : NdefX.NScope ["self", "terms", "__class__"] ["self", "terms"] ["__class__"] (defScope s_Greater_init) := NdefX.nscope_by (by decide +kernel)
theorem sc_Greater_parts : FnScope ["self"] ["self"] (defScope s_Greater_parts) := ⟨rfl, rfl, rfl, by decide +kernel, rfl, by decide +kernel, by decide +kernel⟩
theorem sc_init : FnScope ["self", "value"] ["self", "value"] (defScope s_init) := ⟨rfl, rfl, rfl, by decide +kernel, rfl, by decide +kernel, by decide +kernel⟩
/-- where the things of the top stand -/
structure At where
  c_HeldError : Addr
  c_InvalidPlace : Addr
  c_InvalidEnd : Addr
  c_InvalidTerm : Addr
  c_InvalidValues : Addr
  k_Term : Addr
  k_Place : Addr
  k_End : Addr
  k_Lesser : Addr
  k_Greater : Addr
  init : Addr
  _wall : Addr
  is_integer : Addr
  is_end : Addr
  is_value : Addr
  is_not_less : Addr
  least_of : Addr
  greatest_of : Addr
  is_place : Addr
  want_term : Addr
  want_terms : Addr
  depth_above : Addr
  want_values : Addr
  value_at : Addr
  places_in : Addr
  term_text : Addr
  term_repr : Addr
  is_within : Addr
  least_sets : Addr
  found_form : Addr
  is_above : Addr
  is_same : Addr
  is_never_above : Addr
  showing : Addr
  _law_pot : Addr
  _law_draw : Addr
  _law_pick : Addr
  _law_number : Addr
  _law_places : Addr
  _law_term : Addr
  _law_joined : Addr
  _law_real : Addr
  _law_of : Addr
  _law_numbers : Addr
  _law_spots : Addr
  _law_all_ends : Addr
  _law_beside : Addr
  _law_is_shown : Addr
  _law_pair_right : Addr
  _law_asked : Addr
  _law_told : Addr
  _law_right : Addr
  law : Addr
  m_Term_init : Addr
  m_Term_depth : Addr
  p_Term_depth : Addr
  m_Term_at : Addr
  m_Term_places : Addr
  m_Term_turned : Addr
  m_Term_put : Addr
  m_Term_and : Addr
  m_Term_or : Addr
  m_Term_str : Addr
  m_Term_repr : Addr
  m_Term_eq : Addr
  m_Place_init : Addr
  w_Place_init : Addr
  o_Place_init : Addr
  m_Place_name : Addr
  p_Place_name : Addr
  m_End_init : Addr
  w_End_init : Addr
  o_End_init : Addr
  m_End_end : Addr
  p_End_end : Addr
  m_Lesser_init : Addr
  w_Lesser_init : Addr
  o_Lesser_init : Addr
  m_Lesser_parts : Addr
  p_Lesser_parts : Addr
  m_Greater_init : Addr
  w_Greater_init : Addr
  o_Greater_init : Addr
  m_Greater_parts : Addr
  p_Greater_parts : Addr
  t_BOTTOM : Tok
  t_TOP : Tok
  t_LEAST_PARTS : Tok
  ENDS : Addr
  PLACES : Addr
/-- a def of the text as the top has left it -/
structure GFn (K : PySem.W.Frag) (mg : Str → Option Value) (x : Str) (st : Stmt) (f : Addr) : Prop where
  m : mg x = some (.ref f)
  F : ∃ fd, Fun K x x st f fd
theorem GFn.kp {K : PySem.W.Frag} {mg : Str → Option Value} {x : Str} {st : Stmt} {f : Addr} (g : GFn K mg x st f) : PySem.W.keepIn K (.ref f) = true := let ⟨_, h⟩ := g.F; h.kp
/-- an error class: its __init__ is the base's -/
structure GEx (K : PySem.W.Frag) (mg : Str → Option Value) (x : Str) (C fI : Addr) : Prop where
  m : mg x = some (.ref C)
  o : OexC K C
  i : PySem.W.findIn K (.ref C) "__init__" = some (some (.ref fI))
  v : PySem.W.findIn K (.ref C) "value" = some none
  xf : XfC K C
  is : ExcC K C
/-- a method of an own class -/
structure GMe (K : PySem.W.Frag) (x qual : Str) (st : Stmt) (f : Addr) : Prop where
  F : ∃ fd, Fun K x qual st f fd
  fn : PySem.W.isFn K (.ref f) = true
/-- an own class that is made -/
structure GCl (K : PySem.W.Frag) (mg : Str → Option Value) (x : Str) (C : Addr) : Prop where
  m : mg x = some (.ref C)
  cl : Cls K C
  ha : PySem.W.findIn K (.ref C) "__class__" = some (some (.builtin "object.__class__"))
  hm : PySem.W.mroIn K C (.type "object") = some true
  ne : PySem.W.findIn K (.ref C) "__ne__" = some (some (.builtin "object.__ne__"))
  ki : PySem.W.clsIn K C ≠ none ∧ PySem.W.typeIn K (.ref C) = some (.type "type")
/-- a def of the text with defaults -/
structure GFd (K : PySem.W.Frag) (mg : Str → Option Value) (x : Str) (st : Stmt) (dvs : List V) (f : Addr) : Prop where
  m : mg x = some (.ref f)
  F : ∃ fd, FunD K x x (defArgs st) (defBody st) (defScope st) dvs [] f fd
theorem GFd.kp {K : PySem.W.Frag} {mg : Str → Option Value} {x : Str} {st : Stmt} {dvs : List V} {f : Addr} (g : GFd K mg x st dvs f) : PySem.W.keepIn K (.ref f) = true := let ⟨_, h⟩ := g.F; h.kp
structure Txt (K : PySem.W.Frag) (mg : Str → Option Value) (a : At) : Prop where
  d__wall : GFn K mg "_wall" s__wall a._wall
  d_is_integer : GFn K mg "is_integer" s_is_integer a.is_integer
  d_is_end : GFn K mg "is_end" s_is_end a.is_end
  d_is_value : GFn K mg "is_value" s_is_value a.is_value
  d_is_not_less : GFn K mg "is_not_less" s_is_not_less a.is_not_less
  d_least_of : GFn K mg "least_of" s_least_of a.least_of
  d_greatest_of : GFn K mg "greatest_of" s_greatest_of a.greatest_of
  d_is_place : GFn K mg "is_place" s_is_place a.is_place
  d_want_term : GFn K mg "want_term" s_want_term a.want_term
  d_want_terms : GFn K mg "want_terms" s_want_terms a.want_terms
  d_depth_above : GFn K mg "depth_above" s_depth_above a.depth_above
  d_want_values : GFn K mg "want_values" s_want_values a.want_values
  d_value_at : GFn K mg "value_at" s_value_at a.value_at
  d_places_in : GFn K mg "places_in" s_places_in a.places_in
  d_term_text : GFn K mg "term_text" s_term_text a.term_text
  d_term_repr : GFn K mg "term_repr" s_term_repr a.term_repr
  d_is_within : GFn K mg "is_within" s_is_within a.is_within
  d_least_sets : GFn K mg "least_sets" s_least_sets a.least_sets
  d_found_form : GFn K mg "found_form" s_found_form a.found_form
  d_is_above : GFn K mg "is_above" s_is_above a.is_above
  d_is_same : GFn K mg "is_same" s_is_same a.is_same
  d_is_never_above : GFn K mg "is_never_above" s_is_never_above a.is_never_above
  d_showing : GFn K mg "showing" s_showing a.showing
  d__law_pot : GFn K mg "_law_pot" s__law_pot a._law_pot
  d__law_draw : GFn K mg "_law_draw" s__law_draw a._law_draw
  d__law_pick : GFn K mg "_law_pick" s__law_pick a._law_pick
  d__law_number : GFn K mg "_law_number" s__law_number a._law_number
  d__law_places : GFn K mg "_law_places" s__law_places a._law_places
  d__law_term : GFn K mg "_law_term" s__law_term a._law_term
  d__law_joined : GFn K mg "_law_joined" s__law_joined a._law_joined
  d__law_real : GFn K mg "_law_real" s__law_real a._law_real
  d__law_of : GFn K mg "_law_of" s__law_of a._law_of
  d__law_numbers : GFn K mg "_law_numbers" s__law_numbers a._law_numbers
  d__law_spots : GFn K mg "_law_spots" s__law_spots a._law_spots
  d__law_all_ends : GFn K mg "_law_all_ends" s__law_all_ends a._law_all_ends
  d__law_beside : GFn K mg "_law_beside" s__law_beside a._law_beside
  d__law_is_shown : GFn K mg "_law_is_shown" s__law_is_shown a._law_is_shown
  d__law_pair_right : GFn K mg "_law_pair_right" s__law_pair_right a._law_pair_right
  d__law_asked : GFn K mg "_law_asked" s__law_asked a._law_asked
  d__law_told : GFn K mg "_law_told" s__law_told a._law_told
  d__law_right : GFn K mg "_law_right" s__law_right a._law_right
  d_law : GFn K mg "law" s_law a.law
  z_abs : mg "abs" = none
  z_all : mg "all" = none
  z_any : mg "any" = none
  z_bool : mg "bool" = none
  z_dict : mg "dict" = none
  z_divmod : mg "divmod" = none
  z_int : mg "int" = none
  z_isinstance : mg "isinstance" = none
  z_len : mg "len" = none
  z_list : mg "list" = none
  z_max : mg "max" = none
  z_min : mg "min" = none
  z_property : mg "property" = none
  z_range : mg "range" = none
  z_repr : mg "repr" = none
  z_set : mg "set" = none
  z_sorted : mg "sorted" = none
  z_str : mg "str" = none
  z_super : mg "super" = none
  z_tuple : mg "tuple" = none
  v_BOTTOM : mg "BOTTOM" = some (.str "bottom" a.t_BOTTOM)
  v_TOP : mg "TOP" = some (.str "top" a.t_TOP)
  v_LEAST_PARTS : mg "LEAST_PARTS" = some (.int 2 a.t_LEAST_PARTS)
  v_ENDS : mg "ENDS" = some (.ref a.ENDS)
  l_ENDS : ∃ (od : Option Addr) (its : List Value) (n : Nat) (sl : Array (Option Value)), K.lookup a.ENDS = some ⟨.type "tuple", od, .seq its.toArray n, sl⟩ ∧ Vals [.str "bottom", .str "top"] its
  v_PLACES : mg "PLACES" = some (.ref a.PLACES)
  l_PLACES : ∃ (od : Option Addr) (its : List Value) (n : Nat) (sl : Array (Option Value)), K.lookup a.PLACES = some ⟨.type "tuple", od, .seq its.toArray n, sl⟩ ∧ Vals [.str "r0", .str "r1", .str "r2", .str "r3", .str "r4", .str "r5", .str "x0", .str "x1"] its
  e_HeldError : GEx K mg "HeldError" a.c_HeldError a.init
  e_InvalidPlace : GEx K mg "InvalidPlace" a.c_InvalidPlace a.init
  e_InvalidEnd : GEx K mg "InvalidEnd" a.c_InvalidEnd a.init
  e_InvalidTerm : GEx K mg "InvalidTerm" a.c_InvalidTerm a.init
  e_InvalidValues : GEx K mg "InvalidValues" a.c_InvalidValues a.init
  ti : PySem.W.typeIn K (.ref a.init) = some (.type "function")
  di : ∃ fd, FunD K "__init__" "HeldError.__init__" (defArgs s_init) (defBody s_init) (defScope s_init) [.non] [] a.init fd
  hn : PySem.W.specialIn K (.builtin "object.__class__") "__get__" = some (some (.builtin "getset_descriptor.__get__"))
  htk : PySem.W.takesIn K (.builtin "object.__class__") = some true
  any : PySem.W.nsIn K cStatics "thirdparty.any" = some none
  g_Term : GCl K mg "Term" a.k_Term
  g_Place : GCl K mg "Place" a.k_Place
  g_End : GCl K mg "End" a.k_End
  g_Lesser : GCl K mg "Lesser" a.k_Lesser
  g_Greater : GCl K mg "Greater" a.k_Greater
  m_Term_init : GMe K "__init__" "Term.__init__" s_Term_init a.m_Term_init
  m_Term_depth : GMe K "depth" "Term.depth" s_Term_depth a.m_Term_depth
  m_Term_at : GMe K "at" "Term.at" s_Term_at a.m_Term_at
  m_Term_places : GMe K "places" "Term.places" s_Term_places a.m_Term_places
  m_Term_turned : GMe K "turned" "Term.turned" s_Term_turned a.m_Term_turned
  m_Term_put : GMe K "put" "Term.put" s_Term_put a.m_Term_put
  m_Term_and : GMe K "__and__" "Term.__and__" s_Term_and a.m_Term_and
  m_Term_or : GMe K "__or__" "Term.__or__" s_Term_or a.m_Term_or
  m_Term_str : GMe K "__str__" "Term.__str__" s_Term_str a.m_Term_str
  m_Term_repr : GMe K "__repr__" "Term.__repr__" s_Term_repr a.m_Term_repr
  m_Term_eq : GMe K "__eq__" "Term.__eq__" s_Term_eq a.m_Term_eq
  m_Place_init : FunS K "__init__" "Place.__init__" s_Place_init a.w_Place_init a.o_Place_init a.k_Place a.m_Place_init
  m_Place_name : GMe K "name" "Place.name" s_Place_name a.m_Place_name
  m_End_init : FunS K "__init__" "End.__init__" s_End_init a.w_End_init a.o_End_init a.k_End a.m_End_init
  m_End_end : GMe K "end" "End.end" s_End_end a.m_End_end
  m_Lesser_init : FunS K "__init__" "Lesser.__init__" s_Lesser_init a.w_Lesser_init a.o_Lesser_init a.k_Lesser a.m_Lesser_init
  m_Lesser_parts : GMe K "parts" "Lesser.parts" s_Lesser_parts a.m_Lesser_parts
  m_Greater_init : FunS K "__init__" "Greater.__init__" s_Greater_init a.w_Greater_init a.o_Greater_init a.k_Greater a.m_Greater_init
  m_Greater_parts : GMe K "parts" "Greater.parts" s_Greater_parts a.m_Greater_parts
  f_Term_init : PySem.W.findIn K (.ref a.k_Term) "__init__" = some (some (.ref a.m_Term_init))
  p_Term_depth : PropOf K a.k_Term "depth" a.p_Term_depth a.m_Term_depth
  f_Term_at : PySem.W.findIn K (.ref a.k_Term) "at" = some (some (.ref a.m_Term_at))
  f_Term_places : PySem.W.findIn K (.ref a.k_Term) "places" = some (some (.ref a.m_Term_places))
  f_Term_turned : PySem.W.findIn K (.ref a.k_Term) "turned" = some (some (.ref a.m_Term_turned))
  f_Term_put : PySem.W.findIn K (.ref a.k_Term) "put" = some (some (.ref a.m_Term_put))
  f_Term_and : PySem.W.findIn K (.ref a.k_Term) "__and__" = some (some (.ref a.m_Term_and))
  f_Term_or : PySem.W.findIn K (.ref a.k_Term) "__or__" = some (some (.ref a.m_Term_or))
  f_Term_str : PySem.W.findIn K (.ref a.k_Term) "__str__" = some (some (.ref a.m_Term_str))
  f_Term_repr : PySem.W.findIn K (.ref a.k_Term) "__repr__" = some (some (.ref a.m_Term_repr))
  f_Term_eq : PySem.W.findIn K (.ref a.k_Term) "__eq__" = some (some (.ref a.m_Term_eq))
  mk_Term : Mk K a.k_Term a.m_Term_init
  first_Term : PySem.W.selfFirst K a.k_Term = true
  rand_Term : PySem.W.findIn K (.ref a.k_Term) (PySem.dunderR "and") = some none
  ror_Term : PySem.W.findIn K (.ref a.k_Term) (PySem.dunderR "or") = some none
  na_Term_own_depth : NoAttr K a.k_Term "own_depth"
  f_Place_init : PySem.W.findIn K (.ref a.k_Place) "__init__" = some (some (.ref a.m_Place_init))
  p_Place_name : PropOf K a.k_Place "name" a.p_Place_name a.m_Place_name
  p_Place_depth : PropOf K a.k_Place "depth" a.p_Term_depth a.m_Term_depth
  f_Place_at : PySem.W.findIn K (.ref a.k_Place) "at" = some (some (.ref a.m_Term_at))
  f_Place_places : PySem.W.findIn K (.ref a.k_Place) "places" = some (some (.ref a.m_Term_places))
  f_Place_turned : PySem.W.findIn K (.ref a.k_Place) "turned" = some (some (.ref a.m_Term_turned))
  f_Place_put : PySem.W.findIn K (.ref a.k_Place) "put" = some (some (.ref a.m_Term_put))
  f_Place_and : PySem.W.findIn K (.ref a.k_Place) "__and__" = some (some (.ref a.m_Term_and))
  f_Place_or : PySem.W.findIn K (.ref a.k_Place) "__or__" = some (some (.ref a.m_Term_or))
  f_Place_str : PySem.W.findIn K (.ref a.k_Place) "__str__" = some (some (.ref a.m_Term_str))
  f_Place_repr : PySem.W.findIn K (.ref a.k_Place) "__repr__" = some (some (.ref a.m_Term_repr))
  f_Place_eq : PySem.W.findIn K (.ref a.k_Place) "__eq__" = some (some (.ref a.m_Term_eq))
  s_Place : SupC K a.k_Place a.k_Place a.m_Term_init "__init__"
  mk_Place : Mk K a.k_Place a.m_Place_init
  first_Place : PySem.W.selfFirst K a.k_Place = true
  rand_Place : PySem.W.findIn K (.ref a.k_Place) (PySem.dunderR "and") = some none
  ror_Place : PySem.W.findIn K (.ref a.k_Place) (PySem.dunderR "or") = some none
  na_Place_own_depth : NoAttr K a.k_Place "own_depth"
  na_Place_own_name : NoAttr K a.k_Place "own_name"
  f_End_init : PySem.W.findIn K (.ref a.k_End) "__init__" = some (some (.ref a.m_End_init))
  p_End_end : PropOf K a.k_End "end" a.p_End_end a.m_End_end
  p_End_depth : PropOf K a.k_End "depth" a.p_Term_depth a.m_Term_depth
  f_End_at : PySem.W.findIn K (.ref a.k_End) "at" = some (some (.ref a.m_Term_at))
  f_End_places : PySem.W.findIn K (.ref a.k_End) "places" = some (some (.ref a.m_Term_places))
  f_End_turned : PySem.W.findIn K (.ref a.k_End) "turned" = some (some (.ref a.m_Term_turned))
  f_End_put : PySem.W.findIn K (.ref a.k_End) "put" = some (some (.ref a.m_Term_put))
  f_End_and : PySem.W.findIn K (.ref a.k_End) "__and__" = some (some (.ref a.m_Term_and))
  f_End_or : PySem.W.findIn K (.ref a.k_End) "__or__" = some (some (.ref a.m_Term_or))
  f_End_str : PySem.W.findIn K (.ref a.k_End) "__str__" = some (some (.ref a.m_Term_str))
  f_End_repr : PySem.W.findIn K (.ref a.k_End) "__repr__" = some (some (.ref a.m_Term_repr))
  f_End_eq : PySem.W.findIn K (.ref a.k_End) "__eq__" = some (some (.ref a.m_Term_eq))
  s_End : SupC K a.k_End a.k_End a.m_Term_init "__init__"
  mk_End : Mk K a.k_End a.m_End_init
  first_End : PySem.W.selfFirst K a.k_End = true
  rand_End : PySem.W.findIn K (.ref a.k_End) (PySem.dunderR "and") = some none
  ror_End : PySem.W.findIn K (.ref a.k_End) (PySem.dunderR "or") = some none
  na_End_own_depth : NoAttr K a.k_End "own_depth"
  na_End_own_end : NoAttr K a.k_End "own_end"
  f_Lesser_init : PySem.W.findIn K (.ref a.k_Lesser) "__init__" = some (some (.ref a.m_Lesser_init))
  p_Lesser_parts : PropOf K a.k_Lesser "parts" a.p_Lesser_parts a.m_Lesser_parts
  p_Lesser_depth : PropOf K a.k_Lesser "depth" a.p_Term_depth a.m_Term_depth
  f_Lesser_at : PySem.W.findIn K (.ref a.k_Lesser) "at" = some (some (.ref a.m_Term_at))
  f_Lesser_places : PySem.W.findIn K (.ref a.k_Lesser) "places" = some (some (.ref a.m_Term_places))
  f_Lesser_turned : PySem.W.findIn K (.ref a.k_Lesser) "turned" = some (some (.ref a.m_Term_turned))
  f_Lesser_put : PySem.W.findIn K (.ref a.k_Lesser) "put" = some (some (.ref a.m_Term_put))
  f_Lesser_and : PySem.W.findIn K (.ref a.k_Lesser) "__and__" = some (some (.ref a.m_Term_and))
  f_Lesser_or : PySem.W.findIn K (.ref a.k_Lesser) "__or__" = some (some (.ref a.m_Term_or))
  f_Lesser_str : PySem.W.findIn K (.ref a.k_Lesser) "__str__" = some (some (.ref a.m_Term_str))
  f_Lesser_repr : PySem.W.findIn K (.ref a.k_Lesser) "__repr__" = some (some (.ref a.m_Term_repr))
  f_Lesser_eq : PySem.W.findIn K (.ref a.k_Lesser) "__eq__" = some (some (.ref a.m_Term_eq))
  s_Lesser : SupC K a.k_Lesser a.k_Lesser a.m_Term_init "__init__"
  mk_Lesser : Mk K a.k_Lesser a.m_Lesser_init
  first_Lesser : PySem.W.selfFirst K a.k_Lesser = true
  rand_Lesser : PySem.W.findIn K (.ref a.k_Lesser) (PySem.dunderR "and") = some none
  ror_Lesser : PySem.W.findIn K (.ref a.k_Lesser) (PySem.dunderR "or") = some none
  na_Lesser_own_depth : NoAttr K a.k_Lesser "own_depth"
  na_Lesser_own_parts : NoAttr K a.k_Lesser "own_parts"
  f_Greater_init : PySem.W.findIn K (.ref a.k_Greater) "__init__" = some (some (.ref a.m_Greater_init))
  p_Greater_parts : PropOf K a.k_Greater "parts" a.p_Greater_parts a.m_Greater_parts
  p_Greater_depth : PropOf K a.k_Greater "depth" a.p_Term_depth a.m_Term_depth
  f_Greater_at : PySem.W.findIn K (.ref a.k_Greater) "at" = some (some (.ref a.m_Term_at))
  f_Greater_places : PySem.W.findIn K (.ref a.k_Greater) "places" = some (some (.ref a.m_Term_places))
  f_Greater_turned : PySem.W.findIn K (.ref a.k_Greater) "turned" = some (some (.ref a.m_Term_turned))
  f_Greater_put : PySem.W.findIn K (.ref a.k_Greater) "put" = some (some (.ref a.m_Term_put))
  f_Greater_and : PySem.W.findIn K (.ref a.k_Greater) "__and__" = some (some (.ref a.m_Term_and))
  f_Greater_or : PySem.W.findIn K (.ref a.k_Greater) "__or__" = some (some (.ref a.m_Term_or))
  f_Greater_str : PySem.W.findIn K (.ref a.k_Greater) "__str__" = some (some (.ref a.m_Term_str))
  f_Greater_repr : PySem.W.findIn K (.ref a.k_Greater) "__repr__" = some (some (.ref a.m_Term_repr))
  f_Greater_eq : PySem.W.findIn K (.ref a.k_Greater) "__eq__" = some (some (.ref a.m_Term_eq))
  s_Greater : SupC K a.k_Greater a.k_Greater a.m_Term_init "__init__"
  mk_Greater : Mk K a.k_Greater a.m_Greater_init
  first_Greater : PySem.W.selfFirst K a.k_Greater = true
  rand_Greater : PySem.W.findIn K (.ref a.k_Greater) (PySem.dunderR "and") = some none
  ror_Greater : PySem.W.findIn K (.ref a.k_Greater) (PySem.dunderR "or") = some none
  na_Greater_own_depth : NoAttr K a.k_Greater "own_depth"
  na_Greater_own_parts : NoAttr K a.k_Greater "own_parts"
  x_Term_Term : PySem.W.subIn K (.ref a.k_Term) (.ref a.k_Term) = some true
  x_Term_Place : PySem.W.subIn K (.ref a.k_Term) (.ref a.k_Place) = some false
  x_Term_End : PySem.W.subIn K (.ref a.k_Term) (.ref a.k_End) = some false
  x_Term_Lesser : PySem.W.subIn K (.ref a.k_Term) (.ref a.k_Lesser) = some false
  x_Term_Greater : PySem.W.subIn K (.ref a.k_Term) (.ref a.k_Greater) = some false
  x_Place_Term : PySem.W.subIn K (.ref a.k_Place) (.ref a.k_Term) = some true
  x_Place_Place : PySem.W.subIn K (.ref a.k_Place) (.ref a.k_Place) = some true
  x_Place_End : PySem.W.subIn K (.ref a.k_Place) (.ref a.k_End) = some false
  x_Place_Lesser : PySem.W.subIn K (.ref a.k_Place) (.ref a.k_Lesser) = some false
  x_Place_Greater : PySem.W.subIn K (.ref a.k_Place) (.ref a.k_Greater) = some false
  x_End_Term : PySem.W.subIn K (.ref a.k_End) (.ref a.k_Term) = some true
  x_End_Place : PySem.W.subIn K (.ref a.k_End) (.ref a.k_Place) = some false
  x_End_End : PySem.W.subIn K (.ref a.k_End) (.ref a.k_End) = some true
  x_End_Lesser : PySem.W.subIn K (.ref a.k_End) (.ref a.k_Lesser) = some false
  x_End_Greater : PySem.W.subIn K (.ref a.k_End) (.ref a.k_Greater) = some false
  x_Lesser_Term : PySem.W.subIn K (.ref a.k_Lesser) (.ref a.k_Term) = some true
  x_Lesser_Place : PySem.W.subIn K (.ref a.k_Lesser) (.ref a.k_Place) = some false
  x_Lesser_End : PySem.W.subIn K (.ref a.k_Lesser) (.ref a.k_End) = some false
  x_Lesser_Lesser : PySem.W.subIn K (.ref a.k_Lesser) (.ref a.k_Lesser) = some true
  x_Lesser_Greater : PySem.W.subIn K (.ref a.k_Lesser) (.ref a.k_Greater) = some false
  x_Greater_Term : PySem.W.subIn K (.ref a.k_Greater) (.ref a.k_Term) = some true
  x_Greater_Place : PySem.W.subIn K (.ref a.k_Greater) (.ref a.k_Place) = some false
  x_Greater_End : PySem.W.subIn K (.ref a.k_Greater) (.ref a.k_End) = some false
  x_Greater_Lesser : PySem.W.subIn K (.ref a.k_Greater) (.ref a.k_Lesser) = some false
  x_Greater_Greater : PySem.W.subIn K (.ref a.k_Greater) (.ref a.k_Greater) = some true
  x_HeldError_HeldError : PySem.W.subIn K (.ref a.c_HeldError) (.ref a.c_HeldError) = some true
  x_HeldError_InvalidPlace : PySem.W.subIn K (.ref a.c_HeldError) (.ref a.c_InvalidPlace) = some false
  x_HeldError_InvalidEnd : PySem.W.subIn K (.ref a.c_HeldError) (.ref a.c_InvalidEnd) = some false
  x_HeldError_InvalidTerm : PySem.W.subIn K (.ref a.c_HeldError) (.ref a.c_InvalidTerm) = some false
  x_HeldError_InvalidValues : PySem.W.subIn K (.ref a.c_HeldError) (.ref a.c_InvalidValues) = some false
  x_InvalidPlace_HeldError : PySem.W.subIn K (.ref a.c_InvalidPlace) (.ref a.c_HeldError) = some true
  x_InvalidPlace_InvalidPlace : PySem.W.subIn K (.ref a.c_InvalidPlace) (.ref a.c_InvalidPlace) = some true
  x_InvalidPlace_InvalidEnd : PySem.W.subIn K (.ref a.c_InvalidPlace) (.ref a.c_InvalidEnd) = some false
  x_InvalidPlace_InvalidTerm : PySem.W.subIn K (.ref a.c_InvalidPlace) (.ref a.c_InvalidTerm) = some false
  x_InvalidPlace_InvalidValues : PySem.W.subIn K (.ref a.c_InvalidPlace) (.ref a.c_InvalidValues) = some false
  x_InvalidEnd_HeldError : PySem.W.subIn K (.ref a.c_InvalidEnd) (.ref a.c_HeldError) = some true
  x_InvalidEnd_InvalidPlace : PySem.W.subIn K (.ref a.c_InvalidEnd) (.ref a.c_InvalidPlace) = some false
  x_InvalidEnd_InvalidEnd : PySem.W.subIn K (.ref a.c_InvalidEnd) (.ref a.c_InvalidEnd) = some true
  x_InvalidEnd_InvalidTerm : PySem.W.subIn K (.ref a.c_InvalidEnd) (.ref a.c_InvalidTerm) = some false
  x_InvalidEnd_InvalidValues : PySem.W.subIn K (.ref a.c_InvalidEnd) (.ref a.c_InvalidValues) = some false
  x_InvalidTerm_HeldError : PySem.W.subIn K (.ref a.c_InvalidTerm) (.ref a.c_HeldError) = some true
  x_InvalidTerm_InvalidPlace : PySem.W.subIn K (.ref a.c_InvalidTerm) (.ref a.c_InvalidPlace) = some false
  x_InvalidTerm_InvalidEnd : PySem.W.subIn K (.ref a.c_InvalidTerm) (.ref a.c_InvalidEnd) = some false
  x_InvalidTerm_InvalidTerm : PySem.W.subIn K (.ref a.c_InvalidTerm) (.ref a.c_InvalidTerm) = some true
  x_InvalidTerm_InvalidValues : PySem.W.subIn K (.ref a.c_InvalidTerm) (.ref a.c_InvalidValues) = some false
  x_InvalidValues_HeldError : PySem.W.subIn K (.ref a.c_InvalidValues) (.ref a.c_HeldError) = some true
  x_InvalidValues_InvalidPlace : PySem.W.subIn K (.ref a.c_InvalidValues) (.ref a.c_InvalidPlace) = some false
  x_InvalidValues_InvalidEnd : PySem.W.subIn K (.ref a.c_InvalidValues) (.ref a.c_InvalidEnd) = some false
  x_InvalidValues_InvalidTerm : PySem.W.subIn K (.ref a.c_InvalidValues) (.ref a.c_InvalidTerm) = some false
  x_InvalidValues_InvalidValues : PySem.W.subIn K (.ref a.c_InvalidValues) (.ref a.c_InvalidValues) = some true
  y_HeldError : PySem.W.subIn K (.ref a.c_HeldError) (.type "ValueError") = some true
  y_InvalidPlace : PySem.W.subIn K (.ref a.c_InvalidPlace) (.type "ValueError") = some true
  y_InvalidEnd : PySem.W.subIn K (.ref a.c_InvalidEnd) (.type "ValueError") = some true
  y_InvalidTerm : PySem.W.subIn K (.ref a.c_InvalidTerm) (.type "ValueError") = some true
  y_InvalidValues : PySem.W.subIn K (.ref a.c_InvalidValues) (.type "ValueError") = some true
theorem GFn.fn {P : Program} {w : World} {K : PySem.W.Frag} {mg : Str → Option Value} {base : Heap} {x : Str} {st : Stmt} {f : Addr} {N ps : List Str} {sp : Sp} {k : Nat} (g : GFn K mg x st f) (S : FnScope N ps (defScope st))
    (hb : ∀ (kV doc pm : Value) (an : Option Addr) (cdv ct : Value) (us : List Value), us.length = ps.length → bindArgs (PySem.W.fnOf x x (defArgs st) (defBody st) (defScope st) .none kV doc pm an cdv ct) ⟨us, []⟩ = pure (ps.zip us))
    (len : ∀ vs H Q E, sp vs H Q E → vs.length = ps.length)
    (body : ∀ (cdv : Value) (A : Around) (outer : List Env) (s : Shared) (H : Hp) (vs : List V) (Q : VK) (E : XK), A.guards = some [] → Room k (A.deeper (envOfC x (defScope st) s.heap.objs.size f cdv)) → sp vs H Q E →
      ∃ t, PSs (cxOf (L2.CX P w) P w K mg base N x (defScope st) f cdv A outer s H E) (defBody st) t ∧ t { nx := fun _ H' => Q .non H', rt := Q } (start N vs) H) : Fn P w K mg base (k + 1) f sp := by
  obtain ⟨fd, F⟩ := g.F
  exact Fn.of F S (F.binds hb) len fun cdv A outer s H vs Q E hg hr _ h => body cdv A outer s H vs Q E hg hr h
/-- what a callee lets out, the def lets out -/
theorem passC {P : Program} {w : World} {K : PySem.W.Frag} {mg : Str → Option Value} {base : Heap} {N : List Str} {q : Str} {sc : Scope} {f : Addr} {cdv : Value} {A : Around} {outer : List Env} {s : Shared} {H : Hp} {E : XK} :
    Passes (L2.CX P w) (cxOf (L2.CX P w) P w K mg base N q sc f cdv A outer s H E) E := passes_call (takes_of rfl rfl rfl rfl) fun _ _ _ _ h => h
theorem takeC {P : Program} {w : World} {K : PySem.W.Frag} {mg : Str → Option Value} {base : Heap} {N : List Str} {q : Str} {sc : Scope} {f : Addr} {cdv : Value} {A : Around} {outer : List Env} {s : Shared} {H : Hp} {E : XK} :
    Takes (cxOf (L2.CX P w) P w K mg base N q sc f cdv A outer s H E) (fun cls d _ H' => E cls d H') := takes_of rfl rfl rfl rfl
theorem ownC {P : Program} {w : World} {K : PySem.W.Frag} {mg : Str → Option Value} {base : Heap} {N : List Str} {q : Str} {sc : Scope} {f : Addr} {cdv : Value} {A : Around} {outer : List Env} {s : Shared} {H : Hp} {E : XK} :
    PassesOwn (model (cxOf (L2.CX P w) P w K mg base N q sc f cdv A outer s H E).prog (cxOf (L2.CX P w) P w K mg base N q sc f cdv A outer s H E).w) (cxOf (L2.CX P w) P w K mg base N q sc f cdv A outer s H E).A (cxOf (L2.CX P w) P w K mg base N q sc f cdv A outer s H E).env (cxOf (L2.CX P w) P w K mg base N q sc f cdv A outer s H E).xe := PassesOwn.leaving
/-- a built-in class as a value -/
theorem pe_ty {X : Cx} {x : Str} {pos : Pos} (n : String) (hg : Gl X x) (hm : X.mg x = none) (hv : bootBuiltins x = some (.type n)) (hn : x ≠ "__name__" := by decide) (hd : (x == ("__debug__" : Str)) = false := by decide) : PE X (.Name x pos) (tC (.ty n)) := by
  first
    | exact pe_bltn hg hm hv rfl (hd := hd)
    | exact pe_bltn hg hm hv rfl hn hd
end K16
namespace K16
open PySem PySem.Spec PyProof.Rows L2 LG Evl
/-! ### values and what is known of them -/
/-- a value whose class is known -/
inductive Kn (H : Hp) : V → String → Prop
  | non : Kn H .non "NoneType"
  | bl (b : Bool) : Kn H (.bl b) "bool"
  | int (i : Int) : Kn H (.int i) "int"
  | str (x : Str) : Kn H (.str x) "str"
  | lst {p : Addr} {xs : List V} (h : H p = some (.lst xs)) : Kn H (.ref p) "list"
  | tup {p : Addr} {xs : List V} (h : H p = some (.tup xs)) : Kn H (.ref p) "tuple"
  | dic {p : Addr} {kvs : List (Key × V)} (h : H p = some (.dK kvs)) : Kn H (.ref p) "dict"
theorem Kn.ty {K : PySem.W.Frag} {H : Hp} {v : V} {t : String} (h : Kn H v t) : TyX K H v (.type t) := by
  cases h with
  | non => exact .base .non
  | bl b => exact .base (.bl b)
  | int i => exact .base (.int i)
  | str x => exact .base (.str x)
  | lst h => exact .base (.lst h)
  | tup h => exact .base (.tup h)
  | dic h => exact .base (.dK h)
theorem kn_int {K : PySem.W.Frag} {H : Hp} {v : V} {t : String} (h : Kn H v t) : PySem.W.kitOne K (.type t) (.type "int") = some (t == "int" || t == "bool") := by
  cases h <;> exact kit_ty (by decide +kernel)
theorem kn_bool {K : PySem.W.Frag} {H : Hp} {v : V} {t : String} (h : Kn H v t) : PySem.W.kitOne K (.type t) (.type "bool") = some (t == "bool") := by
  cases h <;> exact kit_ty (by decide +kernel)
theorem kn_str {K : PySem.W.Frag} {H : Hp} {v : V} {t : String} (h : Kn H v t) : PySem.W.kitOne K (.type t) (.type "str") = some (t == "str") := by
  cases h <;> exact kit_ty (by decide +kernel)
theorem kn_list {K : PySem.W.Frag} {H : Hp} {v : V} {t : String} (h : Kn H v t) : PySem.W.kitAny K (.type t) [.type "list", .type "tuple"] = some (t == "list" || t == "tuple") := by
  cases h with
  | non => exact kitAny_cons (kit_ty (by decide +kernel) : _ = some false) (fun _ => kitAny_cons (kit_ty (by decide +kernel) : _ = some false) (fun _ => kitAny_nil) (fun z => by cases z)) (fun z => by cases z)
  | bl b => exact kitAny_cons (kit_ty (by decide +kernel) : _ = some false) (fun _ => kitAny_cons (kit_ty (by decide +kernel) : _ = some false) (fun _ => kitAny_nil) (fun z => by cases z)) (fun z => by cases z)
  | int b => exact kitAny_cons (kit_ty (by decide +kernel) : _ = some false) (fun _ => kitAny_cons (kit_ty (by decide +kernel) : _ = some false) (fun _ => kitAny_nil) (fun z => by cases z)) (fun z => by cases z)
  | str b => exact kitAny_cons (kit_ty (by decide +kernel) : _ = some false) (fun _ => kitAny_cons (kit_ty (by decide +kernel) : _ = some false) (fun _ => kitAny_nil) (fun z => by cases z)) (fun z => by cases z)
  | dic b => exact kitAny_cons (kit_ty (by decide +kernel) : _ = some false) (fun _ => kitAny_cons (kit_ty (by decide +kernel) : _ = some false) (fun _ => kitAny_nil) (fun z => by cases z)) (fun z => by cases z)
  | lst b => exact kitAny_cons (kit_ty (by decide +kernel) : _ = some true) (fun z => by cases z) (fun _ => rfl)
  | tup b => exact kitAny_cons (kit_ty (by decide +kernel) : _ = some false) (fun _ => kitAny_cons (kit_ty (by decide +kernel) : _ = some true) (fun z => by cases z) (fun _ => rfl)) (fun z => by cases z)
def isIntB : V → Bool
  | .int _ => true
  | _ => false
def isEndB (v : V) : Bool := inV v [.str "bottom", .str "top"]
def isEndS : V → Bool
  | .str x => isEndB (.str x)
  | _ => false
def isValB (v : V) : Bool := isIntB v || isEndS v
/-! ### the promises of values.py -/
def sp_is_integer : Sp := fun vs H Q _ => ∃ v t, vs = [v] ∧ Kn H v t ∧ Q (.bl (isIntB v)) H
def sp_is_end : Sp := fun vs H Q _ => ∃ v t, vs = [v] ∧ Kn H v t ∧ Q (.bl (isEndS v)) H
def sp_is_list : Sp := fun vs H Q _ => ∃ v t, vs = [v] ∧ Kn H v t ∧ ∀ H', (∀ b o, H b = some o → H' b = some o) → Q (.bl (t == "list" || t == "tuple")) H'
def sp_is_value : Sp := fun vs H Q _ => ∃ v t, vs = [v] ∧ Kn H v t ∧ Q (.bl (isValB v)) H
section
variable {P : Program} {w : World} {K : PySem.W.Frag} {mg : Str → Option Value} {base : Heap} {a : At}
theorem ok_is_end (T : Txt K mg a) : Fn P w K mg base 1 a.is_end sp_is_end := by
  refine T.d_is_end.fn sc_is_end (fun _ _ _ _ _ _ us hl => match us, hl with | [_], _ => rfl) (fun vs H Q E h => ?_) (fun cdv A outer s H vs Q E hg hr h => ?_)
  · obtain ⟨_, _, rfl, _⟩ := h
    rfl
  · obtain ⟨v, t, rfl, hk, q⟩ := h
    refine ⟨_, (pss_one (ps_ret (pe_and (pe_callB call_isi (by rfl) T.z_isinstance (by decide +kernel) (pa_cons (pv 0) (pa_cons (pe_ty "str" (by rfl) T.z_str (by decide +kernel)) pa_nil))) (pe_one (pe_cmpR op_in_seq (pv 0) (pe_glob (v := .ref a.ENDS) rfl T.v_ENDS rfl) (by rfl)))))), ?_⟩
    refine ⟨v, rfl, v, .ty "str", _, _, _, rfl, .ty _, hk.ty, kn_str hk, _, rfl, ?_⟩
    obtain ⟨od, its, n, sl, hl, hv⟩ := T.l_ENDS
    have hz : its.length = 2 := hv.length.symm
    have sq : SqT K H a.ENDS [.str "bottom", .str "top"] := .inr ⟨_, its.toArray, n, hl, rfl, rfl, by rw [List.size_toArray, hz]; decide, by simpa using hv⟩
    cases hk with
    | str x => exact iteT ⟨_, rfl, a.ENDS, _, rfl, .inr sq, rfl, rfl, q⟩
    | _ => exact iteF q
/-! ### errors -/
def sp_init : Sp := fun vs H Q _ => ∃ (e C : Addr) (v : V), vs = [.ref e, v] ∧ OexC K C ∧ PySem.W.findIn K (.ref C) "value" = some none ∧ H e = some (exo e C none) ∧
  ∀ dx, H dx = none → dx ≠ e → Q .non (upd (upd H dx (exd dx [("value", v)])) e (exo e C (some dx)))
theorem ok_init {fd : FuncData} (F : FunD K "__init__" "HeldError.__init__" (defArgs s_init) (defBody s_init) (defScope s_init) [.non] [] a.init fd) : FnOk P w K mg base CX0 1 a.init fd ["self", "value"] (sp_init (K := K)) := by
  refine F.ok sc_init (fun vs H Q E h => ?_) (fun cdv A outer s H vs Q E hr h => ?_)
  · obtain ⟨_, _, _, rfl, _⟩ := h
    rfl
  · obtain ⟨e, C, v, rfl, oc, hv, he, q⟩ := h
    exact ⟨_, pss_one (ps_ost (pv 0) (pv 1)), v, rfl, .ref e, rfl, e, C, rfl, oc, hv, .inl ⟨he, q⟩⟩
/-- raise X(n), n the name in slot i -/
def tRaiseV (C : Addr) (W : WX) (i : Nat) : TS := fun _ σ H => ∃ v, σ[i]? = some (some v) ∧ ∀ d, H d = none → W (.ref C) (some d) σ (upd H d (.xd [("value", v)]))
theorem made_eq {H1 : Hp} {x d C : Addr} {o u : HO} (hx : H1 x = none) (hd : d ≠ x) (hd1 : H1 d = none) {z : HO} : upd (del (upd (upd (upd H1 x o) d u) x (exo x C (some d))) x) d z = upd H1 d z := by
  funext b
  by_cases h1 : b = d
  · subst h1
    rw [upd_same, upd_same]
  · rw [upd_ne h1, upd_ne h1]
    by_cases h2 : b = x
    · subst h2
      rw [del_same, hx]
    · rw [del_ne h2, upd_ne h2, upd_ne h1, upd_ne h2]
theorem ps_raiseV {X : Cx} {x n : Str} {C : Addr} {W : WX} {i : Nat} {pn p pos pos2 : Pos} {k : Nat} (hc : X.calm = true) (tk : Takes X W) (g : GEx X.K X.mg x C a.init) (ti : PySem.W.typeIn X.K (.ref a.init) = some (.type "function"))
    (di : ∃ fd, FunD X.K "__init__" "HeldError.__init__" (defArgs s_init) (defBody s_init) (defScope s_init) [.non] [] a.init fd) (hr : Room (k + 2) X.A) (hg : Gl X x) (ha : PE X (.Name n pn) (tVar i))
    (hdb : (x == ("__debug__" : Str)) = false := by decide) (he : starEach [.Name n pn] X.env = (false, eval (.Name n pn) X.env) :: starEach [] X.env := by rfl) (hpl : (backTo pos (starEach [] X.env)).any (·.1) = false := by rfl) :
    PS X (.Raise (some (.Call (.Name x p) [.Name n pn] [] pos)) none pos2) (tRaiseV C W i) := by
  obtain ⟨fd, F⟩ := di
  obtain ⟨ds, hv, hb⟩ := F.binds1 (ps := ["self", "value"]) 2 1 (by simp) rfl fun T kV doc pm an cdv ct us its hl hi => match us, its, hl, hi with
    | [_, _], [_], _, _ => ⟨_, rfl, rfl⟩
  cases hv
  have F1 : FnOk X.prog X.w X.K X.mg X.base CX0 1 a.init fd ["self", "value"] (sp_init (K := X.K)) := ok_init F
  have z := ps_raise (pos := pos2) hc tk (pmk_oex (p := p) (pos := pos) g.o g.i ti F1 (hr.mono (by omega)) hb .nil pass0 hg g.m (pa_cons ha pa_nil) hdb he hpl)
  constructor
  intro pins s σ H D I h
  refine z.run pins s σ H D I ?_
  obtain ⟨v, hv, q⟩ := h
  refine ⟨v, hv, (by decide : 1 ≤ 1000), fun x' hx => ⟨x', C, v, rfl, g.o, g.v, upd_same, fun d hd hne => ?_⟩⟩
  have hd1 : H d = none := by
    rw [upd_ne hne] at hd
    exact hd
  refine ⟨rfl, d, [("value", v)], upd_same, ?_, hd1, ?_⟩
  · rw [upd_ne hne, upd_same]
  · show W _ _ _ _
    rw [made_eq hx hne hd1]
    exact q d hd1
end
theorem Kn.up {H H' : Hp} {v : V} {t : String} (e : Ex H H') (h : Kn H v t) : Kn H' v t := by
  cases h with
  | non => exact .non
  | bl b => exact .bl b
  | int i => exact .int i
  | str x => exact .str x
  | lst h => exact .lst (e _ _ h)
  | tup h => exact .tup (e _ _ h)
  | dic h => exact .dic (e _ _ h)
/-- an error of the class C that bears v, told of any heap in which all stands as before -/
def Errs (C : Addr) (v : V) (H : Hp) (E : XK) : Prop := ∀ d H', Ex H H' → H' d = some (.xd [("value", v)]) → E (.ref C) (some d) H'
theorem Errs.new {C d : Addr} {v : V} {H H1 : Hp} {E : XK} (h : Errs C v H E) (e : Ex H H1) (hd : H1 d = none) : E (.ref C) (some d) (upd H1 d (.xd [("value", v)])) := h d _ (e.trans (Ex.new hd)) upd_same
theorem Errs.up {C : Addr} {v : V} {H H1 : Hp} {E : XK} (h : Errs C v H E) (e : Ex H H1) : Errs C v H1 E := fun d H' e' hd => h d H' (e.trans e') hd
end K16
namespace K16
open PySem PySem.Spec PyProof.Rows L2 LG Evl
/-! ### the pot: a list of two ints -/
def Po (p : Addr) (H : Hp) : Prop := ∃ x y : Int, H p = some (.lst [.int x, .int y]) ∧ 0 ≤ y ∧ y < 2147483587
/-- all but the pot is as before -/
def Px (p : Addr) (H H' : Hp) : Prop := (∀ b o, b ≠ p → H b = some o → H' b = some o) ∧ Po p H'
theorem Po.up {p : Addr} {H H' : Hp} (h : Po p H) (e : Ex H H') : Po p H' := let ⟨x, y, h1, h2⟩ := h; ⟨x, y, e _ _ h1, h2⟩
theorem Px.of {p : Addr} {H H' : Hp} (h : Po p H) (e : Ex H H') : Px p H H' := ⟨fun b o _ hb => e b o hb, h.up e⟩
theorem Px.refl {p : Addr} {H : Hp} (h : Po p H) : Px p H H := ⟨fun _ _ _ e => e, h⟩
theorem Px.trans {p : Addr} {H H1 H2 : Hp} (a : Px p H H1) (b : Px p H1 H2) : Px p H H2 := ⟨fun c o n h => b.1 c o n (a.1 c o n h), b.2⟩
theorem Px.ex {p : Addr} {H H1 H2 : Hp} (a : Px p H H1) (e : Ex H1 H2) : Px p H H2 := ⟨fun c o n h => e c o (a.1 c o n h), a.2.up e⟩
theorem Px.ne {p l : Addr} {H H' : Hp} (h : Px p H H') (n : H' l = none) : l ≠ p := fun z => by
  obtain ⟨x, y, h1, _⟩ := h.2
  rw [z, h1] at n
  cases n
theorem Po.ne {p l : Addr} {H : Hp} (h : Po p H) (n : H l = none) : l ≠ p := (Px.refl h).ne n
theorem Px.fresh {p l : Addr} {H H' : Hp} (h : Px p H H') (n : H' l = none) : H l = none := by
  have hl := h.ne n
  cases e : H l with
  | none => rfl
  | some o =>
    rw [h.1 l o hl e] at n
    cases n
theorem Px.set {p : Addr} {H H' : Hp} {x y : Int} (a : Px p H H') (h1 : 0 ≤ y) (h2 : y < 2147483587) : Px p H (upd H' p (.lst [.int x, .int y])) :=
  ⟨fun b o n h => by rw [upd_ne n]; exact a.1 b o n h, x, y, upd_same, h1, h2⟩
section
variable {P : Program} {w : World} {K : PySem.W.Frag} {mg : Str → Option Value} {base : Heap} {a : At}
theorem at0 {x y : V} : atI [x, y] 0 = some x := rfl
theorem at1 {x y : V} : atI [x, y] 1 = some y := rfl
def sp__law_draw : Sp := fun vs H Q _ => ∃ (p : Addr) (m : Int), vs = [.ref p, .int m] ∧ Po p H ∧ 0 < m ∧ m ≤ 1000 ∧ ∀ (d : Int) (H' : Hp), 0 ≤ d → d < m → Px p H H' → Q (.int d) H'
theorem ok__law_draw (T : Txt K mg a) : Fn P w K mg base 1 a._law_draw sp__law_draw := by
  refine T.d__law_draw.fn sc__law_draw (fun _ _ _ _ _ _ us hl => match us, hl with | [_, _], _ => rfl) (fun vs H Q E h => ?_) (fun cdv A outer s H vs Q E hg hr h => ?_)
  · obtain ⟨_, _, rfl, _⟩ := h
    rfl
  · obtain ⟨p, m, rfl, ⟨x, y, hp, hy0, hy1⟩, hm0, hm1, q⟩ := h
    have nd := sc__law_draw.nd
    refine ⟨_, (pss_cons (ps_if (pt_cmpR op_gt (pe_ix ix_list (pv 0) pe_int (fun _ _ => rfl)) pe_int (nomark _)) (pss_cons (ps_asg (pe_callB call_divmodW (by rfl) T.z_divmod (by decide +kernel) (pa_cons (pe_ix ix_list (pv 0) pe_int (fun _ _ => rfl)) (pa_cons (pv 1) pa_nil))) (pg_tup (by rfl) (pgs_cons (pg_sub (pv 0) pe_int set_list) (pgs_cons (pg_name (i := 2) nd rfl (.inl rfl)) pgs_nil))))
      (pss_one (ps_ret (pv 2)))) pss_nil)
    (pss_cons (ps_asg (pe_op op_mod (pe_callTy call_int1 (by rfl) T.z_int (by decide +kernel) (pa_cons (pe_op op_add (pe_op op_mul (pe_ix ix_list (pv 0) pe_int (fun _ _ => rfl)) pe_int) pe_int) pa_nil)) pe_int) (pg_sub (pv 0) pe_int set_list))
    (pss_one (ps_ret (pe_op op_mod (pe_op op_fdiv (pe_op op_mod (pe_callTy call_int1 (by rfl) T.z_int (by decide +kernel) (pa_cons (pe_op op_mul (pe_ix ix_list (pv 0) pe_int (fun _ _ => rfl)) (pe_ix ix_list (pv 0) pe_int (fun _ _ => rfl))) pa_nil)) pe_int) pe_int) (pv 1)))))), ?_⟩
    have hs : SqL K H p [.int x, .int y] := sq_of hp
    have P0 : Px p H H := Px.refl ⟨x, y, hp, hy0, hy1⟩
    refine ⟨.ref p, rfl, p, _, 0, _, rfl, rfl, hs, at0, x, 0, rfl, rfl, _, rfl, ?_⟩
    by_cases hx : 0 < x
    · rw [decide_eq_true hx]
      refine iteT ⟨.ref p, rfl, p, _, 0, _, rfl, rfl, hs, at0, .int m, rfl, x, m, rfl, ⟨hm0, ?_⟩, fun t ht => ?_⟩
      · have hj : ¬ ((if m == 0 then 0 else m.natAbs.log2 / 30 + 1) > 300) := by
          have h1 : m.natAbs.log2 ≤ 1000 := Nat.le_trans (Nat.log2_le_self _) (by omega)
          split <;> omega
        show (decide ((if m == 0 then 0 else m.natAbs.log2 / 30 + 1) > 300) && _) = false
        rw [decide_eq_false hj]
        rfl
      · have ne : p ≠ t := ne_of_none hp ht
        refine ⟨t, _, rfl, st_of upd_same, rfl, _, _, rfl, .ref p, rfl, p, [.int x, .int y], 0, 0, rfl, rfl, ?_, rfl, ?_⟩
        · rw [upd_ne ne]
          exact hp
        · exact ⟨_, _, rfl, rfl, _, rfl, q _ _ (Int.emod_nonneg _ (by omega)) (Int.emod_lt_of_pos _ hm0) ((P0.ex (Ex.new ht)).set hy0 hy1)⟩
    · rw [decide_eq_false hx]
      refine iteF ⟨.ref p, rfl, p, _, 1, _, rfl, rfl, hs, at1, y, 48271, rfl, rfl, .inr (by omega), _, 11213, rfl, rfl, .inl ⟨_, rfl, _, _, rfl, rfl, by omega, .ref p, rfl, p, [.int x, .int y], 1, 1, rfl, rfl, hp, rfl, ?_⟩⟩
      have z0 : 0 ≤ (y * 48271 + 11213) % 2147483587 := Int.emod_nonneg _ (by omega)
      have z1 : (y * 48271 + 11213) % 2147483587 < 2147483587 := Int.emod_lt_of_pos _ (by omega)
      have hs2 : SqL K (upd H p (.lst [.int x, .int ((y * 48271 + 11213) % 2147483587)])) p [.int x, .int ((y * 48271 + 11213) % 2147483587)] := sq_of upd_same
      have key : ∀ y' : Int, 0 ≤ y' → y' < 2147483587 → SqL K (upd H p (.lst [.int x, .int y'])) p [.int x, .int y'] → Px p H (upd H p (.lst [.int x, .int y'])) := fun y' a b _ => P0.set a b
      refine ⟨.ref p, rfl, p, _, 1, _, rfl, rfl, hs2, at1, .ref p, rfl, p, _, 1, _, rfl, rfl, hs2, at1, _, _, rfl, rfl, .inr ⟨by omega, by omega⟩, .inl ⟨_, rfl, _, _, rfl, rfl, by omega, _, _, rfl, rfl, by constructor <;> omega, .int m, rfl, _, m, rfl, rfl, hm0, ?_⟩⟩
      exact q _ _ (Int.emod_nonneg _ (by omega)) (Int.emod_lt_of_pos _ hm0) (P0.set z0 z1)
end
end K16
namespace K16
open PySem PySem.Spec PyProof.Rows L2 LG Evl
section
variable {P : Program} {w : World} {K : PySem.W.Frag} {mg : Str → Option Value} {base : Heap} {a : At}
/-! ### the pot made, an element picked -/
def sp__law_pot (K : PySem.W.Frag) : Sp := fun vs H Q _ => ∃ (l : Addr) (ns : List Int) (k : Nat), vs = [.ref l, .int k] ∧ SqL K H l (ns.map V.int) ∧ ns.length ≤ 63 ∧ k ≤ 100 ∧ ∀ (p : Addr) (H' : Hp), H p = none → Ex H H' → Po p H' → Q (.ref p) H'
theorem ok__law_pot (T : Txt K mg a) : Fn P w K mg base 1 a._law_pot (sp__law_pot K) := by
  refine T.d__law_pot.fn sc__law_pot (fun _ _ _ _ _ _ us hl => match us, hl with | [_, _], _ => rfl) (fun vs H Q E h => ?_) (fun cdv A outer s H vs Q E hg hr h => ?_)
  · obtain ⟨_, _, _, rfl, _⟩ := h
    rfl
  · obtain ⟨l, ns, k, rfl, hs, hn, hk, q⟩ := h
    have nd := sc__law_pot.nd
    refine ⟨_, (pss_cons (ps_set (i := 2) nd rfl (.inl rfl) (pe_op op_add (pe_op op_mul pe_int (pv 1)) pe_int))
    (pss_cut (ps_if (pt_cmpR op_lt (pv 1) (pe_callB call_len_seq (by rfl) T.z_len (by decide +kernel) (pa_cons (pv 0) pa_nil)) (nomark _)) (pss_one (ps_set (i := 2) nd rfl (.inl rfl) (pe_ix ix_list (pv 0) (pv 1) (fun _ _ => rfl)))) pss_nil)
    (pss_one (ps_ret (pe_lst (pa_cons (pe_callB (call_max2 rfl) (by rfl) T.z_max (by decide +kernel) (pa_cons pe_int (pa_cons (pe_op op_sub (pe_callB call_abs (by rfl) T.z_abs (by decide +kernel) (pa_cons (pv 2) pa_nil)) (pe_op op_pow pe_int pe_int)) pa_nil))) (pa_cons (pe_op op_add (pe_op op_mod (pe_op op_mul (pe_callTy call_int1 (by rfl) T.z_int (by decide +kernel) (pa_cons (pe_op op_add (pe_op op_mod (pe_callTy call_int1 (by rfl) T.z_int (by decide +kernel) (pa_cons (pe_callB call_abs (by rfl) T.z_abs (by decide +kernel) (pa_cons (pv 2) pa_nil)) pa_nil)) pe_int) pe_int) pa_nil)) (pe_op op_pow (pe_op op_add (pe_op op_mul pe_int (pv 1)) pe_int) pe_int)) pe_int) pe_int) pa_nil))))))), ?_⟩
    refine ⟨.int k, rfl, 23, k, rfl, rfl, .inl (by constructor <;> decide), _, _, rfl, rfl, fun σ' H' => H' = H ∧ ∃ c : Int, σ' = [some (.ref l), some (.int k), some (.int c)], ?_, fun σ' H' ⟨e1, c, e2⟩ => ?_⟩
    · refine ⟨.int k, rfl, .ref l, rfl, l, _, rfl, .inl hs, _, _, rfl, rfl, _, rfl, ?_⟩
      by_cases h : (k : Int) < ((ns.map V.int).length : Int)
      · rw [decide_eq_true h]
        have hk2 : k < (ns.map V.int).length := by omega
        refine iteT ⟨.ref l, rfl, .int k, rfl, l, _, k, (ns.map V.int)[k], rfl, rfl, hs, ?_, ?_⟩
        · unfold atI
          rw [ixN_nat hk2]
          exact List.getElem?_eq_getElem hk2
        · rw [List.getElem_map]
          exact ⟨rfl, _, rfl⟩
      · rw [decide_eq_false h]
        exact iteF ⟨rfl, _, rfl⟩
    · subst e1 e2
      refine ⟨.int c, rfl, c, rfl, 10, 18, rfl, rfl, ⟨by decide, by decide, by decide⟩, _, _, rfl, rfl, 0, _, rfl, .int c, rfl, c, rfl, .inl ⟨_, rfl, _, 2147483549, rfl, rfl, (by decide : (0 : Int) < 2147483549), _, _, rfl, rfl, .inl ⟨_, rfl, .int k, rfl, 2, k, rfl, rfl, .inl (by constructor <;> decide), _, _, rfl, rfl, _, 3, rfl, rfl, ⟨by decide, by decide, by omega⟩, _, _, rfl, rfl, .inl ?_, _, _, rfl, rfl, (by decide : (0 : Int) < 2147483477), _, _, rfl, rfl, (by decide : 2 ≤ sizeLine), fun p hp => q p _ hp (Ex.new hp) ⟨_, _, upd_same, ?_, ?_⟩⟩⟩⟩
      · have h1 := Int.emod_nonneg (if c < 0 then -c else c) (show (2147483549 : Int) ≠ 0 by decide)
        have h2 := Int.emod_lt_of_pos (if c < 0 then -c else c) (show (0 : Int) < 2147483549 by decide)
        constructor <;> omega
      · have h1 := fun z : Int => Int.emod_nonneg z (show (2147483477 : Int) ≠ 0 by decide)
        have h3 : ∀ z : Int, 0 ≤ z → 0 ≤ z + 1 := fun z hz => by omega
        exact h3 _ (h1 _)
      · have h2 := fun z : Int => Int.emod_lt_of_pos z (show (0 : Int) < 2147483477 by decide)
        have h3 : ∀ z : Int, z < 2147483477 → z + 1 < 2147483587 := fun z hz => by omega
        exact h3 _ (h2 _)
def sp__law_pick : Sp := fun vs H Q _ => ∃ (p l : Addr) (xs : List V), vs = [.ref p, .ref l] ∧ Po p H ∧ H l = some (.lst xs) ∧ l ≠ p ∧ 0 < xs.length ∧ xs.length ≤ 1000 ∧ ∀ x ∈ xs, ∀ H', Px p H H' → Q x H'
theorem ok__law_pick (T : Txt K mg a) : Fn P w K mg base 2 a._law_pick sp__law_pick := by
  have G__law_draw : Fn P w K mg base 1 a._law_draw sp__law_draw := ok__law_draw T
  refine T.d__law_pick.fn sc__law_pick (fun _ _ _ _ _ _ us hl => match us, hl with | [_, _], _ => rfl) (fun vs H Q E h => ?_) (fun cdv A outer s H vs Q E hg hr h => ?_)
  · obtain ⟨_, _, _, rfl, _⟩ := h
    rfl
  · obtain ⟨p, l, xs, rfl, hp, hl, hn, h0, h1, q⟩ := h
    refine ⟨_, (pss_one (ps_ret (pe_ix ix_list (pv 1) (pe_fn G__law_draw hg (hr.mono (by decide)) T.d__law_draw.kp T.d__law_draw.m (by rfl) passL (pa_cons (pv 0) (pa_cons (pe_callB call_len_seq (by rfl) T.z_len (by decide +kernel) (pa_cons (pv 1) pa_nil)) pa_nil))) (fun _ _ => rfl)))), ?_⟩
    refine ⟨.ref l, rfl, .ref p, rfl, .ref l, rfl, l, xs, rfl, .inl (sq_of hl), p, _, rfl, hp, by omega, by omega, fun d H' d0 d1 hx => ?_⟩
    obtain ⟨j, rfl⟩ := Int.eq_ofNat_of_zero_le d0
    have hj : j < xs.length := by omega
    refine ⟨l, xs, j, xs[j], rfl, rfl, sq_of (hx.1 l _ hn hl), ?_, q _ (List.getElem_mem hj) _ hx⟩
    unfold atI
    rw [ixN_nat hj]
    exact List.getElem?_eq_getElem hj
end
end K16
namespace K16
open PySem PySem.Spec PyProof.Rows L2 LG Evl
section
variable {P : Program} {w : World} {K : PySem.W.Frag} {mg : Str → Option Value} {base : Heap} {a : At}
/-! ### Term.__init__, is_place: no guard is asked for -/
def sp_Term_init (K : PySem.W.Frag) : Sp := fun vs H Q _ => ∃ x C dx d, vs = [.ref x, d] ∧ H x = some (.ins C dx []) ∧ Cls K C ∧ NoAttr K C "own_depth" ∧ Q .non (upd H x (.ins C dx [("own_depth", d)]))
theorem ok_Term_init {CX : CXT} (T : Txt K mg a) : ∃ fd, FnOk P w K mg base CX 1 a.m_Term_init fd ["self", "depth"] (sp_Term_init K) ∧ Binds K fd ["self", "depth"] [] := by
  obtain ⟨fd, F⟩ := T.m_Term_init.F
  have hb : Binds K fd ["self", "depth"] [] := F.binds fun _ _ _ _ _ _ us hl => match us, hl with | [_, _], _ => rfl
  obtain ⟨oc, od, kV, doc, pm, an, cdv, ct, osl, rfl, lk, hcd⟩ := F.ex
  refine ⟨_, fn_of lk hcd sc_Term_init (fun vs H Q E h => ?_) (fun A outer s H vs Q E hr h => ?_), hb⟩
  · obtain ⟨_, _, _, _, rfl, _⟩ := h
    rfl
  · obtain ⟨x, C, dx, d, rfl, hx, cl, na, q⟩ := h
    exact ⟨_, pss_one (ps_fld (pv 0) (pv 1) rfl), d, rfl, .ref x, rfl, x, C, dx, [], rfl, hx, cl, na, by decide, q⟩
def placesV : List V := [.str "r0", .str "r1", .str "r2", .str "r3", .str "r4", .str "r5", .str "x0", .str "x1"]
def isPlB : V → Bool
  | .str x => inV (.str x) placesV
  | _ => false
def sp_is_place : Sp := fun vs H Q _ => ∃ v t, vs = [v] ∧ Kn H v t ∧ Q (.bl (isPlB v)) H
theorem ok_is_place (T : Txt K mg a) : ∃ fd, FnOk P w K mg base CX0 1 a.is_place fd ["value"] sp_is_place ∧ Binds K fd ["value"] [] := by
  obtain ⟨fd, F⟩ := T.d_is_place.F
  refine ⟨fd, F.ok sc_is_place (fun vs H Q E h => ?_) (fun cdv A outer s H vs Q E hr h => ?_), F.binds fun _ _ _ _ _ _ us hl => match us, hl with | [_], _ => rfl⟩
  · obtain ⟨_, _, rfl, _⟩ := h
    rfl
  · obtain ⟨v, t, rfl, hk, q⟩ := h
    refine ⟨_, (pss_one (ps_ret (pe_and (pe_callB call_isi (by rfl) T.z_isinstance (by decide +kernel) (pa_cons (pv 0) (pa_cons (pe_ty "str" (by rfl) T.z_str (by decide +kernel)) pa_nil))) (pe_one (pe_cmpR op_in_seq (pv 0) (pe_glob (v := .ref a.PLACES) rfl T.v_PLACES rfl) (by rfl)))))), ?_⟩
    refine ⟨v, rfl, v, .ty "str", _, _, _, rfl, .ty _, hk.ty, kn_str hk, _, rfl, ?_⟩
    obtain ⟨od, its, n, sl, hl, hv⟩ := T.l_PLACES
    have hz : its.length = 8 := hv.length.symm
    have sq : SqT K H a.PLACES placesV := .inr ⟨_, its.toArray, n, hl, rfl, rfl, by rw [List.size_toArray, hz]; decide, by simpa [placesV] using hv⟩
    cases hk with
    | str x => exact iteT ⟨_, rfl, a.PLACES, _, rfl, .inr sq, rfl, rfl, q⟩
    | _ => exact iteF q
/-! ### Place -/
def sp_Place_init (K : PySem.W.Frag) (a : At) : Sp := fun vs H Q E => ∃ x dx v t, vs = [.ref x, v] ∧ H x = some (.ins a.k_Place dx []) ∧ Kn H v t ∧ (isPlB v = true → Q .non (upd H x (.ins a.k_Place dx [("own_depth", .int 0), ("own_name", v)]))) ∧ (isPlB v = false → Errs a.c_InvalidPlace v H E)
theorem ok_Place_init (T : Txt K mg a) (hfile : ∀ (vs : Array Value) (cl : Value) (cd : Option Addr) (sl : Array (Option Value)) (tx : Str) (tf : Tok), K.lookup a.o_Place_init = some ⟨cl, cd, .fields vs, sl⟩ → vs[2]? = some (.str tx tf) → ((P.main.file : Str) == tx) = true)
    (htop : (P.main.scope.names.lookup ("super" : Str)).isSome = false) : ∃ fd, FnOk P w K mg base (L2.CX P w) 3 a.m_Place_init fd ["self", "name"] (sp_Place_init K a) ∧ Binds K fd ["self", "name"] [] := by
  obtain ⟨fd1, F1, b1⟩ := ok_is_place (P := P) (w := w) (mg := mg) (base := base) T
  obtain ⟨fd2, F2, b2⟩ := ok_Term_init (P := P) (w := w) (mg := mg) (base := base) (CX := L2.CX P w) T
  have Z := FunS.ok (P := P) (w := w) (mg := mg) (base := base) (CX := L2.CX P w) (k := 2) (sp := sp_Place_init K a) T.m_Place_init sc_Place_init (fun vs H Q E h => ?_) (fun A outer s H vs Q E hr h => ?_)
  · obtain ⟨fd, G, _, _, _, _, _, _, _, _, rfl, _⟩ := Z
    exact ⟨_, G, .all fun us hl => match us, hl with | [_, _], _ => rfl⟩
  · obtain ⟨_, _, _, _, rfl, _⟩ := h
    rfl
  · obtain ⟨x, dx, v, t, rfl, hx, hk, q1, q2⟩ := h
    refine ⟨_, pssAt_cons (ps_if (pt_not (pt_val (pe_call F1 (hr.mono (by decide)) (by rfl) T.d_is_place.m T.d_is_place.kp b1 .nil pass0 (pa_cons (pv 1) pa_nil)))) (pss_one (ps_raiseV (i := 1) (k := 0) rfl (W := fun cls d _ H' => E cls d H') (takes_of rfl rfl rfl rfl) T.e_InvalidPlace T.ti T.di (hr.mono (by decide)) (by rfl) (pv 1))) pss_nil)
      (pssAt_super (X := NdefX.ncx (L2.CX P w) P w K mg base ["self", "name", "__class__"] (nfOf "__init__" "Place.__init__" s_Place_init a.w_Place_init a.o_Place_init) a.m_Place_init A outer s H E) (n0 := "self") rfl T.m_Place_init F2 b2 (hr.mono (by decide)) (E := fun _ _ _ => False) (passes_call (takes_of rfl rfl rfl rfl) fun _ _ _ _ h => h.elim) T.z_super (by rfl) (by rfl) (by rfl) rfl (by rfl) ⟨_, rfl, rfl⟩ hfile htop (by decide) (pa_cons pe_int pa_nil)
        (pssAt_of (pss_one (ps_fld (pv 0) (pv 1) rfl)))), ?_⟩
    refine ⟨v, rfl, v, t, rfl, hk, _, rfl, ?_⟩
    cases e : isPlB v with
    | false => exact iteT ⟨v, rfl, fun d hd => (q2 e).new (Ex.refl H) hd⟩
    | true =>
      refine iteF ⟨x, a.k_Place, dx, [], rfl, hx, T.s_Place, x, a.k_Place, dx, .int 0, rfl, hx, T.g_Place.cl, T.na_Place_own_depth, ?_⟩
      refine ⟨v, rfl, .ref x, rfl, x, a.k_Place, dx, [("own_depth", .int 0)], rfl, upd_same, T.g_Place.cl, T.na_Place_own_name, by show 1 < 1000; decide, ?_⟩
      rw [upd_upd]
      exact q1 e
end
end K16
namespace K16
open PySem PySem.Spec PyProof.Rows L2 LG Evl
section
variable {P : Program} {w : World} {K : PySem.W.Frag} {mg : Str → Option Value} {base : Heap} {a : At}
theorem okF_is_end (T : Txt K mg a) : ∃ fd, FnOk P w K mg base CX0 1 a.is_end fd ["value"] sp_is_end ∧ Binds K fd ["value"] [] := by
  obtain ⟨fd, F⟩ := T.d_is_end.F
  refine ⟨fd, F.ok sc_is_end (fun vs H Q E h => ?_) (fun cdv A outer s H vs Q E hr h => ?_), F.binds fun _ _ _ _ _ _ us hl => match us, hl with | [_], _ => rfl⟩
  · obtain ⟨_, _, rfl, _⟩ := h
    rfl
  · obtain ⟨v, t, rfl, hk, q⟩ := h
    refine ⟨_, (pss_one (ps_ret (pe_and (pe_callB call_isi (by rfl) T.z_isinstance (by decide +kernel) (pa_cons (pv 0) (pa_cons (pe_ty "str" (by rfl) T.z_str (by decide +kernel)) pa_nil))) (pe_one (pe_cmpR op_in_seq (pv 0) (pe_glob (v := .ref a.ENDS) rfl T.v_ENDS rfl) (by rfl)))))), ?_⟩
    refine ⟨v, rfl, v, .ty "str", _, _, _, rfl, .ty _, hk.ty, kn_str hk, _, rfl, ?_⟩
    obtain ⟨od, its, n, sl, hl, hv⟩ := T.l_ENDS
    have hz : its.length = 2 := hv.length.symm
    have sq : SqT K H a.ENDS [.str "bottom", .str "top"] := .inr ⟨_, its.toArray, n, hl, rfl, rfl, by rw [List.size_toArray, hz]; decide, by simpa using hv⟩
    cases hk with
    | str x => exact iteT ⟨_, rfl, a.ENDS, _, rfl, .inr sq, rfl, rfl, q⟩
    | _ => exact iteF q
/-! ### End -/
def sp_End_init (K : PySem.W.Frag) (a : At) : Sp := fun vs H Q E => ∃ x dx v t, vs = [.ref x, v] ∧ H x = some (.ins a.k_End dx []) ∧ Kn H v t ∧ (isEndS v = true → Q .non (upd H x (.ins a.k_End dx [("own_depth", .int 0), ("own_end", v)]))) ∧ (isEndS v = false → Errs a.c_InvalidEnd v H E)
theorem ok_End_init (T : Txt K mg a) (hfile : ∀ (vs : Array Value) (cl : Value) (cd : Option Addr) (sl : Array (Option Value)) (tx : Str) (tf : Tok), K.lookup a.o_End_init = some ⟨cl, cd, .fields vs, sl⟩ → vs[2]? = some (.str tx tf) → ((P.main.file : Str) == tx) = true)
    (htop : (P.main.scope.names.lookup ("super" : Str)).isSome = false) : ∃ fd, FnOk P w K mg base (L2.CX P w) 3 a.m_End_init fd ["self", "end"] (sp_End_init K a) ∧ Binds K fd ["self", "end"] [] := by
  obtain ⟨fd1, F1, b1⟩ := okF_is_end (P := P) (w := w) (mg := mg) (base := base) T
  obtain ⟨fd2, F2, b2⟩ := ok_Term_init (P := P) (w := w) (mg := mg) (base := base) (CX := L2.CX P w) T
  have Z := FunS.ok (P := P) (w := w) (mg := mg) (base := base) (CX := L2.CX P w) (k := 2) (sp := sp_End_init K a) T.m_End_init sc_End_init (fun vs H Q E h => ?_) (fun A outer s H vs Q E hr h => ?_)
  · obtain ⟨fd, G, _, _, _, _, _, _, _, _, rfl, _⟩ := Z
    exact ⟨_, G, .all fun us hl => match us, hl with | [_, _], _ => rfl⟩
  · obtain ⟨_, _, _, _, rfl, _⟩ := h
    rfl
  · obtain ⟨x, dx, v, t, rfl, hx, hk, q1, q2⟩ := h
    refine ⟨_, pssAt_cons (ps_if (pt_not (pt_val (pe_call F1 (hr.mono (by decide)) (by rfl) T.d_is_end.m T.d_is_end.kp b1 .nil pass0 (pa_cons (pv 1) pa_nil)))) (pss_one (ps_raiseV (i := 1) (k := 0) rfl (W := fun cls d _ H' => E cls d H') (takes_of rfl rfl rfl rfl) T.e_InvalidEnd T.ti T.di (hr.mono (by decide)) (by rfl) (pv 1))) pss_nil)
      (pssAt_super (X := NdefX.ncx (L2.CX P w) P w K mg base ["self", "end", "__class__"] (nfOf "__init__" "End.__init__" s_End_init a.w_End_init a.o_End_init) a.m_End_init A outer s H E) (n0 := "self") rfl T.m_End_init F2 b2 (hr.mono (by decide)) (E := fun _ _ _ => False) (passes_call (takes_of rfl rfl rfl rfl) fun _ _ _ _ h => h.elim) T.z_super (by rfl) (by rfl) (by rfl) rfl (by rfl) ⟨_, rfl, rfl⟩ hfile htop (by decide) (pa_cons pe_int pa_nil)
        (pssAt_of (pss_one (ps_fld (pv 0) (pv 1) rfl)))), ?_⟩
    refine ⟨v, rfl, v, t, rfl, hk, _, rfl, ?_⟩
    cases e : isEndS v with
    | false => exact iteT ⟨v, rfl, fun d hd => (q2 e).new (Ex.refl H) hd⟩
    | true =>
      refine iteF ⟨x, a.k_End, dx, [], rfl, hx, T.s_End, x, a.k_End, dx, .int 0, rfl, hx, T.g_End.cl, T.na_End_own_depth, ?_⟩
      refine ⟨v, rfl, .ref x, rfl, x, a.k_End, dx, [("own_depth", .int 0)], rfl, upd_same, T.g_End.cl, T.na_End_own_end, by show 1 < 1000; decide, ?_⟩
      rw [upd_upd]
      exact q1 e
/-! ### the properties -/
/-- a getter of an own field -/
theorem get_own {CX : CXT} {x qual f : Str} {st : Stmt} {g C : Addr} {N : List Str} {p1 p2 p3 : Pos} (M : GMe K x qual st g) (S : FnScope N ["self"] (defScope st)) (hN : N[0]? = some ("self" : Str)) (hb : defBody st = [.Return (some (.Attribute (.Name "self" p1) f p2)) p3]) (hbi : ∀ (kV doc pm : Value) (an : Option Addr) (cdv ct : Value) (us : List Value), us.length = 1 → bindArgs (PySem.W.fnOf x qual (defArgs st) (defBody st) (defScope st) .none kV doc pm an cdv ct) ⟨us, []⟩ = pure ((["self"] : List Str).zip us)) (c : Cls K C) (n : NoAttr K C f) :
    ∃ fd, FnOk P w K mg base CX 1 g fd ["self"] (getSp C f) ∧ Binds K fd ["self"] [] := by
  obtain ⟨fd, F⟩ := M.F
  have hbd : Binds K fd ["self"] [] := F.binds hbi
  obtain ⟨oc, od, kV, doc, pm, an, cdv, ct, osl, rfl, lk, hcd⟩ := F.ex
  exact ⟨_, fn_getter lk hcd S hN hb c n, hbd⟩
theorem ok_name {CX : CXT} (T : Txt K mg a) : ∃ fd, FnOk P w K mg base CX 1 a.m_Place_name fd ["self"] (getSp a.k_Place "own_name") ∧ Binds K fd ["self"] [] := get_own T.m_Place_name sc_Place_name rfl rfl (fun _ _ _ _ _ _ us hl => match us, hl with | [_], _ => rfl) T.g_Place.cl T.na_Place_own_name
theorem ok_end {CX : CXT} (T : Txt K mg a) : ∃ fd, FnOk P w K mg base CX 1 a.m_End_end fd ["self"] (getSp a.k_End "own_end") ∧ Binds K fd ["self"] [] := get_own T.m_End_end sc_End_end rfl rfl (fun _ _ _ _ _ _ us hl => match us, hl with | [_], _ => rfl) T.g_End.cl T.na_End_own_end
theorem ok_parts_l {CX : CXT} (T : Txt K mg a) : ∃ fd, FnOk P w K mg base CX 1 a.m_Lesser_parts fd ["self"] (getSp a.k_Lesser "own_parts") ∧ Binds K fd ["self"] [] := get_own T.m_Lesser_parts sc_Lesser_parts rfl rfl (fun _ _ _ _ _ _ us hl => match us, hl with | [_], _ => rfl) T.g_Lesser.cl T.na_Lesser_own_parts
theorem ok_parts_g {CX : CXT} (T : Txt K mg a) : ∃ fd, FnOk P w K mg base CX 1 a.m_Greater_parts fd ["self"] (getSp a.k_Greater "own_parts") ∧ Binds K fd ["self"] [] := get_own T.m_Greater_parts sc_Greater_parts rfl rfl (fun _ _ _ _ _ _ us hl => match us, hl with | [_], _ => rfl) T.g_Greater.cl T.na_Greater_own_parts
theorem ok_depth {CX : CXT} (T : Txt K mg a) {C : Addr} (c : Cls K C) (n : NoAttr K C "own_depth") : ∃ fd, FnOk P w K mg base CX 1 a.m_Term_depth fd ["self"] (getSp C "own_depth") ∧ Binds K fd ["self"] [] := get_own T.m_Term_depth sc_Term_depth rfl rfl (fun _ _ _ _ _ _ us hl => match us, hl with | [_], _ => rfl) c n
end
end K16
/-! Terms: trees, and the objects that are them. -/
namespace TM
open PySem PySem.Spec PyProof.Rows L2 LG Evl
/-- where the classes stand -/
structure Cs where
  place : Addr
  endd : Addr
  lesser : Addr
  greater : Addr
  term : Addr
inductive Tree where
  | place (n : Str)
  | endd (e : Str)
  | lesser (ts : List Tree)
  | greater (ts : List Tree)
mutual
def Tree.depth : Tree → Nat
  | .place _ => 0
  | .endd _ => 0
  | .lesser ts => Tree.depthAll ts + 1
  | .greater ts => Tree.depthAll ts + 1
def Tree.depthAll : List Tree → Nat
  | [] => 0
  | t :: ts => max t.depth (Tree.depthAll ts)
end
theorem depth_mem {t : Tree} : ∀ {ts : List Tree}, t ∈ ts → t.depth ≤ Tree.depthAll ts
  | u :: us, h => by
    rw [Tree.depthAll]
    rcases List.mem_cons.mp h with rfl | h
    · exact Nat.le_max_left _ _
    · exact Nat.le_trans (depth_mem h) (Nat.le_max_right _ _)
/-- v is the term t, in the heap H -/
inductive TmAt (c : Cs) (H : Hp) : V → Tree → Prop
  | place {a dx : Addr} {n : Str} (h : H a = some (.ins c.place dx [("own_depth", .int 0), ("own_name", .str n)])) : TmAt c H (.ref a) (.place n)
  | endd {a dx : Addr} {e : Str} (h : H a = some (.ins c.endd dx [("own_depth", .int 0), ("own_end", .str e)])) : TmAt c H (.ref a) (.endd e)
  | lesser {a dx p : Addr} {xs : List V} {ts : List Tree} (h : H a = some (.ins c.lesser dx [("own_depth", .int ((Tree.lesser ts).depth : Nat)), ("own_parts", .ref p)])) (hp : H p = some (.tup xs)) (hl : xs.length = ts.length) (hx : ∀ (i : Nat) (x : V) (t : Tree), xs[i]? = some x → ts[i]? = some t → TmAt c H x t) : TmAt c H (.ref a) (.lesser ts)
  | greater {a dx p : Addr} {xs : List V} {ts : List Tree} (h : H a = some (.ins c.greater dx [("own_depth", .int ((Tree.greater ts).depth : Nat)), ("own_parts", .ref p)])) (hp : H p = some (.tup xs)) (hl : xs.length = ts.length) (hx : ∀ (i : Nat) (x : V) (t : Tree), xs[i]? = some x → ts[i]? = some t → TmAt c H x t) : TmAt c H (.ref a) (.greater ts)
/-- what keeps instances and tuples keeps terms -/
theorem TmAt.up {c : Cs} {H H' : Hp} {v : V} {t : Tree} (e : Ex H H') (h : TmAt c H v t) : TmAt c H' v t := by
  induction h with
  | place h => exact .place (e _ _ h)
  | endd h => exact .endd (e _ _ h)
  | lesser h hp hl _ ih => exact .lesser (e _ _ h) (e _ _ hp) hl ih
  | greater h hp hl _ ih => exact .greater (e _ _ h) (e _ _ hp) hl ih
theorem TmAt.upW {c : Cs} {p : Addr} {xs : List V} {H H' : Hp} {v : V} {t : Tree} (hp0 : H p = some (.lst xs)) (e : ∀ b o, b ≠ p → (∀ ps, o ≠ .tbl ps) → H b = some o → H' b = some o) (h : TmAt c H v t) : TmAt c H' v t := by
  have k : ∀ {b : Addr} {o : HO}, H b = some o → (∀ zs, o ≠ .lst zs) → (∀ ps, o ≠ .tbl ps) → H' b = some o := fun {b o} hb hn ht => e b o (fun z => by
    rw [z, hp0] at hb
    exact hn xs (Option.some.inj hb).symm) ht hb
  induction h with
  | place h => exact .place (k h (fun _ z => by cases z) (fun _ z => by cases z))
  | endd h => exact .endd (k h (fun _ z => by cases z) (fun _ z => by cases z))
  | lesser h hp hl _ ih => exact .lesser (k h (fun _ z => by cases z) (fun _ z => by cases z)) (k hp (fun _ z => by cases z) (fun _ z => by cases z)) hl ih
  | greater h hp hl _ ih => exact .greater (k h (fun _ z => by cases z) (fun _ z => by cases z)) (k hp (fun _ z => by cases z) (fun _ z => by cases z)) hl ih
/-! ### text and representation -/
def joinS (sep : Str) : List Str → Str
  | [] => ""
  | [x] => x
  | x :: y :: r => x ++ sep ++ joinS sep (y :: r)
mutual
def Tree.text : Tree → Str
  | .place n => n
  | .endd e => e
  | .lesser ts => joinS " & " (Tree.innerAll ts)
  | .greater ts => joinS " | " (Tree.innerAll ts)
def Tree.innerAll : List Tree → List Str
  | [] => []
  | t :: ts => (if t.depth > 0 then "(" ++ t.text ++ ")" else t.text) :: Tree.innerAll ts
end
mutual
def Tree.repr : Tree → Str
  | .place n => "Place(" ++ PyData.shown (.str n) ++ ")"
  | .endd e => "End(" ++ PyData.shown (.str e) ++ ")"
  | .lesser ts => "Lesser(" ++ joinS ", " (Tree.reprAll ts) ++ ")"
  | .greater ts => "Greater(" ++ joinS ", " (Tree.reprAll ts) ++ ")"
def Tree.reprAll : List Tree → List Str
  | [] => []
  | t :: ts => t.repr :: Tree.reprAll ts
end
end TM
/-! super() in a def with a star parameter: def m(self, *v). -/
namespace LG
open PySem PySem.Spec PyProof.Rows L2
section
variable {P : Program} {w : World} {K : PySem.W.Frag} {mg : Str → Option Value} {base : Heap} {cc cda D f : Addr} {x qual : Str} {st : Stmt} {N ps : List Str} {k : Nat} {sp : Sp} {CX : CXT}
theorem FunS.cells (F : FunS K x qual st cc cda D f) {A : Around} {outer : List Env} {s : Shared} {H : Hp} (e0 : Env0 P w K mg base A outer s H) : NdefX.CellsAt [("__class__", cc)] ["__class__"] [some (V.ref D)] s.heap H := by
  have KX : K.In s.heap := e0.mod.kin.keeps fun b o e => (e0.bs b o e).1
  obtain ⟨cl, cd, sl, hcell⟩ := F.cell
  have one : ∀ {y : Str} {c : Addr}, List.lookup y [(("__class__" : Str), cc)] = some c → y = "__class__" ∧ c = cc := fun {y c} h => by
    rw [List.lookup_cons] at h
    split at h
    · rename_i z
      cases h
      exact ⟨eq_of_beq z, rfl⟩
    · cases h
  have isC : s.heap.IsCell cc (some (.ref D)) := ⟨_, KX _ _ hcell, rfl⟩
  refine ⟨rfl, fun y c h => ?_, fun a b c h1 h2 => (one h1).1.trans (one h2).1.symm, fun i y hy => ?_⟩
  · obtain ⟨_, rfl⟩ := one h
    exact ⟨(e0.bs _ _ (e0.mod.kin _ _ hcell)).2, _, isC⟩
  · match i, hy with
    | 0, hy =>
      cases hy
      exact ⟨cc, by simp, fun v hv => by cases hv; exact ⟨.ref D, rfl, isC⟩⟩
/-- def m(self, *v): what is left over is a new tuple -/
theorem FunS.star {p1 pv : Str} (F : FunS K x qual st cc cda D f) (S : NdefX.NScope N [p1, pv] ["__class__"] (defScope st)) (hCX : StX.CXUp CX)
    (hb : ∀ (kV doc pm : Value) (an : Option Addr) (ct : Value) (u : Value) (us : List Value), bindArgs (PySem.W.ksFn x qual (defArgs st) (defBody st) (defScope st) .none kV doc pm an (.ref cda) ct cc) ⟨u :: us, []⟩ = (newTuple us >>= fun t => pure [(p1, u), (pv, t)]))
    (hbody : ∀ (A : Around) (outer : List Env) (s : Shared) (H : Hp) (vs : List V) (Q : VK) (E : XK), Room k (A.deeper (NdefX.envF (nfOf x qual st cc cda) f s.heap.objs.size)) → sp vs H Q E →
      ∃ t, PSsAt (NdefX.ncx CX P w K mg base N (nfOf x qual st cc cda) f A outer s H E) (defBody st) (defBody st) t ∧ t { nx := fun _ H' => Q .non H', rt := Q } (NdefX.startF N vs [some (.ref D)]) H) :
    FnR P w K mg base CX (k + 1) f (fun vs H Q E => ∃ v ws, vs = v :: ws ∧ ws.length ≤ sizeLine ∧ ∀ p, H p = none → sp [v, V.ref p] (upd H p (.tup ws)) Q E) := by
  intro A outer s H us vs Q E hr e0 rv hsp
  obtain ⟨v, ws, rfl, hz, hq⟩ := hsp
  obtain ⟨oc, od, kV, doc, pm, an, ct, osl, lk⟩ := F.ex
  have KX : K.In s.heap := e0.mod.kin.keeps fun b o e => (e0.bs b o e).1
  have hn : H s.heap.objs.size = none := e0.hok.fresh (Nat.le_refl _)
  match us, rv with
  | u :: us, .cons r0 r =>
    have hl : us.length ≤ sizeLine := by
      rw [← r.length]
      exact hz
    refine codeAny_call_function hr.depth (KX _ _ lk) rfl S.co S.gen rfl (PySem.W.codeRec_of KX F.code) ?_
    rw [hb]
    refine wpAny_bind (wpAny_newTuple (wpAny_pure ?_) hl)
    have new : ObjOk P w (upd H s.heap.objs.size (.tup ws)) (s.heap.push ({ cls := .type "tuple", data := .seq us.toArray } : Obj)) s.heap.objs.size (.tup ws) := ⟨hz, us, r, ⟨_, Heap.get?_push_size _ rfl, rfl, _, rfl⟩⟩
    have un := StX.un_laid (fs := frs outer) (s := s) (o := ({ cls := .type "tuple", data := .seq us.toArray } : Obj)) (u := .tup ws) hn
    have e2 := StX.env0_laid e0 new
    have lim : (s.heap.push ({ cls := .type "tuple", data := .seq us.toArray } : Obj)).NoLimit := e0.mod.nolimit.keeps fun b o e => (e2.bs b o e).1
    refine wpAny_newFunctionEnv (fun y hy => S.nocell y hy) (fun y hy => S.par y.1 ?_) (fun h₁ hns hsb => ⟨lim.fresh _ hsb, PySem.ks_codeAny_funcAt ?_⟩) S.kind
    · rcases List.mem_cons.mp hy with rfl | hy
      · exact List.mem_cons_self
      · rw [List.mem_singleton.mp hy]
        exact List.mem_cons_of_mem _ List.mem_cons_self
    · obtain ⟨t, ht, hq2⟩ := hbody A outer { s with heap := s.heap.push ({ cls := .type "tuple", data := .seq us.toArray } : Obj) } _ _ Q E (hr.deeper _) (hq _ hn)
      have kp : ∀ b o, (s.heap.push ({ cls := .type "tuple", data := .seq us.toArray } : Obj)).get? b = some o → h₁.get? b = some o := fun b o e => hsb.extBut b o (Nat.ne_of_lt (Heap.lt_size e)) (Heap.get?_push_of_some _ e)
      have I := NdefX.inv_startN (CX := CX) (E := E) (f := f) (F := nfOf x qual st cc cda) (vs := [v, V.ref s.heap.objs.size]) (us := [u, Value.ref s.heap.objs.size]) (tk := s.toks + 2) S hr.hd e2 rfl (.cons r0 (.cons rfl .nil)) (F.cells e2) hns kp
      have kp0 : ∀ b o, s.heap.get? b = some o → (s.heap.push ({ cls := .type "tuple", data := .seq us.toArray } : Obj)).get? b = some o := fun b o e => Heap.get?_push_of_some _ e
      refine PySem.ks_wpAt_mono (ht [] _ _ _ _ I hq2) (fun fl s' hs => ?_) fun e s' hs => ?_
      · have fin : ∀ {σ' : L2.St} {H' : Hp} {v' : V} {u' : Value}, Inv (NdefX.ncx CX P w K mg base N (nfOf x qual st cc cda) f A outer { s with heap := s.heap.push ({ cls := .type "tuple", data := .seq us.toArray } : Obj) } (upd H s.heap.objs.size (.tup ws)) E) [] σ' H' s' → L2.RelV v' u' → Q v' H' → CE outer P w H s Q u' s' :=
          fun {σ' H' v' u'} J rv' q => ⟨v', H', J.os, J.bare, un.trans J.base, J.hok, rv', q⟩
        match fl, hs with
        | .ret u', ⟨v', σ', H', J, rv', q⟩ => exact fin J rv' q
        | .next, ⟨σ', H', J, q⟩ => exact fin (v' := V.non) (u' := Value.none) J rfl q
        | .brk, ⟨_, _, _, q⟩ => exact False.elim q
        | .cont, ⟨_, _, _, q⟩ => exact False.elim q
      · exact wpAny_mono hs (fun _ s'' z => hCX outer s H { s with heap := s.heap.push ({ cls := .type "tuple", data := .seq us.toArray } : Obj) } (upd H s.heap.objs.size (.tup ws)) E e s'' un kp0 rfl z) fun e' s'' z => hCX outer s H { s with heap := s.heap.push ({ cls := .type "tuple", data := .seq us.toArray } : Obj) } (upd H s.heap.objs.size (.tup ws)) E e' s'' un kp0 rfl z
end
end LG
namespace K16
open PySem PySem.Spec PyProof.Rows L2 LG Evl
/-- a statement that is never reached -/
theorem ps_no {X : Cx} {st : Stmt} : PS X st (fun _ _ _ => False) := ⟨fun _ _ _ _ _ _ h => h.elim⟩
abbrev csOf (a : At) : TM.Cs := ⟨a.k_Place, a.k_End, a.k_Lesser, a.k_Greater, a.k_Term⟩
section
variable {P : Program} {w : World} {K : PySem.W.Frag} {mg : Str → Option Value} {base : Heap} {a : At}
theorem kit_own {C D : Addr} (h1 : PySem.W.clsIn K D ≠ none) (h2 : PySem.W.typeIn K (.ref D) = some (.type "type")) {b : Bool} (hne : C ≠ D) (h : PySem.W.subIn K (.ref C) (.ref D) = some b) : PySem.W.kitOne K (.ref C) (.ref D) = some b := by
  unfold PySem.W.kitOne
  rw [if_neg (by intro z; exact hne (Value.ref.inj (beq_iff_eq.mp z)))]
  obtain ⟨cd, hc⟩ := Option.ne_none_iff_exists'.mp h1
  show (if ((PySem.W.clsIn K D).isSome && PySem.W.typeIn K (.ref D) == some (.type "type")) = true then PySem.W.subIn K (.ref C) (.ref D) else none) = some b
  rw [if_pos (by rw [hc, h2]; rfl)]
  exact h
theorem kit_self {C : Addr} : PySem.W.kitOne K (.ref C) (.ref C) = some true := by
  unfold PySem.W.kitOne
  rw [if_pos (by simp)]
theorem ty_ins {c x : Addr} {dx : Addr} {H : Hp} {fs : List (Str × V)} {nm : Str} (T : Txt K mg a) (g : GCl K mg nm c) (h : H x = some (.ins c dx fs)) : TyX K H (.ref x) (.ref c) := .base (.ins h g.cl g.ha T.hn T.htk g.hm)
/-- the class of a term, and whether it is the class at D -/
theorem tm_ty {H : Hp} {v : V} {t : TM.Tree} (T : Txt K mg a) (h : TM.TmAt (csOf a) H v t) : ∃ C, TyX K H v (.ref C) ∧ PySem.W.kitOne K (.ref C) (.ref a.k_Term) = some true := by
  have self : ∀ {C : Addr}, PySem.W.subIn K (.ref C) (.ref a.k_Term) = some true → PySem.W.kitOne K (.ref C) (.ref a.k_Term) = some true := fun {C} h => by
    by_cases e : C = a.k_Term
    · rw [e]
      exact kit_self
    · exact kit_own T.g_Term.ki.1 T.g_Term.ki.2 e h
  cases h with
  | place h => exact ⟨_, ty_ins T T.g_Place h, self T.x_Place_Term⟩
  | endd h => exact ⟨_, ty_ins T T.g_End h, self T.x_End_Term⟩
  | lesser h _ _ _ => exact ⟨_, ty_ins T T.g_Lesser h, self T.x_Lesser_Term⟩
  | greater h _ _ _ => exact ⟨_, ty_ins T T.g_Greater h, self T.x_Greater_Term⟩
def sp_want_term (a : At) : Sp := fun vs H Q _ => ∃ v t, vs = [v] ∧ TM.TmAt (csOf a) H v t ∧ Q .non H
theorem ok_want_term (T : Txt K mg a) : ∃ fd, FnOk P w K mg base CX0 1 a.want_term fd ["value"] (sp_want_term a) ∧ Binds K fd ["value"] [] := by
  obtain ⟨fd, F⟩ := T.d_want_term.F
  refine ⟨fd, F.ok sc_want_term (fun vs H Q E h => ?_) (fun cdv A outer s H vs Q E hr h => ?_), F.binds fun _ _ _ _ _ _ us hl => match us, hl with | [_], _ => rfl⟩
  · obtain ⟨_, _, rfl, _⟩ := h
    rfl
  · obtain ⟨v, t, rfl, ht, q⟩ := h
    obtain ⟨C, ty, kit⟩ := tm_ty T ht
    refine ⟨_, (pss_one (ps_if (pt_not (pt_val (pe_callB call_isi (by rfl) T.z_isinstance (by decide +kernel) (pa_cons (pv 0) (pa_cons (pe_glob (v := .ref a.k_Term) (by rfl) T.g_Term.m rfl) pa_nil))))) (pss_one ps_no) pss_nil)), ?_⟩
    exact ⟨v, rfl, v, .ref a.k_Term, _, _, _, rfl, .own _, ty, kit, _, rfl, iteF q⟩
def sp_want_terms (K : PySem.W.Frag) (a : At) : Sp := fun vs H Q _ => ∃ p xs, vs = [.ref p] ∧ SqT K H p xs ∧ (∀ x ∈ xs, ∃ t, TM.TmAt (csOf a) H x t) ∧ Q .non H
theorem ok_want_terms (T : Txt K mg a) : ∃ fd, FnOk P w K mg base CX0 2 a.want_terms fd ["values"] (sp_want_terms K a) ∧ Binds K fd ["values"] [] := by
  obtain ⟨fd1, F1, b1⟩ := ok_want_term (P := P) (w := w) (mg := mg) (base := base) T
  obtain ⟨fd, F⟩ := T.d_want_terms.F
  refine ⟨fd, F.ok sc_want_terms (fun vs H Q E h => ?_) (fun cdv A outer s H vs Q E hr h => ?_), F.binds fun _ _ _ _ _ _ us hl => match us, hl with | [_], _ => rfl⟩
  · obtain ⟨_, _, rfl, _⟩ := h
    rfl
  · obtain ⟨p, xs, rfl, hs, hx, q⟩ := h
    have nd := sc_want_terms.nd
    refine ⟨_, (pss_one (ps_for PassesOwn.never rfl (pi_tup (pv 0)) (pg_name (i := 1) nd rfl (.inl rfl)) (pss_one (ps_expr (pe_call F1 (hr.mono (by decide)) (by rfl) T.d_want_term.m T.d_want_term.kp b1 .nil pass0 (pa_cons (pv 1) pa_nil)))))), ?_⟩
    refine ⟨.ref p, rfl, p, rfl, ⟨xs, hs⟩, for_tup (K := K) (a := p) (xs := xs) (fun i σ H2 => H2 = H ∧ ∃ u, σ = [some (.ref p), u]) ⟨rfl, none, rfl⟩ (fun i σ H2 _ h => h.1 ▸ hs) ?_ (fun σ H2 h => h.1 ▸ q)⟩
    rintro i y σ H2 hi ⟨rfl, u, rfl⟩
    obtain ⟨t, ht⟩ := hx y (List.mem_of_getElem? hi)
    exact ⟨y, rfl, y, t, rfl, ht, rfl, some y, rfl⟩
end
end K16
/-! A property of an object of one of several own classes; a comprehension over a tuple. -/
namespace LG
open PySem PySem.Spec PyProof.Rows L2 Evl
/-- at the class C the name f is a property that hands out the field fld -/
structure PropG (P : Program) (w : World) (K : PySem.W.Frag) (mg : Str → Option Value) (base : Heap) (CX : CXT) (C : Addr) (f fld : Str) : Prop where
  cl : Cls K C
  ex : ∃ p g fd, PropOf K C f p g ∧ FnOk P w K mg base CX 1 g fd ["self"] (getSp C fld) ∧ Binds K fd ["self"] []
/-- e.f: which field it is, is told by the class -/
def tGetA (G : Addr → Str → Prop) (ta : TE) : TE := fun σ H Q => ta σ H fun x H1 => ∃ a C dx fs fld v, x = .ref a ∧ H1 a = some (.ins C dx fs) ∧ G C fld ∧ fs.lookup fld = some v ∧ Q v H1
section
variable {X : Cx} {CX : CXT} {G : Addr → Str → Prop} {e : Expr} {f : Str} {pos : Pos} {ta : TE}
theorem pe_getA (he : PE X e ta) (hG : ∀ C fld, G C fld → PropG X.prog X.w X.K X.mg X.base CX C f fld) (hr : Room 2 X.A) (hx : Passes CX X.nox (fun _ _ _ => False))
    (hab : attributeBase e f X.env (eval e X.env) = eval e X.env) : PE X (.Attribute e f pos) (tGetA G ta) := by
  refine ⟨fun pins s σ H Q I h => ?_⟩
  refine attr_of hab (thn (he.run pins s σ H _ I h) fun u s1 ⟨x, H1, I1, rx, a, C, dx, fs, fld, v, ex, ea, g, hv, q⟩ => ?_)
  subst ex
  obtain rfl : u = Value.ref a := rx
  obtain ⟨p, ga, fd, hp, F, hb⟩ := (hG C fld g).ex
  exact getprop_ok I1 ea (hG C fld g).cl hp F hr hb .nil hx ⟨a, dx, fs, v, rfl, ea, hv, q⟩
end
section
variable {te : TE} {t : TT} {σ : L2.St} {H : Hp} {K : PySem.W.Frag} {G : Addr → Str → Prop}
theorem ev_getA {a C dx : Addr} {fs : List (Str × V)} {fld : Str} {v : V} (h : Ev te σ H (.ref a)) (ea : H a = some (.ins C dx fs)) (g : G C fld) (hv : fs.lookup fld = some v) : Ev (tGetA G te) σ H v :=
  fun H1 e Q q => h H1 e _ fun H2 e2 => ⟨a, C, dx, fs, fld, v, rfl, e2 _ _ (e _ _ ea), g, hv, q H2 e2⟩
theorem el_lcT {a : Addr} {xs : List V} {tl : TE} {j : Nat} {vs : List Nat} (f : Nat → Bool) (v : Nat → V) (h : Ev tl σ H (.ref a)) (hx : SqT K H a xs) (hz : xs.length ≤ 40000) (hw : ∀ x, wipe ((wipe σ vs).set j (some x)) vs = wipe σ vs)
    (ht : ∀ (i : Nat) (x : V) H1, Ex H H1 → xs[i]? = some x → EvT t ((wipe σ vs).set j (some x)) H1 (f i)) (he : ∀ (i : Nat) (x : V) H1, Ex H H1 → xs[i]? = some x → f i = true → Ev te ((wipe σ vs).set j (some x)) H1 (v i)) :
    EvL (tLc (iTup K tl) (gName j) t te vs) σ H (given xs.length f v) := fun H0 e Q q => h H0 e _ fun H1 e1 => ⟨a, rfl, ⟨xs, ex_t (e.trans e1) hx⟩, fun Dl hD =>
  lc_tup (xs := xs) (Cw H1 f v Dl) ⟨hD, Ex.new hD, upd_same⟩ (fun i H' _ p => ex_t ((e.trans e1).trans p.2.1) hx) (fun i x H' hi p => ⟨hw x, cw_turn p (by have := (List.getElem?_eq_some_iff.mp hi).1; omega) (ht i x H1 (e.trans e1) hi) (fun hf => he i x H1 (e.trans e1) hi hf)⟩)
    (fun H' p => q Dl H' (fresh_back e1 p.1) (e1.trans p.2.1) p.2.2)⟩
/-- each element of a tuple, computed: ys the values -/
theorem el_tmap {a : Addr} {xs ys : List V} {tl : TE} {j : Nat} {vs : List Nat} (h : Ev tl σ H (.ref a)) (hx : SqT K H a xs) (hz : xs.length ≤ 40000) (hl : xs.length = ys.length) (hw : ∀ x, wipe ((wipe σ vs).set j (some x)) vs = wipe σ vs)
    (he : ∀ (i : Nat) (x y : V) H1, Ex H H1 → xs[i]? = some x → ys[i]? = some y → Ev te ((wipe σ vs).set j (some x)) H1 y) :
    EvL (tLc (iTup K tl) (gName j) tYes te vs) σ H ys := by
  have z : given xs.length (fun _ => true) (fun i => ys.getD i .non) = ys := by
    unfold given
    rw [List.filter_eq_self.mpr fun _ _ => rfl, hl]
    apply List.ext_getElem?
    intro i
    rw [List.getElem?_map]
    by_cases hi : i < ys.length
    · rw [List.getElem?_eq_getElem (by simpa using hi), List.getElem?_eq_getElem hi]
      simp [List.getD_eq_getElem?_getD, List.getElem?_eq_getElem hi]
    · rw [List.getElem?_eq_none (by simpa using hi), List.getElem?_eq_none (by omega)]
      rfl
  rw [← z]
  refine el_lcT (fun _ => true) _ h hx hz hw (fun i x H1 e hi => fun H2 e2 _ q => q H2 (Ex.refl H2)) (fun i x H1 e hi _ => ?_)
  have hi2 : i < ys.length := hl ▸ (List.getElem?_eq_some_iff.mp hi).1
  exact he i x _ H1 e hi (by rw [List.getElem?_eq_getElem hi2]; simp [List.getD_eq_getElem?_getD, List.getElem?_eq_getElem hi2])
end
end LG
namespace K16
open PySem PySem.Spec PyProof.Rows L2 LG Evl
section
variable {P : Program} {w : World} {K : PySem.W.Frag} {mg : Str → Option Value} {base : Heap} {a : At}
/-! ### which field a property hands out -/
def gDepth (a : At) : Addr → Str → Prop := fun C fld => (C = a.k_Place ∨ C = a.k_End ∨ C = a.k_Lesser ∨ C = a.k_Greater) ∧ fld = "own_depth"
def gParts (a : At) : Addr → Str → Prop := fun C fld => (C = a.k_Lesser ∨ C = a.k_Greater) ∧ fld = "own_parts"
def gNm (a : At) : Addr → Str → Prop := fun C fld => C = a.k_Place ∧ fld = "own_name"
def gEnd (a : At) : Addr → Str → Prop := fun C fld => C = a.k_End ∧ fld = "own_end"
theorem g_depth {CX : CXT} (T : Txt K mg a) : ∀ C fld, gDepth a C fld → PropG P w K mg base CX C "depth" fld := by
  rintro C fld ⟨rfl | rfl | rfl | rfl, rfl⟩
  · obtain ⟨fd, F, b⟩ := ok_depth (P := P) (w := w) (mg := mg) (base := base) (CX := CX) T T.g_Place.cl T.na_Place_own_depth
    exact ⟨T.g_Place.cl, _, _, _, T.p_Place_depth, F, b⟩
  · obtain ⟨fd, F, b⟩ := ok_depth (P := P) (w := w) (mg := mg) (base := base) (CX := CX) T T.g_End.cl T.na_End_own_depth
    exact ⟨T.g_End.cl, _, _, _, T.p_End_depth, F, b⟩
  · obtain ⟨fd, F, b⟩ := ok_depth (P := P) (w := w) (mg := mg) (base := base) (CX := CX) T T.g_Lesser.cl T.na_Lesser_own_depth
    exact ⟨T.g_Lesser.cl, _, _, _, T.p_Lesser_depth, F, b⟩
  · obtain ⟨fd, F, b⟩ := ok_depth (P := P) (w := w) (mg := mg) (base := base) (CX := CX) T T.g_Greater.cl T.na_Greater_own_depth
    exact ⟨T.g_Greater.cl, _, _, _, T.p_Greater_depth, F, b⟩
theorem g_parts {CX : CXT} (T : Txt K mg a) : ∀ C fld, gParts a C fld → PropG P w K mg base CX C "parts" fld := by
  rintro C fld ⟨rfl | rfl, rfl⟩
  · obtain ⟨fd, F, b⟩ := ok_parts_l (P := P) (w := w) (mg := mg) (base := base) (CX := CX) T
    exact ⟨T.g_Lesser.cl, _, _, _, T.p_Lesser_parts, F, b⟩
  · obtain ⟨fd, F, b⟩ := ok_parts_g (P := P) (w := w) (mg := mg) (base := base) (CX := CX) T
    exact ⟨T.g_Greater.cl, _, _, _, T.p_Greater_parts, F, b⟩
theorem g_nm {CX : CXT} (T : Txt K mg a) : ∀ C fld, gNm a C fld → PropG P w K mg base CX C "name" fld := by
  rintro C fld ⟨rfl, rfl⟩
  obtain ⟨fd, F, b⟩ := ok_name (P := P) (w := w) (mg := mg) (base := base) (CX := CX) T
  exact ⟨T.g_Place.cl, _, _, _, T.p_Place_name, F, b⟩
theorem g_end {CX : CXT} (T : Txt K mg a) : ∀ C fld, gEnd a C fld → PropG P w K mg base CX C "end" fld := by
  rintro C fld ⟨rfl, rfl⟩
  obtain ⟨fd, F, b⟩ := ok_end (P := P) (w := w) (mg := mg) (base := base) (CX := CX) T
  exact ⟨T.g_End.cl, _, _, _, T.p_End_end, F, b⟩
/-- a term's depth is in its field -/
theorem tm_depth {H : Hp} {v : V} {t : TM.Tree} (h : TM.TmAt (csOf a) H v t) : ∃ x C dx fs, v = .ref x ∧ H x = some (.ins C dx fs) ∧ gDepth a C "own_depth" ∧ fs.lookup ("own_depth" : Str) = some (V.int (t.depth : Nat)) := by
  cases h with
  | place h => exact ⟨_, _, _, _, rfl, h, ⟨.inl rfl, rfl⟩, by simp [List.lookup, TM.Tree.depth]⟩
  | endd h => exact ⟨_, _, _, _, rfl, h, ⟨.inr (.inl rfl), rfl⟩, by simp [List.lookup, TM.Tree.depth]⟩
  | lesser h _ _ _ => exact ⟨_, _, _, _, rfl, h, ⟨.inr (.inr (.inl rfl)), rfl⟩, by simp [List.lookup]⟩
  | greater h _ _ _ => exact ⟨_, _, _, _, rfl, h, ⟨.inr (.inr (.inr rfl)), rfl⟩, by simp [List.lookup]⟩
theorem depthAll_max : ∀ {ts : List TM.Tree}, 0 < ts.length → (TM.Tree.depthAll ts) ∈ ts.map TM.Tree.depth
  | [t], _ => by simp [TM.Tree.depthAll]
  | t :: u :: us, _ => by
    have ih := depthAll_max (ts := u :: us) (by simp)
    rw [TM.Tree.depthAll]
    rcases Nat.le_total t.depth (TM.Tree.depthAll (u :: us)) with h | h
    · rw [Nat.max_eq_right h, List.map_cons]
      exact List.mem_cons_of_mem _ ih
    · rw [Nat.max_eq_left h, List.map_cons]
      exact List.mem_cons_self
theorem depthAll_is {ts : List TM.Tree} {m : Int} (h : m ∈ ts.map fun t => ((t.depth : Nat) : Int)) (hm : ∀ y ∈ ts.map fun t => ((t.depth : Nat) : Int), y ≤ m) : m = ((TM.Tree.depthAll ts : Nat) : Int) := by
  obtain ⟨t, ht, rfl⟩ := List.mem_map.mp h
  have h1 := TM.depth_mem ht
  have h2 : TM.Tree.depthAll ts ∈ ts.map TM.Tree.depth := depthAll_max (List.length_pos_of_mem ht)
  obtain ⟨u, hu, e⟩ := List.mem_map.mp h2
  have h3 := hm _ (List.mem_map.mpr ⟨u, hu, rfl⟩)
  omega
theorem ev_maxL {K : PySem.W.Frag} {te : TE} {σ : L2.St} {H : Hp} {ns : List Int} {m : Int} (h : EvL te σ H (ns.map V.int)) (hne : 0 < ns.length) (hu : ∀ k, k ∈ ns → (∀ y, y ∈ ns → y ≤ k) → k = m) : Ev (tCB (rMax K) (tCons te tNil)) σ H (.int m) :=
  fun H1 e Q q => h H1 e _ fun p H2 hp e2 hl => ⟨p, ns, rfl, sq_of hl, hne, fun k a b => (hu k a b) ▸ q H2 e2⟩
/-! ### depth_above, of parts that can be -/
def sp_depth_above (K : PySem.W.Frag) (a : At) : Sp := fun vs H Q _ => ∃ p xs ts, vs = [.ref p] ∧ SqT K H p xs ∧ xs.length = ts.length ∧ 2 ≤ xs.length ∧ xs.length ≤ 1000 ∧ (∀ (i : Nat) (x : V) (t : TM.Tree), xs[i]? = some x → ts[i]? = some t → TM.TmAt (csOf a) H x t) ∧ ∀ H', Ex H H' → Q (.int ((TM.Tree.depthAll ts + 1 : Nat) : Int)) H'
theorem ok_depth_above (T : Txt K mg a) : ∃ fd, FnOk P w K mg base CX0 3 a.depth_above fd ["terms"] (sp_depth_above K a) ∧ Binds K fd ["terms"] [] := by
  obtain ⟨fd1, F1, b1⟩ := ok_want_terms (P := P) (w := w) (mg := mg) (base := base) T
  obtain ⟨fd, F⟩ := T.d_depth_above.F
  refine ⟨fd, F.ok sc_depth_above (fun vs H Q E h => ?_) (fun cdv A outer s H vs Q E hr h => ?_), F.binds fun _ _ _ _ _ _ us hl => match us, hl with | [_], _ => rfl⟩
  · obtain ⟨_, _, _, rfl, _⟩ := h
    rfl
  · obtain ⟨p, xs, ts, rfl, hs, hl, h2, hz, hx, q⟩ := h
    have nd := sc_depth_above.nd
    refine ⟨_, (pss_cons (ps_if (pt_cmpR op_lt (pe_callB call_len_seq (by rfl) T.z_len (by decide +kernel) (pa_cons (pv 0) pa_nil)) (pe_glob (v := .int 2) (by rfl) T.v_LEAST_PARTS ⟨_, rfl⟩) (nomark _)) (pss_one ps_no) pss_nil)
      (pss_cons (ps_expr (pe_call F1 (hr.mono (by decide)) (by rfl) T.d_want_terms.m T.d_want_terms.kp b1 .nil pass0 (pa_cons (pv 0) pa_nil)))
      (pss_one (ps_ret (pe_op op_add pe_int (pe_callB (cr_max rfl) (by rfl) T.z_max (by decide +kernel) (pa_cons (pe_lc rfl (own := [("term", 1)]) (g := gName 1) (by exact nd) (pi_tup (pv 0)) (blkOk_by (own := [("term", 1)]) (N := ["terms", "term"]) (sc := defScope s_depth_above) (by decide +kernel)) (fun _ _ _ _ _ => pg_name (i := 1) nd rfl (.inl rfl)) (fun _ _ _ _ _ => pts_nil)
        (fun _ _ _ _ _ => pe_getA (G := gDepth a) (CX := CX0) (pv 1) (g_depth T) (hr.mono (by decide)) pass0 rfl)) pa_nil))))))), ?_⟩
    refine s_if (b := false) (et_test (ev_is (ev_op (ev_cb (ea_cons (ev_var rfl) ea_nil) (z := .int (xs.length : Nat)) fun H1 e Q q => ⟨p, xs, rfl, .inr (ex_t e hs), q H1 (Ex.refl H1)⟩) ev_c rv_I0) (by
      congr 1
      rw [decide_eq_false_iff_not]
      omega))) (fun h => nomatch h) fun _ H1 e1 => ?_
    refine s_drop (v := .non) (ev_call (ea_cons (ev_var rfl) ea_nil) fun H2 e2 Q q E => ⟨p, xs, rfl, ex_t (e1.trans e2) hs, fun x hx0 => by
      obtain ⟨i, hi⟩ := List.mem_iff_getElem?.mp hx0
      have hi2 : i < ts.length := hl ▸ (List.getElem?_eq_some_iff.mp hi).1
      exact ⟨ts[i], (hx i x _ hi (List.getElem?_eq_getElem hi2)).up (e1.trans e2)⟩, q H2 (Ex.refl H2)⟩) fun H2 e2 => ?_
    have e02 := e1.trans e2
    have L : EvL (tLc (iTup K (tVar 0)) (gName 1) tYes (tGetA (gDepth a) (tVar 1)) [1]) [some (.ref p), none] H2 ((ts.map fun t => ((t.depth : Nat) : Int)).map V.int) := by
      refine el_tmap (ev_var rfl) (ex_t e02 hs) (by omega) (by rw [List.length_map, List.length_map]; exact hl) (fun x => rfl) (fun i x y H3 e3 hi hy => ?_)
      rw [List.getElem?_map, List.getElem?_map] at hy
      obtain ⟨n, hn, rfl⟩ := Option.map_eq_some_iff.mp hy
      obtain ⟨t, ht, rfl⟩ := Option.map_eq_some_iff.mp hn
      obtain ⟨b, C, dx, fs, rfl, hb, g, hv⟩ := tm_depth ((hx i x t hi ht).up (e02.trans e3))
      exact ev_getA (ev_var rfl) hb g hv
    refine s_ret (ev_is (ev_op ev_c (ev_maxL L (by rw [List.length_map]; omega) fun m a b => depthAll_is a b) rv_I0) ?_) fun H3 e3 => q H3 (e02.trans e3)
    congr 1
    push_cast
    omega
end
end K16
namespace K16
open PySem PySem.Spec PyProof.Rows L2 LG Evl
section
variable {P : Program} {w : World} {K : PySem.W.Frag} {mg : Str → Option Value} {base : Heap} {a : At}
/-! ### Lesser, Greater: made of two or more terms -/
/-- the heap, with the parts' tuple at p: x's depth and its parts are set -/
def sp_two_init (a : At) (C : Addr) : Sp := fun vs H Q _ => ∃ x dx p xs ts, vs = [.ref x, .ref p] ∧ H x = some (.ins C dx []) ∧ H p = some (.tup xs) ∧ xs.length = ts.length ∧ 2 ≤ xs.length ∧ xs.length ≤ 1000 ∧ (∀ (i : Nat) (y : V) (t : TM.Tree), xs[i]? = some y → ts[i]? = some t → TM.TmAt (csOf a) H y t) ∧
  ∀ H', Ex H H' → Q .non (upd H' x (.ins C dx [("own_depth", .int ((TM.Tree.depthAll ts + 1 : Nat) : Int)), ("own_parts", .ref p)]))
theorem ok_Lesser_init (T : Txt K mg a) (hfile : ∀ (vs : Array Value) (cl : Value) (cd : Option Addr) (sl : Array (Option Value)) (tx : Str) (tf : Tok), K.lookup a.o_Lesser_init = some ⟨cl, cd, .fields vs, sl⟩ → vs[2]? = some (.str tx tf) → ((P.main.file : Str) == tx) = true)
    (htop : (P.main.scope.names.lookup ("super" : Str)).isSome = false) : FnR P w K mg base (L2.CX P w) 5 a.m_Lesser_init (fun vs H Q E => ∃ v ws, vs = v :: ws ∧ ws.length ≤ sizeLine ∧ ∀ p, H p = none → sp_two_init a a.k_Lesser [v, V.ref p] (upd H p (.tup ws)) Q E) := by
  obtain ⟨fd1, F1, b1⟩ := ok_depth_above (P := P) (w := w) (mg := mg) (base := base) T
  obtain ⟨fd2, F2, b2⟩ := ok_Term_init (P := P) (w := w) (mg := mg) (base := base) (CX := L2.CX P w) T
  refine FunS.star (P := P) (w := w) (mg := mg) (base := base) (CX := L2.CX P w) (k := 4) (sp := sp_two_init a a.k_Lesser) T.m_Lesser_init sc_Lesser_init StX.cxUp (fun kV doc pm an ct u us => match us with | [] => rfl | _ :: _ => rfl) (fun A outer s H vs Q E hr h => ?_)
  obtain ⟨x, dx, p, xs, ts, rfl, hx, hp, hl, h2, hz, ht, q⟩ := h
  refine ⟨_, (pssAt_super (X := NdefX.ncx (L2.CX P w) P w K mg base ["self", "terms", "__class__"] (nfOf "__init__" "Lesser.__init__" s_Lesser_init a.w_Lesser_init a.o_Lesser_init) a.m_Lesser_init A outer s H E) (n0 := "self") rfl T.m_Lesser_init F2 b2 (hr.mono (by decide)) (E := fun _ _ _ => False) (passes_call (takes_of rfl rfl rfl rfl) fun _ _ _ _ h => h.elim) T.z_super (by rfl) (by rfl) (by rfl) rfl (by rfl) ⟨_, rfl, rfl⟩ hfile htop (by decide) (pa_cons (pe_call F1 (hr.mono (by decide)) (by rfl) T.d_depth_above.m T.d_depth_above.kp b1 .nil pass0 (pa_cons (pv 1) pa_nil)) pa_nil)
        (pssAt_of (pss_one (ps_fld (pv 0) (pv 1) rfl)))), ?_⟩
  refine ⟨x, a.k_Lesser, dx, [], rfl, hx, T.s_Lesser, .ref p, rfl, p, xs, ts, rfl, st_of hp, hl, h2, hz, ht, fun H' e => ?_⟩
  refine ⟨x, a.k_Lesser, dx, _, rfl, e _ _ hx, T.g_Lesser.cl, T.na_Lesser_own_depth, ?_⟩
  refine ⟨.ref p, rfl, .ref x, rfl, x, a.k_Lesser, dx, [("own_depth", _)], rfl, upd_same, T.g_Lesser.cl, T.na_Lesser_own_parts, by show 1 < 1000; decide, ?_⟩
  rw [upd_upd]
  exact q H' e
theorem ok_Greater_init (T : Txt K mg a) (hfile : ∀ (vs : Array Value) (cl : Value) (cd : Option Addr) (sl : Array (Option Value)) (tx : Str) (tf : Tok), K.lookup a.o_Greater_init = some ⟨cl, cd, .fields vs, sl⟩ → vs[2]? = some (.str tx tf) → ((P.main.file : Str) == tx) = true)
    (htop : (P.main.scope.names.lookup ("super" : Str)).isSome = false) : FnR P w K mg base (L2.CX P w) 5 a.m_Greater_init (fun vs H Q E => ∃ v ws, vs = v :: ws ∧ ws.length ≤ sizeLine ∧ ∀ p, H p = none → sp_two_init a a.k_Greater [v, V.ref p] (upd H p (.tup ws)) Q E) := by
  obtain ⟨fd1, F1, b1⟩ := ok_depth_above (P := P) (w := w) (mg := mg) (base := base) T
  obtain ⟨fd2, F2, b2⟩ := ok_Term_init (P := P) (w := w) (mg := mg) (base := base) (CX := L2.CX P w) T
  refine FunS.star (P := P) (w := w) (mg := mg) (base := base) (CX := L2.CX P w) (k := 4) (sp := sp_two_init a a.k_Greater) T.m_Greater_init sc_Greater_init StX.cxUp (fun kV doc pm an ct u us => match us with | [] => rfl | _ :: _ => rfl) (fun A outer s H vs Q E hr h => ?_)
  obtain ⟨x, dx, p, xs, ts, rfl, hx, hp, hl, h2, hz, ht, q⟩ := h
  refine ⟨_, (pssAt_super (X := NdefX.ncx (L2.CX P w) P w K mg base ["self", "terms", "__class__"] (nfOf "__init__" "Greater.__init__" s_Greater_init a.w_Greater_init a.o_Greater_init) a.m_Greater_init A outer s H E) (n0 := "self") rfl T.m_Greater_init F2 b2 (hr.mono (by decide)) (E := fun _ _ _ => False) (passes_call (takes_of rfl rfl rfl rfl) fun _ _ _ _ h => h.elim) T.z_super (by rfl) (by rfl) (by rfl) rfl (by rfl) ⟨_, rfl, rfl⟩ hfile htop (by decide) (pa_cons (pe_call F1 (hr.mono (by decide)) (by rfl) T.d_depth_above.m T.d_depth_above.kp b1 .nil pass0 (pa_cons (pv 1) pa_nil)) pa_nil)
        (pssAt_of (pss_one (ps_fld (pv 0) (pv 1) rfl)))), ?_⟩
  refine ⟨x, a.k_Greater, dx, [], rfl, hx, T.s_Greater, .ref p, rfl, p, xs, ts, rfl, st_of hp, hl, h2, hz, ht, fun H' e => ?_⟩
  refine ⟨x, a.k_Greater, dx, _, rfl, e _ _ hx, T.g_Greater.cl, T.na_Greater_own_depth, ?_⟩
  refine ⟨.ref p, rfl, .ref x, rfl, x, a.k_Greater, dx, [("own_depth", _)], rfl, upd_same, T.g_Greater.cl, T.na_Greater_own_parts, by show 1 < 1000; decide, ?_⟩
  rw [upd_upd]
  exact q H' e
end
end K16
/-! Plain readings: isinstance of an own object, f-strings of three parts, join of a new list. -/
namespace LG
open PySem PySem.Spec PyProof.Rows L2 Evl
section
variable {te : TE} {σ : L2.St} {H : Hp} {K : PySem.W.Frag}
theorem et_isT {x : V} {C : Value} {D : Addr} {b : Bool} (hx : Ev te σ H x) (ty : ∀ H1, Ex H H1 → TyX K H1 x C) (hk : PySem.W.kitOne K C (.ref D) = some b) : EvT (tTest (tCB (rIsi K) (tCons te (tCons (tC (.ref D)) tNil)))) σ H b :=
  et_test (ev_cb (ea_cons hx (ea_cons ev_c ea_nil)) fun H1 e Q q => ⟨x, .ref D, C, .ref D, b, rfl, .own D, ty H1 e, hk, q H1 (Ex.refl H1)⟩)
theorem ev_fmtR {y : Str} (h : Ev te σ H (.str y)) (hz : (reprText y).length ≤ 100000) : Ev (tFmtR te) σ H (.str (reprText y)) := fun H1 e Q q => h H1 e _ fun H2 e2 => .inl ⟨y, rfl, sz_of hz, q H2 e2⟩
theorem ev_fmt {y : Str} (h : Ev te σ H (.str y)) (hz : y.length ≤ sizeLine) : Ev (tFmt te) σ H (.str y) := fun H1 e Q q => h H1 e _ fun H2 e2 => .inl ⟨y, rfl, hz, q H2 e2⟩
theorem ev_joined3 {s1 s2 y : Str} (h : Ev te σ H (.str y)) (h1 : Str.empty ++ s1 = s1) (z1 : s1.length ≤ sizeLine) (z2 : (s1 ++ y).length ≤ sizeLine) (z3 : (s1 ++ y ++ s2).length ≤ sizeLine) :
    Ev (fun σ H Q => tJs [tC (.str s1), te, tC (.str s2)] Str.empty σ H fun out H1 => Q (.str out) H1) σ H (.str (s1 ++ y ++ s2)) := fun H1 e Q q => ⟨s1, rfl, by rw [h1]; exact z1, by
      rw [h1]
      exact h H1 e _ fun H2 e2 => ⟨y, rfl, z2, s2, rfl, z3, q H2 e2⟩⟩
theorem ev_join {sep : Str} {ys : List Str} (h : EvL te σ H (ys.map V.str)) (hz : (ys.map (·.length)).sum + ys.length * sep.length ≤ 16777216) :
    Ev (tM1 (fun x xs H Q => ∃ a p, ∃ ys : List Str, x = .str a ∧ xs = [.ref p] ∧ (SqL K H p (ys.map V.str) ∨ SqT K H p (ys.map V.str)) ∧ (ys.map (·.length)).sum + ys.length * a.length ≤ 16777216 ∧ Q (.str (Txt.join a ys)) H) (tC (.str sep)) te) σ H (.str (TM.joinS sep ys)) := by
  intro H1 e Q q
  refine ⟨⟨sep, rfl⟩, h H1 e _ fun p H2 hp e2 hl => ⟨sep, p, ys, rfl, rfl, .inl (sq_of hl), hz, ?_⟩⟩
  have z : ∀ ys : List Str, Str.join sep ys = TM.joinS sep ys := by
    intro ys
    induction ys with
    | nil => rfl
    | cons x r ih =>
      cases r with
      | nil => rfl
      | cons y r =>
        show x ++ sep ++ Str.join sep (y :: r) = x ++ sep ++ TM.joinS sep (y :: r)
        rw [ih]
  rw [TL.join_eq, z]
  exact q H2 e2
end
end LG
namespace K16
open PySem PySem.Spec PyProof.Rows L2 LG Evl
section
variable {P : Program} {w : World} {K : PySem.W.Frag} {mg : Str → Option Value} {base : Heap} {a : At}
theorem kit_of {C D : Addr} {nm : Str} {b : Bool} (g : GCl K mg nm D) (h : PySem.W.subIn K (.ref C) (.ref D) = some b) (self : PySem.W.subIn K (.ref D) (.ref D) = some true) : PySem.W.kitOne K (.ref C) (.ref D) = some b := by
  by_cases e : C = D
  · subst e
    rw [self] at h
    cases h
    exact kit_self
  · exact kit_own g.ki.1 g.ki.2 e h
/-- what a term's representation wants to be made: no list, no text is too long -/
inductive RepOk : TM.Tree → Prop
  | place {n : Str} (h : (reprText n).length ≤ 1000) : RepOk (.place n)
  | endd {e : Str} (h : (reprText e).length ≤ 1000) : RepOk (.endd e)
  | lesser {ts : List TM.Tree} (h1 : ts.length ≤ 1000) (h2 : ((TM.Tree.reprAll ts).map (·.length)).sum + ts.length * 2 ≤ 1000000) (hr : ∀ t ∈ ts, RepOk t) : RepOk (.lesser ts)
  | greater {ts : List TM.Tree} (h1 : ts.length ≤ 1000) (h2 : ((TM.Tree.reprAll ts).map (·.length)).sum + ts.length * 2 ≤ 1000000) (hr : ∀ t ∈ ts, RepOk t) : RepOk (.greater ts)
theorem et_isB {te : TE} {σ : L2.St} {H : Hp} {x : V} {C : Value} {D : Addr} {b : Bool} (hx : Ev te σ H x) (ty : ∀ H1, Ex H H1 → TyX K H1 x C) (hk : PySem.W.kitOne K C (.ref D) = some b) : EvT (tB (tCB (rIsi K) (tCons te (tCons (tC (.ref D)) tNil)))) σ H b :=
  et_B (ev_cb (ea_cons hx (ea_cons ev_c ea_nil)) fun H1 e Q q => ⟨x, .ref D, C, .ref D, b, rfl, .own D, ty H1 e, hk, q H1 (Ex.refl H1)⟩)
theorem len3 (a b c : Str) : (a ++ b ++ c).length = a.length + b.length + c.length := by rw [PySem.Str.length_append, PySem.Str.length_append]
theorem joinS_len (sep : Str) : ∀ ys : List Str, (TM.joinS sep ys).length ≤ (ys.map (·.length)).sum + ys.length * sep.length
  | [] => Nat.zero_le _
  | [x] => by simp [TM.joinS]
  | x :: y :: r => by
    have ih := joinS_len sep (y :: r)
    rw [TM.joinS, len3, List.map_cons, List.sum_cons, List.length_cons, Nat.succ_mul]
    omega
theorem reprAll_at : ∀ {ts : List TM.Tree} {i : Nat} {t : TM.Tree}, ts[i]? = some t → (TM.Tree.reprAll ts)[i]? = some t.repr
  | t :: ts, 0, u, h => by
    simp at h
    subst h
    simp [TM.Tree.reprAll]
  | t :: ts, i + 1, u, h => by
    simp at h
    simp [TM.Tree.reprAll]
    exact reprAll_at h
theorem reprAll_len : ∀ {ts : List TM.Tree}, (TM.Tree.reprAll ts).length = ts.length
  | [] => rfl
  | t :: ts => by rw [TM.Tree.reprAll, List.length_cons, List.length_cons, reprAll_len]
/-- a term of depth below n -/
def sp_term_repr (a : At) (n : Nat) : Sp := fun vs H Q _ => ∃ v t, vs = [v] ∧ TM.TmAt (csOf a) H v t ∧ RepOk t ∧ t.depth < n ∧ ∀ H', Ex H H' → Q (.str t.repr) H'
theorem ok_term_repr (T : Txt K mg a) : ∀ n, ∃ fd, FnOk P w K mg base CX0 (n + 2) a.term_repr fd ["term"] (sp_term_repr a n) ∧ Binds K fd ["term"] [] := by
  intro n
  induction n with
  | zero =>
    obtain ⟨fd, F⟩ := T.d_term_repr.F
    refine ⟨fd, F.ok sc_term_repr (fun vs H Q E h => ?_) (fun cdv A outer s H vs Q E hr h => ?_), F.binds fun _ _ _ _ _ _ us hl => match us, hl with | [_], _ => rfl⟩
    · obtain ⟨_, _, rfl, _⟩ := h
      rfl
    · obtain ⟨_, t, _, _, _, hd, _⟩ := h
      exact absurd hd (Nat.not_lt_zero _)
  | succ n ih =>
    obtain ⟨fd1, F1, b1⟩ := ih
    obtain ⟨fd, F⟩ := T.d_term_repr.F
    refine ⟨fd, F.ok sc_term_repr (fun vs H Q E h => ?_) (fun cdv A outer s H vs Q E hr h => ?_), F.binds fun _ _ _ _ _ _ us hl => match us, hl with | [_], _ => rfl⟩
    · obtain ⟨_, _, rfl, _⟩ := h
      rfl
    · obtain ⟨v, t, rfl, ht, ok, hd, q⟩ := h
      have nd := sc_term_repr.nd
      have hr2 := hr.mono (j := 2) (by omega)
      refine ⟨_, (pss_cons (ps_if (pt_val (pe_callB call_isi (by rfl) T.z_isinstance (by decide +kernel) (pa_cons (pv 0) (pa_cons (pe_glob (v := .ref a.k_Place) (by rfl) T.g_Place.m rfl) pa_nil)))) (pss_one (ps_ret (pe_joined (.cons pe_str (.cons (pe_fmtR (pe_getA (G := gNm a) (CX := CX0) (pv 0) (g_nm T) hr2 pass0 rfl)) (.cons pe_str .nil)))))) pss_nil)
        (pss_cons (ps_if (pt_val (pe_callB call_isi (by rfl) T.z_isinstance (by decide +kernel) (pa_cons (pv 0) (pa_cons (pe_glob (v := .ref a.k_End) (by rfl) T.g_End.m rfl) pa_nil)))) (pss_one (ps_ret (pe_joined (.cons pe_str (.cons (pe_fmtR (pe_getA (G := gEnd a) (CX := CX0) (pv 0) (g_end T) hr2 pass0 rfl)) (.cons pe_str .nil)))))) pss_nil)
        (pss_cons (ps_set (i := 1) nd rfl (.inl rfl) (pe_join pe_str (pe_lc rfl (own := [("part", 2)]) (g := gName 2) (by exact nd) (pi_tup (pe_getA (G := gParts a) (CX := CX0) (pv 0) (g_parts T) hr2 pass0 rfl)) (blkOk_by (own := [("part", 2)]) (N := ["term", "inner", "part"]) (sc := defScope s_term_repr) (by decide +kernel)) (fun _ _ _ _ _ => pg_name (i := 2) nd rfl (.inl rfl)) (fun _ _ _ _ _ => pts_nil)
          (fun _ _ _ _ _ => pe_call F1 hr (by rfl) T.d_term_repr.m T.d_term_repr.kp b1 .nil pass0 (pa_cons (pv 2) pa_nil)))))
        (pss_one (ps_ret (pe_ifExp (pt_val (pe_callB call_isi (by rfl) T.z_isinstance (by decide +kernel) (pa_cons (pv 0) (pa_cons (pe_glob (v := .ref a.k_Lesser) (by rfl) T.g_Lesser.m rfl) pa_nil)))) (pe_joined (.cons pe_str (.cons (pe_fmt (pv 1)) (.cons pe_str .nil)))) (pe_joined (.cons pe_str (.cons (pe_fmt (pv 1)) (.cons pe_str .nil)))))))))), ?_⟩
      cases ht with
      | @place x dx nm hx =>
        cases ok with
        | place hz =>
          refine s_if (b := true) (et_isT (ev_var rfl) (fun H1 e => ty_ins T T.g_Place (e _ _ hx)) (kit_of T.g_Place T.x_Place_Place T.x_Place_Place)) (fun _ H1 e1 => ?_) (fun z => nomatch z)
          refine s_ret (ev_joined3 (ev_fmtR (ev_getA (ev_var rfl) (e1 _ _ hx) ⟨rfl, rfl⟩ rfl) (by omega)) rfl (by decide) (sz_of ?_) (sz_of ?_)) fun H2 e2 => q H2 (e1.trans e2)
          · rw [PySem.Str.length_append]
            have : ("Place(" : Str).length = 6 := by decide
            omega
          · rw [len3]
            have h1 : ("Place(" : Str).length = 6 := by decide
            have h2 : (")" : Str).length = 1 := by decide
            omega
      | @endd x dx nm hx =>
        cases ok with
        | endd hz =>
          refine s_if (b := false) (et_isT (ev_var rfl) (fun H1 e => ty_ins T T.g_End (e _ _ hx)) (kit_of T.g_Place T.x_End_Place T.x_Place_Place)) (fun z => nomatch z) (fun _ H1 e1 => ?_)
          refine s_if (b := true) (et_isT (ev_var rfl) (fun H2 e => ty_ins T T.g_End ((e1.trans e) _ _ hx)) (kit_of T.g_End T.x_End_End T.x_End_End)) (fun _ H2 e2 => ?_) (fun z => nomatch z)
          refine s_ret (ev_joined3 (ev_fmtR (ev_getA (ev_var rfl) ((e1.trans e2) _ _ hx) ⟨rfl, rfl⟩ rfl) (by omega)) rfl (by decide) (sz_of ?_) (sz_of ?_)) fun H3 e3 => q H3 ((e1.trans e2).trans e3)
          · rw [PySem.Str.length_append]
            have : ("End(" : Str).length = 4 := by decide
            omega
          · rw [len3]
            have h1 : ("End(" : Str).length = 4 := by decide
            have h2 : (")" : Str).length = 1 := by decide
            omega
      | @lesser x dx p xs ts hx hp hl hxs =>
        cases ok with
        | lesser hz1 hz2 hok =>
          refine s_if (b := false) (et_isT (ev_var rfl) (fun H1 e => ty_ins T T.g_Lesser (e _ _ hx)) (kit_of T.g_Place T.x_Lesser_Place T.x_Place_Place)) (fun z => nomatch z) (fun _ H1 e1 => ?_)
          refine s_if (b := false) (et_isT (ev_var rfl) (fun H2 e => ty_ins T T.g_Lesser ((e1.trans e) _ _ hx)) (kit_of T.g_End T.x_Lesser_End T.x_End_End)) (fun z => nomatch z) (fun _ H2 e2 => ?_)
          have e02 := e1.trans e2
          have hn : TM.Tree.depthAll ts < n := Nat.lt_of_succ_lt_succ (by simpa [TM.Tree.depth] using hd)
          have L : EvL (tLc (iTup K (tGetA (gParts a) (tVar 0))) (gName 2) tYes (tCall (sp_term_repr a n) [] (fun _ _ _ => False) (tCons (tVar 2) tNil)) [2]) [some (.ref x), none, none] H2 ((TM.Tree.reprAll ts).map V.str) := by
            refine el_tmap (ev_getA (ev_var rfl) (e02 _ _ hx) ⟨.inl rfl, rfl⟩ rfl) (st_of (e02 _ _ hp)) (by omega) (by rw [List.length_map, reprAll_len]; exact hl) (fun x => rfl) (fun i y z H3 e3 hi hz => ?_)
            rw [List.getElem?_map] at hz
            obtain ⟨u, hu, rfl⟩ := Option.map_eq_some_iff.mp hz
            have hi2 : i < ts.length := hl ▸ (List.getElem?_eq_some_iff.mp hi).1
            have ht : ts[i]? = some ts[i] := List.getElem?_eq_getElem hi2
            have hu2 := reprAll_at ht
            rw [hu] at hu2
            cases hu2
            refine ev_call (ea_cons (ev_var rfl) ea_nil) fun H4 e4 Q q E => ⟨y, ts[i], rfl, (hxs i y _ hi ht).up ((e02.trans e3).trans e4), hok _ (List.getElem_mem hi2), Nat.lt_of_le_of_lt (TM.depth_mem (List.getElem_mem hi2)) hn, fun H5 e5 => q H5 e5⟩
          have hj := joinS_len ", " (TM.Tree.reprAll ts)
          have hc : (", " : Str).length = 2 := by decide
          rw [hc, reprAll_len] at hj
          refine s_asg (ev_join L (by rw [hc, reprAll_len]; omega)) fun H3 e3 => ?_
          dsimp only
          refine s_ret (ev_if (b := true) (et_isB (ev_var rfl) (fun H4 e => ty_ins T T.g_Lesser ((e02.trans (e3.trans e)) _ _ hx)) (kit_of T.g_Lesser T.x_Lesser_Lesser T.x_Lesser_Lesser)) (fun _ => ?_) (fun _ => ?_)) fun H4 e4 => q H4 (e02.trans (e3.trans e4))
          · refine ev_joined3 (ev_fmt (ev_var rfl) (Nat.le_trans (Nat.le_trans hj hz2) (by decide))) rfl (by decide) ?_ ?_
            · refine Nat.le_trans (m := 1000020) ?_ (by decide)
              rw [PySem.Str.length_append]
              have : ("Lesser(" : Str).length = 7 := by decide
              omega
            · refine Nat.le_trans (m := 1000020) ?_ (by decide)
              rw [len3]
              have h1 : ("Lesser(" : Str).length = 7 := by decide
              have h2 : (")" : Str).length = 1 := by decide
              omega
          · contradiction
      | @greater x dx p xs ts hx hp hl hxs =>
        cases ok with
        | greater hz1 hz2 hok =>
          refine s_if (b := false) (et_isT (ev_var rfl) (fun H1 e => ty_ins T T.g_Greater (e _ _ hx)) (kit_of T.g_Place T.x_Greater_Place T.x_Place_Place)) (fun z => nomatch z) (fun _ H1 e1 => ?_)
          refine s_if (b := false) (et_isT (ev_var rfl) (fun H2 e => ty_ins T T.g_Greater ((e1.trans e) _ _ hx)) (kit_of T.g_End T.x_Greater_End T.x_End_End)) (fun z => nomatch z) (fun _ H2 e2 => ?_)
          have e02 := e1.trans e2
          have hn : TM.Tree.depthAll ts < n := Nat.lt_of_succ_lt_succ (by simpa [TM.Tree.depth] using hd)
          have L : EvL (tLc (iTup K (tGetA (gParts a) (tVar 0))) (gName 2) tYes (tCall (sp_term_repr a n) [] (fun _ _ _ => False) (tCons (tVar 2) tNil)) [2]) [some (.ref x), none, none] H2 ((TM.Tree.reprAll ts).map V.str) := by
            refine el_tmap (ev_getA (ev_var rfl) (e02 _ _ hx) ⟨.inr rfl, rfl⟩ rfl) (st_of (e02 _ _ hp)) (by omega) (by rw [List.length_map, reprAll_len]; exact hl) (fun x => rfl) (fun i y z H3 e3 hi hz => ?_)
            rw [List.getElem?_map] at hz
            obtain ⟨u, hu, rfl⟩ := Option.map_eq_some_iff.mp hz
            have hi2 : i < ts.length := hl ▸ (List.getElem?_eq_some_iff.mp hi).1
            have ht : ts[i]? = some ts[i] := List.getElem?_eq_getElem hi2
            have hu2 := reprAll_at ht
            rw [hu] at hu2
            cases hu2
            refine ev_call (ea_cons (ev_var rfl) ea_nil) fun H4 e4 Q q E => ⟨y, ts[i], rfl, (hxs i y _ hi ht).up ((e02.trans e3).trans e4), hok _ (List.getElem_mem hi2), Nat.lt_of_le_of_lt (TM.depth_mem (List.getElem_mem hi2)) hn, fun H5 e5 => q H5 e5⟩
          have hj := joinS_len ", " (TM.Tree.reprAll ts)
          have hc : (", " : Str).length = 2 := by decide
          rw [hc, reprAll_len] at hj
          refine s_asg (ev_join L (by rw [hc, reprAll_len]; omega)) fun H3 e3 => ?_
          dsimp only
          refine s_ret (ev_if (b := false) (et_isB (ev_var rfl) (fun H4 e => ty_ins T T.g_Greater ((e02.trans (e3.trans e)) _ _ hx)) (kit_of T.g_Lesser T.x_Greater_Lesser T.x_Lesser_Lesser)) (fun _ => ?_) (fun _ => ?_)) fun H4 e4 => q H4 (e02.trans (e3.trans e4))
          · contradiction
          · refine ev_joined3 (ev_fmt (ev_var rfl) (Nat.le_trans (Nat.le_trans hj hz2) (by decide))) rfl (by decide) ?_ ?_
            · refine Nat.le_trans (m := 1000020) ?_ (by decide)
              rw [PySem.Str.length_append]
              have : ("Greater(" : Str).length = 8 := by decide
              omega
            · refine Nat.le_trans (m := 1000020) ?_ (by decide)
              rw [len3]
              have h1 : ("Greater(" : Str).length = 8 := by decide
              have h2 : (")" : Str).length = 1 := by decide
              omega
end
end K16
namespace K16
open PySem PySem.Spec PyProof.Rows L2 LG Evl
section
variable {P : Program} {w : World} {K : PySem.W.Frag} {mg : Str → Option Value} {base : Heap} {a : At}
theorem ev_joinL {te : TE} {σ : L2.St} {H : Hp} {K : PySem.W.Frag} {p : Addr} {sep : Str} {ys : List Str} (h : Ev te σ H (.ref p)) (hp : H p = some (.lst (ys.map V.str))) (hz : (ys.map (·.length)).sum + ys.length * sep.length ≤ 16777216) :
    Ev (tM1 (fun x xs H Q => ∃ a p, ∃ ys : List Str, x = .str a ∧ xs = [.ref p] ∧ (SqL K H p (ys.map V.str) ∨ SqT K H p (ys.map V.str)) ∧ (ys.map (·.length)).sum + ys.length * a.length ≤ 16777216 ∧ Q (.str (Txt.join a ys)) H) (tC (.str sep)) te) σ H (.str (TM.joinS sep ys)) := by
  intro H1 e Q q
  refine ⟨⟨sep, rfl⟩, h H1 e _ fun H2 e2 => ⟨sep, p, ys, rfl, rfl, .inl (sq_of (e2 _ _ (e _ _ hp))), hz, ?_⟩⟩
  have z : ∀ ys : List Str, Str.join sep ys = TM.joinS sep ys := by
    intro ys
    induction ys with
    | nil => rfl
    | cons x r ih =>
      cases r with
      | nil => rfl
      | cons y r =>
        show x ++ sep ++ Str.join sep (y :: r) = x ++ sep ++ TM.joinS sep (y :: r)
        rw [ih]
  rw [TL.join_eq, z]
  exact q H2 e2
/-- what a term's text wants to be made -/
inductive TextOk : TM.Tree → Prop
  | place {n : Str} (h : n.length ≤ 1000) : TextOk (.place n)
  | endd {e : Str} (h : e.length ≤ 1000) : TextOk (.endd e)
  | lesser {ts : List TM.Tree} (h1 : ts.length ≤ 1000) (h2 : ((TM.Tree.innerAll ts).map (·.length)).sum + ts.length * 3 ≤ 1000000) (hr : ∀ t ∈ ts, TextOk t) : TextOk (.lesser ts)
  | greater {ts : List TM.Tree} (h1 : ts.length ≤ 1000) (h2 : ((TM.Tree.innerAll ts).map (·.length)).sum + ts.length * 3 ≤ 1000000) (hr : ∀ t ∈ ts, TextOk t) : TextOk (.greater ts)
theorem innerAll_len : ∀ {ts : List TM.Tree}, (TM.Tree.innerAll ts).length = ts.length
  | [] => rfl
  | t :: ts => by rw [TM.Tree.innerAll, List.length_cons, List.length_cons, innerAll_len]
theorem innerAll_at : ∀ {ts : List TM.Tree} {i : Nat} {t : TM.Tree}, ts[i]? = some t → (TM.Tree.innerAll ts)[i]? = some (if t.depth > 0 then "(" ++ t.text ++ ")" else t.text)
  | t :: ts, 0, u, h => by
    simp at h
    subst h
    simp [TM.Tree.innerAll]
  | t :: ts, i + 1, u, h => by
    simp at h
    simp [TM.Tree.innerAll]
    exact innerAll_at h
theorem TextOk.len {t : TM.Tree} (h : TextOk t) : t.text.length ≤ 1000000 := by
  cases h with
  | place h => rw [TM.Tree.text]; omega
  | endd h => rw [TM.Tree.text]; omega
  | @lesser ts h1 h2 _ =>
    rw [TM.Tree.text]
    have hj := joinS_len " & " (TM.Tree.innerAll ts)
    have hc : (" & " : Str).length = 3 := by decide
    rw [hc, innerAll_len] at hj
    omega
  | @greater ts h1 h2 _ =>
    rw [TM.Tree.text]
    have hj := joinS_len " | " (TM.Tree.innerAll ts)
    have hc : (" | " : Str).length = 3 := by decide
    rw [hc, innerAll_len] at hj
    omega
/-- a term of depth below n -/
def sp_term_text (a : At) (n : Nat) : Sp := fun vs H Q _ => ∃ v t, vs = [v] ∧ TM.TmAt (csOf a) H v t ∧ TextOk t ∧ t.depth < n ∧ ∀ H', Ex H H' → Q (.str t.text) H'
theorem ok_term_text (T : Txt K mg a) : ∀ n, ∃ fd, FnOk P w K mg base CX0 (n + 2) a.term_text fd ["term"] (sp_term_text a n) ∧ Binds K fd ["term"] [] := by
  intro n
  induction n with
  | zero =>
    obtain ⟨fd, F⟩ := T.d_term_text.F
    refine ⟨fd, F.ok sc_term_text (fun vs H Q E h => ?_) (fun cdv A outer s H vs Q E hr h => ?_), F.binds fun _ _ _ _ _ _ us hl => match us, hl with | [_], _ => rfl⟩
    · obtain ⟨_, _, rfl, _⟩ := h
      rfl
    · obtain ⟨_, t, _, _, _, hd, _⟩ := h
      exact absurd hd (Nat.not_lt_zero _)
  | succ n ih =>
    obtain ⟨fd1, F1, b1⟩ := ih
    obtain ⟨fd, F⟩ := T.d_term_text.F
    refine ⟨fd, F.ok sc_term_text (fun vs H Q E h => ?_) (fun cdv A outer s H vs Q E hr h => ?_), F.binds fun _ _ _ _ _ _ us hl => match us, hl with | [_], _ => rfl⟩
    · obtain ⟨_, _, rfl, _⟩ := h
      rfl
    · obtain ⟨v, t, rfl, ht, ok, hd, q⟩ := h
      have nd := sc_term_text.nd
      have hr2 := hr.mono (j := 2) (by omega)
      refine ⟨_, (pss_cons (ps_if (pt_val (pe_callB call_isi (by rfl) T.z_isinstance (by decide +kernel) (pa_cons (pv 0) (pa_cons (pe_glob (v := .ref a.k_Place) (by rfl) T.g_Place.m rfl) pa_nil)))) (pss_one (ps_ret (pe_getA (G := gNm a) (CX := CX0) (pv 0) (g_nm T) hr2 pass0 rfl))) pss_nil)
        (pss_cons (ps_if (pt_val (pe_callB call_isi (by rfl) T.z_isinstance (by decide +kernel) (pa_cons (pv 0) (pa_cons (pe_glob (v := .ref a.k_End) (by rfl) T.g_End.m rfl) pa_nil)))) (pss_one (ps_ret (pe_getA (G := gEnd a) (CX := CX0) (pv 0) (g_end T) hr2 pass0 rfl))) pss_nil)
        (pss_cons (ps_setLc (i := 1) (own := [("part", 2)]) (g := gName 2) rfl (by exact nd) rfl rfl (by rfl) (pi_tup (pe_getA (G := gParts a) (CX := CX0) (pv 0) (g_parts T) hr2 pass0 rfl)) (blkOk_by (own := [("part", 2)]) (N := ["term", "texts", "part"]) (sc := defScope s_term_text) (by decide +kernel)) (fun _ _ _ _ _ => pg_name (i := 2) nd rfl (.inl rfl)) (fun _ _ _ _ _ => pts_nil)
          (fun _ _ _ _ _ => pe_ifExp (pt_cmpR op_gt (pe_getA (G := gDepth a) (CX := CX0) (pv 2) (g_depth T) hr2 pass0 rfl) pe_int (nomark _)) (pe_joined (.cons pe_str (.cons (pe_fmt (pe_call F1 hr (by rfl) T.d_term_text.m T.d_term_text.kp b1 .nil pass0 (pa_cons (pv 2) pa_nil))) (.cons pe_str .nil)))) (pe_call F1 hr (by rfl) T.d_term_text.m T.d_term_text.kp b1 .nil pass0 (pa_cons (pv 2) pa_nil))))
        (pss_one (ps_ret (pe_ifExp (pt_val (pe_callB call_isi (by rfl) T.z_isinstance (by decide +kernel) (pa_cons (pv 0) (pa_cons (pe_glob (v := .ref a.k_Lesser) (by rfl) T.g_Lesser.m rfl) pa_nil)))) (pe_join pe_str (pv 1)) (pe_join pe_str (pv 1)))))))), ?_⟩
      cases ht with
      | @place x dx nm hx =>
        cases ok with
        | place hz =>
          refine s_if (b := true) (et_isT (ev_var rfl) (fun H1 e => ty_ins T T.g_Place (e _ _ hx)) (kit_of T.g_Place T.x_Place_Place T.x_Place_Place)) (fun _ H1 e1 => ?_) (fun z => nomatch z)
          refine s_ret (v := .str nm) (ev_getA (ev_var rfl) (e1 _ _ hx) ⟨rfl, rfl⟩ rfl) fun H2 e2 => ?_
          have := q H2 (e1.trans e2)
          rwa [TM.Tree.text] at this
      | @endd x dx nm hx =>
        cases ok with
        | endd hz =>
          refine s_if (b := false) (et_isT (ev_var rfl) (fun H1 e => ty_ins T T.g_End (e _ _ hx)) (kit_of T.g_Place T.x_End_Place T.x_Place_Place)) (fun z => nomatch z) (fun _ H1 e1 => ?_)
          refine s_if (b := true) (et_isT (ev_var rfl) (fun H2 e => ty_ins T T.g_End ((e1.trans e) _ _ hx)) (kit_of T.g_End T.x_End_End T.x_End_End)) (fun _ H2 e2 => ?_) (fun z => nomatch z)
          refine s_ret (v := .str nm) (ev_getA (ev_var rfl) ((e1.trans e2) _ _ hx) ⟨rfl, rfl⟩ rfl) fun H3 e3 => ?_
          have := q H3 ((e1.trans e2).trans e3)
          rwa [TM.Tree.text] at this
      | @lesser x dx p xs ts hx hp hl hxs =>
        cases ok with
        | lesser hz1 hz2 hok =>
          refine s_if (b := false) (et_isT (ev_var rfl) (fun H1 e => ty_ins T T.g_Lesser (e _ _ hx)) (kit_of T.g_Place T.x_Lesser_Place T.x_Place_Place)) (fun z => nomatch z) (fun _ H1 e1 => ?_)
          refine s_if (b := false) (et_isT (ev_var rfl) (fun H2 e => ty_ins T T.g_Lesser ((e1.trans e) _ _ hx)) (kit_of T.g_End T.x_Lesser_End T.x_End_End)) (fun z => nomatch z) (fun _ H2 e2 => ?_)
          have e02 := e1.trans e2
          have hn : TM.Tree.depthAll ts < n := Nat.lt_of_succ_lt_succ (by simpa [TM.Tree.depth] using hd)
          have hc : (" & " : Str).length = 3 := by decide
          have L : EvL (tLc (iTup K (tGetA (gParts a) (tVar 0))) (gName 2) tYes (tIf (tTest (tOp (rI0 fun i j => V.bl (decide (j < i))) (tGetA (gDepth a) (tVar 2)) (tC (V.int 0)))) (fun σ H Q => tJs [tC (V.str "("), tFmt (tCall (sp_term_text a n) [] E0 (tCons (tVar 2) tNil)), tC (V.str ")")] Str.empty σ H fun out H1 => Q (V.str out) H1) (tCall (sp_term_text a n) [] E0 (tCons (tVar 2) tNil))) [2]) [some (.ref x), none, none] H2 ((TM.Tree.innerAll ts).map V.str) := by
            refine el_tmap (ev_getA (ev_var rfl) (e02 _ _ hx) ⟨.inl rfl, rfl⟩ rfl) (st_of (e02 _ _ hp)) (by omega) (by rw [List.length_map, innerAll_len]; exact hl) (fun x => rfl) (fun i y z H3 e3 hi hz => ?_)
            rw [List.getElem?_map] at hz
            obtain ⟨u, hu, rfl⟩ := Option.map_eq_some_iff.mp hz
            have hi2 : i < ts.length := hl ▸ (List.getElem?_eq_some_iff.mp hi).1
            have ht : ts[i]? = some ts[i] := List.getElem?_eq_getElem hi2
            have hu2 := innerAll_at ht
            rw [hu] at hu2
            cases hu2
            have hy := fun {H4 : Hp} (e4 : Ex H3 H4) => (hxs i y _ hi ht).up ((e02.trans e3).trans e4)
            have okt := hok _ (List.getElem_mem hi2)
            have hcall : ∀ {H4 : Hp}, Ex H3 H4 → Ev (tCall (sp_term_text a n) [] E0 (tCons (tVar 2) tNil)) ((wipe [some (V.ref x), none, none] [2]).set 2 (some y)) H4 (.str (ts[i]).text) := fun {H4} e4 =>
              ev_call (ea_cons (ev_var rfl) ea_nil) fun H5 e5 Q q E => ⟨y, ts[i], rfl, hy (e4.trans e5), okt, Nat.lt_of_le_of_lt (TM.depth_mem (List.getElem_mem hi2)) hn, fun H6 e6 => q H6 e6⟩
            obtain ⟨bb, C, dxx, fs, rfl, hb, g, hv⟩ := tm_depth (hy (Ex.refl H3))
            have hl3 := okt.len
            by_cases hp0 : (ts[i]).depth > 0
            · rw [if_pos hp0]
              refine ev_if (b := true) (et_test (ev_is (ev_op (ev_getA (ev_var rfl) hb g hv) ev_c rv_I0) (by simp; omega))) (fun _ => ?_) (fun z => nomatch z)
              refine ev_joined3 (ev_fmt (hcall (Ex.refl H3)) (Nat.le_trans hl3 (by decide))) rfl (by decide) ?_ ?_
              · refine Nat.le_trans (m := 1000020) ?_ (by decide)
                rw [PySem.Str.length_append]
                have : ("(" : Str).length = 1 := by decide
                omega
              · refine Nat.le_trans (m := 1000020) ?_ (by decide)
                rw [len3]
                have h1 : ("(" : Str).length = 1 := by decide
                have h2 : (")" : Str).length = 1 := by decide
                omega
            · rw [if_neg hp0]
              exact ev_if (b := false) (et_test (ev_is (ev_op (ev_getA (ev_var rfl) hb g hv) ev_c rv_I0) (by simp; omega))) (fun z => nomatch z) (fun _ => hcall (Ex.refl H3))
          refine s_asgL L fun pn H3 hpn0 e3 hpn => ?_
          · dsimp only
            refine s_ret (v := .str (TM.joinS " & " (TM.Tree.innerAll ts))) (ev_if (b := true) (et_isB (ev_var rfl) (fun H4 e => ty_ins T T.g_Lesser ((e02.trans (e3.trans e)) _ _ hx)) (kit_of T.g_Lesser T.x_Lesser_Lesser T.x_Lesser_Lesser)) (fun z => ?_) (fun z => ?_)) fun H4 e4 => ?_
            · exact ev_joinL (ev_var rfl) hpn (by rw [hc, innerAll_len]; omega)
            · cases z
            · have := q H4 (e02.trans (e3.trans e4))
              rwa [TM.Tree.text] at this
      | @greater x dx p xs ts hx hp hl hxs =>
        cases ok with
        | greater hz1 hz2 hok =>
          refine s_if (b := false) (et_isT (ev_var rfl) (fun H1 e => ty_ins T T.g_Greater (e _ _ hx)) (kit_of T.g_Place T.x_Greater_Place T.x_Place_Place)) (fun z => nomatch z) (fun _ H1 e1 => ?_)
          refine s_if (b := false) (et_isT (ev_var rfl) (fun H2 e => ty_ins T T.g_Greater ((e1.trans e) _ _ hx)) (kit_of T.g_End T.x_Greater_End T.x_End_End)) (fun z => nomatch z) (fun _ H2 e2 => ?_)
          have e02 := e1.trans e2
          have hn : TM.Tree.depthAll ts < n := Nat.lt_of_succ_lt_succ (by simpa [TM.Tree.depth] using hd)
          have hc : (" | " : Str).length = 3 := by decide
          have L : EvL (tLc (iTup K (tGetA (gParts a) (tVar 0))) (gName 2) tYes (tIf (tTest (tOp (rI0 fun i j => V.bl (decide (j < i))) (tGetA (gDepth a) (tVar 2)) (tC (V.int 0)))) (fun σ H Q => tJs [tC (V.str "("), tFmt (tCall (sp_term_text a n) [] E0 (tCons (tVar 2) tNil)), tC (V.str ")")] Str.empty σ H fun out H1 => Q (V.str out) H1) (tCall (sp_term_text a n) [] E0 (tCons (tVar 2) tNil))) [2]) [some (.ref x), none, none] H2 ((TM.Tree.innerAll ts).map V.str) := by
            refine el_tmap (ev_getA (ev_var rfl) (e02 _ _ hx) ⟨.inr rfl, rfl⟩ rfl) (st_of (e02 _ _ hp)) (by omega) (by rw [List.length_map, innerAll_len]; exact hl) (fun x => rfl) (fun i y z H3 e3 hi hz => ?_)
            rw [List.getElem?_map] at hz
            obtain ⟨u, hu, rfl⟩ := Option.map_eq_some_iff.mp hz
            have hi2 : i < ts.length := hl ▸ (List.getElem?_eq_some_iff.mp hi).1
            have ht : ts[i]? = some ts[i] := List.getElem?_eq_getElem hi2
            have hu2 := innerAll_at ht
            rw [hu] at hu2
            cases hu2
            have hy := fun {H4 : Hp} (e4 : Ex H3 H4) => (hxs i y _ hi ht).up ((e02.trans e3).trans e4)
            have okt := hok _ (List.getElem_mem hi2)
            have hcall : ∀ {H4 : Hp}, Ex H3 H4 → Ev (tCall (sp_term_text a n) [] E0 (tCons (tVar 2) tNil)) ((wipe [some (V.ref x), none, none] [2]).set 2 (some y)) H4 (.str (ts[i]).text) := fun {H4} e4 =>
              ev_call (ea_cons (ev_var rfl) ea_nil) fun H5 e5 Q q E => ⟨y, ts[i], rfl, hy (e4.trans e5), okt, Nat.lt_of_le_of_lt (TM.depth_mem (List.getElem_mem hi2)) hn, fun H6 e6 => q H6 e6⟩
            obtain ⟨bb, C, dxx, fs, rfl, hb, g, hv⟩ := tm_depth (hy (Ex.refl H3))
            have hl3 := okt.len
            by_cases hp0 : (ts[i]).depth > 0
            · rw [if_pos hp0]
              refine ev_if (b := true) (et_test (ev_is (ev_op (ev_getA (ev_var rfl) hb g hv) ev_c rv_I0) (by simp; omega))) (fun _ => ?_) (fun z => nomatch z)
              refine ev_joined3 (ev_fmt (hcall (Ex.refl H3)) (Nat.le_trans hl3 (by decide))) rfl (by decide) ?_ ?_
              · refine Nat.le_trans (m := 1000020) ?_ (by decide)
                rw [PySem.Str.length_append]
                have : ("(" : Str).length = 1 := by decide
                omega
              · refine Nat.le_trans (m := 1000020) ?_ (by decide)
                rw [len3]
                have h1 : ("(" : Str).length = 1 := by decide
                have h2 : (")" : Str).length = 1 := by decide
                omega
            · rw [if_neg hp0]
              exact ev_if (b := false) (et_test (ev_is (ev_op (ev_getA (ev_var rfl) hb g hv) ev_c rv_I0) (by simp; omega))) (fun z => nomatch z) (fun _ => hcall (Ex.refl H3))
          refine s_asgL L fun pn H3 hpn0 e3 hpn => ?_
          · dsimp only
            refine s_ret (v := .str (TM.joinS " | " (TM.Tree.innerAll ts))) (ev_if (b := false) (et_isB (ev_var rfl) (fun H4 e => ty_ins T T.g_Greater ((e02.trans (e3.trans e)) _ _ hx)) (kit_of T.g_Lesser T.x_Greater_Lesser T.x_Lesser_Lesser)) (fun z => ?_) (fun z => ?_)) fun H4 e4 => ?_
            · cases z
            · exact ev_joinL (ev_var rfl) hpn (by rw [hc, innerAll_len]; omega)
            · have := q H4 (e02.trans (e3.trans e4))
              rwa [TM.Tree.text] at this
end
end K16
namespace K16
open PySem PySem.Spec PyProof.Rows L2 LG Evl
section
variable {P : Program} {w : World} {K : PySem.W.Frag} {mg : Str → Option Value} {base : Heap} {a : At}
/-! ### __str__, __repr__, __eq__ of a term -/
theorem fn_Term_str (T : Txt K mg a) (n : Nat) : Fn P w K mg base (n + 3) a.m_Term_str (sp_term_text a n) := by
  obtain ⟨fd1, F1, b1⟩ := ok_term_text (P := P) (w := w) (mg := mg) (base := base) T n
  obtain ⟨fd, F⟩ := T.m_Term_str.F
  refine Fn.of F sc_Term_str (F.binds fun _ _ _ _ _ _ us hl => match us, hl with | [_], _ => rfl) (fun vs H Q E h => ?_) (fun cdv A outer s H vs Q E hg hr hcd h => ?_)
  · obtain ⟨_, _, rfl, _⟩ := h
    rfl
  · obtain ⟨v, t, rfl, ht, ok, hd, q⟩ := h
    refine ⟨_, pss_one (ps_ret (pe_callTy SkE.call_str_str (by rfl) T.z_str (by decide +kernel) (pa_cons (pe_call F1 hr (by rfl) T.d_term_text.m T.d_term_text.kp b1 .nil pass0 (pa_cons (pv 0) pa_nil)) pa_nil))), ?_⟩
    exact ⟨v, rfl, v, t, rfl, ht, ok, hd, fun H' e => ⟨_, rfl, q H' e⟩⟩
theorem fn_Term_repr (T : Txt K mg a) (n : Nat) : Fn P w K mg base (n + 3) a.m_Term_repr (sp_term_repr a n) := by
  obtain ⟨fd1, F1, b1⟩ := ok_term_repr (P := P) (w := w) (mg := mg) (base := base) T n
  obtain ⟨fd, F⟩ := T.m_Term_repr.F
  refine Fn.of F sc_Term_repr (F.binds fun _ _ _ _ _ _ us hl => match us, hl with | [_], _ => rfl) (fun vs H Q E h => ?_) (fun cdv A outer s H vs Q E hg hr hcd h => ?_)
  · obtain ⟨_, _, rfl, _⟩ := h
    rfl
  · obtain ⟨v, t, rfl, ht, ok, hd, q⟩ := h
    refine ⟨_, pss_one (ps_ret (pe_callTy SkE.call_str_str (by rfl) T.z_str (by decide +kernel) (pa_cons (pe_call F1 hr (by rfl) T.d_term_repr.m T.d_term_repr.kp b1 .nil pass0 (pa_cons (pv 0) pa_nil)) pa_nil))), ?_⟩
    exact ⟨v, rfl, v, t, rfl, ht, ok, hd, fun H' e => ⟨_, rfl, q H' e⟩⟩
end
end K16
namespace K16
open PySem PySem.Spec PyProof.Rows L2 LG Evl
section
variable {P : Program} {w : World} {K : PySem.W.Frag} {mg : Str → Option Value} {base : Heap} {a : At}
/-- self is a term; other is a term, or of a kind that is none -/
def sp_Term_eq (K : PySem.W.Frag) (a : At) (n : Nat) : Sp := fun vs H Q _ => ∃ v u t, vs = [v, u] ∧ TM.TmAt (csOf a) H v t ∧ RepOk t ∧ t.depth < n ∧
  ((∃ t2, TM.TmAt (csOf a) H u t2 ∧ RepOk t2 ∧ t2.depth < n ∧ ∀ H', Ex H H' → Q (.bl (decide (t.repr = t2.repr))) H') ∨
   (∃ C, (∀ H', Ex H H' → TyX K H' u C) ∧ PySem.W.kitOne K C (.ref a.k_Term) = some false ∧ ∀ H', Ex H H' → Q (.bl false) H'))
theorem fn_Term_eq (T : Txt K mg a) (n : Nat) : Fn P w K mg base (n + 3) a.m_Term_eq (sp_Term_eq K a n) := by
  obtain ⟨fd1, F1, b1⟩ := ok_term_repr (P := P) (w := w) (mg := mg) (base := base) T n
  obtain ⟨fd, F⟩ := T.m_Term_eq.F
  refine Fn.of F sc_Term_eq (F.binds fun _ _ _ _ _ _ us hl => match us, hl with | [_, _], _ => rfl) (fun vs H Q E h => ?_) (fun cdv A outer s H vs Q E hg hr hcd h => ?_)
  · obtain ⟨_, _, _, rfl, _⟩ := h
    rfl
  · obtain ⟨v, u, t, rfl, ht, ok, hd, q⟩ := h
    refine ⟨_, pss_one (ps_ret (pe_and (pe_callB call_isi (by rfl) T.z_isinstance (by decide +kernel) (pa_cons (pv 1) (pa_cons (pe_glob (v := .ref a.k_Term) (by rfl) T.g_Term.m rfl) pa_nil))) (pe_one (pe_cmpR op_eq (pe_call F1 hr (by rfl) T.d_term_repr.m T.d_term_repr.kp b1 .nil pass0 (pa_cons (pv 0) pa_nil)) (pe_call F1 hr (by rfl) T.d_term_repr.m T.d_term_repr.kp b1 .nil pass0 (pa_cons (pv 1) pa_nil)) (nomark _))))), ?_⟩
    rcases q with ⟨t2, ht2, ok2, hd2, q⟩ | ⟨C, ty, hk, q⟩
    · obtain ⟨C, ty, hk⟩ := tm_ty T ht2
      refine s_ret (v := .bl (decide (t.repr = t2.repr))) (ev_is (ev_andV (a := true) (b := decide (t.repr = t2.repr)) (ev_cb (ea_cons (ev_var rfl) (ea_cons ev_c ea_nil)) fun H1 e Q q => ?_) fun _ => ?_) (by rw [Bool.true_and])) fun H1 e1 => q H1 e1
      · obtain ⟨C1, ty1, hk1⟩ := tm_ty T (ht2.up e)
        exact ⟨u, .ref a.k_Term, _, _, true, rfl, .own _, ty1, hk1, q H1 (Ex.refl H1)⟩
      · refine ev_is (ev_op (x := .str t.repr) (y := .str t2.repr) (ev_call (ea_cons (ev_var rfl) ea_nil) fun H1 e Q q E => ⟨v, t, rfl, ht.up e, ok, hd, fun H2 e2 => q H2 e2⟩) (ev_call (ea_cons (ev_var rfl) ea_nil) fun H1 e Q q E => ⟨u, t2, rfl, ht2.up e, ok2, hd2, fun H2 e2 => q H2 e2⟩) (rv_eq rfl)) ?_
        simp
    · exact s_ret (v := .bl false) (ev_is (ev_andV (a := false) (b := false) (ev_cb (ea_cons (ev_var rfl) (ea_cons ev_c ea_nil)) fun H1 e Q q => ⟨u, .ref a.k_Term, _, _, false, rfl, .own _, ty H1 e, hk, q H1 (Ex.refl H1)⟩) (fun z => nomatch z)) rfl) fun H1 e1 => q H1 e1
end
end K16
/-! The law's own trees (nested tuples and lists); trees that are well made; equal texts only of equal trees. -/
namespace TM
open PySem PySem.Spec PyProof.Rows L2 LG Evl
/-- the law's own tree; all of it stands at places in S -/
inductive MdAt (S : Addr → Prop) (H : Hp) : V → Tree → Prop
  | place {a : Addr} {n : Str} (s : S a) (h : H a = some (.tup [.str "place", .str n])) : MdAt S H (.ref a) (.place n)
  | endd {a : Addr} {e : Str} (s : S a) (h : H a = some (.tup [.str "end", .str e])) : MdAt S H (.ref a) (.endd e)
  | lesser {a l : Addr} {xs : List V} {ts : List Tree} (s : S a) (h : H a = some (.tup [.str "lesser", .ref l])) (sl : S l) (hl : H l = some (.lst xs)) (hn : xs.length = ts.length) (hx : ∀ (i : Nat) (x : V) (t : Tree), xs[i]? = some x → ts[i]? = some t → MdAt S H x t) : MdAt S H (.ref a) (.lesser ts)
  | greater {a l : Addr} {xs : List V} {ts : List Tree} (s : S a) (h : H a = some (.tup [.str "greater", .ref l])) (sl : S l) (hl : H l = some (.lst xs)) (hn : xs.length = ts.length) (hx : ∀ (i : Nat) (x : V) (t : Tree), xs[i]? = some x → ts[i]? = some t → MdAt S H x t) : MdAt S H (.ref a) (.greater ts)
theorem MdAt.up {S S' : Addr → Prop} {H H' : Hp} {v : V} {t : Tree} (hS : ∀ b, S b → S' b) (e : ∀ b o, S b → H b = some o → H' b = some o) (h : MdAt S H v t) : MdAt S' H' v t := by
  induction h with
  | place s h => exact .place (hS _ s) (e _ _ s h)
  | endd s h => exact .endd (hS _ s) (e _ _ s h)
  | lesser s h sl hl hn _ ih => exact .lesser (hS _ s) (e _ _ s h) (hS _ sl) (e _ _ sl hl) hn ih
  | greater s h sl hl hn _ ih => exact .greater (hS _ s) (e _ _ s h) (hS _ sl) (e _ _ sl hl) hn ih
theorem MdAt.ex {S : Addr → Prop} {H H' : Hp} {v : V} {t : Tree} (e : Ex H H') (h : MdAt S H v t) : MdAt S H' v t := h.up (fun _ s => s) fun b o _ z => e b o z
/-! ### as data -/
mutual
def mdl : Tree → PyData
  | .place n => .tuple [.str "place", .str n]
  | .endd e => .tuple [.str "end", .str e]
  | .lesser ts => .tuple [.str "lesser", .list (mdls ts)]
  | .greater ts => .tuple [.str "greater", .list (mdls ts)]
def mdls : List Tree → List PyData
  | [] => []
  | t :: ts => mdl t :: mdls ts
end
mutual
theorem mdl_plain : ∀ t : Tree, (mdl t).plain = true
  | .place n => by simp [mdl, PyData.plain, PyData.plainAll]
  | .endd e => by simp [mdl, PyData.plain, PyData.plainAll]
  | .lesser ts => by simp [mdl, PyData.plain, PyData.plainAll, mdls_plain ts]
  | .greater ts => by simp [mdl, PyData.plain, PyData.plainAll, mdls_plain ts]
theorem mdls_plain : ∀ ts : List Tree, PyData.plainAll (mdls ts) = true
  | [] => rfl
  | t :: ts => by simp [mdls, PyData.plainAll, mdl_plain t, mdls_plain ts]
end
mutual
theorem mdl_depth : ∀ t : Tree, (mdl t).depth ≤ 2 * t.depth + 1
  | .place n => by simp [mdl, PyData.depth, PyData.depthAll]
  | .endd e => by simp [mdl, PyData.depth, PyData.depthAll]
  | .lesser ts => by
    have h := mdls_depth ts
    simp only [mdl, PyData.depth, PyData.depthAll, Tree.depth]
    omega
  | .greater ts => by
    have h := mdls_depth ts
    simp only [mdl, PyData.depth, PyData.depthAll, Tree.depth]
    omega
theorem mdls_depth : ∀ ts : List Tree, PyData.depthAll (mdls ts) ≤ 2 * Tree.depthAll ts + 1
  | [] => by simp [mdls, PyData.depthAll]
  | t :: ts => by
    have h1 := mdl_depth t
    have h2 := mdls_depth ts
    simp only [mdls, PyData.depthAll, Tree.depthAll]
    omega
end
mutual
theorem eqv_mdl : ∀ t u : Tree, PyData.eqv (mdl t) (mdl u) = true → t = u
  | .place n, .place m, h => by
    simp [mdl, PyData.eqv, PyData.eqvAll] at h
    rw [h]
  | .endd n, .endd m, h => by
    simp [mdl, PyData.eqv, PyData.eqvAll] at h
    rw [h]
  | .lesser ts, .lesser us, h => by
    simp [mdl, PyData.eqv, PyData.eqvAll] at h
    rw [eqv_mdls ts us h]
  | .greater ts, .greater us, h => by
    simp [mdl, PyData.eqv, PyData.eqvAll] at h
    rw [eqv_mdls ts us h]
  | .place _, .endd _, h => by simp [mdl, PyData.eqv, PyData.eqvAll, (by decide : ¬ ("place" : Str) = "end")] at h
  | .place _, .lesser _, h => by simp [mdl, PyData.eqv, PyData.eqvAll] at h
  | .place _, .greater _, h => by simp [mdl, PyData.eqv, PyData.eqvAll] at h
  | .endd _, .place _, h => by simp [mdl, PyData.eqv, PyData.eqvAll, (by decide : ¬ ("end" : Str) = "place")] at h
  | .endd _, .lesser _, h => by simp [mdl, PyData.eqv, PyData.eqvAll] at h
  | .endd _, .greater _, h => by simp [mdl, PyData.eqv, PyData.eqvAll] at h
  | .lesser _, .place _, h => by simp [mdl, PyData.eqv, PyData.eqvAll] at h
  | .lesser _, .endd _, h => by simp [mdl, PyData.eqv, PyData.eqvAll] at h
  | .lesser _, .greater _, h => by simp [mdl, PyData.eqv, PyData.eqvAll, (by decide : ¬ ("lesser" : Str) = "greater")] at h
  | .greater _, .place _, h => by simp [mdl, PyData.eqv, PyData.eqvAll] at h
  | .greater _, .endd _, h => by simp [mdl, PyData.eqv, PyData.eqvAll] at h
  | .greater _, .lesser _, h => by simp [mdl, PyData.eqv, PyData.eqvAll, (by decide : ¬ ("greater" : Str) = "lesser")] at h
theorem eqv_mdls : ∀ ts us : List Tree, PyData.eqvAll (mdls ts) (mdls us) = true → ts = us
  | [], [], _ => rfl
  | [], _ :: _, h => by simp [mdls, PyData.eqvAll] at h
  | _ :: _, [], h => by simp [mdls, PyData.eqvAll] at h
  | t :: ts, u :: us, h => by
    rw [mdls, mdls, PyData.eqvAll, Bool.and_eq_true] at h
    rw [eqv_mdl t u h.1, eqv_mdls ts us h.2]
end
theorem eqv_mdl_iff (t u : Tree) : PyData.eqv (mdl t) (mdl u) = true ↔ t = u := ⟨eqv_mdl t u, fun h => h ▸ SeqAt.eqv_refl_plain _ (mdl_plain t)⟩
theorem dp_mdls {K : PySem.W.Frag} {H : Hp} : ∀ {xs : List V} {ts : List Tree}, xs.length = ts.length → (∀ (i : Nat) (x : V) (t : Tree), xs[i]? = some x → ts[i]? = some t → Dp K H x (mdl t)) → DpAll K H xs (mdls ts)
  | [], [], _, _ => .nil
  | [], _ :: _, h, _ => by cases h
  | _ :: _, [], h, _ => by cases h
  | x :: xs, t :: ts, h, k => .cons (k 0 x t rfl rfl) (dp_mdls (Nat.succ.inj h) fun i y u a b => k (i + 1) y u a b)
theorem MdAt.dp {S : Addr → Prop} {K : PySem.W.Frag} {H : Hp} {v : V} {t : Tree} (h : MdAt S H v t) : Dp K H v (mdl t) := by
  induction h with
  | place s h => exact .tup (st_of h) (.cons (.str _) (.cons (.str _) .nil))
  | endd s h => exact .tup (st_of h) (.cons (.str _) (.cons (.str _) .nil))
  | lesser s h sl hl hn _ ih => exact .tup (st_of h) (.cons (.str _) (.cons (.lst (sq_of hl) (dp_mdls hn ih)) .nil))
  | greater s h sl hl hn _ ih => exact .tup (st_of h) (.cons (.str _) (.cons (.lst (sq_of hl) (dp_mdls hn ih)) .nil))
/-! ### well made -/
def names : List Str := ["r0", "r1", "r2", "r3", "r4", "r5", "x0", "x1"]
def Ln (n : Nat) : Prop := n = 2 ∨ n = 3 ∨ n = 4 ∨ n = 8
theorem Ln.two {n : Nat} (h : Ln n) : 2 ≤ n := by rcases h with rfl | rfl | rfl | rfl <;> decide
theorem Ln.eight {n : Nat} (h : Ln n) : n ≤ 8 := by rcases h with rfl | rfl | rfl | rfl <;> decide
inductive Ok : Tree → Prop
  | place {n : Str} (h : n ∈ names) : Ok (.place n)
  | endd {e : Str} (h : e ∈ (["bottom", "top"] : List Str)) : Ok (.endd e)
  | lesser {ts : List Tree} (hl : Ln ts.length) (h : ∀ t ∈ ts, Ok t) : Ok (.lesser ts)
  | greater {ts : List Tree} (hl : Ln ts.length) (h : ∀ t ∈ ts, Ok t) : Ok (.greater ts)
/-! ### equal representations only of equal trees -/
def cs (x : Str) : List Nat := x.cps.toList
theorem cs_app (x y : Str) : cs (x ++ y) = cs x ++ cs y := by simp [cs, PySem.Str.cps_append]
theorem cs_inj {x y : Str} (h : cs x = cs y) : x = y := PySem.Str.ext' (Array.toList_inj.mp h)
theorem len_cs (x : Str) : (cs x).length = x.length := by simp [cs, PySem.Str.length]
end TM
/-! Equal representations only of equal trees; how long texts are. -/
namespace TM
open PySem PySem.Spec PyProof.Rows L2 LG Evl
theorem cs_place : ∀ n ∈ names, cs (Tree.repr (.place n)) = 80 :: 108 :: 97 :: 99 :: 101 :: 40 :: 39 :: (cs n ++ [39, 41]) ∧ (cs n).length = 2 := by decide +kernel
theorem cs_bottom : cs (Tree.repr (.endd "bottom")) = [69, 110, 100, 40, 39, 98, 111, 116, 116, 111, 109, 39, 41] := by decide +kernel
theorem cs_top : cs (Tree.repr (.endd "top")) = [69, 110, 100, 40, 39, 116, 111, 112, 39, 41] := by decide +kernel
theorem cs_lesser (ts : List Tree) : cs (Tree.repr (.lesser ts)) = 76 :: 101 :: 115 :: 115 :: 101 :: 114 :: 40 :: (cs (joinS ", " (Tree.reprAll ts)) ++ [41]) := by
  rw [Tree.repr, cs_app, cs_app, (by decide : cs "Lesser(" = [76, 101, 115, 115, 101, 114, 40]), (by decide : cs ")" = [41])]
  rfl
theorem cs_greater (ts : List Tree) : cs (Tree.repr (.greater ts)) = 71 :: 114 :: 101 :: 97 :: 116 :: 101 :: 114 :: 40 :: (cs (joinS ", " (Tree.reprAll ts)) ++ [41]) := by
  rw [Tree.repr, cs_app, cs_app, (by decide : cs "Greater(" = [71, 114, 101, 97, 116, 101, 114, 40]), (by decide : cs ")" = [41])]
  rfl
theorem cs_endd {e : Str} (h : e ∈ (["bottom", "top"] : List Str)) : e = "bottom" ∨ e = "top" := by
  rcases List.mem_cons.mp h with h | h
  · exact .inl h
  · exact .inr (List.mem_singleton.mp h)
/-- the head tells the kind -/
def hd (t : Tree) : Nat := match t with
  | .place _ => 80
  | .endd _ => 69
  | .lesser _ => 76
  | .greater _ => 71
theorem cs_hd {t : Tree} (h : Ok t) : ∃ l, cs t.repr = hd t :: l := by
  cases h with
  | place h => exact ⟨_, (cs_place _ h).1⟩
  | endd h =>
    rcases cs_endd h with rfl | rfl
    · exact ⟨_, cs_bottom⟩
    · exact ⟨_, cs_top⟩
  | lesser _ _ => exact ⟨_, cs_lesser _⟩
  | greater _ _ => exact ⟨_, cs_greater _⟩
theorem hd_eq {t u : Tree} (ht : Ok t) (hu : Ok u) {r s : List Nat} (h : cs t.repr ++ r = cs u.repr ++ s) : hd t = hd u := by
  obtain ⟨l, e⟩ := cs_hd ht
  obtain ⟨l2, e2⟩ := cs_hd hu
  rw [e, e2, List.cons_append, List.cons_append] at h
  exact (List.cons.inj h).1
theorem joinS_two (t u : Tree) (ts : List Tree) : cs (joinS ", " (Tree.reprAll (t :: u :: ts))) = cs t.repr ++ 44 :: 32 :: cs (joinS ", " (Tree.reprAll (u :: ts))) := by
  rw [Tree.reprAll, Tree.reprAll, joinS, cs_app, cs_app, (by decide : cs ", " = [44, 32]), List.append_assoc]
  rfl
theorem joinS_one (t : Tree) : cs (joinS ", " (Tree.reprAll [t])) = cs t.repr := rfl
mutual
theorem pf : ∀ t u : Tree, Ok t → Ok u → ∀ r s : List Nat, cs t.repr ++ r = cs u.repr ++ s → t = u ∧ r = s
  | .place n, .place m, ht, hu, r, s, h => by
    cases ht with
    | place hn =>
      cases hu with
      | place hm =>
        obtain ⟨e1, l1⟩ := cs_place n hn
        obtain ⟨e2, l2⟩ := cs_place m hm
        rw [e1, e2] at h
        simp only [List.cons_append, List.append_assoc, List.cons.injEq, true_and] at h
        obtain ⟨a, b⟩ := List.append_inj h (by rw [l1, l2])
        simp only [List.cons_append, List.cons.injEq, true_and, List.nil_append] at b
        exact ⟨by rw [cs_inj a], b⟩
  | .endd n, .endd m, ht, hu, r, s, h => by
    cases ht with
    | endd hn =>
      cases hu with
      | endd hm =>
        rcases cs_endd hn with rfl | rfl <;> rcases cs_endd hm with rfl | rfl
        · exact ⟨rfl, List.append_cancel_left h⟩
        · rw [cs_bottom, cs_top] at h
          simp at h
        · rw [cs_bottom, cs_top] at h
          simp at h
        · exact ⟨rfl, List.append_cancel_left h⟩
  | .lesser ts, .lesser us, ht, hu, r, s, h => by
    cases ht with
    | lesser hl ha =>
      cases hu with
      | lesser kl ka =>
        have h2 := hl.two
        have k2 := kl.two
        rw [cs_lesser, cs_lesser] at h
        simp only [List.cons_append, List.append_assoc, List.cons.injEq, true_and, List.nil_append] at h
        obtain ⟨a, b⟩ := pfs ts us (by omega) (by omega) ha ka r s h
        exact ⟨by rw [a], b⟩
  | .greater ts, .greater us, ht, hu, r, s, h => by
    cases ht with
    | greater hl ha =>
      cases hu with
      | greater kl ka =>
        have h2 := hl.two
        have k2 := kl.two
        rw [cs_greater, cs_greater] at h
        simp only [List.cons_append, List.append_assoc, List.cons.injEq, true_and, List.nil_append] at h
        obtain ⟨a, b⟩ := pfs ts us (by omega) (by omega) ha ka r s h
        exact ⟨by rw [a], b⟩
  | .place _, .endd _, ht, hu, _, _, h => absurd (hd_eq ht hu h) (by simp [hd])
  | .place _, .lesser _, ht, hu, _, _, h => absurd (hd_eq ht hu h) (by simp [hd])
  | .place _, .greater _, ht, hu, _, _, h => absurd (hd_eq ht hu h) (by simp [hd])
  | .endd _, .place _, ht, hu, _, _, h => absurd (hd_eq ht hu h) (by simp [hd])
  | .endd _, .lesser _, ht, hu, _, _, h => absurd (hd_eq ht hu h) (by simp [hd])
  | .endd _, .greater _, ht, hu, _, _, h => absurd (hd_eq ht hu h) (by simp [hd])
  | .lesser _, .place _, ht, hu, _, _, h => absurd (hd_eq ht hu h) (by simp [hd])
  | .lesser _, .endd _, ht, hu, _, _, h => absurd (hd_eq ht hu h) (by simp [hd])
  | .lesser _, .greater _, ht, hu, _, _, h => absurd (hd_eq ht hu h) (by simp [hd])
  | .greater _, .place _, ht, hu, _, _, h => absurd (hd_eq ht hu h) (by simp [hd])
  | .greater _, .endd _, ht, hu, _, _, h => absurd (hd_eq ht hu h) (by simp [hd])
  | .greater _, .lesser _, ht, hu, _, _, h => absurd (hd_eq ht hu h) (by simp [hd])
theorem pfs : ∀ ts us : List Tree, 0 < ts.length → 0 < us.length → (∀ t ∈ ts, Ok t) → (∀ u ∈ us, Ok u) → ∀ r s : List Nat, cs (joinS ", " (Tree.reprAll ts)) ++ 41 :: r = cs (joinS ", " (Tree.reprAll us)) ++ 41 :: s → ts = us ∧ r = s
  | [], _, h, _, _, _, _, _, _ => absurd h (Nat.lt_irrefl _)
  | _ :: _, [], _, h, _, _, _, _, _ => absurd h (Nat.lt_irrefl _)
  | [t], [u], _, _, ht, hu, r, s, h => by
    rw [joinS_one, joinS_one] at h
    obtain ⟨a, b⟩ := pf t u (ht t List.mem_cons_self) (hu u List.mem_cons_self) _ _ h
    exact ⟨by rw [a], (List.cons.inj b).2⟩
  | [t], u :: u2 :: us, _, _, ht, hu, r, s, h => by
    rw [joinS_one, joinS_two, List.append_assoc] at h
    obtain ⟨_, b⟩ := pf t u (ht t List.mem_cons_self) (hu u List.mem_cons_self) _ _ h
    simp at b
  | t :: t2 :: ts, [u], _, _, ht, hu, r, s, h => by
    rw [joinS_one, joinS_two, List.append_assoc] at h
    obtain ⟨_, b⟩ := pf t u (ht t List.mem_cons_self) (hu u List.mem_cons_self) _ _ h
    simp at b
  | t :: t2 :: ts, u :: u2 :: us, _, _, ht, hu, r, s, h => by
    rw [joinS_two, joinS_two, List.append_assoc, List.append_assoc] at h
    obtain ⟨a, b⟩ := pf t u (ht t List.mem_cons_self) (hu u List.mem_cons_self) _ _ h
    simp only [List.cons_append, List.cons.injEq, true_and] at b
    obtain ⟨c, d⟩ := pfs (t2 :: ts) (u2 :: us) (by simp) (by simp) (fun x hx => ht x (List.mem_cons_of_mem _ hx)) (fun x hx => hu x (List.mem_cons_of_mem _ hx)) r s b
    exact ⟨by rw [a, c], d⟩
end
theorem repr_inj {t u : Tree} (ht : Ok t) (hu : Ok u) (h : t.repr = u.repr) : t = u := (pf t u ht hu [] [] (by rw [h])).1
theorem repr_iff {t u : Tree} (ht : Ok t) (hu : Ok u) : decide (t.repr = u.repr) = PyData.eqv (mdl t) (mdl u) := by
  rw [Bool.eq_iff_iff, decide_eq_true_iff, eqv_mdl_iff]
  exact ⟨repr_inj ht hu, fun h => by rw [h]⟩
theorem eqv_symm (t u : Tree) : PyData.eqv (mdl t) (mdl u) = PyData.eqv (mdl u) (mdl t) := by
  rw [Bool.eq_iff_iff, eqv_mdl_iff, eqv_mdl_iff]
  exact eq_comm
/-! ### how long -/
theorem sum_le {xs : List Str} {M : Nat} (h : ∀ x ∈ xs, x.length ≤ M) : (xs.map (·.length)).sum ≤ xs.length * M := by
  induction xs with
  | nil => simp
  | cons x xs ih =>
    have h1 := h x List.mem_cons_self
    have h2 := ih fun y hy => h y (List.mem_cons_of_mem _ hy)
    rw [List.map_cons, List.sum_cons, List.length_cons, Nat.succ_mul]
    omega
theorem reprAll_mem : ∀ {ts : List Tree} {x : Str}, x ∈ Tree.reprAll ts → ∃ t ∈ ts, x = t.repr
  | [], _, h => by simp [Tree.reprAll] at h
  | t :: ts, x, h => by
    rw [Tree.reprAll] at h
    rcases List.mem_cons.mp h with rfl | h
    · exact ⟨t, List.mem_cons_self, rfl⟩
    · obtain ⟨u, hu, e⟩ := reprAll_mem h
      exact ⟨u, List.mem_cons_of_mem _ hu, e⟩
theorem innerAll_mem : ∀ {ts : List Tree} {x : Str}, x ∈ Tree.innerAll ts → ∃ t ∈ ts, x.length ≤ t.text.length + 2
  | [], _, h => by simp [Tree.innerAll] at h
  | t :: ts, x, h => by
    rw [Tree.innerAll] at h
    rcases List.mem_cons.mp h with rfl | h
    · refine ⟨t, List.mem_cons_self, ?_⟩
      split
      · rw [K16.len3]
        have h1 : ("(" : Str).length = 1 := by decide
        have h2 : (")" : Str).length = 1 := by decide
        omega
      · omega
    · obtain ⟨u, hu, e⟩ := innerAll_mem h
      exact ⟨u, List.mem_cons_of_mem _ hu, e⟩
theorem leaf_len {t : Tree} (h : Ok t) (hd : t.depth = 0) : t.repr.length ≤ 13 ∧ t.text.length ≤ 6 := by
  cases h with
  | place h => exact (by decide +kernel : ∀ n ∈ names, (Tree.repr (.place n)).length ≤ 13 ∧ (Tree.text (.place n)).length ≤ 6) _ h
  | endd h => exact (by decide +kernel : ∀ e ∈ (["bottom", "top"] : List Str), (Tree.repr (.endd e)).length ≤ 13 ∧ (Tree.text (.endd e)).length ≤ 6) _ h
  | lesser _ _ => simp [Tree.depth] at hd
  | greater _ _ => simp [Tree.depth] at hd
theorem mul_le {n : Nat} (h : n ≤ 8) (M : Nat) : n * M ≤ 8 * M := Nat.mul_le_mul_right M h
theorem sums {ts : List Tree} {M N : Nat} (h8 : ts.length ≤ 8) (h : ∀ t ∈ ts, t.repr.length ≤ M ∧ t.text.length ≤ N) : ((Tree.reprAll ts).map (·.length)).sum ≤ 8 * M ∧ ((Tree.innerAll ts).map (·.length)).sum ≤ 8 * (N + 2) := by
  constructor
  · refine Nat.le_trans (sum_le (M := M) fun x hx => ?_) (by rw [K16.reprAll_len]; exact mul_le h8 M)
    obtain ⟨t, ht, rfl⟩ := reprAll_mem hx
    exact (h t ht).1
  · refine Nat.le_trans (sum_le (M := N + 2) fun x hx => ?_) (by rw [K16.innerAll_len]; exact mul_le h8 (N + 2))
    obtain ⟨t, ht, e⟩ := innerAll_mem hx
    have := (h t ht).2
    omega
theorem joins {ts : List Tree} {M N : Nat} (h8 : ts.length ≤ 8) (h : ∀ t ∈ ts, t.repr.length ≤ M ∧ t.text.length ≤ N) : (joinS ", " (Tree.reprAll ts)).length ≤ 8 * M + 16 ∧ (joinS " & " (Tree.innerAll ts)).length ≤ 8 * N + 40 ∧ (joinS " | " (Tree.innerAll ts)).length ≤ 8 * N + 40 := by
  obtain ⟨s1, s2⟩ := sums h8 h
  have j1 := K16.joinS_len ", " (Tree.reprAll ts)
  have j2 := K16.joinS_len " & " (Tree.innerAll ts)
  have j3 := K16.joinS_len " | " (Tree.innerAll ts)
  rw [(by decide : (", " : Str).length = 2), K16.reprAll_len] at j1
  rw [(by decide : (" & " : Str).length = 3), K16.innerAll_len] at j2
  rw [(by decide : (" | " : Str).length = 3), K16.innerAll_len] at j3
  omega
theorem len_le : ∀ (d : Nat) {t : Tree}, Ok t → t.depth ≤ d → t.repr.length + 4 ≤ 17 * 8 ^ d ∧ t.text.length + 6 ≤ 12 * 8 ^ d := by
  intro d
  induction d with
  | zero =>
    intro t h hd
    have := leaf_len h (Nat.le_zero.mp hd)
    omega
  | succ d ih =>
    intro t h hd
    have p8 : 1 ≤ 8 ^ d := Nat.pos_of_ne_zero (by simp)
    have ps : 8 ^ (d + 1) = 8 * 8 ^ d := by rw [Nat.pow_succ, Nat.mul_comm]
    rw [ps]
    have sub : ∀ ts : List Tree, (∀ t ∈ ts, Ok t) → Tree.depthAll ts ≤ d → ∀ t ∈ ts, t.repr.length ≤ 17 * 8 ^ d - 4 ∧ t.text.length ≤ 12 * 8 ^ d - 6 := fun ts ho hd t ht => by
      have := ih (ho t ht) (Nat.le_trans (depth_mem ht) hd)
      omega
    cases h with
    | place h =>
      have := leaf_len (.place h) rfl
      omega
    | endd h =>
      have := leaf_len (.endd h) rfl
      omega
    | lesser hl ho =>
      have h2 := hl.two
      have h8 := hl.eight
      obtain ⟨j1, j2, j3⟩ := joins h8 (sub _ ho (by simpa [Tree.depth] using hd))
      rw [Tree.repr, Tree.text, K16.len3, (by decide : ("Lesser(" : Str).length = 7), (by decide : (")" : Str).length = 1)]
      omega
    | greater hl ho =>
      have h2 := hl.two
      have h8 := hl.eight
      obtain ⟨j1, j2, j3⟩ := joins h8 (sub _ ho (by simpa [Tree.depth] using hd))
      rw [Tree.repr, Tree.text, K16.len3, (by decide : ("Greater(" : Str).length = 8), (by decide : (")" : Str).length = 1)]
      omega
end TM
namespace K16
open PySem PySem.Spec PyProof.Rows L2 LG Evl TM
theorem ok_both : ∀ (d : Nat) {t : TM.Tree}, Ok t → t.depth ≤ d → d ≤ 5 → RepOk t ∧ TextOk t := by
  intro d
  induction d with
  | zero =>
    intro t h hd _
    cases h with
    | place h =>
      have h1 : ∀ n ∈ names, (reprText n).length ≤ 1000 ∧ n.length ≤ 1000 := by decide +kernel
      exact ⟨.place (h1 _ h).1, .place (h1 _ h).2⟩
    | endd h =>
      have h1 : ∀ n ∈ (["bottom", "top"] : List Str), (reprText n).length ≤ 1000 ∧ n.length ≤ 1000 := by decide +kernel
      exact ⟨.endd (h1 _ h).1, .endd (h1 _ h).2⟩
    | lesser _ _ => simp [TM.Tree.depth] at hd
    | greater _ _ => simp [TM.Tree.depth] at hd
  | succ d ih =>
    intro t h hd h5
    have p : 8 ^ d ≤ 8 ^ 4 := Nat.pow_le_pow_right (by decide) (by omega)
    have sub : ∀ ts : List TM.Tree, (∀ t ∈ ts, Ok t) → TM.Tree.depthAll ts ≤ d → ∀ t ∈ ts, t.repr.length ≤ 69628 ∧ t.text.length ≤ 49146 := fun ts ho hd t ht => by
      have := len_le d (ho t ht) (Nat.le_trans (depth_mem ht) hd)
      omega
    cases h with
    | place h =>
      have h1 : ∀ n ∈ names, (reprText n).length ≤ 1000 ∧ n.length ≤ 1000 := by decide +kernel
      exact ⟨.place (h1 _ h).1, .place (h1 _ h).2⟩
    | endd h =>
      have h1 : ∀ n ∈ (["bottom", "top"] : List Str), (reprText n).length ≤ 1000 ∧ n.length ≤ 1000 := by decide +kernel
      exact ⟨.endd (h1 _ h).1, .endd (h1 _ h).2⟩
    | lesser hl ho =>
      have h2 := hl.two
      have h8 := hl.eight
      have hd2 : ∀ ts, TM.Tree.depth (.lesser ts) ≤ d + 1 → TM.Tree.depthAll ts ≤ d := fun ts h => by simpa [TM.Tree.depth] using h
      obtain ⟨s1, s2⟩ := sums h8 (sub _ ho (hd2 _ hd))
      exact ⟨.lesser (by omega) (by omega) fun t ht => (ih (ho t ht) (Nat.le_trans (depth_mem ht) (hd2 _ hd)) (by omega)).1, .lesser (by omega) (by omega) fun t ht => (ih (ho t ht) (Nat.le_trans (depth_mem ht) (hd2 _ hd)) (by omega)).2⟩
    | greater hl ho =>
      have h2 := hl.two
      have h8 := hl.eight
      have hd2 : ∀ ts, TM.Tree.depth (.greater ts) ≤ d + 1 → TM.Tree.depthAll ts ≤ d := fun ts h => by simpa [TM.Tree.depth] using h
      obtain ⟨s1, s2⟩ := sums h8 (sub _ ho (hd2 _ hd))
      exact ⟨.greater (by omega) (by omega) fun t ht => (ih (ho t ht) (Nat.le_trans (depth_mem ht) (hd2 _ hd)) (by omega)).1, .greater (by omega) (by omega) fun t ht => (ih (ho t ht) (Nat.le_trans (depth_mem ht) (hd2 _ hd)) (by omega)).2⟩
theorem rep_ok {t : TM.Tree} (h : Ok t) (hd : t.depth ≤ 5) : RepOk t := (ok_both 5 h hd (Nat.le_refl _)).1
theorem text_ok {t : TM.Tree} (h : Ok t) (hd : t.depth ≤ 5) : TextOk t := (ok_both 5 h hd (Nat.le_refl _)).2
end K16
/-! x == y, x of a built-in kind, y an instance whose class has an own __eq__; == and != of data. -/
namespace LG
open PySem PySem.SeqAt PyProof.Rows
open AutoSeq1 (wpAny_loadPart')
open MeetsSeq
/-! the builtin kinds turn down a comparison with an own instance -/
theorem str_down (b : Str) (u : Tok) (l : Addr) (c : Value) (dd : Option Addr) (sl : Array (Option Value)) :
    Meets (Builtin.«str.__eq__» ⟨[.str b u, .ref l], []⟩) (fun _ R s => s.heap.get? l = some { cls := c, dict := dd, data := .plain, slots := sl } ∧ R (.ok (.ret .notImplemented)) s) :=
  .of_wp fun prog w A R s h => by obtain ⟨hp, g, d, tk, os⟩ := s; obtain ⟨hl, h⟩ := h; wp_walk using wpAny_loadPart' hl, wpAny_load hl; exact ⟨_, rfl, h⟩
theorem int_down (b : Int) (u : Tok) (l : Addr) (c : Value) (dd : Option Addr) (sl : Array (Option Value)) :
    Meets (Builtin.«int.__eq__» ⟨[.int b u, .ref l], []⟩) (fun _ R s => s.heap.get? l = some { cls := c, dict := dd, data := .plain, slots := sl } ∧ R (.ok (.ret .notImplemented)) s) :=
  .of_wp fun prog w A R s h => by obtain ⟨hp, g, d, tk, os⟩ := s; obtain ⟨hl, h⟩ := h; wp_walk using wpAny_loadPart' hl, wpAny_load hl; exact ⟨_, rfl, h⟩
section
variable {prog : Program} {w : World}
theorem list_down (b l C : Addr) (items : Array Value) (n : Nat) (dd dd2 : Option Addr) (sl sl2 : Array (Option Value)) :
    MeetsIn prog w (Builtin.«list.__eq__» ⟨[.ref b, .ref l], []⟩) (fun _ R s => s.heap.get? b = some { cls := .type "list", dict := dd, data := .seq items n, slots := sl } ∧ s.heap.get? l = some { cls := .ref C, dict := dd2, data := .plain, slots := sl2 } ∧ PySem.W.Looks (model prog w) s.heap (isSubtype (.ref C) (.type "list")) false ∧ R (.ok (.ret .notImplemented)) s) := by
  intro A R s h
  obtain ⟨hp, g, d, tk, os⟩ := s
  obtain ⟨hl, hx, lk, h⟩ := h
  wp_walk using wpAny_loadPart' hl
  refine PySem.W.Looks.at lk ?_
  wp_walk
  exact h
theorem tuple_down (b l C : Addr) (items : Array Value) (n : Nat) (dd dd2 : Option Addr) (sl sl2 : Array (Option Value)) :
    MeetsIn prog w (Builtin.«tuple.__eq__» ⟨[.ref b, .ref l], []⟩) (fun _ R s => s.heap.get? b = some { cls := .type "tuple", dict := dd, data := .seq items n, slots := sl } ∧ s.heap.get? l = some { cls := .ref C, dict := dd2, data := .plain, slots := sl2 } ∧ PySem.W.Looks (model prog w) s.heap (isSubtype (.ref C) (.type "tuple")) false ∧ R (.ok (.ret .notImplemented)) s) := by
  intro A R s h
  obtain ⟨hp, g, d, tk, os⟩ := s
  obtain ⟨hl, hx, lk, h⟩ := h
  wp_walk using wpAny_loadPart' hl
  refine PySem.W.Looks.at lk ?_
  wp_walk
  exact h
theorem dict_down (b l C : Addr) (es : Array DictEntry) (n : Nat) (dd dd2 : Option Addr) (sl sl2 : Array (Option Value)) :
    MeetsIn prog w (Builtin.«dict.__eq__» ⟨[.ref b, .ref l], []⟩) (fun _ R s => s.heap.get? b = some { cls := .type "dict", dict := dd, data := .dict es n, slots := sl } ∧ s.heap.get? l = some { cls := .ref C, dict := dd2, data := .plain, slots := sl2 } ∧ PySem.W.Looks (model prog w) s.heap (isSubtype (.ref C) (.type "dict")) false ∧ R (.ok (.ret .notImplemented)) s) := by
  intro A R s h
  obtain ⟨hp, g, d, tk, os⟩ := s
  obtain ⟨hl, hx, lk, h⟩ := h
  wp_walk using wpAny_loadPart' hl
  refine PySem.W.Looks.at lk ?_
  wp_walk
  exact h
theorem none_down (l : Addr) : Gives (Builtin.«NoneType.__eq__» ⟨[.none, .ref l], []⟩) (.val (Value.notImplemented)) := NoneType___eq___none_ref_0 l
/-- a == y: a of a built-in kind that turns it down, y an instance whose class has an own __eq__ -/
theorem rc_right {A : Around} {E : Value → Shared → Prop} {s : Shared} {K : PySem.W.Frag} {x C f : Addr} {ox : Obj} {od : Option Obj} {u : Value} {Ta id : String} {Q : Value → Shared → Prop} (X : K.In s.heap) (I : PySem.W.InstAt s.heap x ox C od) (ha : s.TypeIs u Ta) (hm : PySem.W.mroIn K C (.type Ta) = some false)
    (hs : PySem.W.findIn K (.ref C) "__eq__" = some (some (.ref f))) (hf : PySem.W.isFn K (.ref f) = true) (hu : A.units < cLine) (h1 : Slot Ta (cmpInfo .Eq).2.1 id)
    (hc : ∀ Q' : Value → Shared → Prop, Q' .notImplemented s → wpAny (model prog w) A (call (.builtin id) [u, .ref x]) Q' E s)
    (h : wpAny (model prog w) A (call (.ref f) [.ref x, u]) (PySem.W.CmpBack Q) E s) : wpAny (model prog w) A (richCompare .Eq u (.ref x)) Q E s := by
  have one : wpAny (model prog w) A (tryCompare (.ref x) (cmpInfo .Eq).2.2 u) (fun r s' => ∃ v, r = some v ∧ Q v s') E s := by
    unfold tryCompare
    refine wpAny_bind (PySem.W.ifBound_K X I hs hf (wpAny_mono h (fun v s' hv => ?_) fun _ _ e => e))
    cases v <;> first | exact hv.elim | exact wpAny_pure ⟨_, rfl, hv⟩
  rcases hi : cmpInfo CmpOp.Eq with ⟨sym, g, r⟩
  rw [hi] at h1 one
  simp only [richCompare, hi, ha.oneThing_none]
  refine wpAny_holding ?_
  refine wpAny_bind (wpAny_cRoomFor hu ?_)
  refine wpAny_bind (wpAny_typeOf ha (wpAny_bind (I.type.here ?_)))
  have ne : (Value.type Ta != Value.ref C) = true := rfl
  simp only [ne, if_true]
  refine wpAny_bind ((PySem.W.looks_mroIn X hm).here ?_)
  simp only [Bool.false_eq_true, if_false, Bool.not_false, if_true]
  refine wpAny_bind (m := tryCompare u _ (.ref x)) (wpAny_tryCompare_declines ha h1 (hc _ ⟨rfl, ?_⟩))
  refine wpAny_bind (wpAny_mono one (fun r s' z => ?_) fun _ _ e => e)
  obtain ⟨v, rfl, hq⟩ := z
  exact wpAny_pure hq
end
end LG
namespace LG
open PySem PySem.Spec PyProof.Rows L2
/-- the kinds that a comparison with an own instance meets here -/
inductive Kd (H : Hp) : V → String → Prop
  | non : Kd H .non "NoneType"
  | int (i : Int) : Kd H (.int i) "int"
  | str (x : Str) : Kd H (.str x) "str"
  | lst {p : Addr} {xs : List V} (h : H p = some (.lst xs)) : Kd H (.ref p) "list"
  | tup {p : Addr} {xs : List V} (h : H p = some (.tup xs)) : Kd H (.ref p) "tuple"
  | dic {p : Addr} {kvs : List (Key × V)} (h : H p = some (.dK kvs)) : Kd H (.ref p) "dict"
theorem Kd.ty {K : PySem.W.Frag} {H : Hp} {v : V} {t : String} (h : Kd H v t) : TyX K H v (.type t) := by
  cases h with
  | non => exact .base .non
  | int i => exact .base (.int i)
  | str x => exact .base (.str x)
  | lst h => exact .base (.lst h)
  | tup h => exact .base (.tup h)
  | dic h => exact .base (.dK h)
def kinds : List String := ["NoneType", "int", "str", "list", "tuple", "dict"]
theorem Kd.mem {H : Hp} {v : V} {t : String} (h : Kd H v t) : t ∈ kinds := by cases h <;> decide
/-- a class of the text that is none of these kinds -/
def noKinds (K : PySem.W.Frag) (C : Addr) : Bool := kinds.all fun t => PySem.W.mroIn K C (.type t) == some false
theorem noKinds_at {K : PySem.W.Frag} {C : Addr} (h : noKinds K C = true) {t : String} (ht : t ∈ kinds) : PySem.W.mroIn K C (.type t) = some false := beq_iff_eq.mp (List.all_eq_true.mp h t ht)
section
variable {X : Cx} {k : Nat} {C g : Addr} {sp : Sp} {E : XK}
def rEqRight (C : Addr) (sp : Sp) (E : XK) : R2 := fun x y H Q => ∃ a dx fs t, y = .ref a ∧ H a = some (.ins C dx fs) ∧ Kd H x t ∧ sp [y, x] H (fun v H' => ∃ b, v = .bl b ∧ Q v H') E
theorem op_eqRight (hs : PySem.W.findIn X.K (.ref C) "__eq__" = some (some (.ref g))) (hf : PySem.W.isFn X.K (.ref g) = true) (hk : noKinds X.K C = true) (Fg : Fn X.prog X.w X.K X.mg X.base k g sp) (g0 : X.A.guards = some []) (hr : Room k X.A) (hx : Passes (L2.CX X.prog X.w) X E) : OpR X (compareOp .Eq) (rEqRight C sp E) := by
  intro pins s σ H x y v u Q I rx ry h
  obtain ⟨a, dx, fs, t, rfl, hH, kd, q⟩ := h
  obtain rfl : u = Value.ref a := ry
  obtain ⟨mA, O, _, _, _, _⟩ := ins_get I.hok hH
  obtain ⟨odx, J, _⟩ := O.look
  have hm := noKinds_at hk kd.mem
  have go : wpAny (model X.prog X.w) X.A (call (.ref g) [.ref a, v]) (PySem.W.CmpBack (EP X pins σ Q)) X.xe s := by
    refine thn (run_Fn0 (us := [.ref a, v]) (vs := [.ref a, x]) Fg g0 hr hx I (.cons rfl (.cons rx .nil)) q) ?_
    rintro v2 s' ⟨w', H', I', rv, b, rfl, q'⟩
    obtain rfl : v2 = Value.bool b := rv
    exact ⟨.bl b, H', I', rfl, q'⟩
  show wpAny _ _ (richCompare .Eq v (.ref a)) _ _ _
  have lk : PySem.W.Looks (model X.prog X.w) s.heap (isSubtype (.ref C) (.type t)) false := PySem.W.looks_mroIn I.kIn hm
  cases kd with
  | non =>
    obtain rfl : v = Value.none := rx
    exact rc_right I.kIn J (Ta := "NoneType") rfl hm hs hf hr.units0 F.slot_NoneType_eq (fun Q' q' => call_gives F.slot_NoneType_eq rfl F.entry_NoneType_eq (F.args_NoneType_eq_2 _ _) (none_down _) q') go
  | int i =>
    obtain ⟨t, rfl⟩ := rx
    exact rc_right I.kIn J (Ta := "int") (typeIs_int s i t) hm hs hf hr.units0 F.slot_int_eq (fun Q' q' => call_meets F.slot_int_eq (typeIs_int s i t) F.entry_int_eq (F.args_int_eq_2 _ _) (int_down i t a _ _ _) ⟨J.at_, q'⟩) go
  | str z =>
    obtain ⟨t, rfl⟩ := rx
    exact rc_right I.kIn J (Ta := "str") rfl hm hs hf hr.units0 F.slot_str_eq (fun Q' q' => call_meets F.slot_str_eq rfl F.entry_str_eq (F.args_str_eq_2 _ _) (str_down z t a _ _ _) ⟨J.at_, q'⟩) go
  | @lst p xs hp =>
    obtain rfl : v = Value.ref p := rx
    obtain ⟨its, rv, ⟨⟨cls, dd, data, sls⟩, n, ho, hc, hdn, hdt⟩, _⟩ := I.list (Or.inl (Or.inl hp))
    simp only at hc hdt
    subst hc hdt
    exact rc_right I.kIn J (Ta := "list") ⟨_, ho, rfl⟩ hm hs hf hr.units0 F.slot_list_eq (fun Q' q' => call_meetsIn F.slot_list_eq ⟨_, ho, rfl⟩ F.entry_list_eq (F.args_list_eq_2 _ _) (list_down p a C _ _ _ _ _ _) ⟨ho, J.at_, lk, q'⟩) go
  | @tup p xs hp =>
    obtain rfl : v = Value.ref p := rx
    obtain ⟨its, rv, ⟨⟨cls, dd, data, sls⟩, ho, hc, n, hdt⟩, _⟩ := I.tuple (Or.inl (Or.inl hp))
    simp only at hc hdt
    subst hc hdt
    exact rc_right I.kIn J (Ta := "tuple") ⟨_, ho, rfl⟩ hm hs hf hr.units0 F.slot_tuple_eq (fun Q' q' => call_meetsIn F.slot_tuple_eq ⟨_, ho, rfl⟩ F.entry_tuple_eq (F.args_tuple_eq_2 _ _) (tuple_down p a C _ _ _ _ _ _) ⟨ho, J.at_, lk, q'⟩) go
  | @dic p kvs hp =>
    obtain rfl : v = Value.ref p := rx
    obtain ⟨_, _, _, _, ⟨cls, dd, data, sls⟩, es, _, ho, hc, hd, _, _, _⟩ := I.hok p _ hp
    have hc1 := hc.1
    simp only at hc1 hd
    subst hc1 hd
    exact rc_right I.kIn J (Ta := "dict") ⟨_, ho, rfl⟩ hm hs hf hr.units0 F.slot_dict_eq (fun Q' q' => call_meetsIn F.slot_dict_eq ⟨_, ho, rfl⟩ F.entry_dict_eq (F.args_dict_eq_2 _ _) (dict_down p a C _ _ _ _ _ _) ⟨ho, J.at_, lk, q'⟩) go
/-- == and != of data without dicts, of any depth up to 64 -/
def rEqP (K : PySem.W.Frag) : R2 := fun x y H Q => ∃ d e, Dp K H x d ∧ Dp K H y e ∧ d.plain = true ∧ e.plain = true ∧ d.depth ≤ 64 ∧ Q (.bl (PyData.eqv d e)) H
def rNeP (K : PySem.W.Frag) : R2 := fun x y H Q => ∃ d e, Dp K H x d ∧ Dp K H y e ∧ d.plain = true ∧ e.plain = true ∧ d.depth ≤ 64 ∧ Q (.bl (!PyData.eqv d e)) H
theorem op_eqP (hu : X.A.units + 64 < cLine) : OpR X (compareOp .Eq) (rEqP X.K) := by
  intro pins s σ H x y v u Q I rx ry h
  obtain ⟨d, e, hd, he, pd, pe, z, q⟩ := h
  obtain ⟨as, r1⟩ := Dp.reads I d x v hd rx
  obtain ⟨bs, r2⟩ := Dp.reads I e y u he ry
  exact SeqAt.eq_plain r1 r2 pd pe (by omega) ⟨.bl _, H, I, rfl, q⟩
theorem op_neP (hu : X.A.units + 64 < cLine) : OpR X (compareOp .NotEq) (rNeP X.K) := by
  intro pins s σ H x y v u Q I rx ry h
  obtain ⟨d, e, hd, he, pd, pe, z, q⟩ := h
  obtain ⟨as, r1⟩ := Dp.reads I d x v hd rx
  obtain ⟨bs, r2⟩ := Dp.reads I e y u he ry
  exact SeqAt.ne_plain r1 r2 pd pe (by omega) ⟨.bl _, H, I, rfl, q⟩
end
end LG
namespace K16
open PySem PySem.Spec PyProof.Rows L2 LG Evl
/-! ### terms made -/
section
variable {P : Program} {w : World} {K : PySem.W.Frag} {mg : Str → Option Value} {base : Heap} {a : At}
abbrev spStar (a : At) (C : Addr) : Sp := fun vs H Q E => ∃ v ws, vs = v :: ws ∧ ws.length ≤ sizeLine ∧ ∀ p, H p = none → sp_two_init a C [v, V.ref p] (upd H p (.tup ws)) Q E
theorem ex_made {H : Hp} {x dx C : Addr} (hx : H x = none) (hd : H dx = none) (ne : dx ≠ x) : Ex H (upd (upd H dx (.own x)) x (.ins C dx [])) :=
  (Ex.new hd).trans (Ex.new (by rw [upd_ne (Ne.symm ne)]; exact hx))
theorem two_made {C : Addr} {H : Hp} {xs : List V} {ts : List TM.Tree} {Q : VK} {E : XK} (hl : xs.length = ts.length) (h2 : 2 ≤ xs.length) (h8 : xs.length ≤ 1000) (ht : ∀ (i : Nat) (y : V) (t : TM.Tree), xs[i]? = some y → ts[i]? = some t → TM.TmAt (csOf a) H y t)
    (q : ∀ x dx p H', Ex H H' → H x = none → H' x = some (.ins C dx [("own_depth", .int ((TM.Tree.depthAll ts + 1 : Nat) : Int)), ("own_parts", .ref p)]) → H' p = some (.tup xs) → Q (.ref x) H') :
    ∀ x dx, H x = none → H dx = none → dx ≠ x → spStar a C (V.ref x :: xs) (upd (upd H dx (.own x)) x (.ins C dx [])) (fun v H2 => v = .non ∧ Q (.ref x) H2) E := by
  intro x dx hx hd ne
  have e1 := ex_made (C := C) hx hd ne
  refine ⟨.ref x, xs, rfl, sz_of (by omega), fun p hp => ?_⟩
  have nx : x ≠ p := fun z => by
    rw [← z, upd_same] at hp
    cases hp
  refine ⟨x, dx, p, xs, ts, rfl, (upd_ne nx).trans upd_same, upd_same, hl, h2, h8, fun i y t hy ht2 => (ht i y t hy ht2).up (e1.trans (Ex.new hp)), fun H' e' => ⟨rfl, ?_⟩⟩
  have e2 : Ex H H' := (e1.trans (Ex.new hp)).trans e'
  exact q x dx p _ (Ex.mut e2 hx) hx upd_same (by rw [upd_ne (Ne.symm nx)]; exact e' _ _ upd_same)
theorem lesser_made {H : Hp} {xs : List V} {ts : List TM.Tree} {Q : VK} {E : XK} (hl : xs.length = ts.length) (h2 : 2 ≤ xs.length) (h8 : xs.length ≤ 1000) (ht : ∀ (i : Nat) (y : V) (t : TM.Tree), xs[i]? = some y → ts[i]? = some t → TM.TmAt (csOf a) H y t)
    (q : ∀ v H', Ex H H' → TM.TmAt (csOf a) H' v (.lesser ts) → Q v H') :
    ∀ x dx, H x = none → H dx = none → dx ≠ x → spStar a a.k_Lesser (V.ref x :: xs) (upd (upd H dx (.own x)) x (.ins a.k_Lesser dx [])) (fun v H2 => v = .non ∧ Q (.ref x) H2) E :=
  two_made hl h2 h8 ht fun x dx p H' e hx h1 h2 => q _ _ e (.lesser (by rw [TM.Tree.depth]; exact h1) h2 hl fun i y t a b => (ht i y t a b).up e)
theorem greater_made {H : Hp} {xs : List V} {ts : List TM.Tree} {Q : VK} {E : XK} (hl : xs.length = ts.length) (h2 : 2 ≤ xs.length) (h8 : xs.length ≤ 1000) (ht : ∀ (i : Nat) (y : V) (t : TM.Tree), xs[i]? = some y → ts[i]? = some t → TM.TmAt (csOf a) H y t)
    (q : ∀ v H', Ex H H' → TM.TmAt (csOf a) H' v (.greater ts) → Q v H') :
    ∀ x dx, H x = none → H dx = none → dx ≠ x → spStar a a.k_Greater (V.ref x :: xs) (upd (upd H dx (.own x)) x (.ins a.k_Greater dx [])) (fun v H2 => v = .non ∧ Q (.ref x) H2) E :=
  two_made hl h2 h8 ht fun x dx p H' e hx h1 h2 => q _ _ e (.greater (by rw [TM.Tree.depth]; exact h1) h2 hl fun i y t a b => (ht i y t a b).up e)
/-- what is asked of the text beyond the facts: where a def's code lies -/
structure Files (P : Program) (K : PySem.W.Frag) (a : At) : Prop where
  place : ∀ (vs : Array Value) (cl : Value) (cd : Option Addr) (sl : Array (Option Value)) (tx : Str) (tf : Tok), K.lookup a.o_Place_init = some ⟨cl, cd, .fields vs, sl⟩ → vs[2]? = some (.str tx tf) → ((P.main.file : Str) == tx) = true
  endd : ∀ (vs : Array Value) (cl : Value) (cd : Option Addr) (sl : Array (Option Value)) (tx : Str) (tf : Tok), K.lookup a.o_End_init = some ⟨cl, cd, .fields vs, sl⟩ → vs[2]? = some (.str tx tf) → ((P.main.file : Str) == tx) = true
  lesser : ∀ (vs : Array Value) (cl : Value) (cd : Option Addr) (sl : Array (Option Value)) (tx : Str) (tf : Tok), K.lookup a.o_Lesser_init = some ⟨cl, cd, .fields vs, sl⟩ → vs[2]? = some (.str tx tf) → ((P.main.file : Str) == tx) = true
  greater : ∀ (vs : Array Value) (cl : Value) (cd : Option Addr) (sl : Array (Option Value)) (tx : Str) (tf : Tok), K.lookup a.o_Greater_init = some ⟨cl, cd, .fields vs, sl⟩ → vs[2]? = some (.str tx tf) → ((P.main.file : Str) == tx) = true
  top : (P.main.scope.names.lookup ("super" : Str)).isSome = false
  nk_place : noKinds K a.k_Place = true
  nk_end : noKinds K a.k_End = true
  nk_lesser : noKinds K a.k_Lesser = true
  nk_greater : noKinds K a.k_Greater = true
/-! ### self & other, self | other -/
def sp_Term_and (a : At) : Sp := fun vs H Q _ => ∃ v u t t2, vs = [v, u] ∧ TM.TmAt (csOf a) H v t ∧ TM.TmAt (csOf a) H u t2 ∧ ∀ x H', Ex H H' → TM.TmAt (csOf a) H' x (.lesser [t, t2]) → Q x H'
def sp_Term_or (a : At) : Sp := fun vs H Q _ => ∃ v u t t2, vs = [v, u] ∧ TM.TmAt (csOf a) H v t ∧ TM.TmAt (csOf a) H u t2 ∧ ∀ x H', Ex H H' → TM.TmAt (csOf a) H' x (.greater [t, t2]) → Q x H'
theorem two_at {H : Hp} {v u : V} {t t2 : TM.Tree} (h1 : TM.TmAt (csOf a) H v t) (h2 : TM.TmAt (csOf a) H u t2) : ∀ (i : Nat) (y : V) (z : TM.Tree), [v, u][i]? = some y → [t, t2][i]? = some z → TM.TmAt (csOf a) H y z
  | 0, _, _, a, b => by
    cases a
    cases b
    exact h1
  | 1, _, _, a, b => by
    cases a
    cases b
    exact h2
  | i + 2, _, _, a, _ => by simp at a
theorem fn_Term_and (T : Txt K mg a) (F : Files P K a) : Fn P w K mg base 7 a.m_Term_and (sp_Term_and a) := by
  obtain ⟨fd1, F1, b1⟩ := ok_want_term (P := P) (w := w) (mg := mg) (base := base) T
  have F2 := ok_Lesser_init (P := P) (w := w) (mg := mg) (base := base) T F.lesser F.top
  obtain ⟨fd, Fd⟩ := T.m_Term_and.F
  refine Fn.of Fd sc_Term_and (Fd.binds fun _ _ _ _ _ _ us hl => match us, hl with | [_, _], _ => rfl) (fun vs H Q E h => ?_) (fun cdv A outer s H vs Q E hg hr hcd h => ?_)
  · obtain ⟨_, _, _, _, rfl, _⟩ := h
    rfl
  · obtain ⟨v, u, t, t2, rfl, h1, h2, q⟩ := h
    refine ⟨_, pss_cons (ps_expr (pe_call F1 (hr.mono (by decide)) (by rfl) T.d_want_term.m T.d_want_term.kp b1 .nil pass0 (pa_cons (pv 1) pa_nil))) (pss_one (ps_ret (StX.pe_makeR T.mk_Lesser F2 hr (by rfl) T.g_Lesser.m passL (pa_cons (pv 0) (pa_cons (pv 1) pa_nil))))), ?_⟩
    exact ⟨u, rfl, u, t2, rfl, h2, v, rfl, u, rfl, lesser_made rfl (by simp) (by simp) (two_at h1 h2) q⟩
theorem fn_Term_or (T : Txt K mg a) (F : Files P K a) : Fn P w K mg base 7 a.m_Term_or (sp_Term_or a) := by
  obtain ⟨fd1, F1, b1⟩ := ok_want_term (P := P) (w := w) (mg := mg) (base := base) T
  have F2 := ok_Greater_init (P := P) (w := w) (mg := mg) (base := base) T F.greater F.top
  obtain ⟨fd, Fd⟩ := T.m_Term_or.F
  refine Fn.of Fd sc_Term_or (Fd.binds fun _ _ _ _ _ _ us hl => match us, hl with | [_, _], _ => rfl) (fun vs H Q E h => ?_) (fun cdv A outer s H vs Q E hg hr hcd h => ?_)
  · obtain ⟨_, _, _, _, rfl, _⟩ := h
    rfl
  · obtain ⟨v, u, t, t2, rfl, h1, h2, q⟩ := h
    refine ⟨_, pss_cons (ps_expr (pe_call F1 (hr.mono (by decide)) (by rfl) T.d_want_term.m T.d_want_term.kp b1 .nil pass0 (pa_cons (pv 1) pa_nil))) (pss_one (ps_ret (StX.pe_makeR T.mk_Greater F2 hr (by rfl) T.g_Greater.m passL (pa_cons (pv 0) (pa_cons (pv 1) pa_nil))))), ?_⟩
    exact ⟨u, rfl, u, t2, rfl, h2, v, rfl, u, rfl, greater_made rfl (by simp) (by simp) (two_at h1 h2) q⟩
end
end K16
namespace K16
open PySem PySem.Spec PyProof.Rows L2 LG Evl
/-! ### str, repr, ==, !=, &, | of terms -/
def IsT (a : At) (C : Addr) : Prop := C = a.k_Place ∨ C = a.k_End ∨ C = a.k_Lesser ∨ C = a.k_Greater
structure ClsT (K : PySem.W.Frag) (a : At) (C : Addr) : Prop where
  str : PySem.W.findIn K (.ref C) "__str__" = some (some (.ref a.m_Term_str))
  repr : PySem.W.findIn K (.ref C) "__repr__" = some (some (.ref a.m_Term_repr))
  eq : PySem.W.findIn K (.ref C) "__eq__" = some (some (.ref a.m_Term_eq))
  ne : PySem.W.findIn K (.ref C) "__ne__" = some (some (.builtin "object.__ne__"))
  obj : PySem.W.mroIn K C (.type "object") = some true
  nk : noKinds K C = true
  and_ : BinC K C a.m_Term_and "and"
  or_ : BinC K C a.m_Term_or "or"
  kit : PySem.W.kitOne K (.ref C) (.ref a.k_Term) = some true
section
variable {P : Program} {w : World} {K : PySem.W.Frag} {mg : Str → Option Value} {base : Heap} {a : At}
theorem kit_term {C : Addr} (T : Txt K mg a) (h : PySem.W.subIn K (.ref C) (.ref a.k_Term) = some true) : PySem.W.kitOne K (.ref C) (.ref a.k_Term) = some true := kit_of T.g_Term h T.x_Term_Term
theorem cls_of {C : Addr} (T : Txt K mg a) (F : Files P K a) (h : IsT a C) : ClsT K a C := by
  rcases h with rfl | rfl | rfl | rfl
  · exact ⟨T.f_Place_str, T.f_Place_repr, T.f_Place_eq, T.g_Place.ne, T.g_Place.hm, F.nk_place, ⟨T.first_Place, T.f_Place_and, T.rand_Place⟩, ⟨T.first_Place, T.f_Place_or, T.ror_Place⟩, kit_term T T.x_Place_Term⟩
  · exact ⟨T.f_End_str, T.f_End_repr, T.f_End_eq, T.g_End.ne, T.g_End.hm, F.nk_end, ⟨T.first_End, T.f_End_and, T.rand_End⟩, ⟨T.first_End, T.f_End_or, T.ror_End⟩, kit_term T T.x_End_Term⟩
  · exact ⟨T.f_Lesser_str, T.f_Lesser_repr, T.f_Lesser_eq, T.g_Lesser.ne, T.g_Lesser.hm, F.nk_lesser, ⟨T.first_Lesser, T.f_Lesser_and, T.rand_Lesser⟩, ⟨T.first_Lesser, T.f_Lesser_or, T.ror_Lesser⟩, kit_term T T.x_Lesser_Term⟩
  · exact ⟨T.f_Greater_str, T.f_Greater_repr, T.f_Greater_eq, T.g_Greater.ne, T.g_Greater.hm, F.nk_greater, ⟨T.first_Greater, T.f_Greater_and, T.rand_Greater⟩, ⟨T.first_Greater, T.f_Greater_or, T.ror_Greater⟩, kit_term T T.x_Greater_Term⟩
theorem cls_apart {C D : Addr} (T : Txt K mg a) (h : IsT a C) (h2 : IsT a D) : C = D ∨ PySem.W.subIn K (.ref D) (.ref C) = some false := by
  rcases h with rfl | rfl | rfl | rfl <;> rcases h2 with rfl | rfl | rfl | rfl
  · exact .inl rfl
  · exact .inr T.x_End_Place
  · exact .inr T.x_Lesser_Place
  · exact .inr T.x_Greater_Place
  · exact .inr T.x_Place_End
  · exact .inl rfl
  · exact .inr T.x_Lesser_End
  · exact .inr T.x_Greater_End
  · exact .inr T.x_Place_Lesser
  · exact .inr T.x_End_Lesser
  · exact .inl rfl
  · exact .inr T.x_Greater_Lesser
  · exact .inr T.x_Place_Greater
  · exact .inr T.x_End_Greater
  · exact .inr T.x_Lesser_Greater
  · exact .inl rfl
theorem tm_at {H : Hp} {v : V} {t : TM.Tree} (T : Txt K mg a) (h : TM.TmAt (csOf a) H v t) : ∃ x C dx fs, v = .ref x ∧ H x = some (.ins C dx fs) ∧ IsT a C ∧ TyX K H v (.ref C) := by
  cases h with
  | place h => exact ⟨_, _, _, _, rfl, h, .inl rfl, ty_ins T T.g_Place h⟩
  | endd h => exact ⟨_, _, _, _, rfl, h, .inr (.inl rfl), ty_ins T T.g_End h⟩
  | lesser h _ _ _ => exact ⟨_, _, _, _, rfl, h, .inr (.inr (.inl rfl)), ty_ins T T.g_Lesser h⟩
  | greater h _ _ _ => exact ⟨_, _, _, _, rfl, h, .inr (.inr (.inr rfl)), ty_ins T T.g_Greater h⟩
theorem tm_ref {H : Hp} {v : V} {t : TM.Tree} (h : TM.TmAt (csOf a) H v t) : ∃ c, v = .ref c := by cases h <;> exact ⟨_, rfl⟩
theorem kd_up {H H' : Hp} {v : V} {t : String} (e : Ex H H') (h : Kd H v t) : Kd H' v t := by
  cases h with
  | non => exact .non
  | int i => exact .int i
  | str x => exact .str x
  | lst h => exact .lst (e _ _ h)
  | tup h => exact .tup (e _ _ h)
  | dic h => exact .dic (e _ _ h)
theorem kd_not {H : Hp} {v : V} {t : String} {D : Addr} {nm : Str} (g : GCl K mg nm D) (h : Kd H v t) : PySem.W.kitOne K (.type t) (.ref D) = some false := by
  have s : PySem.W.subIn K (.type t) (.ref D) = some false := by cases h <;> rfl
  obtain ⟨cd, hc⟩ := Option.ne_none_iff_exists'.mp g.ki.1
  unfold PySem.W.kitOne
  rw [if_neg (by simp)]
  show (if ((PySem.W.clsIn K D).isSome && PySem.W.typeIn K (.ref D) == some (.type "type")) = true then PySem.W.subIn K (.type t) (.ref D) else none) = some false
  rw [if_pos (by rw [hc, g.ki.2]; rfl)]
  exact s
theorem kd_first {H : Hp} {v : V} {t : String} {C : Addr} (h : Kd H v t) : PySem.W.notFirst K C (.type t) = true := by
  have s : PySem.W.subIn K (.type t) (.ref C) = some false := by cases h <;> rfl
  unfold PySem.W.notFirst
  rw [s]
  simp
theorem is_first {C D : Addr} (T : Txt K mg a) (h : IsT a C) (h2 : IsT a D) : PySem.W.notFirst K C (.ref D) = true := by
  unfold PySem.W.notFirst
  rcases cls_apart T h h2 with rfl | z
  · simp
  · rw [z]
    simp
end
def rStrT (a : At) : List V → Hp → VK → Prop := fun xs H Q => ∃ v t, xs = [v] ∧ TM.TmAt (csOf a) H v t ∧ TM.Ok t ∧ t.depth ≤ 5 ∧ ∀ H', Ex H H' → Q (.str t.text) H'
def rReprT (a : At) : List V → Hp → VK → Prop := fun xs H Q => ∃ v t, xs = [v] ∧ TM.TmAt (csOf a) H v t ∧ TM.Ok t ∧ t.depth ≤ 5 ∧ ∀ H', Ex H H' → Q (.str t.repr) H'
/-- y is a term, or of a kind that is none -/
def Side (a : At) (H : Hp) (t : TM.Tree) (y : V) (Q : Bool → Hp → Prop) : Prop := (∃ t2, TM.TmAt (csOf a) H y t2 ∧ TM.Ok t2 ∧ t2.depth ≤ 5 ∧ ∀ H', Ex H H' → Q (decide (t.repr = t2.repr)) H') ∨ (∃ k, Kd H y k ∧ ∀ H', Ex H H' → Q false H')
def rEqT (a : At) : R2 := fun x y H Q => ∃ t, TM.TmAt (csOf a) H x t ∧ TM.Ok t ∧ t.depth ≤ 5 ∧ Side a H t y fun b H' => Q (.bl b) H'
def rNeT (a : At) : R2 := fun x y H Q => ∃ t, TM.TmAt (csOf a) H x t ∧ TM.Ok t ∧ t.depth ≤ 5 ∧ Side a H t y fun b H' => Q (.bl (!b)) H'
def rEqR (a : At) : R2 := fun x y H Q => ∃ t k, TM.TmAt (csOf a) H y t ∧ TM.Ok t ∧ t.depth ≤ 5 ∧ Kd H x k ∧ ∀ H', Ex H H' → Q (.bl false) H'
def rAndT (a : At) : R2 := fun x y H Q => ∃ t t2, TM.TmAt (csOf a) H x t ∧ TM.TmAt (csOf a) H y t2 ∧ ∀ v H', Ex H H' → TM.TmAt (csOf a) H' v (.lesser [t, t2]) → Q v H'
def rOrT (a : At) : R2 := fun x y H Q => ∃ t t2, TM.TmAt (csOf a) H x t ∧ TM.TmAt (csOf a) H y t2 ∧ ∀ v H', Ex H H' → TM.TmAt (csOf a) H' v (.greater [t, t2]) → Q v H'
section
variable {X : Cx} {a : At} {E : XK}
theorem call_str_tm (T : Txt X.K X.mg a) (F : Files X.prog X.K a) (g0 : X.A.guards = some []) (hr : Room 11 X.A) (hx : Passes (L2.CX X.prog X.w) X E) : CallR X (.type "str") (rStrT a) := by
  intro pins s σ H xs us Q I r h
  obtain ⟨v, t, rfl, ht, ok, hd, q⟩ := h
  obtain ⟨x, C, dx, fs, rfl, hH, hc, _⟩ := tm_at T ht
  exact call_strOwn (cls_of T F hc).str T.m_Term_str.fn (fn_Term_str T 6) g0 hr hx pins s σ H [.ref x] us Q I r ⟨x, dx, fs, rfl, hH, .ref x, t, rfl, ht, text_ok ok hd, by omega, fun H' e => ⟨_, rfl, q H' e⟩⟩
theorem call_repr_tm (T : Txt X.K X.mg a) (F : Files X.prog X.K a) (g0 : X.A.guards = some []) (hr : Room 10 X.A) (hx : Passes (L2.CX X.prog X.w) X E) : CallR X (.builtin "repr") (rReprT a) := by
  intro pins s σ H xs us Q I r h
  obtain ⟨v, t, rfl, ht, ok, hd, q⟩ := h
  obtain ⟨x, C, dx, fs, rfl, hH, hc, _⟩ := tm_at T ht
  exact call_reprOwn (cls_of T F hc).repr T.m_Term_repr.fn (fn_Term_repr T 6) g0 hr hx pins s σ H [.ref x] us Q I r ⟨x, dx, fs, rfl, hH, .ref x, t, rfl, ht, rep_ok ok hd, by omega, fun H' e => ⟨_, rfl, q H' e⟩⟩
theorem eq_side {H : Hp} {v y : V} {t : TM.Tree} {Q : Bool → Hp → Prop} {Q' : VK} (T : Txt X.K X.mg a) (ht : TM.TmAt (csOf a) H v t) (ok : TM.Ok t) (hd : t.depth ≤ 5) (h : Side a H t y Q) (k : ∀ b H', Q b H' → Q' (.bl b) H') : sp_Term_eq X.K a 6 [v, y] H Q' E := by
  refine ⟨v, y, t, rfl, ht, rep_ok ok hd, by omega, ?_⟩
  rcases h with ⟨t2, ht2, ok2, hd2, q⟩ | ⟨kn, kd, q⟩
  · exact .inl ⟨t2, ht2, rep_ok ok2 hd2, by omega, fun H' e => k _ _ (q H' e)⟩
  · exact .inr ⟨.type kn, fun H' e => (kd_up e kd).ty, kd_not T.g_Term kd, fun H' e => k _ _ (q H' e)⟩
theorem side_ty {H : Hp} {y : V} {t : TM.Tree} {Q : Bool → Hp → Prop} {C : Addr} (T : Txt X.K X.mg a) (hc : IsT a C) (h : Side a H t y Q) : ∃ tb, TyX X.K H y tb ∧ PySem.W.notFirst X.K C tb = true := by
  rcases h with ⟨t2, ht2, _, _, _⟩ | ⟨kn, kd, _⟩
  · obtain ⟨_, D, _, _, _, _, hd, ty⟩ := tm_at T ht2
    exact ⟨_, ty, is_first T hc hd⟩
  · exact ⟨_, kd.ty, kd_first kd⟩
theorem op_eq_tm (T : Txt X.K X.mg a) (F : Files X.prog X.K a) (g0 : X.A.guards = some []) (hr : Room 9 X.A) (hx : Passes (L2.CX X.prog X.w) X E) : OpR X (compareOp .Eq) (rEqT a) := by
  intro pins s σ H x y v u Q I rx ry h
  obtain ⟨t, ht, ok, hd, sd⟩ := h
  obtain ⟨x, C, dx, fs, rfl, hH, hc, _⟩ := tm_at T ht
  obtain ⟨tb, ty, nf⟩ := side_ty T hc sd
  exact op_eqOwn (cls_of T F hc).eq T.m_Term_eq.fn (fn_Term_eq T 6) g0 hr hx pins s σ H _ y v u Q I rx ry ⟨x, dx, fs, tb, rfl, hH, ty, nf, eq_side T ht ok hd sd fun b H' q => ⟨b, rfl, q⟩⟩
theorem op_ne_tm (T : Txt X.K X.mg a) (F : Files X.prog X.K a) (g0 : X.A.guards = some []) (hr : Room 10 X.A) (hx : Passes (L2.CX X.prog X.w) X E) : OpR X (compareOp .NotEq) (rNeT a) := by
  intro pins s σ H x y v u Q I rx ry h
  obtain ⟨t, ht, ok, hd, sd⟩ := h
  obtain ⟨x, C, dx, fs, rfl, hH, hc, _⟩ := tm_at T ht
  obtain ⟨tb, ty, nf⟩ := side_ty T hc sd
  exact op_neOwn (cls_of T F hc).obj (cls_of T F hc).ne (cls_of T F hc).eq T.m_Term_eq.fn (fn_Term_eq T 6) g0 hr hx pins s σ H _ y v u Q I rx ry ⟨x, dx, fs, tb, rfl, hH, ty, nf, eq_side T ht ok hd sd fun b H' q => ⟨b, rfl, q⟩⟩
theorem op_eq_right (T : Txt X.K X.mg a) (F : Files X.prog X.K a) (g0 : X.A.guards = some []) (hr : Room 9 X.A) (hx : Passes (L2.CX X.prog X.w) X E) : OpR X (compareOp .Eq) (rEqR a) := by
  intro pins s σ H x y v u Q I rx ry h
  obtain ⟨t, k, ht, ok, hd, kd, q⟩ := h
  obtain ⟨b, C, dx, fs, rfl, hH, hc, _⟩ := tm_at T ht
  exact op_eqRight (cls_of T F hc).eq T.m_Term_eq.fn (cls_of T F hc).nk (fn_Term_eq T 6) g0 hr hx pins s σ H x _ v u Q I rx ry ⟨b, dx, fs, k, rfl, hH, kd, eq_side (Q := fun b H' => Q (.bl b) H') T ht ok hd (.inr ⟨k, kd, q⟩) fun b H' q => ⟨b, rfl, q⟩⟩
theorem op_and_tm (T : Txt X.K X.mg a) (F : Files X.prog X.K a) (g0 : X.A.guards = some []) (hr : Room 7 X.A) (hx : Passes (L2.CX X.prog X.w) X E) : OpR X (binaryOp .BitAnd) (rAndT a) := by
  intro pins s σ H x y v u Q I rx ry h
  obtain ⟨t, t2, ht, ht2, q⟩ := h
  obtain ⟨x, C, dx, fs, rfl, hH, hc, _⟩ := tm_at T ht
  obtain ⟨y, D, dy, gs, rfl, hH2, hd, _⟩ := tm_at T ht2
  exact op_binOwn (op := .BitAnd) T.m_Term_and.fn (fn_Term_and T F) g0 hr hx pins s σ H _ _ v u Q I rx ry ⟨x, C, dx, fs, y, D, dy, gs, rfl, hH, rfl, hH2, (cls_of T F hc).and_, (cls_of T F hd).and_, cls_apart T hc hd, .ref x, .ref y, t, t2, rfl, ht, ht2, fun z H' e hz => let ⟨c, ec⟩ := tm_ref hz; ⟨c, ec, q z H' e hz⟩⟩
theorem op_or_tm (T : Txt X.K X.mg a) (F : Files X.prog X.K a) (g0 : X.A.guards = some []) (hr : Room 7 X.A) (hx : Passes (L2.CX X.prog X.w) X E) : OpR X (binaryOp .BitOr) (rOrT a) := by
  intro pins s σ H x y v u Q I rx ry h
  obtain ⟨t, t2, ht, ht2, q⟩ := h
  obtain ⟨x, C, dx, fs, rfl, hH, hc, _⟩ := tm_at T ht
  obtain ⟨y, D, dy, gs, rfl, hH2, hd, _⟩ := tm_at T ht2
  exact op_binOwn (op := .BitOr) T.m_Term_or.fn (fn_Term_or T F) g0 hr hx pins s σ H _ _ v u Q I rx ry ⟨x, C, dx, fs, y, D, dy, gs, rfl, hH, rfl, hH2, (cls_of T F hc).or_, (cls_of T F hd).or_, cls_apart T hc hd, .ref x, .ref y, t, t2, rfl, ht, ht2, fun z H' e hz => let ⟨c, ec⟩ := tm_ref hz; ⟨c, ec, q z H' e hz⟩⟩
end
end K16
/-! Comprehensions whose steps change the heap. -/
namespace LG
open PySem PySem.Spec PyProof.Rows L2 Evl
section
variable {K : PySem.W.Frag} {te : TE} {σ : L2.St} {H1 : Hp} {j : Nat} {Q : Addr → Hp → Prop}
/-- [e for j in range(m)], behind the range: W D i xs H: i turns are done, the new list at D holds xs -/
theorem lcR_inv {m : Int} (hm : 0 ≤ m ∧ m ≤ 40000) (hw : ∀ x, wipe ((wipe σ [j]).set j (some x)) [j] = wipe σ [j]) (W : Addr → Nat → List V → Hp → Prop) (h0 : ∀ D, H1 D = none → W D 0 [] (upd H1 D (.lst [])))
    (hs : ∀ D (i : Nat) xs H', H1 D = none → (i : Int) < m → xs.length = i → W D i xs H' → H' D = some (.lst xs) → ∀ Q' : VK, (∀ y H4, H4 D = some (.lst xs) → W D (i + 1) (xs ++ [y]) (upd H4 D (.lst (xs ++ [y]))) → Q' y H4) → te ((wipe σ [j]).set j (some (.int (i : Int)))) H' Q')
    (hd : ∀ D xs H', H1 D = none → (xs.length : Int) = m → W D xs.length xs H' → H' D = some (.lst xs) → Q D H') :
    ∀ D, H1 D = none → ∃ W : Nat → Nat → Hp → Prop, (∃ m, W 0 m (upd H1 D (.lst []))) ∧ ∀ i k H, W i k H →
      ((Itr 0 m.toNat).stop i H ∧ Q D H) ∨ ((Itr 0 m.toNat).go i H ∧ ∃ Nx : Hp → Prop, (∀ H', Nx H' → ∃ m', m' < k ∧ W (i + 1) m' H') ∧ ∀ x H', (Itr 0 m.toNat).yld i H x H' → gName j x (wipe σ [j]) H' fun σ2 H2 => wipe σ2 [j] = wipe σ [j] ∧ tYes σ2 H2 fun b H3 =>
        if b = true then te σ2 H3 fun y H4 => ∃ acc, H4 D = some (.lst acc) ∧ acc.length < sizeLine ∧ Nx (upd H4 D (.lst (acc ++ [y]))) else Nx H3) := fun D hD => by
  refine lc_range (lo := 0) (n := m.toNat) (g := gName j) (tt := tYes) (te := te) (vs := [j]) (σ := σ) (H1 := H1) (D := D) (Qd := fun H => Q D H) (fun i H' => ∃ xs, xs.length = i ∧ H' D = some (.lst xs) ∧ W D i xs H') ⟨[], rfl, upd_same, h0 D hD⟩ (fun i H' hi ⟨xs, hl, hx, w⟩ => ?_) (fun H' ⟨xs, hl, hx, w⟩ => ?_)
  · have e0 : (0 : Int) + (i : Int) = (i : Int) := Int.zero_add _
    show wipe ((wipe σ [j]).set j (some (.int ((0 : Int) + (i : Int))))) [j] = wipe σ [j] ∧ te ((wipe σ [j]).set j (some (.int ((0 : Int) + (i : Int))))) H' fun y H4 => ∃ acc, H4 D = some (.lst acc) ∧ acc.length < sizeLine ∧ ∃ xs, xs.length = i + 1 ∧ (upd H4 D (.lst (acc ++ [y]))) D = some (.lst xs) ∧ W D (i + 1) xs (upd H4 D (.lst (acc ++ [y])))
    rw [e0]
    exact ⟨hw _, hs D i xs H' hD (by omega) hl w hx _ fun y H4 h4 w4 => ⟨xs, h4, sz_lt (by omega), _, by rw [List.length_append, hl]; rfl, upd_same, w4⟩⟩
  · exact hd D xs H' hD (by omega) (by rw [hl]; exact w) hx
/-- [e for j in xs], behind the list's making -/
theorem lcL_inv {a : Addr} {ys : List V} (hy : SqL K H1 a ys) (hz : ys.length ≤ 40000) (hw : ∀ x, wipe ((wipe σ [j]).set j (some x)) [j] = wipe σ [j]) (W : Addr → Nat → List V → Hp → Prop) (h0 : ∀ D, H1 D = none → W D 0 [] (upd H1 D (.lst [])))
    (hl : ∀ D i xs H', H1 D = none → W D i xs H' → SqL K H' a ys)
    (hs : ∀ D (i : Nat) x xs H', H1 D = none → ys[i]? = some x → xs.length = i → W D i xs H' → H' D = some (.lst xs) → ∀ Q' : VK, (∀ y H4, H4 D = some (.lst xs) → W D (i + 1) (xs ++ [y]) (upd H4 D (.lst (xs ++ [y]))) → Q' y H4) → te ((wipe σ [j]).set j (some x)) H' Q')
    (hd : ∀ D xs H', H1 D = none → xs.length = ys.length → W D xs.length xs H' → H' D = some (.lst xs) → Q D H') :
    ∀ D, H1 D = none → ∃ W : Nat → Nat → Hp → Prop, (∃ m, W 0 m (upd H1 D (.lst []))) ∧ ∀ i k H, W i k H →
      ((Itl K a).stop i H ∧ Q D H) ∨ ((Itl K a).go i H ∧ ∃ Nx : Hp → Prop, (∀ H', Nx H' → ∃ m', m' < k ∧ W (i + 1) m' H') ∧ ∀ x H', (Itl K a).yld i H x H' → gName j x (wipe σ [j]) H' fun σ2 H2 => wipe σ2 [j] = wipe σ [j] ∧ tYes σ2 H2 fun b H3 =>
        if b = true then te σ2 H3 fun y H4 => ∃ acc, H4 D = some (.lst acc) ∧ acc.length < sizeLine ∧ Nx (upd H4 D (.lst (acc ++ [y]))) else Nx H3) := fun D hD => by
  refine lc_list (K := K) (a := a) (xs := ys) (g := gName j) (tt := tYes) (te := te) (vs := [j]) (σ := σ) (H1 := H1) (D := D) (Qd := fun H => Q D H) (fun i H' => ∃ xs, xs.length = i ∧ H' D = some (.lst xs) ∧ W D i xs H') ⟨[], rfl, upd_same, h0 D hD⟩ (fun i H' _ ⟨xs, _, _, w⟩ => hl D i xs H' hD w) (fun i x H' hi ⟨xs, hl2, hx, w⟩ => ?_) (fun H' ⟨xs, hl2, hx, w⟩ => ?_)
  · have hi2 : i < ys.length := (List.getElem?_eq_some_iff.mp hi).1
    show wipe ((wipe σ [j]).set j (some x)) [j] = wipe σ [j] ∧ te ((wipe σ [j]).set j (some x)) H' fun y H4 => ∃ acc, H4 D = some (.lst acc) ∧ acc.length < sizeLine ∧ ∃ xs, xs.length = i + 1 ∧ (upd H4 D (.lst (acc ++ [y]))) D = some (.lst xs) ∧ W D (i + 1) xs (upd H4 D (.lst (acc ++ [y])))
    exact ⟨hw _, hs D i x xs H' hD hi hl2 w hx _ fun y H4 h4 w4 => ⟨xs, h4, sz_lt (by omega), _, by rw [List.length_append, hl2]; rfl, upd_same, w4⟩⟩
  · exact hd D xs H' hD hl2 (by rw [hl2]; exact w) hx
end
section
variable {X : Cx} {K : PySem.W.Frag} {o e : Expr} {es : List Expr} {to : TE} {t : TA} {name : Str} {apos cpos pos : Pos} {T id : String} {r : V → List V → Hp → VK → Prop}
/-- pe_bm within a comprehension: the reading names K itself -/
theorem pe_bmK (hK : X.K = K) (pa : PlainAttrs T) (slot : Slot T name id) (hty : typeOf (.builtin id) = pure (.type "method_descriptor")) (hm : MtR X id r) (ho : PE X o to) (ha : PA X (e :: es) t)
    (hbase : attributeBase o name X.env (eval o X.env) = eval o X.env := by rfl)
    (hfew : ((backTo cpos (starEach (e :: es) X.env)).all (fun x => !x.1) && (backToKw cpos (keywordEach [] X.env)).all (fun x => x.1.isSome)
      && decide ((e :: es).length + ([] : List Keyword).length + (if ([] : List Keyword).isEmpty then 0 else 1) < 30)) = true := by rfl)
    (hline : (apos.endLine == cpos.line) = true := by rfl) (hs : starEach (e :: es) X.env = (false, eval e X.env) :: starEach es X.env := by rfl) (hplain : (backTo cpos (starEach es X.env)).any (·.1) = false := by rfl) :
    PE X (.Call (.Attribute o name apos) (e :: es) [] cpos) (tBM K T r to t) := by
  subst hK
  exact pe_bm pa slot hty hm ho ha hbase hfew hline hs hplain
theorem cr_lenK (hK : X.K = K) : CallR X (.builtin "len") (rLenS K) := by
  subst hK
  exact call_len_seq
end
section
variable {σ : L2.St} {H : Hp} {ta tb : TE} {x y : V}
theorem et_eqT (ha : Ev ta σ H x) (hb : Ev tb σ H y) (hs : scal x y = true) (e : x = y) : EvT (tTest (tOp rEq ta tb)) σ H true := et_is (et_test (ev_op ha hb (rv_eq hs))) (decide_eq_true e)
theorem et_eqF (ha : Ev ta σ H x) (hb : Ev tb σ H y) (hs : scal x y = true) (e : x ≠ y) : EvT (tTest (tOp rEq ta tb)) σ H false := et_is (et_test (ev_op ha hb (rv_eq hs))) (decide_eq_false e)
theorem str_ne {x y : Str} (h : x ≠ y) : V.str x ≠ V.str y := fun z => h (V.str.inj z)
end
end LG
namespace K16
open PySem PySem.Spec PyProof.Rows L2 LG Evl
section
variable {P : Program} {w : World} {K : PySem.W.Frag} {mg : Str → Option Value} {base : Heap} {a : At}
/-! ### the law's places -/
def Nm (v : V) : Prop := ∃ n ∈ TM.names, v = .str n
theorem seq_ix {i : Nat} {n : Nat} (h : i < n) : seqIndex? (i : Int) n = some i := by
  have h0 : ¬ ((i : Int) < 0) := by omega
  have h1 : (i : Int) < (n : Int) := by omega
  unfold seqIndex?
  simp [h0, h1, h]
theorem mt_popR {X : Cx} : MtR X "list.pop" rPopAt := mt_popAt
def sp__law_places : Sp := fun vs H Q _ => ∃ (p : Addr), vs = [.ref p] ∧ Po p H ∧ ∀ (l : Addr) (xs : List V) (H' : Hp), H l = none → H' l = some (.lst xs) → 0 < xs.length → xs.length ≤ 5 → (∀ x ∈ xs, Nm x) → Px p H H' → Q (.ref l) H'
theorem ok__law_places (T : Txt K mg a) : Fn P w K mg base 2 a._law_places sp__law_places := by
  have G__law_draw : Fn P w K mg base 1 a._law_draw sp__law_draw := ok__law_draw T
  refine T.d__law_places.fn sc__law_places (fun _ _ _ _ _ _ us hl => match us, hl with | [_], _ => rfl) (fun vs H Q E h => ?_) (fun cdv A outer s H vs Q E hg hr h => ?_)
  · obtain ⟨_, rfl, _⟩ := h
    rfl
  · obtain ⟨p, rfl, hp, q⟩ := h
    have nd := sc__law_places.nd
    refine ⟨_, (pss_cons (ps_set (i := 1) nd rfl (.inr rfl) (pe_lst (pa_cons pe_str (pa_cons pe_str (pa_cons pe_str (pa_cons pe_str (pa_cons pe_str (pa_cons pe_str (pa_cons pe_str (pa_cons pe_str pa_nil))))))))))
    (pss_one (ps_ret (pe_lc rfl (own := [("turn", 2)]) (g := gName 2) (by exact nd) (pi_range1 (by rfl) T.z_range (pa_cons (pe_op op_add pe_int (pe_fn G__law_draw hg (hr.mono (by decide)) T.d__law_draw.kp T.d__law_draw.m (by rfl) passL (pa_cons (pv 0) (pa_cons pe_int pa_nil)))) pa_nil)) (blkOk_by (own := [("turn", 2)]) (N := ["pot", "left", "turn"]) (sc := defScope s__law_places) (by decide +kernel)) (fun _ _ _ _ _ => (pg_name (i := 2) nd rfl (.inl rfl))) (fun _ _ _ _ _ => pts_nil) (fun _ _ _ _ _ => (pe_bmK (K := K) rfl PySem.F.plainAttrs_list PySem.F.slot_list_pop PySem.F.type_list_pop mt_popR (pv 1) (pa_cons (pe_fn G__law_draw hg (hr.mono (by decide)) T.d__law_draw.kp T.d__law_draw.m (by rfl) passL (pa_cons (pv 0) (pa_cons (pe_callB (cr_lenK (K := K) rfl) (by rfl) T.z_len (by decide +kernel) (pa_cons (pv 1) pa_nil)) pa_nil))) pa_nil))))))), ?_⟩
    refine ⟨(by decide : 8 ≤ sizeLine), fun l hl => ?_⟩
    have lp : l ≠ p := hp.ne hl
    refine ⟨.ref p, rfl, p, 5, rfl, hp.up (Ex.new hl), by decide, by decide, fun d H2 d0 d1 x2 => ?_⟩
    refine ⟨1, d, rfl, rfl, 1 + d, rfl, by omega, by omega, ?_⟩
    refine lcR_inv (by omega) (fun _ => rfl) (fun D i acc H' => (∀ b o, b ≠ p → b ≠ l → b ≠ D → H2 b = some o → H' b = some o) ∧ Po p H' ∧ (∃ ys, H' l = some (.lst ys) ∧ ys.length + i = 8 ∧ ∀ y ∈ ys, Nm y) ∧ ∀ y ∈ acc, Nm y) ?_ ?_ ?_
    · intro D hD
      refine ⟨fun b o _ _ bd e => by rw [upd_ne bd]; exact e, x2.2.up (Ex.new hD), ⟨placesV, ?_, rfl, ?_⟩, fun y hy => nomatch hy⟩
      · have e := x2.1 l _ lp upd_same
        rw [upd_ne (ne_of_none e hD)]
        exact e
      · intro y hy
        simp only [placesV, List.mem_cons, List.not_mem_nil, or_false] at hy
        rcases hy with rfl | rfl | rfl | rfl | rfl | rfl | rfl | rfl <;> exact ⟨_, by decide, rfl⟩
    · rintro D i acc H' hD hi hlen ⟨f, hp', ⟨ys, hy, hyl, hyn⟩, han⟩ hx Q' k
      have e2 := x2.1 l _ lp upd_same
      have Dl : l ≠ D := ne_of_none e2 hD
      have Dp : D ≠ p := x2.ne hD
      refine ⟨.ref l, rfl, .inl ⟨rfl, _, sq_of hy⟩, .ref p, rfl, .ref l, rfl, l, ys, rfl, .inl (sq_of hy), p, ys.length, rfl, hp', by omega, by omega, fun d H4 d0 d1 x4 => ?_⟩
      obtain ⟨m, rfl⟩ := Int.eq_ofNat_of_zero_le d0
      have hm : m < ys.length := by omega
      have hy4 := x4.1 l _ lp hy
      have hx4 := x4.1 D _ Dp hx
      refine ⟨l, ys, m, m, ys[m], rfl, rfl, hy4, by omega, by omega, seq_ix hm, List.getElem?_eq_getElem hm, k _ _ (by rw [upd_ne (Ne.symm Dl)]; exact hx4) ⟨fun b o bp bl bd e => ?_, ?_, ⟨ys.eraseIdx m, ?_, ?_, ?_⟩, ?_⟩⟩
      · rw [upd_ne bd, upd_ne bl]
        exact x4.1 b o bp (f b o bp bl bd e)
      · obtain ⟨x, y, h1, h2⟩ := x4.2
        exact ⟨x, y, by rw [upd_ne (Ne.symm Dp), upd_ne (Ne.symm lp)]; exact h1, h2⟩
      · rw [upd_ne Dl, upd_same]
      · rw [List.length_eraseIdx_of_lt hm]
        omega
      · exact fun y hy => hyn y (List.mem_of_mem_eraseIdx hy)
      · intro y hy
        rcases List.mem_append.mp hy with hy | hy
        · exact han y hy
        · rw [List.mem_singleton.mp hy]
          exact hyn _ (List.getElem_mem hm)
    · rintro D xs H' hD hlen ⟨f, hp', _, hn⟩ hx
      have e2 := x2.1 l _ lp upd_same
      have Dl : l ≠ D := ne_of_none e2 hD
      have h1 := x2.fresh hD
      rw [upd_ne (Ne.symm Dl)] at h1
      exact q D xs H' h1 hx (by omega) (by omega) hn ⟨fun b o bp e => f b o bp (ne_of_none e hl) (ne_of_none e h1) (x2.1 b o bp (Ex.new hl b o e)), hp'⟩
end
end K16
/-! The places of a term, as often as they stand in it; its value at values of its places. -/
namespace TM
open PySem PySem.Spec PyProof.Rows L2 LG Evl
mutual
def Tree.places : Tree → List Str
  | .place n => [n]
  | .endd _ => []
  | .lesser ts => Tree.placesAll ts
  | .greater ts => Tree.placesAll ts
def Tree.placesAll : List Tree → List Str
  | [] => []
  | t :: ts => t.places ++ Tree.placesAll ts
end
theorem mem_placesAll {n : Str} : ∀ {ts : List Tree}, n ∈ Tree.placesAll ts ↔ ∃ t ∈ ts, n ∈ t.places
  | [] => by simp [Tree.placesAll]
  | t :: ts => by
    rw [Tree.placesAll, List.mem_append, mem_placesAll]
    simp
theorem Ok.names {t : Tree} (h : Ok t) : ∀ n ∈ t.places, n ∈ names := by
  induction h with
  | place h =>
    intro n hn
    rw [Tree.places, List.mem_singleton] at hn
    exact hn ▸ h
  | endd h =>
    intro n hn
    rw [Tree.places] at hn
    exact absurd hn List.not_mem_nil
  | lesser _ _ ih =>
    intro n hn
    rw [Tree.places] at hn
    obtain ⟨t, ht, hn⟩ := mem_placesAll.mp hn
    exact ih t ht n hn
  | greater _ _ ih =>
    intro n hn
    rw [Tree.places] at hn
    obtain ⟨t, ht, hn⟩ := mem_placesAll.mp hn
    exact ih t ht n hn
/-- how many places there are at most -/
theorem places_len : ∀ (d : Nat) (t : Tree), Ok t → t.depth ≤ d → t.places.length ≤ 8 ^ d
  | d, .place n, _, _ => by
    rw [Tree.places]
    exact Nat.one_le_pow _ _ (by decide)
  | d, .endd e, _, _ => by
    rw [Tree.places]
    exact Nat.zero_le _
  | 0, .lesser ts, _, hd => by
    rw [Tree.depth] at hd
    omega
  | 0, .greater ts, _, hd => by
    rw [Tree.depth] at hd
    omega
  | d + 1, .lesser ts, ok, hd => by
    cases ok with
    | lesser hl h =>
      rw [Tree.depth] at hd
      rw [Tree.places, Nat.pow_succ]
      have all : ∀ us : List Tree, (∀ t ∈ us, t ∈ ts) → (Tree.placesAll us).length ≤ 8 ^ d * us.length := fun us hu => by
        induction us with
        | nil => exact Nat.zero_le _
        | cons u us ih =>
          have h1 := places_len d u (h u (hu u List.mem_cons_self)) (Nat.le_trans (depth_mem (hu u List.mem_cons_self)) (by omega))
          have h2 := ih fun t ht => hu t (List.mem_cons_of_mem _ ht)
          rw [Tree.placesAll, List.length_append, List.length_cons, Nat.mul_succ]
          omega
      exact Nat.le_trans (all ts fun _ h => h) (Nat.mul_le_mul_left _ hl.eight)
  | d + 1, .greater ts, ok, hd => by
    cases ok with
    | greater hl h =>
      rw [Tree.depth] at hd
      rw [Tree.places, Nat.pow_succ]
      have all : ∀ us : List Tree, (∀ t ∈ us, t ∈ ts) → (Tree.placesAll us).length ≤ 8 ^ d * us.length := fun us hu => by
        induction us with
        | nil => exact Nat.zero_le _
        | cons u us ih =>
          have h1 := places_len d u (h u (hu u List.mem_cons_self)) (Nat.le_trans (depth_mem (hu u List.mem_cons_self)) (by omega))
          have h2 := ih fun t ht => hu t (List.mem_cons_of_mem _ ht)
          rw [Tree.placesAll, List.length_append, List.length_cons, Nat.mul_succ]
          omega
      exact Nat.le_trans (all ts fun _ h => h) (Nat.mul_le_mul_left _ hl.eight)
def Pl (xs : List V) (t : Tree) : Prop := ∀ n ∈ t.places, V.str n ∈ xs
end TM
namespace K16
open PySem PySem.Spec PyProof.Rows L2 LG Evl
/-! ### the law's terms, drawn -/
/-- i parts are made; they stand at new places -/
structure WT (p : Addr) (H0 : Hp) (M : TM.Tree → Prop) (D : Addr) (i : Nat) (acc : List V) (H' : Hp) : Prop where
  fr : ∀ b o, b ≠ p → b ≠ D → H0 b = some o → H' b = some o
  po : Po p H'
  ex : ∃ ts : List TM.Tree, ts.length = acc.length ∧ (∀ t ∈ ts, TM.Ok t ∧ M t) ∧ ∀ (k : Nat) (x : V) (t : TM.Tree), acc[k]? = some x → ts[k]? = some t → TM.MdAt (fun b => H0 b = none ∧ b ≠ D) H' x t
theorem depthAll_le {m : Nat} : ∀ {ts : List TM.Tree}, (∀ t ∈ ts, t.depth ≤ m) → TM.Tree.depthAll ts ≤ m
  | [], _ => Nat.zero_le _
  | t :: ts, h => by
    rw [TM.Tree.depthAll]
    exact Nat.max_le.mpr ⟨h t List.mem_cons_self, depthAll_le fun u hu => h u (List.mem_cons_of_mem _ hu)⟩
theorem Po.at {p : Addr} {H : Hp} (h : Po p H) : H p ≠ none := by
  obtain ⟨x, y, h1, _⟩ := h
  rw [h1]
  exact fun z => by cases z
theorem wt_start {p : Addr} {H0 : Hp} {M : TM.Tree → Prop} {D : Addr} (hp : Po p H0) (hD : H0 D = none) : WT p H0 M D 0 [] (upd H0 D (.lst [])) :=
  ⟨fun b o _ bd e => by rw [upd_ne bd]; exact e, hp.up (Ex.new hD), ([] : List TM.Tree), rfl, ⟨fun t ht => absurd ht List.not_mem_nil, fun k x t h _ => by simp at h⟩⟩
theorem get_snoc {α : Type} {xs : List α} {x y : α} {k : Nat} (h : (xs ++ [y])[k]? = some x) : xs[k]? = some x ∨ (k = xs.length ∧ x = y) := by
  rcases Nat.lt_trichotomy k xs.length with z | z | z
  · rw [List.getElem?_append_left z] at h
    exact .inl h
  · subst z
    rw [List.getElem?_append_right (Nat.le_refl _), Nat.sub_self] at h
    simp at h
    exact .inr ⟨rfl, h.symm⟩
  · rw [List.getElem?_append_right (Nat.le_of_lt z)] at h
    obtain ⟨j, hj⟩ : ∃ j, k - xs.length = j + 1 := ⟨k - xs.length - 1, by omega⟩
    rw [hj] at h
    simp at h
theorem wt_step {p : Addr} {H0 H' H4 : Hp} {M : TM.Tree → Prop} {i : Nat} {D : Addr} {acc : List V} {y : V} {t : TM.Tree} (hp0 : Po p H0) (w : WT p H0 M D i acc H') (hD : H0 D = none) (hx : H' D = some (.lst acc)) (x4 : Px p H' H4) (ht : TM.MdAt (fun b => H' b = none) H4 y t) (ok : TM.Ok t) (hd : M t) :
    WT p H0 M D (i + 1) (acc ++ [y]) (upd H4 D (.lst (acc ++ [y]))) := by
  obtain ⟨fr, po, ts, hl, hok, hat⟩ := w
  have Dp : D ≠ p := hp0.ne hD
  refine ⟨fun b o bp bd e => by rw [upd_ne bd]; exact x4.1 b o bp (fr b o bp bd e), ?_, ts ++ [t], by simp [hl], fun u hu => ?_, fun k x u h1 h2 => ?_⟩
  · obtain ⟨x, y', h1, h2⟩ := x4.2
    exact ⟨x, y', by rw [upd_ne (Ne.symm Dp)]; exact h1, h2⟩
  · rcases List.mem_append.mp hu with hu | hu
    · exact hok u hu
    · rw [List.mem_singleton.mp hu]
      exact ⟨ok, hd⟩
  · rcases get_snoc h1 with z1 | ⟨k1, rfl⟩ <;> rcases get_snoc h2 with z2 | ⟨k2, rfl⟩
    · refine (hat k x u z1 z2).up (fun b s => s) fun b o s e => ?_
      rw [upd_ne s.2]
      exact x4.1 b o (fun z => hp0.at (z ▸ s.1)) e
    · have := (List.getElem?_eq_some_iff.mp z1).1
      omega
    · have := (List.getElem?_eq_some_iff.mp z2).1
      omega
    · refine ht.up (fun b s => ?_) fun b o s e => ?_
      · have bd : b ≠ D := fun z => by rw [z, hx] at s; cases s
        refine ⟨?_, bd⟩
        cases e : H0 b with
        | none => rfl
        | some o =>
          by_cases bp : b = p
          · exact absurd (bp ▸ s) po.at
          · rw [fr b o bp bd e] at s
            cases s
      · have bd : b ≠ D := fun z => by rw [z, hx] at s; cases s
        rw [upd_ne bd]
        exact e
theorem wt_px {p : Addr} {H0 H' : Hp} {M : TM.Tree → Prop} {i : Nat} {D : Addr} {acc : List V} (w : WT p H0 M D i acc H') (hD : H0 D = none) : Px p H0 H' := ⟨fun b o bp e => w.fr b o bp (fun z => by rw [z, hD] at e; cases e) e, w.po⟩
def Words (x : V) : Prop := x = .str "lesser" ∨ x = .str "greater"
theorem wt_done {p q : Addr} {H0 H' : Hp} {m : Nat} {zs : List V} {D : Addr} {xs : List V} {word : V} (hp0 : Po p H0) (hw : Words word) (w : WT p H0 (fun t => t.depth ≤ m ∧ TM.Pl zs t) D xs.length xs H') (hD : H0 D = none) (hx : H' D = some (.lst xs)) (hl8 : TM.Ln xs.length) (hq : H' q = none) :
    ∃ t, TM.Ok t ∧ t.depth ≤ m + 1 ∧ TM.Pl zs t ∧ TM.MdAt (fun b => H0 b = none) (upd H' q (.tup [word, .ref D])) (.ref q) t := by
  have px := wt_px w hD
  obtain ⟨fr, po, ts, hl, hok, hat⟩ := w
  have qD : D ≠ q := ne_of_none hx hq
  have sq := px.fresh hq
  have at2 : ∀ (k : Nat) (x : V) (t : TM.Tree), xs[k]? = some x → ts[k]? = some t → TM.MdAt (fun b => H0 b = none) (upd H' q (.tup [word, .ref D])) x t := fun k x t h1 h2 => (hat k x t h1 h2).up (fun b s => s.1) fun b o s e => by
    rw [upd_ne (ne_of_none e hq)]
    exact e
  have hdp : TM.Tree.depthAll ts ≤ m := depthAll_le fun t ht => (hok t ht).2.1
  have hpl : ∀ n ∈ TM.Tree.placesAll ts, V.str n ∈ zs := fun n hn => by
    obtain ⟨t, ht, hn⟩ := TM.mem_placesAll.mp hn
    exact (hok t ht).2.2 n hn
  rcases hw with rfl | rfl
  · exact ⟨.lesser ts, .lesser (hl ▸ hl8) fun t ht => (hok t ht).1, by rw [TM.Tree.depth]; omega, hpl, .lesser sq upd_same hD (by rw [upd_ne qD]; exact hx) hl.symm at2⟩
  · exact ⟨.greater ts, .greater (hl ▸ hl8) fun t ht => (hok t ht).1, by rw [TM.Tree.depth]; omega, hpl, .greater sq upd_same hD (by rw [upd_ne qD]; exact hx) hl.symm at2⟩
section
variable {P : Program} {w : World} {K : PySem.W.Frag} {mg : Str → Option Value} {base : Heap} {a : At}
def sp__law_term (n : Nat) : Sp := fun vs H Q _ => ∃ (p l : Addr) (xs : List V) (d : Nat) (di : Int), vs = [.ref p, .ref l, .int di] ∧ di = (d : Int) ∧ d < n ∧ Po p H ∧ H l = some (.lst xs) ∧ l ≠ p ∧ 0 < xs.length ∧ xs.length ≤ 5 ∧ (∀ x ∈ xs, Nm x) ∧
  ∀ v t H', TM.Ok t → t.depth ≤ d → TM.Pl xs t → TM.MdAt (fun b => H b = none) H' v t → Px p H H' → Q v H'
theorem ok__law_term (T : Txt K mg a) : ∀ n, Fn P w K mg base (n + 2) a._law_term (sp__law_term n) := by
  intro n
  induction n with
  | zero =>
    refine T.d__law_term.fn sc__law_term (fun _ _ _ _ _ _ us hl => match us, hl with | [_, _, _], _ => rfl) (fun vs H Q E h => ?_) (fun cdv A outer s H vs Q E hg hr h => ?_)
    · obtain ⟨_, _, _, _, _, rfl, _⟩ := h
      rfl
    · obtain ⟨_, _, _, _, _, _, _, hd, _⟩ := h
      exact absurd hd (Nat.not_lt_zero _)
  | succ n ih =>
    have G__law_draw : Fn P w K mg base 1 a._law_draw sp__law_draw := ok__law_draw T
    have G__law_pick : Fn P w K mg base 2 a._law_pick sp__law_pick := ok__law_pick T
    have G__law_term := ih
    refine T.d__law_term.fn sc__law_term (fun _ _ _ _ _ _ us hl => match us, hl with | [_, _, _], _ => rfl) (fun vs H Q E h => ?_) (fun cdv A outer s H vs Q E hg hr h => ?_)
    · obtain ⟨_, _, _, _, _, rfl, _⟩ := h
      rfl
    · obtain ⟨p, l, xs, d, di, rfl, rfl, hd, hp, hl, lp, h0, h5, hn, q⟩ := h
      have nd := sc__law_term.nd
      refine ⟨_, (pss_cons (ps_set (i := 3) nd rfl (.inl rfl) (pe_fn G__law_draw hg (hr.mono (by omega)) T.d__law_draw.kp T.d__law_draw.m (by rfl) passL (pa_cons (pv 0) (pa_cons pe_int pa_nil))))
    (pss_cons (ps_if (PW.pt (pw_or (pt_cmpR op_eq (pv 2) pe_int (nomark _)) (pw_or1 (pt_cmpR op_lt (pv 3) pe_int (nomark _))))) (pss_cons (ps_if (pt_cmpR op_eq (pe_fn G__law_draw hg (hr.mono (by omega)) T.d__law_draw.kp T.d__law_draw.m (by rfl) passL (pa_cons (pv 0) (pa_cons pe_int pa_nil))) pe_int (nomark _)) (pss_one (ps_ret (pe_tup (pa_cons pe_str (pa_cons (pe_fn G__law_pick hg (hr.mono (by omega)) T.d__law_pick.kp T.d__law_pick.m (by rfl) passL (pa_cons (pv 0) (pa_cons (pe_lst (pa_cons pe_str (pa_cons pe_str pa_nil))) pa_nil))) pa_nil))))) pss_nil)
      (pss_one (ps_ret (pe_tup (pa_cons pe_str (pa_cons (pe_fn G__law_pick hg (hr.mono (by omega)) T.d__law_pick.kp T.d__law_pick.m (by rfl) passL (pa_cons (pv 0) (pa_cons (pv 1) pa_nil))) pa_nil)))))) pss_nil)
    (pss_cons (ps_set (i := 4) nd rfl (.inl rfl) (pe_fn G__law_pick hg (hr.mono (by omega)) T.d__law_pick.kp T.d__law_pick.m (by rfl) passL (pa_cons (pv 0) (pa_cons (pe_lst (pa_cons pe_str (pa_cons pe_str pa_nil))) pa_nil))))
    (pss_cons (ps_if (pt_cmpR op_eq (pv 3) pe_int (nomark _)) (pss_one (ps_ret (pe_tup (pa_cons (pv 4) (pa_cons (pe_lc rfl (own := [("turn", 5)]) (g := gName 5) (by exact nd) (pi_range1 (by rfl) T.z_range (pa_cons pe_int pa_nil)) (blkOk_by (own := [("turn", 5)]) (N := ["pot", "places", "deep", "way", "word", "turn"]) (sc := defScope s__law_term) (by decide +kernel)) (fun _ _ _ _ _ => (pg_name (i := 5) nd rfl (.inl rfl))) (fun _ _ _ _ _ => pts_nil) (fun _ _ _ _ _ => (pe_tup (pa_cons pe_str (pa_cons (pe_fn G__law_pick hg (hr.mono (by omega)) T.d__law_pick.kp T.d__law_pick.m (by rfl) passL (pa_cons (pv 0) (pa_cons (pv 1) pa_nil))) pa_nil))))) pa_nil))))) pss_nil)
    (pss_one (ps_ret (pe_tup (pa_cons (pv 4) (pa_cons (pe_lc rfl (own := [("turn", 5)]) (g := gName 5) (by exact nd) (pi_range1 (by rfl) T.z_range (pa_cons (pe_fn G__law_pick hg (hr.mono (by omega)) T.d__law_pick.kp T.d__law_pick.m (by rfl) passL (pa_cons (pv 0) (pa_cons (pe_lst (pa_cons pe_int (pa_cons pe_int (pa_cons pe_int (pa_cons pe_int pa_nil))))) pa_nil))) pa_nil)) (blkOk_by (own := [("turn", 5)]) (N := ["pot", "places", "deep", "way", "word", "turn"]) (sc := defScope s__law_term) (by decide +kernel)) (fun _ _ _ _ _ => (pg_name (i := 5) nd rfl (.inl rfl))) (fun _ _ _ _ _ => pts_nil) (fun _ _ _ _ _ => (pe_fn G__law_term hg (hr.mono (by omega)) T.d__law_term.kp T.d__law_term.m (by rfl) passL (pa_cons (pv 0) (pa_cons (pv 1) (pa_cons (pe_op op_sub (pv 2) pe_int) pa_nil)))))) pa_nil))))))))), ?_⟩
      refine ⟨.ref p, rfl, p, 9, rfl, hp, by decide, by decide, fun way H1 w0 w1 x1 => ?_⟩
      have l1 := x1.1 l _ lp hl
      refine q_when (b := decide (V.int (d : Int) = V.int 0) || decide (way < 2)) (et_or (et_test (ev_op (ev_var rfl) ev_c (rv_eq rfl))) fun _ => et_test (ev_op (ev_var rfl) ev_c rv_I0)) (fun _ H2 e2 => ?_) (fun hb H2 e2 => ?_)
      · have x2 := x1.ex e2
        refine ⟨.ref p, rfl, p, 6, rfl, x2.2, by decide, by decide, fun d2 H3 d20 d21 x3 => ⟨rfl, _, rfl, ?_⟩⟩
        have x03 := x2.trans x3
        by_cases c : V.int d2 = V.int 0
        · rw [decide_eq_true c]
          refine iteT ⟨.ref p, rfl, (by decide : 2 ≤ sizeLine), fun z hz => ⟨p, z, _, rfl, x03.2.up (Ex.new hz), upd_same, x03.ne hz, by decide, by decide, fun x hx H4 x4 => ⟨(by decide : 2 ≤ sizeLine), fun y hy => ?_⟩⟩⟩
          have x04 := (x03.ex (Ex.new hz)).trans x4
          have sy := x04.fresh hy
          have xf := x04.ex (Ex.new (o := .tup [.str "end", x]) hy)
          simp only [List.mem_cons, List.not_mem_nil, or_false] at hx
          rcases hx with rfl | rfl
          · exact q (.ref y) (.endd "bottom") _ (.endd (by decide)) (Nat.zero_le _) (fun n hn => absurd hn List.not_mem_nil) (.endd sy upd_same) xf
          · exact q (.ref y) (.endd "top") _ (.endd (by decide)) (Nat.zero_le _) (fun n hn => absurd hn List.not_mem_nil) (.endd sy upd_same) xf
        · rw [decide_eq_false c]
          refine iteF ⟨.ref p, rfl, .ref l, rfl, p, l, xs, rfl, x03.2, x03.1 l _ lp hl, lp, h0, by omega, fun x hx H4 x4 => ⟨(by decide : 2 ≤ sizeLine), fun y hy => ?_⟩⟩
          have x04 := x03.trans x4
          have sy := x04.fresh hy
          have xf := x04.ex (Ex.new (o := .tup [.str "place", x]) hy)
          obtain ⟨nm, hnm, rfl⟩ := hn x hx
          exact q (.ref y) (.place nm) _ (.place hnm) (Nat.zero_le _) (fun n hn => by rw [TM.Tree.places, List.mem_singleton] at hn; exact hn ▸ hx) (.place sy upd_same) xf
      · have x2 := x1.ex e2
        have dn : d ≠ 0 := fun z => by
          subst z
          simp at hb
        obtain ⟨d, rfl⟩ : ∃ e, d = e + 1 := ⟨d - 1, by omega⟩
        refine ⟨.ref p, rfl, (by decide : 2 ≤ sizeLine), fun z hz => ⟨p, z, _, rfl, x2.2.up (Ex.new hz), upd_same, x2.ne hz, by decide, by decide, fun word hw H3 x3 => ?_⟩⟩
        have x03 := (x2.ex (Ex.new hz)).trans x3
        have ww : Words word := by
          simp only [List.mem_cons, List.not_mem_nil, or_false] at hw
          exact hw
        clear hw
        have l3 := x03.1 l _ lp hl
        have fin : ∀ (H4 : Hp) (D : Addr) (acc : List V) (H' : Hp), Px p H H4 → H4 D = none → WT p H4 (fun t => t.depth ≤ d ∧ TM.Pl xs t) D acc.length acc H' → H' D = some (.lst acc) → TM.Ln acc.length → 2 ≤ sizeLine ∧ ∀ y, H' y = none → Q (.ref y) (upd H' y (.tup [word, .ref D])) := fun H4 D acc H' x4 hD w hx a8 => by
          refine ⟨(by decide : 2 ≤ sizeLine), fun y hy => ?_⟩
          obtain ⟨t, ok, hdp, hpl, hat⟩ := wt_done x4.2 ww w hD hx a8 hy
          exact q (.ref y) t _ ok hdp hpl (hat.up (fun b s => x4.fresh s) fun b o _ e => e) ((x4.trans (wt_px w hD)).ex (Ex.new hy))
        refine q_when (b := decide (V.int way = V.int 8)) (et_test (ev_op (ev_var rfl) ev_c (rv_eq rfl))) (fun _ H4 e4 => ?_) (fun _ H4 e4 => ?_)
        · have x04 := x03.ex e4
          refine ⟨word, rfl, 8, rfl, by decide, by decide, ?_⟩
          dsimp only
          refine lcR_inv (m := 8) (by decide) ?_ (WT p H4 (fun t => t.depth ≤ d ∧ TM.Pl xs t)) (fun D hD => wt_start x04.2 hD) ?_ ?_
          · exact fun _ => rfl
          rotate_left
          · exact fun D acc H' hD ha w hx => fin H4 D acc H' x04 hD w hx (.inr (.inr (.inr (by omega))))
          intro D i acc H' hD hi hlen w hx Q' k
          have lD : l ≠ D := ne_of_none (x04.1 l _ lp hl) hD
          refine ⟨.ref p, rfl, .ref l, rfl, p, l, xs, rfl, w.po, w.fr l _ lp lD (x04.1 l _ lp hl), lp, h0, by omega, fun x hx2 H5 x5 => ⟨(by decide : 2 ≤ sizeLine), fun y hy => ?_⟩⟩
          obtain ⟨nm, hnm, rfl⟩ := hn x hx2
          have x5' := x5.ex (Ex.new (o := .tup [.str "place", .str nm]) hy)
          exact k _ _ (x5'.1 D _ (x04.ne hD) hx) (wt_step x04.2 w hD hx x5' (.place (x5.fresh hy) upd_same) (.place hnm) ⟨Nat.zero_le _, fun n hn => by rw [TM.Tree.places, List.mem_singleton] at hn; exact hn ▸ hx2⟩)
        · have x04 := x03.ex e4
          refine ⟨word, rfl, .ref p, rfl, (by decide : 4 ≤ sizeLine), fun z2 hz2 => ⟨p, z2, _, rfl, x04.2.up (Ex.new hz2), upd_same, x04.ne hz2, by decide, by decide, fun many hm H5 x5 => ?_⟩⟩
          have x05 := (x04.ex (Ex.new hz2)).trans x5
          obtain ⟨m, rfl, mm⟩ : ∃ m : Int, many = .int m ∧ (m = 2 ∨ m = 3 ∨ m = 4) := by
            simp only [List.mem_cons, List.not_mem_nil, or_false] at hm
            rcases hm with rfl | rfl | rfl | rfl <;> exact ⟨_, rfl, by decide⟩
          refine ⟨m, rfl, by omega, by omega, ?_⟩
          dsimp only
          refine lcR_inv (m := m) (by omega) ?_ (WT p H5 (fun t => t.depth ≤ d ∧ TM.Pl xs t)) (fun D hD => wt_start x05.2 hD) ?_ ?_
          · exact fun _ => rfl
          rotate_left
          · exact fun D acc H' hD ha w hx => fin H5 D acc H' x05 hD w hx (by
            rcases mm with rfl | rfl | rfl
            · exact .inl (by omega)
            · exact .inr (.inl (by omega))
            · exact .inr (.inr (.inl (by omega))))
          intro D i acc H' hD hi hlen w hx Q' k
          have lD : l ≠ D := ne_of_none (x05.1 l _ lp hl) hD
          refine ⟨.ref p, rfl, .ref l, rfl, .int ((d + 1 : Nat) : Int), rfl, _, 1, rfl, rfl, p, l, xs, d, _, rfl, by omega, by omega, w.po, w.fr l _ lp lD (x05.1 l _ lp hl), lp, h0, h5, hn, fun v t H6 ok hdp hpl hat x6 => ?_⟩
          exact k _ _ (x6.1 D _ (x05.ne hD) hx) (wt_step x05.2 w hD hx x6 hat ok ⟨hdp, hpl⟩)
end
end K16
namespace K16
open PySem PySem.Spec PyProof.Rows L2 LG Evl
section
variable {P : Program} {w : World} {K : PySem.W.Frag} {mg : Str → Option Value} {base : Heap} {a : At}
/-! ### the package's term of a word and its parts -/
def sp__law_joined (a : At) : Sp := fun vs H Q _ => ∃ (word : V) (l : Addr) (xs : List V) (ts : List TM.Tree), vs = [word, .ref l] ∧ H l = some (.lst xs) ∧ xs.length = ts.length ∧ TM.Ln xs.length ∧ (∀ (i : Nat) (y : V) (t : TM.Tree), xs[i]? = some y → ts[i]? = some t → TM.TmAt (csOf a) H y t) ∧
  ((word = .str "lesser" ∧ ∀ v H', Ex H H' → TM.TmAt (csOf a) H' v (.lesser ts) → Q v H') ∨ (word = .str "greater" ∧ ∀ v H', Ex H H' → TM.TmAt (csOf a) H' v (.greater ts) → Q v H'))
theorem ln_cases {xs : List V} (h : TM.Ln xs.length) : (∃ a b, xs = [a, b]) ∨ (∃ a b c, xs = [a, b, c]) ∨ (∃ a b c d, xs = [a, b, c, d]) ∨ (∃ a b c d e f g i, xs = [a, b, c, d, e, f, g, i]) := by
  rcases h with h | h | h | h
  · exact .inl (match xs, h with | [a, b], _ => ⟨a, b, rfl⟩)
  · exact .inr (.inl (match xs, h with | [a, b, c], _ => ⟨a, b, c, rfl⟩))
  · exact .inr (.inr (.inl (match xs, h with | [a, b, c, d], _ => ⟨a, b, c, d, rfl⟩)))
  · exact .inr (.inr (.inr (match xs, h with | [a, b, c, d, e, f, g, i], _ => ⟨a, b, c, d, e, f, g, i, rfl⟩)))
theorem s_make {C : Addr} {sp : Sp} {E : XK} {ta : TA} {xs : List V} {D : Ends} {σ : L2.St} {H : Hp} (h : EvA ta σ H xs) (k : ∀ H1, Ex H H1 → ∀ x dx, H1 x = none → H1 dx = none → dx ≠ x → sp (V.ref x :: xs) (upd (upd H1 dx (.own x)) x (.ins C dx [])) (fun v H2 => v = .non ∧ D.rt (.ref x) H2) E) : tRet (StX.tMakeR C sp E ta) D σ H := h H (Ex.refl H) _ k
theorem ok__law_joined (T : Txt K mg a) (F : Files P K a) : Fn P w K mg base 7 a._law_joined (sp__law_joined a) := by
  have F_Lesser := ok_Lesser_init (P := P) (w := w) (mg := mg) (base := base) T F.lesser F.top
  have F_Greater := ok_Greater_init (P := P) (w := w) (mg := mg) (base := base) T F.greater F.top
  refine T.d__law_joined.fn sc__law_joined (fun _ _ _ _ _ _ us hl => match us, hl with | [_, _], _ => rfl) (fun vs H Q E h => ?_) (fun cdv A outer s H vs Q E hg hr h => ?_)
  · obtain ⟨_, _, _, _, rfl, _⟩ := h
    rfl
  · obtain ⟨word, l, xs, ts, rfl, hl, hn, h8, hx, q⟩ := h
    have nd := sc__law_joined.nd
    refine ⟨_, (pss_cons (ps_if (pt_cmpR op_eq (pv 0) pe_str (nomark _)) (pss_cons (ps_if (pt_cmpR op_eq (pe_callB call_len_seq (by rfl) T.z_len (by decide +kernel) (pa_cons (pv 1) pa_nil)) pe_int (nomark _)) (pss_one (ps_ret (StX.pe_makeR T.mk_Lesser F_Lesser (hr.mono (by decide)) (by rfl) T.g_Lesser.m passL (pa_cons (pe_ix ix_list (pv 1) pe_int (fun _ _ => rfl)) (pa_cons (pe_ix ix_list (pv 1) pe_int (fun _ _ => rfl)) pa_nil))))) pss_nil)
      (pss_cons (ps_if (pt_cmpR op_eq (pe_callB call_len_seq (by rfl) T.z_len (by decide +kernel) (pa_cons (pv 1) pa_nil)) pe_int (nomark _)) (pss_one (ps_ret (StX.pe_makeR T.mk_Lesser F_Lesser (hr.mono (by decide)) (by rfl) T.g_Lesser.m passL (pa_cons (pe_ix ix_list (pv 1) pe_int (fun _ _ => rfl)) (pa_cons (pe_ix ix_list (pv 1) pe_int (fun _ _ => rfl)) (pa_cons (pe_ix ix_list (pv 1) pe_int (fun _ _ => rfl)) pa_nil)))))) pss_nil)
      (pss_cons (ps_if (pt_cmpR op_eq (pe_callB call_len_seq (by rfl) T.z_len (by decide +kernel) (pa_cons (pv 1) pa_nil)) pe_int (nomark _)) (pss_one (ps_ret (StX.pe_makeR T.mk_Lesser F_Lesser (hr.mono (by decide)) (by rfl) T.g_Lesser.m passL (pa_cons (pe_ix ix_list (pv 1) pe_int (fun _ _ => rfl)) (pa_cons (pe_ix ix_list (pv 1) pe_int (fun _ _ => rfl)) (pa_cons (pe_ix ix_list (pv 1) pe_int (fun _ _ => rfl)) (pa_cons (pe_ix ix_list (pv 1) pe_int (fun _ _ => rfl)) pa_nil))))))) pss_nil)
      (pss_one (ps_ret (StX.pe_makeR T.mk_Lesser F_Lesser (hr.mono (by decide)) (by rfl) T.g_Lesser.m passL (pa_cons (pe_ix ix_list (pv 1) pe_int (fun _ _ => rfl)) (pa_cons (pe_ix ix_list (pv 1) pe_int (fun _ _ => rfl)) (pa_cons (pe_ix ix_list (pv 1) pe_int (fun _ _ => rfl)) (pa_cons (pe_ix ix_list (pv 1) pe_int (fun _ _ => rfl)) (pa_cons (pe_ix ix_list (pv 1) pe_int (fun _ _ => rfl)) (pa_cons (pe_ix ix_list (pv 1) pe_int (fun _ _ => rfl)) (pa_cons (pe_ix ix_list (pv 1) pe_int (fun _ _ => rfl)) (pa_cons (pe_ix ix_list (pv 1) pe_int (fun _ _ => rfl)) pa_nil)))))))))))))) pss_nil)
    (pss_cons (ps_if (pt_cmpR op_eq (pe_callB call_len_seq (by rfl) T.z_len (by decide +kernel) (pa_cons (pv 1) pa_nil)) pe_int (nomark _)) (pss_one (ps_ret (StX.pe_makeR T.mk_Greater F_Greater (hr.mono (by decide)) (by rfl) T.g_Greater.m passL (pa_cons (pe_ix ix_list (pv 1) pe_int (fun _ _ => rfl)) (pa_cons (pe_ix ix_list (pv 1) pe_int (fun _ _ => rfl)) pa_nil))))) pss_nil)
    (pss_cons (ps_if (pt_cmpR op_eq (pe_callB call_len_seq (by rfl) T.z_len (by decide +kernel) (pa_cons (pv 1) pa_nil)) pe_int (nomark _)) (pss_one (ps_ret (StX.pe_makeR T.mk_Greater F_Greater (hr.mono (by decide)) (by rfl) T.g_Greater.m passL (pa_cons (pe_ix ix_list (pv 1) pe_int (fun _ _ => rfl)) (pa_cons (pe_ix ix_list (pv 1) pe_int (fun _ _ => rfl)) (pa_cons (pe_ix ix_list (pv 1) pe_int (fun _ _ => rfl)) pa_nil)))))) pss_nil)
    (pss_cons (ps_if (pt_cmpR op_eq (pe_callB call_len_seq (by rfl) T.z_len (by decide +kernel) (pa_cons (pv 1) pa_nil)) pe_int (nomark _)) (pss_one (ps_ret (StX.pe_makeR T.mk_Greater F_Greater (hr.mono (by decide)) (by rfl) T.g_Greater.m passL (pa_cons (pe_ix ix_list (pv 1) pe_int (fun _ _ => rfl)) (pa_cons (pe_ix ix_list (pv 1) pe_int (fun _ _ => rfl)) (pa_cons (pe_ix ix_list (pv 1) pe_int (fun _ _ => rfl)) (pa_cons (pe_ix ix_list (pv 1) pe_int (fun _ _ => rfl)) pa_nil))))))) pss_nil)
    (pss_one (ps_ret (StX.pe_makeR T.mk_Greater F_Greater (hr.mono (by decide)) (by rfl) T.g_Greater.m passL (pa_cons (pe_ix ix_list (pv 1) pe_int (fun _ _ => rfl)) (pa_cons (pe_ix ix_list (pv 1) pe_int (fun _ _ => rfl)) (pa_cons (pe_ix ix_list (pv 1) pe_int (fun _ _ => rfl)) (pa_cons (pe_ix ix_list (pv 1) pe_int (fun _ _ => rfl)) (pa_cons (pe_ix ix_list (pv 1) pe_int (fun _ _ => rfl)) (pa_cons (pe_ix ix_list (pv 1) pe_int (fun _ _ => rfl)) (pa_cons (pe_ix ix_list (pv 1) pe_int (fun _ _ => rfl)) (pa_cons (pe_ix ix_list (pv 1) pe_int (fun _ _ => rfl)) pa_nil))))))))))))))), ?_⟩
    rcases q with ⟨rfl, q⟩ | ⟨rfl, q⟩ <;> rcases ln_cases h8 with ⟨x0, x1, rfl⟩ | ⟨x0, x1, x2, rfl⟩ | ⟨x0, x1, x2, x3, rfl⟩ | ⟨x0, x1, x2, x3, x4, x5, x6, x7, rfl⟩
    · have sq : SqL K H l [x0, x1] := sq_of hl
      refine q_when (b := true) (et_eqT (ev_var rfl) ev_c rfl rfl) (fun z H1 e1 => ?_) (fun z H1 e1 => ?_)
      rotate_left
      · exact nomatch z
      have e01 := e1
      refine q_when (b := true) (et_eqT (ev_len (ev_var rfl) (ex_l e01 sq)) ev_c rfl rfl) (fun z H2 e2 => ?_) (fun z H2 e2 => ?_)
      rotate_left
      · exact nomatch z
      have e02 := e01.trans e2
      refine s_make (ea_cons (ev_op (ev_var rfl) ev_c (rv_ixL (ex_l e02 sq) (i := 0) rfl)) (ea_cons (ev_op (ev_var rfl) ev_c (rv_ixL (ex_l e02 sq) (i := 1) rfl)) ea_nil)) fun H9 e9 => lesser_made hn (by simp) (by simp) (fun i y t a b => (hx i y t a b).up (e02.trans e9)) fun v H8 e8 tm => q v H8 ((e02.trans e9).trans e8) tm
    · have sq : SqL K H l [x0, x1, x2] := sq_of hl
      refine q_when (b := true) (et_eqT (ev_var rfl) ev_c rfl rfl) (fun z H1 e1 => ?_) (fun z H1 e1 => ?_)
      rotate_left
      · exact nomatch z
      have e01 := e1
      refine q_when (b := false) (et_eqF (ev_len (ev_var rfl) (ex_l e01 sq)) ev_c rfl (by simp)) (fun z H2 e2 => ?_) (fun z H2 e2 => ?_)
      · exact nomatch z
      have e02 := e01.trans e2
      refine q_when (b := true) (et_eqT (ev_len (ev_var rfl) (ex_l e02 sq)) ev_c rfl rfl) (fun z H3 e3 => ?_) (fun z H3 e3 => ?_)
      rotate_left
      · exact nomatch z
      have e03 := e02.trans e3
      refine s_make (ea_cons (ev_op (ev_var rfl) ev_c (rv_ixL (ex_l e03 sq) (i := 0) rfl)) (ea_cons (ev_op (ev_var rfl) ev_c (rv_ixL (ex_l e03 sq) (i := 1) rfl)) (ea_cons (ev_op (ev_var rfl) ev_c (rv_ixL (ex_l e03 sq) (i := 2) rfl)) ea_nil))) fun H9 e9 => lesser_made hn (by simp) (by simp) (fun i y t a b => (hx i y t a b).up (e03.trans e9)) fun v H8 e8 tm => q v H8 ((e03.trans e9).trans e8) tm
    · have sq : SqL K H l [x0, x1, x2, x3] := sq_of hl
      refine q_when (b := true) (et_eqT (ev_var rfl) ev_c rfl rfl) (fun z H1 e1 => ?_) (fun z H1 e1 => ?_)
      rotate_left
      · exact nomatch z
      have e01 := e1
      refine q_when (b := false) (et_eqF (ev_len (ev_var rfl) (ex_l e01 sq)) ev_c rfl (by simp)) (fun z H2 e2 => ?_) (fun z H2 e2 => ?_)
      · exact nomatch z
      have e02 := e01.trans e2
      refine q_when (b := false) (et_eqF (ev_len (ev_var rfl) (ex_l e02 sq)) ev_c rfl (by simp)) (fun z H3 e3 => ?_) (fun z H3 e3 => ?_)
      · exact nomatch z
      have e03 := e02.trans e3
      refine q_when (b := true) (et_eqT (ev_len (ev_var rfl) (ex_l e03 sq)) ev_c rfl rfl) (fun z H4 e4 => ?_) (fun z H4 e4 => ?_)
      rotate_left
      · exact nomatch z
      have e04 := e03.trans e4
      refine s_make (ea_cons (ev_op (ev_var rfl) ev_c (rv_ixL (ex_l e04 sq) (i := 0) rfl)) (ea_cons (ev_op (ev_var rfl) ev_c (rv_ixL (ex_l e04 sq) (i := 1) rfl)) (ea_cons (ev_op (ev_var rfl) ev_c (rv_ixL (ex_l e04 sq) (i := 2) rfl)) (ea_cons (ev_op (ev_var rfl) ev_c (rv_ixL (ex_l e04 sq) (i := 3) rfl)) ea_nil)))) fun H9 e9 => lesser_made hn (by simp) (by simp) (fun i y t a b => (hx i y t a b).up (e04.trans e9)) fun v H8 e8 tm => q v H8 ((e04.trans e9).trans e8) tm
    · have sq : SqL K H l [x0, x1, x2, x3, x4, x5, x6, x7] := sq_of hl
      refine q_when (b := true) (et_eqT (ev_var rfl) ev_c rfl rfl) (fun z H1 e1 => ?_) (fun z H1 e1 => ?_)
      rotate_left
      · exact nomatch z
      have e01 := e1
      refine q_when (b := false) (et_eqF (ev_len (ev_var rfl) (ex_l e01 sq)) ev_c rfl (by simp)) (fun z H2 e2 => ?_) (fun z H2 e2 => ?_)
      · exact nomatch z
      have e02 := e01.trans e2
      refine q_when (b := false) (et_eqF (ev_len (ev_var rfl) (ex_l e02 sq)) ev_c rfl (by simp)) (fun z H3 e3 => ?_) (fun z H3 e3 => ?_)
      · exact nomatch z
      have e03 := e02.trans e3
      refine q_when (b := false) (et_eqF (ev_len (ev_var rfl) (ex_l e03 sq)) ev_c rfl (by simp)) (fun z H4 e4 => ?_) (fun z H4 e4 => ?_)
      · exact nomatch z
      have e04 := e03.trans e4
      refine s_make (ea_cons (ev_op (ev_var rfl) ev_c (rv_ixL (ex_l e04 sq) (i := 0) rfl)) (ea_cons (ev_op (ev_var rfl) ev_c (rv_ixL (ex_l e04 sq) (i := 1) rfl)) (ea_cons (ev_op (ev_var rfl) ev_c (rv_ixL (ex_l e04 sq) (i := 2) rfl)) (ea_cons (ev_op (ev_var rfl) ev_c (rv_ixL (ex_l e04 sq) (i := 3) rfl)) (ea_cons (ev_op (ev_var rfl) ev_c (rv_ixL (ex_l e04 sq) (i := 4) rfl)) (ea_cons (ev_op (ev_var rfl) ev_c (rv_ixL (ex_l e04 sq) (i := 5) rfl)) (ea_cons (ev_op (ev_var rfl) ev_c (rv_ixL (ex_l e04 sq) (i := 6) rfl)) (ea_cons (ev_op (ev_var rfl) ev_c (rv_ixL (ex_l e04 sq) (i := 7) rfl)) ea_nil)))))))) fun H9 e9 => lesser_made hn (by simp) (by simp) (fun i y t a b => (hx i y t a b).up (e04.trans e9)) fun v H8 e8 tm => q v H8 ((e04.trans e9).trans e8) tm
    · have sq : SqL K H l [x0, x1] := sq_of hl
      refine q_when (b := false) (et_eqF (ev_var rfl) ev_c rfl (str_ne (by decide))) (fun z H1 e1 => ?_) (fun z H1 e1 => ?_)
      · exact nomatch z
      have e01 := e1
      refine q_when (b := true) (et_eqT (ev_len (ev_var rfl) (ex_l e01 sq)) ev_c rfl rfl) (fun z H2 e2 => ?_) (fun z H2 e2 => ?_)
      rotate_left
      · exact nomatch z
      have e02 := e01.trans e2
      refine s_make (ea_cons (ev_op (ev_var rfl) ev_c (rv_ixL (ex_l e02 sq) (i := 0) rfl)) (ea_cons (ev_op (ev_var rfl) ev_c (rv_ixL (ex_l e02 sq) (i := 1) rfl)) ea_nil)) fun H9 e9 => greater_made hn (by simp) (by simp) (fun i y t a b => (hx i y t a b).up (e02.trans e9)) fun v H8 e8 tm => q v H8 ((e02.trans e9).trans e8) tm
    · have sq : SqL K H l [x0, x1, x2] := sq_of hl
      refine q_when (b := false) (et_eqF (ev_var rfl) ev_c rfl (str_ne (by decide))) (fun z H1 e1 => ?_) (fun z H1 e1 => ?_)
      · exact nomatch z
      have e01 := e1
      refine q_when (b := false) (et_eqF (ev_len (ev_var rfl) (ex_l e01 sq)) ev_c rfl (by simp)) (fun z H2 e2 => ?_) (fun z H2 e2 => ?_)
      · exact nomatch z
      have e02 := e01.trans e2
      refine q_when (b := true) (et_eqT (ev_len (ev_var rfl) (ex_l e02 sq)) ev_c rfl rfl) (fun z H3 e3 => ?_) (fun z H3 e3 => ?_)
      rotate_left
      · exact nomatch z
      have e03 := e02.trans e3
      refine s_make (ea_cons (ev_op (ev_var rfl) ev_c (rv_ixL (ex_l e03 sq) (i := 0) rfl)) (ea_cons (ev_op (ev_var rfl) ev_c (rv_ixL (ex_l e03 sq) (i := 1) rfl)) (ea_cons (ev_op (ev_var rfl) ev_c (rv_ixL (ex_l e03 sq) (i := 2) rfl)) ea_nil))) fun H9 e9 => greater_made hn (by simp) (by simp) (fun i y t a b => (hx i y t a b).up (e03.trans e9)) fun v H8 e8 tm => q v H8 ((e03.trans e9).trans e8) tm
    · have sq : SqL K H l [x0, x1, x2, x3] := sq_of hl
      refine q_when (b := false) (et_eqF (ev_var rfl) ev_c rfl (str_ne (by decide))) (fun z H1 e1 => ?_) (fun z H1 e1 => ?_)
      · exact nomatch z
      have e01 := e1
      refine q_when (b := false) (et_eqF (ev_len (ev_var rfl) (ex_l e01 sq)) ev_c rfl (by simp)) (fun z H2 e2 => ?_) (fun z H2 e2 => ?_)
      · exact nomatch z
      have e02 := e01.trans e2
      refine q_when (b := false) (et_eqF (ev_len (ev_var rfl) (ex_l e02 sq)) ev_c rfl (by simp)) (fun z H3 e3 => ?_) (fun z H3 e3 => ?_)
      · exact nomatch z
      have e03 := e02.trans e3
      refine q_when (b := true) (et_eqT (ev_len (ev_var rfl) (ex_l e03 sq)) ev_c rfl rfl) (fun z H4 e4 => ?_) (fun z H4 e4 => ?_)
      rotate_left
      · exact nomatch z
      have e04 := e03.trans e4
      refine s_make (ea_cons (ev_op (ev_var rfl) ev_c (rv_ixL (ex_l e04 sq) (i := 0) rfl)) (ea_cons (ev_op (ev_var rfl) ev_c (rv_ixL (ex_l e04 sq) (i := 1) rfl)) (ea_cons (ev_op (ev_var rfl) ev_c (rv_ixL (ex_l e04 sq) (i := 2) rfl)) (ea_cons (ev_op (ev_var rfl) ev_c (rv_ixL (ex_l e04 sq) (i := 3) rfl)) ea_nil)))) fun H9 e9 => greater_made hn (by simp) (by simp) (fun i y t a b => (hx i y t a b).up (e04.trans e9)) fun v H8 e8 tm => q v H8 ((e04.trans e9).trans e8) tm
    · have sq : SqL K H l [x0, x1, x2, x3, x4, x5, x6, x7] := sq_of hl
      refine q_when (b := false) (et_eqF (ev_var rfl) ev_c rfl (str_ne (by decide))) (fun z H1 e1 => ?_) (fun z H1 e1 => ?_)
      · exact nomatch z
      have e01 := e1
      refine q_when (b := false) (et_eqF (ev_len (ev_var rfl) (ex_l e01 sq)) ev_c rfl (by simp)) (fun z H2 e2 => ?_) (fun z H2 e2 => ?_)
      · exact nomatch z
      have e02 := e01.trans e2
      refine q_when (b := false) (et_eqF (ev_len (ev_var rfl) (ex_l e02 sq)) ev_c rfl (by simp)) (fun z H3 e3 => ?_) (fun z H3 e3 => ?_)
      · exact nomatch z
      have e03 := e02.trans e3
      refine q_when (b := false) (et_eqF (ev_len (ev_var rfl) (ex_l e03 sq)) ev_c rfl (by simp)) (fun z H4 e4 => ?_) (fun z H4 e4 => ?_)
      · exact nomatch z
      have e04 := e03.trans e4
      refine s_make (ea_cons (ev_op (ev_var rfl) ev_c (rv_ixL (ex_l e04 sq) (i := 0) rfl)) (ea_cons (ev_op (ev_var rfl) ev_c (rv_ixL (ex_l e04 sq) (i := 1) rfl)) (ea_cons (ev_op (ev_var rfl) ev_c (rv_ixL (ex_l e04 sq) (i := 2) rfl)) (ea_cons (ev_op (ev_var rfl) ev_c (rv_ixL (ex_l e04 sq) (i := 3) rfl)) (ea_cons (ev_op (ev_var rfl) ev_c (rv_ixL (ex_l e04 sq) (i := 4) rfl)) (ea_cons (ev_op (ev_var rfl) ev_c (rv_ixL (ex_l e04 sq) (i := 5) rfl)) (ea_cons (ev_op (ev_var rfl) ev_c (rv_ixL (ex_l e04 sq) (i := 6) rfl)) (ea_cons (ev_op (ev_var rfl) ev_c (rv_ixL (ex_l e04 sq) (i := 7) rfl)) ea_nil)))))))) fun H9 e9 => greater_made hn (by simp) (by simp) (fun i y t a b => (hx i y t a b).up (e04.trans e9)) fun v H8 e8 tm => q v H8 ((e04.trans e9).trans e8) tm
end
end K16
namespace K16
open PySem PySem.Spec PyProof.Rows L2 LG Evl
section
variable {P : Program} {w : World} {K : PySem.W.Frag} {mg : Str → Option Value} {base : Heap} {a : At}
/-! ### the package's term of the law's own one -/
def sp__law_real (a : At) (n : Nat) : Sp := fun vs H Q _ => ∃ (S : Addr → Prop) (v : V) (t : TM.Tree), vs = [v] ∧ TM.MdAt S H v t ∧ TM.Ok t ∧ t.depth < n ∧ ∀ x H', Ex H H' → TM.TmAt (csOf a) H' x t → Q x H'
theorem tm_off {H4 : Hp} {D : Addr} {acc zs : List V} {v : V} {t : TM.Tree} (h : H4 D = some (.lst acc)) (ht : TM.TmAt (csOf a) H4 v t) : TM.TmAt (csOf a) (upd H4 D (.lst zs)) v t := ht.upW h fun b o bn _ e => by rw [upd_ne bn]; exact e
/-- i parts are made -/
def WR (a : At) (ts : List TM.Tree) (H2 : Hp) (D : Addr) (i : Nat) (acc : List V) (H' : Hp) : Prop := Ex H2 H' ∧ ∀ (k : Nat) (y : V) (t : TM.Tree), acc[k]? = some y → ts[k]? = some t → TM.TmAt (csOf a) H' y t
theorem wr_step {ts : List TM.Tree} {H2 H' H4 : Hp} {D : Addr} {i : Nat} {acc : List V} {y : V} {t : TM.Tree} (w : WR a ts H2 D i acc H') (hD : H2 D = none) (hl : acc.length = i) (hx : H' D = some (.lst acc)) (e4 : Ex H' H4) (ht : ts[i]? = some t) (tm : TM.TmAt (csOf a) H4 y t) : WR a ts H2 D (i + 1) (acc ++ [y]) (upd H4 D (.lst (acc ++ [y]))) := by
  refine ⟨Ex.mut (w.1.trans e4) hD, fun k z u h1 h2 => ?_⟩
  rcases get_snoc h1 with z1 | ⟨k1, rfl⟩
  · exact tm_off (e4 _ _ hx) ((w.2 k z u z1 h2).up e4)
  · rw [k1, hl, ht] at h2
    cases h2
    exact tm_off (e4 _ _ hx) tm
theorem s_make1 {C : Addr} {sp : Sp} {E : XK} {ta : TA} {xs : List V} {D : Ends} {σ : L2.St} {H : Hp} (h : EvA ta σ H xs) (k : ∀ H1, Ex H H1 → ∀ x dx, H1 x = none → H1 dx = none → dx ≠ x → sp (V.ref x :: (xs ++ [])) (upd (upd H1 dx (.own x)) x (.ins C dx [])) (fun v H2 => v = .non ∧ D.rt (.ref x) H2) E) : tRet (tMake C sp [] E ta) D σ H := h H (Ex.refl H) _ k
theorem ok__law_real (T : Txt K mg a) (F : Files P K a) : ∀ n, Fn P w K mg base (n + 7) a._law_real (sp__law_real a n) := by
  intro n
  induction n with
  | zero =>
    refine T.d__law_real.fn sc__law_real (fun _ _ _ _ _ _ us hl => match us, hl with | [_], _ => rfl) (fun vs H Q E h => ?_) (fun cdv A outer s H vs Q E hg hr h => ?_)
    · obtain ⟨_, _, _, rfl, _⟩ := h
      rfl
    · obtain ⟨_, _, _, _, _, _, hd, _⟩ := h
      exact absurd hd (Nat.not_lt_zero _)
  | succ n ih =>
    obtain ⟨fdP, FP, bP⟩ := ok_Place_init (P := P) (w := w) (mg := mg) (base := base) T F.place F.top
    obtain ⟨fdE, FE, bE⟩ := ok_End_init (P := P) (w := w) (mg := mg) (base := base) T F.endd F.top
    have G__law_joined := ok__law_joined (P := P) (w := w) (mg := mg) (base := base) T F
    have G__law_real := ih
    refine T.d__law_real.fn sc__law_real (fun _ _ _ _ _ _ us hl => match us, hl with | [_], _ => rfl) (fun vs H Q E h => ?_) (fun cdv A outer s H vs Q E hg hr h => ?_)
    · obtain ⟨_, _, _, rfl, _⟩ := h
      rfl
    · obtain ⟨S, v, t, rfl, ht, ok, hd, q⟩ := h
      have nd := sc__law_real.nd
      refine ⟨_, (pss_cons (ps_if (pt_cmpR op_eq (pe_ix ix_tup (pv 0) pe_int (fun _ _ => rfl)) pe_str (nomark _)) (pss_one (ps_ret (pe_make T.mk_Place FP (hr.mono (by omega)) (by rfl) T.g_Place.m bP .nil passL (pa_cons (pe_ix ix_tup (pv 0) pe_int (fun _ _ => rfl)) pa_nil)))) pss_nil)
    (pss_cons (ps_if (pt_cmpR op_eq (pe_ix ix_tup (pv 0) pe_int (fun _ _ => rfl)) pe_str (nomark _)) (pss_one (ps_ret (pe_make T.mk_End FE (hr.mono (by omega)) (by rfl) T.g_End.m bE .nil passL (pa_cons (pe_ix ix_tup (pv 0) pe_int (fun _ _ => rfl)) pa_nil)))) pss_nil)
    (pss_one (ps_ret (pe_fn G__law_joined hg (hr.mono (by omega)) T.d__law_joined.kp T.d__law_joined.m (by rfl) passL (pa_cons (pe_ix ix_tup (pv 0) pe_int (fun _ _ => rfl)) (pa_cons (pe_lc rfl (own := [("part", 1)]) (g := gName 1) (by exact nd) (pi_list (pe_ix ix_tup (pv 0) pe_int (fun _ _ => rfl))) (blkOk_by (own := [("part", 1)]) (N := ["term", "part"]) (sc := defScope s__law_real) (by decide +kernel)) (fun _ _ _ _ _ => (pg_name (i := 1) nd rfl (.inl rfl))) (fun _ _ _ _ _ => pts_nil) (fun _ _ _ _ _ => (pe_fn G__law_real hg (hr.mono (by omega)) T.d__law_real.kp T.d__law_real.m (by rfl) passL (pa_cons (pv 1) pa_nil)))) pa_nil))))))), ?_⟩
      have two : ∀ {x l : Addr} {word : Str} {xs : List V} {ts : List TM.Tree} {tt : TM.Tree}, H x = some (.tup [.str word, .ref l]) → H l = some (.lst xs) → xs.length = ts.length → (∀ (i : Nat) (y : V) (t : TM.Tree), xs[i]? = some y → ts[i]? = some t → TM.MdAt S H y t) → TM.Ln ts.length → (∀ t ∈ ts, TM.Ok t) → TM.Tree.depthAll ts < n →
          (∀ z H', Ex H H' → TM.TmAt (csOf a) H' z tt → Q z H') → ((word = "lesser" ∧ tt = .lesser ts) ∨ (word = "greater" ∧ tt = .greater ts)) → ∀ H2, Ex H H2 → tRet (tFn (sp__law_joined a) E0 (tCons (tOp (rIxT K) (tVar 0) (tC (.int 0))) (tCons (tLc (iList K (tOp (rIxT K) (tVar 0) (tC (.int 1)))) (gName 1) tYes (tFn (sp__law_real a n) E0 (tCons (tVar 1) tNil)) [1]) tNil))) { nx := fun _ H' => Q .non H', rt := Q } (start ["term", "part"] [.ref x]) H2 := by
        intro x l word xs ts tt hx hl hn hxs hln hok hdp q hw H2 e2
        refine ⟨.ref x, rfl, x, _, 0, _, rfl, rfl, st_of (e2 _ _ hx), rfl, ?_⟩
        refine ⟨.ref x, rfl, x, _, 1, _, rfl, rfl, st_of (e2 _ _ hx), rfl, l, rfl, ⟨xs, sq_of (e2 _ _ hl)⟩, ?_⟩
        have h8 : ts.length ≤ 8 := hln.eight
        dsimp only
        refine lcL_inv (ys := xs) (sq_of (e2 _ _ hl)) (by omega) (fun _ => rfl) (WR a ts H2) (fun D hD => ⟨Ex.new hD, fun k y t h _ => by simp at h⟩) (fun D i acc H' hD w => sq_of (w.1 _ _ (e2 _ _ hl))) ?_ ?_
        · intro D i y acc H' hD hi hlen w hacc Q' k
          have hi2 : i < ts.length := hn ▸ (List.getElem?_eq_some_iff.mp hi).1
          have ht : ts[i]? = some ts[i] := List.getElem?_eq_getElem hi2
          have hm : ts[i] ∈ ts := List.getElem_mem hi2
          refine ⟨y, rfl, S, y, ts[i], rfl, (hxs i y _ hi ht).ex (e2.trans w.1), hok _ hm, Nat.lt_of_le_of_lt (TM.depth_mem hm) hdp, fun z H4 e4 tm => ?_⟩
          exact k z H4 (e4 _ _ hacc) (wr_step w hD hlen hacc e4 ht tm)
        · intro D acc H' hD hlen w hacc
          have hl2 : acc.length = ts.length := by omega
          refine ⟨.str word, D, acc, ts, rfl, hacc, hl2, hl2 ▸ hln, w.2, ?_⟩
          rcases hw with ⟨rfl, rfl⟩ | ⟨rfl, rfl⟩
          · exact .inl ⟨rfl, fun z H4 e4 tm => q z H4 ((e2.trans w.1).trans e4) tm⟩
          · exact .inr ⟨rfl, fun z H4 e4 tm => q z H4 ((e2.trans w.1).trans e4) tm⟩
      cases ht with
      | @place x nm s hx =>
        cases ok with
        | place hnm =>
          refine q_when (b := true) (et_eqT (ev_op (ev_var rfl) ev_c (rv_ixT (st_of hx) (i := 0) rfl)) ev_c rfl rfl) (fun _ H1 e1 => ?_) (fun z => nomatch z)
          refine s_make1 (ea_cons (ev_op (ev_var rfl) ev_c (rv_ixT (st_of (e1 _ _ hx)) (i := 1) rfl)) ea_nil) fun H2 e2 y dy hy hdy ne => ?_
          have pl : isPlB (.str nm) = true := (by decide +kernel : ∀ n ∈ TM.names, isPlB (.str n) = true) _ hnm
          exact ⟨y, dy, .str nm, _, rfl, upd_same, .str _, fun _ => ⟨rfl, q _ _ ((e1.trans e2).trans (by rw [upd_upd]; exact (Ex.new hdy).trans (Ex.new (by rw [upd_ne (Ne.symm ne)]; exact hy)))) (.place upd_same)⟩, fun z => by rw [pl] at z; cases z⟩
      | @endd x nm s hx =>
        cases ok with
        | endd hnm =>
          refine q_when (b := false) (et_eqF (ev_op (ev_var rfl) ev_c (rv_ixT (st_of hx) (i := 0) rfl)) ev_c rfl (str_ne (by decide))) (fun z => nomatch z) (fun _ H1 e1 => ?_)
          refine q_when (b := true) (et_eqT (ev_op (ev_var rfl) ev_c (rv_ixT (st_of (e1 _ _ hx)) (i := 0) rfl)) ev_c rfl rfl) (fun _ H2 e2 => ?_) (fun z => nomatch z)
          have e02 := e1.trans e2
          refine s_make1 (ea_cons (ev_op (ev_var rfl) ev_c (rv_ixT (st_of (e02 _ _ hx)) (i := 1) rfl)) ea_nil) fun H3 e3 y dy hy hdy ne => ?_
          have pl : isEndS (.str nm) = true := (by decide +kernel : ∀ n ∈ (["bottom", "top"] : List Str), isEndS (.str n) = true) _ hnm
          exact ⟨y, dy, .str nm, _, rfl, upd_same, .str _, fun _ => ⟨rfl, q _ _ ((e02.trans e3).trans (by rw [upd_upd]; exact (Ex.new hdy).trans (Ex.new (by rw [upd_ne (Ne.symm ne)]; exact hy)))) (.endd upd_same)⟩, fun z => by rw [pl] at z; cases z⟩
      | @lesser x l xs ts s hx sl hl hn hxs =>
        cases ok with
        | lesser hln hok =>
          refine q_when (b := false) (et_eqF (ev_op (ev_var rfl) ev_c (rv_ixT (st_of hx) (i := 0) rfl)) ev_c rfl (str_ne (by decide))) (fun z => nomatch z) (fun _ H1 e1 => ?_)
          refine q_when (b := false) (et_eqF (ev_op (ev_var rfl) ev_c (rv_ixT (st_of (e1 _ _ hx)) (i := 0) rfl)) ev_c rfl (str_ne (by decide))) (fun z => nomatch z) (fun _ H2 e2 => ?_)
          exact two hx hl hn hxs hln hok (Nat.lt_of_succ_lt_succ (by simpa [TM.Tree.depth] using hd)) q (.inl ⟨rfl, rfl⟩) H2 (e1.trans e2)
      | @greater x l xs ts s hx sl hl hn hxs =>
        cases ok with
        | greater hln hok =>
          refine q_when (b := false) (et_eqF (ev_op (ev_var rfl) ev_c (rv_ixT (st_of hx) (i := 0) rfl)) ev_c rfl (str_ne (by decide))) (fun z => nomatch z) (fun _ H1 e1 => ?_)
          refine q_when (b := false) (et_eqF (ev_op (ev_var rfl) ev_c (rv_ixT (st_of (e1 _ _ hx)) (i := 0) rfl)) ev_c rfl (str_ne (by decide))) (fun z => nomatch z) (fun _ H2 e2 => ?_)
          exact two hx hl hn hxs hln hok (Nat.lt_of_succ_lt_succ (by simpa [TM.Tree.depth] using hd)) q (.inr ⟨rfl, rfl⟩) H2 (e1.trans e2)
end
end K16
namespace K16
open PySem PySem.Spec PyProof.Rows L2 LG Evl
/-! ### small data -/
theorem isValB_cases {v : V} (h : isValB v = true) : (∃ i, v = .int i) ∨ v = .str "bottom" ∨ v = .str "top" := by
  cases v with
  | int i => exact .inl ⟨i, rfl⟩
  | str x =>
    have h2 : ((Str.ofString "bottom" == x) || ((Str.ofString "top" == x) || false)) = true := h
    rcases (Bool.or_eq_true _ _).mp h2 with h3 | h3
    · exact .inr (.inl (by rw [eq_of_beq h3]))
    · rw [Bool.or_false] at h3
      exact .inr (.inr (by rw [eq_of_beq h3]))
  | _ => exact absurd (show false = true from h) Bool.false_ne_true
theorem bt : ¬ (Str.ofString "bottom" = Str.ofString "top") := by decide +kernel
def dV : V → PyData
  | .int i => .int i
  | .str x => .str x
  | .bl b => .bool b
  | _ => .none
def flat1 : V → Bool
  | .int _ | .str _ | .bl _ | .non => true
  | _ => false
theorem dp_flat {K : PySem.W.Frag} {H : Hp} {v : V} (h : flat1 v = true) : Dp K H v (dV v) := by
  cases v with
  | int i => exact .int i
  | str x => exact .str x
  | bl b => exact .bl b
  | non => exact .non
  | _ => exact absurd (show false = true from h) Bool.false_ne_true
theorem dpAll_flat {K : PySem.W.Frag} {H : Hp} : ∀ {xs : List V}, (∀ x ∈ xs, flat1 x = true) → DpAll K H xs (xs.map dV)
  | [], _ => .nil
  | x :: xs, h => .cons (dp_flat (h x List.mem_cons_self)) (dpAll_flat fun y hy => h y (List.mem_cons_of_mem _ hy))
theorem dq_flat {K : PySem.W.Frag} {H : Hp} {v : V} (h : flat1 v = true) : Dq K H v (dV v) := by
  cases v with
  | int i => exact .int i
  | str x => exact .str x
  | bl b => exact .bl b
  | non => exact .non
  | _ => exact absurd (show false = true from h) Bool.false_ne_true
theorem dqAll_flat {K : PySem.W.Frag} {H : Hp} : ∀ {xs : List V}, (∀ x ∈ xs, flat1 x = true) → DqAll K H xs (xs.map dV)
  | [], _ => .nil
  | x :: xs, h => .cons (dq_flat (h x List.mem_cons_self)) (dqAll_flat fun y hy => h y (List.mem_cons_of_mem _ hy))
/-- data that is not deep and not long -/
def Sm (k n : Nat) (d : PyData) : Prop := d.leavesShort 72 = true ∧ d.showable = true ∧ d.depth ≤ k ∧ d.weight ≤ n
theorem Sm.mono {k n j m : Nat} {d : PyData} (h : Sm k n d) (h1 : k ≤ j) (h2 : n ≤ m) : Sm j m d := ⟨h.1, h.2.1, Nat.le_trans h.2.2.1 h1, Nat.le_trans h.2.2.2 h2⟩
theorem Sm.shows {k n : Nat} {d : PyData} (h : Sm k n d) (h1 : k ≤ 60) (h2 : n ≤ 131072) : Shows d := by
  obtain ⟨a, b, c, e⟩ := h
  refine ⟨b, Nat.le_trans c h1, ?_⟩
  have z := PyData.shown_le 72 (by decide) d a
  rw [sizeLine_eq]
  have z2 : (72 + 2) * d.weight ≤ 74 * 131072 := Nat.mul_le_mul (by omega) (by omega)
  omega
theorem sm_int {i : Int} (h : i.natAbs < 10 ^ 70) : Sm 0 240 (.int i) := by
  have hl : i.natAbs.log2 < 233 := by
    by_cases z : i.natAbs = 0
    · rw [z]
      decide
    · exact (Nat.log2_lt z).mpr (Nat.lt_of_lt_of_le h (by decide))
  refine ⟨?_, ?_, ?_, ?_⟩
  · have e := int_text_length_le10 (k := 70) (by decide) h
    have e2 : (PyData.shown (.int i)).length ≤ 72 := by
      show (Str.ofString (toString i)).length ≤ 72
      rw [PySem.ofString_length]
      omega
    simp only [PyData.leavesShort, decide_eq_true_eq]
    exact e2
  · simp only [PyData.showable, decide_eq_true_eq]
    omega
  · simp only [PyData.depth]
    exact Nat.le_refl 0
  · simp only [PyData.weight]
    split <;> omega
theorem sm_bool {b : Bool} : Sm 0 240 (.bool b) := ⟨rfl, rfl, by simp only [PyData.depth]; exact Nat.le_refl 0, by simp only [PyData.weight]; omega⟩
theorem sm_none : Sm 0 240 .none := ⟨rfl, rfl, by simp only [PyData.depth]; exact Nat.le_refl 0, by simp only [PyData.weight]; omega⟩
theorem sm_str {x : Str} (h : (x.cps.toList.all fun c => decide (c < 16 ^ 8)) = true) (hl : x.cps.size ≤ 240) : Sm 0 240 (.str x) := ⟨by simp only [PyData.leavesShort]; exact h, rfl, by simp only [PyData.depth]; exact Nat.le_refl 0, by simp only [PyData.weight]; exact hl⟩
theorem sm_all {k n : Nat} : ∀ {ds : List PyData}, (∀ d ∈ ds, Sm k n d) → PyData.leavesShortAll 72 ds = true ∧ PyData.showableAll ds = true ∧ PyData.depthAll ds ≤ k ∧ PyData.weightAll ds ≤ ds.length * (n + 1)
  | [], _ => ⟨rfl, rfl, by simp only [PyData.depthAll]; omega, by simp only [PyData.weightAll]; omega⟩
  | d :: ds, h => by
    obtain ⟨a1, a2, a3, a4⟩ := h d List.mem_cons_self
    obtain ⟨b1, b2, b3, b4⟩ := sm_all fun y hy => h y (List.mem_cons_of_mem _ hy)
    refine ⟨?_, ?_, ?_, ?_⟩
    · simp only [PyData.leavesShortAll, a1, b1, Bool.and_self]
    · simp only [PyData.showableAll, a2, b2, Bool.and_self]
    · simp only [PyData.depthAll]
      omega
    · simp only [PyData.weightAll, List.length_cons, Nat.add_mul]
      omega
theorem sm_list {k n m : Nat} {ds : List PyData} (h : ∀ d ∈ ds, Sm k n d) (hl : ds.length ≤ m) : Sm (k + 1) (m * (n + 1)) (.list ds) := by
  obtain ⟨b1, b2, b3, b4⟩ := sm_all h
  refine ⟨by simp only [PyData.leavesShort]; exact b1, by simp only [PyData.showable]; exact b2, by simp only [PyData.depth]; omega, ?_⟩
  simp only [PyData.weight]
  exact Nat.le_trans b4 (Nat.mul_le_mul_right _ hl)
theorem sm_tuple {k n m : Nat} {ds : List PyData} (h : ∀ d ∈ ds, Sm k n d) (hl : ds.length ≤ m) : Sm (k + 1) (m * (n + 1)) (.tuple ds) := by
  obtain ⟨b1, b2, b3, b4⟩ := sm_all h
  refine ⟨by simp only [PyData.leavesShort]; exact b1, by simp only [PyData.showable]; exact b2, by simp only [PyData.depth]; omega, ?_⟩
  simp only [PyData.weight]
  exact Nat.le_trans b4 (Nat.mul_le_mul_right _ hl)
/-- what the law draws: an end, or an int that is not large -/
def InV (v : V) : Prop := v = .str "bottom" ∨ v = .str "top" ∨ ∃ i : Int, v = .int i ∧ i.natAbs < 10 ^ 60
theorem InV.val {v : V} (h : InV v) : isValB v = true := by
  rcases h with rfl | rfl | ⟨i, rfl, _⟩ <;> rfl
theorem InV.flat {v : V} (h : InV v) : flat1 v = true := by
  rcases h with rfl | rfl | ⟨i, rfl, _⟩ <;> rfl
theorem InV.sm {v : V} (h : InV v) : Sm 0 240 (dV v) := by
  rcases h with rfl | rfl | ⟨i, rfl, hi⟩
  · exact sm_str (by decide +kernel) (by decide +kernel)
  · exact sm_str (by decide +kernel) (by decide +kernel)
  · exact sm_int (Nat.lt_of_lt_of_le hi (by decide))
theorem InV.kn {H : Hp} {v : V} (h : InV v) : ∃ t, Kn H v t := by
  rcases h with rfl | rfl | ⟨i, rfl, hi⟩
  · exact ⟨_, .str _⟩
  · exact ⟨_, .str _⟩
  · exact ⟨_, .int _⟩
theorem kn_val {H : Hp} {v : V} (h : isValB v = true) : ∃ t, Kn H v t := by
  rcases isValB_cases h with ⟨i, rfl⟩ | rfl | rfl
  · exact ⟨_, .int _⟩
  · exact ⟨_, .str _⟩
  · exact ⟨_, .str _⟩
/-! ### the number of a value, the value of a number -/
def big : Int := 10 ^ 64
def num (v : V) : Int := match v with | .int i => i | .str x => if x = "bottom" then - big else big | _ => 0
def shV (n : Int) : V := if n = -big then .str "bottom" else if n = big then .str "top" else .int n
section
variable {P : Program} {w : World} {K : PySem.W.Frag} {mg : Str → Option Value} {base : Heap} {a : At}
def sp__law_number : Sp := fun vs H Q _ => ∃ v, vs = [v] ∧ isValB v = true ∧ ∀ H', Ex H H' → Q (.int (num v)) H'
theorem ok__law_number (T : Txt K mg a) : Fn P w K mg base 1 a._law_number sp__law_number := by
  refine T.d__law_number.fn sc__law_number (fun _ _ _ _ _ _ us hl => match us, hl with | [_], _ => rfl) (fun vs H Q E h => ?_) (fun cdv A outer s H vs Q E hg hr h => ?_)
  · obtain ⟨_, rfl, _⟩ := h
    rfl
  · obtain ⟨v, rfl, hv, q⟩ := h
    have hu := hr.units
    have hu1 : (A.deeper _).units + 1 < cLine := Nat.lt_of_le_of_lt (Nat.add_le_add_left (by decide) _) hu
    refine ⟨_, (pss_one (ps_ret (pe_dget2 hu1 (pe_disp (pps_cons pe_str (pe_un un_neg (pe_op op_pow pe_int pe_int)) (pps_cons pe_str (pe_op op_pow pe_int pe_int) pps_nil)) (by rfl) (by rfl) (fun z => by cases z) (by decide)) (pv 0) (pv 0) ⟨rfl, rfl, rfl, rfl⟩))), ?_⟩
    refine fun p hp => ⟨10, 64, rfl, rfl, ⟨by decide, by decide, by decide⟩, _, rfl, 10, 64, rfl, rfl, ⟨by decide, by decide, by decide⟩, upd_same, [(.inr "bottom", .int (-big)), (.inr "top", .int big)], rfl, by decide, p, rfl, .inl ⟨_, .inl upd_same⟩, v, rfl, v, rfl, ?_⟩
    have up : Ex H (upd (upd H p (.dK [])) p (.dK (mergeK [] [(.inr "bottom", .int (-big)), (.inr "top", .int big)]))) := fun b o hb => by
      rw [upd_ne (ne_of_none hb hp), upd_ne (ne_of_none hb hp)]
      exact hb
    rcases isValB_cases hv with ⟨i, rfl⟩ | rfl | rfl
    · exact ⟨none, .inl ⟨_, .inl i, .inl upd_same, rfl, rfl⟩, q _ up⟩
    · exact ⟨some (.int (-big)), .inl ⟨_, .inr "bottom", .inl upd_same, rfl, by decide +kernel⟩, q _ up⟩
    · exact ⟨some (.int big), .inl ⟨_, .inr "top", .inl upd_same, rfl, by decide +kernel⟩, q _ up⟩
end
end K16
namespace K16
open PySem PySem.Spec PyProof.Rows L2 LG Evl
section
variable {P : Program} {w : World} {K : PySem.W.Frag} {mg : Str → Option Value} {base : Heap} {a : At}
/-! ### the places of a term -/
def sp_places_in (a : At) (n : Nat) : Sp := fun vs H Q _ => ∃ v t, vs = [v] ∧ TM.TmAt (csOf a) H v t ∧ TM.Ok t ∧ t.depth < n ∧ t.depth ≤ 4 ∧ ∀ p H', H p = none → Ex H H' → H' p = some (.lst (t.places.map V.str)) → Q (.ref p) H'
theorem placesAll_app : ∀ (ts us : List TM.Tree), TM.Tree.placesAll (ts ++ us) = TM.Tree.placesAll ts ++ TM.Tree.placesAll us
  | [], us => by simp [TM.Tree.placesAll]
  | t :: ts, us => by
    rw [List.cons_append, TM.Tree.placesAll, TM.Tree.placesAll, placesAll_app ts us, List.append_assoc]
theorem ok_places_in (T : Txt K mg a) : ∀ n, Fn P w K mg base (n + 2) a.places_in (sp_places_in a n) := by
  intro n
  induction n with
  | zero =>
    refine T.d_places_in.fn sc_places_in (fun _ _ _ _ _ _ us hl => match us, hl with | [_], _ => rfl) (fun vs H Q E h => ?_) (fun cdv A outer s H vs Q E hg hr h => ?_)
    · obtain ⟨_, _, rfl, _⟩ := h
      rfl
    · obtain ⟨_, t, _, _, _, hd, _⟩ := h
      exact absurd hd (Nat.not_lt_zero _)
  | succ n ih =>
    have G_places_in := ih
    refine T.d_places_in.fn sc_places_in (fun _ _ _ _ _ _ us hl => match us, hl with | [_], _ => rfl) (fun vs H Q E h => ?_) (fun cdv A outer s H vs Q E hg hr h => ?_)
    · obtain ⟨_, _, rfl, _⟩ := h
      rfl
    · obtain ⟨v, t, rfl, ht, ok, hd, hd4, q⟩ := h
      have nd := sc_places_in.nd
      have hr2 := hr.mono (j := 2) (by omega)
      refine ⟨_, (pss_cons (ps_if (pt_val (pe_callB call_isi (by rfl) T.z_isinstance (by decide +kernel) (pa_cons (pv 0) (pa_cons (pe_glob (v := .ref a.k_Place) (by rfl) T.g_Place.m rfl) pa_nil)))) (pss_one (ps_ret (pe_lst (pa_cons (pe_getA (G := gNm a) (CX := CX0) (pv 0) (g_nm T) hr2 pass0 rfl) pa_nil)))) pss_nil)
    (pss_cons (ps_if (pt_val (pe_callB call_isi (by rfl) T.z_isinstance (by decide +kernel) (pa_cons (pv 0) (pa_cons (pe_glob (v := .ref a.k_End) (by rfl) T.g_End.m rfl) pa_nil)))) (pss_one (ps_ret (pe_lst pa_nil))) pss_nil)
    (pss_cons (ps_set (i := 1) nd rfl (.inl rfl) (pe_lst pa_nil))
    (pss_cons (ps_for PassesOwn.leaving rfl (pi_tup (pe_getA (G := gParts a) (CX := CX0) (pv 0) (g_parts T) hr2 pass0 rfl)) (pg_name (i := 2) nd rfl (.inl rfl))
      (pss_one (ps_expr (pe_bm PySem.F.plainAttrs_list PySem.F.slot_list_extend PySem.F.type_list_extend mt_extend (pv 1) (pa_cons (pe_fn G_places_in hg (hr.mono (by omega)) T.d_places_in.kp T.d_places_in.m (by rfl) passL (pa_cons (pv 2) pa_nil)) pa_nil)))))
    (pss_one (ps_ret (pv 1))))))), ?_⟩
      have two : ∀ {x dx p C : Addr} {dp : Int} {xs : List V} {ts : List TM.Tree}, H x = some (.ins C dx [("own_depth", .int dp), ("own_parts", .ref p)]) → (C = a.k_Lesser ∨ C = a.k_Greater) → H p = some (.tup xs) → xs.length = ts.length → (∀ (i : Nat) (y : V) (t : TM.Tree), xs[i]? = some y → ts[i]? = some t → TM.TmAt (csOf a) H y t) → TM.Ln ts.length → (∀ t ∈ ts, TM.Ok t) → TM.Tree.depthAll ts < n → TM.Tree.depthAll ts ≤ 3 →
          (∀ l H', H l = none → Ex H H' → H' l = some (.lst ((TM.Tree.placesAll ts).map V.str)) → Q (.ref l) H') → ∀ H2, Ex H H2 → tSeq (tAsg (tLst tNil) (gName 1)) (tSeq (tFor (iTup K (tGetA (gParts a) (tVar 0))) (gName 2) (tDrop (tBM K "list" rExtend (tVar 1) (tCons (tFn (sp_places_in a n) E0 (tCons (tVar 2) tNil)) tNil)))) (tRet (tVar 1))) { nx := fun _ H' => Q .non H', rt := Q } (start ["term", "found", "part"] [.ref x]) H2 := by
        intro x dx p C dp xs ts hx hC hp hl hxs hln hok hdn hd3 q H2 e2
        have h8 := hln.eight
        refine ⟨(by decide : 0 ≤ sizeLine), fun l hl0 => ?_⟩
        have ll := fresh_back e2 hl0
        refine ⟨.ref x, rfl, x, C, dx, _, "own_parts", .ref p, rfl, (e2.trans (Ex.new hl0)) _ _ hx, ⟨hC, rfl⟩, rfl, p, rfl, ⟨xs, st_of ((e2.trans (Ex.new hl0)) _ _ hp)⟩, ?_⟩
        refine for_tup (K := K) (a := p) (xs := xs) (fun i σ' H' => (∃ u, σ' = [some (.ref x), some (.ref l), u]) ∧ Ex H H' ∧ H' l = some (.lst ((TM.Tree.placesAll (ts.take i)).map V.str))) ⟨⟨_, rfl⟩, e2.trans (Ex.new hl0), by rw [List.take_zero]; exact upd_same⟩ (fun i σ' H' _ h => st_of (h.2.1 _ _ hp)) ?_ ?_
        · rintro i y σ' H' hi ⟨⟨u, rfl⟩, e1, h1⟩
          have hi2 : i < ts.length := hl ▸ (List.getElem?_eq_some_iff.mp hi).1
          have ht : ts[i]? = some ts[i] := List.getElem?_eq_getElem hi2
          have hm : ts[i] ∈ ts := List.getElem_mem hi2
          refine ⟨.ref l, rfl, .inl ⟨rfl, _, sq_of h1⟩, ?_⟩
          refine ⟨y, rfl, y, ts[i], rfl, (hxs i y _ hi ht).up e1, hok _ hm, Nat.lt_of_le_of_lt (TM.depth_mem hm) hdn, Nat.le_trans (TM.depth_mem hm) (by omega), fun z H3 hz e3 h3 => ?_⟩
          refine ⟨l, z, _, _, rfl, rfl, e3 _ _ h1, h3, sz_of ?_, ⟨_, rfl⟩, (e1.trans e3).mut ll, ?_⟩
          · have k1 : (TM.Tree.placesAll (ts.take i)).length ≤ 8 ^ 4 := TM.places_len 4 (.lesser (ts.take i ++ List.replicate (8 - (ts.take i).length) (.endd "top"))) (.lesser (.inr (.inr (.inr (by rw [List.length_append, List.length_replicate, List.length_take]; omega)))) fun t ht => by
              rcases List.mem_append.mp ht with ht | ht
              · exact hok t (List.mem_of_mem_take ht)
              · rw [List.eq_of_mem_replicate ht]
                exact .endd (by decide)) (by
              rw [TM.Tree.depth]
              have : TM.Tree.depthAll (ts.take i ++ List.replicate (8 - (ts.take i).length) (.endd "top")) ≤ 3 := depthAll_le fun t ht => by
                rcases List.mem_append.mp ht with ht | ht
                · exact Nat.le_trans (TM.depth_mem (List.mem_of_mem_take ht)) hd3
                · rw [List.eq_of_mem_replicate ht]
                  exact Nat.zero_le _
              omega) |> fun h => by
                rw [TM.Tree.places, placesAll_app, List.length_append] at h
                omega
            have k2 := TM.places_len 4 ts[i] (hok _ hm) (Nat.le_trans (TM.depth_mem hm) (by omega))
            rw [List.length_map, List.length_map]
            omega
          · rw [upd_same, ← List.map_append, List.take_succ, ht, Option.toList_some, placesAll_app]
            simp [TM.Tree.placesAll]
        · rintro σ' H' ⟨⟨u, rfl⟩, e1, h1⟩
          rw [hl, List.take_length] at h1
          exact ⟨_, rfl, q l H' ll e1 h1⟩
      cases ht with
      | @place x dx nm hx =>
        refine s_if (b := true) (et_isT (ev_var rfl) (fun H1 e => ty_ins T T.g_Place (e _ _ hx)) (kit_of T.g_Place T.x_Place_Place T.x_Place_Place)) (fun _ H1 e1 => ?_) (fun z => nomatch z)
        exact s_retL (el_lst (ea_cons (ev_getA (ev_var rfl) (e1 _ _ hx) ⟨rfl, rfl⟩ rfl) ea_nil) (by show 1 ≤ 100000; decide)) fun p H2 hp e2 h2 => q p H2 (fresh_back e1 hp) (e1.trans e2) h2
      | @endd x dx nm hx =>
        refine s_if (b := false) (et_isT (ev_var rfl) (fun H1 e => ty_ins T T.g_End (e _ _ hx)) (kit_of T.g_Place T.x_End_Place T.x_Place_Place)) (fun z => nomatch z) (fun _ H1 e1 => ?_)
        refine s_if (b := true) (et_isT (ev_var rfl) (fun H2 e => ty_ins T T.g_End ((e1.trans e) _ _ hx)) (kit_of T.g_End T.x_End_End T.x_End_End)) (fun _ H2 e2 => ?_) (fun z => nomatch z)
        exact s_retL (el_lst ea_nil (by decide)) fun p H3 hp e3 h3 => q p H3 (fresh_back (e1.trans e2) hp) ((e1.trans e2).trans e3) h3
      | @lesser x dx p xs ts hx hp hl hxs =>
        cases ok with
        | lesser hln hok =>
          refine s_if (b := false) (et_isT (ev_var rfl) (fun H1 e => ty_ins T T.g_Lesser (e _ _ hx)) (kit_of T.g_Place T.x_Lesser_Place T.x_Place_Place)) (fun z => nomatch z) (fun _ H1 e1 => ?_)
          refine s_if (b := false) (et_isT (ev_var rfl) (fun H2 e => ty_ins T T.g_Lesser ((e1.trans e) _ _ hx)) (kit_of T.g_End T.x_Lesser_End T.x_End_End)) (fun z => nomatch z) (fun _ H2 e2 => ?_)
          exact two hx (.inl rfl) hp hl hxs hln hok (Nat.lt_of_succ_lt_succ (by simpa [TM.Tree.depth] using hd)) (Nat.le_of_succ_le_succ (by simpa [TM.Tree.depth] using hd4)) q H2 (e1.trans e2)
      | @greater x dx p xs ts hx hp hl hxs =>
        cases ok with
        | greater hln hok =>
          refine s_if (b := false) (et_isT (ev_var rfl) (fun H1 e => ty_ins T T.g_Greater (e _ _ hx)) (kit_of T.g_Place T.x_Greater_Place T.x_Place_Place)) (fun z => nomatch z) (fun _ H1 e1 => ?_)
          refine s_if (b := false) (et_isT (ev_var rfl) (fun H2 e => ty_ins T T.g_Greater ((e1.trans e) _ _ hx)) (kit_of T.g_End T.x_Greater_End T.x_End_End)) (fun z => nomatch z) (fun _ H2 e2 => ?_)
          exact two hx (.inr rfl) hp hl hxs hln hok (Nat.lt_of_succ_lt_succ (by simpa [TM.Tree.depth] using hd)) (Nat.le_of_succ_le_succ (by simpa [TM.Tree.depth] using hd4)) q H2 (e1.trans e2)
end
end K16
/-! Sets of ints and texts that can be walked: add, a set comprehension, set(list), sorted. -/
namespace LG
open PySem PySem.Spec PyProof.Rows L2
def kyV : Value → Key
  | .int k _ => Sum.inl k
  | .str x _ => Sum.inr x
  | _ => Sum.inl 0
def ky (r : Int × Value) : Key := kyV r.2
section
variable (P : Program) (w : World)
def GdK (r : Int × Value) : Prop := ∃ k, (mixKind P w).is k r.2 = true ∧ r.1 = (mixKind P w).hash k
/-- the set at c: S its members, n their number -/
def SW (hp : Heap) (c : Addr) (S : Key → Bool) (n : Nat) : Prop :=
  ∃ ob rs pe tb, hp.get? c = some ob ∧ ob.ExactSet ∧ ob.data = .set rs pe tb ∧ (∀ r ∈ rs.toList, GdK P w r) ∧ (rs.toList.map ky).Nodup ∧ (∀ k, S k = true ↔ k ∈ rs.toList.map ky) ∧
    rs.size < scanBound ∧ tb.fits rs.size = true ∧ rs.size = n ∧ Ris tb.place.toList ∧ (w.params.followText "set-order" = true ∨ tb.led = true)
end
section
variable {P : Program} {w : World} {hp hp' : Heap} {c : Addr} {S : Key → Bool} {n : Nat}
theorem ky_of {k : Key} {v : Value} (q : (mixKind P w).is k v = true) : kyV v = k := by
  rcases keyIs_shape q with ⟨i, u, rfl, rfl⟩ | ⟨x, u, rfl, rfl⟩ <;> rfl
theorem SW.at (m : SW P w hp c S n) (k : ∀ ob, hp.get? c = some ob → hp'.get? c = some ob) : SW P w hp' c S n := by
  obtain ⟨ob, rs, pe, tb, ho, m⟩ := m
  exact ⟨ob, rs, pe, tb, k ob ho, m⟩
theorem SW.congr {S' : Key → Bool} (m : SW P w hp c S n) (q : ∀ k, S' k = S k) : SW P w hp c S' n := by
  rw [show S' = S from funext q]
  exact m
theorem gd_scan {r : Int × Value} (g : GdK P w r) : r.2.scannable = true := by
  obtain ⟨k, q, _⟩ := g
  rcases keyIs_shape q with ⟨i, u, rfl, e⟩ | ⟨x, u, rfl, e⟩ <;> rw [e] <;> rfl
theorem gd_elems {rs : List (Int × Value)} (g : ∀ r ∈ rs, GdK P w r) : ElemsOf (mixKind P w) rs := fun r hr => by
  obtain ⟨k, q1, q2⟩ := g r hr
  exact ⟨⟨k, q1, q2⟩, gd_scan (g r hr)⟩
theorem gd_is {r : Int × Value} (g : GdK P w r) (k : Key) : (mixKind P w).is k r.2 = true ↔ ky r = k := by
  obtain ⟨j, q, _⟩ := g
  have e : ky r = j := ky_of q
  rw [e]
  exact ⟨fun z => (mixKind P w).inj _ _ _ q z, fun z => z ▸ q⟩
theorem gd_mem {rs : List (Int × Value)} (g : ∀ r ∈ rs, GdK P w r) (k : Key) : k ∈ rs.map ky ↔ ∃ r ∈ rs, (mixKind P w).is k r.2 = true := by
  rw [List.mem_map]
  exact ⟨fun ⟨r, hr, q⟩ => ⟨r, hr, (gd_is (g r hr) k).2 q⟩, fun ⟨r, hr, q⟩ => ⟨r, hr, (gd_is (g r hr) k).1 q⟩⟩
theorem SW.setOf (m : SW P w hp c S n) : hp.SetOf (mixKind P w) c S n := by
  obtain ⟨ob, rs, pe, tb, ho, hx, hd, g, nd, hm, hb, hf, hn, _⟩ := m
  exact ⟨ob, rs, pe, tb, ho, hx, hd, gd_elems g, fun k => (hm k).trans (gd_mem g k), hb, hf, hn⟩
end
section
variable {P : Program} {w : World} {A : Around} {E : Value → Shared → Prop} {s : Shared} {c : Addr} {S : Key → Bool} {n : Nat}
theorem sw_store {hp : Heap} {ob : Obj} {rs rs' : Array (Int × Value)} {pe : Nat} {tb tb' : SetTable} (ho : hp.get? c = some ob) (hd : ob.data = .set rs pe tb) :
    (hp.update c (Obj.putSet rs' tb')).get? c = some { ob with data := .set rs' (pe + 1) tb' } := by
  have z := Heap.get?_update_self (Obj.putSet rs' tb') ho (by rw [putSet_of rs' tb' hd]; rfl)
  rwa [putSet_of rs' tb' hd] at z
theorem sw_tail {gv : Bool → Sem Unit} (hg : ∀ (b : Bool) (s1 : Shared) (Q' : Unit → Shared → Prop), Q' () s1 → wpAny (model P w) A (gv b) Q' E s1)
    {ob : Obj} {rs : Array (Int × Value)} {pe : Nat} {tb : SetTable} (ho : s.heap.get? c = some ob) (hex : ob.ExactSet) (hd : ob.data = .set rs pe tb)
    {rs1 : Array (Int × Value)} {tb2 : SetTable} {S' : Key → Bool} (g1 : ∀ r ∈ rs1.toList, GdK P w r) (n1 : (rs1.toList.map ky).Nodup) (m1 : ∀ k, S' k = true ↔ k ∈ rs1.toList.map ky)
    (b1 : rs1.size < scanBound) (f2 : tb2.fits rs1.size = true) (hr : Ris tb2.place.toList) (hl : w.params.followText "set-order" = true ∨ tb2.led = true) {was : Bool} {R : Option Bool → Shared → Prop}
    (hR : ∀ hp', Heap.SameBut c s.heap hp' → SW P w hp' c S' rs1.size → R (some true) { s with heap := hp' }) :
    wpAny (model P w) A (do
      storeSet c rs1 tb2
      if (!was && tb2.tooFull) = true then do
        gv (relayAll tb2 rs1 (SetTable.grown rs1.size)).2.2
        storeSet c (relayAll tb2 rs1 (SetTable.grown rs1.size)).1 (relayAll tb2 rs1 (SetTable.grown rs1.size)).2.1
        pure (some true)
      else pure (some true)) R E s := by
  refine wpAny_bind (wpAny_storeSet_of ho hd ?_ (fits_of_scanBound b1))
  have o1 := sw_store (rs' := rs1) (tb' := tb2) ho hd
  have u1 := Heap.SameBut.update s.heap c (Obj.putSet rs1 tb2)
  split
  · have q1 := relayAll_perm tb2 rs1 (SetTable.grown rs1.size)
    have q2 := relayAll_fits tb2 rs1 (SetTable.grown rs1.size)
    have q3 := relayAll_ris tb2 rs1 (SetTable.grown rs1.size)
    have q4 := relayAll_led tb2 rs1 (SetTable.grown rs1.size)
    generalize relayAll tb2 rs1 (SetTable.grown rs1.size) = Z at q1 q2 q3 q4 ⊢
    obtain ⟨rs2, tb3, gone⟩ := Z
    dsimp only at q1 q2 q3 q4 ⊢
    have sz : rs2.size = rs1.size := by rw [← Array.length_toList, q1.length_eq, Array.length_toList]
    have b2 : rs2.size < scanBound := by omega
    refine wpAny_bind (hg _ _ _ ?_)
    refine wpAny_bind (wpAny_storeSet_of o1 rfl ?_ (fits_of_scanBound b2))
    refine wpAny_pure (hR _ (u1.trans (Heap.SameBut.update _ c _)) ?_)
    exact ⟨_, rs2, _, tb3, sw_store (rs' := rs2) (tb' := tb3) o1 rfl, hex, rfl, fun r hr => g1 r (q1.mem_iff.mp hr), (q1.map ky).nodup_iff.mpr n1, fun k => (m1 k).trans (q1.map ky).mem_iff.symm, b2, q2, sz, q3, hl.imp id fun z => by rw [q4]; exact z⟩
  · exact wpAny_pure (hR _ u1 ⟨_, rs1, _, tb2, o1, hex, rfl, g1, n1, m1, b1, f2, rfl, hr, hl⟩)
theorem sw_add {k : Key} {v : Value} {Q : Bool → Shared → Prop} (hk : (mixKind P w).is k v = true) (m : SW P w s.heap c S n) (room : n + 1 < scanBound)
    (hQ : ∀ hp', Heap.SameBut c s.heap hp' → SW P w hp' c (fun j => S j || decide (j = k)) (if S k = true then n else n + 1) → Q (!S k) { s with heap := hp' }) :
    wpAny (model P w) A (setAddHashed c v ((mixKind P w).hash k)) Q E s := by
  obtain ⟨ob, rs, pe, tb, ho, hex, hd, g, nd, hm, hb, hf, hn, hr, hl⟩ := m
  have sc : v.scannable = true := gd_scan (r := ((mixKind P w).hash k, v)) ⟨k, hk, rfl⟩
  have el : ElemsOf (mixKind P w) rs.toList := gd_elems g
  unfold setAddHashed setAddHashedIn
  refine wpAny_holding (wpAny_bind (wpAny_setState_of ho hd hf ?_))
  dsimp only
  rw [byScan_of sc hb el]
  simp only [↓reduceIte]
  unfold setAddByScan
  refine wpAny_bind (wpAny_bind (wpAny_rule ?_))
  refine wpAny_bind (wpAny_setScan_of hk ho hd hf el ?_)
  cases fi : List.findIdx? (fun r => (mixKind P w).is k r.2) rs.toList with
  | some j =>
    dsimp only
    obtain ⟨hj, pj, _⟩ := List.findIdx?_eq_some_iff_getElem.mp fi
    have sk : S k = true := (hm k).2 ((gd_mem g k).2 ⟨rs.toList[j], List.getElem_mem hj, pj⟩)
    have z := hQ s.heap (Heap.SameBut.refl c s.heap) ⟨ob, rs, pe, tb, ho, hex, hd, g, nd, fun i => by
      rw [Bool.or_eq_true, decide_eq_true_eq, ← hm i]
      exact ⟨fun y => y.elim id (fun e => e ▸ sk), .inl⟩, hb, hf, by rw [if_pos sk]; exact hn, hr, hl⟩
    rw [sk] at z
    exact wpAny_pure (wpAny_pure z)
  | none =>
    dsimp only
    have nk : k ∉ rs.toList.map ky := fun z => by
      obtain ⟨r, hr, q⟩ := (gd_mem g k).1 z
      have y := List.findIdx?_eq_none_iff.mp fi r hr
      rw [q] at y
      cases y
    have sk : S k = false := Bool.eq_false_iff.mpr fun z => nk ((hm k).1 z)
    have gw : ∀ (b : Bool) {s1 : Shared} {Q' : Unit → Shared → Prop}, Q' () s1 → wpAny (model P w) A (match b with | true => rule "set.scan.the-table-gave-way" | false => pure ()) Q' E s1 :=
      fun b s1 Q' q => by cases b <;> first | exact wpAny_pure q | exact wpAny_rule q
    have q1 := layNew_perm tb rs ((mixKind P w).hash k) v
    have q2 := layNew_fits tb rs ((mixKind P w).hash k) v
    have q3 := layNew_ris tb rs ((mixKind P w).hash k) v hr
    have q4 := layNew_led tb rs ((mixKind P w).hash k) v
    generalize layNew tb rs ((mixKind P w).hash k) v = Z at q1 q2 q3 q4 ⊢
    obtain ⟨rs1, tb1, was, gone⟩ := Z
    dsimp only at q1 q2 q3 q4 ⊢
    rw [Array.toList_push] at q1
    have pc : rs1.toList.Perm (((mixKind P w).hash k, v) :: rs.toList) := q1.trans (List.perm_append_singleton _ _)
    have ek : ky ((mixKind P w).hash k, v) = k := ky_of hk
    have pk : (rs1.toList.map ky).Perm (k :: rs.toList.map ky) := by
      have z := pc.map ky
      rwa [List.map_cons, ek] at z
    have g1 : ∀ r ∈ rs1.toList, GdK P w r := fun r hr => by
      rcases List.mem_cons.mp (pc.mem_iff.mp hr) with z | z
      · exact z ▸ ⟨k, hk, rfl⟩
      · exact g r z
    have n1 : (rs1.toList.map ky).Nodup := pk.nodup_iff.mpr (List.nodup_cons.mpr ⟨nk, nd⟩)
    have m1 : ∀ i, (S i || decide (i = k)) = true ↔ i ∈ rs1.toList.map ky := fun i => by
      rw [Bool.or_eq_true, decide_eq_true_eq, hm i, pk.mem_iff, List.mem_cons]
      exact Or.comm
    have sz : rs1.size = n + 1 := by rw [← Array.length_toList, pc.length_eq, List.length_cons, Array.length_toList, hn]
    have b1 : rs1.size < scanBound := by omega
    have hl1 : w.params.followText "set-order" = true ∨ tb1.led = true := hl.imp id fun z => by rw [q4]; exact z
    have fin : ∀ hp', Heap.SameBut c s.heap hp' → SW P w hp' c (fun j => S j || decide (j = k)) rs1.size → Q true { s with heap := hp' } := fun hp' u r => by
      have z := hQ hp' u
      rw [sk] at z
      rw [sz] at r
      exact z r
    refine wpAny_bind (gw _ ?_)
    split
    · refine wpAny_bind ?_
      rw [hashByValue_scannable 8 sc]
      refine wpAny_pure (sw_tail ?_ ho hex hd g1 n1 m1 b1 ?_ ?_ ?_ ?_)
      · intro b s1 Q' q
        cases b <;> first | exact wpAny_pure q | exact wpAny_rule q
      · first | (split <;> first | exact q2 | exact SetTable.fits_plain_off q2) | exact q2
      · first | (split <;> exact q3) | exact q3
      · first | (split <;> exact hl1) | exact hl1
      · intro hp' u r
        dsimp only
        exact wpAny_pure (fin hp' u r)
    · refine wpAny_bind (wpAny_pure ?_)
      simp only [↓reduceIte]
      refine sw_tail ?_ ho hex hd g1 n1 m1 b1 q2 q3 hl1 ?_
      · intro b s1 Q' q
        cases b <;> first | exact wpAny_pure q | exact wpAny_rule q
      · intro hp' u r
        dsimp only
        exact wpAny_pure (fin hp' u r)
theorem sw_call_add {k : Key} {v : Value} {Q : Value → Shared → Prop} (hk : (mixKind P w).is k v = true) (m : SW P w s.heap c S n) (room : n + 1 < scanBound)
    (hQ : ∀ hp', Heap.SameBut c s.heap hp' → SW P w hp' c (fun j => S j || decide (j = k)) (if S k = true then n else n + 1) → Q .none { s with heap := hp', toks := s.toks + 1 }) :
    wpAny (model P w) A (call (.builtin "set.add") [.ref c, v]) Q E s := by
  refine wpAny_call_entry F.slot_set_add m.setOf.typeIs F.entry_set_add ?_ (F.args_set_add_2 _ _)
  unfold Builtin.«set.add» Builtin.Frozenset.oneOther
  simp only [List.isEmpty_nil, bind_assoc]
  unfold Builtin.Frozenset.addrOf setAdd
  refine wpAny_bind (wpAny_pure ?_)
  try dsimp only
  refine wpAny_bind (wpAny_pure ?_)
  try dsimp only
  refine wpAny_bind (wpAny_holding (wpAny_bind ((mixKind P w).pyHash hk ?_)))
  refine sw_add (s := { s with toks := s.toks + 1 }) hk m room fun hp' u r => ?_
  show wpAny _ _ (ret Value.none) _ _ _
  exact wpAny_pure ⟨_, rfl, hQ hp' u r⟩
end
end LG
/-! Sets of ints and texts: over the layer. -/
namespace LG
open PySem PySem.Spec PyProof.Rows L2
section
variable {P : Program} {w : World} {hp : Heap} {c : Addr} {S : Key → Bool} {n : Nat}
theorem sw_nil (ho : hp.get? c = some (oSet w)) : SW P w hp c (fun _ => false) 0 := by
  refine ⟨_, #[], 0, .fresh 0 0 (!w.params.followText "set-order"), ho, ⟨rfl, rfl, rfl⟩, rfl, fun r hr => by simp at hr, by simp, fun k => by simp, by decide, by rfl, rfl, by
    show Ris ([] : List Nat)
    exact List.Pairwise.nil, ?_⟩
  show _ ∨ (!w.params.followText "set-order") = true
  cases w.params.followText "set-order"
  · exact .inr rfl
  · exact .inl rfl
end
/-- the set of keys at c -/
def SWO (P : Program) (w : World) (c : Addr) (S : Key → Bool) (n : Nat) : HO := .ext fun hp => SW P w hp c S n
theorem swo_new {P : Program} {w : World} {H : Hp} {hp : Heap} {c : Addr} {S : Key → Bool} {n : Nat} (m : SW P w hp c S n) : ObjOk P w H hp c (SWO P w c S n) := by
  have ⟨ob, _, _, _, ho, _⟩ := m
  exact ⟨m, ⟨ob, ho⟩, fun h1 h2 p k => SW.at p k⟩
theorem swo_get {X : Cx} {pins : List (Addr × Obj)} {σ : L2.St} {H : Hp} {s : Shared} {c : Addr} {S : Key → Bool} {n : Nat} (I : Inv X pins σ H s) (h : H c = some (SWO X.prog X.w c S n)) : SW X.prog X.w s.heap c S n := (I.hok c _ h).1
def setK : SetK1 Key where
  toV := kV
  SO := fun P w c S n => SWO P w c S n
  fresh := fun h => swo_new (sw_nil h)
  add := fun {X pins σ H s E D S n y u Q} I hD room r h => by
    refine sw_call_add (kV_is r) (swo_get I hD) room fun hp' u1 new => ?_
    have he : ∃ ob, hp'.get? D = some ob := by
      obtain ⟨ob, _, _, _, ho, _⟩ := id new
      exact ⟨ob, ho⟩
    exact h _ (I.write (e := D) (t' := s.toks + 1) (by rw [hD]; trivial) (.inl rfl) (fun b o hb ho => (u1.2 b hb).trans ho) he (swo_new new))
section
variable {P : Program} {w : World} {A : Around} {E : Value → Shared → Prop} {s : Shared}
instance memK (j : Key) (ks : List Key) : Decidable (j ∈ ks) := decidable_of_iff (ks.any (fun x => decide (x = j)) = true) (by
  rw [List.any_eq_true]
  exact ⟨fun ⟨x, h, e⟩ => of_decide_eq_true e ▸ h, fun h => ⟨j, h, decide_eq_true rfl⟩⟩)
/-- the loop that puts in what an iterator yields -/
theorem sw_update {I : Addr} {fp wr : List Addr} {G : Array GenState → Array GenState → Prop} {n : Nat} {Pv : Nat → Value → Prop} {St : Nat → Shared → Prop} {R : Result → Shared → Prop}
    (W : WalksS P w A.in1 I fp wr G n Pv St) (c : Addr) (hcf : c ∉ fp) (ks : List Key) (hn : n = ks.length) (hb : ks.length + 1 < scanBound) (hval : ∀ i v, Pv i v → ∃ k, ks[i]? = some k ∧ (mixKind P w).is k v = true) :
    ∀ (d i : Nat) (s : Shared), n - i = d → i ≤ n → St i s → (∃ m, m ≤ i ∧ SW P w s.heap c (fun j => decide (j ∈ ks.take i)) m) →
      (∀ s' m, Moved (c :: wr) G s s' → m ≤ n → SW P w s'.heap c (fun j => decide (j ∈ ks)) m → R (.ok (.ret .none)) s') →
      codeAny (model P w) A (.builtin "set.update.loop" ⟨[.ref c, .ref I], []⟩) R s := by
  have hcw : c ∉ wr := fun z => hcf (W.sub _ z)
  have sub : ∀ b ∈ wr, b ∈ c :: wr := fun b z => List.mem_cons_of_mem _ z
  intro d
  induction d with
  | zero =>
    intro i s hd hi hst ⟨m, hm, hS⟩ hR
    obtain rfl : i = n := by omega
    refine codeAny_builtin F.entry_set_update_loop ?_
    rw [Around.under_plainId F.plain_set_update_loop _]
    show wpAny _ A.in1 (pyNext (.ref I) >>= _) _ _ s
    refine wpAny_bind (W.done s _ _ hst fun s' mv => ?_)
    show wpAny _ A.in1 (ret Value.none) _ _ s'
    rw [List.take_of_length_le (by omega : ks.length ≤ i)] at hS
    exact wpAny_pure (hR s' m (mv.mono sub) hm (hS.at fun o e => mv.heap c o hcw e))
  | succ d ih =>
    intro i s hd hi hst ⟨m, hm, hS⟩ hR
    have lt : i < n := by omega
    refine codeAny_builtin F.entry_set_update_loop ?_
    rw [Around.under_plainId F.plain_set_update_loop _]
    show wpAny _ A.in1 (pyNext (.ref I) >>= _) _ _ s
    refine wpAny_bind (W.item i s _ _ lt hst fun v s' hP hst' mv => ?_)
    obtain ⟨z, hz, hk⟩ := hval i v hP
    have hS1 : SW P w s'.heap c (fun j => decide (j ∈ ks.take i)) m := hS.at fun o e => mv.heap c o hcw e
    show wpAny _ A.in1 (holding [v] (setAdd c v) >>= _) _ _ s'
    refine wpAny_bind (wpAny_holding ?_)
    unfold setAdd
    refine wpAny_holding (wpAny_bind ((mixKind P w).pyHash (k := z) hk ?_))
    refine sw_add (s := { s' with toks := s'.toks + 1 }) hk hS1 (by omega) fun hp' u hS2 => ?_
    have hS3 : SW P w hp' c (fun j => decide (j ∈ ks.take (i + 1))) (if decide (z ∈ ks.take i) = true then m else m + 1) := hS2.congr fun j => by
      rw [List.take_add_one, hz]
      simp [List.mem_append]
    have hm3 : (if decide (z ∈ ks.take i) = true then m else m + 1) ≤ i + 1 := by
      split <;> omega
    refine wpAny_pure ⟨plainId_quiet F.plain_set_update_loop _, ih (i + 1) _ (by omega) lt (W.frame _ s' _ _ hst' (Nat.le_succ _) fun b hb o e => ?_) ⟨_, hm3, hS3⟩ fun s2 m2 mv2 hm2 hS4 => ?_⟩
    · rw [u.2 b (fun q : b = c => hcf (by rw [← q]; exact hb))]
      exact e
    · refine hR s2 m2 (Moved.trans W.gtrans ((mv.mono sub).then_heap (Nat.le_succ _) fun b o hb e => ?_) mv2) hm2 hS4
      rw [u.2 b (fun q : b = c => hb (by rw [q]; exact List.mem_cons_self))]
      exact e
/-- set.__init__(c, l): the members of the list l, from left to right -/
theorem sw_init_list {l : Addr} {items : Array Value} (ks : List Key) (hh : A.handled = none) (hl : s.heap.IsList l items) (hit : List.length ks = items.size) (hk : ∀ (i : Nat) (v : Value), items[i]? = some v → ∃ k, ks[i]? = some k ∧ (mixKind P w).is k v = true) (hb : ks.length + 1 < scanBound)
    {R : Result → Shared → Prop} (h : ∀ (h' : Heap) (tk c : Nat), SW P w h' s.heap.objs.size (fun j => decide (j ∈ ks)) c → c ≤ ks.length → (∀ b o, s.heap.get? b = some o → h'.get? b = some o) → R (.ok (.ret .none)) { s with heap := h', toks := tk }) :
    codeAny (model P w) A (.call (.builtin "set.__init__") ⟨[.ref s.heap.objs.size, .ref l], []⟩) R { s with heap := s.heap.push (oSet w) } := by
  have hisz : items.size = ks.length := hit.symm
  have hT : Shared.TypeIs { s with heap := s.heap.push (oSet w) } (.ref s.heap.objs.size) "set" := ⟨_, oSet_in, rfl⟩
  have hi : s.heap.objs.size + 1 = (s.heap.push (oSet w)).objs.size := (Heap.size_push _ _).symm
  refine codeAny_call_builtin PySem.F.called_set.init.plain PySem.F.entry_set_init (check_set_init_1 hT ?_)
  obtain ⟨ol, hol, hcl, nl, hdl⟩ := hl
  obtain ⟨ocls, odict, odata, oslots⟩ := ol
  simp only at hcl hdl
  subst hcl
  subst hdl
  have hol' := Heap.get?_push_of_some (oSet w) hol
  have hl1 : (s.heap.push (oSet w)).IsList l items := ⟨_, hol', rfl, nl, rfl⟩
  have f1 := PySem.F.sub_list_set
  have f2 := PySem.F.sub_list_frozenset
  have f3 : (Value.type "list" == Value.type "dict") = false := by decide
  have hlS : l < s.heap.objs.size := Heap.lt_size hol
  unfold Builtin.«set.__init__» noKeywords Builtin.Frozenset.updateFrom
  generalize hPI : pyIter = PI
  wp_walk
  subst hPI
  refine wpAny_pyIter_list hl1 (wpAny_bind (wpAny_runValue ?_))
  have hh3 : A.in1.in1.handled = none := by simp [hh]
  have nI : l ≠ (s.heap.push (oSet w)).objs.size := by
    rw [← hi]
    exact Nat.ne_of_lt (Nat.lt_succ_of_lt hlS)
  have nS : s.heap.objs.size ∉ [(s.heap.push (oSet w)).objs.size, l] := by
    rw [← hi]
    simp only [List.mem_cons, List.not_mem_nil, or_false, not_or]
    exact ⟨Nat.ne_of_lt (Nat.lt_succ_self _), Nat.ne_of_gt hlS⟩
  refine sw_update ((Walks.list hh3 _ l nI items).toS) s.heap.objs.size nS ks hisz hb hk (items.size - 0) 0 _ (by omega) (Nat.zero_le _) ?hst ?hS0 ?hR
  case hst => exact ⟨⟨_, Heap.get?_push_size _ rfl, rfl, rfl⟩, hl1.push _⟩
  case hS0 =>
    have z : ((s.heap.push (oSet w)).push { cls := .type "list_iterator", data := .fields #[.ref l, .int 0 0] }).get? s.heap.objs.size = some (oSet w) := Heap.get?_push_of_some _ oSet_in
    exact ⟨0, Nat.le_refl 0, (sw_nil z).congr fun k => by simp⟩
  intro s' c hm hc hS
  obtain ⟨h', g', d', tk', os'⟩ := s'
  obtain rfl : g' = s.gens := hm.gens
  obtain rfl : d' = s.drawn := hm.drawn
  obtain rfl : os' = s.os := hm.os
  show wpAny _ _ _ _ _ _
  refine wpAny_pure ?_
  show wpAny _ _ (ret Value.none) _ _ _
  rw [hisz] at hc
  refine wpAny_pure (h h' tk' c hS hc fun b o e => hm.heap b o ?_ (Heap.get?_push_of_some _ (Heap.get?_push_of_some _ e)))
  have hb0 := Heap.lt_size e
  rw [← hi]
  simp only [List.mem_cons, List.not_mem_nil, or_false, not_or]
  exact ⟨Nat.ne_of_lt hb0, Nat.ne_of_lt (Nat.lt_succ_of_lt hb0)⟩
/-- set(l), l a list of ints and texts -/
theorem call_setK_list {l : Addr} {items : Array Value} (ks : List Key) {Q : Value → Shared → Prop} (hh : A.handled = none) (hl : s.heap.IsList l items) (hit : List.length ks = items.size) (hk : ∀ (i : Nat) (v : Value), items[i]? = some v → ∃ k, ks[i]? = some k ∧ (mixKind P w).is k v = true) (hb : ks.length + 1 < scanBound)
    (h : ∀ (h' : Heap) (tk c : Nat), SW P w h' s.heap.objs.size (fun j => decide (j ∈ ks)) c → c ≤ ks.length → (∀ b o, s.heap.get? b = some o → h'.get? b = some o) → Q (.ref s.heap.objs.size) { s with heap := h', toks := tk }) :
    wpAny (model P w) A (call (.type "set") [.ref l]) Q E s := by
  obtain ⟨c, tl, hmro⟩ := PySem.F.called_set.mro
  have hmade := PySem.F.called_set.made
  have hsub := PySem.F.called_set.sub
  have h1 := PySem.F.called_set.notType
  have h2 := PySem.F.called_set.canCreate
  have hct := PySem.F.typeCall_set_1 (.ref l)
  have hli := PySem.F.called_set.init.lookup
  have hbi := PySem.F.called_set.init.bind (.ref s.heap.objs.size)
  refine wpAny_call (codeAny_of_tree ?_)
  show wpAny _ _ (callAny (.type "set") _) _ _ _
  refine wpAny_pure ⟨Code.quiet_builtin _ (by decide +kernel), codeAny_builtin PySem.F.entry_type_call ?_⟩
  rw [Around.under_plain (weight_type_call_type "set" [.ref l] []) rfl]
  repeat (any_goals (first | assumption | wp_step))
  refine codeAny_mono (code_set_led1 (.ref l) (E := E) (Q₁ := fun obj s₁ => obj = .ref s.heap.objs.size ∧ s₁ = { s with heap := s.heap.push (oSet w) }) ⟨rfl, rfl⟩) fun r s₁ hr => ?_
  match r, hr with
  | .error e, hr => exact hr
  | .ok (.ret obj), ⟨e1, e2⟩ =>
    subst e1 e2
    have hT : Shared.TypeIs { s with heap := s.heap.push (oSet w) } (.ref s.heap.objs.size) "set" := ⟨_, oSet_in, rfl⟩
    repeat (any_goals (first | assumption | wp_step))
    refine codeAny_mono (sw_init_list (R := wants (fun r s₂ => r = .none ∧ ∃ h' tk c, s₂ = { s with heap := h', toks := tk } ∧ SW P w h' s.heap.objs.size (fun j => decide (j ∈ ks)) c ∧ c ≤ ks.length ∧
      (∀ b o, s.heap.get? b = some o → h'.get? b = some o)) E) ks (by simp [hh]) hl hit hk hb fun h' tk c a b e => ⟨rfl, h', tk, c, rfl, a, b, e⟩) fun r₂ s₂ hr₂ => ?_
    match r₂, hr₂ with
    | .ok (.ret r), ⟨e1, h', tk, c', e2, hS', hc', hk'⟩ =>
      subst e1 e2
      repeat (any_goals (first | assumption | wp_step))
      exact h _ _ _ hS' hc' hk'
    | .error e, hr₂ => exact hr₂
/-- sorted(c), c a set of texts, fewer than 64 -/
theorem sw_sorted {c : Addr} {S : Key → Bool} {n : Nat} {Q : Value → Shared → Prop} (m : SW P w s.heap c S n) (hS : ∀ k, S k = true → ∃ x, k = Sum.inr x) (hh : A.handled = none) (h64 : n < 64)
    (hQ : ∀ s' p (out : Array Value) (e : Nat) (xs : List Str), (∀ b o, s.heap.get? b = some o → s'.heap.get? b = some o) → s'.gens = s.gens → s'.os = s.os → s.heap.objs.size ≤ p →
      s'.heap.get? p = some (seqObj "list" out e) → StrsAre out.toList xs → sortedS xs = true → xs.Nodup → (∀ x, x ∈ xs ↔ S (Sum.inr x) = true) → xs.length = n → Q (.ref p) s') :
    wpAny (model P w) A (call (.builtin "sorted") [.ref c]) Q E s := by
  obtain ⟨ob, rs, pe, tb, ho, hex, hd, g, nd, hm, hb, hf, hn, hr, hl⟩ := m
  refine Calls.call_function_entry kind_sorted plain_sorted entry_sorted (args_sorted1 _) ?_
  unfold Builtin.«sorted»
  refine wpAny_bind (m := checkCount "sorted" 1 1 _) (wpAny_pure ?_)
  refine wpAny_bind (collect_set (A := A.in1) hh ⟨ob, ho, hex.1, hd⟩ hf hb hr hl fun s1 vs k1 hz g1 o1 pm => ?_)
  have hvl : vs.length = n := by rw [pm.length_eq, List.length_map, Array.length_toList]; exact hn
  have each : ∀ v ∈ vs, ∃ x u, v = Value.str x u ∧ S (Sum.inr x) = true := fun v hv => by
    obtain ⟨r, hr, rfl⟩ := List.mem_map.mp (pm.mem_iff.mp hv)
    obtain ⟨k, q, _⟩ := g r hr
    have hk : S k = true := (hm k).2 ((gd_mem g k).2 ⟨r, hr, q⟩)
    obtain ⟨x, rfl⟩ := hS k hk
    rcases keyIs_shape (show keyIs (Sum.inr x) r.2 = true from q) with ⟨i, u, e, _⟩ | ⟨y, u, e, e2⟩
    · exact nomatch e
    · obtain rfl : x = y := Sum.inr.inj e
      exact ⟨x, u, e2, hk⟩
  have hT : StrsAre vs (vs.map strOf) := strsAre_map vs fun v hv => by
    obtain ⟨x, u, e, _⟩ := each v hv
    exact ⟨x, u, e⟩
  have pk : ((vs.map strOf).map Sum.inr : List Key).Perm (rs.toList.map ky) := by
    have z := pm.map kyV
    rw [List.map_map] at z
    refine List.Perm.trans ?_ z
    rw [List.map_map]
    refine List.Perm.of_eq (List.map_congr_left fun v hv => ?_)
    obtain ⟨x, u, rfl, _⟩ := each v hv
    rfl
  refine wpAny_bind (wpAny_newList ?_ (by rw [hvl, sizeLine_eq]; omega))
  have hoL : (s1.heap.push (seqObj "list" vs.toArray 0)).get? s1.heap.objs.size = some (seqObj "list" vs.toArray 0) := Heap.get?_push_size _ rfl
  refine wpAny_bind (wpAny_holding (wpAny_call_entry slot_list_sort ⟨_, hoL, rfl⟩ entry_list_sort (list_sort_treeK strKind_oneLt hoL hT.keysOf (fun v₁ v₂ rest e => keyKind_strs (by rw [← e]; exact hT)) (by rw [hvl]; exact h64) fun st' hp hs => ⟨_, rfl, ?_⟩) (args_list_sort _)))
  obtain ⟨xs, a1, a2, a3⟩ := sorted_out_str hT hp hs
  generalize (arrOf st').map (·.2) = out at a1
  obtain ⟨e, he⟩ := sortedHeap_at (vs := vs) (out := out) hoL
  have pn : (xs.map Sum.inr : List Key).Perm (rs.toList.map ky) := (a2.map _).trans pk
  have ndx : xs.Nodup := by
    have z : (xs.map Sum.inr : List Key).Nodup := pn.nodup_iff.mpr nd
    exact List.Pairwise.imp (fun h q => h (congrArg Sum.inr q)) (List.pairwise_map.mp z)
  refine wpAny_pure ⟨_, rfl, hQ _ s1.heap.objs.size out e xs (fun b u z => ?_) g1 o1 hz he a1 a3 ndx (fun x => ?_) ?_⟩
  · have q := k1 b u z
    have lt := Heap.lt_size q
    show (sortedHeap (s1.heap.push (seqObj "list" vs.toArray 0)) s1.heap.objs.size vs out).get? b = some u
    rw [sortedHeap_old (Nat.ne_of_lt lt) (by rw [size_push']; exact Nat.lt_succ_of_lt lt)]
    exact Heap.get?_push_of_some _ q
  · rw [hm, ← pn.mem_iff, List.mem_map]
    exact ⟨fun h => ⟨x, h, rfl⟩, fun ⟨y, h, q⟩ => (Sum.inr.inj q) ▸ h⟩
  · have z := pn.length_eq
    simp only [List.length_map, Array.length_toList] at z
    rw [z]
    exact hn
end
/-- set(l) as a rule -/
def rSetKL (K : PySem.W.Frag) (P : Program) (w : World) : List V → Hp → VK → Prop := fun xs H Q => ∃ (l : Addr) (ks : List Key), xs = [.ref l] ∧ SqL K H l (ks.map kV) ∧ ks.length ≤ 1000 ∧
  ∀ (p : Addr) (S : Key → Bool) (n : Nat), H p = none → (∀ k, S k = true ↔ k ∈ ks) → n ≤ ks.length → Q (.ref p) (upd H p (SWO P w p S n))
theorem vals_keys {P : Program} {w : World} : ∀ {ks : List Key} {us : List Value}, Vals (ks.map kV) us → ks.length = us.length ∧ ∀ (i : Nat) (v : Value), us[i]? = some v → ∃ k, ks[i]? = some k ∧ (mixKind P w).is k v = true
  | [], _, r => by
    cases r
    exact ⟨rfl, fun i v h => by simp at h⟩
  | k :: ks, _, r => by
    rw [List.map_cons] at r
    cases r with
    | cons h t =>
      obtain ⟨h1, h2⟩ := vals_keys (P := P) (w := w) t
      refine ⟨congrArg Nat.succ h1, fun i v hv => ?_⟩
      match i, hv with
      | 0, hv =>
        simp at hv
        subst hv
        exact ⟨k, rfl, kV_is h⟩
      | i + 1, hv => exact h2 i v (by simpa using hv)
section
variable {X : Cx}
theorem cr_setKL (hc : X.calm = true) : CallR X (.type "set") (rSetKL X.K X.prog X.w) := by
  intro pins s σ H xs us Q I r h
  obtain ⟨l, ks, rfl, hs, hl, q⟩ := h
  obtain ⟨u, rfl, r1⟩ := vals1 r
  obtain rfl : u = Value.ref l := r1
  obtain ⟨its, rv, pl, _⟩ := I.list hs
  obtain ⟨h1, h2⟩ := vals_keys (P := X.prog) (w := X.w) rv
  refine call_setK_list ks (I.ok.hd hc) pl.isList (by simpa using h1) (fun i v hv => h2 i v (by simpa using hv)) (by unfold scanBound; omega) fun h' tk c hS hcl hk => ?_
  exact ⟨.ref s.heap.objs.size, upd H s.heap.objs.size (SWO X.prog X.w s.heap.objs.size (fun j => decide (j ∈ ks)) c), I.laid hk (Nat.le_refl _) (swo_new hS), rfl, q _ _ _ (I.hok.fresh (Nat.le_refl _)) (fun k => decide_eq_true_iff) hcl⟩
/-- sorted(c) as a rule -/
def rSortedSW (P : Program) (w : World) : List V → Hp → VK → Prop := fun vs H Q => ∃ (c : Addr) (S : Key → Bool) (n : Nat), vs = [V.ref c] ∧ H c = some (SWO P w c S n) ∧ n < 64 ∧ (∀ k, S k = true → ∃ x, k = Sum.inr x) ∧
  ∀ (xs : List Str) (p : Addr), sortedS xs = true → xs.Nodup → (∀ x, x ∈ xs ↔ S (Sum.inr x) = true) → xs.length = n → H p = none → Q (.ref p) (upd H p (.lst (xs.map V.str)))
theorem cr_sortedSW (hc : X.calm = true) : CallR X (.builtin "sorted") (rSortedSW X.prog X.w) := by
  intro pins s σ H vs us Q I r h
  obtain ⟨c, S, n, rfl, ha, h64, hS, q⟩ := h
  rw [Vals.ref1 r]
  refine sw_sorted (swo_get I ha) hS (I.ok.hd hc) h64 fun s' p out e xs k g o hp hg hi hs nd hm hl => ?_
  have hlen : (xs.map V.str).length ≤ sizeLine := by rw [List.length_map, hl, sizeLine_eq]; omega
  have hn : H p = none := I.hok.fresh hp
  have J : Inv X pins σ (upd H p (.lst (xs.map V.str))) { s with heap := s'.heap, gens := s'.gens, drawn := s'.drawn, toks := s'.toks } :=
    I.call (ch := []) (Un.laid k hp hn) (I.hok.laid k hp ⟨hlen, out.toList, e, vals_of_strs hi, hg⟩) (by rw [g]; exact I.bare) (fun _ z => nomatch z)
  have es : s' = { s with heap := s'.heap, gens := s'.gens, drawn := s'.drawn, toks := s'.toks } := by
    cases s'
    cases s
    cases o
    rfl
  rw [es]
  exact ⟨.ref p, _, J, rfl, q xs p hs nd hm hl hn⟩
end
end LG
/-! Sorted lists of places: there is but one of the same places. -/
namespace TM
open PySem PySem.Spec PyProof.Rows L2 LG Evl
def ix (x : Str) : Nat := names.findIdx (fun y => decide (y = x))
theorem ix_inj : ∀ x ∈ names, ∀ y ∈ names, ix x = ix y → x = y := by decide +kernel
theorem ix_lt : ∀ x ∈ names, ∀ y ∈ names, ltCps y.cps.toList x.cps.toList = false → x ≠ y → ix x < ix y := by decide +kernel
theorem pw_ix : ∀ {x : Str} {xs : List Str}, (∀ y ∈ x :: xs, y ∈ names) → (x :: xs).Nodup → risingS x xs = true → ((x :: xs).map ix).Pairwise (· < ·)
  | x, [], _, _, _ => by simp
  | x, y :: r, hn, nd, h => by
    rw [risingS, Bool.and_eq_true, Bool.not_eq_true'] at h
    rw [List.nodup_cons] at nd
    have ih := pw_ix (fun z hz => hn z (List.mem_cons_of_mem _ hz)) nd.2 h.2
    have hxy : ix x < ix y := ix_lt x (hn x List.mem_cons_self) y (hn y (List.mem_cons_of_mem _ List.mem_cons_self)) h.1 fun z => nd.1 (z ▸ List.mem_cons_self)
    rw [List.map_cons, List.pairwise_cons]
    refine ⟨fun k hk => ?_, ih⟩
    rw [List.map_cons, List.pairwise_cons] at ih
    rw [List.map_cons] at hk
    rcases List.mem_cons.mp hk with rfl | hk
    · exact hxy
    · exact Nat.lt_trans hxy (ih.1 k hk)
theorem pw_of {xs : List Str} (hn : ∀ y ∈ xs, y ∈ names) (nd : xs.Nodup) (h : sortedS xs = true) : (xs.map ix).Pairwise (· < ·) := by
  cases xs with
  | nil => simp
  | cons x r => exact pw_ix hn nd h
theorem pw_unique : ∀ {xs ys : List Nat}, xs.Pairwise (· < ·) → ys.Pairwise (· < ·) → (∀ n, n ∈ xs ↔ n ∈ ys) → xs = ys
  | [], [], _, _, _ => rfl
  | [], y :: ys, _, _, h => absurd ((h y).mpr List.mem_cons_self) List.not_mem_nil
  | x :: xs, [], _, _, h => absurd ((h x).mp List.mem_cons_self) List.not_mem_nil
  | x :: xs, y :: ys, hx, hy, h => by
    rw [List.pairwise_cons] at hx hy
    have e : x = y := by
      rcases List.mem_cons.mp ((h x).mp List.mem_cons_self) with e | e
      · exact e
      · rcases List.mem_cons.mp ((h y).mpr List.mem_cons_self) with e2 | e2
        · exact e2.symm
        · have h1 := hx.1 y e2
          have h2 := hy.1 x e
          omega
    subst e
    rw [pw_unique hx.2 hy.2 fun n => ⟨fun hn => ?_, fun hn => ?_⟩]
    · rcases List.mem_cons.mp ((h n).mp (List.mem_cons_of_mem _ hn)) with e | e
      · have := hx.1 n hn
        omega
      · exact e
    · rcases List.mem_cons.mp ((h n).mpr (List.mem_cons_of_mem _ hn)) with e | e
      · have := hy.1 n hn
        omega
      · exact e
theorem map_ix_inj : ∀ {xs ys : List Str}, (∀ y ∈ xs, y ∈ names) → (∀ y ∈ ys, y ∈ names) → xs.map ix = ys.map ix → xs = ys
  | [], [], _, _, _ => rfl
  | [], _ :: _, _, _, h => by simp at h
  | _ :: _, [], _, _, h => by simp at h
  | x :: xs, y :: ys, h1, h2, h => by
    rw [List.map_cons, List.map_cons, List.cons.injEq] at h
    rw [ix_inj x (h1 x List.mem_cons_self) y (h2 y List.mem_cons_self) h.1, map_ix_inj (fun z hz => h1 z (List.mem_cons_of_mem _ hz)) (fun z hz => h2 z (List.mem_cons_of_mem _ hz)) h.2]
/-- xs: the places of t, sorted, each once -/
structure Spots (xs : List Str) (t : Tree) : Prop where
  s : sortedS xs = true
  nd : xs.Nodup
  mem : ∀ x, x ∈ xs ↔ x ∈ t.places
theorem Spots.unique {xs ys : List Str} {t : Tree} (ok : Ok t) (hx : Spots xs t) (hy : Spots ys t) : xs = ys := by
  have h1 : ∀ y ∈ xs, y ∈ names := fun y h => ok.names y ((hx.mem y).mp h)
  have h2 : ∀ y ∈ ys, y ∈ names := fun y h => ok.names y ((hy.mem y).mp h)
  refine map_ix_inj h1 h2 (pw_unique (pw_of h1 hx.nd hx.s) (pw_of h2 hy.nd hy.s) fun n => ?_)
  rw [List.mem_map, List.mem_map]
  exact ⟨fun ⟨x, h, e⟩ => ⟨x, (hy.mem x).mpr ((hx.mem x).mp h), e⟩, fun ⟨x, h, e⟩ => ⟨x, (hx.mem x).mpr ((hy.mem x).mp h), e⟩⟩
theorem Spots.len {xs : List Str} {t : Tree} (ok : Ok t) (h : Spots xs t) : xs.length ≤ 8 := List.Nodup.length_le_of_subset (l₂ := names) h.nd fun x hx => ok.names x ((h.mem x).mp hx)
theorem Spots.few {xs : List Str} {zs : List V} {t : Tree} (h : Spots xs t) (pl : Pl zs t) : xs.length ≤ zs.length := by
  have z : (xs.map V.str).Nodup := List.Pairwise.map V.str (fun a b hab z => hab (V.str.inj z)) h.nd
  have := List.Nodup.length_le_of_subset (l₂ := zs) z fun v hv => by
    obtain ⟨x, hx, rfl⟩ := List.mem_map.mp hv
    exact pl x ((h.mem x).mp hx)
  simpa using this
/-! ### sorted(c), the members told ahead -/
def rSortedSWN (P : Program) (w : World) : List V → Hp → VK → Prop := fun vs H Q => ∃ (c : Addr) (S : Key → Bool) (n : Nat) (ns : List Str), vs = [V.ref c] ∧ H c = some (SWO P w c S n) ∧ ns.length < 64 ∧ (∀ k, S k = true → ∃ x ∈ ns, k = Sum.inr x) ∧
  ∀ (xs : List Str) (p : Addr), sortedS xs = true → xs.Nodup → (∀ x, x ∈ xs ↔ S (Sum.inr x) = true) → H p = none → Q (.ref p) (upd H p (.lst (xs.map V.str)))
theorem cr_sortedSWN {X : Cx} (hc : X.calm = true) : CallR X (.builtin "sorted") (rSortedSWN X.prog X.w) := by
  intro pins s σ H vs us Q I r h
  obtain ⟨c, S, n, ns, rfl, ha, hl, hS, q⟩ := h
  refine cr_sortedSW hc pins s σ H [V.ref c] us Q I r ⟨c, S, n, rfl, ha, ?_, fun k hk => let ⟨x, _, e⟩ := hS k hk; ⟨x, e⟩, fun xs p h1 h2 h3 _ h5 => q xs p h1 h2 h3 h5⟩
  obtain ⟨ob, rs, pe, tb, ho, hx, hd, g, nd, hm, hb, hf, hn, _⟩ := swo_get I ha
  have h1 : (rs.toList.map ky).length ≤ (ns.map (Sum.inr : Str → Key)).length := List.Nodup.length_le_of_subset nd fun k hk => by
    obtain ⟨x, hx, e⟩ := hS k ((hm k).mpr hk)
    rw [e]
    exact List.mem_map.mpr ⟨x, hx, rfl⟩
  rw [List.length_map, List.length_map, Array.length_toList] at h1
  omega
end TM
namespace K16
open PySem PySem.Spec PyProof.Rows L2 LG Evl
section
variable {P : Program} {w : World} {K : PySem.W.Frag} {mg : Str → Option Value} {base : Heap} {a : At}
/-! ### Term.places -/
def sp_Term_places (a : At) : Sp := fun vs H Q _ => ∃ v t, vs = [v] ∧ TM.TmAt (csOf a) H v t ∧ TM.Ok t ∧ t.depth ≤ 3 ∧ ∀ p xs H', H p = none → Ex H H' → TM.Spots xs t → H' p = some (.lst (xs.map V.str)) → Q (.ref p) H'
theorem fn_Term_places (T : Txt K mg a) : Fn P w K mg base 8 a.m_Term_places (sp_Term_places a) := by
  have G_places_in := ok_places_in (P := P) (w := w) (base := base) T 5
  obtain ⟨fd, F⟩ := T.m_Term_places.F
  refine Fn.of F sc_Term_places (F.binds fun _ _ _ _ _ _ us hl => match us, hl with | [_], _ => rfl) (fun vs H Q E h => ?_) (fun cdv A outer s H vs Q E hg hr hcd h => ?_)
  · obtain ⟨_, _, rfl, _⟩ := h
    rfl
  · obtain ⟨v, t, rfl, ht, ok, hd, q⟩ := h
    have nd := sc_Term_places.nd
    refine ⟨_, pss_one (ps_ret (pe_callB (TM.cr_sortedSWN rfl) (by rfl) T.z_sorted (by decide +kernel) (pa_cons (pe_scK setK rfl (own := [("place", 1)]) (g := gName 1) (by exact nd) (pi_list (pe_fn G_places_in hg (hr.mono (by decide)) T.d_places_in.kp T.d_places_in.m (by rfl) passL (pa_cons (pv 0) pa_nil))) (blkOk_by (own := [("place", 1)]) (N := ["self", "place"]) (sc := defScope s_Term_places) (by decide +kernel)) (fun _ _ _ _ _ => (pg_name (i := 1) nd rfl (.inl rfl))) (fun _ _ _ _ _ => pts_nil) (fun _ _ _ _ _ => (pv 1))) pa_nil))), ?_⟩
    have hlen := TM.places_len 3 t ok hd
    refine ⟨v, rfl, v, t, rfl, ht, ok, by omega, by omega, fun l H1 hl e1 h1 => ?_⟩
    refine ⟨l, rfl, ⟨_, sq_of h1⟩, fun D hD => ?_⟩
    refine sc_list setK (K := K) (a := l) (xs := t.places.map V.str) (fun i H2 => Ex H1 H2 ∧ ∃ S n, H2 D = some (SWO P w D S n) ∧ n ≤ i ∧ ∀ k, S k = true ↔ ∃ x ∈ t.places.take i, k = Sum.inr x) ⟨Ex.new hD, fun _ => false, 0, upd_same, Nat.le_refl _, fun k => by simp⟩ (fun i H2 _ h => sq_of (h.1 _ _ h1)) (fun i x H2 hi h => ?_) (fun H2 h => ?_)
    · rw [List.getElem?_map] at hi
      obtain ⟨n, hn, rfl⟩ := Option.map_eq_some_iff.mp hi
      obtain ⟨e2, S, m, hS, hm, hk⟩ := h
      have hlt := (List.getElem?_eq_some_iff.mp hn).1
      refine ⟨rfl, .str n, rfl, Sum.inr n, S, m, rfl, hS, by unfold scanBound; omega, (e2.mut hD), _, _, upd_same, by split <;> omega, fun k => ?_⟩
      rw [Bool.or_eq_true, hk, decide_eq_true_iff, List.take_succ, hn]
      constructor
      · rintro (⟨x, hx, e⟩ | e)
        · exact ⟨x, List.mem_append_left _ hx, e⟩
        · exact ⟨n, List.mem_append_right _ (by simp), e⟩
      · rintro ⟨x, hx, e⟩
        rcases List.mem_append.mp hx with hx | hx
        · exact .inl ⟨x, hx, e⟩
        · simp at hx
          exact .inr (hx ▸ e)
    · obtain ⟨e2, S, m, hS, hm, hk⟩ := h
      rw [List.length_map, List.take_length] at hk
      refine ⟨D, S, m, TM.names, rfl, hS, by decide, fun k h => ?_, fun xs p hs hnd hx hp => ?_⟩
      · obtain ⟨x, hx, e⟩ := (hk k).mp h
        exact ⟨x, ok.names x hx, e⟩
      · have e3 := e1.trans e2
        refine q p xs _ (fresh_back e3 hp) (e3.trans (Ex.new hp)) ⟨hs, hnd, fun x => ?_⟩ upd_same
        rw [hx, hk]
        exact ⟨fun ⟨y, hy, e⟩ => by cases e; exact hy, fun h => ⟨x, h, rfl⟩⟩
end
end K16
/-! Dicts with any keys, told by their entries: made by d[None] = v and d[(..)] = v; isinstance; the walk over the keys. -/
namespace LG
open PySem PySem.Spec PyProof.Rows L2 Evl
def EnV : List (V × V) → List DictEntry → Prop := Paired fun p e => RelV p.1 e.key ∧ RelV p.2 e.val
/-- a dict, by the values of its keys and what stands there -/
def HsE (w : World) (es : List DictEntry) : Prop := ∀ e ∈ es, ∀ x t, e.key = .str x t → e.hash = hashStr w x
def odE (w : World) (a : Addr) (kvs : List (V × V)) : HO := .ext fun h => (a == sysModules) = false ∧ ∃ o es ep, h.get? a = some o ∧ o.ExactDict ∧ o.data = .dict es ep ∧ EnV kvs es.toList ∧ HsE w es.toList
theorem odE_ok {P : Program} {w : World} {H : Hp} {h : Heap} {a : Addr} {kvs : List (V × V)} {o : Obj} {es : Array DictEntry} {ep : Nat} (hs : (a == sysModules) = false) (ho : h.get? a = some o) (hx : o.ExactDict) (hd : o.data = .dict es ep) (hv : EnV kvs es.toList) (hh : HsE w es.toList) : ObjOk P w H h a (odE w a kvs) :=
  ⟨⟨hs, o, es, ep, ho, hx, hd, hv, hh⟩, ⟨o, ho⟩, fun h1 h2 ⟨hs, o, es, ep, ho, r⟩ k => ⟨hs, o, es, ep, k o ho, r⟩⟩
theorem hs_mix {P : Program} {w : World} {es : Array DictEntry} (hk : KeysOf (mixKind P w) es) : HsE w es.toList := fun e he x t hx => by
  obtain ⟨k, h1, h2⟩ := hk e (Array.mem_toList_iff.mp he)
  rw [hx] at h1
  rcases keyIs_shape h1 with ⟨i, u, rfl, e1⟩ | ⟨y, u, rfl, e1⟩
  · cases e1
  · cases e1
    exact h2
theorem hs_none {P : Program} {w : World} {es : Array DictEntry} (hk : KeysOf (noneKind P w) es) : HsE w es.toList := fun e he x t hx => by
  obtain ⟨k, h1, h2⟩ := hk e (Array.mem_toList_iff.mp he)
  rw [hx] at h1
  cases k with
  | none => cases h1
  | some k =>
    rcases keyIs_shape (show keyIs k (.str x t) = true from h1) with ⟨i, u, rfl, e1⟩ | ⟨y, u, rfl, e1⟩
    · cases e1
    · cases e1
      exact h2
theorem pairs_none {P : Program} {w : World} : ∀ {es : List DictEntry} {vs : List (Key × Value)}, Pairs (mixKind P w) es vs → Pairs (noneKind P w) es (vs.map fun kv => (some kv.1, kv.2))
  | _, _, .nil => .nil
  | _, _, .cons h1 h2 t => .cons (show nkIs (some _) _ = true from h1) h2 (pairs_none t)
theorem dict_none {P : Program} {w : World} {h : Heap} {a : Addr} {vs : List (Key × Value)} (d : h.DictOf (mixKind P w) a vs) : h.DictOf (noneKind P w) a (vs.map fun kv => (some kv.1, kv.2)) := by
  obtain ⟨o, es, ep, ho, hx, hdt, hk, hp, hn⟩ := d
  refine ⟨o, es, ep, ho, hx, hdt, fun e he => ?_, pairs_none hp, ?_⟩
  · obtain ⟨k, h1, h2⟩ := hk e he
    exact ⟨some k, h1, h2⟩
  · rw [List.map_map]
    show (vs.map fun kv => (some kv.1 : Option Key)).Nodup
    rw [show (vs.map fun kv => (some kv.1 : Option Key)) = (vs.map (·.1)).map some by rw [List.map_map]; rfl]
    exact List.Pairwise.map some (fun x y z q => z (Option.some.inj q)) hn
theorem env_of {P : Program} {w : World} : ∀ {kvs : List (Key × V)} {vs : List (Key × Value)} {es : List DictEntry}, KV kvs vs → Pairs (mixKind P w) es vs → EnV (kvs.map fun kv => (kV kv.1, kv.2)) es
  | _, _, _, .nil, .nil => .nil
  | _, _, _, .cons hk hr, .cons ik ev hp => by
    refine Paired.cons ⟨?_, ?_⟩ (env_of hr hp)
    · have e1 := hk.1
      refine relV_key ?_
      rw [e1]
      exact ik
    · rw [ev]
      exact hk.2
theorem env_none {P : Program} {w : World} {v : V} {r : Value} : ∀ {kvs : List (Key × V)} {vs : List (Key × Value)} {es : List DictEntry}, RelV v r → KV kvs vs → Pairs (noneKind P w) es ((vs.map fun kv => (some kv.1, kv.2)) ++ [(none, r)]) → EnV ((kvs.map fun kv => (kV kv.1, kv.2)) ++ [(.non, v)]) es
  | _, _, _, rv, .nil, .cons ik ev .nil => by
    refine Paired.cons ⟨nk_none ik, ?_⟩ .nil
    rw [ev]
    exact rv
  | _, _, _, rv, .cons hk hr, .cons ik ev hp => by
    refine Paired.cons ⟨?_, ?_⟩ (env_none rv hr hp)
    · have e1 := hk.1
      refine relV_key ?_
      rw [e1]
      exact ik
    · rw [ev]
      exact hk.2
section
variable {P : Program} {w : World} {A : Around} {E : Value → Shared → Prop} {s : Shared} {d T : Addr} {items : Array Value}
theorem tell_tup {stored : List Value} {Q : Bool → Shared → Prop} (hq : ∀ Q' : Bool → Shared → Prop, Q' true s → wpAny (model P w) A (eqIsQuiet 8 (.ref T)) Q' E s) (hst : ∀ v ∈ stored, ∃ x t, v = .str x t) (h : Q false s) :
    wpAny (model P w) A (tableMayTell (.ref T) stored) Q E s := by
  unfold tableMayTell
  split
  · exact wpAny_pure h
  · refine wpAny_bind (hq _ ?_)
    simp only [Bool.not_true, Bool.false_eq_true, if_false]
    refine wpAny_bind ?_
    refine wpAny_forIn_list _ (fun rest r s' => s' = s ∧ r = (none, ()) ∧ ∀ v ∈ rest, ∃ x t, v = .str x t) _ ?_ ?_ _ _ ⟨rfl, rfl, hst⟩
    · rintro x rest r s' ⟨rfl, rfl, hr⟩
      obtain ⟨y, t, rfl⟩ := hr x List.mem_cons_self
      rw [eqIsQuiet_byValue 8 (show carriedByValue (.str y t) = true from rfl)]
      refine wpAny_bind (wpAny_pure ?_)
      simp only [Bool.not_true, Bool.false_eq_true, if_false]
      exact wpAny_pure ⟨rfl, rfl, fun v hv => hr v (List.mem_cons_of_mem _ hv)⟩
    · rintro r s' ⟨rfl, rfl, _⟩
      exact wpAny_pure h
/-- a tuple is no key of a dict of texts -/
theorem find_tup {o : Obj} {es : Array DictEntry} {ep : Nat} {hsh : Int} {Q : Option Nat → Shared → Prop} (hu : A.units < cLine) (hT : s.heap.IsTuple T items)
    (hq : ∀ Q' : Bool → Shared → Prop, Q' true s → wpAny (model P w) A (eqIsQuiet 8 (.ref T)) Q' E s)
    (ho : s.heap.get? d = some o) (hd : o.data = .dict es ep) (hk : ∀ e ∈ es, ∃ x t, e.key = .str x t) (h : Q none s) : wpAny (model P w) A (dictFind d (.ref T) hsh) Q E s := by
  have hany : ¬ (es.any fun e => e.key == Value.ref T && e.hash != hsh) = true := by
    rw [← Array.any_toList, List.any_eq_true]
    rintro ⟨e, hin, hc⟩
    obtain ⟨x, t, hx⟩ := hk e (Array.mem_toList_iff.mp hin)
    rw [hx] at hc
    simp at hc
  have hst : ∀ v ∈ (placesWithHash es.size (fun i => es[i]?.map (·.hash)) hsh).filterMap (fun i => es[i]?.map (·.key)), ∃ x t, v = .str x t := by
    intro v hv
    obtain ⟨i, _, hi⟩ := List.mem_filterMap.mp hv
    cases hei : es[i]? with
    | none => rw [hei] at hi; cases hi
    | some e =>
      rw [hei] at hi
      obtain rfl : e.key = v := by simpa using hi
      exact hk e (Array.mem_of_getElem? hei)
  unfold dictFind
  try with_reducible refine wpAny_holding ?_
  refine wpAny_bind (wpAny_dictEntries ho hd ?_)
  dsimp only
  rw [if_neg (show ¬ ((Value.ref T :: (placesWithHash es.size (fun i => es[i]?.map (·.hash)) hsh).filterMap (fun i => es[i]?.map (·.key))).all carriedByValue) = true by simp [carriedByValue])]
  rw [if_neg hany]
  by_cases hone : (((placesWithHash es.size (fun i => es[i]?.map (·.hash)) hsh).filterMap (fun i => es[i]?.map (·.key))) == [Value.ref T]) = true <;>
  (first | rw [if_pos hone] | rw [if_neg hone]) <;> (first | refine wpAny_bind (wpAny_pure ?_) | refine wpAny_bind (tell_tup hq hst ?_)) <;> (
    rw [if_neg (by simp)]
    refine wpAny_bind ?_
    refine wpAny_forIn_list _ (fun rest b s' => s' = s ∧ b = (none, none)) _ ?_ ?_ _ _ ⟨rfl, rfl⟩
    · rintro x rest b s' ⟨rfl, rfl⟩
      cases hex : es[x]? with
      | none => exact wpAny_pure ⟨rfl, rfl⟩
      | some e =>
        dsimp only
        by_cases hh : (e.hash == hsh) = true
        · rw [if_pos hh]
          obtain ⟨y, t, hy⟩ := hk e (Array.mem_of_getElem? hex)
          rw [hy]
          refine wpAny_bind (wpAny_dictEpoch ho hd (wpAny_bind (SeqAt.EqAt.str_tuple y t hT hu P w E _ (wpAny_bind (wpAny_dictEpoch ho hd ?_)))))
          show wpAny _ _ (if (ep != ep) = true then _ else _) _ E _
          rw [if_neg (by simp)]
          simp only [Bool.false_eq_true, if_false]
          refine wpAny_bind (wpAny_rule ?_)
          first | rw [if_neg (by simp)] | skip
          first
            | exact wpAny_pure ⟨rfl, rfl⟩
            | exact wpAny_bind (wpAny_pure (wpAny_pure ⟨rfl, rfl⟩))
        · rw [if_neg hh]
          exact wpAny_pure ⟨rfl, rfl⟩
    · rintro b s' ⟨rfl, rfl⟩
      exact wpAny_pure h)
theorem set_tup {o : Obj} {es : Array DictEntry} {ep : Nat} {ks : List Key} {v : Value} {Q : Unit → Shared → Prop} (hu : A.units + 1 < cLine) (hT : (tupleKind (mixKind P w)).is s.heap ks T)
    (ho : s.heap.get? d = some o) (hc : o.ExactDict) (hd : o.data = .dict es ep) (hz : es.size ≤ sizeLine) (hk : ∀ e ∈ es, ∃ x t, e.key = .str x t)
    (hQ : ∀ h' ob tk n, h'.get? d = some ob → ob.ExactDict → (∃ hh, ob.data = .dict (es.push ⟨hh, .ref T, v⟩) n) → Heap.SameBut d s.heap h' → Q () { s with heap := h', toks := tk }) :
    wpAny (model P w) A (setItem (.ref d) (.ref T) v) Q E s := by
  have hty : s.TypeIs (.ref d) "dict" := ⟨o, ho, hc.1⟩
  have hr := tupleKind_room_in1 (knd := mixKind P w) hu
  unfold setItem
  try with_reducible refine wpAny_holding ?_
  refine wpAny_bind (wpAny_sequenceKey hty (by decide) ?_)
  refine wpAny_bind (wpAny_callSpecial?_slot (name := Str.ofString "__setitem__") hty PySem.F.slot_dict_setitem
    (wpAny_call_entry PySem.F.slot_dict_setitem hty PySem.F.entry_dict_setitem ?_ (PySem.F.args_dict_setitem_3 _ _ _)))
  show wpAny _ _ (Builtin.Dict.notOrdered "__setitem__" ⟨[.ref d, .ref T, v], []⟩ >>= _) _ _ s
  refine wpAny_bind (wpAny_notOrdered_dict hty ?_)
  show wpAny _ _ (dictSet d (.ref T) v >>= _) _ _ s
  refine wpAny_bind ?_
  unfold dictSet
  try with_reducible refine wpAny_holding ?_
  refine wpAny_bind ((tupleKind (mixKind P w)).pyHash hr hT ?_)
  unfold dictSetHashed
  try with_reducible refine wpAny_holding ?_
  obtain ⟨oT, its, n, h1, h2, h3, h4⟩ := (show IsTupleKey (mixKind P w) s.heap ks T from hT)
  refine wpAny_bind (find_tup (items := its) (s := { s with toks := s.toks + (tupleKind (mixKind P w)).draws ks }) hr ⟨oT, h1, h2, n, h3⟩ (fun Q' q => (tupleKind (mixKind P w)).quiet (s := { s with toks := s.toks + (tupleKind (mixKind P w)).draws ks }) (k := ks) hT q) ho hd hk ?_)
  exact wpAny_bind (wpAny_rule (wpAny_updateDictKeys (hz := hz) (s := { s with toks := s.toks + (tupleKind (mixKind P w)).draws ks }) ho hd (wpAny_pure ⟨.none, rfl, wpAny_pure (hQ _ _ _ (ep + 1) (Heap.get?_update_self _ ho (Obj.isFreed_of_dict (Obj.data_mapDictKeys hd _))) (hc.mapDictKeys _) ⟨_, Obj.data_mapDictKeys hd _⟩ (Heap.SameBut.update ..))⟩)))
end
end LG
namespace LG
open PySem PySem.Spec PyProof.Rows L2 Evl
/-! ### isinstance -/
def rIsiO (K : PySem.W.Frag) : List V → Hp → VK → Prop := fun xs H Q => rIsi K xs H Q ∨ ∃ w a kvs T b, xs = [.ref a, .ty T] ∧ H a = some (odE w a kvs) ∧ PySem.W.kitOne K (.type "dict") (.type T) = some b ∧ Q (.bl b) H
theorem call_isiO {X : Cx} : CallR X (.builtin "isinstance") (rIsiO X.K) := by
  intro pins s σ H xs us Q I r h
  rcases h with h | ⟨w, a, kvs, T, b, rfl, ha, e, q⟩
  · exact call_isi pins s σ H xs us Q I r h
  · obtain ⟨u1, u2, rfl, r1, r2⟩ := vals2 r
    cases (show u1 = Value.ref a from r1)
    cases (show u2 = Value.type T from r2)
    obtain ⟨⟨_, o, es, ep, ho, hx, _⟩, _⟩ := (show ObjOk X.prog X.w H s.heap a (odE w a kvs) from I.hok a _ ha)
    exact PySem.W.kia_one PySem.W.kitx_dict I.kIn ⟨o, ho, hx.1⟩ e (fun z => nomatch z) fun tk => ⟨.bl b, H, I.tok tk, rfl, q⟩
/-! ### d[k] = v -/
def rSetO (w : World) : TSet := fun o i v H Q => rSetD o i v H Q ∨ ∃ a kvs, o = .ref a ∧ H a = some (.dK kvs) ∧ (∀ kv ∈ kvs, ∃ x, kv.1 = Sum.inr x) ∧ kvs.length < sizeLine ∧ (i = .non ∨ ∃ (T : Addr) (ks : List Key), i = .ref T ∧ H T = some (.tup (ks.map kV))) ∧ Q (upd H a (odE w a ((kvs.map fun kv => (kV kv.1, kv.2)) ++ [(i, v)])))
theorem set_odd {X : Cx} (hu : X.A.units + 1 < cLine) : PSet X (rSetO X.w) := by
  intro pins s σ H o i v ov iv u Q I ro ri rv h
  rcases h with h | ⟨a, kvs, rfl, ha, hk, hl, hi, q⟩
  · exact set_dict hu pins s σ H o i v ov iv u Q I ro ri rv h
  · cases (show ov = Value.ref a from ro)
    obtain ⟨z, hsys, vs, rel, dd⟩ := dk_of I.hok ha
    rcases hi with rfl | ⟨T, ks, rfl, hT⟩
    · cases (show iv = Value.none from ri)
      have hz : (vs.map fun kv => ((some kv.1 : Option Key), kv.2)).length ≤ sizeLine := by
        rw [List.length_map, ← rel.length]
        exact z
      refine wpAny_setItem_pairs (hsz := hz) (knd := noneKind X.prog X.w) (k := none) (show nkIs none .none = true from rfl) (dict_none dd) fun h' dd' hs => ?_
      have hno : ¬ ((vs.map fun kv => ((some kv.1 : Option Key), kv.2)).any fun kv => decide (kv.1 = none)) = true := by
        rw [List.any_eq_true]
        rintro ⟨x, hx, hc⟩
        obtain ⟨y, _, rfl⟩ := List.mem_map.mp hx
        exact nomatch (of_decide_eq_true hc)
      unfold stored at dd'
      rw [if_neg hno] at dd'
      obtain ⟨ob, es, ep, ho, hx, hd, hkk, hp, _⟩ := dd'
      exact ⟨_, d_write I (by rw [ha]; exact True.intro) hs ⟨_, ho⟩ (odE_ok hsys ho hx hd (env_none rv rel hp) (hs_none hkk)), q⟩
    · cases (show iv = Value.ref T from ri)
      obtain ⟨o, es, ep, ho, hx, hd, hkk, hp, _⟩ := dd
      have hlen : es.size = vs.length := by
        have := hp.length
        rw [← this]
        simp
      have hkv : ∀ {kvs : List (Key × V)} {vs : List (Key × Value)} {es : List DictEntry}, KV kvs vs → Pairs (mixKind X.prog X.w) es vs → (∀ kv ∈ kvs, ∃ x, kv.1 = Sum.inr x) → ∀ e ∈ es, ∃ x t, e.key = .str x t := by
        intro kvs vs es r
        induction r generalizing es with
        | nil =>
          intro p _ e he
          cases p
          exact absurd he List.not_mem_nil
        | cons hk hr ih =>
          intro p h e he
          cases p with
          | cons ik ev hp =>
            rcases List.mem_cons.mp he with rfl | he
            · obtain ⟨x, hx⟩ := h _ List.mem_cons_self
              rw [← hk.1, hx] at ik
              obtain ⟨t, ht⟩ := Value.isStrOf_shape (show Value.isStrOf x _ = true from ik)
              exact ⟨x, t, ht⟩
            · exact ih hp (fun kv hkv => h kv (List.mem_cons_of_mem _ hkv)) e he
      refine set_tup hu (key_of I.hok hT) ho hx hd (by rw [hlen, ← rel.length]; exact z) (fun e he => hkv rel hp hk e (Array.mem_toList_iff.mpr he)) fun h' ob tk n ho' hx' ⟨hh, hd'⟩ hs => ?_
      refine ⟨_, d_write I (by rw [ha]; exact True.intro) hs ⟨_, ho'⟩ (odE_ok hsys ho' hx' hd' ?_ ?_), q⟩
      · rw [Array.toList_push]
        exact Paired.snoc (env_of rel hp) ⟨rfl, rv⟩
      · intro e he x t hx
        rw [Array.toList_push] at he
        rcases List.mem_append.mp he with he | he
        · exact hs_mix hkk e he x t hx
        · rw [List.mem_singleton.mp he] at hx
          cases hx
/-! ### the walk over the keys -/
def Itko (w : World) (d : Addr) (o : Obj) (kvs : List (V × V)) : It :=
  ⟨fun i H => H d = some (.frz o (odE w d kvs)) ∧ i < kvs.length, fun i H x H' => H' = H ∧ ∃ v, kvs[i]? = some (x, v), fun i H => H d = some (.frz o (odE w d kvs)) ∧ kvs.length ≤ i⟩
section
variable {X : Cx} {pins : List (Addr × Obj)} {σ : L2.St} {H : Hp} {s : Shared} {d : Addr} {o : Obj}
theorem frzO {w : World} {kvs : List (V × V)} (I : Inv X pins σ H s) (h : H d = some (.frz o (odE w d kvs))) :
    (d == sysModules) = false ∧ s.heap.get? d = some o ∧ o.ExactDict ∧ ∃ (es : Array DictEntry) (ep : Nat), o.data = .dict es ep ∧ es.size = kvs.length ∧ EnV kvs es.toList ∧ HsE w es.toList := by
  obtain ⟨hd, ⟨hs, o', es, ep, ho, hx, hdt, hv, hh⟩, _⟩ := I.hok d _ h
  rw [hd] at ho
  cases ho
  refine ⟨hs, hd, hx, es, ep, hdt, ?_, hv, hh⟩
  have l1 := Paired.length hv
  have l2 : es.toList.length = es.size := by simp
  omega
end
theorem turn_keysO {P : Program} {w0 w : World} {K : PySem.W.Frag} {tg : Expr} {d : Addr} {o : Obj} {es : Array DictEntry} {ep : Nat} {kvs : List (V × V)} (it : Addr) (hod : o.data = .dict es ep) : Turn P w0 K tg (Itko w d o kvs) [it] it (fun i h => h.IsKeyIter it d i kvs.length ep) where
  mem := by simp
  obj := fun i h st b hb => by
    have e : b = it := by simpa using hb
    subst e
    obtain ⟨oi, e, c, dd⟩ := st
    exact ⟨oi, e, fun v z => by rw [dd] at z; cases z⟩
  keep := fun i h h' st k => st.at fun oi e => k it (by simp) oi e
  item := by
    intro X hP hw hK hc i pins s σ H E I hf st hg
    subst hP hw hK
    obtain ⟨hd, hi⟩ := hg
    obtain ⟨f0, f1, f2, f3, f4, f5⟩ := hf it (by simp)
    obtain ⟨hs, hgd, hx, es', ep', hdt, hsz, hv, _⟩ := frzO I hd
    obtain ⟨rfl, rfl⟩ := dict_ep hod hdt
    obtain ⟨⟨k, v⟩, hkv⟩ : ∃ p, kvs[i]? = some p := ⟨kvs[i], List.getElem?_eq_getElem hi⟩
    obtain ⟨en, hen0, hk1, hk2⟩ := paired_get hv hkv
    have hen : es'[i]? = some en := by simpa using hen0
    refine next_key_item st hgd hdt hsz hen fun h' st' sb => ?_
    have I1 : Inv X pins σ H { s with heap := h' } := I.turned (t' := s.toks) (fun b ob hb e => (sb.2 b hb).trans e) f0 f1 f3 f4 f5
    obtain ⟨oi, e, c, dd⟩ := id st'
    exact ⟨en.key, rfl, go_of (s := { s with heap := h' }) e c dd (by decide) ⟨k, H, I1, hk1, ⟨rfl, v, hkv⟩, st', fun b hb => (hf b hb).1⟩⟩
  done := by
    intro X hP hw hK hc i pins s σ H E I hf st hg
    subst hP hw hK
    obtain ⟨hd, hi⟩ := hg
    obtain ⟨f0, f1, f2, f3, f4, f5⟩ := hf it (by simp)
    obtain ⟨hs, hgd, hx, es', ep', hdt, hsz, hv, _⟩ := frzO I hd
    obtain ⟨rfl, rfl⟩ := dict_ep hod hdt
    exact next_key_end (I.ok.hd hc) st hgd hdt hsz hi fun h' eb => ⟨rfl, I.turned (t' := s.toks) (fun b ob hb e => eb b ob hb e) f0 f1 f3 f4 f5⟩
  self := fun A i s Q E st h => by
    refine wpAny_pyIter_slot st.typeIs PySem.F.slot_dict_keyiterator_iter (wpAny_call_entry PySem.F.slot_dict_keyiterator_iter st.typeIs PySem.F.entry_dict_keyiterator_iter ?_ (PySem.F.args_dict_keyiterator_iter_1 _))
    show wpAny _ _ (ret (.ref it)) _ _ s
    exact wpAny_pure ⟨_, rfl, "dict_keyiterator", _, st.typeIs, PySem.F.slot_dict_keyiterator_next.lookup, h⟩
/-- the keys of a dict of one's own, locked: ints and texts, or any -/
def iKeysO (td : TE) : TI := fun σ H R => td σ H fun x H1 => ∃ d o, x = .ref d ∧ ((∃ kvs, H1 d = some (.frz o (.dK kvs)) ∧ R (Itk d o kvs) H1) ∨ ∃ w kvs, H1 d = some (.frz o (odE w d kvs)) ∧ R (Itko w d o kvs) H1)
theorem pi_keysO {X : Cx} {tg e : Expr} {td : TE} (he : PE X e td) : PI X tg e (iKeysO td) := by
  refine ⟨fun pins s σ H R I h => ?_⟩
  refine thn (he.run pins s σ H _ I h) fun u s1 ⟨x, H1, I1, rx, d, o, ex, q⟩ => ?_
  subst ex
  obtain rfl : u = Value.ref d := rx
  rcases q with ⟨kvs, hd, q⟩ | ⟨w, kvs, hd, q⟩
  · obtain ⟨hs, hgd, hx, es, ep, vs, hdt, hsz, kv, hm⟩ := I1.frzK hd
    refine iter_keys hs hgd hx hdt (pi_one (tk := s1.toks) I1 _ (turn_keys _ hdt) ⟨_, Heap.get?_push_size _ rfl, rfl, ?_⟩ q)
    rw [hsz] <;> rfl
  · obtain ⟨hs, hgd, hx, es, ep, hdt, hsz, hv, _⟩ := frzO I1 hd
    refine iter_keys hs hgd hx hdt (pi_one (tk := s1.toks) I1 _ (turn_keysO _ hdt) ⟨_, Heap.get?_push_size _ rfl, rfl, ?_⟩ q)
    rw [hsz] <;> rfl
/-- a walk over things that are known ahead -/
structure Wk (J : It) (xs : List V) (Lk : Hp → Prop) : Prop where
  go : ∀ i H, i < xs.length → Lk H → J.go i H
  stop : ∀ H, Lk H → J.stop xs.length H
  yld : ∀ i H x H', J.yld i H x H' → H' = H ∧ xs[i]? = some x
theorem wk_k {d : Addr} {o : Obj} {kvs : List (Key × V)} : Wk (Itk d o kvs) (kvs.map fun kv => kV kv.1) (fun H => H d = some (.frz o (.dK kvs))) where
  go := fun i H hi h => ⟨h, by simpa using hi⟩
  stop := fun H h => ⟨h, by simp⟩
  yld := fun i H x H' ⟨e, k, v, hk, hx⟩ => ⟨e, by rw [List.getElem?_map, hk, hx]; rfl⟩
theorem wk_o {w : World} {d : Addr} {o : Obj} {kvs : List (V × V)} : Wk (Itko w d o kvs) (kvs.map fun kv => kv.1) (fun H => H d = some (.frz o (odE w d kvs))) where
  go := fun i H hi h => ⟨h, by simpa using hi⟩
  stop := fun H h => ⟨h, by simp⟩
  yld := fun i H x H' ⟨e, v, hk⟩ => ⟨e, by rw [List.getElem?_map, hk]; rfl⟩
theorem lc_it {J : It} {xs : List V} {Lk : Hp → Prop} {g : TG} {tt : TT} {te : TE} {vs : List Nat} {σ : L2.St} {H1 : Hp} {D : Addr} {Qd : Hp → Prop} (wk : Wk J xs Lk) (Pv : Nat → Hp → Prop) (h0 : Pv 0 (upd H1 D (.lst []))) (hl : ∀ i H, i ≤ xs.length → Pv i H → Lk H)
    (hs : ∀ i x H, xs[i]? = some x → Pv i H → g x (wipe σ vs) H fun σ2 H2 => wipe σ2 vs = wipe σ vs ∧ tt σ2 H2 fun b H3 =>
      if b = true then te σ2 H3 fun y H4 => ∃ acc, H4 D = some (.lst acc) ∧ acc.length < sizeLine ∧ Pv (i + 1) (upd H4 D (.lst (acc ++ [y]))) else Pv (i + 1) H3) (hd : ∀ H, Pv xs.length H → Qd H) :
    ∃ W : Nat → Nat → Hp → Prop, (∃ m, W 0 m (upd H1 D (.lst []))) ∧ ∀ i m H, W i m H →
      (J.stop i H ∧ Qd H) ∨ (J.go i H ∧ ∃ Nx : Hp → Prop, (∀ H', Nx H' → ∃ m', m' < m ∧ W (i + 1) m' H') ∧ ∀ x H', J.yld i H x H' → g x (wipe σ vs) H' fun σ2 H2 => wipe σ2 vs = wipe σ vs ∧ tt σ2 H2 fun b H3 =>
        if b = true then te σ2 H3 fun y H4 => ∃ acc, H4 D = some (.lst acc) ∧ acc.length < sizeLine ∧ Nx (upd H4 D (.lst (acc ++ [y]))) else Nx H3) := by
  refine ⟨fun i m H => m = xs.length - i ∧ i ≤ xs.length ∧ Pv i H, ⟨xs.length, by simp, Nat.zero_le _, h0⟩, ?_⟩
  rintro i m H ⟨rfl, hi, p⟩
  have q := hl i H hi p
  by_cases hlt : i < xs.length
  · refine .inr ⟨wk.go i H hlt q, Pv (i + 1), fun H' p' => ⟨xs.length - (i + 1), by omega, rfl, hlt, p'⟩, fun x H' y => ?_⟩
    obtain ⟨e, y2⟩ := wk.yld i H x H' y
    subst e
    exact hs i x _ y2 p
  · have e : i = xs.length := by omega
    subst e
    exact .inl ⟨wk.stop H q, hd H p⟩
theorem for_it {J : It} {xs : List V} {Lk : Hp → Prop} {g : TG} {tb : TS} {D : Ends} {σ : L2.St} {H : Hp} (wk : Wk J xs Lk) (Pv : Nat → L2.St → Hp → Prop) (h0 : Pv 0 σ H) (hl : ∀ i σ H, i ≤ xs.length → Pv i σ H → Lk H)
    (hs : ∀ i x σ H, xs[i]? = some x → Pv i σ H → g x σ H fun σ2 H2 => tb { D with nx := Pv (i + 1), ct := Pv (i + 1), bk := D.nx } σ2 H2) (hd : ∀ σ H, Pv xs.length σ H → D.nx σ H) :
    ∃ W : Nat → Nat → L2.St → Hp → Prop, (∃ m, W 0 m σ H) ∧ ∀ i m σ H, W i m σ H →
      (J.stop i H ∧ D.nx σ H) ∨ (J.go i H ∧ ∃ Nx : L2.St → Hp → Prop, (∀ σ' H', Nx σ' H' → ∃ m', m' < m ∧ W (i + 1) m' σ' H') ∧ ∀ x H', J.yld i H x H' → g x σ H' fun σ2 H2 => tb { D with nx := Nx, ct := Nx, bk := D.nx } σ2 H2) := by
  refine ⟨fun i m σ H => m = xs.length - i ∧ i ≤ xs.length ∧ Pv i σ H, ⟨xs.length, by simp, Nat.zero_le _, h0⟩, ?_⟩
  rintro i m σ H ⟨rfl, hi, p⟩
  have q := hl i σ H hi p
  by_cases hlt : i < xs.length
  · refine .inr ⟨wk.go i H hlt q, Pv (i + 1), fun σ' H' p' => ⟨xs.length - (i + 1), by omega, rfl, hlt, p'⟩, fun x H' y => ?_⟩
    obtain ⟨e, y2⟩ := wk.yld i H x H' y
    subst e
    exact hs i x σ _ y2 p
  · have e : i = xs.length := by omega
    subst e
    exact .inl ⟨wk.stop H q, hd σ H p⟩
/-- a dict whose keys are xs -/
inductive DkAt (H : Hp) (a : Addr) : HO → List V → Prop
  | k {kvs : List (Key × V)} (h : H a = some (.dK kvs)) : DkAt H a (.dK kvs) (kvs.map fun kv => kV kv.1)
  | o {w : World} {kvs : List (V × V)} (h : H a = some (odE w a kvs)) : DkAt H a (odE w a kvs) (kvs.map fun kv => kv.1)
theorem DkAt.at {H : Hp} {a : Addr} {u : HO} {xs : List V} (h : DkAt H a u xs) : H a = some u := by cases h <;> assumption
theorem DkAt.mut {H : Hp} {a : Addr} {u : HO} {xs : List V} (h : DkAt H a u xs) : Mut (some u) := by cases h <;> exact True.intro
theorem DkAt.up {H H' : Hp} {a : Addr} {u : HO} {xs : List V} (e : Ex H H') (h : DkAt H a u xs) : DkAt H' a u xs := by
  cases h with
  | k h => exact .k (e _ _ h)
  | o h => exact .o (e _ _ h)
/-- the walk, locked, read -/
theorem keys_wk {H : Hp} {a : Addr} {u : HO} {xs : List V} {od : Obj} {σ : L2.St} {i : Nat} {R : It → Hp → Prop} (h : DkAt H a u xs) (hv : σ[i]? = some (some (.ref a))) (k : ∀ J, Wk J xs (fun H => H a = some (.frz od u)) → R J (upd H a (.frz od u))) : iKeysO (tVar i) σ (upd H a (.frz od u)) R := by
  cases h with
  | k h => exact ⟨_, hv, a, od, rfl, .inl ⟨_, upd_same, k _ wk_k⟩⟩
  | o h => exact ⟨_, hv, a, od, rfl, .inr ⟨_, _, upd_same, k _ wk_o⟩⟩
/-- what holds of the heap while the dict at a is locked -/
structure LkAt (H : Hp) (a : Addr) (u : HO) (H1 : Hp) : Prop where
  at_ : ∃ od, H1 a = some (.frz od u)
  k : ∀ b o, b ≠ a → H b = some o → H1 b = some o
theorem LkAt.ex {H : Hp} {a : Addr} {u : HO} {H1 H2 : Hp} (h : LkAt H a u H1) (e : Ex H1 H2) : LkAt H a u H2 := ⟨let ⟨od, z⟩ := h.at_; ⟨od, e _ _ z⟩, fun b o n z => e b o (h.k b o n z)⟩
/-- [e for k in d if ..], e and the test reading alone -/
theorem el_keys {tt : TT} {te : TE} {σ : L2.St} {H : Hp} {a : Addr} {u : HO} {xs : List V} {i j : Nat} {vs : List Nat} (f : Nat → Bool) (v : Nat → V) (h : DkAt H a u xs) (hv : σ[i]? = some (some (.ref a))) (hz : xs.length ≤ 40000) (hw : ∀ x, wipe ((wipe σ vs).set j (some x)) vs = wipe σ vs)
    (ht : ∀ n x H1, xs[n]? = some x → LkAt H a u H1 → EvT tt ((wipe σ vs).set j (some x)) H1 (f n)) (he : ∀ n x H1, xs[n]? = some x → f n = true → LkAt H a u H1 → Ev te ((wipe σ vs).set j (some x)) H1 (v n)) :
    EvL (tLockE (tLc (iKeysO (tVar i)) (gName j) tt te vs)) σ H (given xs.length f v) := fun H1 e Q q => by
  have h1 := h.up e
  refine ⟨a, u, h1.at, h1.mut, fun od => keys_wk h1 hv fun J wk D hD => ?_⟩
  have Da : D ≠ a := fun z => by rw [z, upd_same] at hD; cases hD
  have h1D : H1 D = none := by rw [upd_ne Da] at hD; exact hD
  have lk : LkAt H a u (upd H1 a (.frz od u)) := ⟨⟨od, upd_same⟩, fun b o n z => by rw [upd_ne n]; exact e b o z⟩
  refine lc_it wk (Cw (upd H1 a (.frz od u)) f v D) ⟨hD, Ex.new hD, upd_same⟩ (fun n H2 _ p => p.2.1 _ _ upd_same) (fun n x H2 hx p => ?_) fun H2 p => ?_
  · exact ⟨hw x, cw_turn p (by have := (List.getElem?_eq_some_iff.mp hx).1; omega) (ht n x _ hx lk) fun hf => he n x _ hx hf lk⟩
  · refine ⟨p.2.1 _ _ upd_same, q D _ h1D (fun b o z => ?_) (by rw [upd_ne Da]; exact p.2.2)⟩
    by_cases hb : b = a
    · rw [hb] at z ⊢
      rw [upd_same, ← z, h1.at]
    · rw [upd_ne hb]
      exact p.2.1 b o (by rw [upd_ne hb]; exact z)
end LG
/-! Plain readings: a displayed dict of texts asked at a text, texts added, joined; a comprehension over a list. -/
namespace LG
open PySem PySem.Spec PyProof.Rows L2 Evl
section
variable {σ : L2.St} {H : Hp} {ta tb te ty to : TE} {K : PySem.W.Frag}
def kvT (kvs : List (Str × Str)) : List (TE × TE) := kvs.map fun kv => (tC (.str kv.1), tC (.str kv.2))
def kvV (kvs : List (Str × Str)) : List (Key × V) := kvs.map fun kv => (Sum.inr kv.1, V.str kv.2)
theorem pairs_c : ∀ (kvs : List (Str × Str)) (σ : L2.St) (H : Hp) (Q : List (V × V) → Hp → Prop), Q (kvs.map fun kv => (V.str kv.1, V.str kv.2)) H → tPairs (kvT kvs) σ H Q
  | [], _, _, _, h => h
  | kv :: r, σ, H, Q, h => pairs_c r σ H _ h
theorem ev_dget {kvs : List (Str × Str)} {k v : Str} (h15 : kvs.length ≤ 15) (hk : Ev ty σ H (.str k)) (hv : valV (mergeK [] (kvV kvs)) (Sum.inr k) = some (.str v)) : Ev (tDGet (tDisp (kvT kvs)) ty) σ H (.str v) := fun H1 e Q q => by
  intro p hp
  refine pairs_c kvs σ _ _ ⟨upd_same, kvV kvs, ?_, by simpa [kvV] using h15, ?_⟩
  · unfold kvV
    rw [List.map_map]
    rfl
  · rw [upd_upd]
    refine hk _ (e.trans (Ex.new hp)) _ fun H3 e3 => ⟨p, .str v, rfl, ?_, q H3 ((Ex.new hp).trans e3)⟩
    rw [← hv]
    exact DGet.k (k := Sum.inr k) (e3 p _ upd_same)
theorem ev_fn {sp : Sp} {vs : List V} {E : XK} {tv : TA} {z : V} (h : EvA tv σ H vs) (hs : SpV sp vs H z) : Ev (tFn sp E tv) σ H z := fun H1 e Q q => h H1 e _ fun H2 e2 => hs H2 (e.trans e2) Q (fun H3 e3 => q H3 (e2.trans e3)) E
theorem ev_addS {x y : Str} (ha : Ev ta σ H (.str x)) (hb : Ev tb σ H (.str y)) (hz : x.length + y.length ≤ 2000000) : Ev (tOp (fun x y H Q => ∃ i j, x = .str i ∧ y = .str j ∧ i.length + j.length ≤ sizeLine ∧ Q (.str (i ++ j)) H) ta tb) σ H (.str (x ++ y)) :=
  ev_op ha hb fun H1 e Q q => ⟨x, y, rfl, rfl, Nat.le_trans hz (by decide), q H1 (Ex.refl H1)⟩
theorem ev_joinG {sep : Str} {ys : List Str} (hs : Ev to σ H (.str sep)) (h : EvL te σ H (ys.map V.str)) (hz : (ys.map (·.length)).sum + ys.length * sep.length ≤ 16777216) :
    Ev (tM1 (fun x xs H Q => ∃ a p, ∃ ys : List Str, x = .str a ∧ xs = [.ref p] ∧ (SqL K H p (ys.map V.str) ∨ SqT K H p (ys.map V.str)) ∧ (ys.map (·.length)).sum + ys.length * a.length ≤ 16777216 ∧ Q (.str (Txt.join a ys)) H) to te) σ H (.str (TM.joinS sep ys)) := by
  intro H1 e Q q
  refine hs H1 e _ fun H2 e2 => ⟨⟨sep, rfl⟩, h H2 (e.trans e2) _ fun p H3 hp e3 hl => ⟨sep, p, ys, rfl, rfl, .inl (sq_of hl), hz, ?_⟩⟩
  have z : ∀ ys : List Str, Str.join sep ys = TM.joinS sep ys := by
    intro ys
    induction ys with
    | nil => rfl
    | cons x r ih =>
      cases r with
      | nil => rfl
      | cons y r =>
        show x ++ sep ++ Str.join sep (y :: r) = x ++ sep ++ TM.joinS sep (y :: r)
        rw [ih]
  rw [TL.join_eq, z]
  exact q H3 (e2.trans e3)
/-- each element of a list, computed: ys the values -/
theorem el_lmap {a : Addr} {xs ys : List V} {tl : TE} {j : Nat} {vs : List Nat} (h : Ev tl σ H (.ref a)) (hx : SqL K H a xs) (hz : xs.length ≤ 40000) (hl : xs.length = ys.length) (hw : ∀ x, wipe ((wipe σ vs).set j (some x)) vs = wipe σ vs)
    (he : ∀ (i : Nat) (x y : V) H1, Ex H H1 → xs[i]? = some x → ys[i]? = some y → Ev te ((wipe σ vs).set j (some x)) H1 y) :
    EvL (tLc (iList K tl) (gName j) tYes te vs) σ H ys := by
  have z : given xs.length (fun _ => true) (fun i => ys.getD i .non) = ys := by
    unfold given
    rw [List.filter_eq_self.mpr fun _ _ => rfl, hl]
    apply List.ext_getElem?
    intro i
    rw [List.getElem?_map]
    by_cases hi : i < ys.length
    · rw [List.getElem?_eq_getElem (by simpa using hi), List.getElem?_eq_getElem hi]
      simp [List.getD_eq_getElem?_getD, List.getElem?_eq_getElem hi]
    · rw [List.getElem?_eq_none (by simpa using hi), List.getElem?_eq_none (by omega)]
      rfl
  rw [← z]
  refine el_lcL (fun _ => true) _ h hx hz hw (fun i x H1 e hi => fun H2 e2 _ q => q H2 (Ex.refl H2)) (fun i x H1 e hi _ => ?_)
  have hi2 : i < ys.length := hl ▸ (List.getElem?_eq_some_iff.mp hi).1
  exact he i x _ H1 e hi (by rw [List.getElem?_eq_getElem hi2]; simp [List.getD_eq_getElem?_getD, List.getElem?_eq_getElem hi2])
end
section
variable {σ : L2.St} {H : Hp} {ta tb te : TE} {K : PySem.W.Frag}
/-- list + list, the first one wherever it stands -/
theorem el_cat {xs ys : List V} (ha : ∀ H1, Ex H H1 → ∀ Q : VK, (∀ p H2, Ex H1 H2 → H2 p = some (.lst xs) → Q (.ref p) H2) → ta σ H1 Q) (hb : EvL tb σ H ys) (hz : xs.length + ys.length ≤ 100000) : EvL (tOp rCat ta tb) σ H (xs ++ ys) := fun H1 e Q q =>
  ha H1 e _ fun p H2 e2 h2 => hb H2 (e.trans e2) _ fun p2 H3 _ e3 h3 => ⟨p, p2, xs, ys, rfl, rfl, e3 p _ h2, h3, sz_of hz, fun l hl => q l _ (fresh_back (e2.trans e3) hl) ((e2.trans e3).trans (Ex.new hl)) upd_same⟩
theorem of_ev {xs : List V} {p : Addr} (h : Ev ta σ H (.ref p)) (hp : H p = some (.lst xs)) : ∀ H1, Ex H H1 → ∀ Q : VK, (∀ p H2, Ex H1 H2 → H2 p = some (.lst xs) → Q (.ref p) H2) → ta σ H1 Q := fun H1 e Q q => h H1 e _ fun H2 e2 => q p H2 e2 (e2 p _ (e p _ hp))
theorem of_el {xs : List V} (h : EvL ta σ H xs) : ∀ H1, Ex H H1 → ∀ Q : VK, (∀ p H2, Ex H1 H2 → H2 p = some (.lst xs) → Q (.ref p) H2) → ta σ H1 Q := fun H1 e Q q => h H1 e _ fun p H2 _ e2 h2 => q p H2 e2 h2
theorem cut_to {xs : List V} {m : Nat} (h : m ≤ xs.length) : cutV xs none (some (m : Int)) = xs.take m := by
  unfold cutV
  rw [HT.sIx_none, HT.sIx_nat, Nat.min_eq_left h]
  rfl
theorem cut_from {xs : List V} {m : Nat} (h : m ≤ xs.length) : cutV xs (some (m : Int)) none = xs.drop m := by
  unfold cutV
  rw [HT.sIx_none, HT.sIx_nat, Nat.min_eq_left h, List.take_of_length_le (by rw [List.length_drop]; omega)]
theorem at_nat {xs : List V} {m : Nat} (h : m < xs.length) : atI xs (m : Int) = some xs[m] := by
  unfold atI
  rw [ixN_nat h]
  exact List.getElem?_eq_getElem h
end
/-! ### lists side by side -/
def A2 {α β : Type} (R : α → β → Prop) : List α → List β → Prop
  | [], [] => True
  | x :: xs, y :: ys => R x y ∧ A2 R xs ys
  | _, _ => False
section
variable {α β : Type} {R R' : α → β → Prop}
theorem A2.of : ∀ {xs : List α} {ys : List β}, xs.length = ys.length → (∀ (i : Nat) (x : α) (y : β), xs[i]? = some x → ys[i]? = some y → R x y) → A2 R xs ys
  | [], [], _, _ => trivial
  | [], _ :: _, h, _ => nomatch h
  | _ :: _, [], h, _ => nomatch h
  | x :: xs, y :: ys, h, k => ⟨k 0 x y rfl rfl, A2.of (Nat.succ.inj h) fun i a b p q => k (i + 1) a b p q⟩
theorem A2.len : ∀ {xs : List α} {ys : List β}, A2 R xs ys → xs.length = ys.length
  | [], [], _ => rfl
  | [], _ :: _, h => h.elim
  | _ :: _, [], h => h.elim
  | x :: xs, y :: ys, h => congrArg Nat.succ (A2.len h.2)
theorem A2.get : ∀ {xs : List α} {ys : List β}, A2 R xs ys → ∀ (i : Nat) (x : α) (y : β), xs[i]? = some x → ys[i]? = some y → R x y
  | [], _, _, _, _, _, p, _ => by simp at p
  | _ :: _, [], h, _, _, _, _, _ => h.elim
  | x :: xs, y :: ys, h, 0, a, b, p, q => by
    simp at p q
    subst p q
    exact h.1
  | x :: xs, y :: ys, h, i + 1, a, b, p, q => A2.get h.2 i a b (by simpa using p) (by simpa using q)
theorem A2.app : ∀ {xs : List α} {ys : List β} {zs : List α} {ws : List β}, A2 R xs ys → A2 R zs ws → A2 R (xs ++ zs) (ys ++ ws)
  | [], [], _, _, _, h => h
  | [], _ :: _, _, _, h, _ => h.elim
  | _ :: _, [], _, _, h, _ => h.elim
  | x :: xs, y :: ys, _, _, h, k => ⟨h.1, A2.app h.2 k⟩
theorem A2.take : ∀ {xs : List α} {ys : List β} (m : Nat), A2 R xs ys → A2 R (xs.take m) (ys.take m)
  | [], [], m, _ => by
    rw [List.take_nil, List.take_nil]
    exact trivial
  | [], _ :: _, _, h => h.elim
  | _ :: _, [], _, h => h.elim
  | x :: xs, y :: ys, 0, _ => trivial
  | x :: xs, y :: ys, m + 1, h => ⟨h.1, A2.take m h.2⟩
theorem A2.drop : ∀ {xs : List α} {ys : List β} (m : Nat), A2 R xs ys → A2 R (xs.drop m) (ys.drop m)
  | [], [], m, _ => by
    rw [List.drop_nil, List.drop_nil]
    exact trivial
  | [], _ :: _, _, h => h.elim
  | _ :: _, [], _, h => h.elim
  | x :: xs, y :: ys, 0, h => h
  | x :: xs, y :: ys, m + 1, h => A2.drop m h.2
theorem A2.rev : ∀ {xs : List α} {ys : List β}, A2 R xs ys → A2 R xs.reverse ys.reverse
  | [], [], _ => trivial
  | [], _ :: _, h => h.elim
  | _ :: _, [], h => h.elim
  | x :: xs, y :: ys, h => by
    rw [List.reverse_cons, List.reverse_cons]
    exact (A2.rev h.2).app ⟨h.1, trivial⟩
theorem A2.set : ∀ {xs : List α} {ys : List β} (m : Nat) {x : α} {y : β}, A2 R xs ys → R x y → A2 R (xs.set m x) (ys.set m y)
  | [], [], _, _, _, _, _ => trivial
  | [], _ :: _, _, _, _, h, _ => h.elim
  | _ :: _, [], _, _, _, h, _ => h.elim
  | x :: xs, y :: ys, 0, _, _, h, k => ⟨k, h.2⟩
  | x :: xs, y :: ys, m + 1, _, _, h, k => ⟨h.1, A2.set m h.2 k⟩
theorem A2.imp : ∀ {xs : List α} {ys : List β}, A2 R xs ys → (∀ x y, R x y → R' x y) → A2 R' xs ys
  | [], [], _, _ => trivial
  | [], _ :: _, h, _ => h.elim
  | _ :: _, [], h, _ => h.elim
  | x :: xs, y :: ys, h, k => ⟨k _ _ h.1, A2.imp h.2 k⟩
end
end LG
namespace LG
open PySem PySem.Spec PyProof.Rows L2 Evl
theorem given_map (ys : List V) : given ys.length (fun _ => true) (fun i => ys.getD i .non) = ys := by
  unfold given
  rw [List.filter_eq_self.mpr fun _ _ => rfl]
  apply List.ext_getElem?
  intro i
  rw [List.getElem?_map]
  by_cases hi : i < ys.length
  · rw [List.getElem?_eq_getElem (by simpa using hi), List.getElem?_eq_getElem hi]
    simp [List.getD_eq_getElem?_getD, List.getElem?_eq_getElem hi]
  · rw [List.getElem?_eq_none (by simpa using hi), List.getElem?_eq_none (by omega)]
    rfl
/-- [e for k in d], e's values told ahead -/
theorem el_keysM {te : TE} {σ : L2.St} {H : Hp} {a : Addr} {u : HO} {xs ys : List V} {i j : Nat} {vs : List Nat} (h : DkAt H a u xs) (hv : σ[i]? = some (some (.ref a))) (hl : xs.length = ys.length) (hz : xs.length ≤ 40000) (hw : ∀ x, wipe ((wipe σ vs).set j (some x)) vs = wipe σ vs)
    (he : ∀ (n : Nat) (x y : V) H1, xs[n]? = some x → ys[n]? = some y → LkAt H a u H1 → Ev te ((wipe σ vs).set j (some x)) H1 y) : EvL (tLockE (tLc (iKeysO (tVar i)) (gName j) tYes te vs)) σ H ys := by
  have z := given_map ys
  rw [← hl] at z
  rw [← z]
  refine el_keys (fun _ => true) _ h hv hz hw (fun n x H1 hi lk => fun H2 e2 _ q => q H2 (Ex.refl H2)) (fun n x H1 hi _ lk => ?_)
  have hi2 : n < ys.length := hl ▸ (List.getElem?_eq_some_iff.mp hi).1
  exact he n x _ H1 hi (by rw [List.getElem?_eq_getElem hi2]; simp [List.getD_eq_getElem?_getD, List.getElem?_eq_getElem hi2]) lk
/-- [e for k in d] and for k in d over a walk whose steps change the heap -/
theorem lk_get {H H1 : Hp} {a : Addr} {kvs : List (Key × V)} (h : LkAt H a (.dK kvs) H1) : Rd H1 a (.dK kvs) := let ⟨od, z⟩ := h.at_; .inr ⟨od, z⟩
theorem ev_dgetR {td ty : TE} {σ : L2.St} {H : Hp} {a : Addr} {kvs : List (Key × V)} {k : Key} {v : V} (h : Ev td σ H (.ref a)) (hk : Ev ty σ H (kV k)) (hr : Rd H a (.dK kvs)) (hv : valV kvs k = some v) : Ev (tDGet td ty) σ H v := fun H1 e Q q =>
  h H1 e _ fun H2 e2 => hk H2 (e.trans e2) _ fun H3 e3 => ⟨a, v, rfl, .inl ⟨kvs, k, ex_rd ((e.trans e2).trans e3) hr, rfl, hv.symm⟩, q H3 (e2.trans e3)⟩
theorem ev_dinR {td ty : TE} {σ : L2.St} {H : Hp} {a : Addr} {kvs : List (Key × V)} {k : Key} (hk : Ev ty σ H (kV k)) (h : Ev td σ H (.ref a)) (hr : Rd H a (.dK kvs)) : Ev (tDIn ty td) σ H (.bl (valV kvs k).isSome) := fun H1 e Q q =>
  hk H1 e _ fun H2 e2 => h H2 (e.trans e2) _ fun H3 e3 => ⟨a, valV kvs k, rfl, .inl ⟨kvs, k, ex_rd ((e.trans e2).trans e3) hr, rfl, rfl⟩, q H3 (e2.trans e3)⟩
/-! ### the same where the dict may be locked already -/
def tLockO (t : TE) : TE := fun σ H Q => tLockE t σ H Q ∨ t σ H Q
theorem pe_lockO {X : Cx} {e : Expr} {t : TE} (h : PE X e t) : PE X e (tLockO t) := ⟨fun pins s σ H Q I hw => by
  rcases hw with hw | hw
  · exact (pe_lock h).run pins s σ H Q I hw
  · exact h.run pins s σ H Q I hw⟩
def DkX (H : Hp) (a : Addr) (u : HO) (xs : List V) : Prop := DkAt H a u xs ∨ ∃ od kvs, H a = some (.frz od (.dK kvs)) ∧ u = .dK kvs ∧ xs = kvs.map fun kv => kV kv.1
theorem dkx_of {H : Hp} {a : Addr} {kvs : List (Key × V)} (h : Rd H a (.dK kvs)) : DkX H a (.dK kvs) (kvs.map fun kv => kV kv.1) := by
  rcases h with h | ⟨od, h⟩
  · exact .inl (.k h)
  · exact .inr ⟨od, kvs, h, rfl, rfl⟩
theorem DkX.up {H H' : Hp} {a : Addr} {u : HO} {xs : List V} (e : Ex H H') (h : DkX H a u xs) : DkX H' a u xs := by
  rcases h with h | ⟨od, kvs, h, h1, h2⟩
  · exact .inl (h.up e)
  · exact .inr ⟨od, kvs, e _ _ h, h1, h2⟩
theorem el_keysX {tt : TT} {te : TE} {σ : L2.St} {H : Hp} {a : Addr} {u : HO} {xs : List V} {i j : Nat} {vs : List Nat} (f : Nat → Bool) (v : Nat → V) (h : DkX H a u xs) (hv : σ[i]? = some (some (.ref a))) (hz : xs.length ≤ 40000) (hw : ∀ x, wipe ((wipe σ vs).set j (some x)) vs = wipe σ vs)
    (ht : ∀ n x H1, xs[n]? = some x → LkAt H a u H1 → EvT tt ((wipe σ vs).set j (some x)) H1 (f n)) (he : ∀ n x H1, xs[n]? = some x → f n = true → LkAt H a u H1 → Ev te ((wipe σ vs).set j (some x)) H1 (v n)) :
    EvL (tLockO (tLc (iKeysO (tVar i)) (gName j) tt te vs)) σ H (given xs.length f v) := by
  rcases h with h | ⟨od, kvs, h, rfl, rfl⟩
  · exact fun H1 e Q q => .inl (el_keys f v h hv hz hw ht he H1 e Q q)
  · refine fun H1 e Q q => .inr ⟨_, hv, a, od, rfl, .inl ⟨kvs, e _ _ h, fun D hD => ?_⟩⟩
    have lk : LkAt H a (.dK kvs) H1 := ⟨⟨od, e _ _ h⟩, fun b o _ z => e b o z⟩
    refine lc_it wk_k (Cw H1 f v D) ⟨hD, Ex.new hD, upd_same⟩ (fun n H2 _ p => p.2.1 _ _ (e _ _ h)) (fun n x H2 hx p => ?_) fun H2 p => q D _ hD p.2.1 p.2.2
    exact ⟨hw x, cw_turn p (by have := (List.getElem?_eq_some_iff.mp hx).1; omega) (ht n x _ hx lk) fun hf => he n x _ hx hf lk⟩
theorem el_keysMX {te : TE} {σ : L2.St} {H : Hp} {a : Addr} {u : HO} {xs ys : List V} {i j : Nat} {vs : List Nat} (h : DkX H a u xs) (hv : σ[i]? = some (some (.ref a))) (hl : xs.length = ys.length) (hz : xs.length ≤ 40000) (hw : ∀ x, wipe ((wipe σ vs).set j (some x)) vs = wipe σ vs)
    (he : ∀ (n : Nat) (x y : V) H1, xs[n]? = some x → ys[n]? = some y → LkAt H a u H1 → Ev te ((wipe σ vs).set j (some x)) H1 y) : EvL (tLockO (tLc (iKeysO (tVar i)) (gName j) tYes te vs)) σ H ys := by
  have z := given_map ys
  rw [← hl] at z
  rw [← z]
  refine el_keysX (fun _ => true) _ h hv hz hw (fun n x H1 hi lk => fun H2 e2 _ q => q H2 (Ex.refl H2)) (fun n x H1 hi _ lk => ?_)
  have hi2 : n < ys.length := hl ▸ (List.getElem?_eq_some_iff.mp hi).1
  exact he n x _ H1 hi (by rw [List.getElem?_eq_getElem hi2]; simp [List.getD_eq_getElem?_getD, List.getElem?_eq_getElem hi2]) lk
end LG
/-! dict([(k, e) for k in ..]): new pairs, a new dict. -/
namespace LG
open PySem PySem.Spec PyProof.Rows L2 Evl
def PwR (H : Hp) (q : Addr) (kv : Key × V) : Prop := H q = some (.tup [kV kv.1, kv.2])
/-- i turns are done: the list at D holds the pairs of those that pass -/
def Pw (HL : Hp) (ks : List (Key × V)) (b : Key × V → Bool) (D : Addr) (i : Nat) (H' : Hp) : Prop := HL D = none ∧ Ex HL H' ∧ ∃ ps : List Addr, ps.length ≤ i ∧ H' D = some (.lst (ps.map V.ref)) ∧ Paired (PwR H') ps ((ks.take i).filter b)
theorem paired_up {H H' : Hp} (k : ∀ q o, (∀ xs, o ≠ .lst xs) → H q = some o → H' q = some o) {ps : List Addr} {ks : List (Key × V)} (h : Paired (PwR H) ps ks) : Paired (PwR H') ps ks := Paired.mapP h fun q kv z => k q _ (fun xs z => by cases z) z
theorem pw_start {HL : Hp} {ks : List (Key × V)} {b : Key × V → Bool} {D : Addr} (hD : HL D = none) : Pw HL ks b D 0 (upd HL D (.lst [])) := ⟨hD, Ex.new hD, [], Nat.le_refl _, upd_same, .nil⟩
theorem pw_turn {HL H' : Hp} {ks : List (Key × V)} {b : Key × V → Bool} {D : Addr} {i : Nat} {σ2 : L2.St} {t : TT} {te : TE} {kv : Key × V} (p : Pw HL ks b D i H') (hi : ks[i]? = some kv) (hz : ks.length ≤ 40000) (ht : EvT t σ2 HL (b kv)) (he : b kv = true → EvU te σ2 HL [kV kv.1, kv.2]) :
    t σ2 H' fun c H3 => if c = true then te σ2 H3 fun y H4 => ∃ acc, H4 D = some (.lst acc) ∧ acc.length < sizeLine ∧ Pw HL ks b D (i + 1) (upd H4 D (.lst (acc ++ [y]))) else Pw HL ks b D (i + 1) H3 := by
  obtain ⟨p1, p2, ps, pl, p3, p4⟩ := p
  have hlt : i < ks.length := (List.getElem?_eq_some_iff.mp hi).1
  have tk : (ks.take (i + 1)).filter b = (ks.take i).filter b ++ (if b kv = true then [kv] else []) := by
    rw [List.take_succ, hi, Option.toList_some, List.filter_append]
    congr 1
    rw [List.filter_cons]
    split <;> rfl
  refine ht H' p2 _ fun H3 e3 => ?_
  cases hb : b kv with
  | true =>
    show te σ2 H3 fun y H4 => ∃ acc, H4 D = some (.lst acc) ∧ acc.length < sizeLine ∧ Pw HL ks b D (i + 1) (upd H4 D (.lst (acc ++ [y])))
    refine he hb H3 (p2.trans e3) _ fun q H4 hq e4 h4 => ⟨ps.map V.ref, e4 D _ (e3 D _ p3), sz_lt (by rw [List.length_map]; omega), p1, Ex.mut ((p2.trans e3).trans e4) p1, ps ++ [q], by rw [List.length_append, List.length_singleton]; omega, by rw [List.map_append]; exact upd_same, ?_⟩
    rw [tk, hb, if_pos rfl]
    have hqD : q ≠ D := fun z => by
      rw [z, e3 D _ p3] at hq
      cases hq
    refine Paired.snoc (paired_up (fun r o ho z => ?_) p4) (by show upd H4 D _ q = _; rw [upd_ne hqD]; exact h4)
    have hr : r ≠ D := fun zz => by
      rw [zz, p3] at z
      exact ho _ (Option.some.inj z).symm
    rw [upd_ne hr]
    exact e4 _ _ (e3 _ _ z)
  | false =>
    show Pw HL ks b D (i + 1) H3
    refine ⟨p1, p2.trans e3, ps, by omega, e3 D _ p3, ?_⟩
    rw [tk, hb, if_neg (by decide), List.append_nil]
    exact paired_up (fun r o _ z => e3 _ _ z) p4
/-- a new list of new pairs -/
def EvP2 (te : TE) (σ : L2.St) (H : Hp) (kvs : List (Key × V)) : Prop := ∀ H1, Ex H H1 → ∀ Q : VK, (∀ p ps H2, H1 p = none → Ex H1 H2 → H2 p = some (.lst (ps.map V.ref)) → Paired (PwR H2) ps kvs → Q (.ref p) H2) → te σ H1 Q
theorem ep_keys {tt : TT} {te : TE} {σ : L2.St} {H : Hp} {a : Addr} {kvs ks : List (Key × V)} {b : Key × V → Bool} {i j : Nat} {vs : List Nat} (h : H a = some (.dK kvs)) (hv : σ[i]? = some (some (.ref a))) (hk : kvs.map (·.1) = ks.map (·.1)) (hz : ks.length ≤ 40000) (hw : ∀ x, wipe ((wipe σ vs).set j (some x)) vs = wipe σ vs)
    (ht : ∀ (n : Nat) (kv : Key × V) H1, ks[n]? = some kv → LkAt H a (.dK kvs) H1 → EvT tt ((wipe σ vs).set j (some (kV kv.1))) H1 (b kv)) (he : ∀ (n : Nat) (kv : Key × V) H1, ks[n]? = some kv → b kv = true → LkAt H a (.dK kvs) H1 → EvU te ((wipe σ vs).set j (some (kV kv.1))) H1 [kV kv.1, kv.2]) :
    EvP2 (tLockE (tLc (iKeysO (tVar i)) (gName j) tt te vs)) σ H (ks.filter b) := fun H1 e Q q => by
  have h1 : DkAt H1 a (.dK kvs) (kvs.map fun kv => kV kv.1) := .k (e _ _ h)
  refine ⟨a, .dK kvs, h1.at, h1.mut, fun od => keys_wk h1 hv fun J wk D hD => ?_⟩
  have Da : D ≠ a := fun z => by rw [z, upd_same] at hD; cases hD
  have h1D : H1 D = none := by rw [upd_ne Da] at hD; exact hD
  have lk : LkAt H a (.dK kvs) (upd H1 a (.frz od (.dK kvs))) := ⟨⟨od, upd_same⟩, fun b o n z => by rw [upd_ne n]; exact e b o z⟩
  have hlen : kvs.length = ks.length := by simpa using congrArg List.length hk
  refine lc_it wk (Pw (upd H1 a (.frz od (.dK kvs))) ks b D) (pw_start hD) (fun n H2 _ p => p.2.1 _ _ upd_same) (fun n x H2 hx p => ?_) fun H2 p => ?_
  · rw [List.getElem?_map] at hx
    obtain ⟨kv0, hkv0, rfl⟩ := Option.map_eq_some_iff.mp hx
    have hn : n < ks.length := hlen ▸ (List.getElem?_eq_some_iff.mp hkv0).1
    have hks : ks[n]? = some ks[n] := List.getElem?_eq_getElem hn
    have e1 : kv0.1 = ks[n].1 := by
      have z := congrArg (fun l => l[n]?) hk
      simp only [List.getElem?_map, hkv0, hks, Option.map_some] at z
      exact Option.some.inj z
    rw [e1]
    exact ⟨hw _, pw_turn p hks hz (ht n _ _ hks lk) fun hf => he n _ _ hks hf lk⟩
  · obtain ⟨_, p2, ps, _, p3, p4⟩ := p
    rw [List.length_map, hlen, List.take_length] at p4
    refine ⟨p2 _ _ upd_same, q D ps _ h1D (fun b o z => ?_) (by rw [upd_ne Da]; exact p3) (Paired.mapP p4 fun r kv z => ?_)⟩
    · by_cases hb : b = a
      · rw [hb] at z ⊢
        rw [upd_same, ← z, h1.at]
      · rw [upd_ne hb]
        exact p2 b o (by rw [upd_ne hb]; exact z)
    · have hr : r ≠ a := fun zz => by
        have z2 : H2 r = some (.tup [kV kv.1, kv.2]) := z
        rw [zz, p2 _ _ upd_same] at z2
        cases z2
      show upd H2 a _ r = _
      rw [upd_ne hr]
      exact z
theorem ep_list {K : PySem.W.Frag} {tl : TE} {te : TE} {σ : L2.St} {H : Hp} {l : Addr} {ks : List (Key × V)} {j : Nat} {vs : List Nat} (h : Ev tl σ H (.ref l)) (hl : SqL K H l (ks.map fun kv => kV kv.1)) (hz : ks.length ≤ 40000) (hw : ∀ x, wipe ((wipe σ vs).set j (some x)) vs = wipe σ vs)
    (he : ∀ (n : Nat) (kv : Key × V) H1, ks[n]? = some kv → Ex H H1 → EvU te ((wipe σ vs).set j (some (kV kv.1))) H1 [kV kv.1, kv.2]) :
    EvP2 (tLc (iList K tl) (gName j) tYes te vs) σ H ks := fun H1 e Q q => h H1 e _ fun H2 e2 => by
  refine ⟨l, rfl, ⟨_, ex_l (e.trans e2) hl⟩, fun D hD => ?_⟩
  refine lc_list (K := K) (a := l) (xs := ks.map fun kv => kV kv.1) (Pw H2 ks (fun _ => true) D) (pw_start hD) (fun n H3 _ p => ex_l ((e.trans e2).trans p.2.1) hl) (fun n x H3 hx p => ?_) fun H3 p => ?_
  · rw [List.getElem?_map] at hx
    obtain ⟨kv, hkv, rfl⟩ := Option.map_eq_some_iff.mp hx
    exact ⟨hw _, pw_turn p hkv hz (fun H4 e4 _ q => q H4 (Ex.refl H4)) fun _ => he n kv _ hkv (e.trans e2)⟩
  · obtain ⟨_, p2, ps, _, p3, p4⟩ := p
    rw [List.length_map, List.take_length, List.filter_eq_self.mpr fun _ _ => rfl] at p4
    exact q D ps H3 (fresh_back e2 hD) (e2.trans p2) p3 p4
/-! ### dict(..) -/
theorem merge_nodup : ∀ (more kvs : List (Key × V)), ((kvs ++ more).map (·.1)).Nodup → mergeK kvs more = kvs ++ more
  | [], kvs, _ => by rw [mergeK, List.foldl_nil, List.append_nil]
  | kv :: more, kvs, h => by
    have hk : ¬ (kvs.any fun x => decide (x.1 = kv.1)) = true := by
      rw [List.any_eq_true]
      rintro ⟨x, hx, e⟩
      have e1 := of_decide_eq_true e
      rw [List.map_append, List.map_cons, List.nodup_append] at h
      exact h.2.2 x.1 (List.mem_map.mpr ⟨x, hx, rfl⟩) kv.1 List.mem_cons_self e1
    have e : putK kvs kv.1 kv.2 = kvs ++ [kv] := by
      unfold putK
      rw [if_neg hk]
    rw [mergeK, List.foldl_cons, e]
    have z := merge_nodup more (kvs ++ [kv]) (by rw [List.append_assoc]; exact h)
    rw [mergeK] at z
    rw [z, List.append_assoc]
    rfl
def rDictP (K : PySem.W.Frag) : List V → Hp → VK → Prop := fun xs H Q => ∃ (a : Addr) (ps : List Addr) (kvs : List (Key × V)), xs = [.ref a] ∧ SqL K H a (ps.map V.ref) ∧ Paired (fun p kv => SqT K H p [kV kv.1, kv.2]) ps kvs ∧
    ∀ p, H p = none → Q (.ref p) (upd H p (.dK (mergeK [] kvs)))
theorem cr_dictP {X : Cx} (hcalm : X.calm = true) : CallR X (.type "dict") (rDictP X.K) := call_dictP hcalm
/-- a new dict -/
def EvD (te : TE) (σ : L2.St) (H : Hp) (kvs : List (Key × V)) : Prop := ∀ H1, Ex H H1 → ∀ Q : VK, (∀ p H2, H1 p = none → Ex H1 H2 → H2 p = some (.dK kvs) → Q (.ref p) H2) → te σ H1 Q
theorem ed_pairs {K : PySem.W.Frag} {te : TE} {σ : L2.St} {H : Hp} {kvs : List (Key × V)} (h : EvP2 te σ H kvs) (nd : (kvs.map (·.1)).Nodup) : EvD (tCB (rDictP K) (tCons te tNil)) σ H kvs := fun H1 e Q q =>
  h H1 e _ fun p ps H2 hp e2 h2 hps => ⟨p, ps, kvs, rfl, sq_of h2, Paired.mapP hps fun r kv z => st_of z, fun r hr => q r _ (fresh_back e2 hr) (e2.trans (Ex.new hr)) (by rw [upd_same, merge_nodup kvs [] nd]; rfl)⟩
theorem valV_map2 {g : V → V} {k : Key} : ∀ {kvs : List (Key × V)}, valV (kvs.map fun kv => (kv.1, g kv.2)) k = (valV kvs k).map g
  | [] => rfl
  | kv :: r => by
    rw [List.map_cons]
    by_cases e : kv.1 = k
    · rw [valV_pos (p := (kv.1, g kv.2)) e, valV_pos e]
      rfl
    · rw [valV_neg (p := (kv.1, g kv.2)) e, valV_neg e, valV_map2]
theorem look_of {kvs : List (Key × V)} (nd : (kvs.map (·.1)).Nodup) : ∀ kv ∈ kvs, valV kvs kv.1 = some kv.2 := by
  induction kvs with
  | nil => exact fun kv h => absurd h List.not_mem_nil
  | cons x r ih =>
    intro kv h
    rw [List.map_cons, List.nodup_cons] at nd
    rcases List.mem_cons.mp h with rfl | h
    · exact valV_pos rfl
    · rw [valV_neg (fun z => nd.1 (z ▸ List.mem_map.mpr ⟨kv, h, rfl⟩))]
      exact ih nd.2 kv h
end LG
/-! Terms turned, and terms put in. -/
namespace TM
open PySem PySem.Spec PyProof.Rows L2 LG Evl
def flipE (e : Str) (b : Bool) : Str := if (decide (e = "top")) == b then "bottom" else "top"
mutual
/-- places become what f tells; turned, if b -/
def Tree.re (f : Str → Option Tree) (b : Bool) : Tree → Tree
  | .place n => (f n).getD (.place n)
  | .endd e => .endd (flipE e b)
  | .lesser ts => if b then .greater (Tree.reAll f b ts) else .lesser (Tree.reAll f b ts)
  | .greater ts => if b then .lesser (Tree.reAll f b ts) else .greater (Tree.reAll f b ts)
def Tree.reAll (f : Str → Option Tree) (b : Bool) : List Tree → List Tree
  | [] => []
  | t :: ts => Tree.re f b t :: Tree.reAll f b ts
end
theorem reAll_map (f : Str → Option Tree) (b : Bool) : ∀ ts : List Tree, Tree.reAll f b ts = ts.map (Tree.re f b)
  | [] => rfl
  | t :: ts => by rw [Tree.reAll, reAll_map f b ts, List.map_cons]
theorem flip_mem (e : Str) (b : Bool) : flipE e b ∈ (["bottom", "top"] : List Str) := by
  unfold flipE
  split
  · exact .head _
  · exact .tail _ (.head _)
theorem ebt : ¬ (("bottom" : Str) = "top") := by decide +kernel
theorem flip_false {e : Str} (h : e ∈ (["bottom", "top"] : List Str)) : flipE e false = e := by
  rcases List.mem_cons.mp h with rfl | h
  · unfold flipE
    rw [decide_eq_false ebt]
    rfl
  · rw [List.mem_singleton.mp h]
    unfold flipE
    rw [decide_eq_true rfl]
    rfl
theorem flip_bottom : flipE "bottom" true = "top" := by
  unfold flipE
  rw [decide_eq_false ebt]
  rfl
theorem flip_top : flipE "top" true = "bottom" := by
  unfold flipE
  rw [decide_eq_true rfl]
  rfl
theorem flip_flip {e : Str} (h : e ∈ (["bottom", "top"] : List Str)) : flipE (flipE e true) true = e := by
  rcases List.mem_cons.mp h with rfl | h
  · rw [flip_bottom, flip_top]
  · rw [List.mem_singleton.mp h, flip_top, flip_bottom]
theorem Ok.re {f : Str → Option Tree} {b : Bool} (hf : ∀ n u, f n = some u → Ok u) {t : Tree} (h : Ok t) : Ok (t.re f b) := by
  induction h with
  | @place n h =>
    rw [Tree.re]
    cases e : f n with
    | none => exact .place h
    | some u => exact hf n u e
  | @endd e h =>
    rw [Tree.re]
    exact .endd (flip_mem _ _)
  | @lesser ts hl h ih =>
    rw [Tree.re, reAll_map]
    cases b
    · exact .lesser (by rw [List.length_map]; exact hl) fun t ht => by
        obtain ⟨u, hu, rfl⟩ := List.mem_map.mp ht
        exact ih u hu
    · exact .greater (by rw [List.length_map]; exact hl) fun t ht => by
        obtain ⟨u, hu, rfl⟩ := List.mem_map.mp ht
        exact ih u hu
  | @greater ts hl h ih =>
    rw [Tree.re, reAll_map]
    cases b
    · exact .greater (by rw [List.length_map]; exact hl) fun t ht => by
        obtain ⟨u, hu, rfl⟩ := List.mem_map.mp ht
        exact ih u hu
    · exact .lesser (by rw [List.length_map]; exact hl) fun t ht => by
        obtain ⟨u, hu, rfl⟩ := List.mem_map.mp ht
        exact ih u hu
theorem depthAll_le2 {n : Nat} : ∀ {ts : List Tree}, (∀ t ∈ ts, t.depth ≤ n) → Tree.depthAll ts ≤ n
  | [], _ => Nat.zero_le _
  | t :: ts, h => by
    rw [Tree.depthAll]
    exact Nat.max_le.mpr ⟨h t (.head _), depthAll_le2 fun u hu => h u (.tail _ hu)⟩
theorem re_depth {f : Str → Option Tree} {b : Bool} {D : Nat} (hf : ∀ n u, f n = some u → u.depth ≤ D) {t : Tree} (h : Ok t) : (t.re f b).depth ≤ t.depth + D := by
  induction h with
  | @place n h =>
    rw [Tree.re]
    cases e : f n with
    | none => exact Nat.zero_le _
    | some u => exact Nat.le_trans (hf n u e) (Nat.le_add_left _ _)
  | @endd e h =>
    rw [Tree.re]
    exact Nat.zero_le _
  | @lesser ts hl h ih =>
    have z : Tree.depthAll (ts.map (Tree.re f b)) ≤ Tree.depthAll ts + D := depthAll_le2 fun t ht => by
      obtain ⟨u, hu, rfl⟩ := List.mem_map.mp ht
      exact Nat.le_trans (ih u hu) (Nat.add_le_add_right (depth_mem hu) D)
    rw [Tree.re, reAll_map]
    cases b <;> simp only [Tree.depth, if_true, Bool.false_eq_true, if_false] <;> omega
  | @greater ts hl h ih =>
    have z : Tree.depthAll (ts.map (Tree.re f b)) ≤ Tree.depthAll ts + D := depthAll_le2 fun t ht => by
      obtain ⟨u, hu, rfl⟩ := List.mem_map.mp ht
      exact Nat.le_trans (ih u hu) (Nat.add_le_add_right (depth_mem hu) D)
    rw [Tree.re, reAll_map]
    cases b <;> simp only [Tree.depth, if_true, Bool.false_eq_true, if_false] <;> omega
abbrev noF : Str → Option Tree := fun _ => none
theorem map_id_mem {α : Type} {g : α → α} : ∀ {xs : List α}, (∀ x ∈ xs, g x = x) → xs.map g = xs
  | [], _ => rfl
  | x :: xs, h => by rw [List.map_cons, h x (.head _), map_id_mem fun y hy => h y (.tail _ hy)]
theorem re_id {f : Str → Option Tree} (hf : ∀ n, f n = none) {t : Tree} (h : Ok t) : t.re f false = t := by
  induction h with
  | @place n h => rw [Tree.re, hf n]; rfl
  | @endd e h => rw [Tree.re, flip_false h]
  | @lesser ts hl h ih =>
    rw [Tree.re, reAll_map, map_id_mem ih]
    rfl
  | @greater ts hl h ih =>
    rw [Tree.re, reAll_map, map_id_mem ih]
    rfl
theorem re_re {t : Tree} (h : Ok t) : (t.re noF true).re noF true = t := by
  induction h with
  | @place n h => rfl
  | @endd e h => rw [Tree.re, Tree.re, flip_flip h]
  | @lesser ts hl h ih =>
    rw [Tree.re, reAll_map, if_pos rfl, Tree.re, reAll_map, if_pos rfl, List.map_map]
    rw [map_id_mem (g := Tree.re noF true ∘ Tree.re noF true) ih]
  | @greater ts hl h ih =>
    rw [Tree.re, reAll_map, if_pos rfl, Tree.re, reAll_map, if_pos rfl, List.map_map]
    rw [map_id_mem (g := Tree.re noF true ∘ Tree.re noF true) ih]
theorem re_congr {f g : Str → Option Tree} {b : Bool} {t : Tree} (h : Ok t) (e : ∀ n ∈ names, f n = g n) : t.re f b = t.re g b := by
  induction h with
  | @place n h => rw [Tree.re, Tree.re, e n h]
  | @endd x h => rfl
  | @lesser ts hl h ih =>
    rw [Tree.re, Tree.re, reAll_map, reAll_map]
    rw [List.map_congr_left ih]
  | @greater ts hl h ih =>
    rw [Tree.re, Tree.re, reAll_map, reAll_map]
    rw [List.map_congr_left ih]
/-- where the places of what comes out stand -/
theorem re_places {f : Str → Option Tree} {b : Bool} {t : Tree} (h : Ok t) : ∀ n, n ∈ (t.re f b).places → ∃ m ∈ t.places, (f m = none ∧ n = m) ∨ ∃ u, f m = some u ∧ n ∈ u.places := by
  induction h with
  | @place m h =>
    intro n hn
    rw [Tree.re] at hn
    refine ⟨m, List.mem_singleton.mpr rfl, ?_⟩
    cases e : f m with
    | none =>
      rw [e] at hn
      exact .inl ⟨rfl, List.mem_singleton.mp hn⟩
    | some u =>
      rw [e] at hn
      exact .inr ⟨u, rfl, hn⟩
  | @endd x h =>
    intro n hn
    rw [Tree.re] at hn
    exact absurd hn List.not_mem_nil
  | @lesser ts hl h ih =>
    intro n hn
    have z : n ∈ Tree.placesAll (Tree.reAll f b ts) := by
      rw [Tree.re] at hn
      cases b <;> exact hn
    rw [reAll_map] at z
    obtain ⟨t, ht, hn⟩ := mem_placesAll.mp z
    obtain ⟨u, hu, rfl⟩ := List.mem_map.mp ht
    obtain ⟨m, hm, k⟩ := ih u hu n hn
    exact ⟨m, mem_placesAll.mpr ⟨u, hu, hm⟩, k⟩
  | @greater ts hl h ih =>
    intro n hn
    have z : n ∈ Tree.placesAll (Tree.reAll f b ts) := by
      rw [Tree.re] at hn
      cases b <;> exact hn
    rw [reAll_map] at z
    obtain ⟨t, ht, hn⟩ := mem_placesAll.mp z
    obtain ⟨u, hu, rfl⟩ := List.mem_map.mp ht
    obtain ⟨m, hm, k⟩ := ih u hu n hn
    exact ⟨m, mem_placesAll.mpr ⟨u, hu, hm⟩, k⟩
end TM
/-! Tables of sets up to mask 511: each slot is met, put, laid anew. -/
namespace TB
open PySem PySem.Spec PyProof.Rows L2
/-- the masks that come -/
def MaskB (m : Nat) : Prop := m = 7 ∨ m = 31 ∨ m = 127 ∨ m = 511
/-- the slots of a round, as bits -/
def bitsR (m : Nat) : Nat → Nat → Nat → Nat
  | 0, _, acc => acc
  | n + 1, v, acc => bitsR m n ((v * 5 + 1) % (m + 1)) (acc ||| 2 ^ v)
theorem bitsR_met {m : Nat} (j : Nat) : ∀ (n v acc : Nat), (bitsR m n v acc).testBit j = true → acc.testBit j = true ∨ ∃ b, b < n ∧ lcgI m v b = j
  | 0, v, acc, h => .inl h
  | n + 1, v, acc, h => by
    rcases bitsR_met j n _ _ h with h | ⟨b, hb, e⟩
    · rw [Nat.testBit_or, Bool.or_eq_true] at h
      rcases h with h | h
      · exact .inl h
      · rw [Nat.testBit_two_pow] at h
        exact .inr ⟨0, Nat.succ_pos _, of_decide_eq_true h⟩
    · refine .inr ⟨b + 1, Nat.succ_lt_succ hb, ?_⟩
      have sh : ∀ (b v : Nat), lcgI m v (b + 1) = lcgI m ((v * 5 + 1) % (m + 1)) b := fun b => by
        induction b with
        | zero => intro v; rfl
        | succ b ih =>
          intro v
          show (lcgI m v (b + 1) * 5 + 1) % (m + 1) = (lcgI m _ b * 5 + 1) % (m + 1)
          rw [ih]
      rw [sh]
      exact e
theorem full_of {m : Nat} (h : bitsR m (m + 1) 0 0 = 2 ^ (m + 1) - 1) {j : Nat} (hj : j ≤ m) : ∃ b, b ≤ m ∧ lcgI m 0 b = j := by
  have z : (bitsR m (m + 1) 0 0).testBit j = true := by
    rw [h, Nat.testBit_two_pow_sub_one]
    exact decide_eq_true (Nat.lt_succ_of_le hj)
  rcases bitsR_met j _ _ _ z with z | ⟨b, hb, e⟩
  · simp at z
  · exact ⟨b, Nat.le_of_lt_succ hb, e⟩
theorem mask_full {m : Nat} (hm : MaskB m) {j : Nat} (hj : j ≤ m) : ∃ b, b ≤ m ∧ lcgI m 0 b = j := by
  rcases hm with rfl | rfl | rfl | rfl
  · exact full_of (by decide +kernel) hj
  · exact full_of (by decide +kernel) hj
  · exact full_of (by decide +kernel) hj
  · exact full_of (by decide +kernel) hj
theorem mask_round {m : Nat} (hm : MaskB m) : lcgI m 0 (m + 1) = 0 := by
  rcases hm with rfl | rfl | rfl | rfl <;> decide +kernel
theorem mask_odd {m : Nat} (hm : MaskB m) : m % 2 = 1 := by
  rcases hm with rfl | rfl | rfl | rfl <;> rfl
theorem lcg_add (m i a : Nat) : ∀ k, lcgI m (lcgI m i a) k = lcgI m i (a + k)
  | 0 => rfl
  | k + 1 => by
    show (lcgI m (lcgI m i a) k * 5 + 1) % (m + 1) = (lcgI m i (a + k) * 5 + 1) % (m + 1)
    rw [lcg_add m i a k]
theorem lcg_wrap {m : Nat} (hm : MaskB m) (b : Nat) : lcgI m 0 (m + 1 + b) = lcgI m 0 b := by rw [← lcg_add, mask_round hm]
theorem lcg_met {m : Nat} (hm : MaskB m) {i j : Nat} (hi : i ≤ m) (hj : j ≤ m) : ∃ k, k ≤ m ∧ lcgI m i k = j := by
  obtain ⟨a, ha, ea⟩ := mask_full hm hi
  obtain ⟨b, hb, eb⟩ := mask_full hm hj
  by_cases c : a ≤ b
  · exact ⟨b - a, by omega, by rw [← ea, lcg_add, Nat.add_sub_cancel' c]; exact eb⟩
  · exact ⟨m + 1 + b - a, by omega, by rw [← ea, lcg_add, Nat.add_sub_cancel' (by omega), lcg_wrap hm]; exact eb⟩
/-- each slot is met on each way, early enough -/
theorem met_early {m : Nat} (hm : MaskB m) (h : Int) {j : Nat} (hj : j ≤ m) : (∃ n, n ≤ m + 12 ∧ runI m (SetTable.bits h) n = j) ∧ ∃ k, k < 10 * SetTable.turns m ∧ way m h k = j := by
  obtain ⟨k, hk, e⟩ := lcg_met hm (runI_le m (SetTable.bits h) 12) hj
  have e1 : runI m (SetTable.bits h) (12 + k) = j := by rw [runI_tail (bits_lt h)]; exact e
  obtain ⟨c, hc, e2⟩ := run_nth m (SetTable.bits h) (12 + k)
  refine ⟨⟨12 + k, by omega, e1⟩, c, by unfold SetTable.turns; omega, ?_⟩
  show (nth m _ c).j = j
  rw [e2]
  exact e1
/-! ### tables in which all is found again -/
theorem way_in {m : Nat} (h : Int) (k : Nat) : way m h k ≤ m := by
  have h0 : SetTable.bits h % (m + 1) ≤ m := Nat.le_of_lt_succ (Nat.mod_lt _ (Nat.succ_pos _))
  have z := nth_in (m := m) k (runAt m (SetTable.bits h % (m + 1)) (SetTable.bits h)) (by
    have := runEnd_bd h0
    show SetTable.bits h % (m + 1) + (SetTable.runEnd m (SetTable.bits h % (m + 1)) - SetTable.bits h % (m + 1)) ≤ m
    omega)
  show (nth m _ k).j ≤ m
  omega
/-- the slot of each hash is reached over slots that are taken -/
def Met1 (m : Nat) (S : List Nat) (h : Int) (j : Nat) : Prop := ∃ k, way m h k = j ∧ ∀ k', k' < k → way m h k' ∈ S
theorem Met1.up {m : Nat} {S S' : List Nat} {h : Int} {j : Nat} (u : ∀ x ∈ S, x ∈ S') (z : Met1 m S h j) : Met1 m S' h j := let ⟨k, e, b⟩ := z; ⟨k, e, fun k' l => u _ (b k' l)⟩
structure Tb (t : SetTable) (hs : List Int) : Prop where
  ris : Ris t.place.toList
  dm : t.dummies = #[]
  sz : t.place.toList.length = hs.length
  mok : MaskB t.mask
  bd : ∀ x ∈ t.place.toList, x ≤ t.mask
  met : ∀ q ∈ hs.zip t.place.toList, Met1 t.mask t.place.toList q.1 q.2
theorem Tb.first {t : SetTable} {hs : List Int} (T : Tb t hs) (hl : hs.length ≤ t.mask) (h : Int) : ∃ K, K < 10 * SetTable.turns t.mask ∧ way t.mask h K ∉ t.place.toList ∧ ∀ k, k < K → way t.mask h k ∈ t.place.toList := by
  obtain ⟨j, hj, hn⟩ := st_missing t.place.toList (t.mask + 1) (by rw [T.sz]; omega)
  obtain ⟨_, k, hk, e⟩ := met_early T.mok h (Nat.le_of_lt_succ hj)
  obtain ⟨K, h1, h2, h3⟩ := st_least (p := fun k => way t.mask h k ∉ t.place.toList) k (by rw [e]; exact hn)
  exact ⟨K, Nat.lt_of_le_of_lt h1 hk, h2, fun k' z => Classical.not_not.mp (h3 k' z)⟩
theorem zip_at {α β : Type} {xs : List α} {ys : List β} {i : Nat} {x : α} {y : β} (h1 : xs[i]? = some x) (h2 : ys[i]? = some y) : (x, y) ∈ xs.zip ys :=
  List.mem_of_getElem? (i := i) (by rw [List.getElem?_zip_eq_some]; exact ⟨h1, h2⟩)
theorem Tb.before {t : SetTable} {hs : List Int} (T : Tb t hs) {h : Int} {K i j : Nat} (hK : way t.mask h K ∉ t.place.toList) (hi : hs[i]? = some h) (hj : t.place.toList[i]? = some j) : ∃ k, k < K ∧ way t.mask h k = j := by
  obtain ⟨k, e, hb⟩ := T.met _ (zip_at hi hj)
  refine ⟨k, Nat.lt_of_not_le fun c => ?_, e⟩
  rcases Nat.eq_or_lt_of_le c with c | c
  · rw [c, e] at hK
    exact hK (List.mem_of_getElem? hj)
  · exact hK (hb K c)
/-- something put in between -/
def ins {α : Type} (l : List α) (p : Nat) (x : α) : List α := l.take p ++ x :: l.drop p
theorem ins_perm {α : Type} (l : List α) (p : Nat) (x : α) : (ins l p x).Perm (x :: l) := by
  unfold ins
  refine List.perm_middle.trans ?_
  rw [List.take_append_drop]
theorem ins_len {α : Type} (l : List α) (p : Nat) (x : α) : (ins l p x).length = l.length + 1 := by rw [(ins_perm l p x).length_eq, List.length_cons]
theorem ins_map {α β : Type} (f : α → β) (l : List α) (p : Nat) (x : α) : (ins l p x).map f = ins (l.map f) p (f x) := by
  unfold ins
  rw [List.map_append, List.map_cons, List.map_take, List.map_drop]
theorem ins_zip {α β : Type} {l : List α} {r : List β} (e : l.length = r.length) (p : Nat) (x : α) (y : β) : (ins l p x).zip (ins r p y) = ins (l.zip r) p (x, y) := by
  unfold ins
  rw [List.zip_append (by rw [List.length_take, List.length_take, e]), List.zip_cons_cons, List.zip_eq_zipWith, List.zip_eq_zipWith, List.zip_eq_zipWith, List.take_zipWith, List.drop_zipWith]
theorem Tb.put {t : SetTable} {hs : List Int} (T : Tb t hs) {h : Int} {K : Nat} (hK : way t.mask h K ∉ t.place.toList) (hb : ∀ k, k < K → way t.mask h k ∈ t.place.toList) :
    Tb (t.put (way t.mask h K)).1 (ins hs (t.put (way t.mask h K)).2 h) ∧ (t.put (way t.mask h K)).1.mask = t.mask ∧ (t.put (way t.mask h K)).1.led = t.led ∧ (t.put (way t.mask h K)).1.fill = hs.length + 1 := by
  have hj : way t.mask h K ≤ t.mask := way_in h K
  have pl : (t.put (way t.mask h K)).1.place.toList = ins t.place.toList (t.put (way t.mask h K)).2 (way t.mask h K) := put_place t _
  have dm := put_dm T.dm (way t.mask h K)
  have ri : Ris (t.put (way t.mask h K)).1.place.toList := by
    refine ris_insert T.ris fun e => hK (List.mem_of_getElem? (i := SetTable.below t.place (way t.mask h K)) (by rw [Array.getElem?_toList]; exact e))
  have mk : (t.put (way t.mask h K)).1.mask = t.mask := rfl
  have ld : (t.put (way t.mask h K)).1.led = t.led := rfl
  generalize (t.put (way t.mask h K)).2 = p at *
  generalize (t.put (way t.mask h K)).1 = t2 at *
  have up : ∀ x ∈ t.place.toList, x ∈ t2.place.toList := fun x hx => by
    rw [pl]
    exact (ins_perm _ _ _).mem_iff.mpr (.tail _ hx)
  refine ⟨⟨ri, dm, by rw [pl, ins_len, ins_len, T.sz], by rw [mk]; exact T.mok, fun x hx => ?_, fun q hq => ?_⟩, mk, ld, ?_⟩
  · rw [pl] at hx
    rw [mk]
    rcases List.mem_cons.mp ((ins_perm _ _ _).mem_iff.mp hx) with z | z
    · rw [z]
      exact hj
    · exact T.bd x z
  · rw [mk]
    have hq2 : q ∈ ins (hs.zip t.place.toList) p (h, way t.mask h K) := by
      rw [← ins_zip T.sz.symm, ← pl]
      exact hq
    rcases List.mem_cons.mp ((ins_perm _ _ _).mem_iff.mp hq2) with z | z
    · rw [z]
      exact ⟨K, rfl, fun k' l => up _ (hb k' l)⟩
    · exact (T.met q z).up up
  · show t2.place.size + t2.dummies.size = _
    rw [dm, ← Array.length_toList, pl, ins_len, T.sz]
    rfl
end TB
/-! A table laid anew. -/
namespace TB
open PySem PySem.Spec PyProof.Rows L2
/-- the first free slot of the way is what layClean takes -/
theorem free_first {m : Nat} (hm : MaskB m) (owner : Array (Option Nat)) (h : Int) {j : Nat} (hj : j ≤ m) (hf : oAt owner j = none) :
    ∃ K, SetTable.layClean.free m owner (SetTable.turns m) (SetTable.bits h % (m + 1)) (SetTable.bits h) = some (way m h K) ∧ oAt owner (way m h K) = none ∧ ∀ k, k < K → (oAt owner (way m h k)).isSome = true := by
  obtain ⟨⟨n, hn, e⟩, _⟩ := met_early hm h hj
  have at_n : nth m (runAt m (SetTable.bits h % (m + 1)) (SetTable.bits h)) (off m (SetTable.bits h % (m + 1)) (SetTable.bits h) n) = runAt m j (SetTable.bits h / 32 ^ n) := by
    rw [nth_off, itL_run, e]
  obtain ⟨K, k1, k2, k3⟩ := st_least (p := fun k => oAt owner (way m h k) = none) (off m (SetTable.bits h % (m + 1)) (SetTable.bits h) n) (by
    show oAt owner (nth m _ _).j = none
    rw [at_n]
    exact hf)
  have some_ : ∀ k, k < K → (oAt owner (way m h k)).isSome = true := fun k z => Option.isSome_iff_ne_none.mpr (k3 k z)
  refine ⟨K, free_spec m owner (SetTable.turns m) n _ _ K (by unfold SetTable.turns; omega) k1 (fun k z => ?_) ?_, k2, some_⟩
  · have y := some_ k z
    show (oAt owner (way m h k)).isNone = false
    cases x : oAt owner (way m h k) with
    | none => rw [x] at y; cases y
    | some _ => rfl
  · show (oAt owner (way m h K)).isNone = true
    rw [k2]
    rfl
/-- hashes laid so far: js their slots -/
structure Lay (m : Nat) (done : List Int) (owner : Array (Option Nat)) (js : List Nat) : Prop where
  sz : owner.size = m + 1
  len : js.length = done.length
  at_ : ∀ j i, j ≤ m → (oAt owner j = some i ↔ js[i]? = some j)
  le : ∀ j ∈ js, j ≤ m
  met : ∀ q ∈ done.zip js, Met1 m js q.1 q.2
theorem Lay.step {m : Nat} (hm : MaskB m) {done : List Int} {owner : Array (Option Nat)} {js : List Nat} (W : Lay m done owner js) (hl : done.length ≤ m) (h : Int) :
    ∃ j, SetTable.layClean.free m owner (SetTable.turns m) (SetTable.bits h % (m + 1)) (SetTable.bits h) = some j ∧ Lay m (done ++ [h]) (owner.setIfInBounds j (some done.length)) (js ++ [j]) := by
  obtain ⟨j0, hj0, hn0⟩ := st_missing js (m + 1) (by rw [W.len]; omega)
  have f0 : oAt owner j0 = none := by
    cases x : oAt owner j0 with
    | none => rfl
    | some i => exact absurd (List.mem_of_getElem? ((W.at_ j0 i (Nat.le_of_lt_succ hj0)).mp x)) hn0
  obtain ⟨K, h1, h2, h3⟩ := free_first hm owner h (Nat.le_of_lt_succ hj0) f0
  have up : ∀ x ∈ js, x ∈ js ++ [way m h K] := fun x hx => List.mem_append_left _ hx
  have fresh : way m h K ∉ js := fun z => by
    obtain ⟨i, hi⟩ := List.getElem?_of_mem z
    have y := (W.at_ _ i (way_in h K)).mpr hi
    rw [h2] at y
    cases y
  refine ⟨way m h K, h1, by rw [Array.size_setIfInBounds]; exact W.sz, by simp [W.len], fun j i hj => ?_, fun j hj => ?_, fun q hq => ?_⟩
  · by_cases c : j = way m h K
    · subst c
      rw [oAt_set_self _ (by rw [W.sz]; omega)]
      constructor
      · intro e
        rw [← Option.some.inj e, ← W.len, List.getElem?_append_right (Nat.le_refl _), Nat.sub_self]
        rfl
      · intro e
        by_cases d : i < js.length
        · rw [List.getElem?_append_left d] at e
          exact absurd (List.mem_of_getElem? e) fresh
        · have := (List.getElem?_eq_some_iff.mp e).1
          rw [List.length_append] at this
          simp at this
          rw [show i = done.length by rw [← W.len]; omega]
    · rw [oAt_set_ne _ c, W.at_ j i hj]
      constructor
      · intro e
        rw [List.getElem?_append_left (List.getElem?_eq_some_iff.mp e).1]
        exact e
      · intro e
        by_cases d : i < js.length
        · rwa [List.getElem?_append_left d] at e
        · rw [List.getElem?_append_right (by omega)] at e
          have := List.mem_of_getElem? e
          exact absurd (List.mem_singleton.mp this) c
  · rcases List.mem_append.mp hj with z | z
    · exact W.le j z
    · rw [List.mem_singleton.mp z]
      exact way_in h K
  · rw [List.zip_append W.len.symm] at hq
    rcases List.mem_append.mp hq with z | z
    · exact (W.met q z).up up
    · rw [List.mem_singleton.mp z]
      refine ⟨K, rfl, fun k z => ?_⟩
      obtain ⟨i, hi⟩ := Option.isSome_iff_exists.mp (h3 k z)
      exact up _ (List.mem_of_getElem? ((W.at_ _ i (way_in h k)).mp hi))
theorem lay_fold {m : Nat} (hm : MaskB m) : ∀ (rest done : List Int) (owner : Array (Option Nat)) (js : List Nat), Lay m done owner js → done.length + rest.length ≤ m →
    ∃ owner' js', rest.foldl (stepF m) (some (owner, done.length)) = some (owner', (done ++ rest).length) ∧ Lay m (done ++ rest) owner' js'
  | [], done, owner, js, W, _ => ⟨owner, js, by rw [List.append_nil]; rfl, by rw [List.append_nil]; exact W⟩
  | h :: rest, done, owner, js, W, hl => by
    rw [List.length_cons] at hl
    obtain ⟨j, e, W1⟩ := W.step hm (by omega) h
    obtain ⟨owner', js', f, W2⟩ := lay_fold hm rest (done ++ [h]) _ _ W1 (by rw [List.length_append]; simp; omega)
    rw [List.append_assoc] at f W2
    refine ⟨owner', js', ?_, W2⟩
    rw [List.foldl_cons, stepF_some e]
    rw [List.length_append] at f
    exact f
theorem lay_all {m : Nat} (hm : MaskB m) {hs : Array Int} (hn : hs.size ≤ m) : ∃ owner js, SetTable.layClean m hs = some owner ∧ Lay m hs.toList owner js := by
  have W0 : Lay m [] (Array.replicate (m + 1) none) [] := ⟨by simp, rfl, fun j i hj => by rw [oAt_init hj]; simp, fun j hj => absurd hj List.not_mem_nil, fun q hq => by simp at hq⟩
  obtain ⟨owner, js, f, W⟩ := lay_fold hm hs.toList [] _ _ W0 (by simpa using hn)
  refine ⟨owner, js, ?_, W⟩
  rw [layClean_eq, show (([] : List Int).length) = 0 from rfl] at *
  rw [f]
  rfl
theorem tb_relaid (t : SetTable) {hs : Array Int} {wanted M : Nat} (hw : SetTable.sizeAbove wanted - 1 = M) (hM : MaskB M) (hn : hs.size ≤ M) :
    ∃ t' order, t.relaid hs wanted = some (t', order) ∧ order.toList.Perm (List.range hs.size) ∧ Tb t' (order.toList.map fun i => hs.getD i 0) ∧ t'.mask = M ∧ t'.led = t.led := by
  obtain ⟨owner, js, e, W⟩ := lay_all hM hn
  have len : js.length = hs.size := by rw [W.len, Array.length_toList]
  have ml : ∀ {j k}, (j, k) ∈ liveOf M owner ↔ js[k]? = some j := fun {j k} => by
    rw [mem_live W.sz]
    constructor
    · rintro ⟨h1, h2⟩
      exact (W.at_ j k h1).mp h2
    · intro z
      have := W.le j (List.mem_of_getElem? z)
      exact ⟨this, (W.at_ j k this).mpr z⟩
  have rise : ((liveOf M owner).map (·.1)).Pairwise (· < ·) := by
    unfold liveOf
    rw [List.map_filterMap]
    refine List.Pairwise.filterMap (R := (· < ·)) _ (fun a b hab x hx y hy => ?_) (List.pairwise_lt_range)
    obtain ⟨p, hp, rfl⟩ := Option.map_eq_some_iff.mp hx
    obtain ⟨p', hp', rfl⟩ := Option.map_eq_some_iff.mp hp
    obtain ⟨q, hq, rfl⟩ := Option.map_eq_some_iff.mp hy
    obtain ⟨q', hq', rfl⟩ := Option.map_eq_some_iff.mp hq
    exact hab
  have nd1 : (liveOf M owner).Nodup := List.Pairwise.of_map (f := fun q : Nat × Nat => q.1) (fun a b h z => absurd (congrArg Prod.fst z) (Nat.ne_of_lt h)) rise
  have nd2 : ((liveOf M owner).map (·.2)).Nodup := by
    rw [List.Nodup, List.pairwise_map]
    refine List.Pairwise.imp_of_mem (fun {a b} ha hb ne z => ne ?_) nd1
    obtain ⟨a1, a2⟩ := a
    obtain ⟨b1, b2⟩ := b
    have ea := ml.mp ha
    have eb := ml.mp hb
    have z : a2 = b2 := z
    subst z
    rw [ea] at eb
    cases eb
    rfl
  have pm : ((liveOf M owner).map (·.2)).Perm (List.range hs.size) := by
    refine (List.perm_ext_iff_of_nodup nd2 List.nodup_range).mpr fun k => ?_
    rw [List.mem_map, List.mem_range]
    constructor
    · rintro ⟨⟨j, k'⟩, h1, rfl⟩
      rw [← len]
      exact (List.getElem?_eq_some_iff.mp (ml.mp h1)).1
    · intro hk
      rw [← len] at hk
      exact ⟨(js[k], k), ml.mpr (List.getElem?_eq_getElem hk), rfl⟩
  have inP : ∀ x ∈ js, x ∈ (liveOf M owner).map (·.1) := fun x hx => by
    obtain ⟨i, hi⟩ := List.getElem?_of_mem hx
    exact List.mem_map.mpr ⟨(x, i), ml.mpr hi, rfl⟩
  refine ⟨tabOf t M owner, ((liveOf M owner).map (·.2)).toArray, ?_, ?_, ⟨?_, rfl, ?_, hM, fun x hx => ?_, fun q hq => ?_⟩, rfl, rfl⟩
  · rw [relaid_eq, hw, e]
    rfl
  · exact pm
  · exact rise
  · show ((liveOf M owner).map (·.1)).length = _
    rw [List.length_map, List.length_map]
    show _ = ((liveOf M owner).map (·.2)).length
    rw [List.length_map]
  · have hx : x ∈ (liveOf M owner).map (·.1) := hx
    obtain ⟨⟨j, k⟩, h1, rfl⟩ := List.mem_map.mp hx
    exact W.le _ (List.mem_of_getElem? (ml.mp h1))
  · have hq : q ∈ (((liveOf M owner).map (·.2)).map fun i => hs.getD i 0).zip ((liveOf M owner).map (·.1)) := hq
    rw [List.map_map, List.zip_map', List.mem_map] at hq
    obtain ⟨⟨j, k⟩, h1, rfl⟩ := hq
    have z := ml.mp h1
    have kb := (List.getElem?_eq_some_iff.mp z).1
    refine Met1.up inP (W.met (hs.getD k 0, j) (zip_at (i := k) ?_ z))
    rw [Array.getElem?_toList, Array.getD_eq_getD_getElem?, Array.getElem?_eq_getElem (by omega)]
    rfl
end TB
/-! Sets whose members are objects of one kind (tuples of texts): search, add. -/
namespace TB
open PySem PySem.Spec PyProof.Rows L2
/-- a kind that may be put into a set -/
structure SetAble {P : Program} {w : World} {K : Type} [DecidableEq K] (knd : HeapKind P w K) : Prop where
  st : knd.Stays
  cls : ∀ {A : Around} {E : Value → Shared → Prop} {s : Shared} {k : K} {b : Addr} {Q : Bool → Shared → Prop}, knd.is s.heap k b → Q false s → wpAny (model P w) A (ofAClassStatement 8 (.ref b)) Q E s
  hbv : ∀ {A : Around} {E : Value → Shared → Prop} {s : Shared} {k : K} {b : Addr} {Q : Bool → Shared → Prop}, knd.is s.heap k b → (∀ r, Q r s) → wpAny (model P w) A (hashByValue 8 (.ref b)) Q E s
section
variable {P : Program} {w : World} {K : Type} [DecidableEq K] {knd : HeapKind P w K}
def rowsK (knd : HeapKind P w K) (L : List (Addr × K)) : List (Int × Value) := L.map fun p => (knd.hash p.2, Value.ref p.1)
/-- the set at a: L its members -/
structure SR (knd : HeapKind P w K) (h : Heap) (a : Addr) (L : List (Addr × K)) (es : Array (Int × Value)) (ep : Nat) (t : SetTable) : Prop where
  ob : ∃ o, h.get? a = some o ∧ o.ExactSet ∧ o.data = .set es ep t
  rows : es.toList = rowsK knd L
  tab : Tb t (L.map fun p => knd.hash p.2)
  nd : (L.map (·.2)).Nodup
  led : w.params.followText "set-order" = true ∨ t.led = true
  room : L.length * 5 < t.mask * 3
  few : L.length ≤ 256
variable {A : Around} {E : Value → Shared → Prop} {s : Shared} {h : Heap} {a : Addr} {L : List (Addr × K)} {es : Array (Int × Value)} {ep : Nat} {t : SetTable}
theorem SR.size (R : SR knd h a L es ep t) : es.size = L.length := by rw [← Array.length_toList, R.rows, rowsK, List.length_map]
theorem SR.psz (R : SR knd h a L es ep t) : t.place.size = L.length := by rw [← Array.length_toList, R.tab.sz, List.length_map]
theorem fits_by {t : SetTable} {n : Nat} (h1 : t.place.size = n) (h2 : t.dummies = #[]) (h3 : n ≤ t.mask) : t.fits n = true := by
  unfold SetTable.fits SetTable.fill
  rw [h2, h1, Bool.and_eq_true]
  exact ⟨beq_self_eq_true _, decide_eq_true h3⟩
theorem SR.fits (R : SR knd h a L es ep t) : t.fits es.size = true := by
  have := R.room
  rw [R.size]
  exact fits_by R.psz R.tab.dm (by omega)
theorem SR.at_ (R : SR knd h a L es ep t) {i : Nat} {p : Addr × K} (e : L[i]? = some p) : es[i]? = some (knd.hash p.2, Value.ref p.1) := by
  rw [← Array.getElem?_toList, R.rows, rowsK, List.getElem?_map, e]
  rfl
theorem SR.gw (R : SR knd h a L es ep t) : ¬ t.gaveWay = true := by
  unfold SetTable.gaveWay
  rw [mask_odd R.tab.mok]
  decide
/-- searching shows nothing -/
theorem seen_no (sa : SetAble knd) {x : Addr} {k : K} {Q : Bool → Shared → Prop} (hx : knd.is s.heap k x) (ys : List Value) (hy : ∀ y ∈ ys, ∃ k' c, y = Value.ref c ∧ knd.is s.heap k' c) (q : Q false s) :
    wpAny (model P w) A (searchCouldBeSeen (.ref x) ys) Q E s := by
  unfold searchCouldBeSeen
  refine wpAny_bind (wpAny_forIn_list _ (fun rest r s' => r = (none, ()) ∧ s' = s ∧ ∀ y ∈ rest, y ∈ ys) _ ?_ ?_ _ _ ⟨rfl, rfl, fun _ z => z⟩)
  · rintro y rest r s' ⟨rfl, rfl, sub⟩
    obtain ⟨k', c, rfl, hc⟩ := hy y (sub y (.head _))
    dsimp only
    have go : (none, ()) = ((none : Option Bool), ()) ∧ s' = s' ∧ ∀ y ∈ rest, y ∈ ys := ⟨rfl, rfl, fun y z => sub y (.tail _ z)⟩
    by_cases v : (x == c || (carriedByValue (.ref x) && carriedByValue (.ref c))) = true
    · exact wp_if_pos v (wpAny_pure go)
    · refine wp_if_neg v (wpAny_bind (knd.quiet hx ?_))
      simp only [Bool.not_true, Bool.false_eq_true, if_false]
      refine wpAny_bind (knd.quiet hc ?_)
      simp only [Bool.not_true, Bool.false_eq_true, if_false]
      refine wpAny_bind (sa.cls hx ?_)
      simp only [Bool.false_eq_true, if_false]
      refine wpAny_bind (sa.cls hc ?_)
      simp only [Bool.false_eq_true, if_false]
      exact wpAny_pure go
  · rintro r s' ⟨rfl, rfl, _⟩
    exact wpAny_pure q
theorem calm_nth {m : Nat} : ∀ (n : Nat) (p : SetTable.Probe), p.dummy = none → (nth m p n).dummy = none
  | 0, _, h => h
  | n + 1, p, h => calm_nth n (adv m p) (by unfold adv; split <;> exact h)
/-- the search, from the c-th slot of the way on; what has the key isn't among those behind -/
theorem search_go (sa : SetAble knd) (R : SR knd s.heap a L es ep t) (him : ∀ p ∈ L, knd.is s.heap p.2 p.1) {x : Addr} {k : K} (hx : knd.is s.heap k x) (hu : knd.room A) {M : Nat} (hM : M < 10 * SetTable.turns t.mask)
    (hK : way t.mask (knd.hash k) M ∉ t.place.toList) (hb : ∀ c, c < M → way t.mask (knd.hash k) c ∈ t.place.toList) {Q : SetFound → Shared → Prop}
    (yes : k ∈ L.map (·.2) → Q (.there none) s) (no : k ∉ L.map (·.2) → Q (.free (way t.mask (knd.hash k) M) false) s) :
    ∀ (f c : Nat) (stand : Option SetTable.Probe), stand.getD (t.probeStart (knd.hash k)) = nth t.mask (runAt t.mask (SetTable.bits (knd.hash k) % (t.mask + 1)) (SetTable.bits (knd.hash k))) c → c ≤ M → M < c + f →
      (∀ (i : Nat) (p : Addr × K), L[i]? = some p → p.2 = k → ∀ c', c' < c → t.place.toList[i]? ≠ some (way t.mask (knd.hash k) c')) →
      wpAny (model P w) A (setSearchFrom a (.ref x) (knd.hash k) true f stand) Q E s := by
  intro f
  induction f with
  | zero => intro c stand _ h1 h2; omega
  | succ f ih =>
    intro c stand hst hc hf past
    obtain ⟨o, ho, hex, hd⟩ := R.ob
    obtain ⟨W, hW⟩ : ∃ W, W = runAt t.mask (SetTable.bits (knd.hash k) % (t.mask + 1)) (SetTable.bits (knd.hash k)) := ⟨_, rfl⟩
    rw [← hW] at hst
    have on : ∀ q, nth t.mask (nth t.mask W c) q = nth t.mask W (c + q) := fun q => (nth_add t.mask c W q).symm
    have slotOf : ∀ q, (nth t.mask (nth t.mask W c) q).j = way t.mask (knd.hash k) (c + q) := fun q => by rw [on, hW]
    rw [setSearchFrom_succ]
    refine wpAny_bind (wpAny_setState_of ho hd R.fits ?_)
    dsimp only
    refine wp_if_neg R.gw ?_
    try refine wpAny_bind (wpAny_pure ?_)
    rw [hst]
    have hash_at : ∀ (i : Nat) (p : Addr × K), L[i]? = some p → (es[i]?.map (·.1)).getD 0 = knd.hash p.2 := fun i p e => by rw [R.at_ e]; rfl
    -- what has the key lies before the free slot
    have lies : ∀ (i : Nat) (p : Addr × K), L[i]? = some p → p.2 = k → ∃ c', c' < M ∧ t.place.toList[i]? = some (way t.mask (knd.hash k) c') := fun i p e e2 => by
      have il : i < t.place.toList.length := by rw [Array.length_toList, R.psz]; exact (List.getElem?_eq_some_iff.mp e).1
      have hj := List.getElem?_eq_getElem il
      obtain ⟨c', h1, h2⟩ := R.tab.before hK (i := i) (h := knd.hash k) (by rw [List.getElem?_map, e, ← e2]; rfl) hj
      exact ⟨c', h1, by rw [h2]; exact hj⟩
    rcases go_spec t R.tab.ris R.tab.dm (fun i => (es[i]?.map (·.1)).getD 0) (knd.hash k) (10 * SetTable.turns t.mask) (M - c) (nth t.mask W c) (calm_nth c W (by rw [hW]; rfl)) (by omega)
      (fun q z => by rw [slotOf]; exact hb _ (by omega)) (by rw [slotOf, Nat.add_sub_cancel' hc]; exact hK) with ⟨q, i, hq, hi, hh, hno, hpr⟩ | ⟨hno, hpr⟩
    · have hpr2 : t.probe (fun i => (es[i]?.map (·.1)).getD 0) (knd.hash k) (nth t.mask W c) = _ := hpr
      rw [hpr2]
      dsimp only
      rw [slotOf] at hi ⊢
      have il : i < L.length := by
        have z := (List.getElem?_eq_some_iff.mp hi).1
        rw [Array.length_toList, R.psz] at z
        exact z
      obtain ⟨p, hp⟩ : ∃ p, L[i]? = some p := ⟨_, List.getElem?_eq_getElem il⟩
      have hm : p ∈ L := List.mem_of_getElem? hp
      have slot_i : t.slot (way t.mask (knd.hash k) (c + q)) = .live i := slot_live R.tab.ris hi
      have rest : wpAny (model P w) A (searchRest a (.ref x) (knd.hash k) true f es t (way t.mask (knd.hash k) (c + q)) i (nth t.mask (nth t.mask W c) (q + 1))) Q E s := by
        unfold searchRest
        rw [R.at_ hp]
        dsimp only
        refine wpAny_bind (wpAny_holding (knd.eqBool hu (him p hm) hx ?_))
        refine wpAny_bind (wpAny_setState_of ho hd R.fits ?_)
        dsimp only
        by_cases ek : p.2 = k
        · refine wp_if_pos (by simp [ek]) (wpAny_pure (yes (List.mem_map.mpr ⟨p, hm, ek⟩)))
        · refine wp_if_neg (by simp [ek]) ?_
          try refine wpAny_bind (wpAny_pure ?_)
          rw [sameMem]
          dsimp only
          simp only [if_true, slot_i, R.at_ hp]
          refine wpAny_bind (wpAny_isSame_ref_self (wpAny_bind (wpAny_pure ?_)))
          simp only [if_true]
          refine wp_if_neg (by simp [ek]) ?_
          refine ih (c + (q + 1)) _ (by rw [on, hW]; rfl) (by omega) (by omega) fun i0 p0 e0 k0 c' hc' z => ?_
          rcases Nat.lt_trichotomy c' (c + q) with y | y | y
          · by_cases before : c' < c
            · exact past i0 p0 e0 k0 c' before z
            · refine hno (c' - c) i0 (by omega) (by rw [slotOf, Nat.add_sub_cancel' (by omega)]; exact z) ?_
              rw [← k0]
              exact hash_at i0 p0 e0
          · rw [y] at z
            have s0 := slot_live R.tab.ris z
            rw [slot_i] at s0
            cases s0
            rw [hp] at e0
            cases e0
            exact ek k0
          · omega
      by_cases hl : t.led = true
      · refine wp_if_neg (by simp [hl]) ?_
        try refine wpAny_bind (wpAny_pure ?_)
        exact rest
      · refine wp_if_pos (by simp [hl]) (wpAny_bind (seen_no sa hx _ (fun y hy => ?_) ?_))
        · obtain ⟨e, he, rfl⟩ := List.mem_map.mp hy
          have he1 : e ∈ es.toList := by
            have z : e ∈ es ∧ e.1 = knd.hash k := by simpa using he
            simpa using z.1
          rw [R.rows, rowsK] at he1
          obtain ⟨p2, hp2, rfl⟩ := List.mem_map.mp he1
          exact ⟨p2.2, p2.1, rfl, him p2 hp2⟩
        · refine wp_if_neg (by decide) ?_
          try refine wpAny_bind (wpAny_pure ?_)
          exact rest
    · have hpr2 : t.probe (fun i => (es[i]?.map (·.1)).getD 0) (knd.hash k) (nth t.mask W c) = _ := hpr
      rw [hpr2]
      dsimp only
      rw [slotOf, Nat.add_sub_cancel' hc]
      refine wpAny_pure (no fun hm => ?_)
      obtain ⟨p0, h0, k0⟩ := List.mem_map.mp hm
      obtain ⟨i0, e0⟩ := List.getElem?_of_mem h0
      obtain ⟨c', h1, h2⟩ := lies i0 p0 e0 k0
      by_cases before : c' < c
      · exact past i0 p0 e0 k0 c' before h2
      · refine hno (c' - c) i0 (by omega) (by rw [slotOf, Nat.add_sub_cancel' (by omega)]; exact h2) ?_
        rw [← k0]
        exact hash_at i0 p0 e0
theorem search_all (sa : SetAble knd) (R : SR knd s.heap a L es ep t) (him : ∀ p ∈ L, knd.is s.heap p.2 p.1) {x : Addr} {k : K} (hx : knd.is s.heap k x) (hu : knd.room A) {Q : SetFound → Shared → Prop}
    (yes : k ∈ L.map (·.2) → Q (.there none) s)
    (no : ∀ M, k ∉ L.map (·.2) → way t.mask (knd.hash k) M ∉ t.place.toList → (∀ c, c < M → way t.mask (knd.hash k) c ∈ t.place.toList) → Q (.free (way t.mask (knd.hash k) M) false) s) :
    wpAny (model P w) A (setSearch a (.ref x) (knd.hash k) true) Q E s := by
  have room := R.room
  obtain ⟨M, hM, hK, hb⟩ := R.tab.first (by rw [List.length_map]; omega) (knd.hash k)
  have big : 10 * SetTable.turns t.mask ≤ 10000 := by
    unfold SetTable.turns
    rcases R.tab.mok with e | e | e | e <;> rw [e] <;> decide
  unfold setSearch
  exact search_go sa R him hx hu hM hK hb yes (fun z => no M z hK hb) 100000 0 none rfl (Nat.zero_le _) (by omega) fun i p _ _ c' z => absurd z (Nat.not_lt_zero _)
end
end TB
namespace TB
open PySem PySem.Spec PyProof.Rows L2
section
variable {P : Program} {w : World} {K : Type} [DecidableEq K] {knd : HeapKind P w K}
theorem is_same (st : knd.Stays) {h h' : Heap} {k : K} {a b : Addr} {o : Obj} {es : Array (Int × Value)} {ep : Nat} {t : SetTable} (hb : knd.is h k b) (ho : h.get? a = some o) (hd : o.data = .set es ep t) (hs : Heap.SameBut a h h') : knd.is h' k b :=
  st.stays (fun c u vs n e e2 => by
    by_cases z : c = a
    · rw [z, ho] at e
      cases e
      rw [hd] at e2
      cases e2
    · exact (hs.2 c z).trans e) hb
theorem range_get {α : Type} (L : List α) : (List.range L.length).filterMap (fun i => L[i]?) = L := by
  have z : ∀ n, n ≤ L.length → (List.range n).filterMap (fun i => L[i]?) = L.take n := fun n => by
    induction n with
    | zero => intro _; rfl
    | succ n ih =>
      intro h
      rw [List.range_succ, List.filterMap_append, ih (Nat.le_of_succ_le h), List.take_succ, List.getElem?_eq_getElem h]
      rw [List.filterMap_cons_some (List.getElem?_eq_getElem h)]
      rfl
  rw [z _ (Nat.le_refl _), List.take_length]
theorem fm_congr {α β : Type} {f g : α → Option β} : ∀ {l : List α}, (∀ x ∈ l, f x = g x) → l.filterMap f = l.filterMap g
  | [], _ => rfl
  | x :: l, h => by rw [List.filterMap_cons, List.filterMap_cons, h x (.head _), fm_congr fun y hy => h y (.tail _ hy)]
theorem rows_order (L : List (Addr × K)) (es : Array (Int × Value)) (order : Array Nat) (hr : es.toList = rowsK knd L) (hp : order.toList.Perm (List.range L.length)) :
    (order.filterMap (es[·]?)).toList = rowsK knd (order.toList.filterMap fun i => L[i]?) ∧ (order.toList.filterMap fun i => L[i]?).Perm L ∧ ((order.toList.filterMap fun i => L[i]?).map fun p => knd.hash p.2) = order.toList.map fun i => (es.map (·.1)).getD i 0 := by
  have ent : ∀ i, es[i]? = (L[i]?).map fun (p : Addr × K) => (knd.hash p.2, Value.ref p.1) := fun i => by rw [← Array.getElem?_toList, hr, rowsK, List.getElem?_map]
  refine ⟨?_, ?_, ?_⟩
  · rw [Array.toList_filterMap, rowsK, List.map_filterMap]
    exact fm_congr fun i _ => ent i
  · have z := hp.filterMap fun i => L[i]?
    rwa [range_get] at z
  · rw [List.map_filterMap, ← List.filterMap_eq_map]
    refine fm_congr fun i hi => ?_
    have lt : i < L.length := List.mem_range.mp (hp.mem_iff.mp hi)
    show (L[i]?).map _ = some ((es.map (·.1)).getD i 0)
    rw [Array.getD_eq_getD_getElem?, Array.getElem?_map, ent i, List.getElem?_eq_getElem lt]
    rfl
variable {A : Around} {E : Value → Shared → Prop} {s : Shared} {h : Heap} {a : Addr} {L : List (Addr × K)} {es : Array (Int × Value)} {ep : Nat} {t : SetTable}
theorem size_308 : SetTable.sizeAbove (SetTable.grown 77) = 512 := by decide +kernel
/-- what a set's table has to be for what stands in it -/
structure TR (knd : HeapKind P w K) (L : List (Addr × K)) (es : Array (Int × Value)) (t : SetTable) : Prop where
  rows : es.toList = rowsK knd L
  tab : Tb t (L.map fun p => knd.hash p.2)
  nd : (L.map (·.2)).Nodup
  led : w.params.followText "set-order" = true ∨ t.led = true
  few : L.length ≤ 256
theorem TR.size (R : TR knd L es t) : es.size = L.length := by rw [← Array.length_toList, R.rows, rowsK, List.length_map]
theorem TR.psz (R : TR knd L es t) : t.place.size = L.length := by rw [← Array.length_toList, R.tab.sz, List.length_map]
theorem relay_go {o : Obj} (ho : s.heap.get? a = some o) (hex : o.ExactSet) (hd : o.data = .set es ep t) (R : TR knd L es t) (hfl : L.length ≤ t.mask) {wanted M : Nat}
    (hw : SetTable.sizeAbove wanted = M + 1) (hM : MaskB M) (hn : L.length * 5 < M * 3) {Q : Unit → Shared → Prop}
    (hQ : ∀ h' L' es' ep' t', Heap.SameBut a s.heap h' → SR knd h' a L' es' ep' t' → L'.Perm L → Q () { s with heap := h' }) : wpAny (model P w) A (setRelay a wanted) Q E s := by
  obtain ⟨t', order, e, hp, T, em, el⟩ := tb_relaid t (hs := es.map (·.1)) (wanted := wanted) (M := M) (by rw [hw]; rfl) hM (by rw [Array.size_map, R.size]; omega)
  rw [Array.size_map, R.size] at hp
  obtain ⟨r1, r2, r3⟩ := rows_order L es order R.rows hp
  rw [← r3] at T
  generalize (order.toList.filterMap fun i => L[i]?) = L2 at r1 r2 r3 T
  have sz2 : (order.filterMap (es[·]?)).size = es.size := by rw [← Array.length_toList, r1, rowsK, List.length_map, r2.length_eq, R.size]
  have m512 : M + 1 ≤ 512 := by rcases hM with e | e | e | e <;> omega
  rw [setRelay_eq]
  refine wpAny_bind (wpAny_setState_of ho hd (by rw [R.size]; exact fits_by R.psz R.tab.dm hfl) ?_)
  dsimp only
  refine wp_if_neg (by rw [hw, sizeLine_eq]; omega) ?_
  try refine wpAny_bind (wpAny_pure ?_)
  rw [e]
  dsimp only
  refine wpAny_bind ?_
  refine wp_if_neg (by rw [sz2]; simp) ?_
  try refine wpAny_bind (wpAny_pure ?_)
  refine wpAny_pure ?_
  dsimp only
  have few := R.few
  refine wpAny_storeSet_of ho hd ?_ (by rw [sz2, R.size, sizeLine_eq]; omega)
  refine hQ _ L2 _ (ep + 1) t' (Heap.SameBut.update ..) ⟨⟨_, store_at ho hd, hex, rfl⟩, r1, T, (r2.map (·.2)).nodup_iff.mpr R.nd, by rw [el]; exact R.led, by rw [r2.length_eq, em]; exact hn, by rw [r2.length_eq]; exact few⟩ r2
/-- adding -/
theorem add_go (sa : SetAble knd) (R : SR knd s.heap a L es ep t) (him : ∀ p ∈ L, knd.is s.heap p.2 p.1) {x : Addr} {k : K} (hx : knd.is s.heap k x) (hu : knd.room A) (few : k ∉ L.map (·.2) → L.length < 256) {Q : Bool → Shared → Prop}
    (hQ : ∀ b h' L' es' ep' t', Heap.SameBut a s.heap h' → SR knd h' a L' es' ep' t' → (k ∈ L.map (·.2) → L' = L) → (k ∉ L.map (·.2) → L'.Perm ((x, k) :: L)) → Q b { s with heap := h' }) :
    wpAny (model P w) A (setAddHashed a (.ref x) (knd.hash k)) Q E s := by
  obtain ⟨o, ho, hex, hd⟩ := R.ob
  have room := R.room
  unfold setAddHashed
  refine wpAny_holding ?_
  rw [show (100000 : Nat) = 99999 + 1 from rfl, setAddHashedIn_succ]
  refine wpAny_bind (wpAny_setState_of ho hd R.fits ?_)
  dsimp only
  refine wp_if_neg (by simp [byScan, Value.scannable]) ?_
  try refine wpAny_bind (wpAny_pure ?_)
  refine wpAny_bind (search_all sa R him hx hu (fun hm => wpAny_pure (hQ false s.heap L es ep t (Heap.SameBut.refl a s.heap) R (fun _ => rfl) fun z => absurd hm z)) fun M hm hK hb => ?_)
  dsimp only
  refine wpAny_bind (wpAny_setState_of ho hd R.fits ?_)
  dsimp only
  obtain ⟨T1, mk, ld, fl⟩ := R.tab.put hK hb
  rw [List.length_map] at fl
  generalize t.put (way t.mask (knd.hash k) M) = pt at T1 mk ld fl ⊢
  obtain ⟨t1, p⟩ := pt
  dsimp only at T1 mk ld fl ⊢
  have few := few hm
  -- whether the table stays plain
  have main : ∀ t2 : SetTable, (t2 = t1 ∨ t2 = { t1 with plain := false }) → wpAny (model P w) A (do
      storeSet a (SetTable.insertAt es p (knd.hash k, .ref x)) t2
      if (!false && t2.tooFull) = true then setRelay a (SetTable.grown (es.size + 1))
      pure true) Q E s := fun t2 h2 => by
    have T2 : Tb t2 (ins (L.map fun p => knd.hash p.2) p (knd.hash k)) := by
      rcases h2 with rfl | rfl
      · exact T1
      · exact ⟨T1.ris, T1.dm, T1.sz, T1.mok, T1.bd, T1.met⟩
    have mk2 : t2.mask = t.mask := by rcases h2 with rfl | rfl <;> exact mk
    have ld2 : t2.led = t.led := by rcases h2 with rfl | rfl <;> exact ld
    have fl2 : t2.fill = L.length + 1 := by rcases h2 with rfl | rfl <;> exact fl
    have pm := ins_perm L p (x, k)
    have len1 : (ins L p (x, k)).length = L.length + 1 := ins_len L p (x, k)
    rw [← ins_map (fun p : Addr × K => knd.hash p.2) L p (x, k)] at T2
    have R1 : TR knd (ins L p (x, k)) (SetTable.insertAt es p (knd.hash k, .ref x)) t2 := by
      refine ⟨?_, T2, (pm.map (·.2)).nodup_iff.mpr (List.nodup_cons.mpr ⟨hm, R.nd⟩), by rw [ld2]; exact R.led, by omega⟩
      rw [SetTable.toList_insertAt, R.rows]
      show ins (rowsK knd L) p (knd.hash k, Value.ref x) = _
      unfold rowsK
      rw [ins_map]
    generalize ins L p (x, k) = L1 at pm len1 R1 T2
    generalize SetTable.insertAt es p (knd.hash k, .ref x) = es1 at R1 ⊢
    refine wpAny_bind (wpAny_storeSet_of ho hd ?_ (by rw [R1.size, len1, sizeLine_eq]; omega))
    have sb : Heap.SameBut a s.heap (s.heap.update a (Obj.putSet es1 t2)) := Heap.SameBut.update ..
    have ho1 := store_at (es' := es1) (t' := t2) ho hd
    generalize s.heap.update a (Obj.putSet es1 t2) = h1 at sb ho1 ⊢
    by_cases hf : t2.tooFull = true
    · have full : (L.length + 1) * 5 ≥ t.mask * 3 := by
        have z := hf
        unfold SetTable.tooFull at z
        rw [decide_eq_true_eq, fl2, mk2] at z
        exact z
      rw [R.size]
      have go : ∀ M, SetTable.sizeAbove (SetTable.grown (L.length + 1)) = M + 1 → MaskB M → (L.length + 1) * 5 < M * 3 →
          wpAny (model P w) A (setRelay a (SetTable.grown (L.length + 1))) (fun _ s' => wpAny (model P w) A (pure true) Q E s') E { s with heap := h1 } := fun M z1 z2 z3 =>
        relay_go (s := { s with heap := h1 }) ho1 hex rfl R1 (by rw [mk2]; omega) z1 z2 (by rw [len1]; exact z3) fun h2 L2 es2 ep2 t3 sb2 R2 pm2 =>
          wpAny_pure (hQ true h2 L2 es2 ep2 t3 (sb.trans sb2) R2 (fun z => absurd z hm) fun _ => pm2.trans pm)
      first
        | (refine wpAny_bind ?_; refine wp_if_pos (by simp [hf]) ?_)
        | (refine wp_if_pos (by simp [hf]) ?_; refine wpAny_bind ?_)
      rcases R.tab.mok with e | e | e | e
      · have n : L.length = 4 := by rw [e] at room full; omega
        rw [n] at go ⊢
        exact go 31 size_20 (.inr (.inl rfl)) (by decide)
      · have n : L.length = 18 := by rw [e] at room full; omega
        rw [n] at go ⊢
        exact go 127 size_76 (.inr (.inr (.inl rfl))) (by decide)
      · have n : L.length = 76 := by rw [e] at room full; omega
        rw [n] at go ⊢
        exact go 511 size_308 (.inr (.inr (.inr rfl))) (by decide)
      · rw [e] at full
        omega
    · first
        | refine wp_if_neg (by simp [hf]) ?_
        | (refine wpAny_bind ?_; refine wp_if_neg (by simp [hf]) ?_; refine wpAny_pure ?_)
      refine wpAny_pure (hQ true h1 L1 es1 (ep + 1) t2 sb ⟨⟨_, ho1, hex, rfl⟩, R1.rows, R1.tab, R1.nd, R1.led, ?_, R1.few⟩ (fun z => absurd z hm) fun _ => pm)
      have z := hf
      unfold SetTable.tooFull at z
      rw [decide_eq_true_eq, fl2] at z
      rw [len1]
      omega
  by_cases hp : t1.plain = true
  · refine wp_if_pos hp (wpAny_bind (sa.hbv hx fun r => ?_))
    cases r
    · exact main _ (.inr rfl)
    · exact main _ (.inl rfl)
  · refine wp_if_neg hp (wpAny_bind (wpAny_pure ?_))
    exact main _ (.inl rfl)
end
end TB
/-! Data with dicts of anything in it: what repr tells. -/
namespace LG
open PySem PySem.Spec PyProof.Rows L2 Evl
inductive Dz (K : PySem.W.Frag) (H : Hp) : V → PyData → Prop
  | q {v : V} {d : PyData} (h : Dq K H v d) : Dz K H v d
  | lst {a : Addr} {xs : List V} {ds : List PyData} (hs : SqL K H a xs) (hl : xs.length = ds.length) (hx : ∀ (i : Nat) (x : V) (d : PyData), xs[i]? = some x → ds[i]? = some d → Dz K H x d) (hn : a ≠ sysModules) : Dz K H (.ref a) (.list ds)
  | tup {a : Addr} {xs : List V} {ds : List PyData} (hs : SqT K H a xs) (hl : xs.length = ds.length) (hx : ∀ (i : Nat) (x : V) (d : PyData), xs[i]? = some x → ds[i]? = some d → Dz K H x d) : Dz K H (.ref a) (.tuple ds)
  | dic {a : Addr} {kvs : List (Key × V)} {ds : List (PyData × PyData)} (h : H a = some (.dK kvs)) (hl : kvs.length = ds.length) (hk : ∀ (i : Nat) (x : Key × V) (d : PyData × PyData), kvs[i]? = some x → ds[i]? = some d → Dz K H (kV x.1) d.1) (hx : ∀ (i : Nat) (x : Key × V) (d : PyData × PyData), kvs[i]? = some x → ds[i]? = some d → Dz K H x.2 d.2) : Dz K H (.ref a) (.dict ds)
  | odd {w : World} {a : Addr} {kvs : List (V × V)} {ds : List (PyData × PyData)} (h : H a = some (odE w a kvs)) (hl : kvs.length = ds.length) (hk : ∀ (i : Nat) (x : V × V) (d : PyData × PyData), kvs[i]? = some x → ds[i]? = some d → Dz K H x.1 d.1) (hx : ∀ (i : Nat) (x : V × V) (d : PyData × PyData), kvs[i]? = some x → ds[i]? = some d → Dz K H x.2 d.2) : Dz K H (.ref a) (.dict ds)
mutual
theorem Dq.up {K : PySem.W.Frag} {H H' : Hp} (e : Ex H H') : ∀ (d : PyData) (v : V), Dq K H v d → Dq K H' v d
  | .none, _, h => by cases h; exact .non
  | .bool _, _, h => by cases h; exact .bl _
  | .int _, _, h => by cases h; exact .int _
  | .str _, _, h => by cases h; exact .str _
  | .list ds, _, h => by
    cases h with
    | lst hs ha hn => exact .lst (ex_l e hs) (DqAll.up e ds _ ha) hn
  | .tuple ds, _, h => by
    cases h with
    | tup hs ha => exact .tup (ex_t e hs) (DqAll.up e ds _ ha)
  | .dict ds, _, h => by
    cases h with
    | dic hs ha => exact .dic (e _ _ hs) (DqKv.up e ds _ ha)
theorem DqAll.up {K : PySem.W.Frag} {H H' : Hp} (e : Ex H H') : ∀ (ds : List PyData) (vs : List V), DqAll K H vs ds → DqAll K H' vs ds
  | [], _, h => by cases h; exact .nil
  | d :: ds, _, h => by
    cases h with
    | cons h1 h2 => exact .cons (Dq.up e d _ h1) (DqAll.up e ds _ h2)
theorem DqKv.up {K : PySem.W.Frag} {H H' : Hp} (e : Ex H H') : ∀ (ds : List (PyData × PyData)) (vs : List (Key × V)), DqKv K H vs ds → DqKv K H' vs ds
  | [], _, h => by cases h; exact .nil
  | (d1, d2) :: ds, _, h => by
    cases h with
    | cons h1 p1 h2 p2 h3 => exact .cons (Dq.up e d1 _ h1) p1 (Dq.up e d2 _ h2) p2 (DqKv.up e ds _ h3)
end
theorem Dz.up {K : PySem.W.Frag} {H H' : Hp} (e : Ex H H') {v : V} {d : PyData} (h : Dz K H v d) : Dz K H' v d := by
  induction h with
  | q h => exact .q (Dq.up e _ _ h)
  | lst hs hl _ hn ih => exact .lst (ex_l e hs) hl ih hn
  | tup hs hl _ ih => exact .tup (ex_t e hs) hl ih
  | dic h hl _ _ ih1 ih2 => exact .dic (e _ _ h) hl ih1 ih2
  | odd h hl _ _ ih1 ih2 => exact .odd (e _ _ h) hl ih1 ih2
theorem reads_all {h : Heap} : ∀ {xs : List V} {us : List Value} {ds : List PyData}, xs.length = ds.length → Vals xs us → (∀ (i : Nat) (x : V) (d : PyData), xs[i]? = some x → ds[i]? = some d → ∀ u, RelV x u → ∃ as, Reads h u d as ∧ sysModules ∉ as) → ∃ as, ReadsAll h us ds as ∧ sysModules ∉ as
  | [], _, [], _, .nil, _ => ⟨_, .nil, List.not_mem_nil⟩
  | x :: xs, _, d :: ds, hl, .cons r t, k => by
    obtain ⟨as, q1, z1⟩ := k 0 x d rfl rfl _ r
    obtain ⟨bs, q2, z2⟩ := reads_all (Nat.succ.inj hl) t fun i x d a b => k (i + 1) x d a b
    exact ⟨_, .cons q1 q2, fun z => (List.mem_append.mp z).elim z1 z2⟩
  | [], _, _ :: _, hl, _, _ => by cases hl
  | _ :: _, _, [], hl, _, _ => by cases hl
theorem vals_en : ∀ {kvs : List (V × V)} {es : List DictEntry}, EnV kvs es → Vals (kvs.map (·.1)) (es.map (·.key)) ∧ Vals (kvs.map (·.2)) (es.map (·.val))
  | _, _, .nil => ⟨.nil, .nil⟩
  | _, _, .cons r t => let ⟨a, b⟩ := vals_en t; ⟨.cons r.1 a, .cons r.2 b⟩
theorem reads_dict {h : Heap} {a : Addr} {o : Obj} {es : Array DictEntry} {ep : Nat} {kvs : List (V × V)} {ds : List (PyData × PyData)} (hs : (a == sysModules) = false) (ho : h.get? a = some o) (hx : o.ExactDict) (hd : o.data = .dict es ep) (hv : EnV kvs es.toList) (hl : kvs.length = ds.length)
    (hk : ∀ (i : Nat) (x : V × V) (d : PyData × PyData), kvs[i]? = some x → ds[i]? = some d → ∀ u, RelV x.1 u → ∃ as, Reads h u d.1 as ∧ sysModules ∉ as) (hw : ∀ (i : Nat) (x : V × V) (d : PyData × PyData), kvs[i]? = some x → ds[i]? = some d → ∀ u, RelV x.2 u → ∃ as, Reads h u d.2 as ∧ sysModules ∉ as) :
    ∃ as, Reads h (.ref a) (.dict ds) as ∧ sysModules ∉ as := by
  obtain ⟨v1, v2⟩ := vals_en hv
  obtain ⟨as, q1, z1⟩ := reads_all (ds := ds.map (·.1)) (by simp [hl]) v1 fun i x d e1 e2 => by
    rw [List.getElem?_map] at e1 e2
    obtain ⟨p, hp, rfl⟩ := Option.map_eq_some_iff.mp e1
    obtain ⟨q, hq, rfl⟩ := Option.map_eq_some_iff.mp e2
    exact hk i p q hp hq
  obtain ⟨bs, q2, z2⟩ := reads_all (ds := ds.map (·.2)) (by simp [hl]) v2 fun i x d e1 e2 => by
    rw [List.getElem?_map] at e1 e2
    obtain ⟨p, hp, rfl⟩ := Option.map_eq_some_iff.mp e1
    obtain ⟨q, hq, rfl⟩ := Option.map_eq_some_iff.mp e2
    exact hw i p q hp hq
  refine ⟨_, Reads.dict ho hx.1 hd q1 q2, fun z => ?_⟩
  rcases List.mem_append.mp z with z | z
  · rcases List.mem_cons.mp z with z | z
    · rw [← z] at hs
      simp at hs
    · exact z1 z
  · exact z2 z
theorem Dz.reads {X : Cx} {pins : List (Addr × Obj)} {σ : L2.St} {H : Hp} {s : Shared} (I : Inv X pins σ H s) {v : V} {d : PyData} (h : Dz X.K H v d) : ∀ u, RelV v u → ∃ as, Reads s.heap u d as ∧ sysModules ∉ as := by
  induction h with
  | q h => exact fun u r => Dq.reads I _ _ u h r
  | @lst a xs ds hs hl _ hn ih =>
    intro u r
    cases r
    obtain ⟨its, rv, ⟨o, n, ho, hc, _, hd⟩, _⟩ := I.list hs
    obtain ⟨as, hr, hz⟩ := reads_all hl rv ih
    exact ⟨_, Reads.list ho hc hd hr, fun z => (List.mem_cons.mp z).elim (fun e => hn e.symm) hz⟩
  | @tup a xs ds hs hl _ ih =>
    intro u r
    cases r
    obtain ⟨its, rv, ⟨o, ho, hc, n, hd⟩, _⟩ := I.tuple hs
    obtain ⟨as, hr, hz⟩ := reads_all hl rv ih
    exact ⟨_, Reads.tuple ho hc hd hr, hz⟩
  | @dic a kvs ds hs hl _ _ ih1 ih2 =>
    intro u r
    cases r
    obtain ⟨_, hsys, vs, kv, o, es, ep, ho, hc, hd, _, hp, _⟩ := (show ObjOk X.prog X.w H s.heap a (.dK kvs) from I.hok a _ hs)
    refine reads_dict hsys ho hc hd (env_of kv hp) (by simpa using hl) (fun i x d e1 e2 => ?_) (fun i x d e1 e2 => ?_)
    · rw [List.getElem?_map] at e1
      obtain ⟨p, hp, rfl⟩ := Option.map_eq_some_iff.mp e1
      exact ih1 i p d hp e2
    · rw [List.getElem?_map] at e1
      obtain ⟨p, hp, rfl⟩ := Option.map_eq_some_iff.mp e1
      exact ih2 i p d hp e2
  | @odd w a kvs ds hs hl _ _ ih1 ih2 =>
    intro u r
    cases r
    obtain ⟨⟨hsys, o, es, ep, ho, hx, hd, hv, _⟩, _⟩ := (show ObjOk X.prog X.w H s.heap a (odE w a kvs) from I.hok a _ hs)
    exact reads_dict hsys ho hx hd hv hl ih1 ih2
/-- a list of such things, wherever it stands -/
def LzAt (K : PySem.W.Frag) (H : Hp) (x : V) (d : PyData) : Prop := ∃ (a : Addr) (xs : List V) (ds : List PyData), x = .ref a ∧ d = .list ds ∧ SqL K H a xs ∧ xs.length = ds.length ∧ ∀ (i : Nat) (y : V) (e : PyData), xs[i]? = some y → ds[i]? = some e → Dz K H y e
theorem LzAt.up {K : PySem.W.Frag} {H H' : Hp} {x : V} {d : PyData} (e : Ex H H') (h : LzAt K H x d) : LzAt K H' x d := let ⟨a, xs, ds, h1, h2, h3, h4, h5⟩ := h; ⟨a, xs, ds, h1, h2, ex_l e h3, h4, fun i y d e1 e2 => (h5 i y d e1 e2).up e⟩
theorem repr_list {prog : Program} {w : World} {A : Around} {E : Value → Shared → Prop} {s : Shared} {Q : Value → Shared → Prop} {a : Addr} {o : Obj} {vs : Array Value} {n : Nat} {ds : List PyData} {cs : List Addr} (g1 : s.heap.get? a = some o) (g2 : o.cls = .type "list") (g3 : o.data = .seq vs n) (g4 : ReadsAll s.heap vs.toList ds cs)
    (sh : PyData.showableAll ds = true) (no : sysModules ∉ cs) (hg : A.guards = some []) (hu : A.units + (PyData.depthAll ds + 1 + 1) < cLine) (hz : (PyData.list ds).shown.length ≤ sizeLine)
    (hQ : ∀ h' u tk, (∀ b o, s.heap.get? b = some o → h'.get? b = some o) → Q (.str (PyData.list ds).shown u) { s with heap := h', toks := tk }) : wpAny (model prog w) A (call (.builtin "repr") [.ref a]) Q E s := by
  have z1 : (listText (PyData.shownAll ds)).length ≤ sizeLine := by simpa only [PyData.shown] using hz
  obtain ⟨bs, k1, k2⟩ := ReprAllK.of_readsAll (prog := prog) (w := w) g4 sh (fun _ => no) (fun t ht => Nat.le_trans (listText_mem_le ht) z1)
  have k3 : a ∉ bs := not_mem_of_deeper (.list g1 g2 g3 g4) (by simp only [PyData.depth]; omega) k1
  simp only [PyData.shown] at hQ
  obtain ⟨l⟩ := vs
  refine call_repr_slot (by omega) ⟨o, g1, g2⟩ PySem.F.slot_list_repr.toG ?_
  cases l with
  | nil =>
    cases (show ReadsAll s.heap [] ds _ from g4)
    simp only [PyData.shownAll, listText_nil] at hQ
    exact call_list_repr_empty ⟨o, g1, g2⟩ g1 g3 ⟨_, _, rfl, hQ s.heap _ _ fun _ _ e => e⟩
  | cons x l =>
    exact call_list_reprK g1 g2 g3 k3 (by simpa using k2.length_eq) (fun i y e => k2.item i y (by simpa using e)) hg (fun b _ => Clear.nil b) (by show A.units + 1 + _ < _; omega) (fun _ _ e => e) (fun h' u tk hk => ⟨_, _, rfl, hQ h' u tk hk⟩) z1
def rReprZ (K : PySem.W.Frag) : List V → Hp → VK → Prop := fun xs H Q => ∃ (x : V) (d : PyData), xs = [x] ∧ (Dz K H x d ∨ Dp K H x d ∨ LzAt K H x d) ∧ Shows d ∧ Q (.str d.shown) H
theorem call_reprZ {X : Cx} (hg : X.A.guards = some []) (hu : X.A.units + 64 < cLine) : CallR X (.builtin "repr") (rReprZ X.K) := by
  intro pins s σ H xs us Q I r h
  obtain ⟨x, d, rfl, hd, ⟨hs, hdp, hz⟩, q⟩ := h
  obtain ⟨u, rfl, ru⟩ := vals1 r
  rcases hd.imp_right id with hd | hd | hd
  rotate_left 2
  · obtain ⟨a, zs, ds, rfl, rfl, hl, hn, hx⟩ := hd
    cases ru
    obtain ⟨its, rv, ⟨o, n, ho, hc, _, hdt⟩, _⟩ := I.list hl
    obtain ⟨cs, hr, hno⟩ := reads_all hn rv fun i x d e1 e2 => (hx i x d e1 e2).reads I
    simp only [PyData.showable, PyData.depth] at hs hdp
    exact repr_list ho hc hdt hr hs hno hg (by omega) hz fun h' t tk hk => ⟨.str (PyData.list ds).shown, H, I.kept hk, ⟨t, rfl⟩, q⟩
  all_goals
  have rd : ∃ as, Reads s.heap u d as ∧ (d.hasDict = true → sysModules ∉ as) := by
    first
    | obtain ⟨as, z1, z2⟩ := hd.reads I u ru
      exact ⟨as, z1, fun _ => z2⟩
    | obtain ⟨as, z1⟩ := Dp.reads I d x u hd ru
      exact ⟨as, z1, PyData.noDict_hsm (Dp.noDict d x hd)⟩
  obtain ⟨as, z1, z2⟩ := rd
  have fin : ∀ (h' : Heap) (tk : Nat) (t : Tok), (∀ b o, s.heap.get? b = some o → h'.get? b = some o) → EP X pins σ Q (.str d.shown t) { s with heap := h', toks := tk } :=
    fun h' tk t hk => ⟨.str d.shown, H, I.kept hk, ⟨t, rfl⟩, q⟩
  have tail : ∀ a, u = .ref a → wpAny (model X.prog X.w) X.A (call (.builtin "repr") [u]) (EP X pins σ Q) X.xe s := by
    intro a e
    subst e
    exact repr_of_reads' z1 hs z2 hg (by omega) (fun _ _ e => e) (fun h' t tk hk => fin h' tk t hk) hz
  cases z1 with
  | none => exact PySem.P.repr_of_none (fin s.heap _ _ fun _ _ e => e)
  | bool b =>
    have e := fin s.heap (s.toks + 1) s.toks fun _ _ e => e
    rw [shown_bool] at e
    exact PySem.P.repr_of_bool e
  | int i t =>
    have hi : i.natAbs.log2 < 1920 := by
      unfold PyData.showable at hs
      exact of_decide_eq_true hs
    exact PySem.P.repr_of_int hi (fin s.heap _ _ fun _ _ e => e)
  | str y t => exact PySem.P.repr_of_str (fin s.heap _ _ fun _ _ e => e) hz
  | list _ _ _ _ => exact tail _ rfl
  | tuple _ _ _ _ => exact tail _ rfl
  | dict _ _ _ _ _ => exact tail _ rfl
end LG
/-! repr of lists, tuples and dicts that hold instances of own classes. -/
namespace LG
open PySem PySem.Spec PyProof.Rows L2 Evl
/-! ### under a guard -/
structure Guarded (A B : Around) (c : Code) : Prop where
  hd : B.handled = A.handled
  dp : B.depth = A.depth + 1
  un : B.units = A.units + 1
  fr : B.frames = A.frames
  gs : ∀ g, A.guards = some g → B.guards = some (c :: g)
theorem guarded_of {A : Around} {id : String} {args : Args} (h1 : (A.under (.builtin id args)).depth = A.depth + 1) (h2 : (A.under (.builtin id args)).units = A.units + 1) (h3 : (A.under (.builtin id args)).frames = A.frames) (h4 : (Code.builtin id args).isGuard = true) : Guarded A (A.under (.builtin id args)) (.builtin id args) :=
  ⟨rfl, h1, h2, h3, fun g hg => guards_under_guard h4 hg⟩
theorem guarded_loop {A : Around} {args : Args} : Guarded A (A.under (.builtin "list.__repr__.loop" args)) (.builtin "list.__repr__.loop" args) :=
  guarded_of (by first | rfl | simp [Around.under, Code.weight, Code.isCreation, Code.isGuard, Code.isCaller, Code.frames, Code.isFrame, guardIds]) (by first | rfl | simp [Around.under, Code.cUnits, Code.frames, Code.isFrame]) (by first | rfl | simp [Around.under, Code.envs, Code.isFrame, pushEnvs]) (isGuard_list_loop _)
theorem guarded_tup {A : Around} {args : Args} : Guarded A (A.under (.builtin "tuple.__repr__" args)) (.builtin "tuple.__repr__" args) :=
  guarded_of (by first | rfl | simp [Around.under, Code.weight, Code.isCreation, Code.isGuard, Code.isCaller, Code.frames, Code.isFrame, guardIds]) (by first | rfl | simp [Around.under, Code.cUnits, Code.frames, Code.isFrame]) (by first | rfl | simp [Around.under, Code.envs, Code.isFrame, pushEnvs]) (isGuard_tuple_repr _)
theorem guarded_tupU {A : Around} {args : Args} : Guarded A (A.under (.builtin "tuple.__repr__.under" args)) (.builtin "tuple.__repr__.under" args) :=
  guarded_of (by first | rfl | simp [Around.under, Code.weight, Code.isCreation, Code.isGuard, Code.isCaller, Code.frames, Code.isFrame, guardIds]) (by first | rfl | simp [Around.under, Code.cUnits, Code.frames, Code.isFrame]) (by first | rfl | simp [Around.under, Code.envs, Code.isFrame, pushEnvs]) (isGuard_tuple_repr_under _)
theorem guarded_dic {A : Around} {args : Args} : Guarded A (A.under (.builtin "dict.__repr__" args)) (.builtin "dict.__repr__" args) :=
  guarded_of (by first | rfl | simp [Around.under, Code.weight, Code.isCreation, Code.isGuard, Code.isCaller, Code.frames, Code.isFrame, guardIds]) (by first | rfl | simp [Around.under, Code.cUnits, Code.frames, Code.isFrame]) (by first | rfl | simp [Around.under, Code.envs, Code.isFrame, pushEnvs]) (isGuard_dict_repr _)
theorem guarded_dicU {A : Around} {args : Args} : Guarded A (A.under (.builtin "dict.__repr__.under" args)) (.builtin "dict.__repr__.under" args) :=
  guarded_of (by first | rfl | simp [Around.under, Code.weight, Code.isCreation, Code.isGuard, Code.isCaller, Code.frames, Code.isFrame, guardIds]) (by first | rfl | simp [Around.under, Code.cUnits, Code.frames, Code.isFrame]) (by first | rfl | simp [Around.under, Code.envs, Code.isFrame, pushEnvs]) (isGuard_dict_repr_under _)
theorem Guarded.room {A B : Around} {c : Code} {k : Nat} (g : Guarded A B c) (r : Room (k + 1) A) : Room k B := ⟨g.hd.trans r.hd, by have := r.dp; rw [g.dp]; omega, by have := r.un; rw [g.un]; omega⟩
/-! ### what is promised of one item -/
def RepI (X : Cx) (k : Nat) (as : List Addr) (H : Hp) (x : V) (t : Str) : Prop :=
  ∀ (A : Around) (g : List Code) (base : Nat) (pins : List (Addr × Obj)) (σ : L2.St) (H1 : Hp) (s : Shared) (u : Value) (Q : Str → Shared → Prop), A.guards = some g → A.frames = X.A.frames → Room k A → (∀ b ∈ as, Clear g b) → base + t.length ≤ sizeLine → Ex H H1 → Inv X pins σ H1 s → RelV x u →
    (∀ H2 s', Ex H1 H2 → Inv X pins σ H2 s' → Q t s') → wpAny (model X.prog X.w) A (pyReprUnder base u) Q X.xe s
section
variable {X : Cx} {k : Nat} {as : List Addr} {H : Hp} {x : V} {t : Str}
theorem RepI.up {H' : Hp} (e : Ex H H') (h : RepI X k as H x t) : RepI X k as H' x t := fun A g base pins σ H1 s u Q hg hf hr hc hz e1 I r q => h A g base pins σ H1 s u Q hg hf hr hc hz (e.trans e1) I r q
theorem RepI.mono {j : Nat} (hj : j ≤ k) (h : RepI X j as H x t) : RepI X k as H x t := fun A g base pins σ H1 s u Q hg hf hr hc hz e1 I r q => h A g base pins σ H1 s u Q hg hf (hr.mono hj) hc hz e1 I r q
theorem RepI.of_is (h : ∀ u, RelV x u → ReprIs X.prog X.w u t) : RepI X k as H x t := fun A g base pins σ H1 s u Q hg hf hr hc hz e1 I r q =>
  h u r base hz A X.xe s Q fun tk => q H1 { s with toks := tk } (Ex.refl H1) (I.kept (h' := s.heap) (t' := tk) fun _ _ e => e)
/-! ### lists -/
theorem vals_texts : ∀ {ts : List Str} {us : List Value}, Vals (ts.map V.str) us → ∃ l : List (Str × Tok), us = strValues l ∧ l.map (·.1) = ts
  | [], _, .nil => ⟨[], rfl, rfl⟩
  | t :: ts, _, .cons ⟨tk, e⟩ r => by
    obtain ⟨l, h1, h2⟩ := vals_texts r
    exact ⟨(t, tk) :: l, by rw [e, h1]; rfl, by rw [List.map_cons, h2]⟩
theorem rloop {pins : List (Addr × Obj)} {σ : L2.St} {a P : Addr} {xs : List V} {ts : List Str} {base : Nat} {A : Around} {g : List Code} {R : Result → Shared → Prop} (ne : a ≠ P) (gs : A.guards = some g) (fr : A.frames = X.A.frames) (room : Room (k + 1) A) (clear : ∀ b ∈ as, Clear g b) (out : a ∉ as)
    (at_ : H a = some (.lst xs)) (fresh : H P = none) (len : ts.length = xs.length) (items : ∀ (i : Nat) (x : V) (t : Str), xs[i]? = some x → ts[i]? = some t → RepI X k as H x t) (small : base + (listText ts).length ≤ sizeLine) (err : ∀ e s', X.xe e s' → R (.error e) s') :
    ∀ (n i : Nat) (H1 : Hp) (s : Shared), xs.length - i = n → i ≤ xs.length → Ex H H1 → Inv X pins σ H1 s → H1 P = some (.lst ((ts.take i).map V.str)) →
      (∀ H2 s' u, (∀ b o, b ≠ P → H1 b = some o → H2 b = some o) → Inv X pins σ H2 s' → R (.ok (.ret (.str (listText ts) u))) s') →
      codeAny (model X.prog X.w) A (.builtin "list.__repr__.loop" ⟨[.ref a, rawInt i, .ref P, rawInt ((base + piled (ts.take i) : Nat) : Int)], []⟩) R s := by
  have z1 : (listText ts).length ≤ sizeLine := by omega
  have zt : ∀ t ∈ ts, t.length ≤ sizeLine := fun t ht => Nat.le_trans (listText_mem_le ht) z1
  have zn : ts.length ≤ sizeLine := by
    have h := (textFrom_len ts 0 "[").1
    have e : (listText ts).length = (textFrom 0 "[" ts).length + 1 := by
      show (textFrom 0 "[" ts ++ "]").length = _
      rw [strLen_append]; rfl
    rw [if_neg (Nat.lt_irrefl 0)] at h
    omega
  have pl := piled_le_listText ts
  intro n
  induction n with
  | zero =>
    intro i H1 s hn hi e1 I hP q
    have hin : i = xs.length := by omega
    obtain ⟨_, its, c, r, hl, ea⟩ := I.lstM (e1 _ _ at_)
    obtain ⟨_, its2, c2, r2, hl2, eP⟩ := I.lstM hP
    refine codeAny_builtin F.entry_list_repr_loop ?_
    show wpAny _ _ (Builtin.«list.__repr__.loop» ⟨[.ref a, .int i 0, .ref P, .int ((base + piled (ts.take i) : Nat) : Int) 0], []⟩) _ _ s
    rw [repr_loop_tree]
    refine wpAny_bind (wpAny_listItems ea rfl ?_)
    have none_ : its.toArray[(i : Int).toNat]? = none := by simp [hin, hl]
    simp only [none_]
    unfold reprEnd
    refine wpAny_bind (wpAny_listItems eP rfl ?_)
    obtain ⟨l, rfl, hl3⟩ := vals_texts r2
    rw [show (strValues l).toArray.toList = strValues l from rfl, repr_fold]
    refine wpAny_bind (wpAny_pure ?_)
    rw [hl3, hin, ← len, List.take_length]
    exact wpAny_bind (wpAny_mkStr (wpAny_pure (q H1 _ _ (fun _ _ _ e => e) (I.kept fun _ _ e => e))) z1)
  | succ n ih =>
    intro i H1 s hn hi e1 I hP q
    have hlt : i < xs.length := by omega
    have htl : i < ts.length := by omega
    obtain ⟨_, its, c, r, hl, ea⟩ := I.lstM (e1 _ _ at_)
    have hx : xs[i]? = some xs[i] := List.getElem?_eq_getElem hlt
    have ht : ts[i]? = some ts[i] := List.getElem?_eq_getElem htl
    have p1 := piled_take_succ ht
    have p2 := piled_take_le ts (i + 1)
    have hil : i < its.length := by omega
    have rel : RelV xs[i] its[i] := by
      obtain ⟨u, e2, r2⟩ := r.get hx
      rw [List.getElem?_eq_getElem hil] at e2
      cases e2
      exact r2
    refine codeAny_builtin F.entry_list_repr_loop ?_
    show wpAny _ _ (Builtin.«list.__repr__.loop» ⟨[.ref a, .int i 0, .ref P, .int ((base + piled (ts.take i) : Nat) : Int) 0], []⟩) _ _ s
    rw [repr_loop_tree]
    refine wpAny_bind (wpAny_listItems ea rfl ?_)
    have some_ : its.toArray[(i : Int).toNat]? = some its[i] := by simp [hil]
    simp only [some_]
    rw [Int.toNat_natCast]
    have G := guarded_loop (A := A) (args := ⟨[.ref a, rawInt i, .ref P, rawInt ((base + piled (ts.take i) : Nat) : Int)], []⟩)
    refine wpAny_bind (wpAny_holding (wpAny_mono (items i _ _ hx ht _ _ (base + piled (ts.take i) + 1) pins σ H1 s _ _ (G.gs g gs) (G.fr.trans fr) (G.room room) (fun b hb => (clear b hb).cons (a := a) fun e => out (e ▸ hb)) (by omega) e1 I rel fun H2 s2 e2 I2 => ?_) (fun _ _ y => y) err))
    refine wpAny_bind (wpAny_mkStr ?_ (zt _ (List.mem_of_getElem? ht)))
    refine wpAny_bind ?_
    show wpAny _ _ (updateSeq P _) _ _ _
    have hP2 := e2 _ _ hP
    obtain ⟨z3, its3, c3, r3, hl3, eP⟩ := I2.lstM hP2
    rw [List.length_map, List.length_take, Nat.min_eq_left (Nat.le_of_lt htl)] at hl3
    refine wpAny_updateSeq eP rfl (wpAny_pure ⟨F.quiet_list_repr_loop _, ?_⟩) (by rw [List.size_toArray]; omega)
    have e3 : ((i : Int) + 1) = ((i + 1 : Nat) : Int) := by omega
    have e4 : base + piled (ts.take i) + (ts[i].length + 2) = base + piled (ts.take (i + 1)) := by omega
    rw [e3, e4]
    have tk1 : (ts.take (i + 1)).map V.str = (ts.take i).map V.str ++ [V.str ts[i]] := by
      rw [List.take_add_one, ht, List.map_append]; rfl
    have nP : ∀ b o, H b = some o → b ≠ P := fun b o h z => by rw [z, fresh] at h; cases h
    refine ih (i + 1) (upd H2 P (.lst ((ts.take (i + 1)).map V.str))) _ (by omega) hlt (fun b o h => by rw [upd_ne (nP b o h)]; exact e2 _ _ (e1 _ _ h)) ?_ upd_same fun H3 s3 u k3 I3 => q H3 s3 u (fun b o hb h => k3 b o hb (by rw [upd_ne hb]; exact e2 _ _ h)) I3
    rw [tk1]
    exact I2.lset (f := fun arr => arr.push (.str ts[i] s2.toks)) (its' := its3 ++ [.str ts[i] s2.toks]) hP2 eP (by simp) (r3.append (.cons ⟨_, rfl⟩ .nil)) (by rw [List.length_append, List.length_map, List.length_take]; simp; omega)
end
end LG
namespace LG
open PySem PySem.Spec PyProof.Rows L2 Evl
section
variable {X : Cx} {k : Nat} {as : List Addr} {H : Hp} {x : V} {t : Str} {pins : List (Addr × Obj)} {σ : L2.St} {a : Addr} {xs : List V} {ts : List Str} {base : Nat} {A : Around} {g : List Code} {R : Result → Shared → Prop} {s : Shared} {Q : Value → Shared → Prop}
abbrev Items (X : Cx) (k : Nat) (as : List Addr) (H : Hp) (xs : List V) (ts : List Str) : Prop := ∀ (i : Nat) (x : V) (t : Str), xs[i]? = some x → ts[i]? = some t → RepI X k as H x t
theorem rlist_at (gs : A.guards = some g) (fr : A.frames = X.A.frames) (room : Room (k + 1) A) (clear : ∀ b ∈ a :: as, Clear g b) (out : a ∉ as) (I : Inv X pins σ H s) (at_ : H a = some (.lst xs)) (len : ts.length = xs.length) (items : Items X k as H xs ts) (small : base + (listText ts).length ≤ sizeLine)
    (err : ∀ e s', X.xe e s' → R (.error e) s') (q : ∀ H2 s' u, Ex H H2 → Inv X pins σ H2 s' → R (.ok (.ret (.str (listText ts) u))) s') :
    wpAny (model X.prog X.w) A.in1 (Builtin.listReprAt base ⟨[.ref a], []⟩) (fun fin s' => match fin with | .done f => R (.ok f) s' | .again c' => c'.quiet = true ∧ codeAny (model X.prog X.w) A c' R s') (fun e s' => R (.error e) s') s := by
  obtain ⟨_, its, c, r, hl, ea⟩ := I.lstM at_
  cases its with
  | nil =>
    have e0 : ts = [] := List.eq_nil_of_length_eq_zero (by rw [len, hl]; rfl)
    subst e0
    refine wpAny_list_repr_empty ea rfl ?_
    exact q H _ _ (Ex.refl H) (I.kept fun _ _ e => e)
  | cons y l =>
    refine wpAny_list_repr_head (A := A.in1) gs (fun v rest kw hm => listSameRef_of_ne (clear a (.head _) _ _ _ _ hm)) ea rfl ?_
    refine wpAny_bind (m := newList []) (wpAny_newObj_type ?_)
    refine wpAny_pure ⟨F.quiet_list_repr_loop _, ?_⟩
    have fresh : H s.heap.objs.size = none := I.fresh
    refine rloop (H := H) (P := s.heap.objs.size) (fun z => by rw [z, fresh] at at_; cases at_) gs fr room (fun b hb => clear b (.tail _ hb)) out at_ fresh len items small err _ 0 (upd H s.heap.objs.size (.lst [])) _ rfl (Nat.zero_le _) (Ex.new fresh) (I.lnew .nil (Nat.zero_le _)) upd_same fun H2 s2 u keep I2 => ?_
    refine q H2 s2 u (fun b o h => ?_) I2
    have nP := ne_of_none h fresh
    exact keep b o nP (by rw [upd_ne nP]; exact h)
theorem ty_list (I : Inv X pins σ H s) (at_ : H a = some (.lst xs)) : s.TypeIs (.ref a) "list" := by
  obtain ⟨_, its, c, r, hl, ea⟩ := I.lstM at_
  exact ⟨_, ea, rfl⟩
theorem rep_list (at_ : H a = some (.lst xs)) (len : ts.length = xs.length) (items : Items X k as H xs ts) (out : a ∉ as) : RepI X (k + 2) (a :: as) H (.ref a) (listText ts) := by
  intro A g base pins σ H1 s u Q gs fr room clear small e1 I rel q
  cases rel
  have at1 := e1 _ _ at_
  have ty := ty_list I at1
  refine wpAny_pyReprUnder_ref (by omega) (wpAny_pyReprObjUnder_twin (twin := "list.__repr__.under") ty F.slot_list_repr.toG rfl room.units0 ?_)
  exact call_twin_plain F.plain_list_repr_under F.entry_list_repr_under F.check_list_repr_under ty F.slot_list_repr.toG (F.args_list_repr_1 _) (rlist_at gs fr (room.mono (Nat.le_succ _)) clear out I at1 len (fun i x t h1 h2 => (items i x t h1 h2).up e1) small (fun e s' h => h) fun H2 s2 u e2 I2 => ⟨⟨_, _, rfl⟩, _, u, rfl, q H2 s2 e2 I2⟩)
theorem repr_lst (gs : A.guards = some []) (fr : A.frames = X.A.frames) (room : Room (k + 2) A) (I : Inv X pins σ H s) (at_ : H a = some (.lst xs)) (len : ts.length = xs.length) (items : Items X k as H xs ts) (out : a ∉ as) (small : (listText ts).length ≤ sizeLine)
    (q : ∀ H2 s' u, Ex H H2 → Inv X pins σ H2 s' → Q (.str (listText ts) u) s') : wpAny (model X.prog X.w) A (call (.builtin "repr") [.ref a]) Q X.xe s := by
  have ty := ty_list I at_
  refine call_repr_slot (by have := room.units; omega) ty F.slot_list_repr.toG ?_
  exact wpAny_call (codeAny_call_builtin F.slot_list_repr.plain F.entry_list_repr (F.slot_list_repr.check _ _ _ _ _ _ _ _ ty (F.args_list_repr_1 _) (rlist_at (base := 0) (R := callEnd (fun v s' => ∃ x t, v = Value.str x t ∧ Q v s') X.xe) (A := A.in1) gs fr room.in1 (fun b _ => Clear.nil b) out I at_ len items (by omega) (fun e s' h => h) fun H2 s2 u e2 I2 => ⟨_, u, rfl, q H2 s2 u e2 I2⟩)))
/-! ### tuples -/
theorem rfold (gs : A.guards = some g) (fr : A.frames = X.A.frames) (room : Room k A) (clear : ∀ b ∈ as, Clear g b) : ∀ (l : List Value) (xs : List V) (ts : List Str) (acc : Array Str) (n : Nat) (H : Hp) (s : Shared) (Q : (Array Str × Nat) → Shared → Prop), Vals xs l → ts.length = xs.length → Items X k as H xs ts → n + piled ts ≤ sizeLine → Inv X pins σ H s →
    (∀ H2 s', Ex H H2 → Inv X pins σ H2 s' → Q ⟨acc ++ ts.toArray, n + piled ts⟩ s') → wpAny (model X.prog X.w) A (forIn l (⟨acc, n⟩ : (Array Str × Nat)) tupBody) Q X.xe s := by
  intro l
  induction l with
  | nil =>
    intro xs ts acc n H s Q r len items small I q
    cases r
    have e0 : ts = [] := List.eq_nil_of_length_eq_zero len
    subst e0
    simp only [List.forIn_nil]
    exact wpAny_pure (by simpa [piled] using q H s (Ex.refl H) I)
  | cons y l ih =>
    intro xs ts acc n H s Q r len items small I q
    cases r with
    | cons r1 r2 =>
      rename_i x xs
      cases ts with
      | nil => cases len
      | cons t ts =>
        rw [piled_cons] at small
        rw [List.forIn_cons]
        refine wpAny_bind (wpAny_bind (items 0 x t rfl rfl A g (n + 1) pins σ H s y _ gs fr room clear (by omega) (Ex.refl H) I r1 fun H1 s1 e1 I1 => wpAny_pure ?_))
        refine ih xs ts (acc.push t) (n + (t.length + 2)) H1 s1 Q r2 (by simpa using len) (fun i x t h1 h2 => (items (i + 1) x t h1 h2).up e1) (by omega) I1 fun H2 s2 e2 I2 => ?_
        have h := q H2 s2 (e1.trans e2) I2
        have e : n + piled (t :: ts) = n + (t.length + 2) + piled ts := by rw [piled_cons]; omega
        rw [e] at h
        simpa using h
theorem rtup_at {id : String} {rest : List Value} (G : Guarded A (A.under (.builtin id ⟨.ref a :: rest, []⟩)) (.builtin id ⟨.ref a :: rest, []⟩)) (gs : A.guards = some g) (fr : A.frames = X.A.frames) (room : Room (k + 1) A) (clear : ∀ b ∈ a :: as, Clear g b) (out : a ∉ as) (I : Inv X pins σ H s) (at_ : SqT X.K H a xs) (len : ts.length = xs.length)
    (items : Items X k as H xs ts) (small : base + (tupleText ts).length ≤ sizeLine) (err : ∀ e s', X.xe e s' → R (.error e) s') (q : ∀ H2 s' u, Ex H H2 → Inv X pins σ H2 s' → R (.ok (.ret (.str (tupleText ts) u))) s') :
    wpOwn (model X.prog X.w) A (.builtin id ⟨.ref a :: rest, []⟩) (Builtin.tupleReprAt base ⟨[.ref a], []⟩) (fun fin s' => match fin with | .done f => R (.ok f) s' | .again c' => c'.quiet = true ∧ codeAny (model X.prog X.w) A c' R s') (fun e s' => R (.error e) s') s := by
  obtain ⟨its, r, ⟨o, ho, hc, c, hd⟩, _⟩ := I.tuple at_
  have ca : Clear g a := clear a (.head _)
  have pl := piled_le_tupleText ts
  have hlen := r.length
  have z0 : (tupleText ts).length ≤ sizeLine := by omega
  rw [tuple_repr_tree, tupleReprUnderWay_eq]
  refine wpOwn_bind (wpOwn_stackTailAny gs (tupGuardF_off _) (tupGuardF_pos _) ?_)
  have no : (g.any fun c => tupGuardF (.ref a) (c, default)) = false := by
    rw [List.any_eq_false]
    intro c hm
    rw [tupGuardF_of_clear ca c hm]
    exact Bool.false_ne_true
  rw [no]
  refine wpOwn_of_wpAny ?_
  show wpAny _ _ (tupleReprRest base (.ref a)) _ _ s
  unfold tupleReprRest Builtin.Tuple.tupleItemsOf
  refine wpAny_bind (wpAny_bind (wpAny_seqItems ho hd (wpAny_pure ?_)))
  rw [← Array.forIn_toList]
  refine wpAny_bind (wpAny_mono (rfold (G.gs g gs) (G.fr.trans fr) (G.room room) (fun b hb => (clear b (.tail _ hb)).cons (a := a) fun e => out (e ▸ hb)) its xs ts _ _ H s _ (by simpa using r) len items (by omega) I fun H2 s2 e2 I2 => ?_) (fun _ _ y => y) err)
  refine wpAny_bind (wpAny_mkStr (wpAny_pure ?_) (by simpa [tupleText, len, hlen] using z0))
  have h := q H2 _ s2.toks e2 (I2.kept (h' := s2.heap) (t' := s2.toks + 1) fun _ _ e => e)
  simpa [tupleText, len, hlen] using h
theorem ty_tup (I : Inv X pins σ H s) (at_ : SqT X.K H a xs) : s.TypeIs (.ref a) "tuple" := by
  obtain ⟨its, r, ⟨o, ho, hc, c, hd⟩, _⟩ := I.tuple at_
  exact ⟨o, ho, hc⟩
theorem rep_tup (at_ : SqT X.K H a xs) (len : ts.length = xs.length) (items : Items X k as H xs ts) (out : a ∉ as) : RepI X (k + 2) (a :: as) H (.ref a) (tupleText ts) := by
  intro A g base pins σ H1 s u Q gs fr room clear small e1 I rel q
  cases rel
  have at1 := ex_t e1 at_
  have ty := ty_tup I at1
  refine wpAny_pyReprUnder_ref (by omega) (wpAny_pyReprObjUnder_twin (twin := "tuple.__repr__.under") ty F.slot_tuple_repr rfl room.units0 ?_)
  exact call_twin_own (F.quiet_tuple_repr_under _) F.entry_tuple_repr_under F.check_tuple_repr_under ty F.slot_tuple_repr (F.args_tuple_repr_1 _) (rtup_at guarded_tupU gs fr (room.mono (Nat.le_succ _)) clear out I at1 len (fun i x t h1 h2 => (items i x t h1 h2).up e1) small (fun e s' h => h) fun H2 s2 u e2 I2 => ⟨⟨_, _, rfl⟩, _, u, rfl, q H2 s2 e2 I2⟩)
theorem repr_tup (gs : A.guards = some []) (fr : A.frames = X.A.frames) (room : Room (k + 2) A) (I : Inv X pins σ H s) (at_ : SqT X.K H a xs) (len : ts.length = xs.length) (items : Items X k as H xs ts) (out : a ∉ as) (small : (tupleText ts).length ≤ sizeLine)
    (q : ∀ H2 s' u, Ex H H2 → Inv X pins σ H2 s' → Q (.str (tupleText ts) u) s') : wpAny (model X.prog X.w) A (call (.builtin "repr") [.ref a]) Q X.xe s := by
  have ty := ty_tup I at_
  refine call_repr_slot (by have := room.units; omega) ty F.slot_tuple_repr ?_
  exact wpAny_call (codeAny_call_builtin_own (Code.quiet_builtin _ (by decide +kernel)) F.entry_tuple_repr (F.slot_tuple_repr.check _ _ _ _ _ _ _ _ ty (F.args_tuple_repr_1 _) (rtup_at (base := 0) (R := callEnd (fun v s' => ∃ x t, v = Value.str x t ∧ Q v s') X.xe) (A := A.in1) guarded_tup gs fr room.in1 (fun b _ => Clear.nil b) out I at_ len items (by omega) (fun e s' h => h) fun H2 s2 u e2 I2 => ⟨_, u, rfl, q H2 s2 u e2 I2⟩)))
end
end LG
namespace LG
open PySem PySem.Spec PyProof.Rows L2 Evl
/-- a locked dict, its entries as they stand -/
def DL (H : Hp) (a : Addr) (od : Obj) (ps : List (V × V)) : Prop := (∃ kvs : List (Key × V), H a = some (.frz od (.dK kvs)) ∧ ps = kvs.map fun kv => (kV kv.1, kv.2)) ∨ ∃ w, H a = some (.frz od (odE w a ps))
theorem DL.up {H H' : Hp} {a : Addr} {od : Obj} {ps : List (V × V)} (e : Ex H H') (h : DL H a od ps) : DL H' a od ps := by
  rcases h with ⟨kvs, h, h2⟩ | h
  · exact .inl ⟨kvs, e _ _ h, h2⟩
  · exact .inr (let ⟨w, h⟩ := h; ⟨w, e _ _ h⟩)
theorem paired_len {α β : Type} {R : α → β → Prop} {xs : List α} {ys : List β} (h : Paired R xs ys) : xs.length = ys.length := Paired.length h
section
variable {X : Cx} {k : Nat} {as : List Addr} {H : Hp} {pins : List (Addr × Obj)} {σ : L2.St} {a : Addr} {od : Obj} {ps : List (V × V)} {qs : List (Str × Str)} {base : Nat} {A : Around} {g : List Code} {R : Result → Shared → Prop} {s : Shared} {Q : Value → Shared → Prop}
theorem dl_get (I : Inv X pins σ H s) (h : DL H a od ps) : (a == sysModules) = false ∧ s.heap.get? a = some od ∧ od.ExactDict ∧ ∃ (es : Array DictEntry) (ep : Nat), od.data = .dict es ep ∧ EnV ps es.toList := by
  rcases h with ⟨kvs, h, rfl⟩ | h
  · obtain ⟨hd, z, hs, vs, kv, o', es, ep, ho, hx, hdt, r⟩ := I.hok a _ h
    rw [hd] at ho
    cases ho
    exact ⟨hs, hd, hx, es, ep, hdt, env_of kv r.2.1⟩
  · obtain ⟨hs, hd, hx, es, ep, hdt, _, hv, _⟩ := frzO I h.choose_spec
    exact ⟨hs, hd, hx, es, ep, hdt, hv⟩
abbrev Items2 (X : Cx) (k : Nat) (as : List Addr) (H : Hp) (ps : List (V × V)) (qs : List (Str × Str)) : Prop := ∀ (i : Nat) (p : V × V) (q : Str × Str), ps[i]? = some p → qs[i]? = some q → RepI X k as H p.1 q.1 ∧ RepI X k as H p.2 q.2
def kvText (qs : List (Str × Str)) : List Str := qs.map fun q => q.1 ++ ": " ++ q.2
theorem rdict_at {id : String} {rest : List Value} (G : Guarded A (A.under (.builtin id ⟨.ref a :: rest, []⟩)) (.builtin id ⟨.ref a :: rest, []⟩)) (gs : A.guards = some g) (fr : A.frames = X.A.frames) (room : Room (k + 1) A) (clear : ∀ b ∈ a :: as, Clear g b) (out : a ∉ as) (I : Inv X pins σ H s) (at_ : DL H a od ps) (len : qs.length = ps.length)
    (items : Items2 X k as H ps qs) (small : base + (dictText (kvText qs)).length ≤ sizeLine) (err : ∀ e s', X.xe e s' → R (.error e) s') (q : ∀ H2 s' u, Ex H H2 → Inv X pins σ H2 s' → R (.ok (.ret (.str (dictText (kvText qs)) u))) s') :
    wpOwn (model X.prog X.w) A (.builtin id ⟨.ref a :: rest, []⟩) (Builtin.dictReprAt base ⟨[.ref a], []⟩) (fun fin s' => match fin with | .done f => R (.ok f) s' | .again c' => c'.quiet = true ∧ codeAny (model X.prog X.w) A c' R s') (fun e s' => R (.error e) s') s := by
  obtain ⟨sys, ho, hx, es, ep, hd, hv⟩ := dl_get I at_
  have ty : s.TypeIs (.ref a) "dict" := ⟨od, ho, hx.1⟩
  have ca : Clear g a := clear a (.head _)
  have pl := piled_le_dictText (kvText qs)
  have z0 : (dictText (kvText qs)).length ≤ sizeLine := by omega
  have he : es.size = ps.length := by
    have h1 : ps.length = es.toList.length := paired_len hv
    rw [h1, Array.length_toList]
  have ht : (kvText qs).length = es.size := by
    rw [kvText, List.length_map]
    omega
  unfold Builtin.dictReprAt
  refine wpOwn_bind (wpOwn_of_wpAny ?_)
  unfold Builtin.Dict.dictSlotNone
  refine wpAny_bind (wpAny_notOrdered_dict ty ?_)
  show wpAny _ _ (pure (Value.ref a)) _ _ s
  refine wpAny_pure ?_
  rw [dictReprRunning_eq]
  refine wpOwn_bind (wpOwn_stackTailAny gs (dictGuardF_off _) (dictGuardF_pos _) ?_)
  have no : (g.any fun c => dictGuardF (.ref a) (c, default)) = false := by
    rw [List.any_eq_false]
    intro c hm
    rw [dictGuardF_of_clear ca c hm]
    exact Bool.false_ne_true
  rw [no]
  refine wpOwn_of_wpAny ?_
  have gs2 := G.gs g gs
  have clear2 : ∀ b ∈ as, Clear (.builtin id ⟨.ref a :: rest, []⟩ :: g) b := fun b hb => (clear b (.tail _ hb)).cons (a := a) fun e => out (e ▸ hb)
  show wpAny _ _ (Builtin.Dict.addrOf (.ref a) >>= _) _ _ s
  refine wpAny_bind (wpAny_pure ?_)
  show wpAny _ _ (Builtin.Dict.showsAll a >>= _) _ _ s
  unfold Builtin.Dict.showsAll
  rw [if_neg (by rw [sys]; exact Bool.false_ne_true)]
  refine wpAny_bind (wpAny_pure ?_)
  refine wpAny_bind (wpAny_dictEpoch ho hd ?_)
  refine wpAny_bind (wpAny_dictEntries ho hd ?_)
  refine wpAny_bind ?_
  rw [Std.Legacy.Range.forIn_eq_forIn_range']
  simp only [Std.Legacy.Range.size, Nat.sub_zero, Nat.add_sub_cancel, Nat.div_one]
  refine wpAny_forIn_list _
    (fun left r s' => ∃ (i : Nat) (H' : Hp), left = List.range' i (es.size - i) ∧ i ≤ es.size ∧ r = (⟨((kvText qs).take i).toArray, base + piled ((kvText qs).take i)⟩ : (Array Str × Nat)) ∧ Ex H H' ∧ Inv X pins σ H' s')
    _ ?_ ?_ _ _ ⟨0, H, by simp, Nat.zero_le _, by simp [piled], Ex.refl H, I⟩
  · rintro x left _ s' ⟨i, H', hr, hi, rfl, e1, I1⟩
    have hlt : i < es.size := by
      rcases Nat.lt_or_ge i es.size with h | h
      · exact h
      · rw [Nat.sub_eq_zero_of_le h] at hr; simp at hr
    obtain ⟨rfl, hleft⟩ : x = i ∧ left = List.range' (i + 1) (es.size - (i + 1)) := by
      have e : es.size - i = (es.size - (i + 1)) + 1 := by omega
      rw [e, List.range'_succ] at hr
      injection hr with h1 h2
      exact ⟨h1, h2⟩
    obtain ⟨_, ho1, _, es1, ep1, hd1, hv1⟩ := dl_get I1 (at_.up e1)
    rw [hd] at hd1
    cases hd1
    have hp : ps[x]? = some ps[x] := List.getElem?_eq_getElem (by omega)
    have hq : qs[x]? = some qs[x] := List.getElem?_eq_getElem (by omega)
    obtain ⟨en, hen, rk, rv⟩ := paired_get hv1 hp
    rw [Array.getElem?_toList, Array.getElem?_eq_getElem hlt] at hen
    obtain ⟨it1, it2⟩ := items x _ _ hp hq
    have hkt : (kvText qs)[x]? = some (qs[x].1 ++ ": " ++ qs[x].2) := by
      rw [kvText, List.getElem?_map, hq]; rfl
    have lt : (qs[x].1 ++ ": " ++ qs[x].2).length = qs[x].1.length + 2 + qs[x].2.length := by
      rw [strLen_append, strLen_append]; rfl
    have p1 := piled_take_succ hkt
    have p2 := piled_take_le (kvText qs) (x + 1)
    rw [lt] at p1
    refine wpAny_bind (wpAny_dictEntries ho1 hd ?_)
    rw [Array.getElem?_eq_getElem hlt]
    cases hen
    refine wpAny_bind (wpAny_holding (wpAny_bind (wpAny_mono (it1 _ _ (base + piled ((kvText qs).take x) + 1) pins σ H' s' _ _ gs2 (G.fr.trans fr) (G.room room) clear2 (by omega) e1 I1 rk fun H2 s2 e2 I2 => ?_) (fun _ _ y => y) err)))
    refine wpAny_bind (wpAny_mono (it2 _ _ (base + piled ((kvText qs).take x) + (qs[x].1.length + 3)) pins σ H2 s2 _ _ gs2 (G.fr.trans fr) (G.room room) clear2 (by omega) (e1.trans e2) I2 rv fun H3 s3 e3 I3 => ?_) (fun _ _ y => y) err)
    refine wpAny_pure ?_
    obtain ⟨_, ho3, _⟩ := dl_get I3 (at_.up ((e1.trans e2).trans e3))
    refine wpAny_bind (wpAny_dictEpoch ho3 hd ?_)
    rw [if_neg (by simp)]
    have a1 : ((kvText qs).take x).toArray.push (qs[x].1 ++ ": " ++ qs[x].2) = ((kvText qs).take (x + 1)).toArray := by
      rw [List.take_add_one, hkt]
      simp
    have a2 : base + piled ((kvText qs).take x) + (qs[x].1.length + qs[x].2.length + 4) = base + piled ((kvText qs).take (x + 1)) := by omega
    refine wpAny_pure ⟨x + 1, H3, hleft, hlt, ?_, (e1.trans e2).trans e3, I3⟩
    rw [a1, a2]
  · rintro _ s' ⟨i, H', hr, hi, rfl, e1, I1⟩
    have hin : i = es.size := by
      rcases Nat.lt_or_ge i es.size with h | h
      · have e : es.size - i = (es.size - (i + 1)) + 1 := by omega
        rw [e, List.range'_succ] at hr; exact nomatch hr
      · exact Nat.le_antisymm hi h
    rw [hin, ← ht, List.take_length]
    refine wpAny_bind (wpAny_mkStr (wpAny_pure ?_) (by simpa [dictText] using z0))
    have h1 := q H' _ s'.toks e1 (I1.kept (h' := s'.heap) (t' := s'.toks + 1) fun _ _ e => e)
    simpa [dictText] using h1
/-- the dict as it stands, not locked -/
inductive DU (H : Hp) (a : Addr) : HO → List (V × V) → Prop
  | k {kvs : List (Key × V)} (h : H a = some (.dK kvs)) : DU H a (.dK kvs) (kvs.map fun kv => (kV kv.1, kv.2))
  | o {w : World} {ps : List (V × V)} (h : H a = some (odE w a ps)) : DU H a (odE w a ps) ps
theorem DU.at {u : HO} (h : DU H a u ps) : H a = some u := by cases h <;> assumption
theorem DU.mut {u : HO} (h : DU H a u ps) : Mut (some u) := by cases h <;> exact True.intro
theorem DU.up {H' : Hp} {u : HO} (e : Ex H H') (h : DU H a u ps) : DU H' a u ps := by
  cases h with
  | k h => exact .k (e _ _ h)
  | o h => exact .o (e _ _ h)
theorem DU.dl {u : HO} (h : DU H a u ps) : DL (upd H a (.frz od u)) a od ps := by
  cases h with
  | k h => exact .inl ⟨_, upd_same, rfl⟩
  | o h => exact .inr ⟨_, upd_same⟩
theorem du_ty {u : HO} (I : Inv X pins σ H s) (h : DU H a u ps) : s.TypeIs (.ref a) "dict" := by
  obtain ⟨od, I1⟩ := I.lock h.at h.mut
  obtain ⟨_, ho, hx, _⟩ := dl_get I1 h.dl
  exact ⟨od, ho, hx.1⟩
theorem ex_lock {H H1 : Hp} {u : HO} (e : Ex H H1) : Ex (upd H a (.frz od u)) (upd H1 a (.frz od u)) := fun b o z => by
  by_cases hb : b = a
  · rw [hb] at z ⊢
    rw [upd_same] at z ⊢
    exact z
  · rw [upd_ne hb] at z ⊢
    exact e b o z
theorem ex_unlock {H H2 : Hp} {u : HO} (h : H a = some u) (e : Ex (upd H a (.frz od u)) H2) : Ex H (upd H2 a u) := fun b o z => by
  by_cases hb : b = a
  · rw [hb] at z ⊢
    rw [upd_same, ← z, h]
  · rw [upd_ne hb]
    exact e b o (by rw [upd_ne hb]; exact z)
theorem rep_dict {u : HO} (at_ : DU H a u ps) (len : qs.length = ps.length) (items : ∀ od, Items2 X k as (upd H a (.frz od u)) ps qs) (out : a ∉ as) : RepI X (k + 2) (a :: as) H (.ref a) (dictText (kvText qs)) := by
  intro A g base pins σ H1 s v Q gs fr room clear small e1 I rel q
  cases rel
  have at1 := at_.up e1
  obtain ⟨od, I1⟩ := I.lock at1.at at1.mut
  have ty := du_ty I at1
  refine wpAny_pyReprUnder_ref (by omega) (wpAny_pyReprObjUnder_twin (twin := "dict.__repr__.under") ty F.slot_dict_repr rfl room.units0 ?_)
  refine call_twin_own (F.quiet_dict_repr_under _) F.entry_dict_repr_under F.check_dict_repr_under ty F.slot_dict_repr (F.args_dict_repr_1 _) (rdict_at guarded_dicU gs fr (room.mono (Nat.le_succ _)) clear out I1 at1.dl len (fun i p q h1 h2 => let ⟨z1, z2⟩ := items od i p q h1 h2; ⟨z1.up (ex_lock e1), z2.up (ex_lock e1)⟩) small (fun e s' h => h) fun H2 s2 u2 e2 I2 => ⟨⟨_, _, rfl⟩, _, u2, rfl, ?_⟩)
  exact q _ s2 (ex_unlock at1.at e2) (I2.unlock (e2 _ _ upd_same) (I.nofrz at1.at at1.mut))
theorem repr_dct {u : HO} (gs : A.guards = some []) (fr : A.frames = X.A.frames) (room : Room (k + 2) A) (I : Inv X pins σ H s) (at_ : DU H a u ps) (len : qs.length = ps.length) (items : ∀ od, Items2 X k as (upd H a (.frz od u)) ps qs) (out : a ∉ as) (small : (dictText (kvText qs)).length ≤ sizeLine)
    (q : ∀ H2 s' u, Ex H H2 → Inv X pins σ H2 s' → Q (.str (dictText (kvText qs)) u) s') : wpAny (model X.prog X.w) A (call (.builtin "repr") [.ref a]) Q X.xe s := by
  have ty := du_ty I at_
  obtain ⟨od, I1⟩ := I.lock at_.at at_.mut
  refine call_repr_slot (by have := room.units; omega) ty F.slot_dict_repr ?_
  refine wpAny_call (codeAny_call_builtin_own (Code.quiet_builtin _ (by decide +kernel)) F.entry_dict_repr (F.slot_dict_repr.check _ _ _ _ _ _ _ _ ty (F.args_dict_repr_1 _) (rdict_at (base := 0) (R := callEnd (fun v s' => ∃ x t, v = Value.str x t ∧ Q v s') X.xe) (A := A.in1) guarded_dic gs fr room.in1 (fun b _ => Clear.nil b) out I1 at_.dl len (items od) (by omega) (fun e s' h => h) fun H2 s2 u2 e2 I2 => ⟨_, u2, rfl, ?_⟩)))
  exact q _ s2 u2 (ex_unlock at_.at e2) (I2.unlock (e2 _ _ upd_same) (I.nofrz at_.at at_.mut))
end
end LG
namespace LG
open PySem PySem.Spec PyProof.Rows L2 Evl
/-! ### an instance of an own class as an item -/
section
variable {prog : Program} {w : World} {A : Around} {E : Value → Shared → Prop} {s : Shared} {K : PySem.W.Frag} {x C f L : Addr} {h₀ : Heap} {m : Str → Option Value} {ox : Obj} {od : Option Obj}
theorem own_by {M : Model} {name : Str} {last : Value → List Value → Sem Value} {Q : Option Value → Shared → Prop} (X : K.In s.heap) (J : PySem.W.InstAt s.heap x ox C od) (hs : PySem.W.findIn K (.ref C) name = some (some (.ref f))) (hf : PySem.W.isFn K (.ref f) = true) (want : wpAny M A (last (.ref f) [.ref x]) (fun v => Q (some v)) E s) :
    wpAny M A (callSpecialIfBoundBy? last (.ref x) name) Q E s := by
  simp only [callSpecialIfBoundBy?, bindSpecialIfBound?]
  refine wpAny_holding (wpAny_bind (wpAny_bind (wpAny_bind (J.type.here ((PySem.W.looks_findIn X hs).here ?_)))))
  refine wpAny_bind (wpAny_askSetting (wpAny_ite ?_))
  have done_ : wpAny M A (last (.ref f) [.ref x] >>= fun v => pure (some v)) Q E s := wpAny_bind (wpAny_mono want (fun v s' y => wpAny_pure y) fun _ _ y => y)
  split
  · exact wpAny_bind ((PySem.W.bind_fn X _ (beq_iff_eq.mp hf)).here (wpAny_pure (by exact done_)))
  · exact wpAny_tryCatch (wpAny_bind ((PySem.W.bind_fn X _ (beq_iff_eq.mp hf)).here (wpAny_pure (by exact done_))))
theorem under_own {base : Nat} {Q : Value → Shared → Prop} (units : A.units < cLine) (X : K.In s.heap) (J : PySem.W.InstAt s.heap x ox C od) (hs : PySem.W.findIn K (.ref C) "__repr__" = some (some (.ref f))) (hf : PySem.W.isFn K (.ref f) = true)
    (want : wpAny (model prog w) A (call (.ref f) [.ref x]) (fun v s' => (∃ y u, v = .str y u) ∧ Q v s') E s) : wpAny (model prog w) A (pyReprObjUnder base (.ref x)) Q E s := by
  unfold pyReprObjUnder pyReprObjBy
  refine wpAny_bind (wpAny_cRoomFor units ?_)
  refine wpAny_bind (wpAny_bind (J.type.here ((PySem.W.looks_findIn X hs).here ?_)))
  show wpAny _ _ (if (some (Value.ref f)).isNone = true then _ else _) _ _ _
  rw [if_neg (by simp)]
  refine wpAny_bind (own_by X J hs hf (wpAny_mono want (fun r s' hr => ?_) fun _ _ y => y))
  obtain ⟨⟨y, u, rfl⟩, hr⟩ := hr
  refine wpAny_bind (wpAny_isInstance (typeIs_str _ _ _) isSubtype_str_str ?_)
  first
    | exact wpAny_pure hr
    | (rw [if_pos rfl]; exact wpAny_pure hr)
    | (simp only [if_true]; exact wpAny_pure hr)
end
theorem rep_own {X : Cx} {j : Nat} {as : List Addr} {H : Hp} {a C dx f : Addr} {fs : List (Str × V)} {t : Str} {fd : FuncData} {p1 : Str} {sp : Sp} {CX : CXT} {E : XK} (hs : PySem.W.findIn X.K (.ref C) "__repr__" = some (some (.ref f))) (hf : PySem.W.isFn X.K (.ref f) = true) (F : FnOk X.prog X.w X.K X.mg X.base CX j f fd [p1] sp) (hb : Binds X.K fd [p1] [])
    (hx : Passes CX X E) (at_ : H a = some (.ins C dx fs)) (tells : ∀ H1, Ex H H1 → ∀ Q : VK, (∀ H2, Ex H1 H2 → Q (.str t) H2) → sp [.ref a] H1 Q E) : RepI X j as H (.ref a) t := by
  intro A g base pins σ H1 s u Q gs fr room clear small e1 I rel q
  cases rel
  obtain ⟨mA, O, _, _, _, _⟩ := ins_get I.hok (e1 _ _ at_)
  obtain ⟨odx, J, _⟩ := O.look
  refine wpAny_pyReprUnder_ref (by omega) (under_own room.units0 I.kIn J hs hf ?_)
  refine wpAny_call (codeAny_mono (F.run A X.stack s H1 ⟨[.ref a], []⟩ [.ref a] [.ref a] (fun v H2 => v = .str t ∧ Ex H1 H2) E room { I.env0 with frames := fr.trans I.env0.frames } (hb s [.ref a] I.kIn rfl) (.cons rfl .nil) (tells H1 e1 _ fun H2 e2 => ⟨rfl, e2⟩)) fun res s' hq => ?_)
  match res, hq with
  | .error e, hq => exact hx pins σ H1 s e s' I hq
  | .ok (.ret u), hq =>
    obtain ⟨v, H2, I2, rv, rfl, e2⟩ := I.after hq
    obtain ⟨tk, rfl⟩ := rv
    exact ⟨⟨_, _, rfl⟩, _, tk, rfl, q H2 s' e2 I2⟩
  | .ok .next, hq => exact hq.elim
  | .ok .brk, hq => exact hq.elim
  | .ok .cont, hq => exact hq.elim
/-! ### data with such instances in it: what repr tells -/
section
variable {K : PySem.W.Frag} {W : Hp → V → Str → Prop}
inductive Rz (K : PySem.W.Frag) (W : Hp → V → Str → Prop) : Nat → Hp → V → Str → List Addr → Prop
  | leaf {n : Nat} {H : Hp} {v : V} {t : Str} {bs : List Addr} (h : ∀ (P : Program) (w : World) (u : Value), RelV v u → ReprIs P w u t) : Rz K W n H v t bs
  | own {n : Nat} {H : Hp} {v : V} {t : Str} {bs : List Addr} (h : W H v t) : Rz K W n H v t bs
  | lst {n : Nat} {H : Hp} {a : Addr} {xs : List V} {ts : List Str} {as bs : List Addr} (h : H a = some (.lst xs)) (hl : ts.length = xs.length) (hx : ∀ (i : Nat) (x : V) (t : Str), xs[i]? = some x → ts[i]? = some t → Rz K W n H x t as) (hn : a ∉ as) (hs : ∀ b ∈ a :: as, b ∈ bs) : Rz K W (n + 1) H (.ref a) (listText ts) bs
  | tup {n : Nat} {H : Hp} {a : Addr} {xs : List V} {ts : List Str} {as bs : List Addr} (h : H a = some (.tup xs)) (hl : ts.length = xs.length) (hx : ∀ (i : Nat) (x : V) (t : Str), xs[i]? = some x → ts[i]? = some t → Rz K W n H x t as) (hn : a ∉ as) (hs : ∀ b ∈ a :: as, b ∈ bs) : Rz K W (n + 1) H (.ref a) (tupleText ts) bs
  | dic {n : Nat} {H : Hp} {a : Addr} {u : HO} {ps : List (V × V)} {qs : List (Str × Str)} {as bs : List Addr} (h : DU H a u ps) (hl : qs.length = ps.length) (hk : ∀ (i : Nat) (p : V × V) (q : Str × Str), ps[i]? = some p → qs[i]? = some q → Rz K W n H p.1 q.1 as) (hv : ∀ (i : Nat) (p : V × V) (q : Str × Str), ps[i]? = some p → qs[i]? = some q → Rz K W n H p.2 q.2 as) (hn : a ∉ as) (hs : ∀ b ∈ a :: as, b ∈ bs) : Rz K W (n + 1) H (.ref a) (dictText (kvText qs)) bs
theorem Rz.up (hW : ∀ H H' v t, Ex H H' → W H v t → W H' v t) {n : Nat} {H H' : Hp} {v : V} {t : Str} {bs : List Addr} (e : Ex H H') (h : Rz K W n H v t bs) : Rz K W n H' v t bs := by
  induction h with
  | leaf h => exact .leaf h
  | own h => exact .own (hW _ _ _ _ e h)
  | lst h hl _ hn hs ih => exact .lst (e _ _ h) hl (fun i x t a b => ih i x t a b e) hn hs
  | tup h hl _ hn hs ih => exact .tup (e _ _ h) hl (fun i x t a b => ih i x t a b e) hn hs
  | dic h hl _ _ hn hs ih1 ih2 => exact .dic (h.up e) hl (fun i p q a b => ih1 i p q a b e) (fun i p q a b => ih2 i p q a b e) hn hs
theorem Rz.lk (hL : ∀ H d u ps od v t, DU H d u ps → W H v t → W (upd H d (.frz od u)) v t) {n : Nat} {H : Hp} {d : Addr} {u : HO} {od : Obj} {ps : List (V × V)} {v : V} {t : Str} {bs : List Addr} (hd : DU H d u ps) (h : Rz K W n H v t bs) (out : d ∉ bs) : Rz K W n (upd H d (.frz od u)) v t bs := by
  induction h with
  | leaf h => exact .leaf h
  | own h => exact .own (hL _ _ _ _ _ _ _ hd h)
  | @lst n H a xs ts as bs h hl _ hn hs ih =>
    have ne : a ≠ d := fun z => out (z ▸ hs a (.head _))
    exact .lst (by rw [upd_ne ne]; exact h) hl (fun i x t a b => ih i x t a b hd fun z => out (hs d (.tail _ z))) hn hs
  | @tup n H a xs ts as bs h hl _ hn hs ih =>
    have ne : a ≠ d := fun z => out (z ▸ hs a (.head _))
    exact .tup (by rw [upd_ne ne]; exact h) hl (fun i x t a b => ih i x t a b hd fun z => out (hs d (.tail _ z))) hn hs
  | @dic n H a u2 ps2 qs as bs h hl _ _ hn hs ih1 ih2 =>
    have ne : a ≠ d := fun z => out (z ▸ hs a (.head _))
    refine .dic (u := u2) (ps := ps2) ?_ hl (fun i p q a b => ih1 i p q a b hd fun z => out (hs d (.tail _ z))) (fun i p q a b => ih2 i p q a b hd fun z => out (hs d (.tail _ z))) hn hs
    cases h with
    | k h => exact .k (by rw [upd_ne ne]; exact h)
    | o h => exact .o (by rw [upd_ne ne]; exact h)
theorem RepI.more {X : Cx} {k : Nat} {as bs : List Addr} {H : Hp} {x : V} {t : Str} (h : RepI X k as H x t) (hs : ∀ b ∈ as, b ∈ bs) : RepI X k bs H x t := fun A g base pins σ H1 s u Q hg hf hr hc hz e1 I r q => h A g base pins σ H1 s u Q hg hf hr (fun b hb => hc b (hs b hb)) hz e1 I r q
theorem rz_rep {X : Cx} {k0 : Nat} (hL : ∀ H d u ps od v t, DU H d u ps → W H v t → W (upd H d (.frz od u)) v t) (hO : ∀ H v t, W H v t → RepI X k0 [] H v t) : ∀ (n : Nat) (H : Hp) (v : V) (t : Str) (bs : List Addr), Rz X.K W n H v t bs → RepI X (k0 + 2 * n) bs H v t := by
  intro n
  induction n with
  | zero =>
    intro H v t bs h
    cases h with
    | leaf h => exact RepI.of_is fun u r => h _ _ u r
    | own h => exact ((hO _ _ _ h).mono (by omega)).more fun b hb => absurd hb List.not_mem_nil
  | succ n ih =>
    intro H v t bs h
    cases h with
    | leaf h => exact RepI.of_is fun u r => h _ _ u r
    | own h => exact ((hO _ _ _ h).mono (by omega)).more fun b hb => absurd hb List.not_mem_nil
    | lst h hl hx hn hs => exact (rep_list h hl (fun i x t a b => ih _ _ _ _ (hx i x t a b)) hn).more hs
    | tup h hl hx hn hs => exact (rep_tup (.inl (.inl h)) hl (fun i x t a b => ih _ _ _ _ (hx i x t a b)) hn).more hs
    | dic h hl hk hv hn hs => exact (rep_dict h hl (fun od i p q a b => ⟨ih _ _ _ _ ((hk i p q a b).lk hL h hn), ih _ _ _ _ ((hv i p q a b).lk hL h hn)⟩) hn).more hs
/-- the same, a list, a tuple or a dict -/
inductive RzT (K : PySem.W.Frag) (W : Hp → V → Str → Prop) (n : Nat) (H : Hp) : V → Str → Prop
  | lst {a : Addr} {xs : List V} {ts : List Str} {as : List Addr} (h : H a = some (.lst xs)) (hl : ts.length = xs.length) (hx : ∀ (i : Nat) (x : V) (t : Str), xs[i]? = some x → ts[i]? = some t → Rz K W n H x t as) (hn : a ∉ as) : RzT K W n H (.ref a) (listText ts)
  | tup {a : Addr} {xs : List V} {ts : List Str} {as : List Addr} (h : H a = some (.tup xs)) (hl : ts.length = xs.length) (hx : ∀ (i : Nat) (x : V) (t : Str), xs[i]? = some x → ts[i]? = some t → Rz K W n H x t as) (hn : a ∉ as) : RzT K W n H (.ref a) (tupleText ts)
  | dic {a : Addr} {u : HO} {ps : List (V × V)} {qs : List (Str × Str)} {as : List Addr} (h : DU H a u ps) (hl : qs.length = ps.length) (hk : ∀ (i : Nat) (p : V × V) (q : Str × Str), ps[i]? = some p → qs[i]? = some q → Rz K W n H p.1 q.1 as) (hv : ∀ (i : Nat) (p : V × V) (q : Str × Str), ps[i]? = some p → qs[i]? = some q → Rz K W n H p.2 q.2 as) (hn : a ∉ as) : RzT K W n H (.ref a) (dictText (kvText qs))
theorem RzT.up (hW : ∀ H H' v t, Ex H H' → W H v t → W H' v t) {n : Nat} {H H' : Hp} {v : V} {t : Str} (e : Ex H H') (h : RzT K W n H v t) : RzT K W n H' v t := by
  cases h with
  | lst h hl hx hn => exact .lst (e _ _ h) hl (fun i x t a b => (hx i x t a b).up hW e) hn
  | tup h hl hx hn => exact .tup (e _ _ h) hl (fun i x t a b => (hx i x t a b).up hW e) hn
  | dic h hl hk hv hn => exact .dic (h.up e) hl (fun i p q a b => (hk i p q a b).up hW e) (fun i p q a b => (hv i p q a b).up hW e) hn
def rReprX (K : PySem.W.Frag) (W : Hp → V → Str → Prop) (n : Nat) : List V → Hp → VK → Prop := fun xs H Q => ∃ v t, xs = [v] ∧ RzT K W n H v t ∧ t.length ≤ sizeLine ∧ ∀ H', Ex H H' → Q (.str t) H'
theorem call_reprX {X : Cx} {K : PySem.W.Frag} {k0 n : Nat} (hK : X.K = K) (hL : ∀ H d u ps od v t, DU H d u ps → W H v t → W (upd H d (.frz od u)) v t) (hO : ∀ H v t, W H v t → RepI X k0 [] H v t) (gs : X.A.guards = some []) (room : Room (k0 + 2 * n + 2) X.A) : CallR X (.builtin "repr") (rReprX K W n) := by
  subst hK
  intro pins s σ H xs us Q I r h
  obtain ⟨v, t, rfl, hv, hz, q⟩ := h
  obtain ⟨u, rfl, ru⟩ := vals1 r
  have fin : ∀ H2 s' tk, Ex H H2 → Inv X pins σ H2 s' → EP X pins σ Q (.str t tk) s' := fun H2 s' tk e I2 => ⟨.str t, H2, I2, ⟨tk, rfl⟩, q H2 e⟩
  have rr := rz_rep (X := X) (k0 := k0) hL hO
  cases hv with
  | lst h hl hx hn =>
    cases ru
    exact repr_lst gs rfl room I h hl (fun i x t a b => rr _ _ _ _ _ (hx i x t a b)) hn hz fin
  | tup h hl hx hn =>
    cases ru
    exact repr_tup gs rfl room I (.inl (.inl h)) hl (fun i x t a b => rr _ _ _ _ _ (hx i x t a b)) hn hz fin
  | dic h hl hk hv hn =>
    cases ru
    exact repr_dct gs rfl room I h hl (fun od i p q a b => ⟨rr _ _ _ _ _ ((hk i p q a b).lk hL h hn), rr _ _ _ _ _ ((hv i p q a b).lk hL h hn)⟩) hn hz fin
theorem lf_non {n : Nat} {H : Hp} {bs : List Addr} : Rz K W n H .non "None" bs := .leaf fun P w u r => by cases (show u = Value.none from r); exact ReprIs.none
theorem lf_bl {n : Nat} {H : Hp} {bs : List Addr} {b : Bool} : Rz K W n H (.bl b) (if b then "True" else "False") bs := .leaf fun P w u r => by cases (show u = Value.bool b from r); exact ReprIs.bool b
theorem lf_int {n : Nat} {H : Hp} {bs : List Addr} {i : Int} (h : i.natAbs.log2 < 1920) : Rz K W n H (.int i) (toString i) bs := .leaf fun P w u r => by obtain ⟨t, rfl⟩ := r; exact ReprIs.int t h
theorem lf_str {n : Nat} {H : Hp} {bs : List Addr} {x : Str} (h : (reprText x).length ≤ sizeLine) : Rz K W n H (.str x) (reprText x) bs := .leaf fun P w u r => by obtain ⟨t, rfl⟩ := r; exact ReprIs.str x t h
end
end LG
/-! How long the texts are that repr makes. -/
namespace LG
open PySem PySem.Spec PyProof.Rows L2 Evl
theorem join_len (ts : List Str) : (Str.join ", " ts).length ≤ piled ts := by
  by_cases h : ts = []
  · subst h
    exact Nat.zero_le _
  · have := join_length_add ts h
    omega
theorem listText_len (ts : List Str) : (listText ts).length ≤ piled ts + 2 := by
  rw [listText_eq_join, PySem.Str.length_append, PySem.Str.length_append]
  have h1 : ("[" : Str).length = 1 := by decide
  have h2 : ("]" : Str).length = 1 := by decide
  have := join_len ts
  omega
theorem tupleText_len (ts : List Str) : (tupleText ts).length ≤ piled ts + 3 := by
  unfold tupleText
  rw [PySem.Str.length_append, PySem.Str.length_append]
  have h1 : ("(" : Str).length = 1 := by decide
  have h2 : (Str.ofString (if (ts.length == 1) = true then ",)" else ")" : String)).length ≤ 2 := by
    split <;> decide
  have := join_len ts
  omega
theorem dictText_len (ts : List Str) : (dictText ts).length ≤ piled ts + 2 := by
  unfold dictText
  rw [PySem.Str.length_append, PySem.Str.length_append]
  have h1 : ("{" : Str).length = 1 := by decide
  have h2 : ("}" : Str).length = 1 := by decide
  have := join_len ts
  omega
theorem piled_le {ts : List Str} {M : Nat} (h : ∀ t ∈ ts, t.length ≤ M) : piled ts ≤ ts.length * (M + 2) := by
  induction ts with
  | nil => exact Nat.zero_le _
  | cons t ts ih =>
    rw [piled_cons, List.length_cons, Nat.succ_mul]
    have h1 := h t (.head _)
    have h2 := ih fun u hu => h u (.tail _ hu)
    omega
theorem kvText_len {qs : List (Str × Str)} {M N : Nat} (h : ∀ q ∈ qs, q.1.length ≤ M ∧ q.2.length ≤ N) : ∀ t ∈ kvText qs, t.length ≤ M + N + 2 := fun t ht => by
  obtain ⟨q, hq, rfl⟩ := List.mem_map.mp ht
  obtain ⟨h1, h2⟩ := h q hq
  rw [PySem.Str.length_append, PySem.Str.length_append]
  have : (": " : Str).length = 2 := by decide
  omega
/-- text of data with own things in it, how long, and where its parts stand -/
structure RzB (K : PySem.W.Frag) (W : Hp → V → Str → Prop) (n : Nat) (H : Hp) (v : V) (t : Str) (L : Nat) : Prop where
  ex : ∃ as, Rz K W n H v t as ∧ ∀ b ∈ as, H b ≠ none
  len : t.length ≤ L
section
variable {K : PySem.W.Frag} {W : Hp → V → Str → Prop} {n L : Nat} {H : Hp}
theorem RzB.up (hW : ∀ H H' v t, Ex H H' → W H v t → W H' v t) {H' : Hp} {v : V} {t : Str} (e : Ex H H') (h : RzB K W n H v t L) : RzB K W n H' v t L :=
  ⟨let ⟨as, h1, h2⟩ := h.ex; ⟨as, h1.up hW e, fun b hb z => h2 b hb (fresh_back e z)⟩, h.len⟩
theorem RzB.mono {M : Nat} {v : V} {t : Str} (hl : L ≤ M) (h : RzB K W n H v t L) : RzB K W n H v t M := ⟨h.ex, Nat.le_trans h.len hl⟩
/-- many texts at once -/
theorem rz_many : ∀ {xs : List V} {ts : List Str}, xs.length = ts.length → (∀ (i : Nat) (x : V) (t : Str), xs[i]? = some x → ts[i]? = some t → ∃ as, Rz K W n H x t as ∧ ∀ b ∈ as, H b ≠ none) → ∃ as : List Addr, (∀ b ∈ as, H b ≠ none) ∧ ∀ (i : Nat) (x : V) (t : Str), xs[i]? = some x → ts[i]? = some t → ∃ bs, (∀ b ∈ bs, b ∈ as) ∧ Rz K W n H x t bs
  | [], _, _, _ => ⟨[], fun b h => absurd h List.not_mem_nil, fun i x t h => by simp at h⟩
  | _ :: _, [], h, _ => by cases h
  | x :: xs, t :: ts, h, k => by
    obtain ⟨as, h1, h2⟩ := k 0 x t rfl rfl
    obtain ⟨bs, g1, g2⟩ := rz_many (xs := xs) (ts := ts) (Nat.succ.inj h) fun i y u e1 e2 => k (i + 1) y u e1 e2
    refine ⟨as ++ bs, fun b hb => (List.mem_append.mp hb).elim (h2 b) (g1 b), fun i y u e1 e2 => ?_⟩
    cases i with
    | zero =>
      cases e1
      cases e2
      exact ⟨as, fun b hb => List.mem_append_left _ hb, h1⟩
    | succ i =>
      obtain ⟨cs, c1, c2⟩ := g2 i y u e1 e2
      exact ⟨cs, fun b hb => List.mem_append_right _ (c1 b hb), c2⟩
theorem Rz.more {n : Nat} {H : Hp} {v : V} {t : Str} {as bs : List Addr} (h : Rz K W n H v t as) (hs : ∀ b ∈ as, b ∈ bs) : Rz K W n H v t bs := by
  cases h with
  | leaf h => exact .leaf h
  | own h => exact .own h
  | lst h hl hx hn hss => exact .lst h hl hx hn fun b hb => hs b (hss b hb)
  | tup h hl hx hn hss => exact .tup h hl hx hn fun b hb => hs b (hss b hb)
  | dic h hl hk hv hn hss => exact .dic h hl hk hv hn fun b hb => hs b (hss b hb)
theorem rzb_lst (hW : ∀ H H' v t, Ex H H' → W H v t → W H' v t) {H0 : Hp} {l : Addr} {xs : List V} {ts : List Str} (hn : H0 l = none) (e : Ex H0 H) (h : H l = some (.lst xs)) (hl : xs.length = ts.length) (hx : ∀ (i : Nat) (x : V) (t : Str), xs[i]? = some x → ts[i]? = some t → RzB K W n H0 x t L) : RzB K W (n + 1) H (.ref l) (listText ts) (xs.length * (L + 2) + 2) := by
  obtain ⟨as, h1, h2⟩ := rz_many hl fun i x t a b => (hx i x t a b).ex
  refine ⟨⟨l :: as, .lst h hl.symm (as := as) (fun i x t a b => let ⟨bs, z1, z2⟩ := h2 i x t a b; (z2.more z1).up hW e) (fun z => h1 l z hn) fun b hb => hb, fun b hb => ?_⟩, ?_⟩
  · rcases List.mem_cons.mp hb with rfl | hb
    · rw [h]
      exact fun z => by cases z
    · exact fun z => h1 b hb (fresh_back e z)
  · refine Nat.le_trans (listText_len ts) ?_
    have := piled_le (ts := ts) (M := L) fun t ht => by
      obtain ⟨i, hi⟩ := List.getElem?_of_mem ht
      have hi2 : i < xs.length := hl ▸ (List.getElem?_eq_some_iff.mp hi).1
      exact (hx i _ t (List.getElem?_eq_getElem hi2) hi).len
    rw [← hl] at this
    omega
theorem rzb_tup (hW : ∀ H H' v t, Ex H H' → W H v t → W H' v t) {H0 : Hp} {l : Addr} {xs : List V} {ts : List Str} (hn : H0 l = none) (e : Ex H0 H) (h : H l = some (.tup xs)) (hl : xs.length = ts.length) (hx : ∀ (i : Nat) (x : V) (t : Str), xs[i]? = some x → ts[i]? = some t → RzB K W n H0 x t L) : RzB K W (n + 1) H (.ref l) (tupleText ts) (xs.length * (L + 2) + 3) := by
  obtain ⟨as, h1, h2⟩ := rz_many hl fun i x t a b => (hx i x t a b).ex
  refine ⟨⟨l :: as, .tup h hl.symm (as := as) (fun i x t a b => let ⟨bs, z1, z2⟩ := h2 i x t a b; (z2.more z1).up hW e) (fun z => h1 l z hn) fun b hb => hb, fun b hb => ?_⟩, ?_⟩
  · rcases List.mem_cons.mp hb with rfl | hb
    · rw [h]
      exact fun z => by cases z
    · exact fun z => h1 b hb (fresh_back e z)
  · refine Nat.le_trans (tupleText_len ts) ?_
    have := piled_le (ts := ts) (M := L) fun t ht => by
      obtain ⟨i, hi⟩ := List.getElem?_of_mem ht
      have hi2 : i < xs.length := hl ▸ (List.getElem?_eq_some_iff.mp hi).1
      exact (hx i _ t (List.getElem?_eq_getElem hi2) hi).len
    rw [← hl] at this
    omega
theorem rzb_dic (hW : ∀ H H' v t, Ex H H' → W H v t → W H' v t) {H0 : Hp} {l : Addr} {u : HO} {ps : List (V × V)} {qs : List (Str × Str)} (hn : H0 l = none) (e : Ex H0 H) (h : DU H l u ps) (hl : ps.length = qs.length) (hx : ∀ (i : Nat) (p : V × V) (q : Str × Str), ps[i]? = some p → qs[i]? = some q → RzB K W n H0 p.1 q.1 L ∧ RzB K W n H0 p.2 q.2 L) : RzB K W (n + 1) H (.ref l) (dictText (kvText qs)) (ps.length * (2 * L + 4) + 2) := by
  obtain ⟨as, h1, h2⟩ := rz_many (xs := ps.map (·.1)) (ts := qs.map (·.1)) (by rw [List.length_map, List.length_map, hl]) fun i x t a b => by
    rw [List.getElem?_map] at a b
    obtain ⟨p, hp, rfl⟩ := Option.map_eq_some_iff.mp a
    obtain ⟨q, hq, rfl⟩ := Option.map_eq_some_iff.mp b
    exact (hx i p q hp hq).1.ex
  obtain ⟨bs, g1, g2⟩ := rz_many (xs := ps.map (·.2)) (ts := qs.map (·.2)) (by rw [List.length_map, List.length_map, hl]) fun i x t a b => by
    rw [List.getElem?_map] at a b
    obtain ⟨p, hp, rfl⟩ := Option.map_eq_some_iff.mp a
    obtain ⟨q, hq, rfl⟩ := Option.map_eq_some_iff.mp b
    exact (hx i p q hp hq).2.ex
  have hab : ∀ b ∈ as ++ bs, H0 b ≠ none := fun b hb => (List.mem_append.mp hb).elim (h1 b) (g1 b)
  refine ⟨⟨l :: (as ++ bs), .dic h hl.symm (as := as ++ bs) (fun i p q a b => ?_) (fun i p q a b => ?_) (fun z => hab l z hn) fun b hb => hb, fun b hb => ?_⟩, ?_⟩
  · obtain ⟨cs, c1, c2⟩ := h2 i p.1 q.1 (by rw [List.getElem?_map, a]; rfl) (by rw [List.getElem?_map, b]; rfl)
    exact (c2.more fun x hx => List.mem_append_left _ (c1 x hx)).up hW e
  · obtain ⟨cs, c1, c2⟩ := g2 i p.2 q.2 (by rw [List.getElem?_map, a]; rfl) (by rw [List.getElem?_map, b]; rfl)
    exact (c2.more fun x hx => List.mem_append_right _ (c1 x hx)).up hW e
  · rcases List.mem_cons.mp hb with rfl | hb
    · rw [h.at]
      exact fun z => by cases z
    · exact fun z => hab b hb (fresh_back e z)
  · refine Nat.le_trans (dictText_len (kvText qs)) ?_
    have := piled_le (ts := kvText qs) (M := L + L + 2) (kvText_len fun q hq => by
      obtain ⟨i, hi⟩ := List.getElem?_of_mem hq
      have hi2 : i < ps.length := hl ▸ (List.getElem?_eq_some_iff.mp hi).1
      exact ⟨(hx i _ q (List.getElem?_eq_getElem hi2) hi).1.len, (hx i _ q (List.getElem?_eq_getElem hi2) hi).2.len⟩)
    have hk : (kvText qs).length = ps.length := by
      unfold kvText
      rw [List.length_map, hl]
    rw [hk] at this
    have e1 : ps.length * (L + L + 2 + 2) = ps.length * (2 * L + 4) := by congr 1; omega
    omega
theorem rzb_leaf {v : V} {t : Str} (h : ∀ bs, Rz K W n H v t bs) (hl : t.length ≤ L) : RzB K W n H v t L := ⟨⟨[], h [], fun b z => absurd z List.not_mem_nil⟩, hl⟩
theorem rzb_own {v : V} {t : Str} (h : W H v t) (hl : t.length ≤ L) : RzB K W n H v t L := ⟨⟨[], .own h, fun b z => absurd z List.not_mem_nil⟩, hl⟩
end
end LG
/-! A set comprehension, whatever its members are. -/
namespace LG
open PySem PySem.Spec PyProof.Rows L2
section
/-- {elt for target in iter if ..} -/
def tScG (init : Addr → HO) (addR : Addr → V → Hp → (Hp → Prop) → Prop) (wi : TI) (g : TG) (tt : TT) (te : TE) (vs : List Nat) : TE := fun σ H Q => wi σ H fun J H1 => ∀ D, H1 D = none → ∃ W : Nat → Nat → Hp → Prop, (∃ m, W 0 m (upd H1 D (init D))) ∧ ∀ i m H, W i m H →
  (J.stop i H ∧ Q (.ref D) H) ∨ (J.go i H ∧ ∃ Nx : Hp → Prop, (∀ H', Nx H' → ∃ m', m' < m ∧ W (i + 1) m' H') ∧ ∀ x H', J.yld i H x H' → g x (wipe σ vs) H' fun σ2 H2 => wipe σ2 vs = wipe σ vs ∧ tt σ2 H2 fun b H3 =>
    if b = true then te σ2 H3 fun y H4 => addR D y H4 Nx else Nx H3)
variable {X : Cx}
theorem pe_scG {init : Addr → HO} {addR : Addr → V → Hp → (Hp → Prop) → Prop} {elt tg iter : Expr} {ifs : List Expr} {scope : Scope} {own : List (PySem.Str × Nat)} {pos : Pos} {wi : TI} {g : TG} {tt : TT} {te : TE} (hfresh : ∀ {H : Hp} {h : Heap} {a : Addr}, h.get? a = some (oSet X.w) → ObjOk X.prog X.w H h a (init a))
    (hadd : ∀ {s0 : Shared} {H0 : Hp} {ce : Env} {fp : List Addr} {pins : List (Addr × Obj)} {σ : L2.St} {H : Hp} {s : Shared} {E : Value → Shared → Prop} {D : Addr} {y : V} {u : Value} {Q : Value → Shared → Prop} {Nx : Hp → Prop}, Inv (X.blk s0 H0 scope ce fp) pins σ H s → L2.RelV y u → addR D y H Nx → (∀ H' s', Nx H' → Inv (X.blk s0 H0 scope ce fp) pins σ H' s' → Q .none s') → wpAny (model X.prog X.w) X.A (call (.builtin "set.add") [.ref D, u]) Q E s)
    (hc : X.calm = true) (hN : X.N.Nodup) (hi : PI X tg iter wi) (ok : BlkOk X.N X.env.scope scope own)
    (hg : ∀ (s : Shared) (H : Hp) (C : Addr) (cl : List (PySem.Str × Addr)) (fp : List Addr), PG (X.blk s H scope (compEnvC scope cl C X.env) fp) tg g)
    (ht : ∀ (s : Shared) (H : Hp) (C : Addr) (cl : List (PySem.Str × Addr)) (fp : List Addr), PTs (X.blk s H scope (compEnvC scope cl C X.env) fp) ifs tt)
    (he : ∀ (s : Shared) (H : Hp) (C : Addr) (cl : List (PySem.Str × Addr)) (fp : List Addr), PE (X.blk s H scope (compEnvC scope cl C X.env) fp) elt te)
    (hs : ∀ x, foldedSetIterable iter X.env x = pure x := by intro _; rfl) :
    PE X (.SetComp elt [⟨tg, iter, ifs, 0⟩] scope pos) (tScG init addR wi g tt te (own.map (·.2))) := by
  constructor
  intro pins s σ H Q I h
  rw [PpSet.eval_SetComp]
  have hfree : ∀ y ∈ scope.names, y.2 = .free → ∃ c, X.env.cells.lookup y.1 = some c := fun y hy e => (ok.free y hy e).elim (fun z => I.ok.has _ (.inl z)) fun z => I.ok.has _ (.inr z)
  refine wpAny_comprehension_free rfl hs (closure_ok hfree) ok.kind (fun y hy e => by rw [ok.uniq y hy, e]) (thn (hi.run pins s σ H _ I h) fun xv s1 hx => thn hx fun itv s2 h2 => ?_)
  obtain ⟨it, fp, tn, J, H2, e, I2, T, st2, f2, q⟩ := h2
  subst e
  refine PpSet.newSet_ok (newEnv_comp ?_)
  have szD : H2 s2.heap.objs.size = none := I2.hok.fresh (Nat.le_refl _)
  generalize hD : s2.heap.objs.size = D at szD
  obtain ⟨W, ⟨m0, w0⟩, turn⟩ := q D szD
  generalize hO : init D = o0 at w0
  generalize hs3 : ({ s2 with heap := s2.heap.push (oSet X.w) } : Shared) = s3
  have h3 : s3.heap = s2.heap.push (oSet X.w) := by
    rw [← hs3]
  have I3 : Inv X pins σ (upd H2 D o0) s3 := by
    rw [← hs3, ← hO]
    refine I2.laid (t' := s2.toks) (fun b o e => Heap.get?_push_of_some _ e) (Nat.le_of_eq hD) (hfresh ?_)
    rw [← hD]
    exact oSet_in
  have sz : ∀ b ∈ fp, b < s2.heap.objs.size := fun b hb => by
    obtain ⟨o, e, _⟩ := T.obj _ _ st2 b hb
    exact Heap.lt_size e
  have f3 : ∀ b ∈ fp, FpOk X pins (upd H2 D o0) b ∧ b < s3.heap.objs.size := fun b hb => by
    have hlt := sz b hb
    refine ⟨⟨?_, (f2 b hb).2⟩, ?_⟩
    · rw [upd_ne (by rw [← hD]; exact Nat.ne_of_lt hlt)]
      exact (f2 b hb).1
    · rw [h3, Heap.size_push]
      exact Nat.lt_succ_of_lt hlt
  have st3 : tn 0 s3.heap := T.keep _ _ _ st2 fun b _ o e => by
    rw [h3]
    exact Heap.get?_push_of_some _ e
  have I4 := block_start I3 ok hN f3
  have pg := hg s3 (upd H2 D o0) s3.heap.objs.size (cellsFrom (s3.heap.objs.size + 1) scope.names (cloFrom X.env.cells scope.names [])) fp
  have pt := ht s3 (upd H2 D o0) s3.heap.objs.size (cellsFrom (s3.heap.objs.size + 1) scope.names (cloFrom X.env.cells scope.names [])) fp
  have pe := he s3 (upd H2 D o0) s3.heap.objs.size (cellsFrom (s3.heap.objs.size + 1) scope.names (cloFrom X.env.cells scope.names [])) fp
  show codeAny _ _ (.compStart (.SetComp elt [⟨tg, iter, ifs, 0⟩] scope pos) 0 (.ref it) (.ref D) (compEnvC scope (cellsFrom (s3.heap.objs.size + 1) scope.names (cloFrom X.env.cells scope.names [])) s3.heap.objs.size X.env)) _ { s3 with heap := pushCells (s3.heap.push { cls := .type "dict", data := .dict #[] }) scope.names }
  generalize hce : compEnvC scope (cellsFrom (s3.heap.objs.size + 1) scope.names (cloFrom X.env.cells scope.names [])) s3.heap.objs.size X.env = ce at I4 pg pt pe ⊢
  have cL : ce.locals = s3.heap.objs.size := by
    subst hce
    rfl
  have nfp : ∀ b ∈ fp, (upd H2 D o0) b = none := fun b hb => (f3 b hb).1.1
  generalize hH3 : upd H2 D o0 = H3 at I3 I4 pg pt pe w0 nfp f3
  generalize hs4 : ({ s3 with heap := pushCells (s3.heap.push { cls := .type "dict", data := .dict #[] }) scope.names } : Shared) = s4 at I4 ⊢
  have st4 : tn 0 s4.heap := T.keep _ _ _ st3 fun b _ o e => by
    rw [← hs4]
    exact pushCells_keeps _ _ _ _ (Heap.get?_push_of_some _ e)
  have stat : ∀ {σ' : L2.St} {H' : Hp} {s' : Shared}, Inv (X.blk s3 H3 scope ce fp) [] σ' H' s' → (∀ b ∈ fp, H' b = none) → ∀ b ∈ fp, FpOk (X.blk s3 H3 scope ce fp) [] H' b := fun I' hn b hb =>
    ⟨hn b hb, (I'.ok.exf b hb).1, I'.ok.exfs b hb, .inl hb, fun x c e => (I'.ok.exf b hb).2 x c e, fun p hp => absurd (show p ∈ ([] : List (Addr × Obj)) ++ [] from hp) (by simp)⟩
  refine (fun loop => PpSet.codeAny_compStart_set loop (T.self X.A 0 _ _ _ st4 loop)) ?_
  refine PpSet.compLoopS_any (fun n s' => ∃ i H', Inv (X.blk s3 H3 scope ce fp) [] (wipe σ (own.map (·.2))) H' s' ∧ tn i s'.heap ∧ (∀ b ∈ fp, H' b = none) ∧ W i n H') ?_ m0 ⟨0, H3, I4, st4, nfp, w0⟩
  rintro n s5 ⟨i, H5, I5, st5, n5, w5⟩
  rcases turn i n H5 w5 with ⟨stop, qq⟩ | ⟨go, Nx, hNx, step⟩
  · refine thnF (T.done (X.blk s3 H3 scope ce fp) rfl rfl rfl hc i [] s5 _ H5 (fun _ _ => False) I5 (stat I5 n5) st5 stop) fun r s6 ⟨hr, I6⟩ => ?_
    subst hr
    have I7 : Inv X pins σ H5 s6 := I3.call' (ch := fp) I6.os I6.base I6.hok I6.bare fun b hb => ⟨(f3 b hb).1.2.2.2.1, (f3 b hb).1.2.1, (f3 b hb).1.2.2.2.2.1, (f3 b hb).1.2.2.2.2.2⟩
    have nC : H5 s3.heap.objs.size = none := by
      rw [← cL]
      exact I6.free
    obtain ⟨m, hn, _⟩ := I6.loc
    have hn' : s6.heap.Ns s3.heap.objs.size m := by
      rw [← cL]
      exact hn
    obtain ⟨f0, f1, _, f3', f4, f5⟩ := I3.fpOk (Nat.le_refl _) nC
    refine ⟨m, hn', fun h'' sb => ?_⟩
    exact ⟨.ref D, H5, I7.turned (t' := s6.toks) (fun b o hb e => (sb.2 b hb).trans e) f0 f1 f3' f4 f5, rfl, qq⟩
  · refine thnF (T.item (X.blk s3 H3 scope ce fp) rfl rfl rfl hc i [] s5 _ H5 (fun _ _ => False) I5 (stat I5 n5) st5 go) fun r s6 ⟨u, hr, h6⟩ => ?_
    subst hr
    refine thnF h6 fun _ s7 ⟨x, H7, I7, r7, y7, st7, n7⟩ => ?_
    have I7' := I7.pinned (stat I7 n7) (T.obj _ _ st7)
    refine thnF (pg.run _ s7 _ H7 x u _ I7' r7 (step x H7 y7)) fun _ s8 ⟨σ8, H8, I8, hw8, q8⟩ => ?_
    refine thnF (pt.run _ s8 σ8 H8 _ I8 q8) fun b s9 ⟨H9, I9, q9⟩ => ?_
    have fin : ∀ {s' : Shared} {H' : Hp}, Inv (X.blk s3 H3 scope ce fp) ([] ++ pinsAt fp s7.heap) σ8 H' s' → Nx H' → ∃ m, m < n ∧ ∃ i H', Inv (X.blk s3 H3 scope ce fp) [] (wipe σ (own.map (·.2))) H' s' ∧ tn i s'.heap ∧ (∀ b ∈ fp, H' b = none) ∧ W i m H' := by
      intro s' H' I' nx
      obtain ⟨m', hm, w'⟩ := hNx H' nx
      have pin' : ∀ b ∈ fp, ∀ o, s7.heap.get? b = some o → s'.heap.get? b = some o ∧ H' b = none := fun b hb o e =>
        let z := I'.pin (b, o) (List.mem_append_right _ (List.mem_append_right _ (mem_pinsAt hb e)))
        ⟨z.1, z.2.1⟩
      have hl : (wipe σ (own.map (·.2))).length = σ8.length := by
        rw [← hw8, wipe_length]
      refine ⟨m', hm, i + 1, H', (I'.unpinned (pins := [])).weak hl (fun j v e => ?_), T.keep _ _ _ st7 fun b hb o e => (pin' b hb o e).1, fun b hb => ?_, w'⟩
      · rw [← hw8] at e
        exact (wipe_some e).1
      · obtain ⟨o, e, _⟩ := T.obj _ _ st7 b hb
        exact (pin' b hb o e).2
    cases b with
    | false =>
      simp only [Bool.false_eq_true, if_false] at q9 ⊢
      exact fin I9 q9
    | true =>
      simp only [if_true] at q9 ⊢
      refine thnF (pe.run _ s9 σ8 H9 _ I9 q9) fun z s10 ⟨yv, H10, I10, r10, nx⟩ => ?_
      exact hadd I10 r10 nx fun H11 s11 n11 I11 => fin I11 n11
end
end LG
/-! Sets of tuples of texts (and ints): over the layer. -/
namespace TB
open PySem PySem.Spec PyProof.Rows L2 LG Evl
section
variable {P : Program} {w : World} {A : Around} {E : Value → Shared → Prop} {s : Shared}
abbrev KT (P : Program) (w : World) : HeapKind P w (List Key) := tupleKind (mixKind P w)
theorem items_key {k : List Key} {vs : List Value} (h : ItemsAre (mixKind P w) k vs) : ∀ v ∈ vs, (∃ i t, v = Value.int i t) ∨ ∃ x t, v = Value.str x t := by
  induction h with
  | nil => intro v hv; cases hv
  | @cons k0 v' ks vs h1 _ ih =>
    intro v hv
    rcases List.mem_cons.mp hv with e | hv
    · rcases keyIs_shape (show keyIs k0 v' = true from h1) with ⟨i, u, _, e1⟩ | ⟨y, u, _, e1⟩
      · exact .inl ⟨i, u, e.trans e1⟩
      · exact .inr ⟨y, u, e.trans e1⟩
    · exact ih v hv
theorem kt_cls {k : List Key} {b : Addr} {Q : Bool → Shared → Prop} (hk : (KT P w).is s.heap k b) (q : Q false s) : wpAny (model P w) A (ofAClassStatement 8 (.ref b)) Q E s := by
  have hT : s.TypeIs (.ref b) "tuple" := IsTupleKey.typeIs hk
  obtain ⟨o, items, n, ho, _, hd, hi⟩ := hk
  unfold ofAClassStatement
  refine wpAny_bind (wpAny_typeOf hT ?_)
  dsimp only
  simp only [show (("tuple" : String) == "tuple") = true by decide, if_true, Bool.not_true, Bool.false_eq_true, if_false]
  try refine wpAny_bind (wpAny_pure ?_)
  try simp only [Bool.not_true, Bool.false_eq_true, if_false]
  show wpAny _ _ (seqItems? (.ref b) >>= _) _ _ s
  refine wpAny_bind (wpAny_seqItems ho hd ?_)
  dsimp only
  refine wpAny_bind ?_
  show wpAny _ _ (forIn items _ _) _ _ s
  rw [← Array.forIn_toList]
  refine wpAny_forIn_list _ (fun rest r s' => r = (none, ()) ∧ s' = s ∧ ∀ v ∈ rest, v ∈ items.toList) _ ?_ ?_ _ _ ⟨rfl, rfl, fun _ z => z⟩
  · rintro v rest r s' ⟨rfl, rfl, sub⟩
    have z : ofAClassStatement 7 v = pure false := by
      rcases items_key hi v (sub v (.head _)) with ⟨i, t, rfl⟩ | ⟨x, t, rfl⟩ <;> rfl
    rw [z]
    refine wpAny_bind (wpAny_pure ?_)
    simp only [Bool.false_eq_true, if_false]
    exact wpAny_pure ⟨rfl, rfl, fun u z => sub u (.tail _ z)⟩
  · rintro r s' ⟨rfl, rfl, _⟩
    exact wpAny_pure q
theorem kt_hbv {k : List Key} {b : Addr} {Q : Bool → Shared → Prop} (hk : (KT P w).is s.heap k b) (q : ∀ r, Q r s) : wpAny (model P w) A (hashByValue 8 (.ref b)) Q E s := by
  have hT : s.TypeIs (.ref b) "tuple" := IsTupleKey.typeIs hk
  obtain ⟨o, items, n, ho, _, hd, hi⟩ := hk
  unfold hashByValue
  refine wpAny_bind (wpAny_specialOf hT F.slot_tuple_hash.lookup ?_)
  show wpAny _ _ (seqItems? (.ref b) >>= _) _ _ s
  refine wpAny_bind (wpAny_seqItems ho hd ?_)
  refine wpAny_bind ?_
  show wpAny _ _ (forIn items _ _) _ _ s
  rw [← Array.forIn_toList]
  refine wpAny_forIn_list _ (fun rest r s' => r = (none, ()) ∧ s' = s ∧ ∀ v ∈ rest, v ∈ items.toList) _ ?_ ?_ _ _ ⟨rfl, rfl, fun _ z => z⟩
  · rintro v rest r s' ⟨rfl, rfl, sub⟩
    have up : ∀ u ∈ rest, u ∈ items.toList := fun u z => sub u (.tail _ z)
    rcases items_key hi v (sub v (.head _)) with ⟨i, t, rfl⟩ | ⟨x, t, rfl⟩
    · rw [show hashByValue 7 (.int i t) = pure true from rfl]
      refine wpAny_bind (wpAny_pure ?_)
      simp only [Bool.not_true, Bool.false_eq_true, if_false]
      exact wpAny_pure ⟨rfl, rfl, up⟩
    · rw [show hashByValue 7 (.str x t) = pure false from rfl]
      refine wpAny_bind (wpAny_pure ?_)
      simp only [Bool.not_false, if_true]
      exact wpAny_pure (wpAny_pure (q _))
  · rintro r s' ⟨rfl, rfl, _⟩
    exact wpAny_pure (q _)
theorem kt_able : SetAble (KT P w) := ⟨tupleKind_stays, fun h q => kt_cls h q, fun h q => kt_hbv h q⟩
end
/-- the set at a, its members L -/
def TSO (P : Program) (w : World) (a : Addr) (L : List (Addr × List Key)) : HO := .ext fun h => ∃ es ep t, SR (KT P w) h a L es ep t
section
variable {P : Program} {w : World} {A : Around} {E : Value → Shared → Prop}
theorem sr_at {h h' : Heap} {a : Addr} {L : List (Addr × List Key)} {es : Array (Int × Value)} {ep : Nat} {t : SetTable} (R : SR (KT P w) h a L es ep t) (k : ∀ o, h.get? a = some o → h'.get? a = some o) : SR (KT P w) h' a L es ep t := by
  obtain ⟨⟨o, ho, r⟩, h2, h3, h4, h5, h6, h7⟩ := R
  exact ⟨⟨o, k o ho, r⟩, h2, h3, h4, h5, h6, h7⟩
theorem tso_new {H : Hp} {h : Heap} {a : Addr} {L : List (Addr × List Key)} (R : ∃ es ep t, SR (KT P w) h a L es ep t) : ObjOk P w H h a (TSO P w a L) := by
  have ⟨es, ep, t, z⟩ := R
  have ⟨o, ho, _⟩ := z.ob
  exact ⟨R, ⟨o, ho⟩, fun h1 h2 p k => let ⟨es, ep, t, y⟩ := p; ⟨es, ep, t, sr_at y k⟩⟩
theorem tso_nil {H : Hp} {h : Heap} {a : Addr} (ho : h.get? a = some (oSet w)) : ObjOk P w H h a (TSO P w a []) := by
  refine tso_new ⟨#[], 0, .fresh 0 0 (!w.params.followText "set-order"), ⟨_, ho, ⟨rfl, rfl, rfl⟩, rfl⟩, rfl, ⟨List.Pairwise.nil, rfl, rfl, .inl rfl, fun x h => absurd h List.not_mem_nil, fun q h => absurd h List.not_mem_nil⟩, .nil, ?_, (by show 0 * 5 < 7 * 3; decide), Nat.zero_le _⟩
  show _ ∨ (!w.params.followText "set-order") = true
  cases w.params.followText "set-order"
  · exact .inr rfl
  · exact .inl rfl
theorem items_kv {k : List Key} : ∀ {us : List Value}, Vals (k.map kV) us → ItemsAre (mixKind P w) k us := by
  induction k with
  | nil => intro us r; cases r; exact .nil
  | cons x k ih =>
    intro us r
    rw [List.map_cons] at r
    cases r with
    | cons r t => exact .cons (kV_is r) (ih t)
theorem inv_kt {X : Cx} {pins : List (Addr × Obj)} {σ : L2.St} {H : Hp} {s : Shared} {b : Addr} {k : List Key} (I : Inv X pins σ H s) (h : SqT X.K H b (k.map kV)) : (KT X.prog X.w).is s.heap k b := by
  obtain ⟨its, r, ⟨o, ho, hc, n, hd⟩, _⟩ := I.tuple h
  exact ⟨o, its.toArray, n, ho, hc, hd, by simpa using items_kv r⟩
theorem kt_call_add {s : Shared} {a : Addr} {L : List (Addr × List Key)} {es : Array (Int × Value)} {ep : Nat} {t : SetTable} (R : SR (KT P w) s.heap a L es ep t) (him : ∀ p ∈ L, (KT P w).is s.heap p.2 p.1) {x : Addr} {k : List Key} (hx : (KT P w).is s.heap k x) (hu : A.units + 1 < cLine) (few : k ∉ L.map (·.2) → L.length < 256) {Q : Value → Shared → Prop}
    (hQ : ∀ h' L' tk, Heap.SameBut a s.heap h' → (∃ es ep t, SR (KT P w) h' a L' es ep t) → (k ∈ L.map (·.2) → L' = L) → (k ∉ L.map (·.2) → L'.Perm ((x, k) :: L)) → Q .none { s with heap := h', toks := tk }) :
    wpAny (model P w) A (call (.builtin "set.add") [.ref a, .ref x]) Q E s := by
  obtain ⟨o, ho, hex, hd⟩ := R.ob
  refine wpAny_call_entry F.slot_set_add ⟨o, ho, hex.1⟩ F.entry_set_add ?_ (F.args_set_add_2 _ _)
  unfold Builtin.«set.add» Builtin.Frozenset.oneOther
  simp only [List.isEmpty_nil, bind_assoc]
  unfold Builtin.Frozenset.addrOf setAdd
  refine wpAny_bind (wpAny_pure ?_)
  try dsimp only
  refine wpAny_bind (wpAny_pure ?_)
  try dsimp only
  refine wpAny_bind (wpAny_holding (wpAny_bind ((KT P w).pyHash (by show A.in1.units < cLine; rw [Around.in1_units]; omega) hx ?_)))
  refine add_go (s := { s with toks := s.toks + (KT P w).draws k }) kt_able R him hx (by show A.in1.units < cLine; rw [Around.in1_units]; omega) few fun b h' L' es' ep' t' sb R' y n => ?_
  show wpAny _ _ (ret Value.none) _ _ _
  exact wpAny_pure ⟨_, rfl, hQ h' L' _ sb ⟨es', ep', t', R'⟩ y n⟩
/-- adding, as a step of a set comprehension -/
def addT (P : Program) (w : World) (K : PySem.W.Frag) : Addr → V → Hp → (Hp → Prop) → Prop := fun D y H Nx => ∃ (L : List (Addr × List Key)) (x : Addr) (k : List Key), y = .ref x ∧ H D = some (TSO P w D L) ∧ SqT K H x (k.map kV) ∧ (∀ p ∈ L, SqT K H p.1 (p.2.map kV)) ∧ (k ∉ L.map (·.2) → L.length < 256) ∧
  ∀ L', (k ∈ L.map (·.2) → L' = L) → (k ∉ L.map (·.2) → L'.Perm ((x, k) :: L)) → Nx (upd H D (TSO P w D L'))
theorem pe_scT {X : Cx} {elt tg iter : Expr} {ifs : List Expr} {scope : Scope} {own : List (PySem.Str × Nat)} {pos : Pos} {wi : TI} {g : TG} {tt : TT} {te : TE} (hu : X.A.units + 1 < cLine) (hc : X.calm = true) (hN : X.N.Nodup) (hi : PI X tg iter wi) (ok : BlkOk X.N X.env.scope scope own)
    (hg : ∀ (s : Shared) (H : Hp) (C : Addr) (cl : List (PySem.Str × Addr)) (fp : List Addr), PG (X.blk s H scope (compEnvC scope cl C X.env) fp) tg g)
    (ht : ∀ (s : Shared) (H : Hp) (C : Addr) (cl : List (PySem.Str × Addr)) (fp : List Addr), PTs (X.blk s H scope (compEnvC scope cl C X.env) fp) ifs tt)
    (he : ∀ (s : Shared) (H : Hp) (C : Addr) (cl : List (PySem.Str × Addr)) (fp : List Addr), PE (X.blk s H scope (compEnvC scope cl C X.env) fp) elt te)
    (hs : ∀ x, foldedSetIterable iter X.env x = pure x := by intro _; rfl) :
    PE X (.SetComp elt [⟨tg, iter, ifs, 0⟩] scope pos) (tScG (fun a => TSO X.prog X.w a []) (addT X.prog X.w X.K) wi g tt te (own.map (·.2))) := by
  refine pe_scG (fun ho => tso_nil ho) (fun {s0 H0 ce fp pins σ H s E D y u Q Nx} I r h q => ?_) hc hN hi ok hg ht he hs
  obtain ⟨L, x, k, rfl, hD, hx, hm, few, nx⟩ := h
  obtain rfl : u = Value.ref x := r
  obtain ⟨es, ep, t, R⟩ := (I.hok D _ hD).1
  refine kt_call_add R (fun p hp => inv_kt (X := X.blk s0 H0 scope ce fp) I (hm p hp)) (inv_kt (X := X.blk s0 H0 scope ce fp) I hx) hu few fun h' L' tk sb R' y n => ?_
  have he : ∃ ob, h'.get? D = some ob := by
    obtain ⟨_, _, _, z⟩ := id R'
    obtain ⟨ob, ho, _⟩ := z.ob
    exact ⟨ob, ho⟩
  exact q _ _ (nx L' y n) (I.write (e := D) (t' := tk) (by rw [hD]; trivial) (.inl rfl) (fun b o hb ho => (sb.2 b hb).trans ho) he (tso_new R'))
end
end TB
/-! Sorting tuples, empty ones among them. -/
namespace TB
open PySem PySem.Calls PyProof.Rows PySem.W PySem.SeqAt
section
variable {prog : Program} {w : World} {A : Around} {E : Value → Shared → Prop} {s : Shared}
theorem call_tuple_lt {Q : Value → Shared → Prop} {l b : Addr} {items items2 : Array Value} {e r : Nat → Bool} (hl : s.heap.IsTuple l items) (hb : s.heap.IsTuple b items2)
    (he : ∀ j (h1 : j < items.size) (h2 : j < items2.size), EqAt A.in1 s items[j] items2[j] (e j)) (hr : ∀ j (h1 : j < items.size) (h2 : j < items2.size), e j = false → RcLt A.in1 s items[j] items2[j] (r j))
    (h : Q (.bool (firstLt e r (decide (items.size < items2.size)) (List.range (min items.size items2.size)))) s) : wpAny (model prog w) A (call (.builtin "tuple.__lt__") [.ref l, .ref b]) Q E s := by
  obtain ⟨⟨cls, dd, data, sl⟩, ho, hc, n, hd⟩ := id hl
  obtain ⟨⟨cls2, dd2, data2, sl2⟩, ho2, hc2, n2, hd2⟩ := id hb
  simp only at hc hd hc2 hd2
  subst hc hd hc2 hd2
  exact call_meets F.slot_tuple_lt ⟨_, ho, rfl⟩ F.entry_tuple_lt (F.args_tuple_lt_2 _ _) (tuple_ltAt l b items items2 n n2 dd dd2 sl sl2 e r) ⟨ho, ho2, he, hr, h⟩
/-- one tuple against another, both of one type -/
theorem oneLt_tup {xs ys : List PyData} {a b : Value} {as bs : List Addr} {Q : Bool → Shared → Prop} (ra : Reads s.heap a (.tuple xs) as) (rb : Reads s.heap b (.tuple ys) bs) (h : alike (.tuple xs) (.tuple ys) = true)
    (hu : A.units + min (PyData.tuple xs).depth (PyData.tuple ys).depth < cLine) (hq : Q (dataLt (.tuple xs) (.tuple ys)) s) : wpAny (model prog w) A (oneLt' true a b) Q E s := by
  have hal : alikeAll xs ys = true := by simpa [alike] using h
  cases ra with
  | @tuple l o vs n _ as₁ h1 h2 h3 h4 =>
    cases rb with
    | @tuple l' o' vs' n' _ bs₁ k1 k2 k3 k4 =>
      have n1 : vs.size = xs.length := by simpa using ReadsAll.length _ _ _ h4
      have n2 : vs'.size = ys.length := by simpa using ReadsAll.length _ _ _ k4
      rw [dataLt_tuple, ← firstLt_toks xs ys hal, ← n1, ← n2] at hq
      rw [oneLt'_eq]
      simp only [if_true]
      refine wpAny_bind (wpAny_cRoomFor (room_here hu) ?_)
      refine wpAny_bind (wpAny_callSpecialIfBound?_slot (T := "tuple") ⟨_, h1, h2⟩ F.slot_tuple_lt (call_tuple_lt (e := pairEq xs ys) (r := fun j => dataLt (xs.getD j .none) (ys.getD j .none)) ⟨_, h1, h2, _, h3⟩ ⟨_, k1, k2, _, k3⟩ (fun j j1 j2 => ?_) (fun j j1 j2 hj => ?_) ?_))
      · have := eqAt_alikeAll xs ys A.in1 s vs.toList vs'.toList _ _ h4 k4 hal (room_in hu) j (by simpa using j1) (by simpa using j2)
        simpa using this
      · have := rcLt_alikeAll xs ys A.in1 s vs.toList vs'.toList _ _ h4 k4 hal (room_in hu) j (by simpa using j1) (by simpa using j2) hj
        simpa using this
      · exact wpAny_truthy_bool hq
theorem each_right {α β : Type} {R : α → β → Prop} : ∀ {as : List α} {bs : List β}, EachIs R as bs → ∀ b, b ∈ bs → ∃ a, a ∈ as ∧ R a b
  | _, _, .cons h t, b, hb => by
    rcases List.mem_cons.mp hb with e | hb
    · exact ⟨_, .head _, e ▸ h⟩
    · obtain ⟨a, ha, r⟩ := each_right t b hb
      exact ⟨a, .tail _ ha, r⟩
/-- the first item of a tuple -/
def firstOf (h : Heap) : Value → Option Value
  | .ref a => match h.get? a with
    | some o => match o.data with
      | .seq items _ => items[0]?
      | _ => none
    | none => none
  | _ => none
theorem first_read {v : Value} {xs : List PyData} {as : List Addr} (r : Reads s.heap v (.tuple xs) as) : ((firstOf s.heap v).isSome = true ↔ xs ≠ []) ∧ ∀ {Q : Option Value → Shared → Prop}, Q (firstOf s.heap v) s → wpAny (model prog w) A (firstOfTuple' v) Q E s := by
  cases r with
  | @tuple l o vs n _ as₁ h1 h2 h3 h4 =>
    have n1 : vs.size = xs.length := by simpa using ReadsAll.length _ _ _ h4
    have e : firstOf s.heap (.ref l) = vs[0]? := by
      unfold firstOf
      simp only [h1, h3]
    refine ⟨?_, fun {Q} q => ?_⟩
    · rw [e]
      cases xs with
      | nil => simp at n1; simp [n1]
      | cons x r => simp at n1; simp [n1]
    · rw [e] at q
      rw [kas_first_eq]
      refine wpAny_bind (wpAny_typeOf ⟨o, h1, h2⟩ ?_)
      rw [if_neg (by decide)]
      refine wpAny_bind (listItems_at h1 h3 ?_)
      exact wpAny_pure q
theorem mapM_each {α β : Type} {f : α → Sem β} {g : α → β} : ∀ (l : List α) {Q : List β → Shared → Prop}, (∀ v ∈ l, ∀ (Q' : β → Shared → Prop), Q' (g v) s → wpAny (model prog w) A (f v) Q' E s) → Q (l.map g) s → wpAny (model prog w) A (l.mapM f) Q E s
  | [], _, _, h => by rw [List.mapM_nil]; exact wpAny_pure h
  | x :: l, Q, hf, h => by
    rw [List.mapM_cons]
    exact wpAny_bind (hf x (.head _) _ (wpAny_bind (mapM_each l (Q := fun bs s' => wpAny (model prog w) A (pure (g x :: bs)) Q E s') (fun v hv => hf v (.tail _ hv)) (wpAny_pure h))))
/-- tuples that read as alike data can be sorted -/
theorem sorts_tups {vs : List Value} {ds : List PyData} (e : EachIs (fun v d => ∃ as, Reads s.heap v d as) vs ds) (hal : AllAlike ds) (ht : ∀ d ∈ ds, ∃ xs, d = .tuple xs) (hu : ∀ d, d ∈ ds → A.units + d.depth < cLine) : SortsAt prog w A s (dataKind s.heap ds) vs := by
  by_cases hne : ∀ d ∈ ds, d ≠ .tuple []
  · refine SortsAt.data e hal (.inl fun d hd => ?_) hu
    obtain ⟨xs, rfl⟩ := ht d hd
    cases xs with
    | nil => exact absurd rfl (hne _ hd)
    | cons x r => exact ⟨x, r, rfl⟩
  · have room : ∀ {d d' : PyData}, d ∈ ds → A.units + min d.depth d'.depth < cLine := fun {d d'} hd => Nat.lt_of_le_of_lt (Nat.add_le_add_left (Nat.min_le_left _ _) _) (hu d hd)
    have emp : ∃ d ∈ ds, d = PyData.tuple [] := Classical.byContradiction fun z => hne fun d hd y => z ⟨d, hd, y⟩
    refine ⟨fun v hv => ?_, ?_⟩
    · obtain ⟨d, hd, as, r⟩ := e.left v hv
      exact ⟨_, dataKind_some hal hd r⟩
    · have firsts : ∀ {Q : List (Option Value) → Shared → Prop} {E : Value → Shared → Prop}, Q (vs.map (firstOf s.heap)) s → wpAny (model prog w) A (vs.mapM firstOfTuple') Q E s := fun {Q E} q =>
        mapM_each vs (fun v hv Q' q' => by
          obtain ⟨d, hd, as, r⟩ := e.left v hv
          obtain ⟨xs, rfl⟩ := ht d hd
          exact (first_read r).2 q') q
      have notall : ((vs.map (firstOf s.heap)).toArray.all (·.isSome)) = false := by
        rw [Bool.eq_false_iff]
        intro z
        obtain ⟨d, hd, rfl⟩ := emp
        obtain ⟨v, hv, as, r⟩ := each_right e _ hd
        have z2 : (firstOf s.heap v).isSome = true := by
          have z3 : ∀ x ∈ vs.map (firstOf s.heap), x.isSome = true := by simpa using z
          exact z3 _ (List.mem_map.mpr ⟨v, hv, rfl⟩)
        exact ((first_read (prog := prog) (w := w) (A := A) (E := fun _ _ => True) r).1.mp z2) rfl
      cases vs with
      | nil =>
        cases e
        obtain ⟨d, hd, _⟩ := emp
        cases hd
      | cons v0 vr =>
        obtain ⟨d0, hd0, as0, r0⟩ := e.left v0 (.head _)
        obtain ⟨xs0, rfl⟩ := ht d0 hd0
        have e0 : ((((v0 :: vr).map (firstOf s.heap)).toArray)[0]?.bind id) = firstOf s.heap v0 := by simp
        by_cases c : xs0 = []
        · refine ⟨oneType', ?_, fun h2 E Q hq => ?_⟩
          · intro E x y a b Q ha hb hq
            obtain ⟨d, as, hd, ra, rfl⟩ := dataKind_inv ha
            obtain ⟨d', as', hd', rb, rfl⟩ := dataKind_inv hb
            obtain ⟨xs, rfl⟩ := ht d hd
            obtain ⟨ys, rfl⟩ := ht d' hd'
            rw [keyLt'_oneType]
            exact oneLt_tup ra rb (hal _ hd _ hd') (room hd) hq
          · rw [keyKind'_eq, List.mapM_toArray, map_eq_pure_bind]
            refine wpAny_bind (wpAny_bind (firsts (wpAny_pure ?_)))
            rw [if_neg (by rw [notall]; exact Bool.false_ne_true), e0, if_neg (fun z => (first_read (prog := prog) (w := w) (A := A) (E := fun _ _ => True) r0).1.mp z c)]
            rw [oneTypeOnly'_eq, List.mapM_toArray, map_eq_pure_bind]
            refine wpAny_bind (wpAny_bind (wpAny_bind (kas_mapM (r := Value.type "tuple") _ (fun v hv Q' hq' => ?_) (wpAny_pure ?_))))
            · obtain ⟨d, hd, as, r⟩ := e.left v hv
              obtain ⟨xs, rfl⟩ := ht d hd
              exact (looks_reads r).here hq'
            · have hall : ((List.map (fun _ => Value.type "tuple") (v0 :: vr)).toArray.all fun x => x == Value.type "tuple") = true := by
                simp only [List.all_toArray, List.all_map, List.all_eq_true]
                intro _ _
                rfl
              have h0 : (List.map (fun _ => Value.type "tuple") (v0 :: vr)).toArray[0]? = some (Value.type "tuple") := by simp
              rw [h0]
              simp only [hall, if_true]
              exact wpAny_pure (wpAny_pure hq)
        · refine ⟨general', ?_, fun h2 E Q hq => ?_⟩
          · intro E x y a b Q ha hb hq
            obtain ⟨d, as, hd, ra, rfl⟩ := dataKind_inv ha
            obtain ⟨d', as', hd', rb, rfl⟩ := dataKind_inv hb
            obtain ⟨xs, rfl⟩ := ht d hd
            show wpAny _ _ (oneLt' false x y) _ _ _
            exact oneLt_alike (fun z => nomatch z) ra rb (hal _ hd d' hd') (by simp) (room hd) hq
          · rw [keyKind'_eq, List.mapM_toArray, map_eq_pure_bind]
            refine wpAny_bind (wpAny_bind (firsts (wpAny_pure ?_)))
            rw [if_neg (by rw [notall]; exact Bool.false_ne_true), e0, if_pos ((first_read (prog := prog) (w := w) (A := A) (E := fun _ _ => True) r0).1.mpr c)]
            exact wpAny_pure hq
end
end TB
/-! sorted(a set of tuples of texts). -/
namespace TB
open PySem PySem.Spec PySem.Calls PyProof.Rows L2 LG Evl PySem.W
theorem perm_lift {α β : Type} {f : α → β} {l l2 : List β} (h : l.Perm l2) : ∀ M : List α, l2 = M.map f → ∃ M1 : List α, M1.Perm M ∧ l = M1.map f := by
  induction h with
  | nil =>
    intro M e
    exact ⟨[], by rw [show M = [] from List.map_eq_nil_iff.mp e.symm], rfl⟩
  | cons x h ih =>
    intro M e
    cases M with
    | nil => cases e
    | cons m M =>
      rw [List.map_cons] at e
      obtain ⟨e1, e2⟩ := List.cons.inj e
      obtain ⟨M1, p, q⟩ := ih M e2
      exact ⟨m :: M1, p.cons m, by rw [List.map_cons, ← q, e1]⟩
  | swap x y l =>
    intro M e
    match M, e with
    | m :: n :: M, e =>
      rw [List.map_cons, List.map_cons] at e
      obtain ⟨e1, e2⟩ := List.cons.inj e
      obtain ⟨e3, e4⟩ := List.cons.inj e2
      exact ⟨n :: m :: M, .swap m n M, by rw [List.map_cons, List.map_cons, e1, e3, e4]⟩
  | trans h1 h2 ih1 ih2 =>
    intro M e
    obtain ⟨M1, p1, q1⟩ := ih2 M e
    obtain ⟨M2, p2, q2⟩ := ih1 M1 q1
    exact ⟨M2, p2.trans p1, q2⟩
def encS (xs : List Str) : PyData := .tuple (xs.map .str)
def encT (q : Addr × List Str) : PyData := encS q.2
def kt (q : Addr × List Str) : Addr × List Key := (q.1, q.2.map Sum.inr)
theorem alike_strs : ∀ xs ys : List Str, alikeAll (xs.map .str) (ys.map .str) = true
  | [], _ => by simp [alikeAll]
  | _ :: _, [] => by simp [alikeAll]
  | x :: xs, y :: ys => by
    show alikeAll (.str x :: xs.map .str) (.str y :: ys.map .str) = true
    rw [alikeAll, alike_strs xs ys]
    simp [alike]
theorem alike_S (xs ys : List Str) : alike (encS xs) (encS ys) = true := by
  unfold encS
  simp [alike, alike_strs]
theorem depth_strs : ∀ xs : List Str, PyData.depthAll (xs.map .str) = 0
  | [] => by simp [PyData.depthAll]
  | x :: xs => by
    show PyData.depthAll (.str x :: xs.map .str) = 0
    rw [PyData.depthAll, depth_strs xs]
    simp [PyData.depth]
theorem depth_S (xs : List Str) : (encS xs).depth = 1 := by
  unfold encS
  simp [PyData.depth, depth_strs]
section
variable {P : Program} {w : World} {A : Around} {E : Value → Shared → Prop} {s : Shared}
theorem reads_strs {h : Heap} : ∀ {xs : List Str} {vs : List Value}, ItemsAre (mixKind P w) (xs.map Sum.inr) vs → ∃ as, ReadsAll h vs (xs.map .str) as
  | [], _, r => by
    cases r
    exact ⟨[], .nil⟩
  | x :: xs, _, r => by
    rw [List.map_cons] at r
    cases r with
    | @cons _ v _ vs h1 t =>
      obtain ⟨as, z⟩ := reads_strs (h := h) t
      rcases keyIs_shape (show keyIs (Sum.inr x) v = true from h1) with ⟨i, u, e, _⟩ | ⟨y, u, e, e1⟩
      · cases e
      · cases e
        rw [e1]
        exact ⟨[] ++ as, .cons (.str _ _) z⟩
theorem reads_T {h : Heap} {xs : List Str} {b : Addr} (x : (KT P w).is h (xs.map Sum.inr) b) : ∃ as, Reads h (.ref b) (encS xs) as := by
  obtain ⟨o, items, n, ho, hc, hd, hi⟩ := x
  obtain ⟨as, z⟩ := reads_strs (h := h) hi
  exact ⟨as, .tuple ho hc hd z⟩
theorem refs_each {M1 : List (Addr × List Str)} : EachIs (fun v (q : Addr × List Str) => v = Value.ref q.1) (M1.map fun q => Value.ref q.1) M1 := by
  induction M1 with
  | nil => exact .nil
  | cons m M ih => exact .cons rfl ih
theorem each_refs {out : List Value} {M : List (Addr × List Str)} (e : EachIs (fun v (q : Addr × List Str) => v = Value.ref q.1) out M) : out = M.map fun q => Value.ref q.1 := by
  induction e with
  | nil => rfl
  | cons h t ih => rw [h, ih, List.map_cons]
theorem each_with {β : Type} {R : Value → β → Prop} {S : Value → β → Prop} {vs : List Value} {bs : List β} (e : EachIs R vs bs) (h : ∀ v b, b ∈ bs → R v b → S v b) : EachIs S vs bs := (each_mem e).mono fun v b ⟨r, m⟩ => h v b m r
theorem sorted_set_go {a : Addr} {M : List (Addr × List Str)} {es : Array (Int × Value)} {ep : Nat} {t : SetTable} {Q : Value → Shared → Prop} (R : SR (KT P w) s.heap a (M.map kt) es ep t) (him : ∀ q ∈ M, (KT P w).is s.heap (q.2.map Sum.inr) q.1) (hh : A.handled = none) (hu : A.units + 10 < cLine)
    (hQ : ∀ s' p (out : Array Value) (c : Nat) (M1 : List (Addr × List Str)), (∀ b o, s.heap.get? b = some o → s'.heap.get? b = some o) → s'.gens = s.gens → s'.os = s.os → s.heap.objs.size ≤ p →
      s'.heap.get? p = some (seqObj "list" out c) → M1.Perm M → out.toList = (M1.mergeSort (dataLe false encT)).map (fun q => Value.ref q.1) → Q (.ref p) s') :
    wpAny (model P w) A (call (.builtin "sorted") [.ref a]) Q E s := by
  obtain ⟨o, ho, hex, hd⟩ := R.ob
  have few := R.few
  refine Calls.call_function_entry kind_sorted plain_sorted entry_sorted (args_sorted1 _) ?_
  unfold Builtin.«sorted»
  refine wpAny_bind (m := checkCount "sorted" 1 1 _) (wpAny_pure ?_)
  refine wpAny_bind (collect_set (A := A.in1) hh ⟨o, ho, hex.1, hd⟩ R.fits (by rw [R.size]; unfold scanBound; omega) R.tab.ris R.led fun s1 vs k1 hz g1 o1 pm => ?_)
  have hes : es.toList.map (·.2) = M.map fun q => Value.ref q.1 := by
    rw [R.rows, rowsK, List.map_map, List.map_map]
    rfl
  rw [hes] at pm
  obtain ⟨M1, pm1, rfl⟩ := perm_lift pm M rfl
  have lM : M1.length ≤ 256 := by rw [pm1.length_eq]; rw [List.length_map] at few; exact few
  refine wpAny_bind (wpAny_newList ?_ (by rw [List.length_map, sizeLine_eq]; omega))
  generalize hvs : (M1.map fun q => Value.ref q.1) = vs
  have e0 : EachIs (fun v (q : Addr × List Str) => v = Value.ref q.1) vs M1 := by rw [← hvs]; exact refs_each
  have hoL : (s1.heap.push (seqObj "list" vs.toArray 0)).get? s1.heap.objs.size = some (seqObj "list" vs.toArray 0) := Heap.get?_push_size _ rfl
  have hal : AllAlike (M1.map encT) := AllAlike.of fun b b' => alike_S _ _
  have er : EachIs (fun v b => ∃ as, Reads (sortingHeap (s1.heap.push (seqObj "list" vs.toArray 0)) s1.heap.objs.size vs) v (encT b) as) vs M1 := each_with e0 fun v q hq ev => by
    rw [ev]
    have z := him q (pm1.mem_iff.mp hq)
    obtain ⟨o', items, n, ho', hc', hd', hi'⟩ := z
    have y := k1 _ _ ho'
    have lt := Heap.lt_size y
    exact reads_T (P := P) (w := w) ⟨o', items, n, sortingHeap_old (Nat.ne_of_lt lt) (Heap.get?_push_of_some _ y), hc', hd', hi'⟩
  refine wpAny_bind (wpAny_holding (wpAny_call_entry slot_list_sort ⟨_, hoL, rfl⟩ entry_list_sort (list_sort_vals (s := { s1 with heap := s1.heap.push (seqObj "list" vs.toArray 0) }) (κ := dataKind (sortingHeap (s1.heap.push (seqObj "list" vs.toArray 0)) s1.heap.objs.size vs) (M1.map encT)) hoL
    (sorts_tups (s := { s1 with heap := sortingHeap (s1.heap.push (seqObj "list" vs.toArray 0)) s1.heap.objs.size vs }) (each_map (R := fun v d => ∃ as, Reads (sortingHeap (s1.heap.push (seqObj "list" vs.toArray 0)) s1.heap.objs.size vs) v d as) encT er) hal (fun d hd => ?_) (fun d hd => ?_)) (by rw [e0.length, sizeLine_eq]; omega) ⟨_, rfl, ?_⟩) (args_list_sort _)))
  · obtain ⟨q, _, rfl⟩ := List.mem_map.mp hd
    exact ⟨_, rfl⟩
  · obtain ⟨q, _, rfl⟩ := List.mem_map.mp hd
    show _ + (encS q.2).depth < cLine
    rw [depth_S]
    show A.units + 1 + 1 + 1 < cLine
    omega
  · obtain ⟨e, he⟩ := sortedHeap_at (vs := vs) (out := (sortVals (dataKind (sortingHeap (s1.heap.push (seqObj "list" vs.toArray 0)) s1.heap.objs.size vs) (M1.map encT)) false vs vs).toArray) hoL
    refine wpAny_pure ⟨_, rfl, hQ _ s1.heap.objs.size _ e M1 (fun b u z => ?_) g1 o1 hz he pm1 ?_⟩
    · have q := k1 b u z
      have lt := Heap.lt_size q
      show (sortedHeap (s1.heap.push (seqObj "list" vs.toArray 0)) s1.heap.objs.size vs _).get? b = some u
      rw [sortedHeap_old (Nat.ne_of_lt lt) (by rw [size_push']; exact Nat.lt_succ_of_lt lt)]
      exact Heap.get?_push_of_some _ q
    · rw [List.toList_toArray]
      exact each_refs (sortVals_data false e0 er hal)
end
end TB
/-! sorted(a set of tuples of texts), sorted(a list of tuples, key=len): over the layer. -/
namespace TB
open PySem PySem.Spec PySem.Calls PyProof.Rows L2 LG Evl PySem.W
def refs (M : List (Addr × List Str)) : List V := M.map fun q => V.ref q.1
theorem vals_refs (M : List (Addr × List Str)) : Vals (refs M) (M.map fun q => Value.ref q.1) := by
  induction M with
  | nil => exact .nil
  | cons m M ih => exact .cons rfl ih
theorem refs_len (M : List (Addr × List Str)) : (refs M).length = M.length := List.length_map _
theorem refs_vals : ∀ {M : List (Addr × List Str)} {us : List Value}, Vals (refs M) us → us = M.map fun q => Value.ref q.1
  | [], _, r => by cases r; rfl
  | m :: M, _, r => by
    have r : Vals (V.ref m.1 :: refs M) _ := r
    cases r with
    | cons h t =>
      rw [List.map_cons, ← refs_vals t]
      exact congrArg (· :: _) h
theorem ms_len {α : Type} (M : List α) (le : α → α → Bool) : (M.mergeSort le).length = M.length := (List.mergeSort_perm M le).length_eq
def rSortedTS (K : PySem.W.Frag) (P : Program) (w : World) : List V → Hp → VK → Prop := fun vs H Q => ∃ (a : Addr) (M : List (Addr × List Str)), vs = [V.ref a] ∧ H a = some (TSO P w a (M.map kt)) ∧ (∀ q ∈ M, SqT K H q.1 (q.2.map V.str)) ∧
  ∀ (M1 : List (Addr × List Str)) (p : Addr), M1.Perm M → H p = none → Q (.ref p) (upd H p (.lst (refs (M1.mergeSort (dataLe false encT)))))
theorem kv_str (xs : List Str) : (xs.map (Sum.inr : Str → Key)).map kV = xs.map V.str := by
  rw [List.map_map]
  rfl
section
variable {X : Cx}
theorem inv_st {pins : List (Addr × Obj)} {σ : L2.St} {H : Hp} {s : Shared} {b : Addr} {xs : List Str} (I : Inv X pins σ H s) (h : SqT X.K H b (xs.map V.str)) : (KT X.prog X.w).is s.heap (xs.map Sum.inr) b := inv_kt I (by rw [kv_str]; exact h)
theorem cr_sortedTS (hc : X.calm = true) (hu : X.A.units + 10 < cLine) : CallR X (.builtin "sorted") (rSortedTS X.K X.prog X.w) := by
  intro pins s σ H vs us Q I r h
  obtain ⟨a, M, rfl, ha, hm, q⟩ := h
  rw [Vals.ref1 r]
  obtain ⟨es, ep, t, R⟩ := (I.hok a _ ha).1
  have few := R.few
  rw [List.length_map] at few
  refine sorted_set_go R (fun q hq => inv_st I (hm q hq)) (I.ok.hd hc) hu fun s' p out e M1 k g o hp hg pm ho => ?_
  have hlen : (refs (M1.mergeSort (dataLe false encT))).length ≤ sizeLine := by rw [refs_len, ms_len, pm.length_eq, sizeLine_eq]; omega
  have hn : H p = none := I.hok.fresh hp
  have J : Inv X pins σ (upd H p (.lst (refs (M1.mergeSort (dataLe false encT))))) { s with heap := s'.heap, gens := s'.gens, drawn := s'.drawn, toks := s'.toks } :=
    I.call (ch := []) (Un.laid k hp hn) (I.hok.laid k hp ⟨hlen, out.toList, e, by rw [ho]; exact vals_refs _, hg⟩) (by rw [g]; exact I.bare) (fun _ z => nomatch z)
  have es : s' = { s with heap := s'.heap, gens := s'.gens, drawn := s'.drawn, toks := s'.toks } := by
    cases s'
    cases s
    cases o
    rfl
  rw [es]
  exact ⟨.ref p, _, J, rfl, q M1 p pm hn⟩
/-- sorted(e, key=len), e a list of tuples of texts -/
def rSortLen (K : PySem.W.Frag) : V → Hp → VK → Prop := fun x H Q => ∃ (a : Addr) (M : List (Addr × List Str)), x = .ref a ∧ SqL K H a (refs M) ∧ (∀ q ∈ M, SqT K H q.1 (q.2.map V.str)) ∧
  ∀ p, H p = none → Q (.ref p) (upd H p (.lst (refs (M.mergeSort (dataLe false fun q => .int q.2.length)))))
def tSortLen (K : PySem.W.Frag) (te : TE) : TE := fun σ H Q => te σ H fun x H1 => rSortLen K x H1 Q
theorem alike_int (i j : Int) : alike (.int i) (.int j) = true := by simp [alike]
theorem sort_len_run (hu : X.A.units + 10 < cLine) {pins : List (Addr × Obj)} {s : Shared} {σ : L2.St} {H : Hp} {x : V} {u : Value} {Q : VK} (I : Inv X pins σ H s) (r : L2.RelV x u) (h : rSortLen X.K x H Q) :
    wpAny (model X.prog X.w) X.A (call (.builtin "sorted") [u] [(Str.ofString "key", .builtin "len")]) (EP X pins σ Q) X.xe s := by
  obtain ⟨a, M, rfl, hl, hm, q⟩ := h
  obtain rfl : u = Value.ref a := r
  obtain ⟨its, rv, pl, hz⟩ := I.list hl
  rw [refs_vals rv] at pl
  rw [refs_len] at hz
  refine sorted_key_data (b := false) (R := fun v (q : Addr × List Str) => v = Value.ref q.1) (fun q : Addr × List Str => PyData.int q.2.length) (bs := M) (f := .builtin "len") pl.isList refs_each (AllAlike.of fun b b' => alike_int _ _) (.inr fun d hd => ?_) hz (fun x hx => ?_) (ksk_s1 _ _) (fun _ => ksk_l1 _ _) (fun x => ksk_t4 "len" x)
    (fun v y hv hy h tk kp => ?_) fun out c h' tk kp fresh hD hlen ho => ?_
  · obtain ⟨q, _, rfl⟩ := List.mem_map.mp hd
    exact ⟨by simp, fun xs => by simp⟩
  · show X.A.units + 2 + 0 < cLine
    omega
  · subst hv
    obtain ⟨its, rt, pt, hzt⟩ := I.tuple (hm y hy)
    have el : its.length = y.2.length := by rw [← rt.length, List.length_map]
    have pt2 : IsTup h y.1 its.toArray := by
      obtain ⟨o, ho, hc, n, hd⟩ := pt
      exact ⟨o, kp _ _ ho, hc, n, hd⟩
    rw [List.length_map] at hzt
    refine len_tuple (s := { s with heap := h, toks := tk }) pt2 (by rw [List.size_toArray, el]; rw [sizeLine_eq] at hzt; omega) ?_
    refine ⟨h, tk + 1 + 1, rfl, fun b o e => e, ?_⟩
    rw [List.size_toArray, el]
    exact .int _ _
  · have ho2 := each_refs ho
    have hn : H (s.heap.objs.size + 1) = none := I.hok.fresh (Nat.le_succ _)
    have hlen2 : (refs (M.mergeSort (dataLe false fun q => .int q.2.length))).length ≤ sizeLine := by rw [refs_len, ms_len]; exact hz
    have J : Inv X pins σ (upd H (s.heap.objs.size + 1) (.lst (refs (M.mergeSort (dataLe false fun q => .int q.2.length))))) { s with heap := h', toks := tk } :=
      I.laid (t' := tk) kp (Nat.le_succ _) ⟨hlen2, out, c, by rw [ho2]; exact vals_refs _, hD⟩
    exact ⟨.ref (s.heap.objs.size + 1), _, J, rfl, q _ hn⟩
theorem pe_sortLen {e : Expr} {te : TE} {p p2 kpos pos : Pos} (hu : X.A.units + 10 < cLine) (hg : Gl X "sorted") (hm : X.mg "sorted" = none) (hv : bootBuiltins "sorted" = some (.builtin "sorted")) (hg2 : Gl X "len") (hm2 : X.mg "len" = none) (hv2 : bootBuiltins "len" = some (.builtin "len")) (ha : PE X e te)
    (hst : starEach [e] X.env = [(false, eval e X.env)] := by rfl) : PE X (.Call (.Name "sorted" p) [e] [⟨some "key", .Name "len" p2, kpos⟩] pos) (tSortLen X.K te) := by
  refine ⟨fun pins s σ H Q I h => ?_⟩
  refine wpAny_Call_Name_kw (ld_blt I hg hm hv ?_)
  refine PyProof.Rows.callWith_kw (e := e) (rest := []) ?_ (by rw [hst]; rfl) (by rw [hst]; rfl) (by rfl) (by rfl)
  have pa : PA X [e] (tCons te tNil) := pa_cons ha pa_nil hst
  refine thn (pa.run pos pins s σ H (fun vs H1 => match vs with
    | [x] => rSortLen X.K x H1 Q
    | _ => False) I h) fun us s1 ⟨vs, H1, I1, r1, q1⟩ => ?_
  obtain ⟨x, ev⟩ : ∃ x, vs = [x] := match vs, q1 with
    | [x], _ => ⟨x, rfl⟩
  subst ev
  obtain ⟨u, rfl, rx⟩ := vals1 r1
  show wpAny _ _ (evalAll [(do let v ← eval (.Name "len" p2) X.env; standAt pos; pure v)]) _ _ s1
  refine wpAny_evalAll_cons (wpAny_bind (ld_blt I1 hg2 hm2 hv2 (wpAny_bind (wpAny_standAt (wpAny_pure (wpAny_evalAll_nil ?_))))))
  exact sort_len_run hu I1 rx q1
end
end TB
/-! Sets of places, their order, the least ones of them. -/
namespace FM
open PySem PyProof.Rows PySem.W TB TM
/-! ### the order -/
def ltS (xs ys : List Str) : Bool := dataLt (encS xs) (encS ys)
theorem ltS_eq (xs ys : List Str) : ltS xs ys = (listOrd itemOrd).blt (keyToksAll (xs.map .str)) (keyToksAll (ys.map .str)) := dataLt_tuple _ _
theorem toks_inj : ∀ {xs ys : List Str}, keyToksAll (xs.map PyData.str) = keyToksAll (ys.map PyData.str) → xs = ys
  | [], [], _ => rfl
  | [], y :: ys, h => by simp [keyToksAll] at h
  | x :: xs, [], h => by simp [keyToksAll] at h
  | x :: xs, y :: ys, h => by
    rw [List.map_cons, List.map_cons, toks_all_cons, toks_all_cons] at h
    simp only [keyToks, List.singleton_append, List.cons_append, List.nil_append, List.cons.injEq, true_and, Sum.inr.injEq] at h
    rw [str_of_cps (h.1), toks_inj h.2]
theorem ltS_irrefl (xs : List Str) : ltS xs xs = false := by rw [ltS_eq]; exact (listOrd itemOrd).irrefl _
theorem ltS_trans {xs ys zs : List Str} (h1 : ltS xs ys = true) (h2 : ltS ys zs = true) : ltS xs zs = true := by
  rw [ltS_eq] at *
  exact (listOrd itemOrd).trans _ _ _ h1 h2
theorem ltS_total {xs ys : List Str} (h1 : ltS xs ys = false) (h2 : ltS ys xs = false) : xs = ys := by
  rw [ltS_eq] at *
  exact toks_inj ((listOrd itemOrd).total _ _ h1 h2)
/-- shorter, or as long and less -/
def ltP (x y : List Str) : Prop := x.length < y.length ∨ (x.length = y.length ∧ ltS x y = true)
theorem ltP_irrefl (x : List Str) : ¬ ltP x x := fun h => by
  rcases h with h | ⟨_, h⟩
  · omega
  · rw [ltS_irrefl] at h; cases h
theorem ltP_trans {x y z : List Str} (h1 : ltP x y) (h2 : ltP y z) : ltP x z := by
  rcases h1 with h1 | ⟨e1, h1⟩ <;> rcases h2 with h2 | ⟨e2, h2⟩
  · exact .inl (by omega)
  · exact .inl (by omega)
  · exact .inl (by omega)
  · exact .inr ⟨e1.trans e2, ltS_trans h1 h2⟩
theorem srt_unique {α : Type} {R : α → α → Prop} (irr : ∀ x, ¬ R x x) (tr : ∀ x y z, R x y → R y z → R x z) : ∀ {l m : List α}, l.Pairwise R → m.Pairwise R → (∀ x, x ∈ l ↔ x ∈ m) → l = m
  | [], [], _, _, _ => rfl
  | [], y :: m, _, _, h => absurd ((h y).mpr (.head _)) List.not_mem_nil
  | x :: l, [], _, _, h => absurd ((h x).mp (.head _)) List.not_mem_nil
  | x :: l, y :: m, h1, h2, h => by
    have a1 := List.pairwise_cons.mp h1
    have a2 := List.pairwise_cons.mp h2
    have e : x = y := by
      rcases List.mem_cons.mp ((h x).mp (.head _)) with e | h3
      · exact e
      · rcases List.mem_cons.mp ((h y).mpr (.head _)) with e | h4
        · exact e.symm
        · exact absurd (tr _ _ _ (a1.1 y h4) (a2.1 x h3)) (irr _)
    subst e
    rw [srt_unique irr tr a1.2 a2.2 fun z => ?_]
    constructor
    · intro hz
      rcases List.mem_cons.mp ((h z).mp (.tail _ hz)) with e | h3
      · exact absurd (e ▸ a1.1 z hz) (irr _)
      · exact h3
    · intro hz
      rcases List.mem_cons.mp ((h z).mpr (.tail _ hz)) with e | h3
      · exact absurd (e ▸ a2.1 z hz) (irr _)
      · exact h3
/-! ### the least ones -/
def sub (y x : List Str) : Bool := y.all fun p => decide (p ∈ x)
theorem sub_iff {y x : List Str} : sub y x = true ↔ ∀ p ∈ y, p ∈ x := by
  unfold sub
  rw [List.all_eq_true]
  exact ⟨fun h p hp => of_decide_eq_true (h p hp), fun h p hp => decide_eq_true (h p hp)⟩
/-- those of S that no other one of S is within, in order -/
structure Least (S : List Str → Prop) (r : List (List Str)) : Prop where
  srt : r.Pairwise ltP
  mem : ∀ x, x ∈ r ↔ S x ∧ ∀ y, S y → sub y x = true → y = x
theorem Least.unique {S : List Str → Prop} {r r' : List (List Str)} (h : Least S r) (h' : Least S r') : r = r' :=
  srt_unique ltP_irrefl (fun _ _ _ => ltP_trans) h.srt h'.srt fun x => (h.mem x).trans (h'.mem x).symm
theorem Least.congr {S S' : List Str → Prop} {r : List (List Str)} (e : ∀ x, S x ↔ S' x) (h : Least S r) : Least S' r := by
  have : S = S' := funext fun x => propext (e x)
  rw [← this]
  exact h
/-- sets of places: in the places' order, each once -/
def Can (x : List Str) : Prop := x.Sublist names
theorem Can.nd {x : List Str} (h : Can x) : x.Nodup := h.nodup (by decide)
theorem Can.eq {x y : List Str} (hx : Can x) (hy : Can y) (h1 : sub x y = true) (h2 : sub y x = true) : x = y := by
  have k : ∀ z : List Str, Can z → (z.map ix).Pairwise (· < ·) := fun z hz => List.Pairwise.sublist (hz.map ix) (by decide)
  have n : ∀ z : List Str, Can z → ∀ p ∈ z, p ∈ names := fun z hz p hp => hz.subset hp
  refine map_ix_inj (n x hx) (n y hy) (pw_unique (k x hx) (k y hy) fun i => ?_)
  rw [List.mem_map, List.mem_map]
  exact ⟨fun ⟨p, hp, e⟩ => ⟨p, sub_iff.mp h1 p hp, e⟩, fun ⟨p, hp, e⟩ => ⟨p, sub_iff.mp h2 p hp, e⟩⟩
theorem Can.len {x y : List Str} (hx : Can x) (h : sub x y = true) : x.length ≤ y.length := hx.nd.length_le_of_subset fun p hp => sub_iff.mp h p hp
theorem Can.lt {x y : List Str} (hx : Can x) (hy : Can y) (h : sub x y = true) (ne : x ≠ y) : ltP x y := by
  left
  rcases Nat.lt_or_ge x.length y.length with z | z
  · exact z
  · refine absurd (hx.eq hy h ?_) ne
    refine sub_iff.mpr fun p hp => ?_
    refine Classical.byContradiction fun c => ?_
    have := List.Nodup.length_le_of_subset (l₁ := p :: x) (l₂ := y) (List.nodup_cons.mpr ⟨c, hx.nd⟩) fun q hq => by
      rcases List.mem_cons.mp hq with rfl | hq
      · exact hp
      · exact sub_iff.mp h q hq
    rw [List.length_cons] at this
    omega
/-- one after the other, those that no one before is within -/
def leastF (D : List (List Str)) : List (List Str) := D.foldl (fun r x => if r.any (fun y => sub y x) then r else r ++ [x]) []
theorem leastF_inv {S : List Str → Prop} (can : ∀ x, S x → Can x) : ∀ (D E : List (List Str)) (r : List (List Str)), (E ++ D).Pairwise ltP → (∀ x ∈ E ++ D, S x) →
    r.Sublist E → (∀ x ∈ E, ∃ y ∈ r, sub y x = true) → (∀ x ∈ r, ∀ y ∈ E, sub y x = true → y = x) →
    let r' := D.foldl (fun r x => if r.any (fun y => sub y x) then r else r ++ [x]) r
    r'.Sublist (E ++ D) ∧ (∀ x ∈ E ++ D, ∃ y ∈ r', sub y x = true) ∧ (∀ x ∈ r', ∀ y ∈ E ++ D, sub y x = true → y = x)
  | [], E, r, _, _, h1, h2, h3 => by
    rw [List.append_nil]
    exact ⟨h1, h2, h3⟩
  | d :: D, E, r, hp, hS, h1, h2, h3 => by
    have ea : E ++ d :: D = (E ++ [d]) ++ D := by rw [List.append_assoc]; rfl
    rw [ea] at hp hS ⊢
    have hE : ∀ x ∈ E, ltP x d := fun x hx => (List.pairwise_append.mp (List.pairwise_append.mp hp).1).2.2 x hx d (.head _)
    have sd : S d := hS d (List.mem_append_left _ (List.mem_append_right _ (.head _)))
    have sE : ∀ x ∈ E, S x := fun x hx => hS x (List.mem_append_left _ (List.mem_append_left _ hx))
    -- what stands later isn't within what stands earlier
    have late : ∀ x ∈ E, sub d x = true → False := fun x hx h => by
      have a := hE x hx
      by_cases e : d = x
      · rw [e] at a
        exact ltP_irrefl _ a
      · exact ltP_irrefl _ (ltP_trans a ((can d sd).lt (can x (sE x hx)) h e))
    rw [List.foldl_cons]
    by_cases c : r.any (fun y => sub y d) = true
    · rw [if_pos c]
      obtain ⟨y0, hy0, hs0⟩ := List.any_eq_true.mp c
      refine leastF_inv can D (E ++ [d]) r hp hS (h1.trans (List.sublist_append_left _ _)) (fun x hx => ?_) fun x hx y hy h => ?_
      · rcases List.mem_append.mp hx with hx | hx
        · exact h2 x hx
        · rw [List.mem_singleton.mp hx]
          exact ⟨y0, hy0, hs0⟩
      · rcases List.mem_append.mp hy with hy | hy
        · exact h3 x hx y hy h
        · rw [List.mem_singleton.mp hy] at h
          exact (late x (h1.subset hx) h).elim
    · rw [if_neg c]
      refine leastF_inv can D (E ++ [d]) (r ++ [d]) hp hS (h1.append (List.Sublist.refl _)) (fun x hx => ?_) fun x hx y hy h => ?_
      · rcases List.mem_append.mp hx with hx | hx
        · obtain ⟨y, hy, h⟩ := h2 x hx
          exact ⟨y, List.mem_append_left _ hy, h⟩
        · rw [List.mem_singleton.mp hx]
          exact ⟨d, List.mem_append_right _ (.head _), sub_iff.mpr fun _ z => z⟩
      · rcases List.mem_append.mp hx with hx | hx <;> rcases List.mem_append.mp hy with hy | hy
        · exact h3 x hx y hy h
        · rw [List.mem_singleton.mp hy] at h
          exact (late x (h1.subset hx) h).elim
        · rw [List.mem_singleton.mp hx] at h ⊢
          obtain ⟨z, hz, hzy⟩ := h2 y hy
          have zd : sub z d = true := sub_iff.mpr fun p hp => sub_iff.mp h p (sub_iff.mp hzy p hp)
          exact absurd (List.any_eq_true.mpr ⟨z, hz, zd⟩) c
        · rw [List.mem_singleton.mp hx, List.mem_singleton.mp hy]
theorem leastF_least {S : List Str → Prop} (can : ∀ x, S x → Can x) {D : List (List Str)} (hp : D.Pairwise ltP) (hS : ∀ x, x ∈ D ↔ S x) : Least S (leastF D) := by
  obtain ⟨h1, h2, h3⟩ := leastF_inv can D [] [] hp (fun x hx => (hS x).mp hx) (List.Sublist.refl _) (fun x h => absurd h List.not_mem_nil) (fun x h => absurd h List.not_mem_nil)
  rw [List.nil_append] at h1 h2 h3
  refine ⟨hp.sublist h1, fun x => ⟨fun hx => ⟨(hS x).mp (h1.subset hx), fun y hy h => h3 x hx y ((hS y).mpr hy) h⟩, fun ⟨hx, hm⟩ => ?_⟩⟩
  obtain ⟨y, hy, h⟩ := h2 x ((hS x).mpr hx)
  rw [← hm y ((hS y).mp (h1.subset hy)) h]
  exact hy
end FM
/-! What the sorts leave. -/
namespace FM
open PySem PyProof.Rows PySem.W TB TM
abbrev AS := Addr × List Str
theorem le_T (a b : AS) : dataLe false encT a b = !ltS b.2 a.2 := rfl
theorem srt_T {M : List AS} (nd : (M.map (·.2)).Nodup) : ((M.mergeSort (dataLe false encT)).map (·.2)).Pairwise (fun x y => ltS x y = true) := by
  have h1 := sort_pairwise (sortLe_total (listOrd itemOrd) false fun b : AS => keyToks (encT b)) M
  have pm := List.mergeSort_perm M (dataLe false encT)
  have nd2 : ((M.mergeSort (dataLe false encT)).map (·.2)).Nodup := (pm.map _).nodup_iff.mpr nd
  rw [List.Nodup, List.pairwise_map] at nd2
  rw [List.pairwise_map]
  refine (h1.and nd2).imp fun {a b} ⟨h, ne⟩ => ?_
  have h : (!ltS b.2 a.2) = true := h
  rw [Bool.not_eq_true'] at h
  cases e : ltS a.2 b.2 with
  | true => rfl
  | false => exact absurd (ltS_total e h) ne
theorem le_len : dataLe false (fun q : AS => PyData.int q.2.length) = fun a b => decide (a.2.length ≤ b.2.length) := by
  rw [dataLe_int (fun q : AS => (q.2.length : Int))]
  funext a b
  exact decide_eq_decide.mpr (by omega)
theorem srt_len {M : List AS} (h : (M.map (·.2)).Pairwise (fun x y => ltS x y = true)) : ((M.mergeSort (dataLe false fun q => .int q.2.length)).map (·.2)).Pairwise ltP := by
  have T := sortLe_total (listOrd itemOrd) false fun b : AS => keyToks (PyData.int b.2.length)
  have h1 : (M.mergeSort (dataLe false fun q => .int q.2.length)).Pairwise (fun a b => dataLe false (fun q : AS => .int q.2.length) a b = true) := sort_pairwise T M
  have h2 := sort_stable T M
  have h2 : ∀ c : AS, (M.mergeSort (dataLe false fun q => .int q.2.length)).filter (sameRank (dataLe false fun q : AS => .int q.2.length) c) = M.filter (sameRank (dataLe false fun q : AS => .int q.2.length) c) := h2
  rw [le_len] at h1 h2 ⊢
  rw [List.pairwise_map] at h ⊢
  rw [List.pairwise_iff_forall_sublist] at h1 h ⊢
  intro a b hs
  have le := h1 hs
  rw [decide_eq_true_eq] at le
  rcases Nat.lt_or_ge a.2.length b.2.length with z | z
  · exact .inl z
  · have e : a.2.length = b.2.length := by omega
    refine .inr ⟨e, h ?_⟩
    have f := List.Sublist.filter (sameRank (fun a b : AS => decide (a.2.length ≤ b.2.length)) a) hs
    rw [h2 a] at f
    have k : [a, b].filter (sameRank (fun a b : AS => decide (a.2.length ≤ b.2.length)) a) = [a, b] := by
      unfold sameRank
      simp [e]
    rw [k] at f
    exact f.trans List.filter_sublist
theorem srt_two {M M1 : List AS} (pm : M1.Perm M) (nd : (M.map (·.2)).Nodup) :
    (((M1.mergeSort (dataLe false encT)).mergeSort (dataLe false fun q => .int q.2.length)).map (·.2)).Pairwise ltP ∧ ((M1.mergeSort (dataLe false encT)).mergeSort (dataLe false fun q => .int q.2.length)).Perm M :=
  ⟨srt_len (srt_T ((pm.map _).nodup_iff.mpr nd)), (List.mergeSort_perm _ _).trans ((List.mergeSort_perm _ _).trans pm)⟩
/-- pairs of a length and a tuple -/
def encL (q : AS) : PyData := .tuple [.int q.2.length, encS q.2]
theorem ltL (a b : AS) : dataLt (encL a) (encL b) = true ↔ ltP a.2 b.2 := by
  unfold encL
  rw [dataLt_pair (by simp [alike]) (alike_S _ _)]
  rw [show PyData.eqv (.int a.2.length) (.int b.2.length) = decide ((a.2.length : Int) = b.2.length) by (simp only [PyData.eqv]; rfl), dataLt_int]
  unfold ltP
  by_cases e : a.2.length = b.2.length
  · rw [if_pos (decide_eq_true (by omega))]
    have : (if PyData.eqv (encS a.2) (encS b.2) = true then false else dataLt (encS a.2) (encS b.2)) = ltS a.2 b.2 := by
      by_cases c : PyData.eqv (encS a.2) (encS b.2) = true
      · rw [if_pos c]
        have z := (toks_eqv _ _ (alike_S a.2 b.2)).1 c
        have z : keyToksAll (a.2.map PyData.str) = keyToksAll (b.2.map PyData.str) := z
        rw [toks_inj z, ltS_irrefl]
      · rw [if_neg c]
        rfl
    rw [this]
    constructor
    · intro h; exact .inr ⟨e, h⟩
    · rintro (h | ⟨_, h⟩)
      · omega
      · exact h
  · rw [if_neg (by rw [decide_eq_true_eq]; omega), decide_eq_true_eq]
    constructor
    · intro h; exact .inl (by omega)
    · rintro (h | ⟨h, _⟩)
      · omega
      · exact absurd h e
theorem ltP_total {x y : List Str} (h1 : ¬ ltP x y) (h2 : ¬ ltP y x) : x = y := by
  unfold ltP at h1 h2
  have e : x.length = y.length := by
    rcases Nat.lt_trichotomy x.length y.length with z | z | z
    · exact absurd (.inl z) h1
    · exact z
    · exact absurd (.inl z) h2
  refine ltS_total ?_ ?_
  · cases z : ltS x y with
    | false => rfl
    | true => exact absurd (.inr ⟨e, z⟩) h1
  · cases z : ltS y x with
    | false => rfl
    | true => exact absurd (.inr ⟨e.symm, z⟩) h2
theorem srt_L {M : List AS} (nd : (M.map (·.2)).Nodup) : ((M.mergeSort (dataLe false encL)).map (·.2)).Pairwise ltP := by
  have h1 := sort_pairwise (sortLe_total (listOrd itemOrd) false fun b : AS => keyToks (encL b)) M
  have pm := List.mergeSort_perm M (dataLe false encL)
  have nd2 : ((M.mergeSort (dataLe false encL)).map (·.2)).Nodup := (pm.map _).nodup_iff.mpr nd
  rw [List.Nodup, List.pairwise_map] at nd2
  rw [List.pairwise_map]
  refine (h1.and nd2).imp fun {a b} ⟨h, ne⟩ => ?_
  have h : (!dataLt (encL b) (encL a)) = true := h
  rw [Bool.not_eq_true'] at h
  refine Classical.byContradiction fun c => ne (ltP_total c fun d => ?_)
  rw [(ltL b a).mpr d] at h
  cases h
end FM
/-! Forms: which sets of places make a term TOP. -/
namespace FM
open PySem hiding Tree
open PyProof.Rows PySem.W TB TM
/-! ### what a term is when the places of X are TOP -/
mutual
def topT (X : List Str) : Tree → Bool
  | .place n => decide (n ∈ X)
  | .endd e => decide (e = "top")
  | .lesser ts => allT X ts
  | .greater ts => anyT X ts
def allT (X : List Str) : List Tree → Bool
  | [] => true
  | t :: ts => topT X t && allT X ts
def anyT (X : List Str) : List Tree → Bool
  | [] => false
  | t :: ts => topT X t || anyT X ts
end
theorem allT_iff {X : List Str} : ∀ {ts : List Tree}, allT X ts = true ↔ ∀ t ∈ ts, topT X t = true
  | [] => by simp [allT]
  | t :: ts => by
    rw [allT, Bool.and_eq_true, allT_iff]
    simp
theorem anyT_iff {X : List Str} : ∀ {ts : List Tree}, anyT X ts = true ↔ ∃ t ∈ ts, topT X t = true
  | [] => by simp [anyT]
  | t :: ts => by
    rw [anyT, Bool.or_eq_true, anyT_iff]
    simp
/-- more places TOP, and no less is TOP; only the term's own places matter -/
theorem top_mono {X Y : List Str} {t : Tree} (ok : Ok t) : (∀ p ∈ t.places, p ∈ X → p ∈ Y) → topT X t = true → topT Y t = true := by
  induction ok with
  | @place n h =>
    intro hp h
    simp only [topT, decide_eq_true_eq] at *
    exact hp n (by simp [Tree.places]) h
  | @endd e h =>
    intro hp h
    simpa only [topT] using h
  | @lesser ts hl ho ih =>
    intro hp h
    simp only [topT] at *
    rw [allT_iff] at *
    exact fun t ht => ih t ht (fun p z => hp p (by simp only [Tree.places]; exact mem_placesAll.mpr ⟨t, ht, z⟩)) (h t ht)
  | @greater ts hl ho ih =>
    intro hp h
    simp only [topT] at *
    rw [anyT_iff] at *
    obtain ⟨t, ht, z⟩ := h
    exact ⟨t, ht, ih t ht (fun p y => hp p (by simp only [Tree.places]; exact mem_placesAll.mpr ⟨t, ht, y⟩)) z⟩
/-- the other places -/
def other (X : List Str) : List Str := names.filter fun n => !decide (n ∈ X)
theorem mem_other {X : List Str} {p : Str} (h : p ∈ names) : p ∈ other X ↔ p ∉ X := by
  unfold other
  rw [List.mem_filter]
  simp [h]
/-- turned about -/
theorem top_turned {X : List Str} {t : Tree} (ok : Ok t) : topT X (t.re noF true) = !topT (other X) t := by
  induction ok with
  | @place n h =>
    show topT X (.place n) = _
    simp only [topT]
    by_cases c : n ∈ X
    · rw [decide_eq_true c, decide_eq_false fun z => (mem_other h).mp z c]
      rfl
    · rw [decide_eq_false c, decide_eq_true ((mem_other h).mpr c)]
      rfl
  | @endd e h =>
    rw [Tree.re]
    simp only [topT]
    have he : e = "bottom" ∨ e = "top" := by simpa using h
    rcases he with rfl | rfl <;> decide
  | @lesser ts hl ho ih =>
    rw [Tree.re, reAll_map]
    show topT X (.greater _) = _
    simp only [topT]
    rw [Bool.eq_iff_iff, anyT_iff, Bool.not_eq_true', Bool.eq_false_iff, ne_eq, allT_iff]
    constructor
    · rintro ⟨t, ht, z⟩ a
      obtain ⟨u, hu, rfl⟩ := List.mem_map.mp ht
      rw [ih u hu, a u hu] at z
      cases z
    · intro a
      refine Classical.byContradiction fun c => a fun t ht => ?_
      cases z : topT (other X) t with
      | true => rfl
      | false => exact absurd ⟨_, List.mem_map.mpr ⟨t, ht, rfl⟩, by rw [ih t ht, z]; rfl⟩ c
  | @greater ts hl ho ih =>
    rw [Tree.re, reAll_map]
    show topT X (.lesser _) = _
    simp only [topT]
    rw [Bool.eq_iff_iff, allT_iff, Bool.not_eq_true', Bool.eq_false_iff, ne_eq, anyT_iff]
    constructor
    · rintro a ⟨t, ht, z⟩
      have y := a _ (List.mem_map.mpr ⟨t, ht, rfl⟩)
      rw [ih t ht, z] at y
      cases y
    · intro a t ht
      obtain ⟨u, hu, rfl⟩ := List.mem_map.mp ht
      rw [ih u hu]
      cases z : topT (other X) u with
      | false => rfl
      | true => exact absurd ⟨u, hu, z⟩ a
/-! ### sets that make something TOP -/
/-- F: the least sets at which A is true, in order -/
structure Fm (F : List (List Str)) (A : List Str → Bool) : Prop where
  can : ∀ f ∈ F, Can f
  srt : F.Pairwise ltP
  min : ∀ x ∈ F, ∀ y ∈ F, sub y x = true → y = x
  sem : ∀ X, A X = true ↔ ∃ f ∈ F, sub f X = true
theorem sub_refl (x : List Str) : sub x x = true := sub_iff.mpr fun _ z => z
theorem sub_trans {x y z : List Str} (h1 : sub x y = true) (h2 : sub y z = true) : sub x z = true := sub_iff.mpr fun p hp => sub_iff.mp h2 p (sub_iff.mp h1 p hp)
theorem Fm.unique {F G : List (List Str)} {A : List Str → Bool} (hF : Fm F A) (hG : Fm G A) : F = G := by
  have go : ∀ {F G : List (List Str)}, Fm F A → Fm G A → ∀ x ∈ F, x ∈ G := fun {F G} hF hG x hx => by
    obtain ⟨g, hg, h1⟩ := (hG.sem x).mp ((hF.sem x).mpr ⟨x, hx, sub_refl x⟩)
    obtain ⟨f, hf, h2⟩ := (hF.sem g).mp ((hG.sem g).mpr ⟨g, hg, sub_refl g⟩)
    have e := hF.min x hx f hf (sub_trans h2 h1)
    rw [e] at h2
    rw [(hF.can x hx).eq (hG.can g hg) h2 h1]
    exact hg
  exact srt_unique ltP_irrefl (fun _ _ _ => ltP_trans) hF.srt hG.srt fun x => ⟨go hF hG x, go hG hF x⟩
theorem Fm.congr {F : List (List Str)} {A B : List Str → Bool} (h : Fm F A) (e : ∀ X, A X = B X) : Fm F B := ⟨h.can, h.srt, h.min, fun X => by rw [← e]; exact h.sem X⟩
theorem Least.below {S : List Str → Prop} {r : List (List Str)} (h : Least S r) (can : ∀ x, S x → Can x) : ∀ x, S x → ∃ y ∈ r, sub y x = true := by
  have go : ∀ n (x : List Str), x.length < n → S x → ∃ y ∈ r, sub y x = true := by
    intro n
    induction n with
    | zero => intro x h; omega
    | succ n ih =>
      intro x hl hx
      by_cases c : ∀ y, S y → sub y x = true → y = x
      · exact ⟨x, (h.mem x).mpr ⟨hx, c⟩, sub_refl x⟩
      · obtain ⟨y, hy⟩ := Classical.not_forall.mp c
        obtain ⟨h1, hy⟩ := Classical.not_imp.mp hy
        obtain ⟨h2, ne⟩ := Classical.not_imp.mp hy
        have lt : y.length < x.length := by
          rcases (can y h1).lt (can x hx) h2 ne with z | ⟨z, _⟩
          · exact z
          · refine absurd ((can y h1).eq (can x hx) h2 (sub_iff.mpr fun p hp => Classical.byContradiction fun c => ?_)) ne
            have := List.Nodup.length_le_of_subset (l₁ := p :: y) (l₂ := x) (List.nodup_cons.mpr ⟨c, (can y h1).nd⟩) fun q hq => by
              rcases List.mem_cons.mp hq with rfl | hq
              · exact hp
              · exact sub_iff.mp h2 q hq
            rw [List.length_cons] at this
            omega
        obtain ⟨z, hz, h3⟩ := ih y (by omega) h1
        exact ⟨z, hz, sub_trans h3 h2⟩
  exact fun x hx => go _ x (Nat.lt_succ_self _) hx
theorem Fm.of {S : List Str → Prop} {r : List (List Str)} {A : List Str → Bool} (h : Least S r) (can : ∀ x, S x → Can x) (sem : ∀ X, A X = true ↔ ∃ f, S f ∧ sub f X = true) : Fm r A :=
  ⟨fun f hf => can f ((h.mem f).mp hf).1, h.srt, fun x hx y hy z => ((h.mem x).mp hx).2 y ((h.mem y).mp hy).1 z, fun X => by
    rw [sem X]
    constructor
    · rintro ⟨f, hf, z⟩
      obtain ⟨g, hg, y⟩ := h.below can f hf
      exact ⟨g, hg, sub_trans y z⟩
    · rintro ⟨f, hf, z⟩
      exact ⟨f, ((h.mem f).mp hf).1, z⟩⟩
/-- x is a and b together -/
structure Both (a b x : List Str) : Prop where
  can : Can x
  mem : ∀ p, p ∈ x ↔ p ∈ a ∨ p ∈ b
theorem Fm.and {F G r : List (List Str)} {A B : List Str → Bool} (hF : Fm F A) (hG : Fm G B) (h : Least (fun x => ∃ a ∈ F, ∃ b ∈ G, Both a b x) r) (all : ∀ a ∈ F, ∀ b ∈ G, ∃ x, Both a b x) : Fm r fun X => A X && B X :=
  Fm.of h (fun x ⟨_, _, _, _, z⟩ => z.can) fun X => by
    rw [Bool.and_eq_true, hF.sem, hG.sem]
    constructor
    · rintro ⟨⟨a, ha, h1⟩, b, hb, h2⟩
      obtain ⟨x, hx⟩ := all a ha b hb
      exact ⟨x, ⟨a, ha, b, hb, hx⟩, sub_iff.mpr fun p hp => ((hx.mem p).mp hp).elim (sub_iff.mp h1 p) (sub_iff.mp h2 p)⟩
    · rintro ⟨x, ⟨a, ha, b, hb, hx⟩, hs⟩
      exact ⟨⟨a, ha, sub_iff.mpr fun p hp => sub_iff.mp hs p ((hx.mem p).mpr (.inl hp))⟩, b, hb, sub_iff.mpr fun p hp => sub_iff.mp hs p ((hx.mem p).mpr (.inr hp))⟩
theorem Fm.or {F G r : List (List Str)} {A B : List Str → Bool} (hF : Fm F A) (hG : Fm G B) (h : Least (fun x => x ∈ F ∨ x ∈ G) r) : Fm r fun X => A X || B X :=
  Fm.of h (fun x z => z.elim (hF.can x) (hG.can x)) fun X => by
    rw [Bool.or_eq_true, hF.sem, hG.sem]
    constructor
    · rintro (⟨f, hf, h1⟩ | ⟨f, hf, h1⟩)
      · exact ⟨f, .inl hf, h1⟩
      · exact ⟨f, .inr hf, h1⟩
    · rintro ⟨f, hf | hf, h1⟩
      · exact .inl ⟨f, hf, h1⟩
      · exact .inr ⟨f, hf, h1⟩
theorem can_one {n : Str} (h : n ∈ names) : Can [n] := List.singleton_sublist.mpr h
theorem fm_place {n : Str} (h : n ∈ names) : Fm [[n]] fun X => topT X (.place n) :=
  ⟨fun f hf => by rw [List.mem_singleton.mp hf]; exact can_one h, List.pairwise_singleton _ _, fun x hx y hy _ => by rw [List.mem_singleton.mp hx, List.mem_singleton.mp hy], fun X => by
    simp only [topT, decide_eq_true_eq]
    constructor
    · intro h
      exact ⟨[n], .head _, sub_iff.mpr fun p hp => by rw [List.mem_singleton.mp hp]; exact h⟩
    · rintro ⟨f, hf, h⟩
      rw [List.mem_singleton.mp hf] at h
      exact sub_iff.mp h n (.head _)⟩
theorem fm_end (e : Str) : Fm (if e = "top" then [[]] else []) fun X => topT X (.endd e) := by
  by_cases c : e = "top"
  · rw [if_pos c]
    refine ⟨fun f hf => by rw [List.mem_singleton.mp hf]; exact List.nil_sublist _, List.pairwise_singleton _ _, fun x hx y hy _ => by rw [List.mem_singleton.mp hx, List.mem_singleton.mp hy], fun X => ?_⟩
    simp only [topT, decide_eq_true_eq]
    exact ⟨fun _ => ⟨[], .head _, rfl⟩, fun _ => c⟩
  · rw [if_neg c]
    refine ⟨fun f hf => absurd hf List.not_mem_nil, .nil, fun x hx => absurd hx List.not_mem_nil, fun X => ?_⟩
    simp only [topT, decide_eq_true_eq]
    exact ⟨fun z => absurd z c, fun ⟨f, hf, _⟩ => absurd hf List.not_mem_nil⟩
end FM
namespace K16
open PySem PySem.Spec PyProof.Rows L2 LG Evl FM
/-- the law's number of a term when the places of X are TOP -/
def tv (X : List Str) (t : TM.Tree) : Int := if topT X t = true then big else -big
theorem tv_or (X : List Str) (t : TM.Tree) : (topT X t = true ∧ tv X t = big) ∨ (topT X t = false ∧ tv X t = -big) := by
  unfold tv
  cases topT X t with
  | true => exact .inl ⟨rfl, if_pos rfl⟩
  | false => exact .inr ⟨rfl, if_neg Bool.false_ne_true⟩
theorem big_pos : (0 : Int) < big := by unfold big; decide
theorem tv_min {X : List Str} {ts : List TM.Tree} {k : Int} (h1 : k ∈ ts.map (tv X)) (h2 : ∀ y, y ∈ ts.map (tv X) → k ≤ y) : k = tv X (.lesser ts) := by
  have bp := big_pos
  obtain ⟨t, ht, rfl⟩ := List.mem_map.mp h1
  rcases tv_or X (.lesser ts) with ⟨a, e⟩ | ⟨a, e⟩
  · rw [topT, allT_iff] at a
    rw [e, tv, if_pos (a t ht)]
  · rw [topT, Bool.eq_false_iff, ne_eq, allT_iff] at a
    obtain ⟨u, hu⟩ := Classical.not_forall.mp a
    obtain ⟨hu, c⟩ := Classical.not_imp.mp hu
    have z := h2 _ (List.mem_map.mpr ⟨u, hu, rfl⟩)
    have c : topT X u = false := Bool.eq_false_iff.mpr c
    rw [show tv X u = -big by unfold tv; rw [c]; rfl] at z
    rw [e]
    rcases tv_or X t with ⟨_, e2⟩ | ⟨_, e2⟩ <;> omega
theorem tv_max {X : List Str} {ts : List TM.Tree} {k : Int} (h1 : k ∈ ts.map (tv X)) (h2 : ∀ y, y ∈ ts.map (tv X) → y ≤ k) : k = tv X (.greater ts) := by
  have bp := big_pos
  obtain ⟨t, ht, rfl⟩ := List.mem_map.mp h1
  rcases tv_or X (.greater ts) with ⟨a, e⟩ | ⟨a, e⟩
  · rw [topT, anyT_iff] at a
    obtain ⟨u, hu, c⟩ := a
    have z := h2 _ (List.mem_map.mpr ⟨u, hu, rfl⟩)
    rw [show tv X u = big by unfold tv; rw [c]; rfl] at z
    rw [e]
    rcases tv_or X t with ⟨_, e2⟩ | ⟨_, e2⟩ <;> omega
  · rw [topT, Bool.eq_false_iff, ne_eq, anyT_iff] at a
    have c : topT X t = false := Bool.eq_false_iff.mpr fun c => a ⟨t, ht, c⟩
    rw [e]
    unfold tv
    rw [c]
    rfl
/-- there: the places of X are TOP, the others BOTTOM -/
def Th (kvs : List (Key × V)) (X : List Str) (t : TM.Tree) : Prop := ∀ n ∈ t.places, valV kvs (Sum.inr n) = some (.int (if n ∈ X then big else -big))
theorem Th.lesser {kvs : List (Key × V)} {X : List Str} {ts : List TM.Tree} (h : Th kvs X (.lesser ts)) : ∀ t ∈ ts, Th kvs X t := fun t ht n hn => h n (by simp only [TM.Tree.places]; exact TM.mem_placesAll.mpr ⟨t, ht, hn⟩)
theorem Th.greater {kvs : List (Key × V)} {X : List Str} {ts : List TM.Tree} (h : Th kvs X (.greater ts)) : ∀ t ∈ ts, Th kvs X t := fun t ht n hn => h n (by simp only [TM.Tree.places]; exact TM.mem_placesAll.mpr ⟨t, ht, hn⟩)
section
variable {P : Program} {w : World} {K : PySem.W.Frag} {mg : Str → Option Value} {base : Heap} {a : At}
theorem ev_minL {K : PySem.W.Frag} {te : TE} {σ : L2.St} {H : Hp} {p : Addr} {ns : List Int} {m : Int} (h : Ev te σ H (.ref p)) (hp : H p = some (.lst (ns.map V.int))) (hne : 0 < ns.length) (hu : ∀ k, k ∈ ns → (∀ y, y ∈ ns → k ≤ y) → k = m) : Ev (tCB (rMin K) (tCons te tNil)) σ H (.int m) :=
  fun H1 e Q q => h H1 e _ fun H2 e2 => ⟨p, ns, rfl, sq_of (e2 _ _ (e _ _ hp)), hne, fun k a b => (hu k a b) ▸ q H2 e2⟩
theorem ev_maxP {K : PySem.W.Frag} {te : TE} {σ : L2.St} {H : Hp} {p : Addr} {ns : List Int} {m : Int} (h : Ev te σ H (.ref p)) (hp : H p = some (.lst (ns.map V.int))) (hne : 0 < ns.length) (hu : ∀ k, k ∈ ns → (∀ y, y ∈ ns → y ≤ k) → k = m) : Ev (tCB (rMax K) (tCons te tNil)) σ H (.int m) :=
  fun H1 e Q q => h H1 e _ fun H2 e2 => ⟨p, ns, rfl, sq_of (e2 _ _ (e _ _ hp)), hne, fun k a b => (hu k a b) ▸ q H2 e2⟩
/-! ### the value of the law's own tree -/
def sp__law_of (n : Nat) : Sp := fun vs H Q _ => ∃ (S : Addr → Prop) (v : V) (t : TM.Tree) (d : Addr) (kvs : List (Key × V)) (X : List Str), vs = [v, .ref d] ∧ TM.MdAt S H v t ∧ TM.Ok t ∧ t.depth < n ∧ H d = some (.dK kvs) ∧ Th kvs X t ∧ ∀ H', Ex H H' → Q (.int (tv X t)) H'
theorem ok__law_of (T : Txt K mg a) : ∀ n, Fn P w K mg base (n + 2) a._law_of (sp__law_of n) := by
  intro n
  induction n with
  | zero =>
    refine T.d__law_of.fn sc__law_of (fun _ _ _ _ _ _ us hl => match us, hl with | [_, _], _ => rfl) (fun vs H Q E h => ?_) (fun cdv A outer s H vs Q E hg hr h => ?_)
    · obtain ⟨_, _, _, _, _, _, rfl, _⟩ := h
      rfl
    · obtain ⟨_, _, t, _, _, _, _, _, _, hd, _⟩ := h
      exact absurd hd (Nat.not_lt_zero _)
  | succ n ih =>
    have G__law_of := ih
    have G__law_number := ok__law_number (P := P) (w := w) (base := base) T
    refine T.d__law_of.fn sc__law_of (fun _ _ _ _ _ _ us hl => match us, hl with | [_, _], _ => rfl) (fun vs H Q E h => ?_) (fun cdv A outer s H vs Q E hg hr h => ?_)
    · obtain ⟨_, _, _, _, _, _, rfl, _⟩ := h
      rfl
    · obtain ⟨S, v, t, d, kvs, X, rfl, ht, ok, hd, hk, hh, q⟩ := h
      have nd := sc__law_of.nd
      have hu := hu_of hr
      refine ⟨_, (pss_cons (ps_if (pt_cmpR op_eq (pe_ix ix_tup (pv 0) pe_int (fun _ _ => rfl)) pe_str (nomark _)) (pss_one (ps_ret (pe_dget hu (pv 1) (pe_ix ix_tup (pv 0) pe_int (fun _ _ => rfl)) (fun _ _ => rfl)))) pss_nil)
    (pss_cons (ps_if (pt_cmpR op_eq (pe_ix ix_tup (pv 0) pe_int (fun _ _ => rfl)) pe_str (nomark _)) (pss_one (ps_ret (pe_fn G__law_number hg (hr.mono (by omega)) T.d__law_number.kp T.d__law_number.m (by rfl) passL (pa_cons (pe_ix ix_tup (pv 0) pe_int (fun _ _ => rfl)) pa_nil)))) pss_nil)
    (pss_cons (ps_setLc (i := 2) (own := [("part", 3)]) (g := gName 3) rfl (by exact nd) rfl rfl (by rfl) (pi_list (pe_ix ix_tup (pv 0) pe_int (fun _ _ => rfl))) (blkOk_by (own := [("part", 3)]) (N := ["term", "there", "parts", "part"]) (sc := defScope s__law_of) (by decide +kernel)) (fun _ _ _ _ _ => (pg_name (i := 3) nd rfl (.inl rfl))) (fun _ _ _ _ _ => pts_nil) (fun _ _ _ _ _ => (pe_fn G__law_of hg (hr.mono (by omega)) T.d__law_of.kp T.d__law_of.m (by rfl) passL (pa_cons (pv 3) (pa_cons (pv 1) pa_nil)))))
    (pss_one (ps_ret (pe_ifExp (pt_cmpR op_eq (pe_ix ix_tup (pv 0) pe_int (fun _ _ => rfl)) pe_str (nomark _)) (pe_callB (cr_min rfl) (by rfl) T.z_min (by decide +kernel) (pa_cons (pv 2) pa_nil)) (pe_callB (cr_max rfl) (by rfl) T.z_max (by decide +kernel) (pa_cons (pv 2) pa_nil)))))))), ?_⟩
      have two : ∀ {x l : Addr} {word : Str} {xs : List V} {ts : List TM.Tree} {r : Int}, H x = some (.tup [.str word, .ref l]) → H l = some (.lst xs) → xs.length = ts.length → (∀ (i : Nat) (y : V) (t : TM.Tree), xs[i]? = some y → ts[i]? = some t → TM.MdAt S H y t) → TM.Ln ts.length → (∀ t ∈ ts, TM.Ok t) → TM.Tree.depthAll ts < n → (∀ t ∈ ts, Th kvs X t) →
          (∀ H', Ex H H' → Q (.int r) H') → ((word = "lesser" ∧ r = tv X (.lesser ts)) ∨ (word = "greater" ∧ r = tv X (.greater ts))) → ∀ H2, Ex H H2 →
          tSeq (tAsg (tLc (iList K (tOp (rIxT K) (tVar 0) (tC (.int 1)))) (gName 3) tYes (tFn (sp__law_of n) E0 (tCons (tVar 3) (tCons (tVar 1) tNil))) [3]) (gName 2)) (tRet (tIf (tTest (tOp rEq (tOp (rIxT K) (tVar 0) (tC (.int 0))) (tC (.str "lesser")))) (tCB (rMin K) (tCons (tVar 2) tNil)) (tCB (rMax K) (tCons (tVar 2) tNil)))) { nx := fun _ H' => Q .non H', rt := Q } [some (.ref x), some (.ref d), none, none] H2 := by
        intro x l word xs ts r hx hl hn hxs hln hok hdp hhs q hw H2 e2
        have h8 := hln.eight
        have h2 := hln.two
        refine q_asgL (xs := (ts.map (tv X)).map V.int) (el_lmap (ev_op (ev_var rfl) ev_c (rv_ixT (st_of (e2 _ _ hx)) (i := 1) rfl)) (sq_of (e2 _ _ hl)) (by omega) (by simp [hn]) (fun _ => rfl) fun i y z H3 e3 hi hz => ?_) fun p H3 hp e3 h3 => ?_
        · rw [List.map_map, List.getElem?_map] at hz
          obtain ⟨u, hu2, rfl⟩ := Option.map_eq_some_iff.mp hz
          have hm := List.mem_of_getElem? hu2
          have e03 := e2.trans e3
          exact ev_fn (ea_cons (ev_var rfl) (ea_cons (ev_var rfl) ea_nil)) fun H4 e4 Q' q' E' => ⟨S, y, u, d, kvs, X, rfl, (hxs i y u hi hu2).ex (e03.trans e4), hok u hm, Nat.lt_of_le_of_lt (TM.depth_mem hm) hdp, (e03.trans e4) _ _ hk, hhs u hm, q'⟩
        · have e03 := e2.trans e3
          have pos : 0 < (ts.map (tv X)).length := by simp; omega
          rcases hw with ⟨rfl, rfl⟩ | ⟨rfl, rfl⟩
          · exact s_ret (ev_if (b := true) (et_eqT (ev_op (ev_var rfl) ev_c (rv_ixT (st_of (e03 _ _ hx)) (i := 0) rfl)) ev_c rfl rfl) (fun _ => ev_minL (ev_var rfl) h3 pos fun k h1 h2 => tv_min h1 h2) fun z => nomatch z) fun H4 e4 => q H4 (e03.trans e4)
          · exact s_ret (ev_if (b := false) (et_eqF (ev_op (ev_var rfl) ev_c (rv_ixT (st_of (e03 _ _ hx)) (i := 0) rfl)) ev_c rfl (str_ne (by decide))) (fun z => nomatch z) fun _ => ev_maxP (ev_var rfl) h3 pos fun k h1 h2 => tv_max h1 h2) fun H4 e4 => q H4 (e03.trans e4)
      cases ht with
      | @place x nm s hx =>
        refine q_when (b := true) (et_eqT (ev_op (ev_var rfl) ev_c (rv_ixT (st_of hx) (i := 0) rfl)) ev_c rfl rfl) (fun _ H1 e1 => ?_) (fun z => nomatch z)
        have hy := hh nm (by rw [TM.Tree.places]; exact List.mem_singleton.mpr rfl)
        refine s_ret (ev_dgetR (k := Sum.inr nm) (v := .int (if nm ∈ X then big else -big)) (ev_var rfl) (ev_op (ev_var rfl) ev_c (rv_ixT (st_of (e1 _ _ hx)) (i := 1) rfl)) (.inl (e1 _ _ hk)) hy) fun H2 e2 => ?_
        have z := q H2 (e1.trans e2)
        unfold tv at z
        simp only [topT, decide_eq_true_eq] at z
        exact z
      | @endd x nm s hx =>
        cases ok with
        | endd hnm =>
          refine q_when (b := false) (et_eqF (ev_op (ev_var rfl) ev_c (rv_ixT (st_of hx) (i := 0) rfl)) ev_c rfl (str_ne (by decide))) (fun z => nomatch z) (fun _ H1 e1 => ?_)
          refine q_when (b := true) (et_eqT (ev_op (ev_var rfl) ev_c (rv_ixT (st_of (e1 _ _ hx)) (i := 0) rfl)) ev_c rfl rfl) (fun _ H2 e2 => ?_) (fun z => nomatch z)
          have e02 := e1.trans e2
          refine s_ret (ev_fn (z := .int (num (.str nm))) (ea_cons (ev_op (ev_var rfl) ev_c (rv_ixT (st_of (e02 _ _ hx)) (i := 1) rfl)) ea_nil) fun H3 e3 Q' q' E' => ⟨.str nm, rfl, ?_, q'⟩) fun H3 e3 => ?_
          · rcases List.mem_cons.mp hnm with rfl | hnm
            · rfl
            · rw [List.mem_singleton.mp hnm]
              rfl
          · have z := q H3 (e02.trans e3)
            have en : num (.str nm) = tv X (.endd nm) := by
              unfold tv
              simp only [topT, decide_eq_true_eq]
              rcases List.mem_cons.mp hnm with rfl | hnm
              · rfl
              · rw [List.mem_singleton.mp hnm]
                rfl
            rw [en]
            exact z
      | @lesser x l xs ts s hx sl hl hn hxs =>
        cases ok with
        | lesser hln hok =>
          refine q_when (b := false) (et_eqF (ev_op (ev_var rfl) ev_c (rv_ixT (st_of hx) (i := 0) rfl)) ev_c rfl (str_ne (by decide))) (fun z => nomatch z) (fun _ H1 e1 => ?_)
          refine q_when (b := false) (et_eqF (ev_op (ev_var rfl) ev_c (rv_ixT (st_of (e1 _ _ hx)) (i := 0) rfl)) ev_c rfl (str_ne (by decide))) (fun z => nomatch z) (fun _ H2 e2 => ?_)
          exact two hx hl hn hxs hln hok (Nat.lt_of_succ_lt_succ (by simpa [TM.Tree.depth] using hd)) hh.lesser (fun H' e => q H' e) (.inl ⟨rfl, rfl⟩) H2 (e1.trans e2)
      | @greater x l xs ts s hx sl hl hn hxs =>
        cases ok with
        | greater hln hok =>
          refine q_when (b := false) (et_eqF (ev_op (ev_var rfl) ev_c (rv_ixT (st_of hx) (i := 0) rfl)) ev_c rfl (str_ne (by decide))) (fun z => nomatch z) (fun _ H1 e1 => ?_)
          refine q_when (b := false) (et_eqF (ev_op (ev_var rfl) ev_c (rv_ixT (st_of (e1 _ _ hx)) (i := 0) rfl)) ev_c rfl (str_ne (by decide))) (fun z => nomatch z) (fun _ H2 e2 => ?_)
          exact two hx hl hn hxs hln hok (Nat.lt_of_succ_lt_succ (by simpa [TM.Tree.depth] using hd)) hh.greater (fun H' e => q H' e) (.inr ⟨rfl, rfl⟩) H2 (e1.trans e2)
end
end K16
/-! {one for one in a list of tuples}, sorted. -/
namespace FM
open PySem PySem.Spec PyProof.Rows L2 LG Evl TB
/-- over a list that the block leaves as it is -/
theorem scG_list {init : Addr → HO} {addR : Addr → V → Hp → (Hp → Prop) → Prop} {K : PySem.W.Frag} {a : Addr} {xs : List V} {g : TG} {tt : TT} {te : TE} {vs : List Nat} {σ : L2.St} {H1 : Hp} {D : Addr} {Qd : Hp → Prop} (Pv : Nat → Hp → Prop) (h0 : Pv 0 (upd H1 D (init D)))
    (hl : ∀ i H, i ≤ xs.length → Pv i H → SqL K H a xs)
    (hs : ∀ i x H, xs[i]? = some x → Pv i H → g x (wipe σ vs) H fun σ2 H2 => wipe σ2 vs = wipe σ vs ∧ tt σ2 H2 fun b H3 =>
      if b = true then te σ2 H3 fun y H4 => addR D y H4 (Pv (i + 1)) else Pv (i + 1) H3) (hd : ∀ H, Pv xs.length H → Qd H) :
    ∃ W : Nat → Nat → Hp → Prop, (∃ m, W 0 m (upd H1 D (init D))) ∧ ∀ i m H, W i m H →
      ((Itl K a).stop i H ∧ Qd H) ∨ ((Itl K a).go i H ∧ ∃ Nx : Hp → Prop, (∀ H', Nx H' → ∃ m', m' < m ∧ W (i + 1) m' H') ∧ ∀ x H', (Itl K a).yld i H x H' → g x (wipe σ vs) H' fun σ2 H2 => wipe σ2 vs = wipe σ vs ∧ tt σ2 H2 fun b H3 =>
        if b = true then te σ2 H3 fun y H4 => addR D y H4 Nx else Nx H3) := by
  refine ⟨fun i m H => m = xs.length - i ∧ i ≤ xs.length ∧ Pv i H, ⟨xs.length, by simp, Nat.zero_le _, h0⟩, ?_⟩
  rintro i m H ⟨rfl, hi, p⟩
  have q := hl i H hi p
  rcases Nat.lt_or_ge i xs.length with hlt | hge
  · refine .inr ⟨⟨xs, xs[i], q, by simp [hlt]⟩, Pv (i + 1), fun H' p' => ⟨xs.length - (i + 1), by omega, rfl, hlt, p'⟩, ?_⟩
    rintro x H' ⟨e, y⟩
    subst e
    exact hs i x _ (y xs q) p
  · obtain rfl : i = xs.length := by omega
    exact .inl ⟨⟨xs, q, Nat.le_refl _⟩, hd H p⟩
/-! ### how many -/
def powL : List Str → List (List Str)
  | [] => [[]]
  | x :: xs => powL xs ++ (powL xs).map (x :: ·)
theorem mem_powL {x l : List Str} (h : x.Sublist l) : x ∈ powL l := by
  induction h with
  | slnil => exact .head _
  | cons a _ ih => exact List.mem_append_left _ ih
  | cons_cons a _ ih => exact List.mem_append_right _ (List.mem_map.mpr ⟨_, ih, rfl⟩)
theorem pow_len : (powL TM.names).length = 256 := by decide +kernel
theorem can_few {F : List (List Str)} (nd : F.Nodup) (can : ∀ f ∈ F, Can f) : F.length ≤ 256 := by
  rw [← pow_len]
  exact nd.length_le_of_subset fun f hf => mem_powL (can f hf)
theorem inr_inj : ∀ {xs ys : List Str}, xs.map (Sum.inr : Str → Key) = ys.map Sum.inr → xs = ys
  | [], [], _ => rfl
  | [], y :: ys, h => by cases h
  | x :: xs, [], h => by cases h
  | x :: xs, y :: ys, h => by
    rw [List.map_cons, List.map_cons] at h
    obtain ⟨h1, h2⟩ := List.cons.inj h
    rw [Sum.inr.inj h1, inr_inj h2]
theorem kt_mem {L : List AS} {xs : List Str} : xs.map (Sum.inr : Str → Key) ∈ (L.map kt).map (·.2) ↔ xs ∈ L.map (·.2) := by
  rw [List.map_map, List.mem_map, List.mem_map]
  constructor
  · rintro ⟨q, hq, e⟩
    exact ⟨q, hq, inr_inj e⟩
  · rintro ⟨q, hq, e⟩
    exact ⟨q, hq, by rw [← e]; rfl⟩
/-- what stands at places: tuples of texts -/
def Tups (K : PySem.W.Frag) (H : Hp) (M : List AS) : Prop := ∀ q ∈ M, SqT K H q.1 (q.2.map V.str)
theorem Tups.up {K : PySem.W.Frag} {H H' : Hp} {M : List AS} (e : Ex H H') (h : Tups K H M) : Tups K H' M := fun q hq => ex_t e (h q hq)
/-- the members: L of M, each content once -/
structure Mem (M L : List AS) : Prop where
  sub : ∀ q ∈ L, q ∈ M
  nd : (L.map (·.2)).Nodup
  all : ∀ q ∈ M, q.2 ∈ L.map (·.2)
theorem ev_setT {P : Program} {w : World} {K : PySem.W.Frag} {tl : TE} {σ : L2.St} {H : Hp} {a : Addr} {M : List AS} {j : Nat} (h : Ev tl σ H (.ref a)) (hm : SqL K H a (refs M)) (ht : Tups K H M) (can : ∀ q ∈ M, Can q.2) (hw : ∀ x, wipe ((wipe σ [j]).set j (some x)) [j] = wipe σ [j])
    (hj : ∀ x, ((wipe σ [j]).set j (some x))[j]? = some (some x)) :
    ∀ H1, Ex H H1 → ∀ Q : VK, (∀ D L H2, H1 D = none → Ex H1 H2 → H2 D = some (TSO P w D (L.map kt)) → Mem M L → Q (.ref D) H2) → tScG (fun a => TSO P w a []) (addT P w K) (iList K tl) (gName j) tYes (tVar j) [j] σ H1 Q := fun H1 e Q q =>
  h H1 e _ fun H2 e2 => ⟨a, rfl, ⟨_, ex_l (e.trans e2) hm⟩, fun D hD => scG_list (init := fun a => TSO P w a []) (addR := addT P w K) (g := gName j) (tt := tYes) (te := tVar j) (vs := [j]) (σ := σ) (K := K) (a := a) (xs := refs M)
    (fun i H' => Ex H2 H' ∧ ∃ L, H' D = some (TSO P w D (L.map kt)) ∧ (∀ q ∈ L, q ∈ M) ∧ (L.map (·.2)).Nodup ∧ ∀ q ∈ M.take i, q.2 ∈ L.map (·.2))
    ⟨Ex.new hD, [], upd_same, fun q h => absurd h List.not_mem_nil, .nil, fun q h => by simp at h⟩
    (fun i H' _ p => ex_l ((e.trans e2).trans p.1) hm)
    (fun i x H' hi p => by
      obtain ⟨p1, L, p2, p3, p4, p5⟩ := p
      unfold refs at hi
      rw [List.getElem?_map] at hi
      obtain ⟨m, hmi, rfl⟩ := Option.map_eq_some_iff.mp hi
      have hm1 := List.mem_of_getElem? hmi
      refine ⟨hw _, ?_⟩
      dsimp only [tYes]
      rw [if_pos rfl]
      refine ⟨_, hj _, L.map kt, m.1, m.2.map Sum.inr, rfl, p2, by rw [kv_str]; exact ht.up ((e.trans e2).trans p1) m hm1, fun r hr => ?_, fun nk => ?_, fun L' y n => ?_⟩
      · obtain ⟨q, hq, rfl⟩ := List.mem_map.mp hr
        show SqT K H' q.1 ((q.2.map Sum.inr).map kV)
        rw [kv_str]
        exact ht.up ((e.trans e2).trans p1) q (p3 q hq)
      · rw [kt_mem] at nk
        have z := can_few (F := m.2 :: L.map (·.2)) (List.nodup_cons.mpr ⟨nk, p4⟩) fun f hf => by
          rcases List.mem_cons.mp hf with rfl | hf
          · exact can m hm1
          · obtain ⟨q, hq, rfl⟩ := List.mem_map.mp hf
            exact can q (p3 q hq)
        rw [List.length_cons, List.length_map] at z
        rw [List.length_map]
        omega
      · have t1 : M.take (i + 1) = M.take i ++ [m] := by rw [List.take_succ, hmi]; rfl
        by_cases c : m.2 ∈ L.map (·.2)
        · rw [y (kt_mem.mpr c)]
          refine ⟨Ex.mut p1 hD, L, upd_same, p3, p4, fun q hq => ?_⟩
          rw [t1] at hq
          rcases List.mem_append.mp hq with hq | hq
          · exact p5 q hq
          · rw [List.mem_singleton.mp hq]
            exact c
        · obtain ⟨L2, pm, rfl⟩ := TB.perm_lift (f := kt) (n fun z => c (kt_mem.mp z)) (m :: L) rfl
          refine ⟨Ex.mut p1 hD, L2, upd_same, fun q hq => ?_, (pm.map _).nodup_iff.mpr (List.nodup_cons.mpr ⟨c, p4⟩), fun q hq => (pm.map _).mem_iff.mpr ?_⟩
          · rcases List.mem_cons.mp (pm.mem_iff.mp hq) with rfl | hq
            · exact hm1
            · exact p3 q hq
          · rw [t1] at hq
            rcases List.mem_append.mp hq with hq | hq
            · exact .tail _ (p5 q hq)
            · rw [List.mem_singleton.mp hq]
              exact .head _)
    (fun H' p => by
      obtain ⟨p1, L, p2, p3, p4, p5⟩ := p
      refine q D L H' (fresh_back e2 hD) (e2.trans p1) p2 ⟨p3, p4, fun r hr => p5 r ?_⟩
      rw [show (refs M).length = M.length from List.length_map _, List.take_length]
      exact hr)⟩
/-- sorted(sorted({one for one in xs}), key=len) -/
theorem ev_order {P : Program} {w : World} {K : PySem.W.Frag} {tl : TE} {σ : L2.St} {H : Hp} {a : Addr} {M : List AS} {j : Nat} (h : Ev tl σ H (.ref a)) (hm : SqL K H a (refs M)) (ht : Tups K H M) (can : ∀ q ∈ M, Can q.2) (hw : ∀ x, wipe ((wipe σ [j]).set j (some x)) [j] = wipe σ [j])
    (hj : ∀ x, ((wipe σ [j]).set j (some x))[j]? = some (some x)) :
    ∀ H1, Ex H H1 → ∀ Q : VK, (∀ p N H2, H1 p = none → Ex H1 H2 → H2 p = some (.lst (refs N)) → (N.map (·.2)).Pairwise ltP → Mem M N → Q (.ref p) H2) →
      tSortLen K (tCB (rSortedTS K P w) (tCons (tScG (fun a => TSO P w a []) (addT P w K) (iList K tl) (gName j) tYes (tVar j) [j]) tNil)) σ H1 Q := fun H1 e Q q => by
  show tScG (fun a => TSO P w a []) (addT P w K) (iList K tl) (gName j) tYes (tVar j) [j] σ H1 (fun x H2 => rSortedTS K P w [x] H2 fun y H3 => rSortLen K y H3 Q)
  exact ev_setT h hm ht can hw hj H1 e _ fun D L H2 hD e2 h2 mem => by
    have tl : Tups K H2 L := fun r hr => ht.up (e.trans e2) r (mem.sub r hr)
    refine ⟨D, L, rfl, h2, tl, fun M1 p pm hp => ?_⟩
    obtain ⟨z1, z2⟩ := srt_two pm mem.nd
    have e3 : Ex H2 (upd H2 p (.lst (refs (M1.mergeSort (PySem.W.dataLe false encT))))) := Ex.new hp
    have up1 : ∀ r ∈ M1.mergeSort (PySem.W.dataLe false encT), r ∈ L := fun r hr => pm.mem_iff.mp ((List.mergeSort_perm _ _).mem_iff.mp hr)
    refine ⟨p, _, rfl, sq_of upd_same, fun r hr => tl.up e3 r (up1 r hr), fun p2 hp2 => ?_⟩
    refine q p2 _ _ (fresh_back (e2.trans e3) hp2) ((e2.trans e3).trans (Ex.new hp2)) upd_same z1 ⟨fun r hr => mem.sub r (z2.mem_iff.mp hr), (z2.map _).nodup_iff.mpr mem.nd, fun r hr => (z2.map _).mem_iff.mpr (mem.all r hr)⟩
/-! ### the loop that keeps the least ones -/
def stepP (r : List AS) (q : AS) : List AS := if r.any (fun y => sub y.2 q.2) then r else r ++ [q]
theorem foldP_map : ∀ (N : List AS) (r : List AS), (N.foldl stepP r).map (·.2) = (N.map (·.2)).foldl (fun r x => if r.any (fun y => sub y x) then r else r ++ [x]) (r.map (·.2))
  | [], r => rfl
  | q :: N, r => by
    rw [List.foldl_cons, foldP_map N, List.map_cons, List.foldl_cons]
    congr 1
    unfold stepP
    rw [List.any_map]
    by_cases c : (r.any fun y => sub y.2 q.2) = true
    · rw [if_pos c]
      show _ = if (r.any fun y => sub y.2 q.2) = true then _ else _
      rw [if_pos c]
    · rw [if_neg c, List.map_append]
      show _ = if (r.any fun y => sub y.2 q.2) = true then _ else _
      rw [if_neg c]
      rfl
theorem foldP_sub : ∀ (N : List AS) (r : List AS), ∀ q ∈ N.foldl stepP r, q ∈ r ∨ q ∈ N
  | [], r, q, h => .inl h
  | x :: N, r, q, h => by
    rw [List.foldl_cons] at h
    rcases foldP_sub N _ q h with h | h
    · unfold stepP at h
      split at h
      · exact .inl h
      · rcases List.mem_append.mp h with h | h
        · exact .inl h
        · rw [List.mem_singleton.mp h]
          exact .inr (.head _)
    · exact .inr (.tail _ h)
theorem foldP_len : ∀ (N : List AS) (r : List AS), (N.foldl stepP r).length ≤ r.length + N.length
  | [], r => Nat.le_refl _
  | x :: N, r => by
    rw [List.foldl_cons, List.length_cons]
    have z := foldP_len N (stepP r x)
    have : (stepP r x).length ≤ r.length + 1 := by
      unfold stepP
      split
      · omega
      · rw [List.length_append]
        exact Nat.le_refl _
    omega
theorem foldP_least {M N : List AS} (can : ∀ q ∈ M, Can q.2) (srt : (N.map (·.2)).Pairwise ltP) (mem : Mem M N) : Least (fun x => ∃ q ∈ M, q.2 = x) ((N.foldl stepP []).map (·.2)) := by
  rw [foldP_map]
  refine leastF_least (S := fun x => ∃ q ∈ M, q.2 = x) (fun x ⟨q, hq, e⟩ => e ▸ can q hq) srt fun x => ?_
  constructor
  · intro hx
    obtain ⟨q, hq, e⟩ := List.mem_map.mp hx
    exact ⟨q, mem.sub q hq, e⟩
  · rintro ⟨q, hq, rfl⟩
    exact mem.all q hq
end FM
/-! Lists of texts asked for a member; dicts by d[k] = v: their keys. -/
namespace LG
open PySem PySem.Spec PyProof.Rows L2 Evl
theorem inV_str {n : Str} : ∀ ns : List Str, inV (.str n) (ns.map V.str) = decide (n ∈ ns)
  | [] => by simp [inV]
  | m :: ns => by
    have ih := inV_str (n := n) ns
    unfold inV at ih ⊢
    rw [List.map_cons, List.any_cons, ih]
    have e : eqV (.str m) (.str n) = decide (n = m) := by
      by_cases h : n = m
      · subst h
        simp [eqV]
      · simp [eqV, h]
        exact fun z => h z.symm
    rw [e, ← Bool.decide_or]
    simp
/-- [e for j in a new list if ..] -/
theorem el_lcLN {K : PySem.W.Frag} {σ : L2.St} {H : Hp} {tl te : TE} {t : TT} {j : Nat} {vs : List Nat} {xs : List V} (f : Nat → Bool) (v : Nat → V) (h : EvL tl σ H xs) (hz : xs.length ≤ 40000) (hw : ∀ x, wipe ((wipe σ vs).set j (some x)) vs = wipe σ vs)
    (ht : ∀ (i : Nat) (x : V) H1, Ex H H1 → xs[i]? = some x → EvT t ((wipe σ vs).set j (some x)) H1 (f i)) (he : ∀ (i : Nat) (x : V) H1, Ex H H1 → xs[i]? = some x → f i = true → Ev te ((wipe σ vs).set j (some x)) H1 (v i)) : EvL (tLc (iList K tl) (gName j) t te vs) σ H (given xs.length f v) := fun H1 e Q q =>
  h H1 e _ fun p H2 hp e2 h2 => el_lcL (K := K) (tl := tC (.ref p)) (H := H2) f v ev_c (sq_of h2) hz hw (fun i x H3 e3 => ht i x H3 ((e.trans e2).trans e3)) (fun i x H3 e3 => he i x H3 ((e.trans e2).trans e3)) H2 (Ex.refl _) Q fun r H3 hr e3 h3 => q r H3 (fresh_back e2 hr) (e2.trans e3) h3
theorem put_new {kvs : List (Key × V)} {k : Key} {v : V} (h : k ∉ kvs.map (·.1)) : putK kvs k v = kvs ++ [(k, v)] := by
  unfold putK
  rw [if_neg]
  rw [List.any_eq_true]
  rintro ⟨x, hx, e⟩
  exact h (List.mem_map.mpr ⟨x, hx, of_decide_eq_true e⟩)
theorem er_map {α β : Type} (f : α → β) : ∀ (l : List α) (i : Nat), (l.map f).eraseIdx i = (l.eraseIdx i).map f
  | [], _ => rfl
  | _ :: _, 0 => rfl
  | x :: l, i + 1 => by
    rw [List.map_cons, List.eraseIdx_cons_succ, List.eraseIdx_cons_succ, List.map_cons, er_map f l i]
theorem er_perm {α : Type} : ∀ (l : List α) (i : Nat) (h : i < l.length), l.Perm (l[i] :: l.eraseIdx i)
  | x :: l, 0, _ => List.Perm.refl _
  | x :: l, i + 1, h => by
    have ih := er_perm l i (by simpa using h)
    rw [List.eraseIdx_cons_succ, List.getElem_cons_succ]
    exact (List.Perm.cons x ih).trans (List.Perm.swap _ _ _)
theorem keys_few {kvs : List (Key × V)} (key : ∀ kv ∈ kvs, ∃ n, n ∈ TM.names ∧ kv.1 = Sum.inr n) (nd : (kvs.map (·.1)).Nodup) : kvs.length ≤ 8 := by
  have := List.Nodup.length_le_of_subset (l₂ := TM.names.map (Sum.inr : Str → Key)) nd fun k hk => by
    obtain ⟨kv, hkv, rfl⟩ := List.mem_map.mp hk
    obtain ⟨n, hn, e⟩ := key kv hkv
    exact List.mem_map.mpr ⟨n, hn, e.symm⟩
  simpa [TM.names] using this
theorem isSome_of_key {kvs : List (Key × V)} {k : Key} (h : k ∈ kvs.map (·.1)) : (valV kvs k).isSome = true := by
  rw [← valV_any, List.any_eq_true]
  obtain ⟨kv, hkv, e⟩ := List.mem_map.mp h
  exact ⟨kv, hkv, decide_eq_true e⟩
theorem all_false {α : Type} {xs : List α} {f : α → Bool} {x : α} (h : x ∈ xs) (hf : f x = false) : (xs.map f).all id = false := by
  rw [List.all_map, Bool.eq_false_iff]
  intro z
  have := List.all_eq_true.mp z x h
  rw [Function.comp, hf] at this
  cases this
theorem put_nodup {kvs : List (Key × V)} {k : Key} {v : V} (nd : (kvs.map (·.1)).Nodup) : ((putK kvs k v).map (·.1)).Nodup := by
  unfold putK
  by_cases c : (kvs.any fun kv => decide (kv.1 = k)) = true
  · rw [if_pos c, List.map_map]
    have : ((fun x : Key × V => x.1) ∘ fun kv => if kv.1 = k then (kv.1, v) else kv) = fun x => x.1 := by
      funext x
      by_cases e : x.1 = k
      · simp only [Function.comp, if_pos e]
      · simp only [Function.comp, if_neg e]
    rw [this]
    exact nd
  · rw [if_neg c, List.map_append]
    refine List.nodup_append.mpr ⟨nd, by simp, fun x hx y hy e => c ?_⟩
    obtain ⟨kv, hkv, rfl⟩ := List.mem_map.mp hx
    rw [List.map_cons, List.map_nil, List.mem_singleton] at hy
    rw [List.any_eq_true]
    exact ⟨kv, hkv, decide_eq_true (e.trans hy)⟩
theorem put_mem {kvs : List (Key × V)} {k : Key} {v : V} : ∀ kv ∈ putK kvs k v, (kv ∈ kvs ∨ kv = (k, v)) := by
  intro kv h
  unfold putK at h
  by_cases c : (kvs.any fun kv => decide (kv.1 = k)) = true
  · rw [if_pos c] at h
    obtain ⟨x, hx, rfl⟩ := List.mem_map.mp h
    by_cases e : x.1 = k
    · rw [if_pos e, ← e]; exact .inr rfl
    · rw [if_neg e]; exact .inl hx
  · rw [if_neg c] at h
    rcases List.mem_append.mp h with h | h
    · exact .inl h
    · exact .inr (List.mem_singleton.mp h)
theorem put_in {kvs : List (Key × V)} {k : Key} {v : V} : (k, v) ∈ putK kvs k v := by
  unfold putK
  by_cases c : (kvs.any fun kv => decide (kv.1 = k)) = true
  · rw [if_pos c]
    obtain ⟨x, hx, e⟩ := List.any_eq_true.mp c
    have e := of_decide_eq_true e
    exact List.mem_map.mpr ⟨x, hx, by rw [if_pos e, e]⟩
  · rw [if_neg c]
    exact List.mem_append_right _ List.mem_cons_self
end LG
namespace K16
open PySem PySem.Spec PyProof.Rows L2 LG Evl FM TB
theorem all_subs (xs ys : List Str) : (xs.map fun p => decide (p ∈ ys)).all id = sub xs ys := by
  unfold sub
  rw [List.all_map]
  rfl
theorem ev_all {K : PySem.W.Frag} {σ : L2.St} {H : Hp} {te : TE} {bs : List Bool} (h : EvL te σ H (bs.map V.bl)) : Ev (tCB (rAll K) (tCons te tNil)) σ H (.bl (bs.all id)) := fun H1 e Q q => h H1 e _ fun p H2 _ e2 h2 => ⟨p, bs, rfl, sq_of h2, q H2 e2⟩
theorem ev_any {K : PySem.W.Frag} {σ : L2.St} {H : Hp} {te : TE} {bs : List Bool} (h : EvL te σ H (bs.map V.bl)) : Ev (tCB (rAny K) (tCons te tNil)) σ H (.bl (bs.any id)) := fun H1 e Q q => h H1 e _ fun p H2 _ e2 h2 => ⟨p, bs, rfl, sq_of h2, q H2 e2⟩
section
variable {P : Program} {w : World} {K : PySem.W.Frag} {mg : Str → Option Value} {base : Heap} {a : At}
def sp_is_within (K : PySem.W.Frag) : Sp := fun vs H Q _ => ∃ (p q : Addr) (xs ys : List Str), vs = [.ref p, .ref q] ∧ SqT K H p (xs.map V.str) ∧ SqT K H q (ys.map V.str) ∧ xs.length ≤ 1000 ∧ ∀ H', Ex H H' → Q (.bl (sub xs ys)) H'
theorem flat_strs (ys : List Str) : (ys.map V.str).all flatV = true := by
  rw [List.all_eq_true]
  intro x hx
  obtain ⟨y, _, rfl⟩ := List.mem_map.mp hx
  rfl
theorem ok_is_within (T : Txt K mg a) : Fn P w K mg base 1 a.is_within (sp_is_within K) := by
  refine T.d_is_within.fn sc_is_within (fun _ _ _ _ _ _ us hl => match us, hl with | [_, _], _ => rfl) (fun vs H Q E h => ?_) (fun cdv A outer s H vs Q E hg hr h => ?_)
  · obtain ⟨_, _, _, _, rfl, _⟩ := h
    rfl
  · obtain ⟨p, q0, xs, ys, rfl, hp, hq, hx, q⟩ := h
    have nd := sc_is_within.nd
    refine ⟨_, (pss_one (ps_ret (pe_callB (cr_all rfl) (by rfl) T.z_all (by decide +kernel) (pa_cons (pe_lc rfl (own := [("place", 2)]) (g := gName 2) (by exact nd) (pi_tup (pv 0)) (blkOk_by (own := [("place", 2)]) (N := ["part", "places", "place"]) (sc := defScope s_is_within) (by decide +kernel)) (fun _ _ _ _ _ => (pg_name (i := 2) nd rfl (.inl rfl))) (fun _ _ _ _ _ => pts_nil) (fun _ _ _ _ _ => (pe_cmpR (op_in_seq : OpR _ (compareOp .In) (rIn K false)) (pv 2) (pv 1) (by rfl)))) pa_nil)))), ?_⟩
    refine s_ret (v := .bl (sub xs ys)) (ev_is (ev_all (K := K) (bs := xs.map fun p => decide (p ∈ ys)) ?_) (by rw [all_subs])) fun H1 e => q H1 e
    refine el_tmap (ev_var rfl) hp (by rw [List.length_map]; omega) (by simp) (fun _ => rfl) fun i x y H1 e hi hy => ?_
    rw [List.getElem?_map] at hi
    obtain ⟨z, hz, rfl⟩ := Option.map_eq_some_iff.mp hi
    rw [List.map_map, List.getElem?_map, hz] at hy
    cases hy
    exact ev_is (ev_op (ev_var rfl) (ev_var rfl) (rv_inT (neg := false) (ex_t e hq) rfl (flat_strs ys))) (by rw [if_neg Bool.false_ne_true, inV_str]; rfl)
end
end K16
namespace K16
open PySem PySem.Spec PyProof.Rows L2 LG Evl FM TB
section
variable {P : Program} {w : World} {K : PySem.W.Frag} {mg : Str → Option Value} {base : Heap} {a : At}
def sp_least_sets (K : PySem.W.Frag) : Sp := fun vs H Q _ => ∃ (l : Addr) (M : List AS), vs = [.ref l] ∧ SqL K H l (refs M) ∧ Tups K H M ∧ (∀ q ∈ M, Can q.2) ∧
  ∀ f R H', H f = none → Ex H H' → H' f = some (.lst (refs R)) → (∀ q ∈ R, q ∈ M) → Least (fun x => ∃ q ∈ M, q.2 = x) (R.map (·.2)) → Q (.ref f) H'
theorem ok_least_sets (T : Txt K mg a) : Fn P w K mg base 3 a.least_sets (sp_least_sets K) := by
  have G_is_within := ok_is_within (P := P) (w := w) (base := base) T
  refine T.d_least_sets.fn sc_least_sets (fun _ _ _ _ _ _ us hl => match us, hl with | [_], _ => rfl) (fun vs H Q E h => ?_) (fun cdv A outer s H vs Q E hg hr h => ?_)
  · obtain ⟨_, _, rfl, _⟩ := h
    rfl
  · obtain ⟨l, M, rfl, hl, ht, can, q⟩ := h
    have nd := sc_least_sets.nd
    have hu64 : (A.deeper _).units + 64 < cLine := hr.units
    refine ⟨_, (pss_cons (ps_set (i := 1) nd rfl (.inl rfl) (pe_lst pa_nil))
    (pss_cons (ps_for PassesOwn.leaving rfl (pi_list (pe_sortLen (by show (A.deeper _).units + 10 < cLine; omega) (by rfl) T.z_sorted (by decide +kernel) (by rfl) T.z_len (by decide +kernel) (pe_callB (cr_sortedTS rfl (by show (A.deeper _).units + 10 < cLine; omega)) (by rfl) T.z_sorted (by decide +kernel) (pa_cons (pe_scT (by show (A.deeper _).units + 1 < cLine; omega) rfl (own := [("one", 3)]) (g := gName 3) (by exact nd) (pi_list (pv 0)) (blkOk_by (own := [("one", 3)]) (N := ["sets", "found", "places", "one"]) (sc := defScope s_least_sets) (by decide +kernel)) (fun _ _ _ _ _ => (pg_name (i := 3) nd rfl (.inl rfl))) (fun _ _ _ _ _ => pts_nil) (fun _ _ _ _ _ => (pv 3))) pa_nil)))) (pg_name (i := 2) nd rfl (.inr rfl))
      (pss_one (ps_if (pt_not (pt_val (pe_callB (cr_any rfl) (by rfl) T.z_any (by decide +kernel) (pa_cons (pe_lc rfl (own := [("one", 3)]) (g := gName 3) (by exact nd) (pi_list (pv 1)) (blkOk_by (own := [("one", 3)]) (N := ["sets", "found", "places", "one"]) (sc := defScope s_least_sets) (by decide +kernel)) (fun _ _ _ _ _ => (pg_name (i := 3) nd rfl (.inl rfl))) (fun _ _ _ _ _ => pts_nil) (fun _ _ _ _ _ => (pe_fn G_is_within hg (hr.mono (by decide)) T.d_is_within.kp T.d_is_within.m (by rfl) passL (pa_cons (pv 3) (pa_cons (pv 2) pa_nil))))) pa_nil)))) (pss_one (ps_expr (pe_bmK (K := K) rfl PySem.F.plainAttrs_list PySem.F.slot_list_append PySem.F.type_list_append mt_append (pv 1) (pa_cons (pv 2) pa_nil)))) pss_nil)))
    (pss_one (ps_ret (pv 1))))), ?_⟩
    refine ⟨(by decide : 0 ≤ sizeLine), fun f hf => ?_⟩
    have e0 : Ex H (upd H f (.lst [])) := Ex.new hf
    have f0 : (upd H f (.lst [])) f = some (.lst []) := upd_same
    generalize upd H f (.lst []) = H0 at *
    refine ev_order (P := P) (w := w) (K := K) (σ := [some (.ref l), some (.ref f), none, none]) (j := 3) (ev_var rfl) (ex_l e0 hl) (ht.up e0) can (fun _ => rfl) (fun _ => rfl) H0 (Ex.refl _) _ fun p N H1 hp e1 h1 srt mem => ⟨p, rfl, ⟨_, sq_of h1⟩, ?_⟩
    have pf : p ≠ f := (ne_of_none f0 hp).symm
    have few : N.length ≤ 256 := by
      have z := can_few mem.nd fun x hx => by
        obtain ⟨r, hr, rfl⟩ := List.mem_map.mp hx
        exact can r (mem.sub r hr)
      rwa [List.length_map] at z
    refine for_list (K := K) (a := p) (xs := refs N) (fun i σ' H' => (∃ u, σ' = [some (.ref l), some (.ref f), u, none]) ∧ (∀ b o, b ≠ f → H1 b = some o → H' b = some o) ∧ H' f = some (.lst (refs ((N.take i).foldl stepP [])))) ⟨⟨_, rfl⟩, fun _ _ _ z => z, e1 _ _ f0⟩ (fun i σ' H' _ h => sq_of (h.2.1 p _ pf h1)) ?_ ?_
    · rintro i x σ' H2 hx ⟨⟨u, rfl⟩, k, hR⟩
      have hx : (N.map fun q => V.ref q.1)[i]? = some x := hx
      rw [List.getElem?_map] at hx
      obtain ⟨m, hm, rfl⟩ := Option.map_eq_some_iff.mp hx
      have hmN := List.mem_of_getElem? hm
      have k0 : ∀ b o, H b = some o → H2 b = some o := fun b o z => k b o (ne_of_none z hf) (e1 _ _ (e0 _ _ z))
      have tN : ∀ r ∈ N, SqT K H2 r.1 (r.2.map V.str) := fun r hr => ex_t k0 (ht r (mem.sub r hr))
      have cN : ∀ r ∈ N, r.2.length ≤ 1000 := fun r hr => by
        have z := (can r (mem.sub r hr)).length_le
        have : TM.names.length = 8 := by decide
        omega
      have sR : ∀ r ∈ (N.take i).foldl stepP [], r ∈ N := fun r hr => by
        rcases foldP_sub _ _ r hr with h | h
        · cases h
        · exact List.mem_of_mem_take h
      have lR : ((N.take i).foldl stepP []).length ≤ 256 := by
        have z := foldP_len (N.take i) []
        rw [List.length_take] at z
        simp at z
        omega
      have nx : (N.take (i + 1)).foldl stepP [] = stepP ((N.take i).foldl stepP []) m := by
        rw [List.take_succ, hm, List.foldl_append]
        rfl
      generalize (N.take i).foldl stepP [] = R at *
      refine s_when (b := !(R.map fun y => sub y.2 m.2).any id) (et_not (et_B (ev_any (K := K) ?_))) (fun c H3 e3 => ?_) (fun c H3 e3 => ?_)
      · refine el_lmap (ev_var rfl) (sq_of hR) (by rw [refs_len]; omega) (by rw [refs_len]; simp) (fun _ => rfl) fun j y z H4 e4 hy hz => ?_
        have hy : (R.map fun q => V.ref q.1)[j]? = some y := hy
        rw [List.getElem?_map] at hy
        obtain ⟨r, hr, rfl⟩ := Option.map_eq_some_iff.mp hy
        rw [List.map_map, List.getElem?_map, hr] at hz
        cases hz
        have hrm := List.mem_of_getElem? hr
        exact ev_fn (ea_cons (ev_var rfl) (ea_cons (ev_var rfl) ea_nil)) fun H5 e5 Q' q' E' => ⟨r.1, m.1, r.2, m.2, rfl, ex_t (e4.trans e5) (tN r (sR r hrm)), ex_t (e4.trans e5) (tN m hmN), cN r (sR r hrm), q'⟩
      · refine s_app (e3 _ _ hR) (ev_var rfl) (ev_var rfl) (by rw [refs_len]; omega) fun H4 e4 => ?_
        refine ⟨⟨_, rfl⟩, fun b o nb z => by rw [upd_ne nb]; exact (e3.trans e4) _ _ (k b o nb z), ?_⟩
        rw [upd_same, nx]
        unfold stepP
        rw [if_neg (fun z => by
          rw [List.any_map] at c
          have z : (R.any (id ∘ fun y => sub y.2 m.2)) = true := z
          rw [z] at c
          cases c)]
        unfold refs
        rw [List.map_append]
        rfl
      · refine ⟨⟨_, rfl⟩, fun b o nb z => e3 _ _ (k b o nb z), ?_⟩
        rw [nx]
        unfold stepP
        rw [if_pos (by
          rw [List.any_map] at c
          have z : (R.any (id ∘ fun y => sub y.2 m.2)) = true := by
            rw [Bool.not_eq_false'] at c
            exact c
          exact z)]
        exact e3 _ _ hR
    · rintro σ' H2 ⟨⟨u, rfl⟩, k, hR⟩
      rw [refs_len, List.take_length] at hR
      have k0 : Ex H H2 := fun b o z => k b o (ne_of_none z hf) (e1 _ _ (e0 _ _ z))
      exact ⟨.ref f, rfl, q f _ H2 hf k0 hR (fun r hr => by
        rcases foldP_sub _ _ r hr with h | h
        · cases h
        · exact mem.sub r h) (foldP_least can srt mem)⟩
end
end K16
/-! A comprehension over two lists, one in the other. -/
namespace LG
open PySem PySem.Spec PyProof.Rows L2 Evl
theorem q_lc2 {K : PySem.W.Frag} {tl te : TE} {σ : L2.St} {H : Hp} {a b : Addr} {xs ys : List V} {i1 j j1 : Nat} {vs vs1 : List Nat} {Q : VK} (h : Ev tl σ H (.ref a)) (hx : SqL K H a xs) (hy : SqL K H b ys) (hz : xs.length * ys.length < 100000)
    (hb : ∀ x, ((wipe σ vs).set j (some x))[i1]? = some (some (.ref b))) (hw : ∀ x, wipe ((wipe σ vs).set j (some x)) vs = wipe σ vs) (hw1 : ∀ x y, wipe ((wipe ((wipe σ vs).set j (some x)) vs1).set j1 (some y)) vs1 = wipe ((wipe σ vs).set j (some x)) vs1)
    (W : Hp → Addr → Nat → Nat → List V → Hp → Prop) (keep : ∀ H2 D i k acc H', W H2 D i k acc H' → Ex H2 H')
    (h0 : ∀ H2 D, Ex H H2 → H2 D = none → W H2 D 0 0 [] (upd H2 D (.lst [])))
    (step : ∀ H2 D i k x y acc H', Ex H H2 → H2 D = none → xs[i]? = some x → ys[k]? = some y → W H2 D i k acc H' → H' D = some (.lst acc) →
      ∀ Q' : VK, (∀ v H4, H4 D = some (.lst acc) → W H2 D i (k + 1) (acc ++ [v]) (upd H4 D (.lst (acc ++ [v]))) → Q' v H4) → te ((wipe ((wipe σ vs).set j (some x)) vs1).set j1 (some y)) H' Q')
    (turn : ∀ H2 D i acc H', i < xs.length → W H2 D i ys.length acc H' → W H2 D (i + 1) 0 acc H')
    (fin : ∀ H2 D acc H', Ex H H2 → H2 D = none → W H2 D xs.length 0 acc H' → H' D = some (.lst acc) → acc.length = xs.length * ys.length → Q (.ref D) H') :
    tLc2 (iList K tl) (gName j) tYes (iList K (tVar i1)) (gName j1) tYes te vs vs1 σ H Q := h H (Ex.refl H) _ fun H2 e2 => ⟨a, rfl, ⟨xs, ex_l e2 hx⟩, fun D hD => by
  refine ⟨fun i m H' => m = xs.length - i ∧ i ≤ xs.length ∧ ∃ acc, W H2 D i 0 acc H' ∧ H' D = some (.lst acc) ∧ acc.length = i * ys.length, ⟨xs.length, by simp, Nat.zero_le _, [], h0 H2 D e2 hD, upd_same, by simp⟩, ?_⟩
  rintro i m H' ⟨rfl, hi, acc, w, hac, hln⟩
  have hxa : SqL K H' a xs := ex_l (e2.trans (keep _ _ _ _ _ _ w)) hx
  rcases Nat.lt_or_ge i xs.length with hlt | hge
  · refine .inr ⟨⟨xs, xs[i], hxa, by simp [hlt]⟩, fun H' => ∃ acc, W H2 D (i + 1) 0 acc H' ∧ H' D = some (.lst acc) ∧ acc.length = (i + 1) * ys.length, fun H' ⟨acc, z1, z2, z3⟩ => ⟨xs.length - (i + 1), by omega, rfl, hlt, acc, z1, z2, z3⟩, ?_⟩
    rintro x H3 ⟨eH, hyl⟩
    subst eH
    have hxi : xs[i]? = some x := hyl xs hxa
    refine ⟨hw x, ?_⟩
    dsimp only [tYes]
    rw [if_pos rfl]
    refine ⟨.ref b, hb x, b, rfl, ⟨ys, ex_l (e2.trans (keep _ _ _ _ _ _ w)) hy⟩, ?_⟩
    refine ⟨fun k m H' => m = ys.length - k ∧ k ≤ ys.length ∧ ∃ acc, W H2 D i k acc H' ∧ H' D = some (.lst acc) ∧ acc.length = i * ys.length + k, ⟨ys.length, by simp, Nat.zero_le _, acc, w, hac, by omega⟩, ?_⟩
    rintro k m H4 ⟨rfl, hk, acc4, w4, hac4, hln4⟩
    have hyb : SqL K H4 b ys := ex_l (e2.trans (keep _ _ _ _ _ _ w4)) hy
    rcases Nat.lt_or_ge k ys.length with klt | kge
    · refine .inr ⟨⟨ys, ys[k], hyb, by simp [klt]⟩, fun H' => ∃ acc, W H2 D i (k + 1) acc H' ∧ H' D = some (.lst acc) ∧ acc.length = i * ys.length + (k + 1), fun H' ⟨acc, z1, z2, z3⟩ => ⟨ys.length - (k + 1), by omega, rfl, klt, acc, z1, z2, z3⟩, ?_⟩
      rintro y H5 ⟨eH5, hyl5⟩
      subst eH5
      have hyk : ys[k]? = some y := hyl5 ys hyb
      refine ⟨hw1 x y, ?_⟩
      dsimp only [tYes]
      rw [if_pos rfl]
      refine step H2 D i k x y acc4 _ e2 hD hxi hyk w4 hac4 _ fun v H6 h6 w6 => ⟨acc4, h6, sz_lt ?_, acc4 ++ [v], w6, upd_same, by rw [List.length_append, hln4]; simp; omega⟩
      have : (i + 1) * ys.length ≤ xs.length * ys.length := Nat.mul_le_mul_right _ hlt
      rw [Nat.succ_mul] at this
      omega
    · obtain rfl : k = ys.length := by omega
      exact .inl ⟨⟨ys, hyb, Nat.le_refl _⟩, acc4, turn _ _ _ _ _ hlt w4, hac4, by rw [hln4, Nat.succ_mul]⟩
  · obtain rfl : i = xs.length := by omega
    exact .inl ⟨⟨xs, hxa, Nat.le_refl _⟩, fin H2 D acc H' e2 hD w hac hln⟩⟩
end LG
/-! set(t), t a tuple of ints and texts. -/
namespace LG
open PySem PySem.Spec PyProof.Rows L2
section
variable {P : Program} {w : World} {A : Around} {E : Value → Shared → Prop} {s : Shared}
/-- set.__init__(c, l): the members of the tuple l, from left to right -/
theorem sw_init_tup {l : Addr} {items : Array Value} (ks : List Key) (hh : A.handled = none) (hl : IsTup s.heap l items) (hit : List.length ks = items.size) (hk : ∀ (i : Nat) (v : Value), items[i]? = some v → ∃ k, ks[i]? = some k ∧ (mixKind P w).is k v = true) (hb : ks.length + 1 < scanBound)
    {R : Result → Shared → Prop} (h : ∀ (h' : Heap) (tk c : Nat), SW P w h' s.heap.objs.size (fun j => decide (j ∈ ks)) c → c ≤ ks.length → (∀ b o, s.heap.get? b = some o → h'.get? b = some o) → R (.ok (.ret .none)) { s with heap := h', toks := tk }) :
    codeAny (model P w) A (.call (.builtin "set.__init__") ⟨[.ref s.heap.objs.size, .ref l], []⟩) R { s with heap := s.heap.push (oSet w) } := by
  have hisz : items.size = ks.length := hit.symm
  have hT : Shared.TypeIs { s with heap := s.heap.push (oSet w) } (.ref s.heap.objs.size) "set" := ⟨_, oSet_in, rfl⟩
  have hi : s.heap.objs.size + 1 = (s.heap.push (oSet w)).objs.size := (Heap.size_push _ _).symm
  refine codeAny_call_builtin PySem.F.called_set.init.plain PySem.F.entry_set_init (check_set_init_1 hT ?_)
  obtain ⟨ol, hol, hcl, nl, hdl⟩ := hl
  obtain ⟨ocls, odict, odata, oslots⟩ := ol
  simp only at hcl hdl
  subst hcl
  subst hdl
  have hol' := Heap.get?_push_of_some (oSet w) hol
  have hl1 : IsTup (s.heap.push (oSet w)) l items := ⟨_, hol', rfl, nl, rfl⟩
  have f1 := PySem.F.sub_tuple_set
  have f2 := PySem.F.sub_tuple_frozenset
  have f3 : (Value.type "tuple" == Value.type "dict") = false := by decide
  have hlS : l < s.heap.objs.size := Heap.lt_size hol
  unfold Builtin.«set.__init__» noKeywords Builtin.Frozenset.updateFrom
  generalize hPI : pyIter = PI
  wp_walk
  subst hPI
  refine wpAny_pyIter_tuple hl1 ?_
  refine wpAny_bind (wpAny_runValue ?_)
  have hh3 : A.in1.in1.handled = none := by simp [hh]
  have nI : l ≠ (s.heap.push (oSet w)).objs.size := by
    rw [← hi]
    exact Nat.ne_of_lt (Nat.lt_succ_of_lt hlS)
  have nS : s.heap.objs.size ∉ [(s.heap.push (oSet w)).objs.size, l] := by
    rw [← hi]
    simp only [List.mem_cons, List.not_mem_nil, or_false, not_or]
    exact ⟨Nat.ne_of_lt (Nat.lt_succ_self _), Nat.ne_of_gt hlS⟩
  refine sw_update ((Walks.tuple hh3 _ l nI items).toS) s.heap.objs.size nS ks hisz hb hk (items.size - 0) 0 _ (by omega) (Nat.zero_le _) ?hst ?hS0 ?hR
  case hst => exact ⟨⟨_, Heap.get?_push_size _ rfl, rfl, rfl⟩, hl1.push _⟩
  case hS0 =>
    have z : ((s.heap.push (oSet w)).push { cls := .type "tuple_iterator", data := .fields #[.ref l, .int 0 0] }).get? s.heap.objs.size = some (oSet w) := Heap.get?_push_of_some _ oSet_in
    exact ⟨0, Nat.le_refl 0, (sw_nil z).congr fun k => by simp⟩
  intro s' c hm hc hS
  obtain ⟨h', g', d', tk', os'⟩ := s'
  obtain rfl : g' = s.gens := hm.gens
  obtain rfl : d' = s.drawn := hm.drawn
  obtain rfl : os' = s.os := hm.os
  show wpAny _ _ _ _ _ _
  refine wpAny_pure ?_
  show wpAny _ _ (ret Value.none) _ _ _
  rw [hisz] at hc
  refine wpAny_pure (h h' tk' c hS hc fun b o e => hm.heap b o ?_ (Heap.get?_push_of_some _ (Heap.get?_push_of_some _ e)))
  have hb0 := Heap.lt_size e
  rw [← hi]
  simp only [List.mem_cons, List.not_mem_nil, or_false, not_or]
  exact ⟨Nat.ne_of_lt hb0, Nat.ne_of_lt (Nat.lt_succ_of_lt hb0)⟩
/-- set(l), l a tuple of ints and texts -/
theorem call_setK_tup {l : Addr} {items : Array Value} (ks : List Key) {Q : Value → Shared → Prop} (hh : A.handled = none) (hl : IsTup s.heap l items) (hit : List.length ks = items.size) (hk : ∀ (i : Nat) (v : Value), items[i]? = some v → ∃ k, ks[i]? = some k ∧ (mixKind P w).is k v = true) (hb : ks.length + 1 < scanBound)
    (h : ∀ (h' : Heap) (tk c : Nat), SW P w h' s.heap.objs.size (fun j => decide (j ∈ ks)) c → c ≤ ks.length → (∀ b o, s.heap.get? b = some o → h'.get? b = some o) → Q (.ref s.heap.objs.size) { s with heap := h', toks := tk }) :
    wpAny (model P w) A (call (.type "set") [.ref l]) Q E s := by
  obtain ⟨c, tl, hmro⟩ := PySem.F.called_set.mro
  have hmade := PySem.F.called_set.made
  have hsub := PySem.F.called_set.sub
  have h1 := PySem.F.called_set.notType
  have h2 := PySem.F.called_set.canCreate
  have hct := PySem.F.typeCall_set_1 (.ref l)
  have hli := PySem.F.called_set.init.lookup
  have hbi := PySem.F.called_set.init.bind (.ref s.heap.objs.size)
  refine wpAny_call (codeAny_of_tree ?_)
  show wpAny _ _ (callAny (.type "set") _) _ _ _
  refine wpAny_pure ⟨Code.quiet_builtin _ (by decide +kernel), codeAny_builtin PySem.F.entry_type_call ?_⟩
  rw [Around.under_plain (weight_type_call_type "set" [.ref l] []) rfl]
  repeat (any_goals (first | assumption | wp_step))
  refine codeAny_mono (code_set_led1 (.ref l) (E := E) (Q₁ := fun obj s₁ => obj = .ref s.heap.objs.size ∧ s₁ = { s with heap := s.heap.push (oSet w) }) ⟨rfl, rfl⟩) fun r s₁ hr => ?_
  match r, hr with
  | .error e, hr => exact hr
  | .ok (.ret obj), ⟨e1, e2⟩ =>
    subst e1 e2
    have hT : Shared.TypeIs { s with heap := s.heap.push (oSet w) } (.ref s.heap.objs.size) "set" := ⟨_, oSet_in, rfl⟩
    repeat (any_goals (first | assumption | wp_step))
    refine codeAny_mono (sw_init_tup (R := wants (fun r s₂ => r = .none ∧ ∃ h' tk c, s₂ = { s with heap := h', toks := tk } ∧ SW P w h' s.heap.objs.size (fun j => decide (j ∈ ks)) c ∧ c ≤ ks.length ∧
      (∀ b o, s.heap.get? b = some o → h'.get? b = some o)) E) ks (by simp [hh]) hl hit hk hb fun h' tk c a b e => ⟨rfl, h', tk, c, rfl, a, b, e⟩) fun r₂ s₂ hr₂ => ?_
    match r₂, hr₂ with
    | .ok (.ret r), ⟨e1, h', tk, c', e2, hS', hc', hk'⟩ =>
      subst e1 e2
      repeat (any_goals (first | assumption | wp_step))
      exact h _ _ _ hS' hc' hk'
    | .error e, hr₂ => exact hr₂
end
def rSetKT (K : PySem.W.Frag) (P : Program) (w : World) : List V → Hp → VK → Prop := fun xs H Q => ∃ (l : Addr) (ks : List Key), xs = [.ref l] ∧ SqT K H l (ks.map kV) ∧ ks.length ≤ 1000 ∧
  ∀ (p : Addr) (S : Key → Bool) (n : Nat), H p = none → (∀ k, S k = true ↔ k ∈ ks) → n ≤ ks.length → Q (.ref p) (upd H p (SWO P w p S n))
section
variable {X : Cx}
theorem cr_setKT (hc : X.calm = true) : CallR X (.type "set") (rSetKT X.K X.prog X.w) := by
  intro pins s σ H xs us Q I r h
  obtain ⟨l, ks, rfl, hs, hl, q⟩ := h
  obtain ⟨u, rfl, r1⟩ := vals1 r
  obtain rfl : u = Value.ref l := r1
  obtain ⟨its, rv, pl, _⟩ := I.tuple hs
  obtain ⟨h1, h2⟩ := vals_keys (P := X.prog) (w := X.w) rv
  refine call_setK_tup ks (I.ok.hd hc) pl (by simpa using h1) (fun i v hv => h2 i v (by simpa using hv)) (by unfold scanBound; omega) fun h' tk c hS hcl hk => ?_
  exact ⟨.ref s.heap.objs.size, upd H s.heap.objs.size (SWO X.prog X.w s.heap.objs.size (fun j => decide (j ∈ ks)) c), I.laid hk (Nat.le_refl _) (swo_new hS), rfl, q _ _ _ (I.hok.fresh (Nat.le_refl _)) (fun k => decide_eq_true_iff) hcl⟩
end
end LG
/-! tuple(sorted(set(one + more))) -/
namespace FM
open PySem PySem.Spec PyProof.Rows L2 LG Evl TB TM
theorem can_of {xs : List Str} (hn : ∀ x ∈ xs, x ∈ names) (nd : xs.Nodup) (hs : sortedS xs = true) : Can xs := by
  have p1 := pw_of hn nd hs
  have e : xs = names.filter fun n => decide (n ∈ xs) := by
    refine map_ix_inj hn (fun y hy => (List.mem_filter.mp hy).1) (pw_unique p1 (List.Pairwise.sublist ((List.filter_sublist).map ix) (by decide)) fun i => ?_)
    rw [List.mem_map, List.mem_map]
    constructor
    · rintro ⟨p, hp, rfl⟩
      exact ⟨p, List.mem_filter.mpr ⟨hn p hp, decide_eq_true hp⟩, rfl⟩
    · rintro ⟨p, hp, rfl⟩
      exact ⟨p, of_decide_eq_true (List.mem_filter.mp hp).2, rfl⟩
  unfold Can
  rw [e]
  exact List.filter_sublist
def rTupOf (K : PySem.W.Frag) : List V → Hp → VK → Prop := fun xs H Q => ∃ p ys, xs = [.ref p] ∧ ((SqL K H p ys ∧ ∀ l, H l = none → Q (.ref l) (upd H l (.tup ys))) ∨ (SqT K H p ys ∧ Q (.ref p) H))
theorem cr_tupleOf {X : Cx} : CallR X (.type "tuple") (rTupOf X.K) := call_tuple_of
theorem Can.names {x : List Str} (h : Can x) : ∀ p ∈ x, p ∈ names := fun p hp => h.subset hp
theorem Can.short {x : List Str} (h : Can x) : x.length ≤ 8 := h.length_le
theorem ev_cat {K : PySem.W.Frag} {ta tb : TE} {σ : L2.St} {H : Hp} {p q : Addr} {xs ys : List V} (ha : Ev ta σ H (.ref p)) (hb : Ev tb σ H (.ref q)) (hx : SqT K H p xs) (hy : SqT K H q ys) (hz : xs.length + ys.length ≤ 100000) :
    ∀ H1, Ex H H1 → ∀ Q : VK, (∀ r H2, Ex H1 H2 → SqT K H2 r (xs ++ ys) → Q (.ref r) H2) → tOp (rCatA K) ta tb σ H1 Q := fun H1 e Q k =>
  ha H1 e _ fun H2 e2 => hb H2 (e.trans e2) _ fun H3 e3 => ⟨p, q, xs, ys, rfl, rfl, ex_t ((e.trans e2).trans e3) hx, ex_t ((e.trans e2).trans e3) hy, by rw [sizeLine_eq]; omega,
    fun z => k q H3 (e2.trans e3) (by rw [z]; exact ex_t ((e.trans e2).trans e3) hy), fun _ z => k p H3 (e2.trans e3) (by rw [z, List.append_nil]; exact ex_t ((e.trans e2).trans e3) hx), fun _ _ r hr => k r _ ((e2.trans e3).trans (Ex.new hr)) (st_of upd_same)⟩
theorem ev_join {P : Program} {w : World} {K : PySem.W.Frag} {ta tb : TE} {σ : L2.St} {H : Hp} {p q : Addr} {xs ys : List Str} (ha : Ev ta σ H (.ref p)) (hb : Ev tb σ H (.ref q)) (hx : SqT K H p (xs.map V.str)) (hy : SqT K H q (ys.map V.str)) (cx : Can xs) (cy : Can ys) :
    ∀ H1, Ex H H1 → ∀ Q : VK, (∀ r z H2, Ex H1 H2 → H2 r = some (.tup (z.map V.str)) → Both xs ys z → Q (.ref r) H2) →
      tCB (rTupOf K) (tCons (tCB (rSortedSWN P w) (tCons (tCB (rSetKT K P w) (tCons (tOp (rCatA K) ta tb) tNil)) tNil)) tNil) σ H1 Q := fun H1 e Q k => by
  show tOp (rCatA K) ta tb σ H1 (fun x H2 => rSetKT K P w [x] H2 fun y H3 => rSortedSWN P w [y] H3 fun z H4 => rTupOf K [z] H4 Q)
  refine ev_cat ha hb hx hy (by rw [List.length_map, List.length_map]; have := cx.short; have := cy.short; omega) H1 e _ fun r H2 e2 hr => ?_
  refine ⟨r, (xs ++ ys).map Sum.inr, rfl, by rw [kv_str, List.map_append]; exact hr, by rw [List.length_map, List.length_append]; have := cx.short; have := cy.short; omega, fun c S n hc hS _ => ?_⟩
  have inN : ∀ x, S (Sum.inr x) = true → x ∈ xs ∨ x ∈ ys := fun x hx => by
    obtain ⟨y, hy, e⟩ := List.mem_map.mp ((hS _).mp hx)
    rw [← Sum.inr.inj e]
    exact List.mem_append.mp hy
  refine ⟨c, S, n, names, rfl, upd_same, by decide, fun j hj => ?_, fun zs l h1 h2 h3 hl => ?_⟩
  · obtain ⟨y, hy, e⟩ := List.mem_map.mp ((hS _).mp hj)
    exact ⟨y, (List.mem_append.mp hy).elim (cx.names y) (cy.names y), e.symm⟩
  · have mem : ∀ x, x ∈ zs ↔ x ∈ xs ∨ x ∈ ys := fun x => (h3 x).trans ⟨inN x, fun h => (hS _).mpr (List.mem_map.mpr ⟨x, List.mem_append.mpr h, rfl⟩)⟩
    have e4 := (e2.trans (Ex.new (o := SWO P w c S n) hc)).trans (Ex.new (o := .lst (zs.map V.str)) hl)
    refine ⟨l, zs.map V.str, rfl, .inl ⟨sq_of upd_same, fun t ht => k t zs _ (e4.trans (Ex.new ht)) upd_same ⟨can_of (fun x hx => ((mem x).mp hx).elim (cx.names x) (cy.names x)) h2 h1, mem⟩⟩⟩
end FM
namespace K16
open PySem PySem.Spec PyProof.Rows L2 LG Evl FM TB
theorem tups_off {K : PySem.W.Frag} {H : Hp} {M : List AS} {D : Addr} {acc acc' : List V} (hD : H D = some (.lst acc)) (h : Tups K H M) : Tups K (upd H D (.lst acc')) M := fun q hq => by
  rcases h q hq with h | h
  · refine .inl ?_
    rcases h with h | ⟨ob, h⟩
    · exact .inl (by rw [upd_ne (fun z => by rw [z, hD] at h; cases h)]; exact h)
    · exact .inr ⟨ob, by rw [upd_ne (fun z => by rw [z, hD] at h; cases h)]; exact h⟩
  · exact .inr h
/-- a form that stands at a list -/
def FormAt (K : PySem.W.Frag) (H : Hp) (f : Addr) (M : List AS) (A : List Str → Bool) : Prop := H f = some (.lst (refs M)) ∧ Tups K H M ∧ Fm (M.map (·.2)) A
theorem FormAt.up {K : PySem.W.Frag} {H H' : Hp} {f : Addr} {M : List AS} {A : List Str → Bool} (e : Ex H H') (h : FormAt K H f M A) : FormAt K H' f M A := ⟨e _ _ h.1, h.2.1.up e, h.2.2⟩
/-- the forms of the first i parts -/
def WF (K : PySem.W.Frag) (ts : List TM.Tree) (H2 : Hp) (D : Addr) (i : Nat) (acc : List V) (H' : Hp) : Prop := Ex H2 H' ∧ ∀ (k : Nat) (x : V) (t : TM.Tree), acc[k]? = some x → ts[k]? = some t → ∃ f M, x = .ref f ∧ f ≠ D ∧ H2 f = none ∧ FormAt K H' f M (fun X => topT X t)
theorem wf_step {K : PySem.W.Frag} {ts : List TM.Tree} {H2 H' H4 : Hp} {D f : Addr} {i : Nat} {acc : List V} {M : List AS} {t : TM.Tree} (w : WF K ts H2 D i acc H') (hD : H2 D = none) (hl : acc.length = i) (hx : H' D = some (.lst acc)) (e4 : Ex H' H4) (hf : H' f = none) (ht : ts[i]? = some t) (fm : FormAt K H4 f M (fun X => topT X t)) : WF K ts H2 D (i + 1) (acc ++ [.ref f]) (upd H4 D (.lst (acc ++ [.ref f]))) := by
  have off : ∀ {g : Addr} {N : List AS} {A : List Str → Bool}, g ≠ D → FormAt K H4 g N A → FormAt K (upd H4 D (.lst (acc ++ [.ref f]))) g N A := fun {g N A} gd h => ⟨by rw [upd_ne gd]; exact h.1, tups_off (e4 _ _ hx) h.2.1, h.2.2⟩
  have fd : f ≠ D := fun z => by rw [z, hx] at hf; cases hf
  refine ⟨Ex.mut (w.1.trans e4) hD, fun k z u h1 h2 => ?_⟩
  rcases get_snoc h1 with z1 | ⟨k1, rfl⟩
  · obtain ⟨g, N, y1, y2, y0, y3⟩ := w.2 k z u z1 h2
    exact ⟨g, N, y1, y2, y0, off y2 (y3.up e4)⟩
  · rw [k1, hl, ht] at h2
    cases h2
    exact ⟨f, M, rfl, fd, fresh_back w.1 hf, off fd fm⟩
theorem allT_app {X : List Str} {ts : List TM.Tree} {t : TM.Tree} : allT X (ts ++ [t]) = (allT X ts && topT X t) := by
  rw [Bool.eq_iff_iff, Bool.and_eq_true, allT_iff, allT_iff]
  simp [or_imp, forall_and]
theorem anyT_app {X : List Str} {ts : List TM.Tree} {t : TM.Tree} : anyT X (ts ++ [t]) = (anyT X ts || topT X t) := by
  rw [Bool.eq_iff_iff, Bool.or_eq_true, anyT_iff, anyT_iff]
  simp [or_and_right, exists_or]
theorem fm_few {F : List (List Str)} {A : List Str → Bool} (h : Fm F A) : F.length ≤ 256 := can_few (List.Pairwise.imp (R := ltP) (S := fun a b => a ≠ b) (fun hab e => ltP_irrefl _ (by rw [e] at hab; exact hab)) h.srt) h.can
/-- the pairs put together so far -/
structure WJ (K : PySem.W.Frag) (F G : List AS) (H2 : Hp) (D : Addr) (i k : Nat) (acc : List V) (H' : Hp) : Prop where
  e : Ex H2 H'
  ex : ∃ Mp : List AS, acc = refs Mp ∧ Tups K H' Mp ∧ (∀ q ∈ Mp, ∃ a ∈ F, ∃ b ∈ G, Both a.2 b.2 q.2) ∧
    (∀ (i' k' : Nat) (a b : AS), F[i']? = some a → G[k']? = some b → (i' < i ∨ (i' = i ∧ k' < k)) → ∃ q ∈ Mp, Both a.2 b.2 q.2)
theorem both_uq {a b x y : List Str} (hx : Both a b x) (hy : Both a b y) : x = y := hx.can.eq hy.can (sub_iff.mpr fun p hp => (hy.mem p).mpr ((hx.mem p).mp hp)) (sub_iff.mpr fun p hp => (hx.mem p).mpr ((hy.mem p).mp hp))
theorem both_ex {a b : List Str} (ha : Can a) (hb : Can b) : ∃ x, Both a b x := ⟨TM.names.filter fun n => decide (n ∈ a) || decide (n ∈ b), List.filter_sublist, fun p => by
  rw [List.mem_filter, Bool.or_eq_true, decide_eq_true_eq, decide_eq_true_eq]
  exact ⟨fun h => h.2, fun h => ⟨h.elim (ha.names p) (hb.names p), h⟩⟩⟩
theorem get_mem {α : Type} {l : List α} {i : Nat} {x : α} (h : l[i]? = some x) : x ∈ l := List.mem_of_getElem? h
section
variable {P : Program} {w : World} {K : PySem.W.Frag}
/-- [tuple(sorted(set(one + more))) for one in form for more in other] -/
theorem ev_pairs {σ : L2.St} {H : Hp} {f g : Addr} {F G : List AS} {A B : List Str → Bool} (s0 : σ.length = 7) (s2 : σ[2]? = some (some (.ref f))) (s3 : σ[3]? = some (some (.ref g))) (hf : FormAt K H f F A) (hg : FormAt K H g G B) :
    ∀ Q : VK, (∀ D Mp H', Ex H H' → H' D = some (.lst (refs Mp)) → Tups K H' Mp → (∀ q ∈ Mp, Can q.2) → (∀ x, (∃ q ∈ Mp, q.2 = x) ↔ ∃ a ∈ F.map (·.2), ∃ b ∈ G.map (·.2), Both a b x) → Q (.ref D) H') →
      tLc2 (iList K (tVar 2)) (gName 5) tYes (iList K (tVar 3)) (gName 6) tYes (tCB (rTupOf K) (tCons (tCB (TM.rSortedSWN P w) (tCons (tCB (rSetKT K P w) (tCons (tOp (rCatA K) (tVar 5) (tVar 6)) tNil)) tNil)) tNil)) [5, 6] [6] σ H Q := fun Q q => by
  obtain ⟨s0', s1', s2', s3', s4', s5', s6', rfl⟩ : ∃ a b c d e f g, σ = [a, b, c, d, e, f, g] := match σ, s0 with | [a, b, c, d, e, f, g], _ => ⟨a, b, c, d, e, f, g, rfl⟩
  have fF := fm_few hf.2.2
  have fG := fm_few hg.2.2
  rw [List.length_map] at fF fG
  refine q_lc2 (a := f) (b := g) (xs := refs F) (ys := refs G) (ev_var s2) (sq_of hf.1) (sq_of hg.1) (by
    rw [refs_len, refs_len]
    have := Nat.mul_le_mul fF fG
    omega) (fun x => s3) (fun x => rfl) (fun x y => rfl) (fun H2 D i k acc H' => WJ K F G H2 D i k acc H') (fun H2 D i k acc H' w => w.e)
    (fun H2 D e2 hD => ⟨Ex.new hD, [], rfl, (fun q h => absurd h List.not_mem_nil), (fun q h => absurd h List.not_mem_nil), fun i' k' a b _ _ h => by omega⟩) ?_ ?_ ?_
  · intro H2 D i k x y acc H' e2 hD hx hy ww hacc Q' kk
    have hx : (F.map fun q => V.ref q.1)[i]? = some x := hx
    have hy : (G.map fun q => V.ref q.1)[k]? = some y := hy
    rw [List.getElem?_map] at hx hy
    obtain ⟨qa, ha, rfl⟩ := Option.map_eq_some_iff.mp hx
    obtain ⟨qb, hb, rfl⟩ := Option.map_eq_some_iff.mp hy
    have ma := get_mem ha
    have mb := get_mem hb
    obtain ⟨we, Mp, rfl, w1, w2, w3⟩ := ww
    have up := e2.trans we
    refine ev_join (P := P) (w := w) (K := K) (p := qa.1) (q := qb.1) (xs := qa.2) (ys := qb.2) (ev_var rfl) (ev_var rfl) (ex_t up (hf.2.1 qa ma)) (ex_t up (hg.2.1 qb mb)) (hf.2.2.can _ (List.mem_map.mpr ⟨qa, ma, rfl⟩)) (hg.2.2.can _ (List.mem_map.mpr ⟨qb, mb, rfl⟩)) H' (Ex.refl _) _ fun r z H4 e4 h4 bz => ?_
    have rD : r ≠ D := fun y => by rw [y, e4 _ _ hacc] at h4; cases h4
    have hD4 := e4 _ _ hacc
    refine kk (.ref r) H4 hD4 ⟨Ex.mut (we.trans e4) hD, Mp ++ [(r, z)], by unfold refs; rw [List.map_append]; rfl, fun q hq => ?_, fun q hq => ?_, fun i' k' a b h1 h2 h3 => ?_⟩
    · rcases List.mem_append.mp hq with hq | hq
      · exact tups_off hD4 (w1.up e4) q hq
      · rw [List.mem_singleton.mp hq]
        exact st_of (by rw [upd_ne rD]; exact h4)
    · rcases List.mem_append.mp hq with hq | hq
      · exact w2 q hq
      · rw [List.mem_singleton.mp hq]
        exact ⟨qa, ma, qb, mb, bz⟩
    · by_cases c : i' = i ∧ k' = k
      · obtain ⟨rfl, rfl⟩ := c
        rw [ha] at h1
        rw [hb] at h2
        cases h1
        cases h2
        exact ⟨(r, z), List.mem_append_right _ (.head _), bz⟩
      · obtain ⟨q, hq, b⟩ := w3 i' k' a b h1 h2 (by omega)
        exact ⟨q, List.mem_append_left _ hq, b⟩
  · intro H2 D i acc H' hi w
    obtain ⟨we, Mp, rfl, w1, w2, w3⟩ := w
    refine ⟨we, Mp, rfl, w1, w2, fun i' k' a b h1 h2 h3 => w3 i' k' a b h1 h2 ?_⟩
    have := (List.getElem?_eq_some_iff.mp h2).1
    rw [refs_len]
    omega
  · intro H2 D acc H' e2 hD w hacc hl
    obtain ⟨we, Mp, rfl, w1, w2, w3⟩ := w
    refine q D Mp H' (e2.trans we) hacc w1 (fun r hr => let ⟨_, _, _, _, b⟩ := w2 r hr; b.can) fun x => ?_
    constructor
    · rintro ⟨r, hr, rfl⟩
      obtain ⟨a, ha, b, hb, z⟩ := w2 r hr
      exact ⟨a.2, List.mem_map.mpr ⟨a, ha, rfl⟩, b.2, List.mem_map.mpr ⟨b, hb, rfl⟩, z⟩
    · rintro ⟨a, ha, b, hb, z⟩
      obtain ⟨qa, ha2, rfl⟩ := List.mem_map.mp ha
      obtain ⟨qb, hb2, rfl⟩ := List.mem_map.mp hb
      obtain ⟨i, hi⟩ := List.getElem?_of_mem ha2
      obtain ⟨k, hk⟩ := List.getElem?_of_mem hb2
      obtain ⟨r, hr, y⟩ := w3 i k qa qb hi hk (.inl (by rw [refs_len]; exact (List.getElem?_eq_some_iff.mp hi).1))
      exact ⟨r, hr, both_uq y z⟩
end
end K16
/-! Comprehensions over a tuple whose steps change the heap; d.get of a dict of ints and texts. -/
namespace LG
open PySem PySem.Spec PyProof.Rows L2 Evl
section
variable {K : PySem.W.Frag} {te : TE} {σ : L2.St} {H1 : Hp} {j : Nat} {Q : Addr → Hp → Prop}
/-- [e for j in xs], xs a tuple, behind the list's making -/
theorem lcT_inv {a : Addr} {ys : List V} (hy : SqT K H1 a ys) (hz : ys.length ≤ 40000) (hw : ∀ x, wipe ((wipe σ [j]).set j (some x)) [j] = wipe σ [j]) (W : Addr → Nat → List V → Hp → Prop) (h0 : ∀ D, H1 D = none → W D 0 [] (upd H1 D (.lst [])))
    (hl : ∀ D i xs H', H1 D = none → W D i xs H' → SqT K H' a ys)
    (hs : ∀ D (i : Nat) x xs H', H1 D = none → ys[i]? = some x → xs.length = i → W D i xs H' → H' D = some (.lst xs) → ∀ Q' : VK, (∀ y H4, H4 D = some (.lst xs) → W D (i + 1) (xs ++ [y]) (upd H4 D (.lst (xs ++ [y]))) → Q' y H4) → te ((wipe σ [j]).set j (some x)) H' Q')
    (hd : ∀ D xs H', H1 D = none → xs.length = ys.length → W D xs.length xs H' → H' D = some (.lst xs) → Q D H') :
    ∀ D, H1 D = none → ∃ W : Nat → Nat → Hp → Prop, (∃ m, W 0 m (upd H1 D (.lst []))) ∧ ∀ i k H, W i k H →
      ((Itt K a).stop i H ∧ Q D H) ∨ ((Itt K a).go i H ∧ ∃ Nx : Hp → Prop, (∀ H', Nx H' → ∃ m', m' < k ∧ W (i + 1) m' H') ∧ ∀ x H', (Itt K a).yld i H x H' → gName j x (wipe σ [j]) H' fun σ2 H2 => wipe σ2 [j] = wipe σ [j] ∧ tYes σ2 H2 fun b H3 =>
        if b = true then te σ2 H3 fun y H4 => ∃ acc, H4 D = some (.lst acc) ∧ acc.length < sizeLine ∧ Nx (upd H4 D (.lst (acc ++ [y]))) else Nx H3) := fun D hD => by
  refine lc_tup (K := K) (a := a) (xs := ys) (g := gName j) (tt := tYes) (te := te) (vs := [j]) (σ := σ) (H1 := H1) (D := D) (Qd := fun H => Q D H) (fun i H' => ∃ xs, xs.length = i ∧ H' D = some (.lst xs) ∧ W D i xs H') ⟨[], rfl, upd_same, h0 D hD⟩ (fun i H' _ ⟨xs, _, _, w⟩ => hl D i xs H' hD w) (fun i x H' hi ⟨xs, hl2, hx, w⟩ => ?_) (fun H' ⟨xs, hl2, hx, w⟩ => ?_)
  · have hi2 : i < ys.length := (List.getElem?_eq_some_iff.mp hi).1
    show wipe ((wipe σ [j]).set j (some x)) [j] = wipe σ [j] ∧ te ((wipe σ [j]).set j (some x)) H' fun y H4 => ∃ acc, H4 D = some (.lst acc) ∧ acc.length < sizeLine ∧ ∃ xs, xs.length = i + 1 ∧ (upd H4 D (.lst (acc ++ [y]))) D = some (.lst xs) ∧ W D (i + 1) xs (upd H4 D (.lst (acc ++ [y])))
    exact ⟨hw _, hs D i x xs H' hD hi hl2 w hx _ fun y H4 h4 w4 => ⟨xs, h4, sz_lt (by omega), _, by rw [List.length_append, hl2]; rfl, upd_same, w4⟩⟩
  · exact hd D xs H' hD hl2 (by rw [hl2]; exact w) hx
/-- x = [e for j in xs] -/
theorem q_lcT {tg : TE} {tz : TS} {Dd : Ends} {H : Hp} {i : Nat} {a : Addr} {ys : List V} (hev : Ev tg σ H (.ref a)) (hy : SqT K H a ys) (hz : ys.length ≤ 40000) (hw : ∀ x, wipe ((wipe σ [j]).set j (some x)) [j] = wipe σ [j]) (W : Hp → Addr → Nat → List V → Hp → Prop)
    (h0 : ∀ H1, Ex H H1 → ∀ D, H1 D = none → W H1 D 0 [] (upd H1 D (.lst []))) (hl : ∀ H1, Ex H H1 → ∀ D i xs H', H1 D = none → W H1 D i xs H' → SqT K H' a ys)
    (hs : ∀ H1, Ex H H1 → ∀ D (i : Nat) x xs H', H1 D = none → ys[i]? = some x → xs.length = i → W H1 D i xs H' → H' D = some (.lst xs) → ∀ Q' : VK, (∀ y H4, H4 D = some (.lst xs) → W H1 D (i + 1) (xs ++ [y]) (upd H4 D (.lst (xs ++ [y]))) → Q' y H4) → te ((wipe σ [j]).set j (some x)) H' Q')
    (hd : ∀ H1, Ex H H1 → ∀ D xs H', H1 D = none → xs.length = ys.length → W H1 D xs.length xs H' → H' D = some (.lst xs) → tz Dd (σ.set i (some (.ref D))) H') :
    tSeq (tAsg (tLc (iTup K tg) (gName j) tYes te [j]) (gName i)) tz Dd σ H :=
  hev H (Ex.refl _) _ fun H1 e1 => ⟨a, rfl, ⟨ys, ex_t e1 hy⟩, lcT_inv (ex_t e1 hy) hz hw (W H1) (h0 H1 e1) (hl H1 e1) (hs H1 e1) (Q := fun D H' => tz Dd (σ.set i (some (.ref D))) H') (hd H1 e1)⟩
theorem q_lcL {tg : TE} {tz : TS} {Dd : Ends} {H : Hp} {i : Nat} {a : Addr} {ys : List V} (hev : Ev tg σ H (.ref a)) (hy : SqL K H a ys) (hz : ys.length ≤ 40000) (hw : ∀ x, wipe ((wipe σ [j]).set j (some x)) [j] = wipe σ [j]) (W : Hp → Addr → Nat → List V → Hp → Prop)
    (h0 : ∀ H1, Ex H H1 → ∀ D, H1 D = none → W H1 D 0 [] (upd H1 D (.lst []))) (hl : ∀ H1, Ex H H1 → ∀ D i xs H', H1 D = none → W H1 D i xs H' → SqL K H' a ys)
    (hs : ∀ H1, Ex H H1 → ∀ D (i : Nat) x xs H', H1 D = none → ys[i]? = some x → xs.length = i → W H1 D i xs H' → H' D = some (.lst xs) → ∀ Q' : VK, (∀ y H4, H4 D = some (.lst xs) → W H1 D (i + 1) (xs ++ [y]) (upd H4 D (.lst (xs ++ [y]))) → Q' y H4) → te ((wipe σ [j]).set j (some x)) H' Q')
    (hd : ∀ H1, Ex H H1 → ∀ D xs H', H1 D = none → xs.length = ys.length → W H1 D xs.length xs H' → H' D = some (.lst xs) → tz Dd (σ.set i (some (.ref D))) H') :
    tSeq (tAsg (tLc (iList K tg) (gName j) tYes te [j]) (gName i)) tz Dd σ H :=
  hev H (Ex.refl _) _ fun H1 e1 => ⟨a, rfl, ⟨ys, ex_l e1 hy⟩, lcL_inv (ex_l e1 hy) hz hw (W H1) (h0 H1 e1) (hl H1 e1) (hs H1 e1) (Q := fun D H' => tz Dd (σ.set i (some (.ref D))) H') (hd H1 e1)⟩
theorem ev_get2R {td ty tx : TE} {σ : L2.St} {H : Hp} {a : Addr} {kvs : List (Key × V)} {k : Key} {z : V} (h : Ev td σ H (.ref a)) (hk : Ev ty σ H (kV k)) (hz : Ev tx σ H z) (hr : Rd H a (.dK kvs)) : Ev (tDGet2 td ty tx) σ H ((valV kvs k).getD z) := fun H1 e Q q =>
  h H1 e _ fun H2 e2 => ⟨a, rfl, .inl ⟨kvs, ex_rd (e.trans e2) hr⟩, hk H2 (e.trans e2) _ fun H3 e3 => hz H3 ((e.trans e2).trans e3) _ fun H4 e4 => ⟨_, .inl ⟨kvs, k, ex_rd (((e.trans e2).trans e3).trans e4) hr, rfl, rfl⟩, q H4 ((e2.trans e3).trans e4)⟩⟩
end
end LG
namespace K16
open PySem PySem.Spec PyProof.Rows L2 LG Evl FM TB
theorem ix_listK {X : Cx} {K : PySem.W.Frag} (hK : X.K = K) : IxR X (rIxL K) := by
  subst hK
  exact ix_list
theorem sl_listK {X : Cx} {K : PySem.W.Frag} (hK : X.K = K) : SlR X (rSlL K) := by
  subst hK
  exact sl_list
theorem pi_listK {X : Cx} {K : PySem.W.Frag} {tg l : Expr} {tl : TE} (hK : X.K = K) (hl : PE X l tl) : PI X tg l (iList K tl) := by
  subst hK
  exact pi_list hl
theorem cr_tupleOfK {X : Cx} {K : PySem.W.Frag} (hK : X.K = K) : CallR X (.type "tuple") (rTupOf K) := by
  subst hK
  exact cr_tupleOf
theorem cr_sortedSWNK {X : Cx} {P : Program} {w : World} (hP : X.prog = P) (hw : X.w = w) (hc : X.calm = true) : CallR X (.builtin "sorted") (TM.rSortedSWN P w) := by
  subst hP hw
  exact TM.cr_sortedSWN hc
theorem cr_setKTK {X : Cx} {K : PySem.W.Frag} {P : Program} {w : World} (hK : X.K = K) (hP : X.prog = P) (hw : X.w = w) (hc : X.calm = true) : CallR X (.type "set") (rSetKT K P w) := by
  subst hK hP hw
  exact cr_setKT hc
theorem op_catAK {X : Cx} {K : PySem.W.Frag} (hK : X.K = K) : OpR X (binaryOp .Add) (rCatA K) := by
  subst hK
  exact op_catA
theorem s_retIf {t : TT} {ta tb : TE} {D : Ends} {σ : L2.St} {H : Hp} {b : Bool} (h : EvT t σ H b) (h1 : b = true → ∀ H1, Ex H H1 → tRet ta D σ H1) (h2 : b = false → ∀ H1, Ex H H1 → tRet tb D σ H1) : tRet (tIf t ta tb) D σ H := h H (Ex.refl H) _ fun H1 e => by
  cases b
  · exact h2 rfl H1 e
  · exact h1 rfl H1 e
section
variable {P : Program} {w : World} {K : PySem.W.Frag} {mg : Str → Option Value} {base : Heap} {a : At}
def sp_found_form (K : PySem.W.Frag) (a : At) (n : Nat) : Sp := fun vs H Q _ => ∃ v t, vs = [v] ∧ TM.TmAt (csOf a) H v t ∧ TM.Ok t ∧ t.depth < n ∧ ∀ f M H', H f = none → Ex H H' → FormAt K H' f M (fun X => topT X t) → Q (.ref f) H'
theorem ok_found_form (T : Txt K mg a) : ∀ n, Fn P w K mg base (n + 4) a.found_form (sp_found_form K a n) := by
  intro n
  induction n with
  | zero =>
    refine T.d_found_form.fn sc_found_form (fun _ _ _ _ _ _ us hl => match us, hl with | [_], _ => rfl) (fun vs H Q E h => ?_) (fun cdv A outer s H vs Q E hg hr h => ?_)
    · obtain ⟨_, _, rfl, _⟩ := h
      rfl
    · obtain ⟨_, t, _, _, _, hd, _⟩ := h
      exact absurd hd (Nat.not_lt_zero _)
  | succ n ih =>
    have G_found_form := ih
    have G_least_sets := ok_least_sets (P := P) (w := w) (base := base) T
    refine T.d_found_form.fn sc_found_form (fun _ _ _ _ _ _ us hl => match us, hl with | [_], _ => rfl) (fun vs H Q E h => ?_) (fun cdv A outer s H vs Q E hg hr h => ?_)
    · obtain ⟨_, _, rfl, _⟩ := h
      rfl
    · obtain ⟨v, t, rfl, ht, ok, hd, q⟩ := h
      have nd := sc_found_form.nd
      have hr2 := hr.mono (j := 2) (by omega)
      refine ⟨_, (pss_cons (ps_if (pt_val (pe_callB call_isi (by rfl) T.z_isinstance (by decide +kernel) (pa_cons (pv 0) (pa_cons (pe_glob (v := .ref a.k_Place) (by rfl) T.g_Place.m rfl) pa_nil)))) (pss_one (ps_ret (pe_lst (pa_cons (pe_tup (pa_cons (pe_getA (G := gNm a) (CX := CX0) (pv 0) (g_nm T) hr2 pass0 rfl) pa_nil)) pa_nil)))) pss_nil)
    (pss_cons (ps_if (pt_val (pe_callB call_isi (by rfl) T.z_isinstance (by decide +kernel) (pa_cons (pv 0) (pa_cons (pe_glob (v := .ref a.k_End) (by rfl) T.g_End.m rfl) pa_nil)))) (pss_one (ps_ret (pe_ifExp (pt_cmpR op_eq (pe_getA (G := gEnd a) (CX := CX0) (pv 0) (g_end T) hr2 pass0 rfl) (pe_glob (v := .str "top") rfl T.v_TOP ⟨_, rfl⟩) (nomark _)) (pe_lst (pa_cons (pe_tup pa_nil) pa_nil)) (pe_lst pa_nil)))) pss_nil)
    (pss_cons (ps_setLc (i := 1) (own := [("part", 4)]) (g := gName 4) rfl (by exact nd) rfl rfl (by rfl) (pi_tup (pe_getA (G := gParts a) (CX := CX0) (pv 0) (g_parts T) hr2 pass0 rfl)) (blkOk_by (own := [("part", 4)]) (N := ["term", "forms", "form", "other", "part", "one", "more"]) (sc := defScope s_found_form) (by decide +kernel)) (fun _ _ _ _ _ => (pg_name (i := 4) nd rfl (.inl rfl))) (fun _ _ _ _ _ => pts_nil) (fun _ _ _ _ _ => (pe_fn G_found_form hg (hr.mono (by omega)) T.d_found_form.kp T.d_found_form.m (by rfl) passL (pa_cons (pv 4) pa_nil))))
    (pss_cons (ps_set (i := 2) nd rfl (.inl rfl) (pe_ix (ix_listK (K := K) rfl) (pv 1) pe_int (fun _ _ => rfl)))
    (pss_cons (ps_for PassesOwn.leaving rfl (pi_list (pe_slice (sl_listK (K := K) rfl) (pv 1) (po_some pe_int) po_none)) (pg_name (i := 3) nd rfl (.inr rfl))
      (pss_one (ps_if (pt_val (pe_callB call_isi (by rfl) T.z_isinstance (by decide +kernel) (pa_cons (pv 0) (pa_cons (pe_glob (v := .ref a.k_Lesser) (by rfl) T.g_Lesser.m rfl) pa_nil)))) (pss_one (ps_set (i := 2) nd rfl (.inl rfl) (pe_fn G_least_sets hg (hr.mono (by omega)) T.d_least_sets.kp T.d_least_sets.m (by rfl) passL (pa_cons (pe_lc2 rfl (vs1 := [6]) (own := [("one", 5), ("more", 6)]) (g := gName 5) (g1 := gName 6) (by exact nd) (pi_list (pv 2)) (blkOk_by (own := [("one", 5), ("more", 6)]) (N := ["term", "forms", "form", "other", "part", "one", "more"]) (sc := defScope s_found_form) (by decide +kernel)) (by decide) (fun _ _ _ _ _ => (pg_name (i := 5) nd rfl (.inl rfl))) (fun _ _ _ _ _ => pts_nil) (fun _ _ _ _ _ => pi_listK (K := K) rfl (pv 3)) (fun _ _ _ _ _ => (pg_name (i := 6) nd rfl (.inl rfl))) (fun _ _ _ _ _ => pts_nil) (fun _ _ _ _ _ => (pe_callTy (cr_tupleOfK (K := K) rfl) (by rfl) T.z_tuple (by decide +kernel) (pa_cons (pe_callB (cr_sortedSWNK (P := P) (w := w) rfl rfl rfl) (by rfl) T.z_sorted (by decide +kernel) (pa_cons (pe_callTy (cr_setKTK (K := K) (P := P) (w := w) rfl rfl rfl rfl) (by rfl) T.z_set (by decide +kernel) (pa_cons (pe_op (op_catAK (K := K) rfl) (pv 5) (pv 6)) pa_nil)) pa_nil)) pa_nil)))) pa_nil)))) (pss_one (ps_set (i := 2) nd rfl (.inl rfl) (pe_fn G_least_sets hg (hr.mono (by omega)) T.d_least_sets.kp T.d_least_sets.m (by rfl) passL (pa_cons (pe_op op_cat (pv 2) (pv 3)) pa_nil)))))))
    (pss_one (ps_ret (pv 2)))))))), ?_⟩
      have two : ∀ {x p : Addr} {xs : List V} {ts : List TM.Tree} {c : Bool} {H2 : Hp}, Ex H H2 → H p = some (.tup xs) → xs.length = ts.length → (∀ (i : Nat) (y : V) (t : TM.Tree), xs[i]? = some y → ts[i]? = some t → TM.TmAt (csOf a) H y t) → TM.Ln ts.length → (∀ t ∈ ts, TM.Ok t) → TM.Tree.depthAll ts < n →
          Ev (tGetA (gParts a) (tVar 0)) [some (.ref x), none, none, none, none, none, none] H2 (.ref p) → (∀ H3 s1 s2 s3, Ex H2 H3 → EvT (tTest (tCB (rIsi K) (tCons (tVar 0) (tCons (tC (.ref a.k_Lesser)) tNil)))) [some (.ref x), s1, s2, s3, none, none, none] H3 c) →
          (∀ f M H', H f = none → Ex H H' → FormAt K H' f M (fun X => if c = true then allT X ts else anyT X ts) → Q (.ref f) H') →
          tSeq (tAsg (tLc (iTup K (tGetA (gParts a) (tVar 0))) (gName 4) tYes (tFn (sp_found_form K a n) E0 (tCons (tVar 4) tNil)) [4]) (gName 1))
            (tSeq (tAsg (tOp (rIxL K) (tVar 1) (tC (.int 0))) (gName 2))
              (tSeq (tFor (iList K (tSl (rSlL K) (tVar 1) (tPart (tC (.int 1))) tNoPart)) (gName 3)
                (tIfS (tTest (tCB (rIsi K) (tCons (tVar 0) (tCons (tC (.ref a.k_Lesser)) tNil))))
                  (tAsg (tFn (sp_least_sets K) E0 (tCons (tLc2 (iList K (tVar 2)) (gName 5) tYes (iList K (tVar 3)) (gName 6) tYes (tCB (rTupOf K) (tCons (tCB (TM.rSortedSWN P w) (tCons (tCB (rSetKT K P w) (tCons (tOp (rCatA K) (tVar 5) (tVar 6)) tNil)) tNil)) tNil)) [5, 6] [6]) tNil)) (gName 2))
                  (tAsg (tFn (sp_least_sets K) E0 (tCons (tOp rCat (tVar 2) (tVar 3)) tNil)) (gName 2))))
                (tRet (tVar 2)))) { nx := fun _ H' => Q .non H', rt := Q } [some (.ref x), none, none, none, none, none, none] H2 := by
        intro x p xs ts c H2 e2 hp hl hxs hln hok hdp hev hisi q
        have h8 : ts.length ≤ 8 := hln.eight
        have h2 : 2 ≤ ts.length := hln.two
        refine q_lcT (K := K) hev (st_of (e2 _ _ hp)) (by omega) (fun _ => rfl) (fun H3 => WF K ts H3) (fun H3 e3 D hD => ⟨Ex.new hD, fun k y t h _ => by simp at h⟩) (fun H3 e3 D i acc H' hD ww => st_of (ww.1 _ _ ((e2.trans e3) _ _ hp))) ?_ ?_
        · intro H3 e3 D i y acc H' hD hi hlen ww hacc Q' k
          have e03 := e2.trans e3
          have hi2 : i < ts.length := hl ▸ (List.getElem?_eq_some_iff.mp hi).1
          have ht : ts[i]? = some ts[i] := List.getElem?_eq_getElem hi2
          have hm : ts[i] ∈ ts := List.getElem_mem hi2
          refine ⟨y, rfl, y, ts[i], rfl, (hxs i y _ hi ht).up (e03.trans ww.1), hok _ hm, Nat.lt_of_le_of_lt (TM.depth_mem hm) hdp, fun f M H4 hf e4 fm => ?_⟩
          exact k (.ref f) H4 (e4 _ _ hacc) (wf_step ww hD hlen hacc e4 hf ht fm)
        · intro H3 e3 D acc H' hD hlen ww hacc
          have e03 := e2.trans e3
          have hl2 : acc.length = ts.length := by omega
          have forms : ∀ k t, ts[k]? = some t → ∃ (f : Addr) (M : List AS), acc[k]? = some (V.ref f) ∧ H f = none ∧ FormAt K H' f M (fun X => topT X t) := fun k t hk => by
            have hk2 : k < acc.length := by rw [hl2]; exact (List.getElem?_eq_some_iff.mp hk).1
            obtain ⟨f, M, y1, _, y0, y3⟩ := ww.2 k acc[k] t (List.getElem?_eq_getElem hk2) hk
            exact ⟨f, M, by rw [List.getElem?_eq_getElem hk2, y1], fresh_back e03 y0, y3⟩
          have h0 : ts[0]? = some ts[0] := List.getElem?_eq_getElem (by omega)
          obtain ⟨f0, M0, a0, n0, fm0⟩ := forms 0 _ h0
          have e0H := e03.trans ww.1
          have t1 : ts.take 1 = [ts[0]] := by
            rw [List.take_succ, h0]
            rfl
          refine q_asg (v := .ref f0) (ev_op (ev_var rfl) ev_c (rv_ixL (sq_of hacc) (i := 0) (atI_nat (j := 0) a0))) fun H5 e5 => ?_
          refine q_forNLn (xs := acc.drop 1) (by
            rw [← cut_from (xs := acc) (m := 1) (by omega)]
            exact el_sl (ev_var rfl) (eo_some ev_c) eo_none (sq_of (e5 _ _ hacc))) (fun lt i σ' H6 => Ex H5 H6 ∧ H6 lt = some (.lst (acc.drop 1)) ∧ ∃ fm M u3, σ' = [some (.ref x), some (.ref D), some (.ref fm), u3, none, none, none] ∧ FormAt K H6 fm M (fun X => if c = true then allT X (ts.take (i + 1)) else anyT X (ts.take (i + 1))) ∧ H fm = none)
            (fun lt H6 _ e6 h6 => ⟨e6, h6, f0, M0, _, rfl, ⟨(e5.trans e6) _ _ fm0.1, fm0.2.1.up (e5.trans e6), fm0.2.2.congr fun X => ?_⟩, n0⟩) (fun lt i σ' H6 _ h => sq_of h.2.1) ?_ ?_
          · show topT X ts[0] = if c = true then allT X (ts.take 1) else anyT X (ts.take 1)
            rw [t1]
            simp [allT, anyT]
          · rintro lt i z σ' H6 hz ⟨e6, hlt, fm, M, u3, rfl, hfm, hn⟩
            rw [List.getElem?_drop] at hz
            have hi1 : 1 + i < ts.length := by
              have := (List.getElem?_eq_some_iff.mp hz).1
              omega
            have ht1 : ts[1 + i]? = some ts[1 + i] := List.getElem?_eq_getElem hi1
            obtain ⟨g, N, ag, ng, fg⟩ := forms (1 + i) _ ht1
            rw [ag] at hz
            cases hz
            have tk : ts.take (i + 1 + 1) = ts.take (i + 1) ++ [ts[1 + i]] := by
              rw [List.take_succ, show i + 1 = 1 + i by omega, ht1]
              rfl
            have hg6 := fg.up (e5.trans e6)
            have e36 : Ex H2 H6 := (e3.trans ww.1).trans (e5.trans e6)
            refine s_if (b := c) (hisi H6 _ _ _ e36) (fun hc H7 e7 => ?_) (fun hc H7 e7 => ?_)
            · refine ev_pairs (P := P) (w := w) (K := K) (σ := [some (.ref x), some (.ref D), some (.ref fm), some (.ref g), none, none, none]) (f := fm) (g := g) (F := M) (G := N) rfl rfl rfl (hfm.up e7) (hg6.up e7) (fun y H8 => sp_least_sets K [y] H8 (fun v H9 => Ex H5 H9 ∧ H9 lt = some (.lst (acc.drop 1)) ∧ ∃ fm M u3, [some (.ref x), some (.ref D), some v, some (.ref g), none, none, none] = [some (.ref x), some (.ref D), some (.ref fm), u3, none, none, none] ∧ FormAt K H9 fm M (fun X => if c = true then allT X (ts.take (i + 1 + 1)) else anyT X (ts.take (i + 1 + 1))) ∧ H fm = none) E0) fun Dl Mp H8 e8 h8 tM cM iff => ?_
              refine ⟨Dl, Mp, rfl, sq_of h8, tM, cM, fun r R H9 hr e9 h9 sb least => ?_⟩
              have e69 := (e7.trans e8).trans e9
              refine ⟨e6.trans e69, e69 _ _ hlt, r, R, _, rfl, ⟨h9, fun y hy => ex_t e9 (tM y (sb y hy)), ?_⟩, fresh_back (e0H.trans ((e5.trans e6).trans (e7.trans e8))) hr⟩
              refine (Fm.and hfm.2.2 hg6.2.2 (least.congr iff) fun a ha b hb => both_ex (hfm.2.2.can a ha) (hg6.2.2.can b hb)).congr fun X => ?_
              rw [hc, tk, allT_app]
              rfl
            · refine ⟨.ref fm, rfl, .ref g, rfl, fm, g, refs M, refs N, rfl, rfl, e7 _ _ hfm.1, e7 _ _ hg6.1, ?_, fun pl hpl => ?_⟩
              · have a1 := fm_few hfm.2.2
                have a2 := fm_few hg6.2.2
                rw [List.length_map] at a1 a2
                rw [refs_len, refs_len, sizeLine_eq]
                omega
              · have e8 : Ex H7 (upd H7 pl (.lst (refs M ++ refs N))) := Ex.new hpl
                have e68 := e7.trans e8
                have em : refs M ++ refs N = refs (M ++ N) := by unfold refs; rw [List.map_append]
                refine ⟨pl, M ++ N, rfl, sq_of (by rw [upd_same, em]), fun y hy => ?_, fun y hy => ?_, fun r R H9 hr e9 h9 sb least => ?_⟩
                · rcases List.mem_append.mp hy with hy | hy
                  · exact ex_t e68 (hfm.2.1 y hy)
                  · exact ex_t e68 (hg6.2.1 y hy)
                · rcases List.mem_append.mp hy with hy | hy
                  · exact hfm.2.2.can _ (List.mem_map.mpr ⟨y, hy, rfl⟩)
                  · exact hg6.2.2.can _ (List.mem_map.mpr ⟨y, hy, rfl⟩)
                · have e69 := e68.trans e9
                  refine ⟨e6.trans e69, e69 _ _ hlt, r, R, _, rfl, ⟨h9, fun y hy => ?_, ?_⟩, fresh_back (e0H.trans ((e5.trans e6).trans e68)) hr⟩
                  · rcases List.mem_append.mp (sb y hy) with hy | hy
                    · exact ex_t e69 (hfm.2.1 y hy)
                    · exact ex_t e69 (hg6.2.1 y hy)
                  · refine (Fm.or hfm.2.2 hg6.2.2 (least.congr fun y => ?_)).congr fun X => ?_
                    · rw [List.mem_map, List.mem_map]
                      constructor
                      · rintro ⟨k, hk, e⟩
                        rcases List.mem_append.mp hk with hk | hk
                        · exact .inl ⟨k, hk, e⟩
                        · exact .inr ⟨k, hk, e⟩
                      · rintro (⟨k, hk, e⟩ | ⟨k, hk, e⟩)
                        · exact ⟨k, List.mem_append_left _ hk, e⟩
                        · exact ⟨k, List.mem_append_right _ hk, e⟩
                    · rw [hc, tk, anyT_app]
                      rfl
          · rintro lt σ' H6 ⟨e6, hlt, fm, M, u3, rfl, hfm, hn⟩
            have et : ts.take ((acc.drop 1).length + 1) = ts := by
              rw [List.length_drop]
              exact List.take_of_length_le (by omega)
            rw [et] at hfm
            exact ⟨.ref fm, rfl, q fm M H6 hn (e0H.trans (e5.trans e6)) hfm⟩
      cases ht with
      | @place x dx nm hx =>
        cases ok with
        | place hnm =>
          refine s_if (b := true) (et_isT (ev_var rfl) (fun H1 e => ty_ins T T.g_Place (e _ _ hx)) (kit_of T.g_Place T.x_Place_Place T.x_Place_Place)) (fun _ H1 e1 => ?_) (fun z => nomatch z)
          show tLst (tCons (tTup (tCons (tGetA (gNm a) (tVar 0)) tNil)) tNil) _ H1 _
          refine (ev_getA (v := .str nm) (σ := [some (.ref x), none, none, none, none, none, none]) (ev_var rfl) (e1 _ _ hx) ⟨rfl, rfl⟩ rfl) H1 (Ex.refl _) _ fun H2 e2 => ⟨(by decide : 1 ≤ sizeLine), fun t1 ht1 => ⟨(by decide : 1 ≤ sizeLine), fun l hl => ?_⟩⟩
          have e3 : Ex H2 (upd H2 t1 (.tup [.str nm])) := Ex.new ht1
          have tl : t1 ≠ l := ne_of_none upd_same hl
          refine q l [(t1, [nm])] _ (fresh_back ((e1.trans e2).trans e3) hl) (((e1.trans e2).trans e3).trans (Ex.new hl)) ⟨upd_same, fun r hr => ?_, fm_place hnm⟩
          rw [List.mem_singleton.mp hr]
          exact st_of (by rw [upd_ne tl]; exact upd_same)
      | @endd x dx nm hx =>
        refine s_if (b := false) (et_isT (ev_var rfl) (fun H1 e => ty_ins T T.g_End (e _ _ hx)) (kit_of T.g_Place T.x_End_Place T.x_Place_Place)) (fun z => nomatch z) (fun _ H1 e1 => ?_)
        refine s_if (b := true) (et_isT (ev_var rfl) (fun H2 e => ty_ins T T.g_End ((e1.trans e) _ _ hx)) (kit_of T.g_End T.x_End_End T.x_End_End)) (fun _ H2 e2 => ?_) (fun z => nomatch z)
        have e02 := e1.trans e2
        have fe := fm_end nm
        refine s_retIf (b := decide (nm = "top")) (et_is (et_test (ev_op (ev_getA (ev_var rfl) (e02 _ _ hx) ⟨rfl, rfl⟩ rfl) ev_c (rv_eq rfl))) ?_) (fun z H3 e3 => ?_) (fun z H3 e3 => ?_)
        · exact decide_eq_decide.mpr ⟨fun z => V.str.inj z, fun z => by rw [z]⟩
        · rw [if_pos (of_decide_eq_true z)] at fe
          refine ⟨(by decide : 0 ≤ sizeLine), fun t1 ht1 => ⟨(by decide : 1 ≤ sizeLine), fun l hl => ?_⟩⟩
          have e4 : Ex H3 (upd H3 t1 (.tup [])) := Ex.new ht1
          have tl : t1 ≠ l := ne_of_none upd_same hl
          refine q l [(t1, [])] _ (fresh_back ((e02.trans e3).trans e4) hl) (((e02.trans e3).trans e4).trans (Ex.new hl)) ⟨upd_same, fun r hr => ?_, fe⟩
          rw [List.mem_singleton.mp hr]
          exact st_of (by rw [upd_ne tl]; exact upd_same)
        · rw [if_neg (of_decide_eq_false z)] at fe
          refine ⟨(by decide : 0 ≤ sizeLine), fun l hl => ?_⟩
          exact q l [] _ (fresh_back (e02.trans e3) hl) ((e02.trans e3).trans (Ex.new hl)) ⟨upd_same, fun r hr => absurd hr List.not_mem_nil, fe⟩
      | @lesser x dx p xs ts hx hp hl hxs =>
        cases ok with
        | lesser hln hok =>
          refine s_if (b := false) (et_isT (ev_var rfl) (fun H1 e => ty_ins T T.g_Lesser (e _ _ hx)) (kit_of T.g_Place T.x_Lesser_Place T.x_Place_Place)) (fun z => nomatch z) (fun _ H1 e1 => ?_)
          refine s_if (b := false) (et_isT (ev_var rfl) (fun H2 e => ty_ins T T.g_Lesser ((e1.trans e) _ _ hx)) (kit_of T.g_End T.x_Lesser_End T.x_End_End)) (fun z => nomatch z) (fun _ H2 e2 => ?_)
          have e02 := e1.trans e2
          exact two (c := true) e02 hp hl hxs hln hok (Nat.lt_of_succ_lt_succ (by simpa [TM.Tree.depth] using hd)) (ev_getA (ev_var rfl) (e02 _ _ hx) ⟨.inl rfl, rfl⟩ rfl) (fun H3 s1 s2 s3 e3 => et_isT (ev_var rfl) (fun H4 e => ty_ins T T.g_Lesser (((e02.trans e3).trans e) _ _ hx)) (kit_of T.g_Lesser T.x_Lesser_Lesser T.x_Lesser_Lesser)) fun f M H' hf e fm => q f M H' hf e ⟨fm.1, fm.2.1, fm.2.2.congr fun X => by simp only [topT, if_true]⟩
      | @greater x dx p xs ts hx hp hl hxs =>
        cases ok with
        | greater hln hok =>
          refine s_if (b := false) (et_isT (ev_var rfl) (fun H1 e => ty_ins T T.g_Greater (e _ _ hx)) (kit_of T.g_Place T.x_Greater_Place T.x_Place_Place)) (fun z => nomatch z) (fun _ H1 e1 => ?_)
          refine s_if (b := false) (et_isT (ev_var rfl) (fun H2 e => ty_ins T T.g_Greater ((e1.trans e) _ _ hx)) (kit_of T.g_End T.x_Greater_End T.x_End_End)) (fun z => nomatch z) (fun _ H2 e2 => ?_)
          have e02 := e1.trans e2
          exact two (c := false) e02 hp hl hxs hln hok (Nat.lt_of_succ_lt_succ (by simpa [TM.Tree.depth] using hd)) (ev_getA (ev_var rfl) (e02 _ _ hx) ⟨.inr rfl, rfl⟩ rfl) (fun H3 s1 s2 s3 e3 => et_isT (ev_var rfl) (fun H4 e => ty_ins T T.g_Greater (((e02.trans e3).trans e) _ _ hx)) (kit_of T.g_Lesser T.x_Greater_Lesser T.x_Lesser_Lesser)) fun f M H' hf e fm => q f M H' hf e ⟨fm.1, fm.2.1, fm.2.2.congr fun X => by simp only [topT]; rfl⟩
end
end K16
/-! o.m(..), o of one of several own classes: the class is told at the run. -/
namespace LG
open PySem PySem.Spec PyProof.Rows L2 Evl
structure MetG (K : PySem.W.Frag) (C f : Addr) (m : Str) : Prop where
  cl : Cls K C
  mt : Meth K C m f
def tMethA (G : Addr → Prop) (m : Str) (sp : Sp) (E : XK) (ta : TE) (t : TA) : TE := fun σ H Q => ta σ H fun x H1 => ∃ a C dx fs, x = .ref a ∧ H1 a = some (.ins C dx fs) ∧ G C ∧ fs.lookup m = none ∧ t σ H1 fun vs H2 => sp (x :: vs) H2 Q E
section
variable {X : Cx} {G : Addr → Prop} {k : Nat} {f : Addr} {m : Str} {sp : Sp} {E : XK} {o e : Expr} {es : List Expr} {ta : TE} {t : TA} {apos pos : Pos} {pl : Sem Bool}
theorem pe_methA (he : PE X o ta) (hG : ∀ C, G C → MetG X.K C f m) (F : Fn X.prog X.w X.K X.mg X.base k f sp) (g0 : X.A.guards = some []) (hr : Room k X.A) (hx : Passes (L2.CX X.prog X.w) X E) (ha : PA X (e :: es) t)
    (hst : starEach (e :: es) X.env = (false, eval e X.env) :: starEach es X.env := by rfl) (hpl : (backTo pos (starEach es X.env)).any (·.1) = false := by rfl)
    (ht : eval (.Call (.Attribute o m apos) (e :: es) [] pos) X.env = (do
      let ov ← eval o X.env
      standAt apos.atName
      let (f, first) ← holding [ov] (getMethod ov m pl)
      callWith pos f first (backTo pos (starEach (e :: es) X.env)) (backToKw pos (keywordEach [] X.env))) := by rfl) :
    PE X (.Call (.Attribute o m apos) (e :: es) [] pos) (tMethA G m sp E ta t) := by
  refine ⟨fun pins s σ H Q I h => ?_⟩
  refine PySem.W.methodCall_KW (pl := pl) (thn (he.run pins s σ H _ I h) fun u s1 ⟨x, H1, I1, rx, a, C, dx, fs, ex, ea, g, l, q⟩ => ?_) ht
  subst ex
  obtain rfl : u = Value.ref a := rx
  refine getmeth_ok I1 ea (hG C g).cl (hG C g).mt l ?_
  exact PySem.W.callWith_K (first := [.ref a]) (h₀ := X.base) I.ok.mod.kin (hG C g).mt.kp (thn (ha.run pos pins s1 σ H1 _ I1 q) fun us s2 ⟨vs, H2, I2, r, q2⟩ => ⟨I2.kIn, run_Fn (us := .ref a :: us) (vs := .ref a :: vs) F g0 hr hx I2 (.cons rfl r) q2⟩) hst hpl
theorem pe_methA0 (he : PE X o ta) (hG : ∀ C, G C → MetG X.K C f m) (F : Fn X.prog X.w X.K X.mg X.base k f sp) (g0 : X.A.guards = some []) (hr : Room k X.A) (hx : Passes (L2.CX X.prog X.w) X E)
    (ht : eval (.Call (.Attribute o m apos) [] [] pos) X.env = (do
      let ov ← eval o X.env
      standAt apos.atName
      let (f, first) ← holding [ov] (getMethod ov m pl)
      callWith pos f first (backTo pos (starEach [] X.env)) (backToKw pos (keywordEach [] X.env))) := by rfl) :
    PE X (.Call (.Attribute o m apos) [] [] pos) (tMethA G m sp E ta tNil) := by
  refine ⟨fun pins s σ H Q I h => ?_⟩
  refine PySem.W.methodCall_KW (pl := pl) (thn (he.run pins s σ H _ I h) fun u s1 ⟨x, H1, I1, rx, a, C, dx, fs, ex, ea, g, l, q⟩ => ?_) ht
  subst ex
  obtain rfl : u = Value.ref a := rx
  refine getmeth_ok I1 ea (hG C g).cl (hG C g).mt l ?_
  exact PySem.W.callWith_K0 (first := [.ref a]) I1.kIn (hG C g).mt.kp (run_Fn (us := [.ref a]) (vs := [.ref a]) F g0 hr hx I1 (.cons rfl .nil) q)
/-- o.m(k = v, ..) -/
theorem pe_methAK {fd : FuncData} {ps ks : List Str} {kws : List Keyword} {tk : TA} (he : PE X o ta) (hG : ∀ C, G C → MetG X.K C f m) (F : FnB X.prog X.w X.K X.mg X.base k f fd ps sp) (g0 : X.A.guards = some []) (hr : Room k X.A) (hx : Passes (L2.CX X.prog X.w) X E)
    (hb : ∀ (u : Value) (ws : List Value), ws.length = ks.length → bindArgs fd ⟨[u], ks.zip ws⟩ = pure (ps.zip (u :: ws))) (hps : ps.length = ks.length + 1) (hkw : PK X kws tk)
    (hall : (backToKw pos (keywordEach kws X.env)).all (·.1.isSome) = true := by rfl) (hks : (backToKw pos (keywordEach kws X.env)).filterMap (·.1) = ks := by rfl)
    (hpl : ((backTo pos (starEach [] X.env)).any (·.1) || (backToKw pos (keywordEach kws X.env)).any (·.1.isNone)) = false := by rfl)
    (ht : eval (.Call (.Attribute o m apos) [] kws pos) X.env = (do
      let ov ← eval o X.env
      standAt apos.atName
      let (f, first) ← holding [ov] (getMethod ov m pl)
      callWith pos f first (backTo pos (starEach [] X.env)) (backToKw pos (keywordEach kws X.env))) := by rfl) :
    PE X (.Call (.Attribute o m apos) [] kws pos) (tMethA G m (fun vs H Q E => vs.length = ks.length + 1 ∧ sp vs H Q E) E ta tk) := by
  refine ⟨fun pins s σ H Q I h => ?_⟩
  refine PySem.W.methodCall_KW (pl := pl) (thn (he.run pins s σ H _ I h) fun u s1 ⟨x, H1, I1, rx, a, C, dx, fs, ex, ea, g, l, q⟩ => ?_) ht
  subst ex
  obtain rfl : u = Value.ref a := rx
  refine getmeth_ok I1 ea (hG C g).cl (hG C g).mt l ?_
  refine PySem.W.callWith_KW0 (first := [.ref a]) (h₀ := X.base) I.ok.mod.kin (hG C g).mt.kp hall (thn (hkw.run pos pins s1 σ H1 _ I1 q) fun ws s2 ⟨zs, H2, I2, rz, hl, q2⟩ => ⟨I2.kIn, ?_⟩) hpl
  rw [hks]
  have hl2 : zs.length = ks.length := by simpa using hl
  refine wpAny_call (codeAny_mono (F X.A X.stack s2 H2 ⟨[.ref a], ks.zip ws⟩ (.ref a :: ws) (.ref a :: zs) Q E g0 hr I2.env0 (.of_eq (hb (.ref a) ws (by rw [← rz.length]; exact hl2))) (.cons rfl rz) (hl.trans hps.symm) q2) fun res s' hq => ?_)
  match res, hq with
  | .error e, hq => exact hx pins σ H2 s2 e s' I2 hq
  | .ok (.ret u), hq => exact I2.after hq
  | .ok .next, hq => exact hq.elim
  | .ok .brk, hq => exact hq.elim
  | .ok .cont, hq => exact hq.elim
end
section
variable {te : TE} {σ : L2.St} {H : Hp} {G : Addr → Prop} {m : Str} {sp : Sp} {E : XK}
theorem ev_methA {ta : TA} {vs : List V} {a C dx : Addr} {fs : List (Str × V)} {z : V} (h : Ev te σ H (.ref a)) (ea : H a = some (.ins C dx fs)) (g : G C) (hv : fs.lookup m = none) (ha : EvA ta σ H vs) (hs : SpV sp (.ref a :: vs) H z) : Ev (tMethA G m sp E te ta) σ H z :=
  fun H1 e Q q => h H1 e _ fun H2 e2 => ⟨a, C, dx, fs, rfl, e2 _ _ (e _ _ ea), g, hv, ha H2 (e.trans e2) _ fun H3 e3 => hs H3 ((e.trans e2).trans e3) _ (fun H4 e4 => q H4 ((e2.trans e3).trans e4)) E⟩
end
end LG
namespace K16
open PySem PySem.Spec PyProof.Rows L2 LG Evl FM TB
section
variable {P : Program} {w : World} {K : PySem.W.Frag} {mg : Str → Option Value} {base : Heap} {a : At}
theorem kit_kn {H : Hp} {v : V} {t : String} {C : Addr} {nm : Str} (g : GCl K mg nm C) (h : Kn H v t) : PySem.W.kitOne K (.type t) (.ref C) = some false := by
  obtain ⟨cd, hc⟩ := Option.ne_none_iff_exists'.mp g.ki.1
  unfold PySem.W.kitOne
  rw [if_neg (by simp)]
  show (if ((PySem.W.clsIn K C).isSome && PySem.W.typeIn K (.ref C) == some (.type "type")) = true then PySem.W.subIn K (.type t) (.ref C) else none) = some false
  rw [if_pos (by rw [hc, g.ki.2]; rfl)]
  cases h <;> rfl
def sp_want_termE (a : At) : Sp := fun vs H Q E => ∃ v, vs = [v] ∧ ((∃ t, TM.TmAt (csOf a) H v t ∧ Q .non H) ∨ ((∃ k, Kn H v k) ∧ Errs a.c_InvalidTerm v H E))
theorem ok_want_termE (T : Txt K mg a) : Fn P w K mg base 4 a.want_term (sp_want_termE a) := by
  refine T.d_want_term.fn sc_want_term (fun _ _ _ _ _ _ us hl => match us, hl with | [_], _ => rfl) (fun vs H Q E h => ?_) (fun cdv A outer s H vs Q E hg hr h => ?_)
  · obtain ⟨_, rfl, _⟩ := h
    rfl
  · obtain ⟨v, rfl, h⟩ := h
    refine ⟨_, (pss_one (ps_if (pt_not (pt_val (pe_callB call_isi (by rfl) T.z_isinstance (by decide +kernel) (pa_cons (pv 0) (pa_cons (pe_glob (v := .ref a.k_Term) (by rfl) T.g_Term.m rfl) pa_nil))))) (pss_one (ps_raiseV (i := 0) (k := 1) rfl (W := fun cls d _ H' => E cls d H') (takes_of rfl rfl rfl rfl) T.e_InvalidTerm T.ti T.di (hr.mono (by decide)) (by rfl) (pv 0))) pss_nil)), ?_⟩
    rcases h with ⟨t, ht, q⟩ | ⟨⟨k, kn⟩, err⟩
    · obtain ⟨C, ty, kit⟩ := tm_ty T ht
      exact ⟨v, rfl, v, .ref a.k_Term, _, _, _, rfl, .own _, ty, kit, _, rfl, iteF q⟩
    · refine ⟨v, rfl, v, .ref a.k_Term, _, _, _, rfl, .own _, kn.ty, kit_kn T.g_Term kn, _, rfl, iteT ?_⟩
      exact ⟨v, rfl, fun d hd => err.new (Ex.refl H) hd⟩
theorem Kn.noins {H : Hp} {v : V} {k : String} (h : Kn H v k) {t : TM.Tree} (ht : TM.TmAt (csOf a) H v t) : False := by
  cases ht with
  | place e => cases h with
    | lst h => rw [e] at h; cases h
    | tup h => rw [e] at h; cases h
    | dic h => rw [e] at h; cases h
  | endd e => cases h with
    | lst h => rw [e] at h; cases h
    | tup h => rw [e] at h; cases h
    | dic h => rw [e] at h; cases h
  | lesser e _ _ _ => cases h with
    | lst h => rw [e] at h; cases h
    | tup h => rw [e] at h; cases h
    | dic h => rw [e] at h; cases h
  | greater e _ _ _ => cases h with
    | lst h => rw [e] at h; cases h
    | tup h => rw [e] at h; cases h
    | dic h => rw [e] at h; cases h
end
end K16
namespace K16
open PySem PySem.Spec PyProof.Rows L2 LG Evl FM TB
/-! ### forms: above, the same -/
def under (N : List AS) (m : List Str) : Bool := N.any fun n => sub n.2 m
theorem under_iff {N : List AS} {m : List Str} {B : List Str → Bool} (h : Fm (N.map (·.2)) B) : under N m = B m := by
  unfold under
  rw [Bool.eq_iff_iff, List.any_eq_true, h.sem m]
  constructor
  · rintro ⟨n, hn, z⟩
    exact ⟨n.2, List.mem_map.mpr ⟨n, hn, rfl⟩, z⟩
  · rintro ⟨f, hf, z⟩
    obtain ⟨n, hn, rfl⟩ := List.mem_map.mp hf
    exact ⟨n, hn, z⟩
theorem form_top {M : List AS} {A : List Str → Bool} (h : Fm (M.map (·.2)) A) {m : AS} (hm : m ∈ M) : A m.2 = true := (h.sem m.2).mpr ⟨m.2, List.mem_map.mpr ⟨m, hm, rfl⟩, sub_refl _⟩
/-- never above: each set of the one holds a set of the other -/
theorem never_iff {M N : List AS} {t u : TM.Tree} (ok : TM.Ok u) (hM : Fm (M.map (·.2)) fun X => topT X t) (hN : Fm (N.map (·.2)) fun X => topT X u) : (∀ m ∈ M, under N m.2 = true) ↔ ∀ X, topT X t = true → topT X u = true := by
  constructor
  · intro h X hX
    obtain ⟨f, hf, z⟩ := (hM.sem X).mp hX
    obtain ⟨m, hm, rfl⟩ := List.mem_map.mp hf
    have k := h m hm
    rw [under_iff hN] at k
    exact top_mono ok (fun p _ hp => sub_iff.mp z p hp) k
  · intro h m hm
    rw [under_iff hN]
    exact h _ (form_top hM hm)
/-- the first set of the one that holds no set of the other -/
def above (F G : List (List Str)) : Option (List Str) := F.find? fun x => !(G.any fun y => sub y x)
theorem under_map {N : List AS} {m : List Str} : ((N.map (·.2)).any fun y => sub y m) = under N m := by
  unfold under
  rw [List.any_map]
  rfl
theorem above_at {M N : List AS} {i : Nat} {m : AS} (hm : M[i]? = some m) (dn : ∀ q ∈ M.take i, under N q.2 = true) (h : under N m.2 = false) : above (M.map (·.2)) (N.map (·.2)) = some m.2 := by
  have e : M = M.take i ++ m :: M.drop (i + 1) := by
    obtain ⟨h1, h2⟩ := List.getElem?_eq_some_iff.mp hm
    rw [← h2, ← List.drop_eq_getElem_cons h1, List.take_append_drop]
  have key : ∀ (A B : List AS), (∀ q ∈ A, under N q.2 = true) → above ((A ++ m :: B).map (·.2)) (N.map (·.2)) = some m.2 := fun A B => by
    induction A with
    | nil =>
      intro _
      unfold above
      rw [List.nil_append, List.map_cons, List.find?_cons_of_pos (by show (!(((N.map (·.2)).any fun y => sub y m.2))) = true; rw [under_map, h]; rfl)]
    | cons q A ih =>
      intro hA
      unfold above
      rw [List.cons_append, List.map_cons, List.find?_cons_of_neg (by show ¬ (!(((N.map (·.2)).any fun y => sub y q.2))) = true; rw [under_map, hA q (.head _)]; decide)]
      exact ih fun z hz => hA z (.tail _ hz)
  rw [e]
  exact key _ _ dn
section
variable {P : Program} {w : World} {K : PySem.W.Frag} {mg : Str → Option Value} {base : Heap} {a : At}
theorem cr_anyK {X : Cx} {K : PySem.W.Frag} (hK : X.K = K) (hc : X.calm = true) : CallR X (.builtin "any") (rAny K) := by
  subst hK
  exact cr_any hc
def sp_is_above (K : PySem.W.Frag) : Sp := fun vs H Q _ => ∃ (f g : Addr) (M N : List AS), vs = [.ref f, .ref g] ∧ H f = some (.lst (refs M)) ∧ H g = some (.lst (refs N)) ∧ Tups K H M ∧ Tups K H N ∧ M.length ≤ 256 ∧ N.length ≤ 256 ∧ (∀ y ∈ N, y.2.length ≤ 8) ∧
  ((∀ m ∈ M, under N m.2 = true) → ∀ H', Ex H H' → Q .non H') ∧ ∀ m ∈ M, under N m.2 = false → above (M.map (·.2)) (N.map (·.2)) = some m.2 → ∀ H', Ex H H' → Q (.ref m.1) H'
theorem ok_is_above (T : Txt K mg a) : Fn P w K mg base 2 a.is_above (sp_is_above K) := by
  have G_is_within := ok_is_within (P := P) (w := w) (base := base) T
  refine T.d_is_above.fn sc_is_above (fun _ _ _ _ _ _ us hl => match us, hl with | [_, _], _ => rfl) (fun vs H Q E h => ?_) (fun cdv A outer s H vs Q E hg hr h => ?_)
  · obtain ⟨_, _, _, _, rfl, _⟩ := h
    rfl
  · obtain ⟨f, g, M, N, rfl, hf, hgg, tM, tN, fM, fN, n8, q0, q1⟩ := h
    have nd := sc_is_above.nd
    refine ⟨_, (pss_cons (ps_for PassesOwn.leaving rfl (pi_list (pv 0)) (pg_name (i := 2) nd rfl (.inr rfl))
      (pss_one (ps_if (pt_not (pt_val (pe_callB (cr_any rfl) (by rfl) T.z_any (by decide +kernel) (pa_cons (pe_lc rfl (own := [("part", 3)]) (g := gName 3) (by exact nd) (pi_list (pv 1)) (blkOk_by (own := [("part", 3)]) (N := ["one", "other", "places", "part"]) (sc := defScope s_is_above) (by decide +kernel)) (fun _ _ _ _ _ => (pg_name (i := 3) nd rfl (.inl rfl))) (fun _ _ _ _ _ => pts_nil) (fun _ _ _ _ _ => (pe_fn G_is_within hg (hr.mono (by decide)) T.d_is_within.kp T.d_is_within.m (by rfl) passL (pa_cons (pv 3) (pa_cons (pv 2) pa_nil))))) pa_nil)))) (pss_one (ps_ret (pv 2))) pss_nil)))
    (pss_one (ps_ret pe_non))), ?_⟩
    refine s_forL (K := K) (a := f) (xs := refs M) (ev_var rfl) (sq_of hf) (fun i σ' H' => (∃ u, σ' = [some (.ref f), some (.ref g), u, none]) ∧ Ex H H' ∧ ∀ m ∈ M.take i, under N m.2 = true) (fun H1 e1 => ⟨⟨_, rfl⟩, e1, fun m h => by simp at h⟩) (fun i σ' H' _ h => sq_of (h.2.1 _ _ hf)) ?_ ?_
    · rintro i x σ' H1 hx ⟨⟨u, rfl⟩, e1, dn⟩
      have hx : (M.map fun q => V.ref q.1)[i]? = some x := hx
      rw [List.getElem?_map] at hx
      obtain ⟨m, hm, rfl⟩ := Option.map_eq_some_iff.mp hx
      have hmM := List.mem_of_getElem? hm
      refine s_when (b := !under N m.2) (et_not (et_B (ev_is (ev_any (K := K) (bs := N.map fun y => sub y.2 m.2) ?_) (by rw [List.any_map]; rfl)))) (fun c H2 e2 => ?_) fun c H2 e2 => ⟨⟨_, rfl⟩, e1.trans e2, fun m' hm' => ?_⟩
      · refine el_lmap (ev_var rfl) (sq_of (e1 _ _ hgg)) (by rw [refs_len]; omega) (by rw [refs_len]; simp) (fun _ => rfl) fun j y z H4 e4 hy hz => ?_
        have hy : (N.map fun q => V.ref q.1)[j]? = some y := hy
        rw [List.getElem?_map] at hy
        obtain ⟨r, hr, rfl⟩ := Option.map_eq_some_iff.mp hy
        rw [List.map_map, List.getElem?_map, hr] at hz
        cases hz
        have hrm := List.mem_of_getElem? hr
        have := n8 r hrm
        exact ev_fn (ea_cons (ev_var rfl) (ea_cons (ev_var rfl) ea_nil)) fun H5 e5 Q' q' E' => ⟨r.1, m.1, r.2, m.2, rfl, ex_t ((e1.trans e4).trans e5) (tN r hrm), ex_t ((e1.trans e4).trans e5) (tM m hmM), by omega, q'⟩
      · exact ⟨.ref m.1, rfl, q1 m hmM (by simpa using c) (above_at hm dn (by simpa using c)) H2 (e1.trans e2)⟩
      · rw [List.take_succ, hm] at hm'
        rcases List.mem_append.mp hm' with h | h
        · exact dn m' h
        · rw [show m' = m by simpa using h]
          simpa using c
    · rintro σ' H1 ⟨⟨u, rfl⟩, e1, dn⟩
      rw [refs_len, List.take_length] at dn
      dsimp only
      exact s_ret (v := .non) ev_c fun H2 e2 => q0 dn H2 (e1.trans e2)
end
end K16
namespace K16
open PySem PySem.Spec PyProof.Rows L2 LG Evl FM TB
theorem dp_strs {K : PySem.W.Frag} {H : Hp} : ∀ zs : List Str, DpAll K H (zs.map V.str) (zs.map PyData.str)
  | [] => .nil
  | z :: zs => .cons (.str z) (dp_strs zs)
/-! ### the form and the covers as data -/
def dF (F : List (List Str)) : PyData := .list (F.map fun X => .tuple (X.map .str))
theorem dp_tups {K : PySem.W.Frag} {H : Hp} : ∀ {M : List AS}, Tups K H M → DpAll K H (refs M) ((M.map (·.2)).map fun X => PyData.tuple (X.map .str))
  | [], _ => .nil
  | m :: M, h => .cons (.tup (h m (.head _)) (dp_strs _)) (dp_tups fun q hq => h q (.tail _ hq))
theorem dp_form {K : PySem.W.Frag} {H : Hp} {f : Addr} {M : List AS} {A : List Str → Bool} (h : FormAt K H f M A) : Dp K H (.ref f) (dF (M.map (·.2))) := .lst (sq_of h.1) (dp_tups h.2.1)
theorem strs_ok : ∀ zs : List Str, PyData.showableAll (zs.map PyData.str) = true ∧ PyData.depthAll (zs.map PyData.str) = 0 ∧ PyData.shownAll (zs.map PyData.str) = zs.map reprText
  | [] => ⟨rfl, rfl, rfl⟩
  | z :: zs => by
    obtain ⟨h1, h2, h3⟩ := strs_ok zs
    refine ⟨?_, ?_, ?_⟩
    · rw [List.map_cons, PyData.showableAll, h1]; rfl
    · rw [List.map_cons, PyData.depthAll, h2]; rfl
    · rw [List.map_cons, PyData.shownAll, h3, List.map_cons]; simp only [PyData.shown]
theorem strs_lay (zs : List Str) (hn : ∀ y ∈ zs, y ∈ TM.names) : PyData.canLayAll0 (zs.map PyData.str) = true := by
  induction zs with
  | nil => rfl
  | cons y ys ih =>
    show (PyData.canLay0 (.str y) && PyData.canLayAll0 (ys.map PyData.str)) = true
    rw [ih fun z hz => hn z (List.mem_cons_of_mem _ hz), (by decide +kernel : ∀ n ∈ TM.names, PyData.canLay0 (.str n) = true) y (hn y (.head _))]
    rfl
theorem tup_len (X : List Str) (can : Can X) : (tupleText (X.map reprText)).length ≤ 99 := by
  have h1 := tupleText_len (X.map reprText)
  have h2 := piled_le (ts := X.map reprText) (M := 10) fun t ht => by
    obtain ⟨x, hx, rfl⟩ := List.mem_map.mp ht
    exact (by decide +kernel : ∀ n ∈ TM.names, (reprText n).length ≤ 10) x (can.names x hx)
  rw [List.length_map] at h2
  have := can.short
  omega
theorem tups_ok : ∀ F : List (List Str), (∀ X ∈ F, Can X) → PyData.showableAll (F.map fun X => PyData.tuple (X.map .str)) = true ∧ PyData.depthAll (F.map fun X => PyData.tuple (X.map .str)) ≤ 1 ∧ PyData.shownAll (F.map fun X => PyData.tuple (X.map .str)) = F.map (fun X => tupleText (X.map reprText)) ∧ PyData.canLayAll0 (F.map fun X => PyData.tuple (X.map .str)) = true
  | [], _ => ⟨rfl, by decide, rfl, rfl⟩
  | X :: F, h => by
    obtain ⟨h1, h2, h3, h4⟩ := tups_ok F fun Y hY => h Y (.tail _ hY)
    obtain ⟨k1, k2, k3⟩ := strs_ok X
    refine ⟨?_, ?_, ?_, ?_⟩
    · rw [List.map_cons, PyData.showableAll, h1, PyData.showable, k1]; rfl
    · rw [List.map_cons, PyData.depthAll, PyData.depth, k2]; omega
    · rw [List.map_cons, PyData.shownAll, h3, List.map_cons, PyData.shown, k3]
    · show (PyData.canLay0 (.tuple (X.map .str)) && PyData.canLayAll0 (F.map fun X => PyData.tuple (X.map .str))) = true
      rw [h4, show PyData.canLay0 (.tuple (X.map .str)) = PyData.canLayAll0 (X.map .str) from rfl, strs_lay X (h X (.head _)).names]
      rfl
theorem strs_plain : ∀ zs : List Str, PyData.plainAll (zs.map PyData.str) = true
  | [] => rfl
  | z :: zs => by rw [List.map_cons, PyData.plainAll, strs_plain zs]; rfl
theorem tups_plain : ∀ F : List (List Str), PyData.plainAll (F.map fun X => PyData.tuple (X.map .str)) = true
  | [] => rfl
  | X :: F => by rw [List.map_cons, PyData.plainAll, tups_plain F, PyData.plain, strs_plain X]; rfl
theorem dF_ok {F : List (List Str)} {A : List Str → Bool} (h : Fm F A) : (dF F).showable = true ∧ (dF F).depth ≤ 2 ∧ (dF F).shown.length ≤ 26000 ∧ SeqAt.shaped (dF F) = true := by
  obtain ⟨h1, h2, h3, h4⟩ := tups_ok F h.can
  have hd : (dF F).depth ≤ 2 := by
    unfold dF
    rw [PyData.depth]
    omega
  refine ⟨?_, hd, ?_, ?_⟩
  · unfold dF
    rw [PyData.showable, h1]
  · unfold dF
    rw [PyData.shown, h3]
    have k1 := listText_len (F.map fun X => tupleText (X.map reprText))
    have k2 := piled_le (ts := F.map fun X => tupleText (X.map reprText)) (M := 99) fun t ht => by
      obtain ⟨x, hx, rfl⟩ := List.mem_map.mp ht
      exact tup_len x (h.can x hx)
    rw [List.length_map] at k2
    have := fm_few h
    omega
  · unfold SeqAt.shaped
    rw [Bool.and_eq_true]
    exact ⟨h4, decide_eq_true (by omega)⟩
theorem eqv_strs : ∀ xs ys : List Str, PyData.eqvAll (xs.map PyData.str) (ys.map PyData.str) = true → xs = ys
  | [], [], _ => rfl
  | [], _ :: _, h => by simp [PyData.eqvAll] at h
  | _ :: _, [], h => by simp [PyData.eqvAll] at h
  | x :: xs, y :: ys, h => by
    simp only [List.map_cons, PyData.eqvAll, Bool.and_eq_true] at h
    have h1 : x = y := by simpa [PyData.eqv] using h.1
    rw [h1, eqv_strs xs ys h.2]
theorem eqv_tups : ∀ F G : List (List Str), PyData.eqvAll (F.map fun X => PyData.tuple (X.map .str)) (G.map fun X => PyData.tuple (X.map .str)) = true → F = G
  | [], [], _ => rfl
  | [], _ :: _, h => by simp [PyData.eqvAll] at h
  | _ :: _, [], h => by simp [PyData.eqvAll] at h
  | x :: xs, y :: ys, h => by
    simp only [List.map_cons, PyData.eqvAll, Bool.and_eq_true] at h
    have h1 : PyData.eqvAll (x.map PyData.str) (y.map PyData.str) = true := by simpa only [PyData.eqv] using h.1
    rw [eqv_strs x y h1, eqv_tups xs ys h.2]
theorem dF_plain (F : List (List Str)) : (dF F).plain = true := by unfold dF; rw [PyData.plain]; exact tups_plain _
theorem eqv_dF (F G : List (List Str)) : PyData.eqv (dF F) (dF G) = true ↔ F = G := by
  constructor
  · intro h
    unfold dF at h
    exact eqv_tups F G (by simpa only [PyData.eqv] using h)
  · rintro rfl
    exact SeqAt.eqv_refl_plain _ (dF_plain F)
def sameR (t r : TM.Tree) (b : Bool) : Prop := b = true ↔ ∀ X, topT X t = topT X r
def neverR (t r : TM.Tree) (b : Bool) : Prop := b = true ↔ ∀ X, topT X t = true → topT X r = true
def sp_pair (a : At) (n : Nat) (R : TM.Tree → TM.Tree → Bool → Prop) : Sp := fun vs H Q E => ∃ v u, vs = [v, u] ∧ ((∃ t r, TM.TmAt (csOf a) H v t ∧ TM.TmAt (csOf a) H u r ∧ TM.Ok t ∧ TM.Ok r ∧ t.depth < n ∧ r.depth < n ∧ ∀ b H', Ex H H' → R t r b → Q (.bl b) H') ∨
  ((∃ k, Kn H v k) ∧ Errs a.c_InvalidTerm v H E) ∨ ((∃ t, TM.TmAt (csOf a) H v t) ∧ (∃ k, Kn H u k) ∧ Errs a.c_InvalidTerm u H E))
section
variable {P : Program} {w : World} {K : PySem.W.Frag} {mg : Str → Option Value} {base : Heap} {a : At}
theorem fnB_is_same (T : Txt K mg a) (n : Nat) : ∃ fd, FnB P w K mg base (n + 5) a.is_same fd ["one", "other"] (sp_pair a n sameR) ∧ Fun K "is_same" "is_same" s_is_same a.is_same fd := by
  have G_found_form := ok_found_form (P := P) (w := w) (base := base) T n
  have G_want_term := ok_want_termE (P := P) (w := w) (base := base) T
  obtain ⟨fd, F⟩ := T.d_is_same.F
  refine ⟨fd, FnB.of F sc_is_same fun cdv A outer s H vs Q E hg hr h => ?_, F⟩
  obtain ⟨v, u, rfl, h⟩ := h
  have hu64 : (A.deeper _).units + 64 < cLine := hr.units
  refine ⟨_, (pss_cons (ps_expr (pe_fn (E := E) G_want_term hg (hr.mono (by omega)) T.d_want_term.kp T.d_want_term.m (by rfl) passC (pa_cons (pv 0) pa_nil)))
    (pss_cons (ps_expr (pe_fn (E := E) G_want_term hg (hr.mono (by omega)) T.d_want_term.kp T.d_want_term.m (by rfl) passC (pa_cons (pv 1) pa_nil)))
    (pss_one (ps_ret (pe_cmpR (op_eqD hu64) (pe_fn G_found_form hg hr T.d_found_form.kp T.d_found_form.m (by rfl) passL (pa_cons (pv 0) pa_nil)) (pe_fn G_found_form hg hr T.d_found_form.kp T.d_found_form.m (by rfl) passL (pa_cons (pv 1) pa_nil)) (nomark _)))))), ?_⟩
  rcases h with ⟨t, r, ht, hr2, okt, okr, dt, dr, q⟩ | ⟨kn, err⟩ | ⟨⟨t, ht⟩, kn, err⟩
  · refine ⟨v, rfl, v, rfl, .inl ⟨t, ht, u, rfl, u, rfl, .inl ⟨r, hr2, v, rfl, v, t, rfl, ht, okt, dt, fun f M H1 hf e1 fm => ⟨u, rfl, u, r, rfl, hr2.up e1, okr, dr, fun g N H2 hgg e2 gm => ?_⟩⟩⟩⟩
    obtain ⟨_, _, _, s1⟩ := dF_ok fm.2.2
    obtain ⟨_, _, _, s2⟩ := dF_ok gm.2.2
    refine ⟨_, _, dp_form (fm.up e2), dp_form gm, s1, s2, q _ H2 (e1.trans e2) ?_⟩
    unfold sameR
    rw [eqv_dF]
    constructor
    · intro e X
      rw [Bool.eq_iff_iff, fm.2.2.sem X, gm.2.2.sem X, e]
    · exact fun e => fm.2.2.unique (gm.2.2.congr fun X => (e X).symm)
  · exact ⟨v, rfl, v, rfl, .inr ⟨kn, err⟩⟩
  · exact ⟨v, rfl, v, rfl, .inl ⟨t, ht, u, rfl, u, rfl, .inr ⟨kn, err⟩⟩⟩
theorem fnB_is_never_above (T : Txt K mg a) (n : Nat) : ∃ fd, FnB P w K mg base (n + 5) a.is_never_above fd ["one", "other"] (sp_pair a n neverR) ∧ Fun K "is_never_above" "is_never_above" s_is_never_above a.is_never_above fd := by
  have G_found_form := ok_found_form (P := P) (w := w) (base := base) T n
  have G_is_above := ok_is_above (P := P) (w := w) (base := base) T
  have G_want_term := ok_want_termE (P := P) (w := w) (base := base) T
  obtain ⟨fd, F⟩ := T.d_is_never_above.F
  refine ⟨fd, FnB.of F sc_is_never_above fun cdv A outer s H vs Q E hg hr h => ?_, F⟩
  obtain ⟨v, u, rfl, h⟩ := h
  refine ⟨_, (pss_cons (ps_expr (pe_fn (E := E) G_want_term hg (hr.mono (by omega)) T.d_want_term.kp T.d_want_term.m (by rfl) passC (pa_cons (pv 0) pa_nil)))
    (pss_cons (ps_expr (pe_fn (E := E) G_want_term hg (hr.mono (by omega)) T.d_want_term.kp T.d_want_term.m (by rfl) passC (pa_cons (pv 1) pa_nil)))
    (pss_one (ps_ret (pe_cmpR op_isN (pe_fn G_is_above hg (hr.mono (by omega)) T.d_is_above.kp T.d_is_above.m (by rfl) passL (pa_cons (pe_fn G_found_form hg hr T.d_found_form.kp T.d_found_form.m (by rfl) passL (pa_cons (pv 0) pa_nil)) (pa_cons (pe_fn G_found_form hg hr T.d_found_form.kp T.d_found_form.m (by rfl) passL (pa_cons (pv 1) pa_nil)) pa_nil))) pe_non (nomark _)))))), ?_⟩
  rcases h with ⟨t, r, ht, hr2, okt, okr, dt, dr, q⟩ | ⟨kn, err⟩ | ⟨⟨t, ht⟩, kn, err⟩
  · refine ⟨v, rfl, v, rfl, .inl ⟨t, ht, u, rfl, u, rfl, .inl ⟨r, hr2, v, rfl, v, t, rfl, ht, okt, dt, fun f M H1 hf e1 fm => ⟨u, rfl, u, r, rfl, hr2.up e1, okr, dr, fun g N H2 hgg e2 gm => ?_⟩⟩⟩⟩
    have fm := fm.up e2
    have l1 := fm_few fm.2.2
    have l2 := fm_few gm.2.2
    rw [List.length_map] at l1 l2
    have nv := never_iff okr fm.2.2 gm.2.2
    refine ⟨f, g, M, N, rfl, fm.1, gm.1, fm.2.1, gm.2.1, l1, l2, fun y hy => (gm.2.2.can y.2 (List.mem_map.mpr ⟨y, hy, rfl⟩)).short, fun h H3 e3 => ?_, fun m hm h _ H3 e3 => ?_⟩
    · exact ⟨rfl, q true H3 ((e1.trans e2).trans e3) ⟨fun _ => nv.mp h, fun _ => rfl⟩⟩
    · exact ⟨rfl, q false H3 ((e1.trans e2).trans e3) ⟨(fun z => nomatch z), fun z => by rw [nv.mpr z m hm] at h; cases h⟩⟩
  · exact ⟨v, rfl, v, rfl, .inr ⟨kn, err⟩⟩
  · exact ⟨v, rfl, v, rfl, .inl ⟨t, ht, u, rfl, u, rfl, .inr ⟨kn, err⟩⟩⟩
end
end K16
namespace K16
open PySem PySem.Spec PyProof.Rows L2 LG Evl
section
variable {X : Cx}
/-- list + list: the new list is not the table of modules -/
def rCatB : R2 := fun x y H Q => ∃ l b xs zs, x = .ref l ∧ y = .ref b ∧ H l = some (.lst xs) ∧ H b = some (.lst zs) ∧ xs.length + zs.length ≤ sizeLine ∧ ∀ p, H p = none → p ≠ sysModules → Q (.ref p) (upd H p (.lst (xs ++ zs)))
theorem op_catB : OpR X (binaryOp .Add) rCatB := by
  intro pins s σ H x y v u Q I rx ry h
  obtain ⟨l, b, xs, zs, rfl, rfl, hH, hB, hz, q⟩ := h
  cases rx
  cases ry
  obtain ⟨z, its, n, r, hl, e⟩ := I.lstM hH
  obtain ⟨z2, its2, n2, r2, hl2, e2⟩ := I.lstM hB
  refine PySem.P.add_list e e2 ?_ (by rw [List.size_toArray, List.size_toArray]; omega)
  have ea : its.toArray ++ its2.toArray = (its ++ its2).toArray := by simp
  rw [ea]
  exact ⟨.ref _, _, I.lnew (t' := s.toks) (r.append r2) (by rw [List.length_append]; omega), rfl, q _ I.fresh (Nat.ne_of_gt (big_of I))⟩
end
section
variable {P : Program} {w : World} {K : PySem.W.Frag} {mg : Str → Option Value} {base : Heap} {a : At}
/-! ### the places, sorted -/
def sp__law_spots (n : Nat) : Sp := fun vs H Q _ => ∃ (S : Addr → Prop) (v : V) (t : TM.Tree), vs = [v] ∧ TM.MdAt S H v t ∧ TM.Ok t ∧ t.depth < n ∧ ∀ p xs H', H p = none → Ex H H' → TM.Spots xs t → H' p = some (.lst (xs.map V.str)) → Q (.ref p) H'
theorem ok__law_spots (T : Txt K mg a) : ∀ n, Fn P w K mg base (n + 1) a._law_spots (sp__law_spots n) := by
  intro n
  induction n with
  | zero =>
    refine T.d__law_spots.fn sc__law_spots (fun _ _ _ _ _ _ us hl => match us, hl with | [_], _ => rfl) (fun vs H Q E h => ?_) (fun cdv A outer s H vs Q E hg hr h => ?_)
    · obtain ⟨_, _, _, rfl, _⟩ := h
      rfl
    · obtain ⟨_, _, t, _, _, _, hd, _⟩ := h
      exact absurd hd (Nat.not_lt_zero _)
  | succ n ih =>
    have G__law_spots := ih
    refine T.d__law_spots.fn sc__law_spots (fun _ _ _ _ _ _ us hl => match us, hl with | [_], _ => rfl) (fun vs H Q E h => ?_) (fun cdv A outer s H vs Q E hg hr h => ?_)
    · obtain ⟨_, _, _, rfl, _⟩ := h
      rfl
    · obtain ⟨S, v, t, rfl, ht, ok, hd, q⟩ := h
      have nd := sc__law_spots.nd
      refine ⟨_, (pss_cons (ps_if (pt_cmpR op_eq (pe_ix ix_tup (pv 0) pe_int (fun _ _ => rfl)) pe_str (nomark _)) (pss_one (ps_ret (pe_lst (pa_cons (pe_ix ix_tup (pv 0) pe_int (fun _ _ => rfl)) pa_nil)))) pss_nil)
    (pss_cons (ps_set (i := 1) nd rfl (.inl rfl) (pe_lst pa_nil))
    (pss_cons (ps_for PassesOwn.leaving rfl (pi_list (pe_ifExp (pt_cmpR op_ne (pe_ix ix_tup (pv 0) pe_int (fun _ _ => rfl)) pe_str (nomark _)) (pe_ix ix_tup (pv 0) pe_int (fun _ _ => rfl)) (pe_lst pa_nil))) (pg_name (i := 2) nd rfl (.inl rfl))
      (pss_one (ps_set (i := 1) nd rfl (.inl rfl) (pe_op op_catB (pv 1) (pe_fn G__law_spots hg (hr.mono (by omega)) T.d__law_spots.kp T.d__law_spots.m (by rfl) passL (pa_cons (pv 2) pa_nil))))))
    (pss_one (ps_ret (pe_callB (TM.cr_sortedSWN rfl) (by rfl) T.z_sorted (by decide +kernel) (pa_cons (pe_callTy (cr_setKL rfl) (by rfl) T.z_set (by decide +kernel) (pa_cons (pv 1) pa_nil)) pa_nil))))))), ?_⟩
      -- behind the loop
      have fin : ∀ (l : Addr) (fs : List Str) (σ : L2.St) (H2 : Hp), σ[1]? = some (some (.ref l)) → Ex H H2 → H2 l = some (.lst (fs.map V.str)) → fs.length ≤ 1000 → (∀ n, n ∈ fs ↔ n ∈ t.places) → tRet (tCB (TM.rSortedSWN P w) (tCons (tCB (rSetKL K P w) (tCons (tVar 1) tNil)) tNil)) { nx := fun _ H' => Q .non H', rt := Q } σ H2 := by
        intro l fs σ H2 hσ e2 h2 hz hm
        refine ⟨.ref l, hσ, l, fs.map Sum.inr, rfl, sq_of (by rw [h2, List.map_map]; rfl), by simpa using hz, fun c Sc m hc hS _ => ?_⟩
        refine ⟨c, Sc, m, TM.names, rfl, upd_same, by decide, fun k hk => ?_, fun xs p hs hnd hx hp => ?_⟩
        · obtain ⟨x, hx, rfl⟩ := List.mem_map.mp ((hS k).mp hk)
          exact ⟨x, ok.names x ((hm x).mp hx), rfl⟩
        · have e3 := e2.trans (Ex.new (o := SWO P w c Sc m) hc)
          refine q p xs _ (fresh_back e3 hp) (e3.trans (Ex.new hp)) ⟨hs, hnd, fun x => ?_⟩ upd_same
          rw [hx, hS, ← hm]
          constructor
          · intro h
            obtain ⟨y, hy, e⟩ := List.mem_map.mp h
            cases e
            exact hy
          · exact fun h => List.mem_map.mpr ⟨x, h, rfl⟩
      have two : ∀ {x l : Addr} {word : Str} {xs : List V} {ts : List TM.Tree}, word ≠ "end" → H x = some (.tup [.str word, .ref l]) → H l = some (.lst xs) → xs.length = ts.length → (∀ (i : Nat) (y : V) (t : TM.Tree), xs[i]? = some y → ts[i]? = some t → TM.MdAt S H y t) → TM.Ln ts.length → (∀ t ∈ ts, TM.Ok t) → TM.Tree.depthAll ts < n → t.places = TM.Tree.placesAll ts →
          ∀ H2, Ex H H2 → tSeq (tAsg (tLst tNil) (gName 1)) (tSeq (tFor (iList K (tIf (tTest (tOp rNe (tOp (rIxT K) (tVar 0) (tC (.int 0))) (tC (.str "end")))) (tOp (rIxT K) (tVar 0) (tC (.int 1))) (tLst tNil))) (gName 2) (tAsg (tOp rCatB (tVar 1) (tFn (sp__law_spots n) E0 (tCons (tVar 2) tNil))) (gName 1))) (tRet (tCB (TM.rSortedSWN P w) (tCons (tCB (rSetKL K P w) (tCons (tVar 1) tNil)) tNil)))) { nx := fun _ H' => Q .non H', rt := Q } [some (.ref x), none, none] H2 := by
        intro x l word xs ts hword hx hl hn hxs hln hok hdp hpl H2 e2
        have h8 := hln.eight
        refine ⟨(by decide : 0 ≤ sizeLine), fun l0 hl0 => ?_⟩
        have e3 := e2.trans (Ex.new (o := .lst []) hl0)
        refine s_forL (K := K) (a := l) (xs := xs) (ev_if (b := true) (et_is (et_test (ev_op (ev_op (ev_var rfl) ev_c (rv_ixT (st_of (e3 _ _ hx)) (i := 0) rfl)) ev_c (rv_ne rfl))) (by rw [decide_eq_false (str_ne hword)]; rfl)) (fun _ => ev_op (ev_var rfl) ev_c (rv_ixT (st_of (e3 _ _ hx)) (i := 1) rfl)) fun z => nomatch z) (sq_of (e3 _ _ hl)) (fun i σ' H' => ∃ (lf : Addr) (fs : List Str), (∃ u, σ' = [some (.ref x), some (.ref lf), u]) ∧ Ex H H' ∧ H' lf = some (.lst (fs.map V.str)) ∧ fs.length ≤ 8 * i ∧ ∀ n, n ∈ fs ↔ n ∈ TM.Tree.placesAll (ts.take i)) (fun H4 e4 => ⟨l0, [], ⟨_, rfl⟩, e3.trans e4, e4 _ _ upd_same, Nat.le_refl _, fun n => by simp [TM.Tree.placesAll]⟩) (fun i σ' H' _ h => ?_) ?_ ?_
        · obtain ⟨_, _, _, e4, _⟩ := h
          exact sq_of (e4 _ _ hl)
        · rintro i y σ' H' hi ⟨lf, fs, ⟨u, rfl⟩, e4, h4, hz, hm⟩
          have hi2 : i < ts.length := hn ▸ (List.getElem?_eq_some_iff.mp hi).1
          have ht : ts[i]? = some ts[i] := List.getElem?_eq_getElem hi2
          have hmem : ts[i] ∈ ts := List.getElem_mem hi2
          refine ⟨.ref lf, rfl, y, rfl, S, y, ts[i], rfl, (hxs i y _ hi ht).ex e4, hok _ hmem, Nat.lt_of_le_of_lt (TM.depth_mem hmem) hdp, fun p ss H5 hp e5 hss h5 => ?_⟩
          have hs8 := hss.len (hok _ hmem)
          refine ⟨lf, p, _, _, rfl, rfl, e5 _ _ h4, h5, sz_of (by rw [List.length_map, List.length_map]; omega), fun r hr _ => ⟨r, fs ++ ss, ⟨_, rfl⟩, (e4.trans e5).trans (Ex.new hr), by rw [List.map_append]; exact upd_same, by rw [List.length_append]; omega, fun n => ?_⟩⟩
          rw [List.mem_append, hm, hss.mem, List.take_succ, ht, Option.toList_some, placesAll_app, List.mem_append]
          simp [TM.Tree.placesAll]
        · rintro σ' H' ⟨lf, fs, ⟨u, rfl⟩, e4, h4, hz, hm⟩
          rw [hn, List.take_length, ← hpl] at hm
          exact fin lf fs _ H' rfl e4 h4 (by omega) hm
      cases ht with
      | @place x nm s hx =>
        refine q_when (b := true) (et_eqT (ev_op (ev_var rfl) ev_c (rv_ixT (st_of hx) (i := 0) rfl)) ev_c rfl rfl) (fun _ H1 e1 => ?_) (fun z => nomatch z)
        exact s_retL (el_lst (ea_cons (ev_op (ev_var rfl) ev_c (rv_ixT (st_of (e1 _ _ hx)) (i := 1) rfl)) ea_nil) (by show 1 ≤ 100000; decide)) fun p H2 hp e2 h2 => q p [nm] H2 (fresh_back e1 hp) (e1.trans e2) ⟨rfl, by simp, fun x => by simp [TM.Tree.places]⟩ h2
      | @endd x nm s hx =>
        refine q_when (b := false) (et_eqF (ev_op (ev_var rfl) ev_c (rv_ixT (st_of hx) (i := 0) rfl)) ev_c rfl (str_ne (by decide))) (fun z => nomatch z) (fun _ H1 e1 => ?_)
        have z : tSeq (tAsg (tLst tNil) (gName 1)) (tSeq (tFor (iList K (tIf (tTest (tOp rNe (tOp (rIxT K) (tVar 0) (tC (.int 0))) (tC (.str "end")))) (tOp (rIxT K) (tVar 0) (tC (.int 1))) (tLst tNil))) (gName 2) (tAsg (tOp rCatB (tVar 1) (tFn (sp__law_spots n) E0 (tCons (tVar 2) tNil))) (gName 1))) (tRet (tCB (TM.rSortedSWN P w) (tCons (tCB (rSetKL K P w) (tCons (tVar 1) tNil)) tNil)))) { nx := fun _ H' => Q .non H', rt := Q } [some (.ref x), none, none] H1 := by
          refine ⟨(by decide : 0 ≤ sizeLine), fun l0 hl0 => ?_⟩
          have e3 := e1.trans (Ex.new (o := .lst []) hl0)
          refine s_forNL (K := K) (xs := []) (tl := tIf (tTest (tOp rNe (tOp (rIxT K) (tVar 0) (tC (.int 0))) (tC (.str "end")))) (tOp (rIxT K) (tVar 0) (tC (.int 1))) (tLst tNil)) (fun H4 e4 Q' q' => ?_) (fun p i σ' H' => (∃ u, σ' = [some (.ref x), some (.ref l0), u]) ∧ Ex H H' ∧ H' l0 = some (.lst []) ∧ H' p = some (.lst [])) (fun p H4 hp e4 h4 => ⟨⟨_, rfl⟩, e3.trans e4, e4 _ _ upd_same, h4⟩) (fun p i σ' H' _ h => sq_of h.2.2.2) (fun p i y σ' H' hi _ => by simp at hi) ?_
          · refine et_is (b := false) (et_test (ev_op (ev_op (ev_var rfl) ev_c (rv_ixT (st_of (e3 _ _ hx)) (i := 0) rfl)) ev_c (rv_ne rfl))) (by simp) H4 e4 _ fun H5 e5 => ?_
            exact el_lst (vs := []) ea_nil (by decide) H5 (e4.trans e5) _ fun p H6 hp e6 h6 => q' p H6 (fresh_back e5 hp) (e5.trans e6) h6
          · rintro p σ' H' ⟨⟨u, rfl⟩, e4, h4, _⟩
            exact fin l0 [] _ H' rfl e4 h4 (Nat.zero_le _) fun n => by simp [TM.Tree.places]
        exact z
      | @lesser x l xs ts s hx sl hl hn hxs =>
        cases ok with
        | lesser hln hok =>
          refine q_when (b := false) (et_eqF (ev_op (ev_var rfl) ev_c (rv_ixT (st_of hx) (i := 0) rfl)) ev_c rfl (str_ne (by decide))) (fun z => nomatch z) (fun _ H1 e1 => ?_)
          exact two (by decide) hx hl hn hxs hln hok (Nat.lt_of_succ_lt_succ (by simpa [TM.Tree.depth] using hd)) (by rw [TM.Tree.places]) H1 e1
      | @greater x l xs ts s hx sl hl hn hxs =>
        cases ok with
        | greater hln hok =>
          refine q_when (b := false) (et_eqF (ev_op (ev_var rfl) ev_c (rv_ixT (st_of hx) (i := 0) rfl)) ev_c rfl (str_ne (by decide))) (fun z => nomatch z) (fun _ H1 e1 => ?_)
          exact two (by decide) hx hl hn hxs hln hok (Nat.lt_of_succ_lt_succ (by simpa [TM.Tree.depth] using hd)) (by rw [TM.Tree.places]) H1 e1
end
end K16
/-! A dict comprehension over a list of texts, the keys themselves. -/
namespace LG
open PySem PySem.Spec PyProof.Rows L2 Evl
theorem nd_inj {α : Type} : ∀ {l : List α} {i j : Nat} {x : α}, l.Nodup → l[i]? = some x → l[j]? = some x → i = j
  | [], i, _, _, _, h, _ => by simp at h
  | y :: l, 0, 0, _, _, _, _ => rfl
  | y :: l, 0, j + 1, x, nd, h1, h2 => by
    have e : y = x := by simpa using h1
    have m : x ∈ l := List.mem_of_getElem? (by simpa using h2)
    exact absurd (e ▸ m) (List.nodup_cons.mp nd).1
  | y :: l, i + 1, 0, x, nd, h1, h2 => by
    have e : y = x := by simpa using h2
    have m : x ∈ l := List.mem_of_getElem? (by simpa using h1)
    exact absurd (e ▸ m) (List.nodup_cons.mp nd).1
  | y :: l, i + 1, j + 1, x, nd, h1, h2 => congrArg (· + 1) (nd_inj (l := l) (x := x) (List.nodup_cons.mp nd).2 (by simpa using h1) (by simpa using h2))
theorem putK_new {kvs : List (Key × V)} {k : Key} {v : V} (h : ∀ kv ∈ kvs, kv.1 ≠ k) : putK kvs k v = kvs ++ [(k, v)] := by
  unfold putK
  exact if_neg fun z => by
    obtain ⟨kv, hm, e⟩ := List.any_eq_true.mp z
    exact h kv hm (of_decide_eq_true e)
section
variable {K : PySem.W.Frag} {σ : L2.St} {H1 : Hp} {l : Addr} {xs : List Str} {j : Nat} {tv : TE} {Q : Addr → Hp → Prop}
theorem dcL (hl : SqL K H1 l (xs.map V.str)) (nd : xs.Nodup) (hz : xs.length ≤ 1000) (hw : ∀ x, wipe ((wipe σ [j]).set j (some x)) [j] = wipe σ [j]) (hj : ∀ x : V, ((wipe σ [j]).set j (some x))[j]? = some (some x)) (val : Str → V)
    (hv : ∀ x ∈ xs, ∀ H2, Ex H1 H2 → Ev tv ((wipe σ [j]).set j (some (.str x))) H2 (val x)) (q : ∀ D H2, H1 D = none → Ex H1 H2 → H2 D = some (.dK (xs.map fun x => ((Sum.inr x : Key), val x))) → Q D H2) :
    ∀ D, H1 D = none → ∃ W : Nat → Nat → Hp → Prop, (∃ m, W 0 m (upd H1 D (.dK []))) ∧ ∀ i k H, W i k H →
      ((Itl K l).stop i H ∧ Q D H) ∨ ((Itl K l).go i H ∧ ∃ Nx : Hp → Prop, (∀ H', Nx H' → ∃ m', m' < k ∧ W (i + 1) m' H') ∧ ∀ x H', (Itl K l).yld i H x H' → gName j x (wipe σ [j]) H' fun σ2 H2 => wipe σ2 [j] = wipe σ [j] ∧ tYes σ2 H2 fun b H3 =>
        if b = true then (tVar j) σ2 H3 fun y H4 => tv σ2 H4 fun z H5 => ∃ kvs k, y = kV k ∧ H5 D = some (.dK kvs) ∧ kvs.length < sizeLine ∧ Nx (upd H5 D (.dK (putK kvs k z))) else Nx H3) := fun D hD => by
  refine ⟨fun i m H => m = (xs.map V.str).length - i ∧ i ≤ (xs.map V.str).length ∧ Ex H1 H ∧ H D = some (.dK ((xs.take i).map fun x => ((Sum.inr x : Key), val x))), ⟨(xs.map V.str).length, by simp, Nat.zero_le _, Ex.new hD, upd_same⟩, ?_⟩
  rintro i m H ⟨rfl, hi, e, hx⟩
  have q0 := ex_l e hl
  by_cases hlt : i < (xs.map V.str).length
  · refine .inr ⟨⟨_, (xs.map V.str)[i], q0, by simp [hlt]⟩, fun H => Ex H1 H ∧ H D = some (.dK ((xs.take (i + 1)).map fun x => ((Sum.inr x : Key), val x))), fun H' p' => ⟨(xs.map V.str).length - (i + 1), by omega, rfl, hlt, p'.1, p'.2⟩, fun x H' y => ?_⟩
    obtain ⟨e1, y⟩ := y
    subst e1
    have y := y _ q0
    rw [List.getElem?_map] at y
    obtain ⟨n, hn, rfl⟩ := Option.map_eq_some_iff.mp y
    have hm := List.mem_of_getElem? hn
    have hi2 : i < xs.length := by simpa using hlt
    show wipe ((wipe σ [j]).set j (some (V.str n))) [j] = wipe σ [j] ∧ ∃ v, ((wipe σ [j]).set j (some (V.str n)))[j]? = some (some v) ∧ _
    refine ⟨hw _, .str n, hj _, hv n hm _ e _ (Ex.refl _) _ fun H5 e5 => ⟨_, Sum.inr n, rfl, e5 _ _ hx, sz_lt (by rw [List.length_map, List.length_take]; omega), Ex.mut (e.trans e5) hD, ?_⟩⟩
    rw [upd_same, putK_new, List.take_succ, hn, List.map_append]
    · rfl
    · intro kv hkv ek
      obtain ⟨z, hz2, rfl⟩ := List.mem_map.mp hkv
      have ek : z = n := Sum.inr.inj ek
      subst ek
      obtain ⟨k, hk⟩ := List.getElem?_of_mem hz2
      have hk2 : k < i := by
        have := (List.getElem?_eq_some_iff.mp hk).1
        rw [List.length_take] at this
        omega
      rw [List.getElem?_take, if_pos hk2] at hk
      have := nd_inj nd hk hn
      omega
  · have e1 : i = xs.length := by simp at hi hlt; omega
    subst e1
    rw [List.take_length] at hx
    exact .inl ⟨⟨_, q0, by simp⟩, q D H hD e hx⟩
end
end LG
namespace K16
open PySem PySem.Spec PyProof.Rows L2 LG Evl FM TB
/-! ### the places of two terms, sorted -/
def EvSp (te : TE) (σ : L2.St) (H : Hp) (t : TM.Tree) : Prop := ∀ H1, Ex H H1 → ∀ Q : VK, (∀ p xs H2, H1 p = none → Ex H1 H2 → TM.Spots xs t → H2 p = some (.lst (xs.map V.str)) → Q (.ref p) H2) → te σ H1 Q
theorem pl2 {t u : TM.Tree} {n : Str} : n ∈ (TM.Tree.lesser [t, u]).places ↔ n ∈ t.places ∨ n ∈ u.places := by
  simp [TM.Tree.places, TM.Tree.placesAll]
theorem ev_spots2 {K : PySem.W.Frag} {P : Program} {w : World} {te : TE} {σ : L2.St} {H : Hp} {t u : TM.Tree} (okt : TM.Ok t) (oku : TM.Ok u)
    (h : ∀ H1, Ex H H1 → ∀ Q : VK, (∀ p (fs : List Str) H2, H1 p = none → Ex H1 H2 → H2 p = some (.lst (fs.map V.str)) → fs.length ≤ 1000 → (∀ n, n ∈ fs ↔ n ∈ t.places ∨ n ∈ u.places) → Q (.ref p) H2) → te σ H1 Q) :
    EvSp (tCB (TM.rSortedSWN P w) (tCons (tCB (rSetKL K P w) (tCons te tNil)) tNil)) σ H (.lesser [t, u]) := fun H1 e Q q =>
  h H1 e _ fun l fs H2 hl e2 h2 hz hm => by
    refine ⟨l, fs.map Sum.inr, rfl, sq_of (by rw [h2, List.map_map]; rfl), by simpa using hz, fun c Sc m hc hS _ => ?_⟩
    refine ⟨c, Sc, m, TM.names, rfl, upd_same, by decide, fun k hk => ?_, fun xs p hs hnd hx hp => ?_⟩
    · obtain ⟨x, hx, rfl⟩ := List.mem_map.mp ((hS k).mp hk)
      exact ⟨x, ((hm x).mp hx).elim (okt.names x) (oku.names x), rfl⟩
    · have e3 := e2.trans (Ex.new (o := SWO P w c Sc m) hc)
      refine q p xs _ (fresh_back e3 hp) (e3.trans (Ex.new hp)) ⟨hs, hnd, fun x => ?_⟩ upd_same
      rw [hx, hS, pl2, ← hm]
      constructor
      · intro h
        obtain ⟨y, hy, e⟩ := List.mem_map.mp h
        cases e
        exact hy
      · exact fun h => List.mem_map.mpr ⟨x, h, rfl⟩
/-- the concatenation of two lists of places -/
theorem ev_cat2 {ta tb : TE} {σ : L2.St} {H : Hp} {t u : TM.Tree} (ha : ∀ H1, Ex H H1 → ∀ Q : VK, (∀ p (fs : List Str) H2, H1 p = none → Ex H1 H2 → H2 p = some (.lst (fs.map V.str)) → fs.length ≤ 400 → (∀ n, n ∈ fs ↔ n ∈ t.places) → Q (.ref p) H2) → ta σ H1 Q)
    (hb : ∀ H1, Ex H H1 → ∀ Q : VK, (∀ p (fs : List Str) H2, H1 p = none → Ex H1 H2 → H2 p = some (.lst (fs.map V.str)) → fs.length ≤ 400 → (∀ n, n ∈ fs ↔ n ∈ u.places) → Q (.ref p) H2) → tb σ H1 Q) :
    ∀ H1, Ex H H1 → ∀ Q : VK, (∀ p (fs : List Str) H2, H1 p = none → Ex H1 H2 → H2 p = some (.lst (fs.map V.str)) → fs.length ≤ 1000 → (∀ n, n ∈ fs ↔ n ∈ t.places ∨ n ∈ u.places) → Q (.ref p) H2) → tOp rCatB ta tb σ H1 Q := fun H1 e Q q =>
  ha H1 e _ fun p fs H2 hp e2 h2 l2 m2 => hb H2 (e.trans e2) _ fun p' gs H3 hp' e3 h3 l3 m3 =>
    ⟨p, p', _, _, rfl, rfl, e3 _ _ h2, h3, sz_of (by rw [List.length_map, List.length_map]; omega), fun r hr _ => q r (fs ++ gs) _ (fresh_back (e2.trans e3) hr) ((e2.trans e3).trans (Ex.new hr)) (by rw [List.map_append]; exact upd_same) (by rw [List.length_append]; omega) fun n => by rw [List.mem_append, m2, m3]⟩
def topV (m : List Str) (x : Str) : V := .str (if x ∈ m then "top" else "bottom")
def topD (m : List Str) (xs : List Str) : List (Key × V) := xs.map fun x => ((Sum.inr x : Key), topV m x)
def sp_showing (a : At) (n : Nat) : Sp := fun vs H Q E => ∃ v u, vs = [v, u] ∧ ((∃ t r, TM.TmAt (csOf a) H v t ∧ TM.TmAt (csOf a) H u r ∧ TM.Ok t ∧ TM.Ok r ∧ t.depth < n ∧ r.depth < n ∧ t.depth ≤ 4 ∧ r.depth ≤ 4 ∧ t.places.length ≤ 400 ∧ r.places.length ≤ 400 ∧
    ((∀ X, topT X t = true → topT X r = true) → ∀ H', Ex H H' → Q .non H') ∧ ∀ d xs m H', H d = none → Ex H H' → TM.Spots xs (.lesser [t, r]) → topT m t = true → topT m r = false → (∃ F G, Fm F (fun X => topT X t) ∧ Fm G (fun X => topT X r) ∧ above F G = some m) → H' d = some (.dK (topD m xs)) → Q (.ref d) H') ∨
  ((∃ k, Kn H v k) ∧ Errs a.c_InvalidTerm v H E) ∨ ((∃ t, TM.TmAt (csOf a) H v t) ∧ (∃ k, Kn H u k) ∧ Errs a.c_InvalidTerm u H E))
theorem ok2 {t u : TM.Tree} (okt : TM.Ok t) (oku : TM.Ok u) : TM.Ok (.lesser [t, u]) := .lesser (.inl rfl) fun x hx => by
  simp only [List.mem_cons, List.not_mem_nil, or_false] at hx
  rcases hx with rfl | rfl
  · exact okt
  · exact oku
theorem ev_of {te : TE} {σ : L2.St} {H : Hp} {x y : V} (h : Ev te σ H x) (e : x = y) : Ev te σ H y := e ▸ h
section
variable {P : Program} {w : World} {K : PySem.W.Frag} {mg : Str → Option Value} {base : Heap} {a : At}
theorem fnB_showing (T : Txt K mg a) (n : Nat) : ∃ fd, FnB P w K mg base (n + 5) a.showing fd ["one", "other"] (sp_showing a n) ∧ Fun K "showing" "showing" s_showing a.showing fd := by
  have G_found_form := ok_found_form (P := P) (w := w) (base := base) T n
  have G_places_in := ok_places_in (P := P) (w := w) (base := base) T n
  have G_is_above := ok_is_above (P := P) (w := w) (base := base) T
  have G_want_term := ok_want_termE (P := P) (w := w) (base := base) T
  obtain ⟨fd, F⟩ := T.d_showing.F
  refine ⟨fd, FnB.of F sc_showing fun cdv A outer s H vs Q E hg hr h => ?_, F⟩
  obtain ⟨v, u, rfl, h⟩ := h
  have nd := sc_showing.nd
  refine ⟨_, (pss_cons (ps_expr (pe_fn (E := E) G_want_term hg (hr.mono (by omega)) T.d_want_term.kp T.d_want_term.m (by rfl) passC (pa_cons (pv 0) pa_nil)))
    (pss_cons (ps_expr (pe_fn (E := E) G_want_term hg (hr.mono (by omega)) T.d_want_term.kp T.d_want_term.m (by rfl) passC (pa_cons (pv 1) pa_nil)))
    (pss_cons (ps_set (i := 2) nd rfl (.inr rfl) (pe_fn G_is_above hg (hr.mono (by omega)) T.d_is_above.kp T.d_is_above.m (by rfl) passL (pa_cons (pe_fn G_found_form hg hr T.d_found_form.kp T.d_found_form.m (by rfl) passL (pa_cons (pv 0) pa_nil)) (pa_cons (pe_fn G_found_form hg hr T.d_found_form.kp T.d_found_form.m (by rfl) passL (pa_cons (pv 1) pa_nil)) pa_nil))))
    (pss_cons (ps_if (pt_cmpR op_isN (pv 2) pe_non (nomark _)) (pss_one (ps_ret pe_non)) pss_nil)
    (pss_one (ps_ret (pe_dc rfl (own := [("place", 3)]) (g := gName 3) (by exact nd) (pi_list (pe_callB (TM.cr_sortedSWN rfl) (by rfl) T.z_sorted (by decide +kernel) (pa_cons (pe_callTy (cr_setKL rfl) (by rfl) T.z_set (by decide +kernel) (pa_cons (pe_op op_catB (pe_fn G_places_in hg (hr.mono (by omega)) T.d_places_in.kp T.d_places_in.m (by rfl) passL (pa_cons (pv 0) pa_nil)) (pe_fn G_places_in hg (hr.mono (by omega)) T.d_places_in.kp T.d_places_in.m (by rfl) passL (pa_cons (pv 1) pa_nil))) pa_nil)) pa_nil))) (blkOk_by (own := [("place", 3)]) (N := ["one", "other", "places", "place"]) (sc := defScope s_showing) (by decide +kernel)) (fun _ _ _ _ _ => (pg_name (i := 3) nd rfl (.inl rfl))) (fun _ _ _ _ _ => pts_nil) (fun _ _ _ _ _ => (pv 3)) (fun _ _ _ _ _ => (pe_ifExp (pt_cmpR (op_in_seq : OpR _ (compareOp .In) (rIn K false)) (pv 3) (pv 2) (by rfl)) (pe_glob (v := .str "top") rfl T.v_TOP ⟨_, rfl⟩) (pe_glob (v := .str "bottom") rfl T.v_BOTTOM ⟨_, rfl⟩)))))))))), ?_⟩
  rcases h with ⟨t, r, ht, hr2, okt, okr, dt, dr, dt4, dr4, pt, pr, q0, q1⟩ | ⟨kn, err⟩ | ⟨⟨t, ht⟩, kn, err⟩
  · refine ⟨v, rfl, v, rfl, .inl ⟨t, ht, u, rfl, u, rfl, .inl ⟨r, hr2, v, rfl, v, t, rfl, ht, okt, dt, fun f M H1 hf e1 fm => ⟨u, rfl, u, r, rfl, hr2.up e1, okr, dr, fun g N H2 hgg e2 gm => ?_⟩⟩⟩⟩
    have fm := fm.up e2
    have e12 := e1.trans e2
    have l1 := fm_few fm.2.2
    have l2 := fm_few gm.2.2
    rw [List.length_map] at l1 l2
    have nv := never_iff okr fm.2.2 gm.2.2
    refine ⟨f, g, M, N, rfl, fm.1, gm.1, fm.2.1, gm.2.1, l1, l2, fun y hy => (gm.2.2.can y.2 (List.mem_map.mpr ⟨y, hy, rfl⟩)).short, fun h H3 e3 => ?_, fun m hm h hab H3 e3 => ?_⟩
    · exact ⟨.non, rfl, rfl, _, rfl, iteT (q0 (nv.mp h) H3 (e12.trans e3))⟩
    · refine ⟨.ref m.1, rfl, rfl, _, rfl, iteF ?_⟩
      have e13 := e12.trans e3
      have hm3 := ex_t e3 (fm.2.1 m hm)
      have can := fm.2.2.can m.2 (List.mem_map.mpr ⟨m, hm, rfl⟩)
      have pin : ∀ {i : Nat} {v : V} {t : TM.Tree} {σ : L2.St}, σ[i]? = some (some v) → TM.TmAt (csOf a) H v t → TM.Ok t → t.depth < n → t.depth ≤ 4 → t.places.length ≤ 400 → ∀ H1, Ex H3 H1 → ∀ Q : VK, (∀ p (fs : List Str) H2, H1 p = none → Ex H1 H2 → H2 p = some (.lst (fs.map V.str)) → fs.length ≤ 400 → (∀ n, n ∈ fs ↔ n ∈ t.places) → Q (.ref p) H2) → tFn (sp_places_in a n) E0 (tCons (tVar i) tNil) σ H1 Q := fun hσ ht ok hd hd4 hp H1 e Q q =>
        ⟨_, hσ, _, _, rfl, ht.up (e13.trans e), ok, hd, hd4, fun p H2 hp2 e2 h2 => q p _ H2 hp2 e2 h2 hp fun _ => Iff.rfl⟩
      refine ev_spots2 (K := K) (P := P) (w := w) okt okr (ev_cat2 (pin rfl ht okt dt dt4 pt) (pin rfl hr2 okr dr dr4 pr)) H3 (Ex.refl _) _ fun p xs H4 hp e4 sp h4 => ⟨p, rfl, ⟨_, sq_of h4⟩, ?_⟩
      refine dcL (K := K) (l := p) (xs := xs) (j := 3) (sq_of h4) sp.nd ?_ (fun _ => rfl) (fun _ => rfl) (topV m.2) (fun x hx H5 e5 => ?_) fun D H5 hD e5 h5 => ?_
      · have := sp.len (ok2 okt okr)
        omega
      · exact (ev_if (b := decide (x ∈ m.2)) (et_is (et_test (ev_op (ev_var rfl) (ev_var rfl) (rv_inT (neg := false) (ex_t (e4.trans e5) hm3) rfl (flat_strs m.2)))) (by rw [if_neg Bool.false_ne_true, inV_str])) (fun c => ev_of ev_c (by unfold topV; rw [if_pos (of_decide_eq_true c)])) fun c => ev_of ev_c (by unfold topV; rw [if_neg (of_decide_eq_false c)]))
      · exact q1 D xs m.2 H5 (fresh_back (e13.trans e4) hD) ((e13.trans e4).trans e5) sp (form_top fm.2.2 hm) (by rw [← under_iff gm.2.2]; exact h) ⟨_, _, fm.2.2, gm.2.2, hab⟩ h5
  · exact ⟨v, rfl, v, rfl, .inr ⟨kn, err⟩⟩
  · exact ⟨v, rfl, v, rfl, .inl ⟨t, ht, u, rfl, u, rfl, .inr ⟨kn, err⟩⟩⟩
end
end K16
namespace K16
open PySem PySem.Spec PyProof.Rows L2 LG Evl FM TB
/-! ### all ways to give ENDS -/
theorem ev_pow64 {σ : L2.St} {H : Hp} : Ev (tOp (rI CPow fun i j => V.int (i ^ j.toNat)) (tC (V.int 10)) (tC (V.int 64))) σ H (.int big) := fun H1 e Q q => ⟨10, 64, rfl, rfl, ⟨by decide, by decide, by decide⟩, q H1 (Ex.refl _)⟩
theorem ev_npow64 {σ : L2.St} {H : Hp} : Ev (tUn (rU fun i => V.int (-i)) (tOp (rI CPow fun i j => V.int (i ^ j.toNat)) (tC (V.int 10)) (tC (V.int 64)))) σ H (.int (-big)) := fun H1 e Q q => ⟨10, 64, rfl, rfl, ⟨by decide, by decide, by decide⟩, _, rfl, q H1 (Ex.refl _)⟩
def asg (X xs : List Str) : List (Key × V) := xs.map fun x => ((Sum.inr x : Key), V.int (if x ∈ X then big else -big))
def allX (xs : List Str) : List (List Str) := xs.foldl (fun F x => F.flatMap fun X => [X, X ++ [x]]) [[]]
theorem allX_snoc (xs : List Str) (x : Str) : allX (xs ++ [x]) = (allX xs).flatMap fun X => [X, X ++ [x]] := by
  unfold allX
  rw [List.foldl_append]
  rfl
theorem allX_len (xs : List Str) : (allX xs).length = 2 ^ xs.length := by
  have key : ∀ (xs : List Str) (F : List (List Str)), (xs.foldl (fun F x => F.flatMap fun X => [X, X ++ [x]]) F).length = F.length * 2 ^ xs.length := by
    intro xs
    induction xs with
    | nil => intro F; simp
    | cons x xs ih =>
      intro F
      rw [List.foldl_cons, ih, List.length_cons, Nat.pow_succ]
      have : (F.flatMap fun X => [X, X ++ [x]]).length = F.length * 2 := by
        induction F with
        | nil => rfl
        | cons a F ihF => rw [List.flatMap_cons, List.length_append, ihF, List.length_cons]; simp; omega
      rw [this, Nat.mul_assoc, Nat.mul_comm 2]
  show (xs.foldl (fun F x => F.flatMap fun X => [X, X ++ [x]]) [[]]).length = 2 ^ xs.length
  rw [key]
  simp
theorem flat_len {x : Str} : ∀ F : List (List Str), (F.flatMap fun X => [X, X ++ [x]]).length = F.length * 2
  | [] => rfl
  | a :: F => by rw [List.flatMap_cons, List.length_append, flat_len F, List.length_cons]; simp; omega
theorem take_flat {α : Type} {f : List Str → List α} : ∀ (F : List (List Str)) (j : Nat) (X : List Str), F[j]? = some X → (F.take (j + 1)).flatMap f = (F.take j).flatMap f ++ f X
  | F, j, X, h => by
    rw [List.take_succ, h, List.flatMap_append]
    simp
/-- the sets, each within what came before -/
theorem allX_sub : ∀ {xs : List Str} {X : List Str}, X ∈ allX xs → ∀ x ∈ X, x ∈ xs := by
  have key : ∀ (n : Nat) (xs : List Str), xs.length = n → ∀ X ∈ allX xs, ∀ x ∈ X, x ∈ xs := by
    intro n
    induction n with
    | zero =>
      intro xs h X hX x hx
      rw [List.length_eq_zero_iff.mp h] at hX
      have hX : X ∈ [[]] := hX
      rw [List.mem_singleton.mp hX] at hx
      cases hx
    | succ n ih =>
      intro xs h X hX x hx
      obtain ⟨ys, y, rfl⟩ : ∃ ys y, xs = ys ++ [y] := ⟨xs.dropLast, xs.getLast (fun z => by rw [z] at h; cases h), (List.dropLast_concat_getLast _).symm⟩
      rw [allX_snoc] at hX
      obtain ⟨Y, hY, hX⟩ := List.mem_flatMap.mp hX
      have := ih ys (by simpa using h) Y hY
      simp only [List.mem_cons, List.not_mem_nil, or_false] at hX
      rcases hX with rfl | rfl
      · exact List.mem_append_left _ (this x hx)
      · rcases List.mem_append.mp hx with hx | hx
        · exact List.mem_append_left _ (this x hx)
        · exact List.mem_append_right _ hx
  exact fun {xs X} h => key _ xs rfl X h
/-- each way is among them -/
theorem allX_all (Z : List Str) : ∀ {xs : List Str}, xs.Nodup → ∃ X ∈ allX xs, ∀ x ∈ xs, (x ∈ X ↔ x ∈ Z) := by
  have key : ∀ (n : Nat) (xs : List Str), xs.length = n → xs.Nodup → ∃ X ∈ allX xs, ∀ x ∈ xs, (x ∈ X ↔ x ∈ Z) := by
    intro n
    induction n with
    | zero =>
      intro xs h _
      rw [List.length_eq_zero_iff.mp h]
      exact ⟨[], List.mem_singleton.mpr rfl, fun x h => by cases h⟩
    | succ n ih =>
      intro xs h nd
      obtain ⟨ys, y, rfl⟩ : ∃ ys y, xs = ys ++ [y] := ⟨xs.dropLast, xs.getLast (fun z => by rw [z] at h; cases h), (List.dropLast_concat_getLast _).symm⟩
      have nd2 := List.nodup_append.mp nd
      obtain ⟨X, hX, k⟩ := ih ys (by simpa using h) nd2.1
      have ny : y ∉ X := fun z => nd2.2.2 y (allX_sub hX y z) y (List.mem_singleton.mpr rfl) rfl
      by_cases c : y ∈ Z
      · refine ⟨X ++ [y], by rw [allX_snoc]; exact List.mem_flatMap.mpr ⟨X, hX, by simp⟩, fun x hx => ?_⟩
        rcases List.mem_append.mp hx with hx | hx
        · rw [← k x hx, List.mem_append]
          exact ⟨fun z => z.elim id fun z => absurd rfl (nd2.2.2 x hx x z), .inl⟩
        · rw [List.mem_singleton.mp hx]
          exact ⟨fun _ => c, fun _ => List.mem_append_right _ (List.mem_singleton.mpr rfl)⟩
      · refine ⟨X, by rw [allX_snoc]; exact List.mem_flatMap.mpr ⟨X, hX, by simp⟩, fun x hx => ?_⟩
        rcases List.mem_append.mp hx with hx | hx
        · exact k x hx
        · rw [List.mem_singleton.mp hx]
          exact ⟨fun z => absurd z ny, fun z => absurd z c⟩
  exact fun {xs} h => key _ xs rfl h
/-- told with ENDS of X, one place more -/
theorem asg_snoc {X xs : List Str} {x : Str} (b : Bool) (nd : (xs ++ [x]).Nodup) (hX : ∀ y ∈ X, y ∈ xs) : putK (asg X xs) (Sum.inr x) (.int (if b then big else -big)) = asg (if b then X ++ [x] else X) (xs ++ [x]) := by
  have nd2 := List.nodup_append.mp nd
  have nx : x ∉ xs := fun z => nd2.2.2 x z x (List.mem_singleton.mpr rfl) rfl
  rw [putK_new fun kv hkv e => by
    obtain ⟨y, hy, rfl⟩ := List.mem_map.mp hkv
    exact nx (Sum.inr.inj e ▸ hy)]
  unfold asg
  rw [List.map_append]
  cases b with
  | false =>
    show _ ++ [_] = _ ++ [((Sum.inr x : Key), V.int (if x ∈ X then big else -big))]
    rw [if_neg fun z => nx (hX x z)]
    rfl
  | true =>
    have e : (xs.map fun y => ((Sum.inr y : Key), V.int (if y ∈ X ++ [x] then big else -big))) = xs.map fun y => ((Sum.inr y : Key), V.int (if y ∈ X then big else -big)) := List.map_congr_left fun y hy => by
      have ne : y ≠ x := fun z => nx (z ▸ hy)
      have : y ∈ X ++ [x] ↔ y ∈ X := by simp [ne]
      simp only [this]
    show _ = (xs.map fun y => ((Sum.inr y : Key), V.int (if y ∈ X ++ [x] then big else -big))) ++ [((Sum.inr x : Key), V.int (if x ∈ X ++ [x] then big else -big))]
    rw [e, if_pos (List.mem_append_right _ (List.mem_singleton.mpr rfl))]
    rfl
theorem asg_th {X xs : List Str} {t : TM.Tree} (nd : xs.Nodup) (h : ∀ n ∈ t.places, n ∈ xs) : Th (asg X xs) X t := fun n hn => by
  have look := look_of (kvs := asg X xs) (by
    unfold asg
    rw [List.map_map]
    exact List.Pairwise.map _ (fun a b (z : a ≠ b) e => z (Sum.inr.inj e)) nd) ((Sum.inr n : Key), V.int (if n ∈ X then big else -big)) (List.mem_map.mpr ⟨n, h n hn, rfl⟩)
  exact look
/-- dicts that stand in a list -/
def DsAt (H : Hp) (vs : List V) (F : List (List Str)) (xs : List Str) : Prop := vs.length = F.length ∧ ∀ (k : Nat) (y : V) (X : List Str), vs[k]? = some y → F[k]? = some X → ∃ d, y = .ref d ∧ H d = some (.dK (asg X xs))
theorem DsAt.up {H H' : Hp} {vs : List V} {F : List (List Str)} {xs : List Str} (h : DsAt H vs F xs) (e : ∀ d kvs, H d = some (.dK kvs) → H' d = some (.dK kvs)) : DsAt H' vs F xs := ⟨h.1, fun k y X h1 h2 => let ⟨d, z1, z2⟩ := h.2 k y X h1 h2; ⟨d, z1, e _ _ z2⟩⟩
theorem DsAt.snoc {H H' : Hp} {vs : List V} {F : List (List Str)} {xs : List Str} {d : Addr} {X : List Str} (h : DsAt H vs F xs) (e : ∀ d kvs, H d = some (.dK kvs) → H' d = some (.dK kvs)) (hd : H' d = some (.dK (asg X xs))) : DsAt H' (vs ++ [.ref d]) (F ++ [X]) xs := by
  refine ⟨by simp [h.1], fun k y Y h1 h2 => ?_⟩
  rcases get_snoc h1 with z1 | ⟨k1, rfl⟩ <;> rcases get_snoc h2 with z2 | ⟨k2, rfl⟩
  · obtain ⟨d', z3, z4⟩ := h.2 k y Y z1 z2
    exact ⟨d', z3, e _ _ z4⟩
  · have := (List.getElem?_eq_some_iff.mp z1).1
    have := h.1
    omega
  · have := (List.getElem?_eq_some_iff.mp z2).1
    have := h.1
    omega
  · exact ⟨d, rfl, hd⟩
section
variable {P : Program} {w : World} {K : PySem.W.Frag} {mg : Str → Option Value} {base : Heap} {a : At}
def sp__law_all_ends (K : PySem.W.Frag) : Sp := fun vs H Q _ => ∃ (l : Addr) (xs : List Str), vs = [.ref l] ∧ H l = some (.lst (xs.map V.str)) ∧ xs.Nodup ∧ xs.length ≤ 8 ∧ ∀ f ds H', H f = none → Ex H H' → H' f = some (.lst ds) → DsAt H' ds (allX xs) xs → Q (.ref f) H'
theorem ok__law_all_ends (T : Txt K mg a) : Fn P w K mg base 1 a._law_all_ends (sp__law_all_ends K) := by
  refine T.d__law_all_ends.fn sc__law_all_ends (fun _ _ _ _ _ _ us hl => match us, hl with | [_], _ => rfl) (fun vs H Q E h => ?_) (fun cdv A outer s H vs Q E hg hr h => ?_)
  · obtain ⟨_, _, rfl, _⟩ := h
    rfl
  · obtain ⟨l, xs, rfl, hl, nd0, l8, q⟩ := h
    have nd := sc__law_all_ends.nd
    have hu := hu_of hr
    refine ⟨_, (pss_cons (ps_set (i := 1) nd rfl (.inl rfl) (pe_lst (pa_cons pe_dnewK pa_nil)))
    (pss_cons (ps_for PassesOwn.leaving rfl (pi_list (pv 0)) (pg_name (i := 2) nd rfl (.inl rfl))
      (pss_cons (ps_set (i := 3) nd rfl (.inl rfl) (pe_lst pa_nil))
        (pss_cons (ps_for PassesOwn.leaving rfl (pi_list (pv 1)) (pg_name (i := 4) nd rfl (.inl rfl))
          (pss_one (ps_for PassesOwn.leaving rfl (pi_list (pe_lst (pa_cons (pe_un un_neg (pe_op op_pow pe_int pe_int)) (pa_cons (pe_op op_pow pe_int pe_int) pa_nil)))) (pg_name (i := 5) nd rfl (.inl rfl))
              (pss_cons (ps_set (i := 6) nd rfl (.inl rfl) (pe_callTy call_dictD (by rfl) T.z_dict (by decide +kernel) (pa_cons (pv 4) pa_nil)))
                (pss_cons (ps_asg (pv 5) (pg_sub (pv 6) (pv 2) (set_dict hu)))
                (pss_one (ps_expr (pe_bmK (K := K) rfl PySem.F.plainAttrs_list PySem.F.slot_list_append PySem.F.type_list_append mt_append (pv 3) (pa_cons (pv 6) pa_nil)))))))))
        (pss_one (ps_set (i := 1) nd rfl (.inl rfl) (pv 3))))))
    (pss_one (ps_ret (pv 1))))), ?_⟩
    refine fun d0 hd0 => ⟨(by decide : 1 ≤ sizeLine), fun f0 hf0 => ?_⟩
    have e0 : Ex H (upd (upd H d0 (.dK [])) f0 (.lst [.ref d0])) := (Ex.new hd0).trans (Ex.new hf0)
    have k0 : (upd (upd H d0 (.dK [])) f0 (.lst [.ref d0])) f0 = some (.lst [.ref d0]) := upd_same
    have k1 : (upd (upd H d0 (.dK [])) f0 (.lst [.ref d0])) d0 = some (.dK []) := Ex.new hf0 _ _ upd_same
    have hf0 := fresh_back (Ex.new (o := .dK []) hd0) hf0
    generalize upd (upd H d0 (.dK [])) f0 (.lst [.ref d0]) = H0 at *
    refine q_forL (K := K) (a := l) (xs := xs.map V.str) (ev_var rfl) (sq_of (e0 _ _ hl)) (fun i σ' H' => ∃ f u2 u3 u4 u5 u6 ds, σ' = [some (.ref l), some (.ref f), u2, u3, u4, u5, u6] ∧ Ex H H' ∧ H f = none ∧ H' f = some (.lst ds) ∧ DsAt H' ds (allX (xs.take i)) (xs.take i))
      (fun H1 e1 => ⟨f0, _, _, _, _, _, [.ref d0], rfl, e0.trans e1, hf0, e1 _ _ k0, rfl, fun k y X h1 h2 => ?_⟩) (fun i σ' H' _ h => ?_) ?_ ?_
    · cases k with
      | zero =>
        cases h1
        exact ⟨d0, rfl, e1 _ _ k1⟩
      | succ k => simp at h1
    · obtain ⟨_, _, _, _, _, _, _, _, e, _⟩ := h
      exact sq_of (e _ _ hl)
    · rintro i y σ' H1 hi ⟨f, u2, u3, u4, u5, u6, ds, rfl, e1, hf, hds, da⟩
      rw [List.getElem?_map] at hi
      obtain ⟨x, hx, rfl⟩ := Option.map_eq_some_iff.mp hi
      have hi2 := (List.getElem?_eq_some_iff.mp hx).1
      have hpre : xs.take (i + 1) = xs.take i ++ [x] := by rw [List.take_succ, hx]; rfl
      have ndp : (xs.take i ++ [x]).Nodup := by rw [← hpre]; exact nd0.sublist (List.take_sublist _ _)
      have dl : ds.length ≤ 256 := by
        rw [da.1, allX_len, List.length_take]
        exact Nat.le_trans (Nat.pow_le_pow_right (by decide) (by omega : min i xs.length ≤ 8)) (by decide)
      rw [hpre, allX_snoc]
      have hpl : (xs.take i).length ≤ 8 := by rw [List.length_take]; omega
      generalize xs.take i = pre at *
      refine ⟨(by decide : 0 ≤ sizeLine), fun ll hll => ?_⟩
      have e2 : Ex H1 (upd H1 ll (.lst [])) := Ex.new hll
      have k2 : (upd H1 ll (.lst [])) ll = some (.lst []) := upd_same
      have fll : f ≠ ll := ne_of_none hds hll
      have hll0 := fresh_back e1 hll
      generalize upd H1 ll (.lst []) = H2 at *
      have da : DsAt H2 ds (allX pre) pre := da.up fun d kvs h => e2 _ _ h
      have hds := e2 _ _ hds
      refine q_forL (K := K) (a := f) (xs := ds) (ev_var rfl) (sq_of hds) (fun j σ' H' => ∃ u4 u5 u6 acc, σ' = [some (.ref l), some (.ref f), some (.str x), some (.ref ll), u4, u5, u6] ∧ (∀ b o, b ≠ ll → H2 b = some o → H' b = some o) ∧ H' ll = some (.lst acc) ∧ DsAt H' acc (((allX pre).take j).flatMap fun X => [X, X ++ [x]]) (pre ++ [x]))
        (fun H3 e3 => ⟨_, _, _, [], rfl, fun b o _ z => e3 _ _ z, e3 _ _ k2, rfl, fun k y X h => by simp at h⟩) (fun j σ' H' _ h => ?_) ?_ ?_
      · obtain ⟨_, _, _, _, _, kp, _⟩ := h
        exact sq_of (kp _ _ fll hds)
      · rintro j y σ' H3 hj ⟨u4, u5, u6, acc, rfl, kp, hacc, dacc⟩
        have hj2 : j < (allX pre).length := da.1 ▸ (List.getElem?_eq_some_iff.mp hj).1
        have hX : (allX pre)[j]? = some (allX pre)[j] := List.getElem?_eq_getElem hj2
        obtain ⟨d, rfl, hd⟩ := da.2 j _ _ hj hX
        have hsub := allX_sub (List.getElem_mem hj2)
        rw [take_flat _ _ _ hX]
        generalize (allX pre)[j] = X at *
        have dll : d ≠ ll := fun z => by have hd : H2 d = _ := hd; rw [z, k2] at hd; cases hd
        have hlacc : acc.length ≤ 600 := by
          rw [dacc.1, flat_len, List.length_take]
          have := da.1
          omega
        generalize ((allX pre).take j).flatMap (fun X => [X, X ++ [x]]) = B at *
        refine s_forNL (K := K) (xs := [.int (-big), .int big]) (el_lst (ea_cons ev_npow64 (ea_cons ev_pow64 ea_nil)) (by show 2 ≤ 100000; decide)) (fun p k σ' H4 => ∃ u5 u6 acc2, σ' = [some (.ref l), some (.ref f), some (.str x), some (.ref ll), some (.ref d), u5, u6] ∧ (∀ b o, b ≠ ll → H2 b = some o → H4 b = some o) ∧ H4 p = some (.lst [.int (-big), .int big]) ∧ p ≠ ll ∧ H4 ll = some (.lst acc2) ∧ acc2.length = acc.length + k ∧ DsAt H4 acc2 (B ++ [X, X ++ [x]].take k) (pre ++ [x]))
          (fun p H4 hp e4 h4 => ⟨_, _, acc, rfl, fun b o nb z => e4 _ _ (kp b o nb z), h4, (ne_of_none hacc hp).symm, e4 _ _ hacc, rfl, by rw [List.take_zero, List.append_nil]; exact dacc.up fun d kvs h => e4 _ _ h⟩) (fun p k σ' H4 _ h => ?_) ?_ ?_
        · obtain ⟨_, _, _, _, _, z, _⟩ := h
          exact sq_of z
        · rintro p k y σ' H4 hk ⟨u5, u6, acc2, rfl, kp4, hp4, pll, hacc2, len2, da2⟩
          obtain ⟨b, rfl, hb⟩ : ∃ b : Bool, y = .int (if b then big else -big) ∧ [X, X ++ [x]].take (k + 1) = [X, X ++ [x]].take k ++ [if b then X ++ [x] else X] := by
            match k, hk with
            | 0, hk => cases hk; exact ⟨false, rfl, rfl⟩
            | 1, hk => cases hk; exact ⟨true, rfl, rfl⟩
            | k + 2, hk => simp at hk
          have hk2 : k < 2 := (List.getElem?_eq_some_iff.mp hk).1
          rw [hb]
          refine ⟨.ref d, rfl, d, _, rfl, .inl (kp4 _ _ dll hd), fun c hc => ?_⟩
          have cll : c ≠ ll := fun z => by rw [z, hacc2] at hc; cases hc
          have cp : c ≠ p := fun z => by rw [z, hp4] at hc; cases hc
          refine ⟨_, rfl, .ref c, rfl, .str x, rfl, c, _, rfl, DPut.k (k := Sum.inr x) (kvs := asg X pre) upd_same (sz_lt (by unfold asg; rw [List.length_map]; have := hpl; omega)), ?_⟩
          rw [upd_upd, asg_snoc b ndp hsub]
          have e5 : Ex H4 (upd H4 c (.dK (asg (if b then X ++ [x] else X) (pre ++ [x])))) := Ex.new hc
          have hc5 : (upd H4 c (.dK (asg (if b then X ++ [x] else X) (pre ++ [x])))) c = some (.dK (asg (if b then X ++ [x] else X) (pre ++ [x]))) := upd_same
          generalize upd H4 c (.dK (asg (if b then X ++ [x] else X) (pre ++ [x]))) = H5 at *
          refine ⟨.ref ll, rfl, .inl ⟨rfl, _, sq_of (e5 _ _ hacc2)⟩, .ref c, rfl, ll, acc2, .ref c, rfl, rfl, e5 _ _ hacc2, sz_lt (by omega), ?_⟩
          have kd : ∀ d kvs, H4 d = some (.dK kvs) → (upd H5 ll (.lst (acc2 ++ [.ref c]))) d = some (.dK kvs) := fun d kvs h => by
            rw [upd_ne (fun z => by rw [z, hacc2] at h; cases h)]
            exact e5 _ _ h
          refine ⟨_, _, acc2 ++ [.ref c], rfl, fun b o nb z => by rw [upd_ne nb]; exact e5 _ _ (kp4 b o nb z), by rw [upd_ne pll]; exact e5 _ _ hp4, pll, upd_same, by rw [List.length_append, len2]; rfl, ?_⟩
          rw [← List.append_assoc]
          exact da2.snoc kd (by rw [upd_ne cll]; exact hc5)
        · rintro p σ' H4 ⟨u5, u6, acc2, rfl, kp4, hp4, pll, hacc2, len2, da2⟩
          exact ⟨_, _, _, acc2, rfl, kp4, hacc2, da2⟩
      · rintro σ' H3 ⟨u4, u5, u6, acc, rfl, kp, hacc, dacc⟩
        rw [da.1, List.take_length] at dacc
        exact ⟨.ref ll, rfl, ll, _, _, _, _, _, acc, rfl, fun b o z => kp b o (ne_of_none z hll0) (e2 _ _ (e1 _ _ z)), hll0, hacc, dacc⟩
    · rintro σ' H1 ⟨f, u2, u3, u4, u5, u6, ds, rfl, e1, hf, hds, da⟩
      rw [List.length_map, List.take_length] at da
      exact ⟨.ref f, rfl, q f ds H1 hf e1 hds da⟩
end
end K16
/-! sorted([(len(one), one) ..]) -/
namespace FM
open PySem hiding Tree
open PySem.Spec PyProof.Rows PySem.W L2 LG Evl TB
abbrev PA := Addr × AS
def prefs (M : List PA) : List V := M.map fun p => V.ref p.1
theorem srt_PL {M : List PA} (nd : (M.map (·.2.2)).Nodup) : ((M.mergeSort (dataLe false fun p => encL p.2)).map (·.2.2)).Pairwise ltP := by
  have h1 := sort_pairwise (sortLe_total (listOrd itemOrd) false fun b : PA => keyToks (encL b.2)) M
  have pm := List.mergeSort_perm M (dataLe false fun p => encL p.2)
  have nd2 : ((M.mergeSort (dataLe false fun p => encL p.2)).map (·.2.2)).Nodup := (pm.map _).nodup_iff.mpr nd
  rw [List.Nodup, List.pairwise_map] at nd2
  rw [List.pairwise_map]
  refine (h1.and nd2).imp fun {a b} ⟨h, ne⟩ => ?_
  have h : (!dataLt (encL b.2) (encL a.2)) = true := h
  rw [Bool.not_eq_true'] at h
  refine Classical.byContradiction fun c => ne (ltP_total c fun d => ?_)
  rw [(ltL b.2 a.2).mpr d] at h
  cases h
def rSortedPL (K : PySem.W.Frag) : List V → Hp → VK → Prop := fun vs H Q => ∃ (a : Addr) (M : List PA), vs = [V.ref a] ∧ H a = some (.lst (prefs M)) ∧ (∀ p ∈ M, H p.1 = some (.tup [.int p.2.2.length, .ref p.2.1]) ∧ SqT K H p.2.1 (p.2.2.map V.str)) ∧
  ∀ (p : Addr), H p = none → Q (.ref p) (upd H p (.lst (prefs (M.mergeSort (dataLe false fun p => encL p.2)))))
theorem vals_prefs (M : List PA) : Vals (prefs M) (M.map fun q => Value.ref q.1) := by
  induction M with
  | nil => exact .nil
  | cons m M ih => exact .cons rfl ih
theorem prefs_vals : ∀ {M : List PA} {us : List Value}, Vals (prefs M) us → us = M.map fun q => Value.ref q.1
  | [], _, r => by cases r; rfl
  | m :: M, _, r => by
    have r : Vals (V.ref m.1 :: prefs M) _ := r
    cases r with
    | cons h t =>
      rw [List.map_cons, ← prefs_vals t]
      exact congrArg (· :: _) h
theorem prefs_each {M1 : List PA} : EachIs (fun v (q : PA) => v = Value.ref q.1) (M1.map fun q => Value.ref q.1) M1 := by
  induction M1 with
  | nil => exact .nil
  | cons m M ih => exact .cons rfl ih
theorem each_prefs {out : List Value} {M : List PA} (e : EachIs (fun v (q : PA) => v = Value.ref q.1) out M) : out = M.map fun q => Value.ref q.1 := by
  induction e with
  | nil => rfl
  | cons h t ih => rw [h, ih, List.map_cons]
theorem depth_L (q : AS) : (encL q).depth = 2 := by
  unfold encL
  have := depth_S q.2
  simp [PyData.depth, PyData.depthAll, this]
theorem alike_L (p q : AS) : alike (encL p) (encL q) = true := by
  unfold encL
  simp [alike, alikeAll, alike_S]
section
variable {X : Cx}
theorem cr_sortedPL (hu : X.A.units + 10 < cLine) : CallR X (.builtin "sorted") (rSortedPL X.K) := by
  intro pins s σ H vs us Q I r h
  obtain ⟨a, M, rfl, ha, hm, q⟩ := h
  rw [Vals.ref1 r]
  obtain ⟨its, rv, pl, hz⟩ := I.list (sq_of ha)
  rw [prefs_vals rv] at pl
  have hz : M.length ≤ sizeLine := by rw [show (prefs M).length = M.length from List.length_map _] at hz; exact hz
  refine sorted_data (R := fun v (q : PA) => v = Value.ref q.1) (enc := fun p : PA => encL p.2) (bs := M) pl.isList prefs_each (each_with prefs_each fun v p hp ev => ?_) (AllAlike.of fun b b' => alike_L _ _) (.inl fun d hd => ?_) hz (fun b hb => ?_) fun out hlen ho => ?_
  · obtain ⟨h1, h2⟩ := hm p hp
    obtain ⟨o, items, n, ho, hc, hd, hi⟩ := inv_st I h2
    obtain ⟨as, ra⟩ := reads_strs (h := s.heap) hi
    obtain ⟨its, rt, ⟨o', ho', hc', n', hd'⟩, _⟩ := I.tuple (st_of (K := X.K) h1)
    subst ev
    cases rt with
    | @cons _ u1 _ us1 e1 rt =>
      cases rt with
      | @cons _ u2 _ us2 e2 rt =>
        cases rt
        obtain ⟨t, rfl⟩ := e1
        obtain rfl : u2 = Value.ref p.2.1 := e2
        exact ⟨_, .tuple ho' hc' hd' (.cons (.int _ _) (.cons (.tuple ho hc hd ra) .nil))⟩
  · obtain ⟨q, _, rfl⟩ := List.mem_map.mp hd
    exact ⟨_, _, rfl⟩
  · show X.A.units + 2 + (encL b.2).depth < cLine
    rw [depth_L]
    omega
  · have ho2 := each_prefs ho
    obtain ⟨e, he⟩ := sortedAll_at s.heap (M.map fun q => Value.ref q.1) out.toArray
    have hn : H (s.heap.objs.size + 1) = none := I.hok.fresh (Nat.le_succ _)
    have hl2 : (prefs (M.mergeSort (dataLe false fun p => encL p.2))).length ≤ sizeLine := by rw [show (prefs (M.mergeSort (dataLe false fun p => encL p.2))).length = _ from List.length_map _, ms_len]; exact hz
    exact ⟨.ref _, upd H (s.heap.objs.size + 1) (.lst (prefs (M.mergeSort (dataLe false fun p => encL p.2)))), I.laid (t' := s.toks) (fun _ _ => sortedAll_old) (Nat.le_succ _) ⟨hl2, out, e, by rw [ho2]; exact vals_prefs _, he⟩, rfl, q _ hn⟩
end
end FM
namespace K16
open PySem PySem.Spec PyProof.Rows L2 LG Evl FM TB
section
variable {K : PySem.W.Frag} {tl te : TE} {σ : L2.St} {H : Hp} {a : Addr} {M : List AS} {j : Nat}
/-- [.. for one in sets], each a tuple of texts -/
theorem q_mapT {g : List Str → List Str} (h : Ev tl σ H (.ref a)) (hm : SqL K H a (refs M)) (few : M.length ≤ 40000) (hw : ∀ x, wipe ((wipe σ [j]).set j (some x)) [j] = wipe σ [j])
    (hs : ∀ q ∈ M, ∀ H1, Ex H H1 → ∀ Q' : VK, (∀ r H2, Ex H1 H2 → SqT K H2 r ((g q.2).map V.str) → Q' (.ref r) H2) → te ((wipe σ [j]).set j (some (.ref q.1))) H1 Q') :
    ∀ H1, Ex H H1 → ∀ Q : VK, (∀ D N H2, H1 D = none → Ex H1 H2 → H2 D = some (.lst (refs N)) → Tups K H2 N → N.map (·.2) = M.map (fun q => g q.2) → Q (.ref D) H2) → tLc (iList K tl) (gName j) tYes te [j] σ H1 Q := fun H1 e Q q =>
  h H1 e _ fun H2 e2 => ⟨a, rfl, ⟨_, ex_l (e.trans e2) hm⟩, lcL_inv (K := K) (ex_l (e.trans e2) hm) (by rw [refs_len]; exact few) hw
    (fun D i acc H' => Ex H2 H' ∧ ∃ N, acc = refs N ∧ Tups K H' N ∧ N.map (·.2) = (M.take i).map (fun q => g q.2))
    (fun D hD => ⟨Ex.new hD, [], rfl, (fun q h => absurd h List.not_mem_nil), rfl⟩) (fun D i xs H' hD w => ex_l ((e.trans e2).trans w.1) hm)
    (fun D i x xs H' hD hi hlen w hx Q' k => by
      obtain ⟨w1, N, rfl, w2, w3⟩ := w
      have hi : (M.map fun q => V.ref q.1)[i]? = some x := hi
      rw [List.getElem?_map] at hi
      obtain ⟨m, hmi, rfl⟩ := Option.map_eq_some_iff.mp hi
      refine hs m (get_mem hmi) H' ((e.trans e2).trans w1) Q' fun r H4 e4 hr => ?_
      have hD4 := e4 _ _ hx
      refine k (.ref r) H4 hD4 ⟨Ex.mut (w1.trans e4) hD, N ++ [(r, g m.2)], by unfold refs; rw [List.map_append]; rfl, ?_, ?_⟩
      · have z : Tups K H4 (N ++ [(r, g m.2)]) := fun q hq => by
          rcases List.mem_append.mp hq with hq | hq
          · exact ex_t e4 (w2 q hq)
          · rw [List.mem_singleton.mp hq]
            exact hr
        exact tups_off hD4 z
      · rw [List.map_append, w3, List.take_succ, hmi, List.map_append]
        rfl)
    (fun D xs H' hD hlen w hx => by
      obtain ⟨w1, N, rfl, w2, w3⟩ := w
      rw [refs_len] at hlen
      refine q D N H' (fresh_back e2 hD) (e2.trans w1) hx w2 ?_
      rw [w3, refs_len, hlen, refs_len, List.take_length])⟩
/-- [(len(one), one) for one in sets] -/
theorem q_mapP (h : Ev tl σ H (.ref a)) (hm : SqL K H a (refs M)) (ht : Tups K H M) (few : M.length ≤ 40000) (hw : ∀ x, wipe ((wipe σ [j]).set j (some x)) [j] = wipe σ [j])
    (hs : ∀ q ∈ M, ∀ H1, Ex H H1 → EvU te ((wipe σ [j]).set j (some (.ref q.1))) H1 [.int q.2.length, .ref q.1]) :
    ∀ H1, Ex H H1 → ∀ Q : VK, (∀ D N H2, H1 D = none → Ex H1 H2 → H2 D = some (.lst (prefs N)) → (∀ p ∈ N, H2 p.1 = some (.tup [.int p.2.2.length, .ref p.2.1])) → N.map (·.2) = M → Q (.ref D) H2) → tLc (iList K tl) (gName j) tYes te [j] σ H1 Q := fun H1 e Q q =>
  h H1 e _ fun H2 e2 => ⟨a, rfl, ⟨_, ex_l (e.trans e2) hm⟩, lcL_inv (K := K) (ex_l (e.trans e2) hm) (by rw [refs_len]; exact few) hw
    (fun D i acc H' => Ex H2 H' ∧ ∃ N : List PA, acc = prefs N ∧ (∀ p ∈ N, H' p.1 = some (.tup [.int p.2.2.length, .ref p.2.1])) ∧ N.map (·.2) = M.take i)
    (fun D hD => ⟨Ex.new hD, [], rfl, (fun q h => absurd h List.not_mem_nil), rfl⟩) (fun D i xs H' hD w => ex_l ((e.trans e2).trans w.1) hm)
    (fun D i x xs H' hD hi hlen w hx Q' k => by
      obtain ⟨w1, N, rfl, w2, w3⟩ := w
      have hi : (M.map fun q => V.ref q.1)[i]? = some x := hi
      rw [List.getElem?_map] at hi
      obtain ⟨m, hmi, rfl⟩ := Option.map_eq_some_iff.mp hi
      refine hs m (get_mem hmi) H' ((e.trans e2).trans w1) H' (Ex.refl _) Q' fun r H4 hr0 e4 hr => ?_
      have hD4 := e4 _ _ hx
      have rD : ∀ b : Addr, ∀ xs : List V, H4 b = some (.tup xs) → b ≠ D := fun b xs hb z => by rw [z, hD4] at hb; cases hb
      refine k (.ref r) H4 hD4 ⟨Ex.mut (w1.trans e4) hD, N ++ [(r, m)], by unfold prefs; rw [List.map_append]; rfl, fun p hp => ?_, ?_⟩
      · rcases List.mem_append.mp hp with hp | hp
        · have z := e4 _ _ (w2 p hp)
          rw [upd_ne (rD _ _ z)]
          exact z
        · rw [List.mem_singleton.mp hp, upd_ne (rD _ _ hr)]
          exact hr
      · rw [List.map_append, w3, List.take_succ, hmi]
        rfl)
    (fun D xs H' hD hlen w hx => by
      obtain ⟨w1, N, rfl, w2, w3⟩ := w
      have hl : (prefs N).length = N.length := List.length_map _
      rw [hl, refs_len] at hlen
      refine q D N H' (fresh_back e2 hD) (e2.trans w1) hx w2 ?_
      rw [w3, hl, hlen, List.take_length])⟩
end
end K16
namespace K16
open PySem PySem.Spec PyProof.Rows L2 LG Evl FM TB
def numsOf (kvs : List (Key × V)) : List (Key × V) := kvs.map fun kv => (kv.1, .int (num kv.2))
theorem nums_top (m xs : List Str) : numsOf (topD m xs) = asg m xs := by
  unfold numsOf topD asg
  rw [List.map_map]
  refine List.map_congr_left fun x hx => ?_
  show ((Sum.inr x : Key), V.int (num (topV m x))) = _
  unfold topV
  by_cases c : x ∈ m
  · rw [if_pos c, if_pos c]
    rfl
  · rw [if_neg c, if_neg c]
    rfl
theorem kit_dict {K : PySem.W.Frag} : PySem.W.kitOne K (.type "dict") (.type "dict") = some true := by
  unfold PySem.W.kitOne
  rw [if_pos (by decide)]
theorem rd_ty {K : PySem.W.Frag} {H : Hp} {d : Addr} {kvs : List (Key × V)} (h : Rd H d (.dK kvs)) : TyX K H (.ref d) (.type "dict") := by
  rcases h with h | ⟨o, h⟩
  · exact .base (.dK h)
  · exact .fDict h
theorem keys_top {m xs : List Str} (nd : xs.Nodup) : ((topD m xs).map (·.1)).Nodup := by
  unfold topD
  rw [List.map_map]
  exact List.Pairwise.map _ (fun a b (z : a ≠ b) e => z (Sum.inr.inj e)) nd
section
variable {K : PySem.W.Frag} {σ : L2.St} {H : Hp} {ta tb : TE} {d p : Addr} {m xs : List Str}
theorem ev_eqII {x y : Int} (ha : EvL ta σ H [.int x, .int y]) (hb : EvL tb σ H [.int x, .int y]) : Ev (tOp (rEqP K) ta tb) σ H (.bl true) :=
  ev_opLL ha hb fun p q H1 hp hq e => fun H2 e2 Q k => ⟨_, _, .lst (sq_of (e2 _ _ hp)) (.cons (.int _) (.cons (.int _) .nil)), .lst (sq_of (e2 _ _ hq)) (.cons (.int _) (.cons (.int _) .nil)), rfl, rfl, by simp [PyData.depth, PyData.depthAll], by
    rw [SeqAt.eqv_refl_plain _ rfl]
    exact k H2 (Ex.refl H2)⟩
theorem et_list {i j : Nat} (hd : H d = some (.dK (topD m xs))) (hp : H p = some (.lst (xs.map V.str))) (hi : σ[i]? = some (some (.ref d)) := by rfl) (hj : σ[j]? = some (some (.ref p)) := by rfl) : EvT (tTest (tOp (rNeP K) (tCB rListD (tCons (tVar i) tNil)) (tVar j))) σ H false := et_is (et_test (b := !PyData.eqv (.list (xs.map .str)) (.list (xs.map .str))) fun H1 e Q q => ⟨.ref d, hi, d, _, rfl, e _ _ hd, fun c hc => ⟨.ref p, hj, .list (xs.map .str), .list (xs.map .str), .lst (sq_of (by rw [upd_same]; unfold topD; rw [List.map_map]; rfl)) (dp_strs xs), .lst (sq_of ((e.trans (Ex.new hc)) _ _ hp)) (dp_strs xs), by rw [PyData.plain]; exact strs_plain xs, by rw [PyData.plain]; exact strs_plain xs, by rw [PyData.depth, (strs_ok xs).2.1]; decide, q _ (Ex.new hc)⟩⟩) (by
  rw [SeqAt.eqv_refl_plain _ (by rw [PyData.plain]; exact strs_plain xs)]
  rfl)
theorem et_any {i j : Nat} {vs : List Nat} (hd : H d = some (.dK (topD m xs))) (hz : xs.length ≤ 100) (nd : xs.Nodup) (hi : σ[i]? = some (some (.ref d)) := by rfl) (hw : ∀ x, wipe ((wipe σ vs).set j (some x)) vs = wipe σ vs := by exact fun _ => rfl) (hi2 : ∀ x : V, ((wipe σ vs).set j (some x))[i]? = some (some (.ref d)) := by exact fun _ => rfl) (hj2 : ∀ x : V, ((wipe σ vs).set j (some x))[j]? = some (some x) := by exact fun _ => rfl) :
    Ev (tCB (rAny K) (tCons (tLockE (tLc (iKeysO (tVar i)) (gName j) tYes (tOp (rIn K true) (tDGet (tVar i) (tVar j)) (tTup (tCons (tC (.str "bottom")) (tCons (tC (.str "top")) tNil)))) vs)) tNil)) σ H (.bl false) := by
  refine ev_is (ev_any (K := K) (bs := xs.map fun _ => false) (el_keysM (.k hd) hi (by simp [topD]) (by simp [topD]; omega) hw fun n x y H1 hx hy lk => ?_)) (by rw [List.any_map]; simp)
  rw [List.getElem?_map] at hx
  obtain ⟨kv, hkv, rfl⟩ := Option.map_eq_some_iff.mp hx
  have hm := List.mem_of_getElem? hkv
  obtain ⟨z, hz2, rfl⟩ := List.mem_map.mp hm
  have hy : y = .bl false := by
    have := List.mem_of_getElem? hy
    obtain ⟨b, hb, rfl⟩ := List.mem_map.mp this
    obtain ⟨_, _, rfl⟩ := List.mem_map.mp hb
    rfl
  subst hy
  refine fun H2 e2 Q q => ev_dgetR (k := Sum.inr z) (v := topV m z) (ev_var (hi2 _)) (ev_var (hj2 _)) (lk_get lk) (look_of (keys_top nd) _ hm) H2 e2 _ fun H3 e3 => ⟨(by show 2 ≤ sizeLine; decide), fun c hc => ?_⟩
  have fl : flatV (topV m z) = true := rfl
  have r := rv_inT (K := K) (neg := true) (x := topV m z) (xs := [V.str "bottom", V.str "top"]) (st_of (K := K) (upd_same (H := H3) (a := c) (o := .tup [V.str "bottom", V.str "top"]))) fl rfl _ (Ex.refl _)
  have e : (V.bl (if true = true then !inV (topV m z) [V.str "bottom", V.str "top"] else inV (topV m z) [V.str "bottom", V.str "top"])) = .bl false := by
    unfold topV
    by_cases c : z ∈ m
    · rw [if_pos c]; decide +kernel
    · rw [if_neg c]; decide +kernel
  rw [e] at r
  exact r Q fun H4 e4 => q H4 ((e3.trans (Ex.new hc)).trans e4)
end
section
variable {P : Program} {w : World} {K : PySem.W.Frag} {mg : Str → Option Value} {base : Heap} {a : At}
def sp__law_numbers : Sp := fun vs H Q _ => ∃ (d : Addr) (kvs : List (Key × V)), vs = [.ref d] ∧ H d = some (.dK kvs) ∧ kvs.length ≤ 100 ∧ (kvs.map (·.1)).Nodup ∧ (∀ kv ∈ kvs, isValB kv.2 = true) ∧ ∀ p H', H p = none → Ex H H' → H' p = some (.dK (numsOf kvs)) → Q (.ref p) H'
theorem ok__law_numbers (T : Txt K mg a) : Fn P w K mg base 2 a._law_numbers sp__law_numbers := by
  have G__law_number := ok__law_number (P := P) (w := w) (base := base) T
  refine T.d__law_numbers.fn sc__law_numbers (fun _ _ _ _ _ _ us hl => match us, hl with | [_], _ => rfl) (fun vs H Q E h => ?_) (fun cdv A outer s H vs Q E hg hr h => ?_)
  · obtain ⟨_, _, rfl, _⟩ := h
    rfl
  · obtain ⟨d, kvs, rfl, hd, hl, nd2, hv, q⟩ := h
    have nd := sc__law_numbers.nd
    have hu := hu_of hr
    refine ⟨_, (pss_one (ps_ret (pe_callTy (cr_dictP rfl) (by rfl) T.z_dict (by decide +kernel) (pa_cons (pe_lock (pe_lc rfl (own := [("spot", 1)]) (g := gName 1) (by exact nd) (pi_keysO (pv 0)) (blkOk_by (own := [("spot", 1)]) (N := ["told", "spot"]) (sc := defScope s__law_numbers) (by decide +kernel)) (fun _ _ _ _ _ => (pg_name (i := 1) nd rfl (.inl rfl))) (fun _ _ _ _ _ => pts_nil) (fun _ _ _ _ _ => (pe_tup (pa_cons (pv 1) (pa_cons (pe_fn G__law_number hg (hr.mono (by decide)) T.d__law_number.kp T.d__law_number.m (by rfl) passL (pa_cons (pe_dget hu (pv 0) (pv 1) (fun _ _ => rfl)) pa_nil)) pa_nil)))))) pa_nil)))), ?_⟩
    have z : EvD (tCB (rDictP K) (tCons (tLockE (tLc (iKeysO (tVar 0)) (gName 1) tYes (tTup (tCons (tVar 1) (tCons (tFn sp__law_number E0 (tCons (tDGet (tVar 0) (tVar 1)) tNil)) tNil))) [1])) tNil)) [some (.ref d), none] H (numsOf kvs) := by
      refine ed_pairs ?_ (by rw [numsOf, List.map_map]; exact nd2)
      have e : numsOf kvs = (numsOf kvs).filter fun _ => true := (List.filter_eq_self.mpr fun _ _ => rfl).symm
      rw [e]
      refine ep_keys hd rfl (by rw [numsOf, List.map_map]; rfl) (by rw [numsOf, List.length_map]; omega) (fun _ => rfl) (fun n kv H1 _ _ => fun H2 e2 _ q => q H2 (Ex.refl H2)) (fun n kv H1 hn _ lk => ?_)
      rw [numsOf, List.getElem?_map] at hn
      obtain ⟨kv0, h0, rfl⟩ := Option.map_eq_some_iff.mp hn
      have hm := List.mem_of_getElem? h0
      exact eu_tup (ea_cons (ev_var rfl) (ea_cons (ev_fn (ea_cons (ev_dgetR (ev_var rfl) (ev_var rfl) (lk_get lk) (look_of nd2 kv0 hm)) ea_nil) fun H2 e2 Q' q' E' => ⟨kv0.2, rfl, hv kv0 hm, q'⟩) ea_nil)) (by show 2 ≤ 100000; decide)
    exact z H (Ex.refl H) _ fun p H2 hp e2 h2 => q p H2 hp e2 h2
/-! ### what is shown is right -/
def sp__law_is_shown (n : Nat) : Sp := fun vs H Q _ => ∃ (S : Addr → Prop) (v u : V) (t r : TM.Tree) (d : Addr) (m xs : List Str), vs = [v, u, .ref d] ∧ TM.MdAt S H v t ∧ TM.MdAt S H u r ∧ TM.Ok t ∧ TM.Ok r ∧ t.depth < n ∧ r.depth < n ∧ H d = some (.dK (topD m xs)) ∧ TM.Spots xs (.lesser [t, r]) ∧ topT m t = true ∧ topT m r = false ∧ ∀ H', Ex H H' → Q (.bl true) H'
theorem ok__law_is_shown (T : Txt K mg a) (n : Nat) : Fn P w K mg base (n + 3) a._law_is_shown (sp__law_is_shown n) := by
  have G__law_spots := ok__law_spots (P := P) (w := w) (base := base) T n
  have G__law_numbers := ok__law_numbers (P := P) (w := w) (base := base) T
  have G__law_of := ok__law_of (P := P) (w := w) (base := base) T n
  refine T.d__law_is_shown.fn sc__law_is_shown (fun _ _ _ _ _ _ us hl => match us, hl with | [_, _, _], _ => rfl) (fun vs H Q E h => ?_) (fun cdv A outer s H vs Q E hg hr h => ?_)
  · obtain ⟨_, _, _, _, _, _, _, _, rfl, _⟩ := h
    rfl
  · obtain ⟨S, v, u, t, r, d, m, xs, rfl, ht, hr2, okt, okr, dt, dr, hd, sp, t1, t0, q⟩ := h
    have nd := sc__law_is_shown.nd
    have hu := hu_of hr
    have hu64 : (A.deeper _).units + 64 < cLine := hr.units
    refine ⟨_, (pss_cons (ps_set (i := 3) nd rfl (.inl rfl) (pe_callB (TM.cr_sortedSWN rfl) (by rfl) T.z_sorted (by decide +kernel) (pa_cons (pe_callTy (cr_setKL rfl) (by rfl) T.z_set (by decide +kernel) (pa_cons (pe_op op_catB (pe_fn G__law_spots hg (hr.mono (by omega)) T.d__law_spots.kp T.d__law_spots.m (by rfl) passL (pa_cons (pv 0) pa_nil)) (pe_fn G__law_spots hg (hr.mono (by omega)) T.d__law_spots.kp T.d__law_spots.m (by rfl) passL (pa_cons (pv 1) pa_nil))) pa_nil)) pa_nil)))
    (pss_cons (ps_if (PW.pt (pw_or (pt_not (pt_val (pe_callB call_isiO (by rfl) T.z_isinstance (by decide +kernel) (pa_cons (pv 2) (pa_cons (pe_ty "dict" (by rfl) T.z_dict (by decide +kernel)) pa_nil))))) (pw_or (pt_cmpR (op_neP hu64) (pe_callTy (call_list_dK rfl) (by rfl) T.z_list (by decide +kernel) (pa_cons (pv 2) pa_nil)) (pv 3) (nomark _)) (pw_or1 (pt_val (pe_callB (cr_any rfl) (by rfl) T.z_any (by decide +kernel) (pa_cons (pe_lock (pe_lc rfl (own := [("spot", 5)]) (g := gName 5) (by exact nd) (pi_keysO (pv 2)) (blkOk_by (own := [("spot", 5)]) (N := ["term", "rival", "told", "spots", "there", "spot"]) (sc := defScope s__law_is_shown) (by decide +kernel)) (fun _ _ _ _ _ => (pg_name (i := 5) nd rfl (.inl rfl))) (fun _ _ _ _ _ => pts_nil) (fun _ _ _ _ _ => (pe_cmpR (op_notIn_seq : OpR _ (compareOp .NotIn) (rIn K true)) (pe_dget hu (pv 2) (pv 5) (fun _ _ => rfl)) (pe_tup (pa_cons pe_str (pa_cons pe_str pa_nil))) (by rfl))))) pa_nil))))))) (pss_one (ps_ret pe_bl)) pss_nil)
    (pss_cons (ps_set (i := 4) nd rfl (.inl rfl) (pe_fn G__law_numbers hg (hr.mono (by omega)) T.d__law_numbers.kp T.d__law_numbers.m (by rfl) passL (pa_cons (pv 2) pa_nil)))
    (pss_one (ps_ret (pe_cmpR (op_eqP hu64) (pe_lst (pa_cons (pe_fn G__law_of hg (hr.mono (by omega)) T.d__law_of.kp T.d__law_of.m (by rfl) passL (pa_cons (pv 0) (pa_cons (pv 4) pa_nil))) (pa_cons (pe_fn G__law_of hg (hr.mono (by omega)) T.d__law_of.kp T.d__law_of.m (by rfl) passL (pa_cons (pv 1) (pa_cons (pv 4) pa_nil))) pa_nil))) (pe_lst (pa_cons (pe_op op_pow pe_int pe_int) (pa_cons (pe_un un_neg (pe_op op_pow pe_int pe_int)) pa_nil))) (nomark _))))))), ?_⟩
    have spt : ∀ {i : Nat} {v : V} {t : TM.Tree} {σ : L2.St}, σ[i]? = some (some v) → TM.MdAt S H v t → TM.Ok t → t.depth < n → ∀ H1, Ex H H1 → ∀ Q : VK, (∀ p (fs : List Str) H2, H1 p = none → Ex H1 H2 → H2 p = some (.lst (fs.map V.str)) → fs.length ≤ 400 → (∀ n, n ∈ fs ↔ n ∈ t.places) → Q (.ref p) H2) → tFn (sp__law_spots n) E0 (tCons (tVar i) tNil) σ H1 Q := fun hσ md ok hd H1 e Q q => ⟨_, hσ, S, _, _, rfl, md.ex e, ok, hd, fun p xs H2 hp e2 h2s h2 => q p xs H2 hp e2 h2 (by have := h2s.len ok; omega) h2s.mem⟩
    refine ev_spots2 (K := K) (P := P) (w := w) okt okr (ev_cat2 (spt rfl ht okt dt) (spt rfl hr2 okr dr)) H (Ex.refl _) _ fun p xs' H1 hp e1 sp' h1 => ?_
    have ex : xs' = xs := sp'.unique (ok2 okt okr) sp
    subst ex
    have l8 := sp.len (ok2 okt okr)
    have hd1 := e1 _ _ hd
    refine q_when (b := false) (et_is (et_or (a := false) (b := false) (et_is (et_not (a := true) (et_test (ev_cb (ea_cons (ev_var rfl) (ea_cons ev_c ea_nil)) fun H2 e Q' q' => .inl ⟨.ref d, .ty "dict", _, _, _, rfl, .ty _, rd_ty (.inl (e _ _ hd1)), kit_dict, q' H2 (Ex.refl _)⟩))) rfl) fun _ => et_is (et_or (a := false) (b := false) (et_list hd1 h1) fun _ => et_B (et_any hd1 (by omega) sp.nd)) rfl) rfl) (fun z => nomatch z) fun _ H2 e2 => ?_
    have e12 := e1.trans e2
    refine ⟨.ref d, rfl, d, topD m xs', rfl, e12 _ _ hd, by unfold topD; rw [List.length_map]; omega, keys_top sp.nd, fun kv hkv => ?_, fun pn H3 hpn e3 h3 => ?_⟩
    · obtain ⟨x, hx, rfl⟩ := List.mem_map.mp hkv
      show isValB (topV m x) = true
      unfold topV
      by_cases c : x ∈ m
      · rw [if_pos c]; rfl
      · rw [if_neg c]; rfl
    · rw [nums_top] at h3
      have e13 := e12.trans e3
      have o1 : ∀ {i : Nat} {v : V} {t : TM.Tree} {σ : L2.St} {E : XK}, σ[i]? = some (some v) → σ[4]? = some (some (.ref pn)) → TM.MdAt S H v t → TM.Ok t → t.depth < n → (∀ x ∈ t.places, x ∈ xs') → Ev (tFn (sp__law_of n) E (tCons (tVar i) (tCons (tVar 4) tNil))) σ H3 (.int (tv m t)) := fun h1 h4 md ok hd hp => ev_fn (ea_cons (ev_var h1) (ea_cons (ev_var h4) ea_nil)) fun H4 e4 Q' q' E' => ⟨S, _, _, pn, asg m xs', m, rfl, md.ex (e13.trans e4), ok, hd, e4 _ _ h3, asg_th sp.nd hp, q'⟩
      have g1 : tv m t = big := by unfold tv; rw [t1]; rfl
      have g2 : tv m r = -big := by unfold tv; rw [t0]; rfl
      refine s_ret (v := .bl true) (ev_eqII (el_lst (ea_cons (ev_of (o1 rfl rfl ht okt dt fun x hx => (sp.mem x).mpr (pl2.mpr (.inl hx))) (by rw [g1])) (ea_cons (ev_of (o1 rfl rfl hr2 okr dr fun x hx => (sp.mem x).mpr (pl2.mpr (.inr hx))) (by rw [g2])) ea_nil)) (by show 2 ≤ 100000; decide)) (el_lst (ea_cons ev_pow64 (ea_cons ev_npow64 ea_nil)) (by show 2 ≤ 100000; decide))) fun H4 e4 => q H4 (e13.trans e4)
end
end K16
namespace K16
open PySem PySem.Spec PyProof.Rows L2 LG Evl FM TB
def mkT (c : Bool) (ts : List TM.Tree) : TM.Tree := if c then .lesser ts else .greater ts
theorem ok_mk {c : Bool} {ts : List TM.Tree} (h : TM.Ln ts.length) (ok : ∀ t ∈ ts, TM.Ok t) : TM.Ok (mkT c ts) := by
  unfold mkT
  cases c with
  | true => exact .lesser h ok
  | false => exact .greater h ok
theorem dp_mk {c : Bool} {ts : List TM.Tree} {m : Nat} (h : ∀ t ∈ ts, t.depth ≤ m) : (mkT c ts).depth ≤ m + 1 := by
  have : TM.Tree.depthAll ts ≤ m := depthAll_le h
  unfold mkT
  cases c <;> simp only [Bool.false_eq_true, if_true, if_false, TM.Tree.depth] <;> omega
def cw (c : Bool) : Str := if c then "lesser" else "greater"
theorem md_mk {S : Addr → Prop} {H : Hp} {y l : Addr} {c : Bool} {xs : List V} {ts : List TM.Tree} (s : S y) (h : H y = some (.tup [.str (cw c), .ref l])) (sl : S l) (hl : H l = some (.lst xs)) (hn : xs.length = ts.length) (hx : ∀ (i : Nat) (x : V) (t : TM.Tree), xs[i]? = some x → ts[i]? = some t → TM.MdAt S H x t) : TM.MdAt S H (.ref y) (mkT c ts) := by
  cases c with
  | true => exact .lesser s h sl hl hn hx
  | false => exact .greater s h sl hl hn hx
theorem all2 {M : TM.Tree → Prop} {t u : TM.Tree} (h1 : M t) (h2 : M u) : ∀ z ∈ [t, u], M z := fun z hz => by
  simp only [List.mem_cons, List.not_mem_nil, or_false] at hz
  rcases hz with rfl | rfl
  · exact h1
  · exact h2
theorem all3 {M : TM.Tree → Prop} {t u r : TM.Tree} (h1 : M t) (h2 : M u) (h3 : M r) : ∀ z ∈ [t, u, r], M z := fun z hz => by
  simp only [List.mem_cons, List.not_mem_nil, or_false] at hz
  rcases hz with rfl | rfl | rfl
  · exact h1
  · exact h2
  · exact h3
theorem at2 {S : Addr → Prop} {H : Hp} {x y : V} {t u : TM.Tree} (h1 : TM.MdAt S H x t) (h2 : TM.MdAt S H y u) : ∀ (i : Nat) (z : V) (r : TM.Tree), [x, y][i]? = some z → [t, u][i]? = some r → TM.MdAt S H z r
  | 0, _, _, a, b => by cases a; cases b; exact h1
  | 1, _, _, a, b => by cases a; cases b; exact h2
  | i + 2, _, _, a, _ => by simp at a
theorem at3 {S : Addr → Prop} {H : Hp} {x y w : V} {t u v : TM.Tree} (h1 : TM.MdAt S H x t) (h2 : TM.MdAt S H y u) (h3 : TM.MdAt S H w v) : ∀ (i : Nat) (z : V) (r : TM.Tree), [x, y, w][i]? = some z → [t, u, v][i]? = some r → TM.MdAt S H z r
  | 0, _, _, a, b => by cases a; cases b; exact h1
  | 1, _, _, a, b => by cases a; cases b; exact h2
  | 2, _, _, a, b => by cases a; cases b; exact h3
  | i + 3, _, _, a, _ => by simp at a
theorem places_mk {c : Bool} {ts : List TM.Tree} : (mkT c ts).places = TM.Tree.placesAll ts := by cases c <;> rfl
theorem placesAll_rev (ts : List TM.Tree) : (TM.Tree.placesAll ts.reverse).length = (TM.Tree.placesAll ts).length := by
  induction ts with
  | nil => rfl
  | cons t ts ih =>
    rw [List.reverse_cons, placesAll_app, List.length_append, ih]
    simp only [TM.Tree.placesAll, List.length_append, List.length_nil]
    omega
theorem md_px {p : Addr} {H H' : Hp} {v : V} {t : TM.Tree} (x : Px p H H') (h : TM.MdAt (fun b => b ≠ p) H v t) : TM.MdAt (fun b => b ≠ p) H' v t := h.up (fun _ s => s) fun b o s e => x.1 b o s e
theorem et_word {K : PySem.W.Frag} {σ : L2.St} {H : Hp} {x : Addr} {w : Str} {ys : List V} {i : Nat} {b : Bool} (hi : σ[i]? = some (some (.ref x))) (hx : H x = some (.tup (.str w :: ys))) (hb : inV (.str w) [V.str "lesser", V.str "greater"] = b) : EvT (tTest (tOp (rIn K false) (tOp (rIxT K) (tVar i) (tC (.int 0))) (tTup (tCons (tC (.str "lesser")) (tCons (tC (.str "greater")) tNil))))) σ H b := et_is (et_test (b := b) fun H1 e Q q => ⟨.ref x, hi, x, _, 0, .str w, rfl, rfl, st_of (e _ _ hx), atI_nat (j := 0) rfl, (by show 2 ≤ sizeLine; decide), fun c hc => by
  have r := rv_inT (K := K) (neg := false) (x := V.str w) (xs := [V.str "lesser", V.str "greater"]) (st_of (K := K) (upd_same (H := H1) (a := c) (o := .tup [V.str "lesser", V.str "greater"]))) rfl rfl _ (Ex.refl _)
  rw [if_neg Bool.false_ne_true, hb] at r
  exact r Q fun H2 e2 => q H2 ((Ex.new hc).trans e2)⟩) rfl
section
variable {P : Program} {w : World} {K : PySem.W.Frag} {mg : Str → Option Value} {base : Heap} {a : At}
def sp__law_beside : Sp := fun vs H Q _ => ∃ (p l : Addr) (v : V) (t : TM.Tree) (xs : List V), vs = [.ref p, v, .ref l] ∧ Po p H ∧ TM.MdAt (fun b => b ≠ p) H v t ∧ TM.Ok t ∧ t.depth ≤ 2 ∧ H l = some (.lst xs) ∧ l ≠ p ∧ 0 < xs.length ∧ xs.length ≤ 5 ∧ (∀ x ∈ xs, Nm x) ∧
  ∀ u r H', TM.Ok r → r.depth ≤ 4 → r.places.length ≤ 200 → TM.MdAt (fun b => b ≠ p) H' u r → Px p H H' → Q u H'
theorem ok__law_beside (T : Txt K mg a) : Fn P w K mg base 6 a._law_beside sp__law_beside := by
  have G__law_draw := ok__law_draw (P := P) (w := w) (base := base) T
  have G__law_pick := ok__law_pick (P := P) (w := w) (base := base) T
  have G__law_term := ok__law_term (P := P) (w := w) (base := base) T 3
  refine T.d__law_beside.fn sc__law_beside (fun _ _ _ _ _ _ us hl => match us, hl with | [_, _, _], _ => rfl) (fun vs H Q E h => ?_) (fun cdv A outer s H vs Q E hg hr h => ?_)
  · obtain ⟨_, _, _, _, _, rfl, _⟩ := h
    rfl
  · obtain ⟨p, l, v, t, xs, rfl, po, md, ok, hd, hl, lp, x0, x5, nm, q⟩ := h
    have nd := sc__law_beside.nd
    refine ⟨_, (pss_cons (ps_par (i := 3) (j := 4) rfl nd rfl rfl (by decide) rfl rfl (pa_cons (pe_fn G__law_draw hg (hr.mono (by decide)) T.d__law_draw.kp T.d__law_draw.m (by rfl) passL (pa_cons (pv 0) (pa_cons pe_int pa_nil))) (pa_cons (pe_fn G__law_term hg (hr.mono (by decide)) T.d__law_term.kp T.d__law_term.m (by rfl) passL (pa_cons (pv 0) (pa_cons (pv 2) (pa_cons pe_int pa_nil)))) pa_nil)) (by rfl))
    (pss_cons (ps_if (pt_cmpR op_lt (pv 3) pe_int (nomark _)) (pss_one (ps_ret (pe_fn G__law_term hg (hr.mono (by decide)) T.d__law_term.kp T.d__law_term.m (by rfl) passL (pa_cons (pv 0) (pa_cons (pv 2) (pa_cons pe_int pa_nil)))))) pss_nil)
    (pss_cons (ps_if (pt_cmpR op_lt (pv 3) pe_int (nomark _)) (pss_one (ps_ret (pe_tup (pa_cons (pe_ix (ix_listK (K := K) rfl) (pe_lst (pa_cons pe_str (pa_cons pe_str pa_nil))) (pe_op op_mod (pv 3) pe_int) (fun _ _ => rfl)) (pa_cons (pe_lst (pa_cons (pv 4) (pa_cons (pv 1) pa_nil))) pa_nil))))) pss_nil)
    (pss_cons (ps_if (pt_cmpR op_eq (pv 3) pe_int (nomark _)) (pss_one (ps_ret (pe_tup (pa_cons pe_str (pa_cons (pe_lst (pa_cons (pe_tup (pa_cons pe_str (pa_cons (pe_lst (pa_cons (pv 1) (pa_cons (pv 4) pa_nil))) pa_nil))) (pa_cons (pv 1) pa_nil))) pa_nil))))) pss_nil)
    (pss_cons (ps_if (pt_cmpR op_eq (pv 3) pe_int (nomark _)) (pss_one (ps_ret (pe_tup (pa_cons pe_str (pa_cons (pe_lst (pa_cons (pv 1) (pa_cons (pe_tup (pa_cons pe_str (pa_cons (pe_lst (pa_cons (pv 4) (pa_cons (pv 1) pa_nil))) pa_nil))) (pa_cons (pv 1) pa_nil)))) pa_nil))))) pss_nil)
    (pss_cons (ps_if (pt_cmpR op_eq (pv 3) pe_int (nomark _)) (pss_one (ps_ret (pe_tup (pa_cons pe_str (pa_cons (pe_fn G__law_pick hg (hr.mono (by decide)) T.d__law_pick.kp T.d__law_pick.m (by rfl) passL (pa_cons (pv 0) (pa_cons (pe_lst (pa_cons pe_str (pa_cons pe_str pa_nil))) pa_nil))) pa_nil))))) pss_nil)
    (pss_one (ps_ret (pe_ifExp (pt_cmpR (op_in_seq : OpR _ (compareOp .In) (rIn K false)) (pe_ix ix_tup (pv 1) pe_int (fun _ _ => rfl)) (pe_tup (pa_cons pe_str (pa_cons pe_str pa_nil))) (by rfl)) (pe_tup (pa_cons (pe_ix ix_tup (pv 1) pe_int (fun _ _ => rfl)) (pa_cons (pe_revL (pe_ix ix_tup (pv 1) pe_int (fun _ _ => rfl))) pa_nil))) (pv 1)))))))))), ?_⟩
    have fin : ∀ (c : Bool) {Hx : Hp} (x : Px p H Hx) (vs : List V) (ts : List TM.Tree), vs.length = ts.length → TM.Ln ts.length → (∀ t ∈ ts, TM.Ok t ∧ t.depth ≤ 3) → (TM.Tree.placesAll ts).length ≤ 200 → (∀ (i : Nat) (y : V) (t : TM.Tree), vs[i]? = some y → ts[i]? = some t → TM.MdAt (fun b => b ≠ p) Hx y t) → ∀ l2, Hx l2 = none → ∀ y, (upd Hx l2 (.lst vs)) y = none → Q (.ref y) (upd (upd Hx l2 (.lst vs)) y (.tup [.str (cw c), .ref l2])) := fun c Hx x vs ts hn hln hok hp hx l2 hl2 y hy => by
      have e1 : Ex Hx (upd Hx l2 (.lst vs)) := Ex.new hl2
      have e2 := Ex.new (o := .tup [.str (cw c), .ref l2]) hy
      refine q (.ref y) (mkT c ts) _ (ok_mk hln fun t ht => (hok t ht).1) (dp_mk fun t ht => (hok t ht).2) (by rw [places_mk]; exact hp) (md_mk (x.2.up e1 |>.ne hy) upd_same (x.2.ne hl2) (e2 _ _ upd_same) hn fun i y t h1 h2 => (hx i y t h1 h2).ex (e1.trans e2)) (x.ex (e1.trans e2))
    refine ⟨.ref p, rfl, p, 8, rfl, po, by decide, by decide, fun d H1 d0 d1 x1 => ?_⟩
    refine ⟨.ref p, rfl, .ref l, rfl, p, l, xs, 1, 1, rfl, rfl, by decide, x1.2, x1.1 _ _ lp hl, lp, x0, x5, nm, fun m um H2 okm hdm plm mdm x2 => ⟨_, _, rfl, ?_⟩⟩
    have x02 := x1.trans x2
    have mdm : TM.MdAt (fun b => b ≠ p) H2 m um := mdm.up (fun b s z => x1.2.at (z ▸ s)) fun _ _ _ z => z
    have md := md_px x02 md
    have hl := x02.1 _ _ lp hl
    have pt : t.places.length ≤ 64 := TM.places_len 2 t ok hd
    have pm : um.places.length ≤ 8 := TM.places_len 1 um okm hdm
    clear x1 x2
    have ot : TM.Ok t ∧ t.depth ≤ 3 := ⟨ok, by omega⟩
    have om : TM.Ok um ∧ um.depth ≤ 3 := ⟨okm, by omega⟩
    refine q_when (b := decide (d < 2)) (et_test (ev_op (ev_var rfl) ev_c rv_I0)) (fun _ H3 e3 => ?_) (fun hb1 H3 e3 => ?_)
    · have x03 := x02.ex e3
      refine ⟨.ref p, rfl, .ref l, rfl, p, l, xs, 2, 2, rfl, rfl, by decide, x03.2, e3 _ _ hl, lp, x0, x5, nm, fun v' t' H' ok' hd' pl' md' x' => ?_⟩
      have := TM.places_len 2 t' ok' hd'
      exact q v' t' H' ok' (by omega) (by omega) (md'.up (fun b s z => x03.2.at (z ▸ s)) fun _ _ _ z => z) (x03.trans x')
    have hd2 : 2 ≤ d := by simpa using hb1
    refine q_when (b := decide (d < 4)) (et_test (ev_op (ev_var rfl) ev_c rv_I0)) (fun hb2 H4 e4 => ?_) (fun hb2 H4 e4 => ?_)
    · have x04 := x02.ex (e3.trans e4)
      have md := md.ex (e3.trans e4)
      have mdm := mdm.ex (e3.trans e4)
      have d4 : d < 4 := by simpa using hb2
      have two : d = 2 ∨ d = 3 := by omega
      refine ⟨(by decide : 2 ≤ sizeLine), fun lw hlw => ?_⟩
      have e5 : Ex H4 (upd H4 lw (.lst [.str "lesser", .str "greater"])) := Ex.new hlw
      rcases two with rfl | rfl
      · exact ⟨.int 2, rfl, 2, 2, rfl, rfl, (by show (0 : Int) < 2; decide), lw, [.str "lesser", .str "greater"], _, .str "lesser", rfl, rfl, sq_of upd_same, rfl, m, rfl, v, rfl, (by decide : 2 ≤ sizeLine), fun l2 hl2 => ⟨(by decide : 2 ≤ sizeLine), fin true (x04.ex e5) [m, v] [um, t] rfl (.inl rfl) (all2 om ot) (by simp [TM.Tree.placesAll]; omega) (at2 (mdm.ex e5) (md.ex e5)) l2 hl2⟩⟩
      · exact ⟨.int 3, rfl, 3, 2, rfl, rfl, (by show (0 : Int) < 2; decide), lw, [.str "lesser", .str "greater"], _, .str "greater", rfl, rfl, sq_of upd_same, rfl, m, rfl, v, rfl, (by decide : 2 ≤ sizeLine), fun l2 hl2 => ⟨(by decide : 2 ≤ sizeLine), fin false (x04.ex e5) [m, v] [um, t] rfl (.inl rfl) (all2 om ot) (by simp [TM.Tree.placesAll]; omega) (at2 (mdm.ex e5) (md.ex e5)) l2 hl2⟩⟩
    refine q_when (b := decide (V.int d = V.int 4)) (et_test (ev_op (ev_var rfl) ev_c (rv_eq rfl))) (fun _ H5 e5 => ?_) (fun hb3 H5 e5 => ?_)
    · have e25 := (e3.trans e4).trans e5
      have x05 := x02.ex e25
      have md := md.ex e25
      have mdm := mdm.ex e25
      refine ⟨v, rfl, m, rfl, (by decide : 2 ≤ sizeLine), fun l1 hl1 => ⟨(by decide : 2 ≤ sizeLine), fun y1 hy1 => ⟨v, rfl, (by decide : 2 ≤ sizeLine), fun l2 hl2 => ⟨(by decide : 2 ≤ sizeLine), ?_⟩⟩⟩⟩
      have e6 : Ex H5 (upd H5 l1 (.lst [v, m])) := Ex.new hl1
      have e7 : Ex (upd H5 l1 (.lst [v, m])) (upd (upd H5 l1 (.lst [v, m])) y1 (.tup [.str "lesser", .ref l1])) := Ex.new hy1
      have mk1 : TM.MdAt (fun b => b ≠ p) (upd (upd H5 l1 (.lst [v, m])) y1 (.tup [.str "lesser", .ref l1])) (.ref y1) (mkT true [t, um]) := md_mk ((x05.ex e6).ne hy1) upd_same (x05.ne hl1) (e7 _ _ upd_same) rfl (at2 (md.ex (e6.trans e7)) (mdm.ex (e6.trans e7)))
      have o1 : TM.Ok (mkT true [t, um]) ∧ (mkT true [t, um]).depth ≤ 3 := ⟨ok_mk (.inl rfl) (all2 ok okm), dp_mk (all2 hd (by omega))⟩
      exact fin false ((x05.ex e6).ex e7) [.ref y1, v] [mkT true [t, um], t] rfl (.inl rfl) (all2 o1 ot) (by simp only [TM.Tree.placesAll, places_mk, List.length_append, List.length_nil]; omega) (at2 mk1 (md.ex (e6.trans e7))) l2 hl2
    refine q_when (b := decide (V.int d = V.int 5)) (et_test (ev_op (ev_var rfl) ev_c (rv_eq rfl))) (fun _ H6 e6 => ?_) (fun hb4 H6 e6 => ?_)
    · have e26 := ((e3.trans e4).trans e5).trans e6
      have x06 := x02.ex e26
      have md := md.ex e26
      have mdm := mdm.ex e26
      refine ⟨v, rfl, m, rfl, v, rfl, (by decide : 2 ≤ sizeLine), fun l1 hl1 => ⟨(by decide : 2 ≤ sizeLine), fun y1 hy1 => ⟨v, rfl, (by decide : 3 ≤ sizeLine), fun l2 hl2 => ⟨(by decide : 2 ≤ sizeLine), ?_⟩⟩⟩⟩
      have e7 : Ex H6 (upd H6 l1 (.lst [m, v])) := Ex.new hl1
      have e8 : Ex (upd H6 l1 (.lst [m, v])) (upd (upd H6 l1 (.lst [m, v])) y1 (.tup [.str "greater", .ref l1])) := Ex.new hy1
      have mk1 : TM.MdAt (fun b => b ≠ p) (upd (upd H6 l1 (.lst [m, v])) y1 (.tup [.str "greater", .ref l1])) (.ref y1) (mkT false [um, t]) := md_mk ((x06.ex e7).ne hy1) upd_same (x06.ne hl1) (e8 _ _ upd_same) rfl (at2 (mdm.ex (e7.trans e8)) (md.ex (e7.trans e8)))
      have o1 : TM.Ok (mkT false [um, t]) ∧ (mkT false [um, t]).depth ≤ 3 := ⟨ok_mk (.inl rfl) (all2 okm ok), dp_mk (all2 (by omega) hd)⟩
      exact fin true ((x06.ex e7).ex e8) [v, .ref y1, v] [t, mkT false [um, t], t] rfl (.inr (.inl rfl)) (all3 ot o1 ot) (by simp only [TM.Tree.placesAll, places_mk, List.length_append, List.length_nil]; omega) (at3 (md.ex (e7.trans e8)) mk1 (md.ex (e7.trans e8))) l2 hl2
    refine q_when (b := decide (V.int d = V.int 6)) (et_test (ev_op (ev_var rfl) ev_c (rv_eq rfl))) (fun _ H7 e7 => ?_) (fun hb5 H7 e7 => ?_)
    · have x07 := x02.ex ((((e3.trans e4).trans e5).trans e6).trans e7)
      refine ⟨.ref p, rfl, (by decide : 2 ≤ sizeLine), fun z hz => ⟨p, z, _, rfl, x07.2.up (Ex.new hz), upd_same, x07.ne hz, by decide, by decide, fun x hx H8 x8 => ⟨(by decide : 2 ≤ sizeLine), fun y hy => ?_⟩⟩⟩
      have x08 := (x07.ex (Ex.new hz)).trans x8
      have xf := x08.ex (Ex.new (o := .tup [.str "end", x]) hy)
      simp only [List.mem_cons, List.not_mem_nil, or_false] at hx
      rcases hx with rfl | rfl
      · exact q (.ref y) (.endd "bottom") _ (.endd (by decide)) (Nat.zero_le _) (Nat.zero_le _) (.endd (x08.ne hy) upd_same) xf
      · exact q (.ref y) (.endd "top") _ (.endd (by decide)) (Nat.zero_le _) (Nat.zero_le _) (.endd (x08.ne hy) upd_same) xf
    have e27 := (((e3.trans e4).trans e5).trans e6).trans e7
    have x07 := x02.ex e27
    have md := md.ex e27
    clear mdm
    have rev : ∀ (c : Bool) {x l' : Addr} {vs : List V} {ts : List TM.Tree}, v = .ref x → H7 x = some (.tup [.str (cw c), .ref l']) → H7 l' = some (.lst vs) → vs.length = ts.length → (∀ (i : Nat) (y : V) (t : TM.Tree), vs[i]? = some y → ts[i]? = some t → TM.MdAt (fun b => b ≠ p) H7 y t) → TM.Ln ts.length → (∀ t ∈ ts, TM.Ok t ∧ t.depth ≤ 3) → (TM.Tree.placesAll ts).length ≤ 64 →
        tRet (tIf (tTest (tOp (rIn K false) (tOp (rIxT K) (tVar 1) (tC (.int 0))) (tTup (tCons (tC (.str "lesser")) (tCons (tC (.str "greater")) tNil))))) (tTup (tCons (tOp (rIxT K) (tVar 1) (tC (.int 0))) (tCons (tRevL K (tOp (rIxT K) (tVar 1) (tC (.int 1)))) tNil))) (tVar 1)) { nx := fun _ H' => Q .non H', rt := Q } [some (.ref p), some v, some (.ref l), some (.int d), some m] H7 := by
      intro c x l' vs ts hv hx hl' hn hxs hln hok hpl
      subst hv
      refine s_retIf (b := true) (et_word (x := x) (w := cw c) (ys := [.ref l']) rfl hx (by cases c <;> decide +kernel)) (fun _ H8 e8 => ?_) fun z => nomatch z
      have hx8 := e8 _ _ hx
      refine ⟨.ref x, rfl, x, _, 0, _, rfl, rfl, st_of hx8, rfl, .ref x, rfl, x, _, 1, _, rfl, rfl, st_of hx8, rfl, l', vs, rfl, sq_of (e8 _ _ hl'), fun l2 hl2 => ⟨(by decide : 2 ≤ sizeLine), ?_⟩⟩
      refine fin c (x07.ex e8) vs.reverse ts.reverse (by rw [List.length_reverse, List.length_reverse, hn]) (by rw [List.length_reverse]; exact hln) (fun z hz => hok z (List.mem_reverse.mp hz)) (by rw [placesAll_rev]; omega) (fun i y z h1 h2 => ?_) l2 hl2
      have i1 := (List.getElem?_eq_some_iff.mp h1).1
      rw [List.length_reverse] at i1
      rw [List.getElem?_reverse i1] at h1
      rw [List.getElem?_reverse (by omega)] at h2
      rw [← hn] at h2
      exact (hxs _ y z h1 h2).ex e8
    have lf : ∀ (c : Str) {x : Addr} {y : V}, v = .ref x → H7 x = some (.tup [.str c, y]) → inV (.str c) [V.str "lesser", V.str "greater"] = false →
        tRet (tIf (tTest (tOp (rIn K false) (tOp (rIxT K) (tVar 1) (tC (.int 0))) (tTup (tCons (tC (.str "lesser")) (tCons (tC (.str "greater")) tNil))))) (tTup (tCons (tOp (rIxT K) (tVar 1) (tC (.int 0))) (tCons (tRevL K (tOp (rIxT K) (tVar 1) (tC (.int 1)))) tNil))) (tVar 1)) { nx := fun _ H' => Q .non H', rt := Q } [some (.ref p), some v, some (.ref l), some (.int d), some m] H7 := by
      intro c x y hv hx hw
      refine s_retIf (b := false) (et_word (x := x) (w := c) (ys := [y]) (by rw [← hv]; rfl) hx hw) (fun z => nomatch z) fun _ H8 e8 => ?_
      exact ⟨v, rfl, q v t H8 ok (by omega) (by omega) (md.ex e8) (x07.ex e8)⟩
    have md' := md
    cases md' with
    | place s h => exact lf _ rfl h (by decide +kernel)
    | endd s h => exact lf _ rfl h (by decide +kernel)
    | @lesser x l' vs ts s hx sl hl' hn hxs =>
      cases ok with
      | lesser hln hok =>
        have dpa : TM.Tree.depthAll ts < 2 := Nat.lt_of_succ_lt_succ (by simpa [TM.Tree.depth] using Nat.lt_succ_of_le hd)
        exact rev true rfl hx hl' hn hxs hln (fun z hz => ⟨hok z hz, by have := TM.depth_mem hz; omega⟩) pt
    | @greater x l' vs ts s hx sl hl' hn hxs =>
      cases ok with
      | greater hln hok =>
        have dpa : TM.Tree.depthAll ts < 2 := Nat.lt_of_succ_lt_succ (by simpa [TM.Tree.depth] using Nat.lt_succ_of_le hd)
        exact rev false rfl hx hl' hn hxs hln (fun z hz => ⟨hok z hz, by have := TM.depth_mem hz; omega⟩) pt
end
end K16
/-! Comprehensions over a new list, and over a list of pairs (from k12). -/
namespace LG
open PySem PySem.Spec PyProof.Rows L2 Evl
section
variable {K : PySem.W.Frag} {σ : L2.St} {H : Hp} {tl te : TE} {j k : Nat} {vs : List Nat}
/-- [e for j in a new list], e told by its items -/
theorem el_lmapN {xs ys : List V} (h : EvL tl σ H xs) (hz : xs.length ≤ 40000) (hl : xs.length = ys.length) (hw : ∀ x, wipe ((wipe σ vs).set j (some x)) vs = wipe σ vs)
    (he : ∀ (i : Nat) (x y : V) H1, Ex H H1 → xs[i]? = some x → ys[i]? = some y → Ev te ((wipe σ vs).set j (some x)) H1 y) : EvL (tLc (iList K tl) (gName j) tYes te vs) σ H ys := fun H1 e Q q =>
  h H1 e _ fun p H2 hp e2 h2 => el_lmap (K := K) (tl := tC (.ref p)) (H := H2) (ys := ys) ev_c (sq_of h2) hz hl hw (fun i x y H3 e3 => he i x y H3 ((e.trans e2).trans e3)) H2 (Ex.refl _) Q fun r H3 hr e3 h3 => q r H3 (fresh_back e2 hr) (e2.trans e3) h3
/-- [e for j, k in a list of pairs] -/
theorem el_lpair {l : Addr} {ts : List Addr} {xs ys zs : List V} (h : Ev tl σ H (.ref l)) (hq : H l = some (.lst (ts.map V.ref))) (ht : ∀ (i : Nat) (t : Addr) (x y : V), ts[i]? = some t → xs[i]? = some x → ys[i]? = some y → H t = some (.tup [x, y])) (h1 : ts.length = xs.length) (h2 : xs.length = ys.length) (h3 : xs.length = zs.length) (hz : xs.length ≤ 40000)
    (hw : ∀ x y, wipe (((wipe σ vs).set j (some x)).set k (some y)) vs = wipe σ vs) (he : ∀ (i : Nat) (x y z : V) H1, Ex H H1 → xs[i]? = some x → ys[i]? = some y → zs[i]? = some z → Ev te (((wipe σ vs).set j (some x)).set k (some y)) H1 z) :
    EvL (tLc (iList K tl) (gTup K 2 (gCons (gName j) (gCons (gName k) gNil))) tYes te vs) σ H zs := fun H1 e Q q => h H1 e _ fun H2 e2 => by
  have e02 := e.trans e2
  refine ⟨l, rfl, ⟨_, sq_of (e02 _ _ hq)⟩, fun D hD => ?_⟩
  have gz := given_map zs
  refine lc_list (K := K) (a := l) (xs := ts.map V.ref) (Cw H2 (fun _ => true) (fun i => zs.getD i .non) D) ⟨hD, Ex.new hD, upd_same⟩ (fun n H3 _ p => sq_of (p.2.1 _ _ (e02 _ _ hq))) (fun n x H3 hx p => ?_) fun H3 p => ?_
  · rw [List.getElem?_map] at hx
    obtain ⟨t, hti, rfl⟩ := Option.map_eq_some_iff.mp hx
    have hn : n < xs.length := h1 ▸ (List.getElem?_eq_some_iff.mp hti).1
    have hxi : xs[n]? = some xs[n] := List.getElem?_eq_getElem hn
    have hyi : ys[n]? = some ys[n] := List.getElem?_eq_getElem (h2 ▸ hn)
    have hzi : zs[n]? = some zs[n] := List.getElem?_eq_getElem (h3 ▸ hn)
    have tt := p.2.1 _ _ (e02 _ _ (ht n t _ _ hti hxi hyi))
    refine ⟨t, _, rfl, st_of tt, rfl, _, _, rfl, _, _, rfl, rfl, ⟨hw _ _, ?_⟩⟩
    refine cw_turn p (by omega) (fun H4 e4 _ q => q H4 (Ex.refl H4)) fun _ => ?_
    have ez : zs.getD n .non = zs[n] := by rw [List.getD_eq_getElem?_getD, hzi]; rfl
    rw [ez]
    exact he n _ _ _ H2 e02 hxi hyi hzi
  · rw [List.length_map, h1, h3] at p
    have z := p.2.2
    rw [gz] at z
    exact q D H3 (fresh_back e2 hD) (e2.trans p.2.1) z
end
end LG
namespace K16
open PySem PySem.Spec PyProof.Rows L2 LG Evl FM TB
/-! ### plain: what all ways to give ENDS tell -/
theorem top_congr {X Y : List Str} {t : TM.Tree} (ok : TM.Ok t) (h : ∀ p ∈ t.places, p ∈ X ↔ p ∈ Y) : topT X t = topT Y t := by
  rw [Bool.eq_iff_iff]
  exact ⟨top_mono ok fun p hp => (h p hp).mp, top_mono ok fun p hp => (h p hp).mpr⟩
def eqAll (xs : List Str) (t r : TM.Tree) : Bool := (allX xs).all fun X => decide (tv X t = tv X r)
def leAll (xs : List Str) (t r : TM.Tree) : Bool := (allX xs).all fun X => decide (tv X t ≤ tv X r)
theorem tv_eq {X : List Str} {t r : TM.Tree} : tv X t = tv X r ↔ topT X t = topT X r := by
  have bp := big_pos
  unfold tv
  cases topT X t <;> cases topT X r <;> simp <;> omega
theorem tv_le {X : List Str} {t r : TM.Tree} : tv X t ≤ tv X r ↔ (topT X t = true → topT X r = true) := by
  have bp := big_pos
  unfold tv
  cases topT X t <;> cases topT X r <;> simp <;> omega
theorem each_way {xs : List Str} {t r : TM.Tree} (okt : TM.Ok t) (okr : TM.Ok r) (sp : TM.Spots xs (.lesser [t, r])) (Z : List Str) : ∃ X ∈ allX xs, topT X t = topT Z t ∧ topT X r = topT Z r := by
  obtain ⟨X, hX, k⟩ := allX_all Z sp.nd
  exact ⟨X, hX, top_congr okt fun p hp => k p ((sp.mem p).mpr (pl2.mpr (.inl hp))), top_congr okr fun p hp => k p ((sp.mem p).mpr (pl2.mpr (.inr hp)))⟩
theorem eqAll_iff {xs : List Str} {t r : TM.Tree} (okt : TM.Ok t) (okr : TM.Ok r) (sp : TM.Spots xs (.lesser [t, r])) : sameR t r (eqAll xs t r) := by
  unfold sameR eqAll
  rw [List.all_eq_true]
  constructor
  · intro h Z
    obtain ⟨X, hX, e1, e2⟩ := each_way okt okr sp Z
    rw [← e1, ← e2]
    exact tv_eq.mp (of_decide_eq_true (h X hX))
  · exact fun h X _ => decide_eq_true (tv_eq.mpr (h X))
theorem leAll_iff {xs : List Str} {t r : TM.Tree} (okt : TM.Ok t) (okr : TM.Ok r) (sp : TM.Spots xs (.lesser [t, r])) : neverR t r (leAll xs t r) := by
  unfold neverR leAll
  rw [List.all_eq_true]
  constructor
  · intro h Z
    obtain ⟨X, hX, e1, e2⟩ := each_way okt okr sp Z
    rw [← e1, ← e2]
    exact tv_le.mp (of_decide_eq_true (h X hX))
  · exact fun h X _ => decide_eq_true (tv_le.mpr (h X))
theorem iff_uniq {P : Prop} {b c : Bool} (h1 : b = true ↔ P) (h2 : c = true ↔ P) : b = c := Bool.eq_iff_iff.mpr (h1.trans h2.symm)
def d2 (b c : Bool) : PyData := .list [.bool b, .bool c]
theorem d2_ok (b c : Bool) : Shows (d2 b c) := by cases b <;> cases c <;> exact ⟨by decide, by decide +kernel, by decide +kernel⟩
/-! ### readings -/
section
variable {K : PySem.W.Frag} {a : At} {σ : L2.St} {H : Hp} {ta tb te : TE} {v u : V} {t r : TM.Tree} {E : XK} {n : Nat} {b c : Bool} {R : TM.Tree → TM.Tree → Bool → Prop}
theorem call_reprK {X : Cx} {K : PySem.W.Frag} (hK : X.K = K) (gs : X.A.guards = some []) (hu : X.A.units + 64 < cLine) : CallR X (.builtin "repr") (rRepr K) := by
  subst hK
  exact call_repr gs hu
theorem ev_pair (h1 : Ev ta σ H v) (h2 : Ev tb σ H u) (tm1 : TM.TmAt (csOf a) H v t) (tm2 : TM.TmAt (csOf a) H u r) (okt : TM.Ok t) (okr : TM.Ok r) (dt : t.depth < n) (dr : r.depth < n) (hb : R t r b) (hu : ∀ c, R t r c → c = b) : Ev (tFn (sp_pair a n R) E (tCons ta (tCons tb tNil))) σ H (.bl b) := fun H1 e Q q =>
  h1 H1 e _ fun H2 e2 => h2 H2 (e.trans e2) _ fun H3 e3 => ⟨v, u, rfl, .inl ⟨t, r, tm1.up ((e.trans e2).trans e3), tm2.up ((e.trans e2).trans e3), okt, okr, dt, dr, fun c H4 e4 hc => by rw [hu c hc]; exact q H4 ((e2.trans e3).trans e4)⟩⟩
theorem ev_pairK (h1 : Ev ta σ H v) (h2 : Ev tb σ H u) (tm1 : TM.TmAt (csOf a) H v t) (tm2 : TM.TmAt (csOf a) H u r) (okt : TM.Ok t) (okr : TM.Ok r) (dt : t.depth < n) (dr : r.depth < n) (hb : R t r b) (hu : ∀ c, R t r c → c = b) : Ev (fun σ H Q => tCons ta (tCons tb tNil) σ H fun zs H1 => zs.length = (["one", "other"] : List Str).length ∧ sp_pair a n R ((fun z => z) zs) H1 Q E) σ H (.bl b) := fun H1 e Q q =>
  h1 H1 e _ fun H2 e2 => h2 H2 (e.trans e2) _ fun H3 e3 => ⟨rfl, v, u, rfl, .inl ⟨t, r, tm1.up ((e.trans e2).trans e3), tm2.up ((e.trans e2).trans e3), okt, okr, dt, dr, fun c H4 e4 hc => by rw [hu c hc]; exact q H4 ((e2.trans e3).trans e4)⟩⟩
theorem dp_d2 {p : Addr} (h : H p = some (.lst [.bl b, .bl c])) : Dp K H (.ref p) (d2 b c) := .lst (sq_of h) (.cons (.bl b) (.cons (.bl c) .nil))
theorem ev_repr2 (h : EvL te σ H [.bl b, .bl c]) : Ev (tCB (rRepr K) (tCons te tNil)) σ H (.str (d2 b c).shown) := fun H1 e Q q => h H1 e _ fun p H2 hp e2 h2 => ⟨.ref p, d2 b c, rfl, .inr (dp_d2 h2), d2_ok b c, q H2 e2⟩
theorem ev_repr2v {p : Addr} (h : Ev te σ H (.ref p)) (hp : H p = some (.lst [.bl b, .bl c])) : Ev (tCB (rRepr K) (tCons te tNil)) σ H (.str (d2 b c).shown) := fun H1 e Q q => h H1 e _ fun H2 e2 => ⟨.ref p, d2 b c, rfl, .inr (dp_d2 ((e.trans e2) _ _ hp)), d2_ok b c, q H2 e2⟩
theorem et_same {s : Str} (ha : Ev ta σ H (.str s)) (hb : Ev tb σ H (.str s)) : EvT (tTest (tOp rNe ta tb)) σ H false := et_is (et_test (ev_op ha hb (rv_ne rfl))) (by simp)
end
section
variable {P : Program} {w : World} {K : PySem.W.Frag} {mg : Str → Option Value} {base : Heap} {a : At}
def sp__law_pair_right : Sp := fun vs H Q _ => ∃ (S : Addr → Prop) (v u : V) (t r : TM.Tree), vs = [v, u] ∧ TM.MdAt S H v t ∧ TM.MdAt S H u r ∧ TM.Ok t ∧ TM.Ok r ∧ t.depth ≤ 4 ∧ r.depth ≤ 4 ∧ t.places.length ≤ 400 ∧ r.places.length ≤ 400 ∧ ∀ H', Ex H H' → Q (.bl true) H'
theorem ok__law_pair_right (T : Txt K mg a) (F : Files P K a) : Fn P w K mg base 14 a._law_pair_right sp__law_pair_right := by
  have G__law_real := ok__law_real (P := P) (w := w) (base := base) T F 5
  have G__law_spots := ok__law_spots (P := P) (w := w) (base := base) T 5
  have G__law_all_ends := ok__law_all_ends (P := P) (w := w) (base := base) T
  have G__law_of := ok__law_of (P := P) (w := w) (base := base) T 5
  have G__law_is_shown := ok__law_is_shown (P := P) (w := w) (base := base) T 5
  obtain ⟨fds, Bs, Fs⟩ := fnB_is_same (P := P) (w := w) (mg := mg) (base := base) T 5
  obtain ⟨fdn, Bn, Fn_⟩ := fnB_is_never_above (P := P) (w := w) (mg := mg) (base := base) T 5
  obtain ⟨fdw, Bw, Fw⟩ := fnB_showing (P := P) (w := w) (mg := mg) (base := base) T 5
  have G_is_same := Bs.fn (Fs.binds fun _ _ _ _ _ _ us hl => match us, hl with | [_, _], _ => rfl) fun vs H Q E h => by obtain ⟨_, _, rfl, _⟩ := h; rfl
  have G_is_never_above := Bn.fn (Fn_.binds fun _ _ _ _ _ _ us hl => match us, hl with | [_, _], _ => rfl) fun vs H Q E h => by obtain ⟨_, _, rfl, _⟩ := h; rfl
  have G_showing := Bw.fn (Fw.binds fun _ _ _ _ _ _ us hl => match us, hl with | [_, _], _ => rfl) fun vs H Q E h => by obtain ⟨_, _, rfl, _⟩ := h; rfl
  have hbs : ∀ ws : List Value, ws.length = (["one", "other"] : List Str).length → bindArgs fds ⟨[], (["one", "other"] : List Str).zip ws⟩ = pure ((["one", "other"] : List Str).zip ws) := fun ws hl => by
    obtain ⟨oc, od, kV, doc, pm, an, cdv, ct, osl, rfl, _, _⟩ := Fs.ex
    match ws, hl with
    | [_, _], _ => rfl
  have hbn : ∀ ws : List Value, ws.length = (["one", "other"] : List Str).length → bindArgs fdn ⟨[], (["one", "other"] : List Str).zip ws⟩ = pure ((["one", "other"] : List Str).zip ws) := fun ws hl => by
    obtain ⟨oc, od, kV, doc, pm, an, cdv, ct, osl, rfl, _, _⟩ := Fn_.ex
    match ws, hl with
    | [_, _], _ => rfl
  have hbw : ∀ ws : List Value, ws.length = (["one", "other"] : List Str).length → bindArgs fdw ⟨[], (["one", "other"] : List Str).zip ws⟩ = pure ((["one", "other"] : List Str).zip ws) := fun ws hl => by
    obtain ⟨oc, od, kV, doc, pm, an, cdv, ct, osl, rfl, _, _⟩ := Fw.ex
    match ws, hl with
    | [_, _], _ => rfl
  refine T.d__law_pair_right.fn sc__law_pair_right (fun _ _ _ _ _ _ us hl => match us, hl with | [_, _], _ => rfl) (fun vs H Q E h => ?_) (fun cdv A outer s H vs Q E hg hr h => ?_)
  · obtain ⟨_, _, _, _, _, rfl, _⟩ := h
    rfl
  · obtain ⟨S, v, u, t, r, rfl, md, mdr, okt, okr, dt, dr, pt, pr, q⟩ := h
    have nd := sc__law_pair_right.nd
    have hu := hu_of hr
    have hu64 : (A.deeper _).units + 64 < cLine := hr.units
    have hu0 : (A.deeper _).units < cLine := Nat.lt_of_le_of_lt (Nat.le_add_right _ 64) hr.units
    refine ⟨_, (pss_cons (ps_par (i := 6) (j := 7) rfl nd rfl rfl (by decide) rfl rfl (pa_cons (pe_fn G__law_real hg (hr.mono (by decide)) T.d__law_real.kp T.d__law_real.m (by rfl) passL (pa_cons (pv 0) pa_nil)) (pa_cons (pe_fn G__law_real hg (hr.mono (by decide)) T.d__law_real.kp T.d__law_real.m (by rfl) passL (pa_cons (pv 1) pa_nil)) pa_nil)) (by rfl))
    (pss_cons (ps_set (i := 2) nd rfl (.inl rfl) (pe_callB (TM.cr_sortedSWN rfl) (by rfl) T.z_sorted (by decide +kernel) (pa_cons (pe_callTy (cr_setKL rfl) (by rfl) T.z_set (by decide +kernel) (pa_cons (pe_op op_catB (pe_fn G__law_spots hg (hr.mono (by decide)) T.d__law_spots.kp T.d__law_spots.m (by rfl) passL (pa_cons (pv 0) pa_nil)) (pe_fn G__law_spots hg (hr.mono (by decide)) T.d__law_spots.kp T.d__law_spots.m (by rfl) passL (pa_cons (pv 1) pa_nil))) pa_nil)) pa_nil)))
    (pss_cons (ps_setLc (i := 3) (own := [("there", 8)]) (g := gName 8) rfl (by exact nd) rfl rfl (by rfl) (pi_list (pe_fn G__law_all_ends hg (hr.mono (by decide)) T.d__law_all_ends.kp T.d__law_all_ends.m (by rfl) passL (pa_cons (pv 2) pa_nil))) (blkOk_by (own := [("there", 8)]) (N := ["term", "rival", "spots", "pairs", "due", "told", "made", "real", "there", "mine", "its"]) (sc := defScope s__law_pair_right) (by decide +kernel)) (fun _ _ _ _ _ => (pg_name (i := 8) nd rfl (.inl rfl))) (fun _ _ _ _ _ => pts_nil) (fun _ _ _ _ _ => (pe_tup (pa_cons (pe_fn G__law_of hg (hr.mono (by decide)) T.d__law_of.kp T.d__law_of.m (by rfl) passL (pa_cons (pv 0) (pa_cons (pv 8) pa_nil))) (pa_cons (pe_fn G__law_of hg (hr.mono (by decide)) T.d__law_of.kp T.d__law_of.m (by rfl) passL (pa_cons (pv 1) (pa_cons (pv 8) pa_nil))) pa_nil)))))
    (pss_cons (ps_set (i := 4) nd rfl (.inl rfl) (pe_lst (pa_cons (pe_callB (cr_all rfl) (by rfl) T.z_all (by decide +kernel) (pa_cons (pe_lc rfl (own := [("mine", 9), ("its", 10)]) (g := gTup K 2 (gCons (gName 9) (gCons (gName 10) gNil))) (by exact nd) (pi_list (pv 3)) (blkOk_by (own := [("mine", 9), ("its", 10)]) (N := ["term", "rival", "spots", "pairs", "due", "told", "made", "real", "there", "mine", "its"]) (sc := defScope s__law_pair_right) (by decide +kernel)) (fun _ _ _ _ _ => (pg_tup (by rfl) (pgs_cons (pg_name (i := 9) nd rfl (.inl rfl)) (pgs_cons (pg_name (i := 10) nd rfl (.inl rfl)) pgs_nil)))) (fun _ _ _ _ _ => pts_nil) (fun _ _ _ _ _ => (pe_cmpR op_eq (pv 9) (pv 10) (nomark _)))) pa_nil)) (pa_cons (pe_callB (cr_all rfl) (by rfl) T.z_all (by decide +kernel) (pa_cons (pe_lc rfl (own := [("mine", 9), ("its", 10)]) (g := gTup K 2 (gCons (gName 9) (gCons (gName 10) gNil))) (by exact nd) (pi_list (pv 3)) (blkOk_by (own := [("mine", 9), ("its", 10)]) (N := ["term", "rival", "spots", "pairs", "due", "told", "made", "real", "there", "mine", "its"]) (sc := defScope s__law_pair_right) (by decide +kernel)) (fun _ _ _ _ _ => (pg_tup (by rfl) (pgs_cons (pg_name (i := 9) nd rfl (.inl rfl)) (pgs_cons (pg_name (i := 10) nd rfl (.inl rfl)) pgs_nil)))) (fun _ _ _ _ _ => pts_nil) (fun _ _ _ _ _ => (pe_cmpR op_le (pv 9) (pv 10) (nomark _)))) pa_nil)) pa_nil))))
    (pss_cons (ps_if (pt_cmpR op_ne (pe_callB (call_reprK (K := K) rfl hg hu64) (by rfl) T.z_repr (by decide +kernel) (pa_cons (pe_lst (pa_cons (pe_fn G_is_same hg (hr.mono (by decide)) T.d_is_same.kp T.d_is_same.m (by rfl) passL (pa_cons (pv 6) (pa_cons (pv 7) pa_nil))) (pa_cons (pe_fn G_is_never_above hg (hr.mono (by decide)) T.d_is_never_above.kp T.d_is_never_above.m (by rfl) passL (pa_cons (pv 6) (pa_cons (pv 7) pa_nil))) pa_nil))) pa_nil)) (pe_callB (call_reprK (K := K) rfl hg hu64) (by rfl) T.z_repr (by decide +kernel) (pa_cons (pv 4) pa_nil)) (nomark _)) (pss_one (ps_ret pe_bl)) pss_nil)
    (pss_cons (ps_set (i := 5) nd rfl (.inl rfl) (pe_fn G_showing hg (hr.mono (by decide)) T.d_showing.kp T.d_showing.m (by rfl) passL (pa_cons (pv 6) (pa_cons (pv 7) pa_nil))))
    (pss_cons (ps_if (pt_val (pe_ix (ix_listK (K := K) rfl) (pv 4) pe_int (fun _ _ => rfl))) (pss_one (ps_ret (pe_and (pe_cmpR op_isN (pv 5) pe_non (nomark _)) (pe_one (pe_cmpR op_isN (pe_fnK0 (g := fun z => z) (ks := ["one", "other"]) Bw hg (hr.mono (by decide)) T.d_showing.kp T.d_showing.m (by rfl) passL hbw (fun r hl => ⟨r, hl⟩) (pk_cons (pv 6) (pk_cons (pv 7) pk_nil))) pe_non (nomark _)))))) pss_nil)
    (pss_cons (ps_if (PW.pt (pw_or (pt_not (pt_val (pe_fn G__law_is_shown hg (hr.mono (by decide)) T.d__law_is_shown.kp T.d__law_is_shown.m (by rfl) passL (pa_cons (pv 0) (pa_cons (pv 1) (pa_cons (pv 5) pa_nil)))))) (pw_or1 (pt_cmpR (op_ne_dictA hu0) (pe_fn G_showing hg (hr.mono (by decide)) T.d_showing.kp T.d_showing.m (by rfl) passL (pa_cons (pv 6) (pa_cons (pv 7) pa_nil))) (pv 5) (nomark _))))) (pss_one (ps_ret pe_bl)) pss_nil)
    (pss_cons (ps_expr (pe_dclear (pv 5)))
    (pss_cons (ps_if (pt_not (pt_val (pe_fn G__law_is_shown hg (hr.mono (by decide)) T.d__law_is_shown.kp T.d__law_is_shown.m (by rfl) passL (pa_cons (pv 0) (pa_cons (pv 1) (pa_cons (pe_fnK0 (g := fun z => z) (ks := ["one", "other"]) Bw hg (hr.mono (by decide)) T.d_showing.kp T.d_showing.m (by rfl) passL hbw (fun r hl => ⟨r, hl⟩) (pk_cons (pv 6) (pk_cons (pv 7) pk_nil))) pa_nil)))))) (pss_one (ps_ret pe_bl)) pss_nil)
    (pss_one (ps_ret (pe_cmpR op_eq (pe_callB (call_reprK (K := K) rfl hg hu64) (by rfl) T.z_repr (by decide +kernel) (pa_cons (pe_lst (pa_cons (pe_fnK0 (g := fun z => z) (ks := ["one", "other"]) Bs hg (hr.mono (by decide)) T.d_is_same.kp T.d_is_same.m (by rfl) passL hbs (fun r hl => ⟨r, hl⟩) (pk_cons (pv 6) (pk_cons (pv 7) pk_nil))) (pa_cons (pe_fnK0 (g := fun z => z) (ks := ["one", "other"]) Bn hg (hr.mono (by decide)) T.d_is_never_above.kp T.d_is_never_above.m (by rfl) passL hbn (fun r hl => ⟨r, hl⟩) (pk_cons (pv 6) (pk_cons (pv 7) pk_nil))) pa_nil))) pa_nil)) (pe_callB (call_reprK (K := K) rfl hg hu64) (by rfl) T.z_repr (by decide +kernel) (pa_cons (pv 4) pa_nil)) (nomark _)))))))))))))), ?_⟩
    refine ⟨v, rfl, S, v, t, rfl, md, okt, by omega, fun m1 H1 e1 tm1 => ⟨u, rfl, S, u, r, rfl, mdr.ex e1, okr, by omega, fun m2 H2 e2 tm2 => ⟨_, _, rfl, ?_⟩⟩⟩
    have e02 := e1.trans e2
    have md := md.ex e02
    have mdr := mdr.ex e02
    have tm1 := tm1.up e2
    clear e1 e2
    have spt : ∀ {i : Nat} {v : V} {t : TM.Tree} {σ : L2.St}, σ[i]? = some (some v) → TM.MdAt S H2 v t → TM.Ok t → t.depth < 5 → ∀ H1, Ex H2 H1 → ∀ Q : VK, (∀ p (fs : List Str) H2, H1 p = none → Ex H1 H2 → H2 p = some (.lst (fs.map V.str)) → fs.length ≤ 400 → (∀ n, n ∈ fs ↔ n ∈ t.places) → Q (.ref p) H2) → tFn (sp__law_spots 5) E0 (tCons (tVar i) tNil) σ H1 Q := fun hσ md ok hd H1 e Q q => ⟨_, hσ, S, _, _, rfl, md.ex e, ok, hd, fun p xs H2 hp e2 h2s h2 => q p xs H2 hp e2 h2 (by have := h2s.len ok; omega) h2s.mem⟩
    refine ev_spots2 (K := K) (P := P) (w := w) okt okr (ev_cat2 (spt rfl md okt (by omega)) (spt rfl mdr okr (by omega))) H2 (Ex.refl _) _ fun p xs H3 hp e3 sp h3 => ?_
    clear spt
    have l8 := sp.len (ok2 okt okr)
    have md := md.ex e3
    have mdr := mdr.ex e3
    refine ⟨.ref p, rfl, p, xs, rfl, h3, sp.nd, l8, fun f ds H4 hf e4 h4 da => ⟨f, rfl, ⟨_, sq_of h4⟩, ?_⟩⟩
    have md := md.ex e4
    have mdr := mdr.ex e4
    have nX : (allX xs).length ≤ 256 := by
      rw [allX_len]
      exact Nat.le_trans (Nat.pow_le_pow_right (by decide) l8) (by decide)
    have pin : ∀ x ∈ t.places, x ∈ xs := fun x hx => (sp.mem x).mpr (pl2.mpr (.inl hx))
    have pinr : ∀ x ∈ r.places, x ∈ xs := fun x hx => (sp.mem x).mpr (pl2.mpr (.inr hx))
    refine lcL_inv (K := K) (a := f) (ys := ds) (sq_of h4) (by rw [da.1]; omega) (fun _ => rfl) (fun D i acc H' => Ex H4 H' ∧ ∃ ts : List Addr, acc = ts.map V.ref ∧ ∀ (k : Nat) (c : Addr) (X : List Str), ts[k]? = some c → (allX xs)[k]? = some X → H' c = some (.tup [.int (tv X t), .int (tv X r)])) (fun D hD => ⟨Ex.new hD, [], rfl, fun k c X h _ => by simp at h⟩) (fun D i acc H' hD w => sq_of (w.1 _ _ h4)) ?_ ?_
    · rintro D i x acc H' hD hi hlen ⟨eH, ts, rfl, hts⟩ hacc Q' k
      have hi2 : i < (allX xs).length := da.1 ▸ (List.getElem?_eq_some_iff.mp hi).1
      have hX : (allX xs)[i]? = some (allX xs)[i] := List.getElem?_eq_getElem hi2
      obtain ⟨d, rfl, hd⟩ := da.2 i _ _ hi hX
      generalize (allX xs)[i] = X at *
      refine ⟨v, rfl, .ref d, rfl, S, v, t, d, asg X xs, X, rfl, md.ex eH, okt, by omega, eH _ _ hd, asg_th sp.nd pin, fun H5 e5 => ⟨u, rfl, .ref d, rfl, S, u, r, d, asg X xs, X, rfl, mdr.ex (eH.trans e5), okr, by omega, e5 _ _ (eH _ _ hd), asg_th sp.nd pinr, fun H6 e6 => ⟨(by decide : 2 ≤ sizeLine), fun c hc => ?_⟩⟩⟩
      have e56 : Ex H' (upd H6 c (.tup [.int (tv X t), .int (tv X r)])) := (e5.trans e6).trans (Ex.new hc)
      refine k (.ref c) _ (e56 _ _ hacc) ⟨(eH.trans e56).mut hD, ts ++ [c], by rw [List.map_append]; rfl, fun j c' X' h1 h2 => ?_⟩
      have Dc : c ≠ D := fun z => by rw [z, (e5.trans e6) _ _ hacc] at hc; cases hc
      rcases get_snoc h1 with z1 | ⟨k1, rfl⟩
      · have hc' := hts j c' X' z1 h2
        rw [upd_ne (fun z => by rw [z, hacc] at hc'; cases hc')]
        exact e56 _ _ hc'
      · rw [List.length_map] at hlen
        rw [k1, hlen, hX] at h2
        cases h2
        rw [upd_ne Dc]
        exact upd_same
    rintro D acc H5 hD hlen ⟨e45, ts, rfl, hts⟩ hacc
    rw [da.1, List.length_map] at hlen
    have md := md.ex e45
    have mdr := mdr.ex e45
    have e25 := (e3.trans e4).trans e45
    have tm1 := tm1.up e25
    have tm2 := tm2.up e25
    have e05 := e02.trans e25
    clear e02 e3 e4 e45 h3 h4 da hp hf hD e25
    have pairs : ∀ {te : TE} {g : List Str → Bool}, (∀ H', Ex H5 H' → ∀ X, Ev te ((((wipe ([some v, some u, some (.ref p), some (.ref D), none, none, some m1, some m2, none, none, none] : L2.St) [9, 10]).set 9 (some (.int (tv X t)))).set 10 (some (.int (tv X r))))) H' (.bl (g X))) → Ev (tCB (rAll K) (tCons (tLc (iList K (tVar 3)) (gTup K 2 (gCons (gName 9) (gCons (gName 10) gNil))) tYes te [9, 10]) tNil)) [some v, some u, some (.ref p), some (.ref D), none, none, some m1, some m2, none, none, none] H5 (.bl ((allX xs).all g)) := fun {te g} h => by
      refine ev_is (ev_all (K := K) (bs := (allX xs).map g) (el_lpair (ts := ts) (xs := (allX xs).map fun X => V.int (tv X t)) (ys := (allX xs).map fun X => V.int (tv X r)) (ev_var rfl) hacc (fun i c x y h1 h2 h3 => ?_) (by rw [List.length_map]; exact hlen) (by simp) (by simp) (by rw [List.length_map]; omega) (fun _ _ => rfl) fun i x y z H' e' h1 h2 h3 => ?_)) (by rw [List.all_map]; rfl)
      · rw [List.getElem?_map] at h2 h3
        obtain ⟨X, hX, rfl⟩ := Option.map_eq_some_iff.mp h2
        rw [hX] at h3
        cases h3
        exact hts i c X h1 hX
      · rw [List.map_map, List.getElem?_map] at h3
        rw [List.getElem?_map] at h1 h2
        obtain ⟨X, hX, rfl⟩ := Option.map_eq_some_iff.mp h1
        rw [hX] at h2 h3
        cases h2
        cases h3
        exact h H' e' X
    refine q_asgL (el_lst (ea_cons (pairs (g := fun X => decide (tv X t = tv X r)) fun H' _ X => ev_of (ev_op (ev_var rfl) (ev_var rfl) (rv_eq rfl)) (by simp)) (ea_cons (pairs (g := fun X => decide (tv X t ≤ tv X r)) fun H' _ X => ev_op (ev_var rfl) (ev_var rfl) rv_I0) ea_nil)) (by show 2 ≤ 100000; decide)) fun du H6 hdu e6 h6 => ?_
    clear pairs hts hacc hlen
    have q1 := eqAll_iff okt okr sp
    have q2 := leAll_iff okt okr sp
    have h6 : H6 du = some (.lst [.bl (eqAll xs t r), .bl (leAll xs t r)]) := h6
    generalize eqAll xs t r = b1 at *
    generalize leAll xs t r = b2 at *
    have md := md.ex e6
    have mdr := mdr.ex e6
    have tm1 := tm1.up e6
    have tm2 := tm2.up e6
    have e06 := e05.trans e6
    clear e05 e6 hdu
    have u1 : ∀ c, sameR t r c → c = b1 := fun c h => iff_uniq h q1
    have u2 : ∀ c, neverR t r c → c = b2 := fun c h => iff_uniq h q2
    have dt5 : t.depth < 5 := by omega
    have dr5 : r.depth < 5 := by omega
    refine q_when (b := false) (et_same (ev_repr2 (el_lst (ea_cons (ev_pair (ev_var rfl) (ev_var rfl) tm1 tm2 okt okr dt5 dr5 q1 u1) (ea_cons (ev_pair (ev_var rfl) (ev_var rfl) tm1 tm2 okt okr dt5 dr5 q2 u2) ea_nil)) (by show 2 ≤ 100000; decide))) (ev_repr2v (ev_var rfl) h6)) (fun z => nomatch z) fun _ H7 e7 => ?_
    have md := md.ex e7
    have mdr := mdr.ex e7
    have tm1 := tm1.up e7
    have tm2 := tm2.up e7
    have e07 := e06.trans e7
    have h7 := e7 _ _ h6
    clear e06 e7 h6
    have b2F : ∀ {m : List Str}, topT m t = true → topT m r = false → b2 = false := fun {m} t1 t0 => by
      cases hb : b2 with
      | false => rfl
      | true =>
        rw [q2.mp hb m t1] at t0
        cases t0
    have ysE : ∀ {ys : List Str}, TM.Spots ys (.lesser [t, r]) → xs = ys := fun h => sp.unique (ok2 okt okr) h
    refine ⟨m1, rfl, m2, rfl, m1, m2, rfl, .inl ⟨t, r, tm1, tm2, okt, okr, dt5, dr5, dt, dr, pt, pr, fun nv H8 e8 => ?_, fun d ys m H8 hd e8 spy t1 t0 hab h8 => ?_⟩⟩
    · have hb : b2 = true := q2.mpr nv
      subst hb
      refine q_when (b := true) (et_B (ev_op (ev_var rfl) ev_c (rv_ixL (sq_of (e8 _ _ h7)) (i := 1) rfl))) (fun _ H9 e9 => ?_) fun z => nomatch z
      have e79 := e8.trans e9
      exact s_ret (v := .bl true) (ev_andV (a := true) (b := true) (fun H1 e Q' q' => ⟨.non, rfl, rfl, q' H1 (Ex.refl _)⟩) fun _ => fun H1 e Q' q' => ⟨m1, rfl, m2, rfl, rfl, m1, m2, rfl, .inl ⟨t, r, tm1.up (e79.trans e), tm2.up (e79.trans e), okt, okr, dt5, dr5, dt, dr, pt, pr, fun _ H2 e2 => ⟨rfl, q' H2 e2⟩, fun d ys m H2 hd e2 spy t1 t0 hab h2 => nomatch b2F t1 t0⟩⟩) fun H10 e10 => q H10 ((e07.trans e79).trans e10)
    · have hb : b2 = false := b2F t1 t0
      have ey := ysE spy
      subst hb ey
      refine q_when (b := false) (et_B (ev_op (ev_var rfl) ev_c (rv_ixL (sq_of (e8 _ _ h7)) (i := 1) rfl))) (fun z => nomatch z) fun _ H9 e9 => ?_
      have e79 := e8.trans e9
      have h9 := e9 _ _ h8
      have shn : ∀ (σ : L2.St) {E : XK} {i j k : Nat}, σ[i]? = some (some v) → σ[j]? = some (some u) → σ[k]? = some (some (.ref d)) → Ev (tFn (sp__law_is_shown 5) E (tCons (tVar i) (tCons (tVar j) (tCons (tVar k) tNil)))) σ H9 (.bl true) := fun σ E i j k hi hj hk => ev_fn (ea_cons (ev_var hi) (ea_cons (ev_var hj) (ea_cons (ev_var hk) ea_nil))) fun H1 e Q' q' E' => ⟨S, v, u, t, r, d, m, xs, rfl, md.ex (e79.trans e), mdr.ex (e79.trans e), okt, okr, dt5, dr5, e _ _ h9, sp, t1, t0, q'⟩
      refine q_when (b := false) (et_is (et_or (et_not (et_B (shn _ rfl rfl rfl))) fun _ => et_test (b := false) fun H1 e Q' q' => ⟨m1, rfl, m2, rfl, m1, m2, rfl, .inl ⟨t, r, tm1.up (e79.trans e), tm2.up (e79.trans e), okt, okr, dt5, dr5, dt, dr, pt, pr, fun nv => (nomatch q2.mpr nv), fun d' ys' m' H2 hd' e2 spy' t1' t0' hab' h2 => ?_⟩⟩) rfl) (fun z => nomatch z) fun _ H10 e10 => ?_
      · have em : m' = m := by
          obtain ⟨F1, G1, f1, g1, a1⟩ := hab
          obtain ⟨F2, G2, f2, g2, a2⟩ := hab'
          rw [f2.unique f1, g2.unique g1, a1] at a2
          exact (Option.some.inj a2).symm
        have ey := ysE spy'
        subst em ey
        exact ⟨.ref d, rfl, d', d, _, _, rfl, rfl, h2, e2 _ _ (e _ _ h9), rfl, fun kv hkv => ⟨look_of (keys_top sp.nd) kv hkv, by obtain ⟨x, _, rfl⟩ := List.mem_map.mp hkv; rfl⟩, q' H2 e2⟩
      · have h10 := e10 _ _ h9
        refine ⟨.ref d, rfl, .inr (.inr (.inl ⟨rfl, .inl ⟨_, h10⟩⟩)), d, _, rfl, rfl, h10, ?_⟩
        have e711 : Ex H7 (upd H10 d (.dK [])) := fun b o z => by
          rw [upd_ne (ne_of_none z hd)]
          exact (e79.trans e10) _ _ z
        generalize upd H10 d (.dK []) = H11 at *
        clear shn h10 h9 h8 e10 e79 e8 e9 hab
        dsimp only
        refine q_when (b := false) (et_is (et_not (a := true) (et_B fun H1 e Q' q' => ⟨v, rfl, u, rfl, m1, rfl, m2, rfl, rfl, m1, m2, rfl, .inl ⟨t, r, tm1.up (e711.trans e), tm2.up (e711.trans e), okt, okr, dt5, dr5, dt, dr, pt, pr, fun nv => (nomatch q2.mpr nv), fun d' ys' m' H2 hd' e2 spy' t1' t0' hab' h2 => ⟨S, v, u, t, r, d', m', ys', rfl, md.ex ((e711.trans e).trans e2), mdr.ex ((e711.trans e).trans e2), okt, okr, dt5, dr5, h2, spy', t1', t0', fun H3 e3 => q' H3 (e2.trans e3)⟩⟩⟩)) rfl) (fun z => nomatch z) fun _ H12 e12 => ?_
        have e712 := e711.trans e12
        exact s_ret (v := .bl true) (ev_is (ev_op (ev_repr2 (el_lst (ea_cons (ev_pairK (ev_var rfl) (ev_var rfl) (tm1.up e712) (tm2.up e712) okt okr dt5 dr5 q1 u1) (ea_cons (ev_pairK (ev_var rfl) (ev_var rfl) (tm1.up e712) (tm2.up e712) okt okr dt5 dr5 q2 u2) ea_nil)) (by show 2 ≤ 100000; decide))) (ev_repr2v (ev_var rfl) (e712 _ _ h7)) (rv_eq rfl)) (by rw [decide_eq_true rfl])) fun H13 e13 => q H13 ((e07.trans e712).trans e13)
end
end K16
namespace K16
open PySem PySem.Spec PyProof.Rows L2 LG Evl LamX FM TB
theorem takesLen {X : Cx} {W : WX} (t : Takes X W) : Takes X (fun cls d σ H => σ.length = X.N.length → W cls d σ H) := fun u s' ⟨a, B, sI, pins, σ, H, cls, d, e, I, nb, up, sky, na, os, ag, w⟩ =>
  t u s' ⟨a, B, sI, pins, σ, H, cls, d, e, I, nb, up, sky, na, os, ag, w I.len⟩
theorem pss_by {X : Cx} {st : List Stmt} {t : TS} (h : ∀ D σ H, t D σ H → ∃ u, PSs X st u ∧ u D σ H) : PSs X st t := ⟨fun pins s σ H D I hh => let ⟨_, h1, h2⟩ := h D σ H hh; h1.run pins s σ H D I h2⟩
def sTold (C : Addr) : Addr → Value → Option Addr → TS := fun a0 cls d D σ H => ∃ dd v, cls = .ref C ∧ d = some dd ∧ σ[4]? = some (some (.ref a0)) ∧ H dd = some (.xd [("value", v)]) ∧
  ∀ p, H p = none → p ≠ sysModules → D.nx (σ.set 3 (some (.ref p))) (upd H p (.lst [.str "term", v, .bl true]))
theorem lk (v : V) : List.lookup ("value" : Str) [(("value" : Str), v)] = some v := by simp
theorem kit_sub {K : PySem.W.Frag} {C D : Addr} (g : OexC K D) (x : ExcC K D) (h : PySem.W.subIn K (.ref C) (.ref D) = some true) : PySem.W.kitOne K (.ref C) (.ref D) = some true := by
  unfold PySem.W.kitOne
  split
  · rfl
  · obtain ⟨cd, hc, _⟩ := PySem.W.any_some x.hd
    show (if ((PySem.W.clsIn K D).isSome && PySem.W.typeIn K (.ref D) == some (.type "type")) = true then PySem.W.subIn K (.ref C) (.ref D) else none) = some true
    rw [if_pos (by rw [hc, g.tyC]; rfl)]
    exact h

theorem tm_upk {c : TM.Cs} {H H' : Hp} {v : V} {t : TM.Tree} (ki : ∀ b C dx fs, H b = some (.ins C dx fs) → H' b = some (.ins C dx fs)) (kt : ∀ b xs, H b = some (.tup xs) → H' b = some (.tup xs)) (h : TM.TmAt c H v t) : TM.TmAt c H' v t := by
  induction h with
  | place h => exact .place (ki _ _ _ _ h)
  | endd h => exact .endd (ki _ _ _ _ h)
  | lesser h hp hl _ ih => exact .lesser (ki _ _ _ _ h) (kt _ _ hp) hl ih
  | greater h hp hl _ ih => exact .greater (ki _ _ _ _ h) (kt _ _ hp) hl ih
/-! ### repr of data with terms in it -/
def WTx (a : At) (H : Hp) (v : V) (t : Str) : Prop := ∃ tr, TM.TmAt (csOf a) H v tr ∧ TM.Ok tr ∧ tr.depth ≤ 5 ∧ t = tr.repr
theorem wt_up {a : At} : ∀ H H' v t, Ex H H' → WTx a H v t → WTx a H' v t := fun _ _ _ _ e ⟨tr, h1, h2, h3, h4⟩ => ⟨tr, h1.up e, h2, h3, h4⟩
theorem wt_lk {a : At} : ∀ H d u ps od v t, DU H d u ps → WTx a H v t → WTx a (upd H d (.frz od u)) v t := fun H d u ps od v t hd ⟨tr, h1, h2, h3, h4⟩ => by
  have ne : ∀ {b o}, H b = some o → (∀ k, o ≠ .dK k) → (∀ φ, o ≠ .ext φ) → b ≠ d := fun {b o} e n1 n2 z => by
    rw [z, hd.at] at e
    cases hd with
    | k _ => exact n1 _ (Option.some.inj e).symm
    | o _ => exact n2 _ (Option.some.inj e).symm
  exact ⟨tr, tm_upk (fun b C dx fs e => by rw [upd_ne (ne e (fun _ z => by cases z) fun _ z => by cases z)]; exact e) (fun b xs e => by rw [upd_ne (ne e (fun _ z => by cases z) fun _ z => by cases z)]; exact e) h1, h2, h3, h4⟩
section
variable {P : Program} {w : World} {K : PySem.W.Frag} {mg : Str → Option Value} {base : Heap} {a : At}
theorem okR_Term_repr (T : Txt K mg a) (n : Nat) : ∃ fd, FnOk P w K mg base CX0 (n + 3) a.m_Term_repr fd ["self"] (sp_term_repr a n) ∧ Binds K fd ["self"] [] := by
  obtain ⟨fd1, F1, b1⟩ := ok_term_repr (P := P) (w := w) (mg := mg) (base := base) T n
  obtain ⟨fd, F⟩ := T.m_Term_repr.F
  refine ⟨fd, F.ok sc_Term_repr (fun vs H Q E h => ?_) (fun cdv A outer s H vs Q E hr h => ?_), F.binds fun _ _ _ _ _ _ us hl => match us, hl with | [_], _ => rfl⟩
  · obtain ⟨_, _, rfl, _⟩ := h
    rfl
  · obtain ⟨v, t, rfl, ht, ok, hd, q⟩ := h
    refine ⟨_, pss_one (ps_ret (pe_callTy SkE.call_str_str (by rfl) T.z_str (by decide +kernel) (pa_cons (pe_call F1 hr (by rfl) T.d_term_repr.m T.d_term_repr.kp b1 .nil pass0 (pa_cons (pv 0) pa_nil)) pa_nil))), ?_⟩
    exact ⟨v, rfl, v, t, rfl, ht, ok, hd, fun H' e => ⟨_, rfl, q H' e⟩⟩
end
section
variable {X : Cx} {a : At} {E : XK}
theorem wt_rep (T : Txt X.K X.mg a) (F : Files X.prog X.K a) (hx : Passes CX0 X (fun _ _ _ => False)) : ∀ H v t, WTx a H v t → RepI X 9 [] H v t := fun H v t ⟨tr, h1, h2, h3, h4⟩ => by
  obtain ⟨x, C, dx, fs, rfl, hH, hc, _⟩ := tm_at T h1
  obtain ⟨fd, Fd, hb⟩ := okR_Term_repr (P := X.prog) (w := X.w) (mg := X.mg) (base := X.base) T 6
  subst h4
  exact rep_own (cls_of T F hc).repr T.m_Term_repr.fn Fd hb hx hH fun H1 e Q q => ⟨.ref x, tr, rfl, h1.up e, rep_ok h2 h3, by omega, fun H2 e2 => q H2 e2⟩
theorem call_reprW {K : PySem.W.Frag} {n : Nat} (hK : X.K = K) (T : Txt X.K X.mg a) (F : Files X.prog X.K a) (hx : Passes CX0 X (fun _ _ _ => False)) (gs : X.A.guards = some []) (room : Room (9 + 2 * n + 2) X.A) : CallR X (.builtin "repr") (rReprX K (WTx a) n) :=
  call_reprX hK wt_lk (wt_rep T F hx) gs room
end
def told3 (tx : Str) : Str := listText [reprText "term", tx, "True"]
theorem told3_rz {K : PySem.W.Frag} {a : At} {H0 H : Hp} {l : Addr} {u : V} {tx : Str} {L : Nat} (hn : H0 l = none) (e : Ex H0 H) (h : H l = some (.lst [.str "term", u, .bl true])) (hz : RzB K (WTx a) 2 H0 u tx L) (hL : 10 ≤ L) : RzT K (WTx a) 2 H (.ref l) (told3 tx) ∧ (told3 tx).length ≤ 3 * (L + 2) + 2 := by
  have it : ∀ (i : Nat) (x : V) (t : Str), [V.str "term", u, .bl true][i]? = some x → [reprText "term", tx, "True"][i]? = some t → RzB K (WTx a) 2 H0 x t L := fun i x t h1 h2 => by
    match i, h1, h2 with
    | 0, h1, h2 => cases h1; cases h2; exact rzb_leaf (fun bs => lf_str (by decide +kernel)) (Nat.le_trans (by decide +kernel : (reprText ("term" : Str)).length ≤ 10) hL)
    | 1, h1, h2 => cases h1; cases h2; exact hz
    | 2, h1, h2 => cases h1; cases h2; exact rzb_leaf (fun bs => lf_bl (b := true)) (Nat.le_trans (by decide +kernel : (("True" : Str)).length ≤ 10) hL)
    | i + 3, h1, h2 => simp at h1
  have z := rzb_lst (n := 2) (wt_up (a := a)) hn e h rfl it
  refine ⟨?_, z.len⟩
  obtain ⟨as, h1, h2⟩ := rz_many (xs := [V.str "term", u, .bl true]) (ts := [reprText "term", tx, "True"]) rfl fun i x t a b => (it i x t a b).ex
  exact .lst h rfl (as := as) (fun i x t a b => let ⟨bs, z1, z2⟩ := h2 i x t a b; (z2.more z1).up wt_up e) fun z => h1 l z hn
section
variable {P : Program} {w : World} {K : PySem.W.Frag} {mg : Str → Option Value} {base : Heap} {a : At}
def sp__law_asked (a : At) : Sp := fun vs H Q E => ∃ i v u, vs = [.int i, v, u] ∧ (((∃ k, Kn H v k) ∧ Errs a.c_InvalidTerm v H E) ∨ ((∃ t, TM.TmAt (csOf a) H v t) ∧ (∃ k, Kn H u k) ∧ Errs a.c_InvalidTerm u H E))
theorem fn_is_same (T : Txt K mg a) (n : Nat) : Fn P w K mg base (n + 5) a.is_same (sp_pair a n sameR) := by
  obtain ⟨fd, B, F⟩ := fnB_is_same (P := P) (w := w) (mg := mg) (base := base) T n
  exact B.fn (F.binds fun _ _ _ _ _ _ us hl => match us, hl with | [_, _], _ => rfl) fun vs H Q E h => by obtain ⟨_, _, rfl, _⟩ := h; rfl
theorem fn_is_never_above (T : Txt K mg a) (n : Nat) : Fn P w K mg base (n + 5) a.is_never_above (sp_pair a n neverR) := by
  obtain ⟨fd, B, F⟩ := fnB_is_never_above (P := P) (w := w) (mg := mg) (base := base) T n
  exact B.fn (F.binds fun _ _ _ _ _ _ us hl => match us, hl with | [_, _], _ => rfl) fun vs H Q E h => by obtain ⟨_, _, rfl, _⟩ := h; rfl
theorem fn_showing (T : Txt K mg a) (n : Nat) : Fn P w K mg base (n + 5) a.showing (sp_showing a n) := by
  obtain ⟨fd, B, F⟩ := fnB_showing (P := P) (w := w) (mg := mg) (base := base) T n
  exact B.fn (F.binds fun _ _ _ _ _ _ us hl => match us, hl with | [_, _], _ => rfl) fun vs H Q E h => by obtain ⟨_, _, rfl, _⟩ := h; rfl
theorem ok__law_asked (T : Txt K mg a) : Fn P w K mg base 6 a._law_asked (sp__law_asked a) := by
  have G_is_same := fn_is_same (P := P) (w := w) (base := base) T 0
  have G_is_never_above := fn_is_never_above (P := P) (w := w) (base := base) T 0
  have G_showing := fn_showing (P := P) (w := w) (base := base) T 0
  refine T.d__law_asked.fn sc__law_asked (fun _ _ _ _ _ _ us hl => match us, hl with | [_, _, _], _ => rfl) (fun vs H Q E h => ?_) (fun cdv A outer s H vs Q E hg hr h => ?_)
  · obtain ⟨_, _, _, rfl, _⟩ := h
    rfl
  · obtain ⟨i, v, u, rfl, h⟩ := h
    refine ⟨_, (pss_cons (ps_if (pt_cmpR op_eq (pv 0) pe_int (nomark _)) (pss_one (ps_ret (pe_fn (E := E) G_is_same hg (hr.mono (by decide)) T.d_is_same.kp T.d_is_same.m (by rfl) passC (pa_cons (pv 1) (pa_cons (pv 2) pa_nil))))) pss_nil)
    (pss_one (ps_ret (pe_ifExp (pt_cmpR op_eq (pv 0) pe_int (nomark _)) (pe_fn (E := E) G_is_never_above hg (hr.mono (by decide)) T.d_is_never_above.kp T.d_is_never_above.m (by rfl) passC (pa_cons (pv 1) (pa_cons (pv 2) pa_nil))) (pe_fn (E := E) G_showing hg (hr.mono (by decide)) T.d_showing.kp T.d_showing.m (by rfl) passC (pa_cons (pv 1) (pa_cons (pv 2) pa_nil))))))), ?_⟩
    have up : ∀ {H1}, Ex H H1 → (((∃ k, Kn H1 v k) ∧ Errs a.c_InvalidTerm v H1 E) ∨ ((∃ t, TM.TmAt (csOf a) H1 v t) ∧ (∃ k, Kn H1 u k) ∧ Errs a.c_InvalidTerm u H1 E)) := fun e => h.imp (fun ⟨⟨k, z⟩, err⟩ => ⟨⟨k, z.up e⟩, err.up e⟩) fun ⟨⟨t, z⟩, ⟨k, y⟩, err⟩ => ⟨⟨t, z.up e⟩, ⟨k, y.up e⟩, err.up e⟩
    refine q_when (b := decide (V.int i = V.int 0)) (et_test (ev_op (ev_var rfl) ev_c (rv_eq rfl))) (fun _ H1 e1 => ⟨v, rfl, u, rfl, v, u, rfl, .inr (up e1)⟩) fun _ H1 e1 => ?_
    refine s_retIf (b := decide (V.int i = V.int 1)) (et_test (ev_op (ev_var rfl) ev_c (rv_eq rfl))) (fun _ H2 e2 => ⟨v, rfl, u, rfl, v, u, rfl, .inr (up (e1.trans e2))⟩) fun _ H2 e2 => ⟨v, rfl, u, rfl, v, u, rfl, .inr (up (e1.trans e2))⟩
def sp__law_told (K : PySem.W.Frag) (a : At) : Sp := fun vs H Q _ => ∃ i v u x tx, vs = [.int i, v, u] ∧ ((x = v ∧ ∃ k, Kn H v k) ∨ (x = u ∧ (∃ t, TM.TmAt (csOf a) H v t) ∧ ∃ k, Kn H u k)) ∧ RzB K (WTx a) 2 H x tx 30000 ∧ ∀ H', Ex H H' → Q (.str (told3 tx)) H'
theorem ok__law_told (T : Txt K mg a) (F : Files P K a) : Fn P w K mg base 16 a._law_told (sp__law_told K a) := by
  have G__law_asked := ok__law_asked (P := P) (w := w) (base := base) T
  refine T.d__law_told.fn sc__law_told (fun _ _ _ _ _ _ us hl => match us, hl with | [_, _, _], _ => rfl) (fun vs H Q E h => ?_) (fun cdv A outer s H vs Q E hg hr h => ?_)
  · obtain ⟨_, _, _, _, _, rfl, _⟩ := h
    rfl
  · obtain ⟨i, v, u, x, tx, rfl, hb, rz, q⟩ := h
    have nd := sc__law_told.nd
    have hu : (A.deeper _).units + 64 < cLine := hr.units
    have exm : PySem.W.exmOne K (.ref a.c_InvalidTerm) (.ref a.c_InvalidTerm) = some true := PySem.W.exm_ref T.e_InvalidTerm.o.exC T.e_InvalidTerm.is.hd T.e_InvalidTerm.o.tyC T.x_InvalidTerm_InvalidTerm
    refine ⟨_, pss_cons (ps_set (i := 3) nd rfl (.inl rfl) (pe_lst (pa_cons pe_str pa_nil)))
    (pss_cons (ps_try_manyAs (n := "e") (i := 4) (Wout := fun _ _ _ _ => False) (tb := fun W D σ H => ∃ Ech : XK, (∀ cls d σ' H', Ech cls d H' → σ'.length = 5 → W cls d σ' H') ∧ tAsg (tLst (tCons (tC (.str "done")) (tCons (tFn (sp__law_asked a) Ech (tCons (tVar 0) (tCons (tVar 1) (tCons (tVar 2) tNil)))) tNil))) (gName 3) D σ H) rfl rfl nd rfl rfl LamX.takes0 (fun W pn xe tk _ => pss_by fun D σ H1 hh => ?_)
      (.cons (c := .ref a.c_InvalidTerm) (ts := sTold a.c_InvalidTerm) ⟨by rfl, by decide, .inl T.e_InvalidTerm.m⟩ (fun a0 oe cls d pn hz hf => pss_by fun D σ HZ ⟨dd, v, e1, e2, hσ, hd, qq⟩ => by
        subst e1 e2
        refine ⟨_, pss_one (ps_set (i := 3) nd rfl (.inl rfl) (pe_lstB (pa_cons pe_str (pa_cons (pe_xf T.e_InvalidTerm.xf T.e_InvalidTerm.v hz hf (pv 4)) (pa_cons (pe_callB (call_isE2 T.e_InvalidTerm.is hz hf) (by rfl) T.z_isinstance (by decide +kernel) (pa_cons (pv 4) (pa_cons (pe_glob (v := .ref a.c_HeldError) (by rfl) T.e_HeldError.m rfl) pa_nil))) pa_nil))))), ?_⟩
        exact ⟨.ref a0, hσ, rfl, rfl, dd, [("value", v)], v, rfl, hd, lk v, .ref a0, hσ, ⟨_, hd⟩, .ref a.c_HeldError, .ref a.c_HeldError, true, rfl, fun _ e => e, kit_sub T.e_HeldError.o T.e_HeldError.is T.x_InvalidTerm_HeldError, (by decide : 3 ≤ sizeLine), qq⟩)
      .nil))
    (pss_one (ps_ret (pe_callB (call_reprW (K := K) (n := 2) rfl T F pass0 hg (hr.mono (by decide))) (by rfl) T.z_repr (by decide +kernel) (pa_cons (pv 3) pa_nil))))), ?_⟩
    · obtain ⟨Ech, hW, h1⟩ := hh
      exact ⟨_, pss_one (ps_set (i := 3) nd rfl (.inl rfl) (pe_lst (pa_cons pe_str (pa_cons (pe_fn (E := Ech) G__law_asked hg (hr.mono (by decide)) T.d__law_asked.kp T.d__law_asked.m (by rfl) (passes_call (takesLen tk) fun cls d σ' H' e hl => hW cls d σ' H' e hl) (pa_cons (pv 0) (pa_cons (pv 1) (pa_cons (pv 2) pa_nil)))) pa_nil)))), h1⟩
    · refine ⟨(by decide : 1 ≤ sizeLine), fun p0 hp0 => ?_⟩
      have e0 : Ex H (upd H p0 (.lst [.str "other"])) := Ex.new hp0
      generalize upd H p0 (.lst [.str "other"]) = H0 at *
      refine ⟨fun cls d H' => ∃ dd, cls = .ref a.c_InvalidTerm ∧ d = some dd ∧ Ex H0 H' ∧ H' dd = some (.xd [("value", x)]), fun cls d σ' H' he hl => ?_, .int i, rfl, v, rfl, u, rfl, i, v, u, rfl, ?_⟩
      · obtain ⟨dd, rfl, rfl, e1, hdd⟩ := he
        obtain ⟨s0, s1, s2, s3, s4, rfl⟩ : ∃ s0 s1 s2 s3 s4, σ' = [s0, s1, s2, s3, s4] := match σ', hl with | [s0, s1, s2, s3, s4], _ => ⟨s0, s1, s2, s3, s4, rfl⟩
        refine ⟨true, exm, fun _ a0 _ => ⟨dd, x, rfl, rfl, rfl, hdd, fun p hp hm => ?_⟩, (fun z => nomatch z)⟩
        have e2 := (e0.trans e1).trans (Ex.new (o := .lst [.str "term", x, .bl true]) hp)
        obtain ⟨z1, z2⟩ := told3_rz (fresh_back (e0.trans e1) hp) e2 upd_same rz (by decide)
        exact ⟨.ref p, rfl, .ref p, _, rfl, z1, sz_of (by omega), fun H9 e9 => q H9 (e2.trans e9)⟩
      · have err : Errs a.c_InvalidTerm x H0 (fun cls d H' => ∃ dd, cls = .ref a.c_InvalidTerm ∧ d = some dd ∧ Ex H0 H' ∧ H' dd = some (.xd [("value", x)])) := fun d H' e hdd => ⟨d, rfl, rfl, e, hdd⟩
        rcases hb with ⟨rfl, k, kn⟩ | ⟨rfl, ⟨t, tm⟩, k, kn⟩
        · exact .inl ⟨⟨k, kn.up e0⟩, err⟩
        · exact .inr ⟨⟨t, tm.up e0⟩, ⟨k, kn.up e0⟩, err⟩
end
end K16
namespace K16
open PySem PySem.Spec PyProof.Rows L2 LG Evl FM TB
theorem tm_px {a : At} {p : Addr} {H H' : Hp} {v : V} {t : TM.Tree} (po : Po p H) (px : Px p H H') (h : TM.TmAt (csOf a) H v t) : TM.TmAt (csOf a) H' v t := let ⟨_, _, hp, _⟩ := po; h.upW hp fun b o bn _ e => px.1 b o bn e
def Mk1 (c : Addr) (H : Hp) : Hp := fun b => if b = c then none else H b
theorem mk1_ex {c : Addr} {H : Hp} : Ex (Mk1 c H) H := fun b o h => by
  unfold Mk1 at h
  by_cases z : b = c
  · rw [if_pos z] at h; cases h
  · rw [if_neg z] at h; exact h
theorem mk1_at {c b : Addr} {H : Hp} {o : HO} (hb : b ≠ c) (h : H b = some o) : Mk1 c H b = some o := by
  unfold Mk1
  rw [if_neg hb]
  exact h
theorem mk1_none {c : Addr} {H : Hp} : Mk1 c H c = none := if_pos rfl
theorem tm_mk1 {a : At} {p c : Addr} {H Hq : Hp} {v : V} {t : TM.Tree} (po : Po p H) (hl : H c = none) (k : ∀ b o, b ≠ p → H b = some o → Hq b = some o) (h : TM.TmAt (csOf a) H v t) : TM.TmAt (csOf a) (Mk1 c Hq) v t := let ⟨_, _, hp, _⟩ := po; h.upW hp fun b o bn _ e => mk1_at (ne_of_none e hl) (k b o bn e)
theorem tm_own1 {K : PySem.W.Frag} {a : At} {H : Hp} {v : V} {t : TM.Tree} {n : Nat} (h : TM.TmAt (csOf a) H v t) (ok : TM.Ok t) (hd : t.depth ≤ 3) : RzB K (WTx a) n H v t.repr 8704 := rzb_own ⟨t, h, ok, by omega, rfl⟩ (by
  have := (TM.len_le 3 ok hd).1
  omega)
theorem odd_lst0 {K : PySem.W.Frag} {a : At} {H : Hp} {l : Addr} (h : H l = some (.lst [])) : ∃ tx, RzB K (WTx a) 2 H (.ref l) tx 30000 := ⟨_, (rzb_lst (n := 1) (L := 10) (xs := []) (ts := []) (wt_up (a := a)) mk1_none mk1_ex h rfl fun i x t h => by simp at h).mono (by decide)⟩
theorem odd_tup0 {K : PySem.W.Frag} {a : At} {H : Hp} {l : Addr} (h : H l = some (.tup [])) : ∃ tx, RzB K (WTx a) 2 H (.ref l) tx 30000 := ⟨_, (rzb_tup (n := 1) (L := 10) (xs := []) (ts := []) (wt_up (a := a)) mk1_none mk1_ex h rfl fun i x t h => by simp at h).mono (by decide)⟩
theorem odd_dic0 {K : PySem.W.Frag} {a : At} {H : Hp} {l : Addr} (h : H l = some (.dK [])) : ∃ tx, RzB K (WTx a) 2 H (.ref l) tx 30000 := ⟨_, (rzb_dic (n := 1) (L := 10) (ps := []) (qs := []) (wt_up (a := a)) mk1_none mk1_ex (.k h) rfl fun i p q h => by simp at h).mono (by decide)⟩
theorem odd_lst1 {K : PySem.W.Frag} {a : At} {H : Hp} {l : Addr} {m : V} {t : TM.Tree} (h : H l = some (.lst [m])) (tm : TM.TmAt (csOf a) (Mk1 l H) m t) (ok : TM.Ok t) (hd : t.depth ≤ 3) : ∃ tx, RzB K (WTx a) 2 H (.ref l) tx 30000 := ⟨_, (rzb_lst (n := 1) (L := 8704) (xs := [m]) (ts := [t.repr]) (wt_up (a := a)) mk1_none mk1_ex h rfl fun i x s h1 h2 => match i, h1, h2 with
  | 0, h1, h2 => by cases h1; cases h2; exact tm_own1 tm ok hd
  | i + 1, h1, h2 => by simp at h1).mono (by show 1 * (8704 + 2) + _ ≤ 30000; decide)⟩
theorem odd_tup1 {K : PySem.W.Frag} {a : At} {H : Hp} {l : Addr} {m : V} {t : TM.Tree} (h : H l = some (.tup [m])) (tm : TM.TmAt (csOf a) (Mk1 l H) m t) (ok : TM.Ok t) (hd : t.depth ≤ 3) : ∃ tx, RzB K (WTx a) 2 H (.ref l) tx 30000 := ⟨_, (rzb_tup (n := 1) (L := 8704) (xs := [m]) (ts := [t.repr]) (wt_up (a := a)) mk1_none mk1_ex h rfl fun i x s h1 h2 => match i, h1, h2 with
  | 0, h1, h2 => by cases h1; cases h2; exact tm_own1 tm ok hd
  | i + 1, h1, h2 => by simp at h1).mono (by show 1 * (8704 + 2) + _ ≤ 30000; decide)⟩
section
variable {K : PySem.W.Frag} {a : At} {σ : L2.St} {H : Hp} {ta tb tc te : TE} {E : XK}
theorem el_rep2 {x : V} (h : EvL te σ H [x]) : EvL (tOp rRep te (tC (.int 2))) σ H [x, x] := fun H1 e Q q =>
  h H1 e _ fun l H2 hl e2 h2 => ⟨l, 2, [x], rfl, rfl, h2, by decide, by decide, sz_of (by show 1 * 2 ≤ 100000; decide), fun p hp => q p _ (fresh_back e2 hp) (e2.trans (Ex.new hp)) upd_same⟩
theorem ev_neSS {x y : Str} (ha : EvL ta σ H [.str x, .str y]) (hb : EvL tb σ H [.str x, .str y]) : Ev (tOp (rNeP K) ta tb) σ H (.bl false) :=
  ev_opLL ha hb fun p q H1 hp hq e => fun H2 e2 Q k => ⟨_, _, .lst (sq_of (e2 _ _ hp)) (.cons (.str _) (.cons (.str _) .nil)), .lst (sq_of (e2 _ _ hq)) (.cons (.str _) (.cons (.str _) .nil)), rfl, rfl, by simp [PyData.depth, PyData.depthAll], by
    rw [SeqAt.eqv_refl_plain _ rfl]
    exact k H2 (Ex.refl H2)⟩

theorem ev_toldB {i : Int} {v u x : V} {tx : Str} (h0 : Ev ta σ H (.int i)) (h1 : Ev tb σ H v) (h2 : Ev tc σ H u) (hb : (x = v ∧ ∃ k, Kn H v k) ∨ (x = u ∧ (∃ t, TM.TmAt (csOf a) H v t) ∧ ∃ k, Kn H u k)) (rz : RzB K (WTx a) 2 H x tx 30000) : Ev (tFn (sp__law_told K a) E (tCons ta (tCons tb (tCons tc tNil)))) σ H (.str (told3 tx)) := ev_fn (ea_cons h0 (ea_cons h1 (ea_cons h2 ea_nil))) fun H1 e Q q E => ⟨i, v, u, x, tx, rfl, hb.imp (fun ⟨h, k, z⟩ => ⟨h, k, z.up e⟩) (fun ⟨h, ⟨t, y⟩, k, z⟩ => ⟨h, ⟨t, y.up e⟩, k, z.up e⟩), rz.up wt_up e, q⟩
theorem ev_told3 {v : V} {tx : Str} (h2 : Ev tb σ H v) (rz : RzB K (WTx a) 2 H v tx 30000) : Ev (tCB (rReprX K (WTx a) 2) (tCons (tLst (tCons (tC (.str "term")) (tCons tb (tCons (tC (.bl true)) tNil)))) tNil)) σ H (.str (told3 tx)) := fun H1 e Q q =>
  h2 H1 e _ fun H2 e2 => ⟨(by show 3 ≤ sizeLine; decide), fun p hp => by
    obtain ⟨z1, z2⟩ := told3_rz (a := a) hp (Ex.new hp) upd_same (rz.up wt_up (e.trans e2)) (by decide)
    exact ⟨.ref p, _, rfl, z1, sz_of (by omega), fun H3 e3 => q H3 ((e2.trans (Ex.new hp)).trans e3)⟩⟩
theorem ev_pr {S : Addr → Prop} {v u : V} {t r : TM.Tree} (h1 : Ev ta σ H v) (h2 : Ev tb σ H u) (md : TM.MdAt S H v t) (mdr : TM.MdAt S H u r) (okt : TM.Ok t) (okr : TM.Ok r) (dt : t.depth ≤ 4) (dr : r.depth ≤ 4) (pt : t.places.length ≤ 400) (pr : r.places.length ≤ 400) : Ev (tFn sp__law_pair_right E (tCons ta (tCons tb tNil))) σ H (.bl true) := ev_fn (ea_cons h1 (ea_cons h2 ea_nil)) fun H1 e Q q E => ⟨S, v, u, t, r, rfl, md.ex e, mdr.ex e, okt, okr, dt, dr, pt, pr, q⟩
end
section
variable {P : Program} {w : World} {K : PySem.W.Frag} {mg : Str → Option Value} {base : Heap} {a : At}
def sp__law_right : Sp := fun vs H Q _ => ∃ (p : Addr), vs = [.ref p] ∧ Po p H ∧ ∀ H', Px p H H' → Q (.bl true) H'
theorem ok__law_right (T : Txt K mg a) (F : Files P K a) : Fn P w K mg base 20 a._law_right sp__law_right := by
  have G__law_places := ok__law_places (P := P) (w := w) (base := base) T
  have G__law_pick := ok__law_pick (P := P) (w := w) (base := base) T
  have G__law_term := ok__law_term (P := P) (w := w) (base := base) T 3
  have G__law_beside := ok__law_beside (P := P) (w := w) (base := base) T
  have G__law_pair_right := ok__law_pair_right (P := P) (w := w) (base := base) T F
  have G__law_real := ok__law_real (P := P) (w := w) (base := base) T F 5
  have G__law_told := ok__law_told (P := P) (w := w) (base := base) T F
  refine T.d__law_right.fn sc__law_right (fun _ _ _ _ _ _ us hl => match us, hl with | [_], _ => rfl) (fun vs H Q E h => ?_) (fun cdv A outer s H vs Q E hg hr h => ?_)
  · obtain ⟨_, rfl, _⟩ := h
    rfl
  · obtain ⟨p, rfl, po, q⟩ := h
    have nd := sc__law_right.nd
    have hu64 : (A.deeper _).units + 64 < cLine := hr.units
    refine ⟨_, (pss_cons (ps_set (i := 1) nd rfl (.inl rfl) (pe_slice (sl_listK (K := K) rfl) (pe_fn G__law_places hg (hr.mono (by decide)) T.d__law_places.kp T.d__law_places.m (by rfl) passL (pa_cons (pv 0) pa_nil)) po_none (po_some pe_int)))
    (pss_cons (ps_set (i := 2) nd rfl (.inl rfl) (pe_fn G__law_term hg (hr.mono (by decide)) T.d__law_term.kp T.d__law_term.m (by rfl) passL (pa_cons (pv 0) (pa_cons (pv 1) (pa_cons pe_int pa_nil)))))
    (pss_cons (ps_for PassesOwn.leaving rfl (pi_range1 (by rfl) T.z_range (pa_cons pe_int pa_nil)) (pg_name (i := 3) nd rfl (.inl rfl))
      (pss_cons (ps_set (i := 6) nd rfl (.inl rfl) (pe_fn G__law_beside hg (hr.mono (by decide)) T.d__law_beside.kp T.d__law_beside.m (by rfl) passL (pa_cons (pv 0) (pa_cons (pv 2) (pa_cons (pv 1) pa_nil)))))
        (pss_one (ps_if (PW.pt (pw_or (pt_not (pt_val (pe_fn G__law_pair_right hg (hr.mono (by decide)) T.d__law_pair_right.kp T.d__law_pair_right.m (by rfl) passL (pa_cons (pv 2) (pa_cons (pv 6) pa_nil))))) (pw_or1 (pt_not (pt_val (pe_fn G__law_pair_right hg (hr.mono (by decide)) T.d__law_pair_right.kp T.d__law_pair_right.m (by rfl) passL (pa_cons (pv 6) (pa_cons (pv 2) pa_nil)))))))) (pss_one (ps_ret pe_bl)) pss_nil))))
    (pss_cons (ps_if (pt_not (pt_val (pe_fn G__law_pair_right hg (hr.mono (by decide)) T.d__law_pair_right.kp T.d__law_pair_right.m (by rfl) passL (pa_cons (pv 2) (pa_cons (pv 2) pa_nil))))) (pss_one (ps_ret pe_bl)) pss_nil)
    (pss_cons (ps_set (i := 4) nd rfl (.inl rfl) (pe_fn G__law_real hg (hr.mono (by decide)) T.d__law_real.kp T.d__law_real.m (by rfl) passL (pa_cons (pv 2) pa_nil)))
    (pss_cons (ps_par (i := 7) (j := 8) rfl nd rfl rfl (by decide) rfl rfl (pa_cons (pe_fn G__law_pick hg (hr.mono (by decide)) T.d__law_pick.kp T.d__law_pick.m (by rfl) passL (pa_cons (pv 0) (pa_cons (pe_lst (pa_cons pe_non (pa_cons pe_str (pa_cons pe_bl (pa_cons (pe_lst pa_nil) (pa_cons pe_str (pa_cons (pe_tup (pa_cons (pv 4) pa_nil)) (pa_cons pe_dnewK pa_nil)))))))) pa_nil))) (pa_cons (pe_fn G__law_pick hg (hr.mono (by decide)) T.d__law_pick.kp T.d__law_pick.m (by rfl) passL (pa_cons (pv 0) (pa_cons (pe_lst (pa_cons pe_int (pa_cons pe_str (pa_cons pe_non (pa_cons (pe_lst (pa_cons (pv 4) pa_nil)) pa_nil))))) pa_nil))) pa_nil)) (by rfl))
    (pss_cons (ps_for PassesOwn.leaving rfl (pi_range1 (by rfl) T.z_range (pa_cons pe_int pa_nil)) (pg_name (i := 5) nd rfl (.inl rfl))
      (pss_one (ps_if (pt_cmpR (op_neP hu64) (pe_lst (pa_cons (pe_fn G__law_told hg (hr.mono (by decide)) T.d__law_told.kp T.d__law_told.m (by rfl) passL (pa_cons (pv 5) (pa_cons (pv 7) (pa_cons (pv 8) pa_nil)))) (pa_cons (pe_fn G__law_told hg (hr.mono (by decide)) T.d__law_told.kp T.d__law_told.m (by rfl) passL (pa_cons (pv 5) (pa_cons (pv 4) (pa_cons (pv 7) pa_nil)))) pa_nil))) (pe_op op_rep (pe_lst (pa_cons (pe_callB (call_reprW (K := K) (n := 2) rfl T F pass0 hg (hr.mono (by decide))) (by rfl) T.z_repr (by decide +kernel) (pa_cons (pe_lst (pa_cons pe_str (pa_cons (pv 7) (pa_cons pe_bl pa_nil)))) pa_nil)) pa_nil)) pe_int) (nomark _)) (pss_one (ps_ret pe_bl)) pss_nil)))
    (pss_one (ps_ret pe_bl))))))))), ?_⟩
    refine ⟨.ref p, rfl, p, rfl, po, fun l xs H1 hl1 h1 x0 x5 nm x1 => ?_⟩
    refine ⟨4, rfl, l, xs, rfl, sq_of h1, fun l2 hl2 => ?_⟩
    have hc : cutV xs none (some 4) = xs.take (min 4 xs.length) := by
      unfold cutV
      rw [HT.sIx_none, show (4 : Int) = ((4 : Nat) : Int) from rfl, HT.sIx_nat]
      rfl
    rw [hc]
    have y0 : 0 < (xs.take (min 4 xs.length)).length := by rw [List.length_take]; omega
    have y5 : (xs.take (min 4 xs.length)).length ≤ 5 := by rw [List.length_take]; omega
    have ynm : ∀ x ∈ xs.take (min 4 xs.length), Nm x := fun x hx => nm x (List.mem_of_mem_take hx)
    have l2p : l2 ≠ p := x1.2.ne hl2
    have x2 : Px p H (upd H1 l2 (.lst (xs.take (min 4 xs.length)))) := x1.ex (Ex.new hl2)
    have k2 : (upd H1 l2 (.lst (xs.take (min 4 xs.length)))) l2 = some (.lst (xs.take (min 4 xs.length))) := upd_same
    generalize upd H1 l2 (.lst (xs.take (min 4 xs.length))) = H2 at *
    generalize xs.take (min 4 xs.length) = ys at *
    clear hc nm x5 x0 h1 hl1 hl2 x1
    refine ⟨.ref p, rfl, .ref l2, rfl, p, l2, ys, 2, 2, rfl, rfl, by decide, x2.2, k2, l2p, y0, y5, ynm, fun v t H3 ok hd pl md x3 => ?_⟩
    have md : TM.MdAt (fun b => b ≠ p) H3 v t := md.up (fun b s z => x2.2.at (z ▸ s)) fun _ _ _ z => z
    have k3 := x3.1 _ _ l2p k2
    have x03 := x2.trans x3
    have pt : t.places.length ≤ 64 := TM.places_len 2 t ok hd
    clear x2 x3 k2 pl
    refine q_forR1 (n := 4) (j := 3) (ea_cons ev_c ea_nil) (by omega) (fun i σ' H' => (∃ u3 u6, σ' = [some (.ref p), some (.ref l2), some v, u3, none, none, u6, none, none]) ∧ Px p H3 H') (fun H4 e4 => ⟨⟨_, _, rfl⟩, Px.of x03.2 e4⟩) ?_ ?_
    · rintro i σ' H4 hi ⟨⟨u3, u6, rfl⟩, x4⟩
      refine ⟨.ref p, rfl, v, rfl, .ref l2, rfl, p, l2, v, t, ys, rfl, x4.2, md_px x4 md, ok, hd, x4.1 _ _ l2p k3, l2p, y0, y5, ynm, fun u r H5 okr dr pr mdr x5 => ?_⟩
      have md5 := md_px (x4.trans x5) md
      exact s_when (b := false) (et_is (et_or (et_not (et_B (ev_pr (ev_var rfl) (ev_var rfl) md5 mdr ok okr (by omega) dr (by omega) (by omega)))) fun _ => et_not (et_B (ev_pr (ev_var rfl) (ev_var rfl) mdr md5 okr ok dr (by omega) (by omega) (by omega)))) rfl) (fun c => nomatch c) fun _ H6 e6 => ⟨⟨_, _, rfl⟩, (x4.trans x5).ex e6⟩
    rintro σ' H4 ⟨⟨u3, u6, rfl⟩, x34⟩
    have md4 := md_px x34 md
    have x04 := x03.trans x34
    clear k3 x34 md x03
    refine q_when (b := false) (et_is (et_not (et_B (ev_pr (ev_var rfl) (ev_var rfl) md4 md4 ok ok (by omega) (by omega) (by omega) (by omega)))) rfl) (fun z => nomatch z) fun _ H5 e5 => ?_
    have x05 := x04.ex e5
    refine ⟨v, rfl, _, v, t, rfl, md4.ex e5, ok, by omega, fun m H6 e6 tm6 => ?_⟩
    have x06 := x05.ex e6
    clear x04 x05 e5 md4 e6
    -- what is no term
    refine ⟨.ref p, rfl, (by decide : 0 ≤ sizeLine), fun a1 z1 => ⟨m, rfl, (by decide : 1 ≤ sizeLine), fun a2 z2 => fun a3 z3 => ⟨(by decide : 7 ≤ sizeLine), fun a4 z4 => ?_⟩⟩⟩
    have e1 : Ex H6 (upd H6 a1 (.lst [])) := Ex.new z1
    have c1 : (upd H6 a1 (.lst [])) a1 = some (.lst []) := upd_same
    generalize upd H6 a1 (.lst []) = B1 at *
    have e2 : Ex B1 (upd B1 a2 (.tup [m])) := Ex.new z2
    have c2 : (upd B1 a2 (.tup [m])) a2 = some (.tup [m]) := upd_same
    generalize upd B1 a2 (.tup [m]) = B2 at *
    have e3 : Ex B2 (upd B2 a3 (.dK [])) := Ex.new z3
    have c3 : (upd B2 a3 (.dK [])) a3 = some (.dK []) := upd_same
    generalize upd B2 a3 (.dK []) = B3 at *
    have e03 := (e1.trans e2).trans e3
    refine ⟨p, a4, _, rfl, (x06.2.up e03).up (Ex.new z4), upd_same, (x06.2.up e03).ne z4, (by show 0 < 7; decide), (by show 7 ≤ 1000; decide), fun x hx H7 x7 => ?_⟩
    have e4 := Ex.new (o := .lst [.non, .str "r0", .bl true, .ref a1, .str "top", .ref a2, .ref a3]) z4
    have keep : ∀ {b : Addr} {o : HO}, b ≠ p → B3 b = some o → H7 b = some o := fun bp h => x7.1 _ _ bp (e4 _ _ h)
    have p1 := x06.2.ne z1
    have p2 := (x06.2.up e1).ne z2
    have p3 := (x06.2.up (e1.trans e2)).ne z3
    have x67 : Px p H6 H7 := ((Px.of x06.2 e03).ex e4).trans x7
    have x07 := x06.trans x67
    refine ⟨.ref p, rfl, m, rfl, (by decide : 1 ≤ sizeLine), fun b1 hb1 => ⟨(by decide : 4 ≤ sizeLine), fun b2 hb2 => ⟨p, b2, _, rfl, (x07.2.up (Ex.new hb1)).up (Ex.new hb2), upd_same, (x07.2.up (Ex.new hb1)).ne hb2, (by show 0 < 4; decide), (by show 4 ≤ 1000; decide), fun y hy H8 x8 => ⟨_, _, rfl, ?_⟩⟩⟩⟩
    have x78 : Px p H7 H8 := ((Px.of x07.2 (Ex.new hb1)).ex (Ex.new hb2)).trans x8
    have x08 := x07.trans x78
    have keep : ∀ {b : Addr} {o : HO}, b ≠ p → B3 b = some o → H8 b = some o := fun bp h => x78.1 _ _ bp (keep bp h)
    have d1 := keep p1 (e3 _ _ (e2 _ _ c1))
    have d2 := keep p2 (e3 _ _ c2)
    have d3 := keep p3 c3
    have k68 : ∀ b o, b ≠ p → H6 b = some o → H8 b = some o := fun b o bp h => keep bp (e03 _ _ h)
    have t2 : TM.TmAt (csOf a) (Mk1 a2 H8) m t := tm_mk1 x06.2 (fresh_back e1 z2) k68 tm6
    have odd : (∃ k, Kn H8 x k) ∧ ∃ tx, RzB K (WTx a) 2 H8 x tx 30000 := by
      simp only [List.mem_cons, List.not_mem_nil, or_false] at hx
      rcases hx with rfl | rfl | rfl | rfl | rfl | rfl | rfl
      · exact ⟨⟨_, .non⟩, _, (rzb_leaf (t := "None") (fun _ => lf_non) (by decide +kernel))⟩
      · exact ⟨⟨_, .str _⟩, _, (rzb_leaf (fun _ => lf_str (by decide +kernel)) (by decide +kernel))⟩
      · exact ⟨⟨_, .bl _⟩, _, (rzb_leaf (t := "True") (fun _ => lf_bl (b := true)) (by decide +kernel))⟩
      · exact ⟨⟨_, .lst d1⟩, odd_lst0 d1⟩
      · exact ⟨⟨_, .str _⟩, _, (rzb_leaf (fun _ => lf_str (by decide +kernel)) (by decide +kernel))⟩
      · exact ⟨⟨_, .tup d2⟩, odd_tup1 d2 t2 ok (by omega)⟩
      · exact ⟨⟨_, .dic d3⟩, odd_dic0 d3⟩
    have tm8 : TM.TmAt (csOf a) H8 m t := tm_px x06.2 (x67.trans x78) tm6
    clear hx hy d1 d2 d3 t2 k68 keep e4 e03 e3 e2 e1 x67 x7 tm6 x06 c1 c2 c3 x78 x07
    obtain ⟨⟨ko, kn⟩, tx, rz⟩ := odd
    refine q_forR1 (n := 3) (j := 5) (ea_cons ev_c ea_nil) (by omega) (fun i σ' H' => (∃ u3 u5 u6, σ' = [some (.ref p), some (.ref l2), some v, u3, some m, u5, u6, some x, some y]) ∧ Ex H8 H') (fun H9 e9 => ⟨⟨_, _, _, rfl⟩, e9⟩) ?_ ?_
    · rintro i σ' H9 hi ⟨⟨u3, u5, u6, rfl⟩, e9⟩
      have rz9 := rz.up wt_up e9
      exact s_when (b := false) (et_test (ev_neSS (el_lst (ea_cons (ev_toldB (ev_var rfl) (ev_var rfl) (ev_var rfl) (.inl ⟨rfl, ko, kn.up e9⟩) rz9) (ea_cons (ev_toldB (ev_var rfl) (ev_var rfl) (ev_var rfl) (.inr ⟨rfl, ⟨t, tm8.up e9⟩, ko, kn.up e9⟩) rz9) ea_nil)) (by show 2 ≤ 100000; decide)) (el_rep2 (el_lst (ea_cons (ev_told3 (ev_var rfl) rz9) ea_nil) (by show 1 ≤ 100000; decide))))) (fun c => nomatch c) fun _ H10 e10 => ⟨⟨_, _, _, rfl⟩, e9.trans e10⟩
    · rintro σ' H9 ⟨⟨u3, u5, u6, rfl⟩, e9⟩
      exact s_ret (v := .bl true) ev_c fun H10 e10 => q H10 ((x08.ex e9).ex e10)
end
end K16
namespace K16
open PySem PySem.Spec PyProof.Rows L2 LG Evl
section
variable {K : PySem.W.Frag} {σ : L2.St} {H : Hp} {te ta : TE}
/-- all([e for j in range(n)]), each e True -/
theorem all_R1 {ta : TA} {j : Nat} {n : Int} (h : EvA ta σ H [.int n]) (hn : 0 ≤ n ∧ n ≤ 1000) (hw : ∀ x, wipe ((wipe σ [j]).set j (some x)) [j] = wipe σ [j]) (W : Addr → Hp → Prop) (h0 : ∀ H1 Dl, Ex H H1 → H1 Dl = none → W Dl (upd H1 Dl (.lst [])))
    (hs : ∀ (i : Nat) (Dl : Addr) (H' : Hp) (zs : List V), (i : Int) < n → W Dl H' → H' Dl = some (.lst zs) → ∀ Q' : VK, (∀ H2, H2 Dl = some (.lst zs) → W Dl (upd H2 Dl (.lst (zs ++ [.bl true]))) → Q' (.bl true) H2) → te ((wipe σ [j]).set j (some (.int (i : Int)))) H' Q')
    {D : Ends} (q : ∀ H', D.rt (.bl true) H') : tRet (tCB (rAll K) (tCons (tLc (iRng1 ta) (gName j) tYes te [j]) tNil)) D σ H := h H (Ex.refl H) _ fun H1 e1 => ⟨n, rfl, by omega, by omega, fun Dl hD =>
  lc_range (lo := 0) (n := n.toNat) (fun i H' => H' Dl = some (.lst (List.replicate i (.bl true))) ∧ W Dl H') ⟨upd_same, h0 H1 Dl e1 hD⟩ (fun i H' hi p => by
    have e0 : (0 : Int) + (i : Int) = (i : Int) := Int.zero_add _
    show wipe ((wipe σ [j]).set j (some (.int ((0 : Int) + (i : Int))))) [j] = wipe σ [j] ∧ te ((wipe σ [j]).set j (some (.int ((0 : Int) + (i : Int))))) H' fun y H4 => ∃ acc, H4 Dl = some (.lst acc) ∧ acc.length < sizeLine ∧ (upd H4 Dl (.lst (acc ++ [y]))) Dl = some (.lst (List.replicate (i + 1) (.bl true))) ∧ W Dl (upd H4 Dl (.lst (acc ++ [y])))
    rw [e0]
    refine ⟨hw _, hs i Dl H' _ (by omega) p.2 p.1 _ fun H2 h2 w2 => ⟨_, h2, sz_lt (by rw [List.length_replicate]; omega), ?_, w2⟩⟩
    rw [upd_same, List.replicate_succ'])
    (fun H' p => ⟨Dl, List.replicate n.toNat true, rfl, sq_of (by rw [p.1, List.map_replicate]), by
      have e : (List.replicate n.toNat true).all id = true := by
        rw [List.all_eq_true]
        intro b hb
        exact (List.mem_replicate.mp hb).2
      rw [e]
      exact q H'⟩)⟩
end
section
variable {P : Program} {w : World} {K : PySem.W.Frag} {mg : Str → Option Value} {base : Heap} {a : At}
def sp_law (K : PySem.W.Frag) : Sp := fun vs H Q _ => ∃ (l : Addr) (ns : List Int), vs = [.ref l] ∧ SqL K H l (ns.map V.int) ∧ ns.length ≤ 63 ∧ ∀ H', Q (.bl true) H'
theorem ok_law (T : Txt K mg a) (F : Files P K a) : Fn P w K mg base 21 a.law (sp_law K) := by
  have G__law_pot : Fn P w K mg base 1 a._law_pot (sp__law_pot K) := ok__law_pot T
  have G__law_right : Fn P w K mg base 20 a._law_right sp__law_right := ok__law_right T F
  refine T.d_law.fn sc_law (fun _ _ _ _ _ _ us hl => match us, hl with | [_], _ => rfl) (fun vs H Q E h => ?_) (fun cdv A outer s H vs Q E hg hr h => ?_)
  · obtain ⟨_, _, rfl, _⟩ := h
    rfl
  · obtain ⟨l, ns, rfl, hs, hlen, q⟩ := h
    have nd := sc_law.nd
    refine ⟨_, (pss_one (ps_ret (pe_callB (cr_all rfl) (by rfl) T.z_all (by decide +kernel) (pa_cons (pe_lc rfl (own := [("k", 1)]) (g := gName 1) (by exact nd) (pi_range1 (by rfl) T.z_range (pa_cons (pe_callB (call_max2 rfl) (by rfl) T.z_max (by decide +kernel) (pa_cons pe_int (pa_cons (pe_callB (call_min2 rfl) (by rfl) T.z_min (by decide +kernel) (pa_cons (pe_callB call_len_seq (by rfl) T.z_len (by decide +kernel) (pa_cons (pv 0) pa_nil)) (pa_cons pe_int pa_nil))) pa_nil))) pa_nil)) (blkOk_by (own := [("k", 1)]) (N := ["script", "k"]) (sc := defScope s_law) (by decide +kernel)) (fun _ _ _ _ _ => (pg_name (i := 1) nd rfl (.inl rfl))) (fun _ _ _ _ _ => pts_nil) (fun _ _ _ _ _ => (pe_fn G__law_right hg (hr.mono (by decide)) T.d__law_right.kp T.d__law_right.m (by rfl) passL (pa_cons (pe_fn G__law_pot hg (hr.mono (by decide)) T.d__law_pot.kp T.d__law_pot.m (by rfl) passL (pa_cons (pv 0) (pa_cons (pv 1) pa_nil))) pa_nil)))) pa_nil)))), ?_⟩
    have stays : ∀ H', (∀ o, H l = some o → H' l = some o) → SqL K H' l (ns.map V.int) := fun H' h => by
      rcases hs with (h1 | ⟨ob, h1⟩) | h1
      · exact .inl (.inl (h _ h1))
      · exact .inl (.inr ⟨ob, h _ h1⟩)
      · exact .inr h1
    refine all_R1 (K := K) (σ := [some (.ref l), none]) (j := 1) (D := { nx := fun _ H' => Q .non H', rt := Q }) (n := if (if (5 : Int) < (ns.map V.int).length then 5 else ((ns.map V.int).length : Int)) > 1 then (if (5 : Int) < (ns.map V.int).length then 5 else ((ns.map V.int).length : Int)) else 1) ?_ ?_ (fun _ => rfl) (fun Dl H' => ∀ o, H l = some o → H' l = some o ∧ l ≠ Dl) (fun H1 Dl e1 hD => fun o ho => ⟨Ex.new hD l _ (e1 l _ ho), ne_of_none (e1 l _ ho) hD⟩) (fun i Dl H' zs hi st hD Q' q' => ?_) q
    · exact fun H1 e1 Q1 q1 => ⟨.ref l, rfl, l, _, rfl, .inl (ex_l e1 hs), _, 5, rfl, 1, _, rfl, q1 H1 (Ex.refl H1)⟩
    · rw [List.length_map]
      split <;> split <;> omega
    · refine ⟨.ref l, rfl, .int i, rfl, l, ns, i, rfl, stays H' (fun o ho => (st o ho).1), hlen, ?_, fun p H1 hp e1 po1 => ⟨p, rfl, po1, fun H2 px => ?_⟩⟩
      · rw [List.length_map] at hi
        split at hi <;> split at hi <;> omega
      · have Dp : Dl ≠ p := ne_of_none hD hp
        have h2 := px.1 Dl _ Dp (e1 Dl _ hD)
        refine q' H2 h2 fun o ho => ?_
        obtain ⟨hl, hne⟩ := st o ho
        have nlp : l ≠ p := ne_of_none hl hp
        refine ⟨?_, hne⟩
        rw [upd_ne hne]
        exact px.1 l o nlp (e1 l _ hl)
end
end K16
namespace K16
open PySem PySem.Spec PyProof.Rows L2 LG
theorem gfn_of {K : PySem.W.Frag} {h : Heap} {mg : Str → Option Value} (X : K.In h) (G : h.Ns mainGlobals mg) {x : Str} {st : Stmt} {f : Addr} {od an : Option Addr} {sl : Array (Option Value)} {oc kV dc pm cd ct : Value}
    (n : PySem.W.nsIn K mainGlobals x = some (some (.ref f))) (l : K.lookup f = some ⟨oc, od, .func (PySem.W.fnOf x x (defArgs st) (defBody st) (defScope st) .none kV dc pm an cd ct), sl⟩) (c : PySem.W.codeIn K cd x = true) (k : PySem.W.keepIn K (.ref f) = true) : GFn K mg x st f :=
  ⟨PySem.W.mg_of X G n, _, fun_mk l c k⟩
theorem gex_of {K : PySem.W.Frag} {h : Heap} {mg : Str → Option Value} (X : K.In h) (G : h.Ns mainGlobals mg) {x : Str} {C fI : Addr} {nm : Str} {q : Str} {N : Addr} {bs bm : List Value} {sn : List Str} {sub : List Value} {ab : Bool} {col : Option Bool} {dd : Option Addr}
    {k0 k1 k2 k3 k5 : Option Value}
    (n : PySem.W.nsIn K mainGlobals x = some (some (.ref C))) (l : K.lookup C = some (PySem.excClassObj nm q C N bs bm true sn sub ab col dd k0 k1 k2 k3 k5 "ValueError.__new__")) (r : PySem.HandSPX.refsVE bm = true)
    (sa : PySem.W.findIn K (.ref C) "__setattr__" = some (some (.builtin "object.__setattr__"))) (e1 : PySem.W.subIn K (.ref C) (.type "BaseException") = some true) (e2 : PySem.W.typeIn K (.ref C) = some (.type "type")) (e3 : PySem.W.keepIn K (.ref C) = true)
    (i : PySem.W.findIn K (.ref C) "__init__" = some (some (.ref fI))) (v : PySem.W.findIn K (.ref C) "value" = some none)
    (ga : PySem.W.findIn K (.ref C) "__getattribute__" = some (some (.builtin "BaseException.__getattribute__"))) (gg : PySem.W.findIn K (.ref C) "__getattr__" = some none) (hd : PySem.W.hasDictIn K C = true)
    (ha : PySem.W.findIn K (.ref C) "__class__" = some (some (.builtin "object.__class__"))) (hn : PySem.W.specialIn K (.builtin "object.__class__") "__get__" = some (some (.builtin "getset_descriptor.__get__"))) (ht : PySem.W.takesIn K (.builtin "object.__class__") = some true) (hm : PySem.W.mroIn K C (.type "object") = some true) : GEx K mg x C fI :=
  ⟨PySem.W.mg_of X G n, ⟨⟨nm, q, N, bs, bm, sn, sub, ab, col, dd, k0, k1, k2, k3, k5, l, r⟩, sa, e1, e2, e3⟩, i, v, ⟨ga, gg, e1, hd⟩, ⟨ga, gg, e1, hd, ha, hn, ht, hm⟩⟩
theorem cls_some {K : PySem.W.Frag} {C : Addr} (h : PySem.W.selfFirst K C = true) : PySem.W.clsIn K C ≠ none := fun z => by
  unfold PySem.W.selfFirst at h
  rw [z] at h
  cases h
theorem all_facts {K : PySem.W.Frag} {mg : Str → Option Value} {w : World} {h : Heap} {fa : Addr} (l : PySem.W.OpenLaw) (X : K.In h) (G : h.Ns mainGlobals mg) (hmg : mg "law" = some (.ref fa))
  {f__wall f_is_integer f_is_end f_is_value f_is_not_less f_least_of f_greatest_of f_is_place f_want_term f_want_terms f_depth_above f_want_values f_value_at f_places_in f_term_text f_term_repr f_is_within f_least_sets f_found_form f_is_above f_is_same f_is_never_above f_showing f__law_pot f__law_draw f__law_pick f__law_number f__law_places f__law_term f__law_joined f__law_real f__law_of f__law_numbers f__law_spots f__law_all_ends f__law_beside f__law_is_shown f__law_pair_right f__law_asked f__law_told f__law_right f_law g_ENDS g_PLACES f_init TD C_HeldError C_InvalidPlace C_InvalidEnd C_InvalidTerm C_InvalidValues k_Term k_Place k_End k_Lesser k_Greater m_Term_init m_Term_depth p_Term_depth m_Term_at m_Term_places m_Term_turned m_Term_put m_Term_and m_Term_or m_Term_str m_Term_repr m_Term_eq m_Place_init w_Place_init o_Place_init m_Place_name p_Place_name m_End_init w_End_init o_End_init m_End_end p_End_end m_Lesser_init w_Lesser_init o_Lesser_init m_Lesser_parts p_Lesser_parts m_Greater_init w_Greater_init o_Greater_init m_Greater_parts p_Greater_parts : Addr}
  {t_BOTTOM t_TOP t_LEAST_PARTS t_ENDS_0 t_ENDS_1 t_PLACES_0 t_PLACES_1 t_PLACES_2 t_PLACES_3 t_PLACES_4 t_PLACES_5 t_PLACES_6 t_PLACES_7 : Tok}
  {od__wall an__wall od_is_integer an_is_integer od_is_end an_is_end od_is_value an_is_value od_is_not_less an_is_not_less od_least_of an_least_of od_greatest_of an_greatest_of od_is_place an_is_place od_want_term an_want_term od_want_terms an_want_terms od_depth_above an_depth_above od_want_values an_want_values od_value_at an_value_at od_places_in an_places_in od_term_text an_term_text od_term_repr an_term_repr od_is_within an_is_within od_least_sets an_least_sets od_found_form an_found_form od_is_above an_is_above od_is_same an_is_same od_is_never_above an_is_never_above od_showing an_showing od__law_pot an__law_pot od__law_draw an__law_draw od__law_pick an__law_pick od__law_number an__law_number od__law_places an__law_places od__law_term an__law_term od__law_joined an__law_joined od__law_real an__law_real od__law_of an__law_of od__law_numbers an__law_numbers od__law_spots an__law_spots od__law_all_ends an__law_all_ends od__law_beside an__law_beside od__law_is_shown an__law_is_shown od__law_pair_right an__law_pair_right od__law_asked an__law_asked od__law_told an__law_told od__law_right an__law_right od_law an_law od_ENDS od_PLACES od_init an_init odD od_Term_init an_Term_init od_Term_depth an_Term_depth od_Term_at an_Term_at od_Term_places an_Term_places od_Term_turned an_Term_turned od_Term_put an_Term_put od_Term_and an_Term_and od_Term_or an_Term_or od_Term_str an_Term_str od_Term_repr an_Term_repr od_Term_eq an_Term_eq od_Place_init an_Place_init odo_Place_init odw_Place_init od_Place_name an_Place_name od_End_init an_End_init odo_End_init odw_End_init od_End_end an_End_end od_Lesser_init an_Lesser_init odo_Lesser_init odw_Lesser_init od_Lesser_parts an_Lesser_parts od_Greater_init an_Greater_init odo_Greater_init odw_Greater_init od_Greater_parts an_Greater_parts dd_HeldError dd_InvalidPlace dd_InvalidEnd dd_InvalidTerm dd_InvalidValues : Option Addr}
  {sl__wall sl_is_integer sl_is_end sl_is_value sl_is_not_less sl_least_of sl_greatest_of sl_is_place sl_want_term sl_want_terms sl_depth_above sl_want_values sl_value_at sl_places_in sl_term_text sl_term_repr sl_is_within sl_least_sets sl_found_form sl_is_above sl_is_same sl_is_never_above sl_showing sl__law_pot sl__law_draw sl__law_pick sl__law_number sl__law_places sl__law_term sl__law_joined sl__law_real sl__law_of sl__law_numbers sl__law_spots sl__law_all_ends sl__law_beside sl__law_is_shown sl__law_pair_right sl__law_asked sl__law_told sl__law_right sl_law sl_ENDS sl_PLACES sl_init slD sl_Term_init sl_Term_depth sl_Term_at sl_Term_places sl_Term_turned sl_Term_put sl_Term_and sl_Term_or sl_Term_str sl_Term_repr sl_Term_eq sl_Place_init slo_Place_init slw_Place_init sl_Place_name sl_End_init slo_End_init slw_End_init sl_End_end sl_Lesser_init slo_Lesser_init slw_Lesser_init sl_Lesser_parts sl_Greater_init slo_Greater_init slw_Greater_init sl_Greater_parts : Array (Option Value)}
  {oc__wall kV__wall dc__wall pm__wall ct__wall cd__wall oc_is_integer kV_is_integer dc_is_integer pm_is_integer ct_is_integer cd_is_integer oc_is_end kV_is_end dc_is_end pm_is_end ct_is_end cd_is_end oc_is_value kV_is_value dc_is_value pm_is_value ct_is_value cd_is_value oc_is_not_less kV_is_not_less dc_is_not_less pm_is_not_less ct_is_not_less cd_is_not_less oc_least_of kV_least_of dc_least_of pm_least_of ct_least_of cd_least_of oc_greatest_of kV_greatest_of dc_greatest_of pm_greatest_of ct_greatest_of cd_greatest_of oc_is_place kV_is_place dc_is_place pm_is_place ct_is_place cd_is_place oc_want_term kV_want_term dc_want_term pm_want_term ct_want_term cd_want_term oc_want_terms kV_want_terms dc_want_terms pm_want_terms ct_want_terms cd_want_terms oc_depth_above kV_depth_above dc_depth_above pm_depth_above ct_depth_above cd_depth_above oc_want_values kV_want_values dc_want_values pm_want_values ct_want_values cd_want_values oc_value_at kV_value_at dc_value_at pm_value_at ct_value_at cd_value_at oc_places_in kV_places_in dc_places_in pm_places_in ct_places_in cd_places_in oc_term_text kV_term_text dc_term_text pm_term_text ct_term_text cd_term_text oc_term_repr kV_term_repr dc_term_repr pm_term_repr ct_term_repr cd_term_repr oc_is_within kV_is_within dc_is_within pm_is_within ct_is_within cd_is_within oc_least_sets kV_least_sets dc_least_sets pm_least_sets ct_least_sets cd_least_sets oc_found_form kV_found_form dc_found_form pm_found_form ct_found_form cd_found_form oc_is_above kV_is_above dc_is_above pm_is_above ct_is_above cd_is_above oc_is_same kV_is_same dc_is_same pm_is_same ct_is_same cd_is_same oc_is_never_above kV_is_never_above dc_is_never_above pm_is_never_above ct_is_never_above cd_is_never_above oc_showing kV_showing dc_showing pm_showing ct_showing cd_showing oc__law_pot kV__law_pot dc__law_pot pm__law_pot ct__law_pot cd__law_pot oc__law_draw kV__law_draw dc__law_draw pm__law_draw ct__law_draw cd__law_draw oc__law_pick kV__law_pick dc__law_pick pm__law_pick ct__law_pick cd__law_pick oc__law_number kV__law_number dc__law_number pm__law_number ct__law_number cd__law_number oc__law_places kV__law_places dc__law_places pm__law_places ct__law_places cd__law_places oc__law_term kV__law_term dc__law_term pm__law_term ct__law_term cd__law_term oc__law_joined kV__law_joined dc__law_joined pm__law_joined ct__law_joined cd__law_joined oc__law_real kV__law_real dc__law_real pm__law_real ct__law_real cd__law_real oc__law_of kV__law_of dc__law_of pm__law_of ct__law_of cd__law_of oc__law_numbers kV__law_numbers dc__law_numbers pm__law_numbers ct__law_numbers cd__law_numbers oc__law_spots kV__law_spots dc__law_spots pm__law_spots ct__law_spots cd__law_spots oc__law_all_ends kV__law_all_ends dc__law_all_ends pm__law_all_ends ct__law_all_ends cd__law_all_ends oc__law_beside kV__law_beside dc__law_beside pm__law_beside ct__law_beside cd__law_beside oc__law_is_shown kV__law_is_shown dc__law_is_shown pm__law_is_shown ct__law_is_shown cd__law_is_shown oc__law_pair_right kV__law_pair_right dc__law_pair_right pm__law_pair_right ct__law_pair_right cd__law_pair_right oc__law_asked kV__law_asked dc__law_asked pm__law_asked ct__law_asked cd__law_asked oc__law_told kV__law_told dc__law_told pm__law_told ct__law_told cd__law_told oc__law_right kV__law_right dc__law_right pm__law_right ct__law_right cd__law_right oc_law kV_law dc_law pm_law ct_law cd_law oc_init kV_init dc_init pm_init ct_init cd_init ocD oc_Term_init kV_Term_init dc_Term_init pm_Term_init ct_Term_init cd_Term_init oc_Term_depth kV_Term_depth dc_Term_depth pm_Term_depth ct_Term_depth cd_Term_depth oc_Term_at kV_Term_at dc_Term_at pm_Term_at ct_Term_at cd_Term_at oc_Term_places kV_Term_places dc_Term_places pm_Term_places ct_Term_places cd_Term_places oc_Term_turned kV_Term_turned dc_Term_turned pm_Term_turned ct_Term_turned cd_Term_turned oc_Term_put kV_Term_put dc_Term_put pm_Term_put ct_Term_put cd_Term_put oc_Term_and kV_Term_and dc_Term_and pm_Term_and ct_Term_and cd_Term_and oc_Term_or kV_Term_or dc_Term_or pm_Term_or ct_Term_or cd_Term_or oc_Term_str kV_Term_str dc_Term_str pm_Term_str ct_Term_str cd_Term_str oc_Term_repr kV_Term_repr dc_Term_repr pm_Term_repr ct_Term_repr cd_Term_repr oc_Term_eq kV_Term_eq dc_Term_eq pm_Term_eq ct_Term_eq cd_Term_eq oc_Place_init kV_Place_init dc_Place_init pm_Place_init ct_Place_init oco_Place_init ocw_Place_init oc_Place_name kV_Place_name dc_Place_name pm_Place_name ct_Place_name cd_Place_name oc_End_init kV_End_init dc_End_init pm_End_init ct_End_init oco_End_init ocw_End_init oc_End_end kV_End_end dc_End_end pm_End_end ct_End_end cd_End_end oc_Lesser_init kV_Lesser_init dc_Lesser_init pm_Lesser_init ct_Lesser_init oco_Lesser_init ocw_Lesser_init oc_Lesser_parts kV_Lesser_parts dc_Lesser_parts pm_Lesser_parts ct_Lesser_parts cd_Lesser_parts oc_Greater_init kV_Greater_init dc_Greater_init pm_Greater_init ct_Greater_init oco_Greater_init ocw_Greater_init oc_Greater_parts kV_Greater_parts dc_Greater_parts pm_Greater_parts ct_Greater_parts cd_Greater_parts : Value}
  {n_ENDS n_PLACES nD : Nat}
  {rest_Term_depth : List Value} {vs_Place_init : Array Value} {tx_Place_init : Str} {tf_Place_init : Tok} {rest_Place_name : List Value} {vs_End_init : Array Value} {tx_End_init : Str} {tf_End_init : Tok} {rest_End_end : List Value} {vs_Lesser_init : Array Value} {tx_Lesser_init : Str} {tf_Lesser_init : Tok} {rest_Lesser_parts : List Value} {vs_Greater_init : Array Value} {tx_Greater_init : Str} {tf_Greater_init : Tok} {rest_Greater_parts : List Value}
  {nm_HeldError q_HeldError nm_InvalidPlace q_InvalidPlace nm_InvalidEnd q_InvalidEnd nm_InvalidTerm q_InvalidTerm nm_InvalidValues q_InvalidValues : Str} {N_HeldError N_InvalidPlace N_InvalidEnd N_InvalidTerm N_InvalidValues : Addr} {bs_HeldError bm_HeldError bs_InvalidPlace bm_InvalidPlace bs_InvalidEnd bm_InvalidEnd bs_InvalidTerm bm_InvalidTerm bs_InvalidValues bm_InvalidValues : List Value} {sn_HeldError sn_InvalidPlace sn_InvalidEnd sn_InvalidTerm sn_InvalidValues : List Str} {sub_HeldError sub_InvalidPlace sub_InvalidEnd sub_InvalidTerm sub_InvalidValues : List Value} {ab_HeldError ab_InvalidPlace ab_InvalidEnd ab_InvalidTerm ab_InvalidValues : Bool} {col_HeldError col_InvalidPlace col_InvalidEnd col_InvalidTerm col_InvalidValues : Option Bool} {k0_HeldError k1_HeldError k2_HeldError k3_HeldError k5_HeldError k0_InvalidPlace k1_InvalidPlace k2_InvalidPlace k3_InvalidPlace k5_InvalidPlace k0_InvalidEnd k1_InvalidEnd k2_InvalidEnd k3_InvalidEnd k5_InvalidEnd k0_InvalidTerm k1_InvalidTerm k2_InvalidTerm k3_InvalidTerm k5_InvalidTerm k0_InvalidValues k1_InvalidValues k2_InvalidValues k3_InvalidValues k5_InvalidValues : Option Value}
  (h_n__wall : PySem.W.nsIn K mainGlobals "_wall" = some (some (.ref f__wall)))
  (h_l__wall : K.lookup f__wall = some ⟨oc__wall, od__wall, .func (PySem.W.fnOf "_wall" "_wall" (defArgs s__wall) (defBody s__wall) (defScope s__wall) .none kV__wall dc__wall pm__wall an__wall cd__wall ct__wall), sl__wall⟩)
  (h_c__wall : PySem.W.codeIn K cd__wall "_wall" = true)
  (h_k__wall : PySem.W.keepIn K (.ref f__wall) = true)
  (h_n_is_integer : PySem.W.nsIn K mainGlobals "is_integer" = some (some (.ref f_is_integer)))
  (h_l_is_integer : K.lookup f_is_integer = some ⟨oc_is_integer, od_is_integer, .func (PySem.W.fnOf "is_integer" "is_integer" (defArgs s_is_integer) (defBody s_is_integer) (defScope s_is_integer) .none kV_is_integer dc_is_integer pm_is_integer an_is_integer cd_is_integer ct_is_integer), sl_is_integer⟩)
  (h_c_is_integer : PySem.W.codeIn K cd_is_integer "is_integer" = true)
  (h_k_is_integer : PySem.W.keepIn K (.ref f_is_integer) = true)
  (h_n_is_end : PySem.W.nsIn K mainGlobals "is_end" = some (some (.ref f_is_end)))
  (h_l_is_end : K.lookup f_is_end = some ⟨oc_is_end, od_is_end, .func (PySem.W.fnOf "is_end" "is_end" (defArgs s_is_end) (defBody s_is_end) (defScope s_is_end) .none kV_is_end dc_is_end pm_is_end an_is_end cd_is_end ct_is_end), sl_is_end⟩)
  (h_c_is_end : PySem.W.codeIn K cd_is_end "is_end" = true)
  (h_k_is_end : PySem.W.keepIn K (.ref f_is_end) = true)
  (h_n_is_value : PySem.W.nsIn K mainGlobals "is_value" = some (some (.ref f_is_value)))
  (h_l_is_value : K.lookup f_is_value = some ⟨oc_is_value, od_is_value, .func (PySem.W.fnOf "is_value" "is_value" (defArgs s_is_value) (defBody s_is_value) (defScope s_is_value) .none kV_is_value dc_is_value pm_is_value an_is_value cd_is_value ct_is_value), sl_is_value⟩)
  (h_c_is_value : PySem.W.codeIn K cd_is_value "is_value" = true)
  (h_k_is_value : PySem.W.keepIn K (.ref f_is_value) = true)
  (h_n_is_not_less : PySem.W.nsIn K mainGlobals "is_not_less" = some (some (.ref f_is_not_less)))
  (h_l_is_not_less : K.lookup f_is_not_less = some ⟨oc_is_not_less, od_is_not_less, .func (PySem.W.fnOf "is_not_less" "is_not_less" (defArgs s_is_not_less) (defBody s_is_not_less) (defScope s_is_not_less) .none kV_is_not_less dc_is_not_less pm_is_not_less an_is_not_less cd_is_not_less ct_is_not_less), sl_is_not_less⟩)
  (h_c_is_not_less : PySem.W.codeIn K cd_is_not_less "is_not_less" = true)
  (h_k_is_not_less : PySem.W.keepIn K (.ref f_is_not_less) = true)
  (h_n_least_of : PySem.W.nsIn K mainGlobals "least_of" = some (some (.ref f_least_of)))
  (h_l_least_of : K.lookup f_least_of = some ⟨oc_least_of, od_least_of, .func (PySem.W.fnOf "least_of" "least_of" (defArgs s_least_of) (defBody s_least_of) (defScope s_least_of) .none kV_least_of dc_least_of pm_least_of an_least_of cd_least_of ct_least_of), sl_least_of⟩)
  (h_c_least_of : PySem.W.codeIn K cd_least_of "least_of" = true)
  (h_k_least_of : PySem.W.keepIn K (.ref f_least_of) = true)
  (h_n_greatest_of : PySem.W.nsIn K mainGlobals "greatest_of" = some (some (.ref f_greatest_of)))
  (h_l_greatest_of : K.lookup f_greatest_of = some ⟨oc_greatest_of, od_greatest_of, .func (PySem.W.fnOf "greatest_of" "greatest_of" (defArgs s_greatest_of) (defBody s_greatest_of) (defScope s_greatest_of) .none kV_greatest_of dc_greatest_of pm_greatest_of an_greatest_of cd_greatest_of ct_greatest_of), sl_greatest_of⟩)
  (h_c_greatest_of : PySem.W.codeIn K cd_greatest_of "greatest_of" = true)
  (h_k_greatest_of : PySem.W.keepIn K (.ref f_greatest_of) = true)
  (h_n_is_place : PySem.W.nsIn K mainGlobals "is_place" = some (some (.ref f_is_place)))
  (h_l_is_place : K.lookup f_is_place = some ⟨oc_is_place, od_is_place, .func (PySem.W.fnOf "is_place" "is_place" (defArgs s_is_place) (defBody s_is_place) (defScope s_is_place) .none kV_is_place dc_is_place pm_is_place an_is_place cd_is_place ct_is_place), sl_is_place⟩)
  (h_c_is_place : PySem.W.codeIn K cd_is_place "is_place" = true)
  (h_k_is_place : PySem.W.keepIn K (.ref f_is_place) = true)
  (h_n_want_term : PySem.W.nsIn K mainGlobals "want_term" = some (some (.ref f_want_term)))
  (h_l_want_term : K.lookup f_want_term = some ⟨oc_want_term, od_want_term, .func (PySem.W.fnOf "want_term" "want_term" (defArgs s_want_term) (defBody s_want_term) (defScope s_want_term) .none kV_want_term dc_want_term pm_want_term an_want_term cd_want_term ct_want_term), sl_want_term⟩)
  (h_c_want_term : PySem.W.codeIn K cd_want_term "want_term" = true)
  (h_k_want_term : PySem.W.keepIn K (.ref f_want_term) = true)
  (h_n_want_terms : PySem.W.nsIn K mainGlobals "want_terms" = some (some (.ref f_want_terms)))
  (h_l_want_terms : K.lookup f_want_terms = some ⟨oc_want_terms, od_want_terms, .func (PySem.W.fnOf "want_terms" "want_terms" (defArgs s_want_terms) (defBody s_want_terms) (defScope s_want_terms) .none kV_want_terms dc_want_terms pm_want_terms an_want_terms cd_want_terms ct_want_terms), sl_want_terms⟩)
  (h_c_want_terms : PySem.W.codeIn K cd_want_terms "want_terms" = true)
  (h_k_want_terms : PySem.W.keepIn K (.ref f_want_terms) = true)
  (h_n_depth_above : PySem.W.nsIn K mainGlobals "depth_above" = some (some (.ref f_depth_above)))
  (h_l_depth_above : K.lookup f_depth_above = some ⟨oc_depth_above, od_depth_above, .func (PySem.W.fnOf "depth_above" "depth_above" (defArgs s_depth_above) (defBody s_depth_above) (defScope s_depth_above) .none kV_depth_above dc_depth_above pm_depth_above an_depth_above cd_depth_above ct_depth_above), sl_depth_above⟩)
  (h_c_depth_above : PySem.W.codeIn K cd_depth_above "depth_above" = true)
  (h_k_depth_above : PySem.W.keepIn K (.ref f_depth_above) = true)
  (h_n_want_values : PySem.W.nsIn K mainGlobals "want_values" = some (some (.ref f_want_values)))
  (h_l_want_values : K.lookup f_want_values = some ⟨oc_want_values, od_want_values, .func (PySem.W.fnOf "want_values" "want_values" (defArgs s_want_values) (defBody s_want_values) (defScope s_want_values) .none kV_want_values dc_want_values pm_want_values an_want_values cd_want_values ct_want_values), sl_want_values⟩)
  (h_c_want_values : PySem.W.codeIn K cd_want_values "want_values" = true)
  (h_k_want_values : PySem.W.keepIn K (.ref f_want_values) = true)
  (h_n_value_at : PySem.W.nsIn K mainGlobals "value_at" = some (some (.ref f_value_at)))
  (h_l_value_at : K.lookup f_value_at = some ⟨oc_value_at, od_value_at, .func (PySem.W.fnOf "value_at" "value_at" (defArgs s_value_at) (defBody s_value_at) (defScope s_value_at) .none kV_value_at dc_value_at pm_value_at an_value_at cd_value_at ct_value_at), sl_value_at⟩)
  (h_c_value_at : PySem.W.codeIn K cd_value_at "value_at" = true)
  (h_k_value_at : PySem.W.keepIn K (.ref f_value_at) = true)
  (h_n_places_in : PySem.W.nsIn K mainGlobals "places_in" = some (some (.ref f_places_in)))
  (h_l_places_in : K.lookup f_places_in = some ⟨oc_places_in, od_places_in, .func (PySem.W.fnOf "places_in" "places_in" (defArgs s_places_in) (defBody s_places_in) (defScope s_places_in) .none kV_places_in dc_places_in pm_places_in an_places_in cd_places_in ct_places_in), sl_places_in⟩)
  (h_c_places_in : PySem.W.codeIn K cd_places_in "places_in" = true)
  (h_k_places_in : PySem.W.keepIn K (.ref f_places_in) = true)
  (h_n_term_text : PySem.W.nsIn K mainGlobals "term_text" = some (some (.ref f_term_text)))
  (h_l_term_text : K.lookup f_term_text = some ⟨oc_term_text, od_term_text, .func (PySem.W.fnOf "term_text" "term_text" (defArgs s_term_text) (defBody s_term_text) (defScope s_term_text) .none kV_term_text dc_term_text pm_term_text an_term_text cd_term_text ct_term_text), sl_term_text⟩)
  (h_c_term_text : PySem.W.codeIn K cd_term_text "term_text" = true)
  (h_k_term_text : PySem.W.keepIn K (.ref f_term_text) = true)
  (h_n_term_repr : PySem.W.nsIn K mainGlobals "term_repr" = some (some (.ref f_term_repr)))
  (h_l_term_repr : K.lookup f_term_repr = some ⟨oc_term_repr, od_term_repr, .func (PySem.W.fnOf "term_repr" "term_repr" (defArgs s_term_repr) (defBody s_term_repr) (defScope s_term_repr) .none kV_term_repr dc_term_repr pm_term_repr an_term_repr cd_term_repr ct_term_repr), sl_term_repr⟩)
  (h_c_term_repr : PySem.W.codeIn K cd_term_repr "term_repr" = true)
  (h_k_term_repr : PySem.W.keepIn K (.ref f_term_repr) = true)
  (h_n_is_within : PySem.W.nsIn K mainGlobals "is_within" = some (some (.ref f_is_within)))
  (h_l_is_within : K.lookup f_is_within = some ⟨oc_is_within, od_is_within, .func (PySem.W.fnOf "is_within" "is_within" (defArgs s_is_within) (defBody s_is_within) (defScope s_is_within) .none kV_is_within dc_is_within pm_is_within an_is_within cd_is_within ct_is_within), sl_is_within⟩)
  (h_c_is_within : PySem.W.codeIn K cd_is_within "is_within" = true)
  (h_k_is_within : PySem.W.keepIn K (.ref f_is_within) = true)
  (h_n_least_sets : PySem.W.nsIn K mainGlobals "least_sets" = some (some (.ref f_least_sets)))
  (h_l_least_sets : K.lookup f_least_sets = some ⟨oc_least_sets, od_least_sets, .func (PySem.W.fnOf "least_sets" "least_sets" (defArgs s_least_sets) (defBody s_least_sets) (defScope s_least_sets) .none kV_least_sets dc_least_sets pm_least_sets an_least_sets cd_least_sets ct_least_sets), sl_least_sets⟩)
  (h_c_least_sets : PySem.W.codeIn K cd_least_sets "least_sets" = true)
  (h_k_least_sets : PySem.W.keepIn K (.ref f_least_sets) = true)
  (h_n_found_form : PySem.W.nsIn K mainGlobals "found_form" = some (some (.ref f_found_form)))
  (h_l_found_form : K.lookup f_found_form = some ⟨oc_found_form, od_found_form, .func (PySem.W.fnOf "found_form" "found_form" (defArgs s_found_form) (defBody s_found_form) (defScope s_found_form) .none kV_found_form dc_found_form pm_found_form an_found_form cd_found_form ct_found_form), sl_found_form⟩)
  (h_c_found_form : PySem.W.codeIn K cd_found_form "found_form" = true)
  (h_k_found_form : PySem.W.keepIn K (.ref f_found_form) = true)
  (h_n_is_above : PySem.W.nsIn K mainGlobals "is_above" = some (some (.ref f_is_above)))
  (h_l_is_above : K.lookup f_is_above = some ⟨oc_is_above, od_is_above, .func (PySem.W.fnOf "is_above" "is_above" (defArgs s_is_above) (defBody s_is_above) (defScope s_is_above) .none kV_is_above dc_is_above pm_is_above an_is_above cd_is_above ct_is_above), sl_is_above⟩)
  (h_c_is_above : PySem.W.codeIn K cd_is_above "is_above" = true)
  (h_k_is_above : PySem.W.keepIn K (.ref f_is_above) = true)
  (h_n_is_same : PySem.W.nsIn K mainGlobals "is_same" = some (some (.ref f_is_same)))
  (h_l_is_same : K.lookup f_is_same = some ⟨oc_is_same, od_is_same, .func (PySem.W.fnOf "is_same" "is_same" (defArgs s_is_same) (defBody s_is_same) (defScope s_is_same) .none kV_is_same dc_is_same pm_is_same an_is_same cd_is_same ct_is_same), sl_is_same⟩)
  (h_c_is_same : PySem.W.codeIn K cd_is_same "is_same" = true)
  (h_k_is_same : PySem.W.keepIn K (.ref f_is_same) = true)
  (h_n_is_never_above : PySem.W.nsIn K mainGlobals "is_never_above" = some (some (.ref f_is_never_above)))
  (h_l_is_never_above : K.lookup f_is_never_above = some ⟨oc_is_never_above, od_is_never_above, .func (PySem.W.fnOf "is_never_above" "is_never_above" (defArgs s_is_never_above) (defBody s_is_never_above) (defScope s_is_never_above) .none kV_is_never_above dc_is_never_above pm_is_never_above an_is_never_above cd_is_never_above ct_is_never_above), sl_is_never_above⟩)
  (h_c_is_never_above : PySem.W.codeIn K cd_is_never_above "is_never_above" = true)
  (h_k_is_never_above : PySem.W.keepIn K (.ref f_is_never_above) = true)
  (h_n_showing : PySem.W.nsIn K mainGlobals "showing" = some (some (.ref f_showing)))
  (h_l_showing : K.lookup f_showing = some ⟨oc_showing, od_showing, .func (PySem.W.fnOf "showing" "showing" (defArgs s_showing) (defBody s_showing) (defScope s_showing) .none kV_showing dc_showing pm_showing an_showing cd_showing ct_showing), sl_showing⟩)
  (h_c_showing : PySem.W.codeIn K cd_showing "showing" = true)
  (h_k_showing : PySem.W.keepIn K (.ref f_showing) = true)
  (h_n__law_pot : PySem.W.nsIn K mainGlobals "_law_pot" = some (some (.ref f__law_pot)))
  (h_l__law_pot : K.lookup f__law_pot = some ⟨oc__law_pot, od__law_pot, .func (PySem.W.fnOf "_law_pot" "_law_pot" (defArgs s__law_pot) (defBody s__law_pot) (defScope s__law_pot) .none kV__law_pot dc__law_pot pm__law_pot an__law_pot cd__law_pot ct__law_pot), sl__law_pot⟩)
  (h_c__law_pot : PySem.W.codeIn K cd__law_pot "_law_pot" = true)
  (h_k__law_pot : PySem.W.keepIn K (.ref f__law_pot) = true)
  (h_n__law_draw : PySem.W.nsIn K mainGlobals "_law_draw" = some (some (.ref f__law_draw)))
  (h_l__law_draw : K.lookup f__law_draw = some ⟨oc__law_draw, od__law_draw, .func (PySem.W.fnOf "_law_draw" "_law_draw" (defArgs s__law_draw) (defBody s__law_draw) (defScope s__law_draw) .none kV__law_draw dc__law_draw pm__law_draw an__law_draw cd__law_draw ct__law_draw), sl__law_draw⟩)
  (h_c__law_draw : PySem.W.codeIn K cd__law_draw "_law_draw" = true)
  (h_k__law_draw : PySem.W.keepIn K (.ref f__law_draw) = true)
  (h_n__law_pick : PySem.W.nsIn K mainGlobals "_law_pick" = some (some (.ref f__law_pick)))
  (h_l__law_pick : K.lookup f__law_pick = some ⟨oc__law_pick, od__law_pick, .func (PySem.W.fnOf "_law_pick" "_law_pick" (defArgs s__law_pick) (defBody s__law_pick) (defScope s__law_pick) .none kV__law_pick dc__law_pick pm__law_pick an__law_pick cd__law_pick ct__law_pick), sl__law_pick⟩)
  (h_c__law_pick : PySem.W.codeIn K cd__law_pick "_law_pick" = true)
  (h_k__law_pick : PySem.W.keepIn K (.ref f__law_pick) = true)
  (h_n__law_number : PySem.W.nsIn K mainGlobals "_law_number" = some (some (.ref f__law_number)))
  (h_l__law_number : K.lookup f__law_number = some ⟨oc__law_number, od__law_number, .func (PySem.W.fnOf "_law_number" "_law_number" (defArgs s__law_number) (defBody s__law_number) (defScope s__law_number) .none kV__law_number dc__law_number pm__law_number an__law_number cd__law_number ct__law_number), sl__law_number⟩)
  (h_c__law_number : PySem.W.codeIn K cd__law_number "_law_number" = true)
  (h_k__law_number : PySem.W.keepIn K (.ref f__law_number) = true)
  (h_n__law_places : PySem.W.nsIn K mainGlobals "_law_places" = some (some (.ref f__law_places)))
  (h_l__law_places : K.lookup f__law_places = some ⟨oc__law_places, od__law_places, .func (PySem.W.fnOf "_law_places" "_law_places" (defArgs s__law_places) (defBody s__law_places) (defScope s__law_places) .none kV__law_places dc__law_places pm__law_places an__law_places cd__law_places ct__law_places), sl__law_places⟩)
  (h_c__law_places : PySem.W.codeIn K cd__law_places "_law_places" = true)
  (h_k__law_places : PySem.W.keepIn K (.ref f__law_places) = true)
  (h_n__law_term : PySem.W.nsIn K mainGlobals "_law_term" = some (some (.ref f__law_term)))
  (h_l__law_term : K.lookup f__law_term = some ⟨oc__law_term, od__law_term, .func (PySem.W.fnOf "_law_term" "_law_term" (defArgs s__law_term) (defBody s__law_term) (defScope s__law_term) .none kV__law_term dc__law_term pm__law_term an__law_term cd__law_term ct__law_term), sl__law_term⟩)
  (h_c__law_term : PySem.W.codeIn K cd__law_term "_law_term" = true)
  (h_k__law_term : PySem.W.keepIn K (.ref f__law_term) = true)
  (h_n__law_joined : PySem.W.nsIn K mainGlobals "_law_joined" = some (some (.ref f__law_joined)))
  (h_l__law_joined : K.lookup f__law_joined = some ⟨oc__law_joined, od__law_joined, .func (PySem.W.fnOf "_law_joined" "_law_joined" (defArgs s__law_joined) (defBody s__law_joined) (defScope s__law_joined) .none kV__law_joined dc__law_joined pm__law_joined an__law_joined cd__law_joined ct__law_joined), sl__law_joined⟩)
  (h_c__law_joined : PySem.W.codeIn K cd__law_joined "_law_joined" = true)
  (h_k__law_joined : PySem.W.keepIn K (.ref f__law_joined) = true)
  (h_n__law_real : PySem.W.nsIn K mainGlobals "_law_real" = some (some (.ref f__law_real)))
  (h_l__law_real : K.lookup f__law_real = some ⟨oc__law_real, od__law_real, .func (PySem.W.fnOf "_law_real" "_law_real" (defArgs s__law_real) (defBody s__law_real) (defScope s__law_real) .none kV__law_real dc__law_real pm__law_real an__law_real cd__law_real ct__law_real), sl__law_real⟩)
  (h_c__law_real : PySem.W.codeIn K cd__law_real "_law_real" = true)
  (h_k__law_real : PySem.W.keepIn K (.ref f__law_real) = true)
  (h_n__law_of : PySem.W.nsIn K mainGlobals "_law_of" = some (some (.ref f__law_of)))
  (h_l__law_of : K.lookup f__law_of = some ⟨oc__law_of, od__law_of, .func (PySem.W.fnOf "_law_of" "_law_of" (defArgs s__law_of) (defBody s__law_of) (defScope s__law_of) .none kV__law_of dc__law_of pm__law_of an__law_of cd__law_of ct__law_of), sl__law_of⟩)
  (h_c__law_of : PySem.W.codeIn K cd__law_of "_law_of" = true)
  (h_k__law_of : PySem.W.keepIn K (.ref f__law_of) = true)
  (h_n__law_numbers : PySem.W.nsIn K mainGlobals "_law_numbers" = some (some (.ref f__law_numbers)))
  (h_l__law_numbers : K.lookup f__law_numbers = some ⟨oc__law_numbers, od__law_numbers, .func (PySem.W.fnOf "_law_numbers" "_law_numbers" (defArgs s__law_numbers) (defBody s__law_numbers) (defScope s__law_numbers) .none kV__law_numbers dc__law_numbers pm__law_numbers an__law_numbers cd__law_numbers ct__law_numbers), sl__law_numbers⟩)
  (h_c__law_numbers : PySem.W.codeIn K cd__law_numbers "_law_numbers" = true)
  (h_k__law_numbers : PySem.W.keepIn K (.ref f__law_numbers) = true)
  (h_n__law_spots : PySem.W.nsIn K mainGlobals "_law_spots" = some (some (.ref f__law_spots)))
  (h_l__law_spots : K.lookup f__law_spots = some ⟨oc__law_spots, od__law_spots, .func (PySem.W.fnOf "_law_spots" "_law_spots" (defArgs s__law_spots) (defBody s__law_spots) (defScope s__law_spots) .none kV__law_spots dc__law_spots pm__law_spots an__law_spots cd__law_spots ct__law_spots), sl__law_spots⟩)
  (h_c__law_spots : PySem.W.codeIn K cd__law_spots "_law_spots" = true)
  (h_k__law_spots : PySem.W.keepIn K (.ref f__law_spots) = true)
  (h_n__law_all_ends : PySem.W.nsIn K mainGlobals "_law_all_ends" = some (some (.ref f__law_all_ends)))
  (h_l__law_all_ends : K.lookup f__law_all_ends = some ⟨oc__law_all_ends, od__law_all_ends, .func (PySem.W.fnOf "_law_all_ends" "_law_all_ends" (defArgs s__law_all_ends) (defBody s__law_all_ends) (defScope s__law_all_ends) .none kV__law_all_ends dc__law_all_ends pm__law_all_ends an__law_all_ends cd__law_all_ends ct__law_all_ends), sl__law_all_ends⟩)
  (h_c__law_all_ends : PySem.W.codeIn K cd__law_all_ends "_law_all_ends" = true)
  (h_k__law_all_ends : PySem.W.keepIn K (.ref f__law_all_ends) = true)
  (h_n__law_beside : PySem.W.nsIn K mainGlobals "_law_beside" = some (some (.ref f__law_beside)))
  (h_l__law_beside : K.lookup f__law_beside = some ⟨oc__law_beside, od__law_beside, .func (PySem.W.fnOf "_law_beside" "_law_beside" (defArgs s__law_beside) (defBody s__law_beside) (defScope s__law_beside) .none kV__law_beside dc__law_beside pm__law_beside an__law_beside cd__law_beside ct__law_beside), sl__law_beside⟩)
  (h_c__law_beside : PySem.W.codeIn K cd__law_beside "_law_beside" = true)
  (h_k__law_beside : PySem.W.keepIn K (.ref f__law_beside) = true)
  (h_n__law_is_shown : PySem.W.nsIn K mainGlobals "_law_is_shown" = some (some (.ref f__law_is_shown)))
  (h_l__law_is_shown : K.lookup f__law_is_shown = some ⟨oc__law_is_shown, od__law_is_shown, .func (PySem.W.fnOf "_law_is_shown" "_law_is_shown" (defArgs s__law_is_shown) (defBody s__law_is_shown) (defScope s__law_is_shown) .none kV__law_is_shown dc__law_is_shown pm__law_is_shown an__law_is_shown cd__law_is_shown ct__law_is_shown), sl__law_is_shown⟩)
  (h_c__law_is_shown : PySem.W.codeIn K cd__law_is_shown "_law_is_shown" = true)
  (h_k__law_is_shown : PySem.W.keepIn K (.ref f__law_is_shown) = true)
  (h_n__law_pair_right : PySem.W.nsIn K mainGlobals "_law_pair_right" = some (some (.ref f__law_pair_right)))
  (h_l__law_pair_right : K.lookup f__law_pair_right = some ⟨oc__law_pair_right, od__law_pair_right, .func (PySem.W.fnOf "_law_pair_right" "_law_pair_right" (defArgs s__law_pair_right) (defBody s__law_pair_right) (defScope s__law_pair_right) .none kV__law_pair_right dc__law_pair_right pm__law_pair_right an__law_pair_right cd__law_pair_right ct__law_pair_right), sl__law_pair_right⟩)
  (h_c__law_pair_right : PySem.W.codeIn K cd__law_pair_right "_law_pair_right" = true)
  (h_k__law_pair_right : PySem.W.keepIn K (.ref f__law_pair_right) = true)
  (h_n__law_asked : PySem.W.nsIn K mainGlobals "_law_asked" = some (some (.ref f__law_asked)))
  (h_l__law_asked : K.lookup f__law_asked = some ⟨oc__law_asked, od__law_asked, .func (PySem.W.fnOf "_law_asked" "_law_asked" (defArgs s__law_asked) (defBody s__law_asked) (defScope s__law_asked) .none kV__law_asked dc__law_asked pm__law_asked an__law_asked cd__law_asked ct__law_asked), sl__law_asked⟩)
  (h_c__law_asked : PySem.W.codeIn K cd__law_asked "_law_asked" = true)
  (h_k__law_asked : PySem.W.keepIn K (.ref f__law_asked) = true)
  (h_n__law_told : PySem.W.nsIn K mainGlobals "_law_told" = some (some (.ref f__law_told)))
  (h_l__law_told : K.lookup f__law_told = some ⟨oc__law_told, od__law_told, .func (PySem.W.fnOf "_law_told" "_law_told" (defArgs s__law_told) (defBody s__law_told) (defScope s__law_told) .none kV__law_told dc__law_told pm__law_told an__law_told cd__law_told ct__law_told), sl__law_told⟩)
  (h_c__law_told : PySem.W.codeIn K cd__law_told "_law_told" = true)
  (h_k__law_told : PySem.W.keepIn K (.ref f__law_told) = true)
  (h_n__law_right : PySem.W.nsIn K mainGlobals "_law_right" = some (some (.ref f__law_right)))
  (h_l__law_right : K.lookup f__law_right = some ⟨oc__law_right, od__law_right, .func (PySem.W.fnOf "_law_right" "_law_right" (defArgs s__law_right) (defBody s__law_right) (defScope s__law_right) .none kV__law_right dc__law_right pm__law_right an__law_right cd__law_right ct__law_right), sl__law_right⟩)
  (h_c__law_right : PySem.W.codeIn K cd__law_right "_law_right" = true)
  (h_k__law_right : PySem.W.keepIn K (.ref f__law_right) = true)
  (h_n_law : PySem.W.nsIn K mainGlobals "law" = some (some (.ref f_law)))
  (h_l_law : K.lookup f_law = some ⟨oc_law, od_law, .func (PySem.W.fnOf "law" "law" (defArgs s_law) (defBody s_law) (defScope s_law) .none kV_law dc_law pm_law an_law cd_law ct_law), sl_law⟩)
  (h_c_law : PySem.W.codeIn K cd_law "law" = true)
  (h_k_law : PySem.W.keepIn K (.ref f_law) = true)
  (h_z_abs : PySem.W.nsIn K mainGlobals "abs" = some none)
  (h_z_all : PySem.W.nsIn K mainGlobals "all" = some none)
  (h_z_any : PySem.W.nsIn K mainGlobals "any" = some none)
  (h_z_bool : PySem.W.nsIn K mainGlobals "bool" = some none)
  (h_z_dict : PySem.W.nsIn K mainGlobals "dict" = some none)
  (h_z_divmod : PySem.W.nsIn K mainGlobals "divmod" = some none)
  (h_z_int : PySem.W.nsIn K mainGlobals "int" = some none)
  (h_z_isinstance : PySem.W.nsIn K mainGlobals "isinstance" = some none)
  (h_z_len : PySem.W.nsIn K mainGlobals "len" = some none)
  (h_z_list : PySem.W.nsIn K mainGlobals "list" = some none)
  (h_z_max : PySem.W.nsIn K mainGlobals "max" = some none)
  (h_z_min : PySem.W.nsIn K mainGlobals "min" = some none)
  (h_z_property : PySem.W.nsIn K mainGlobals "property" = some none)
  (h_z_range : PySem.W.nsIn K mainGlobals "range" = some none)
  (h_z_repr : PySem.W.nsIn K mainGlobals "repr" = some none)
  (h_z_set : PySem.W.nsIn K mainGlobals "set" = some none)
  (h_z_sorted : PySem.W.nsIn K mainGlobals "sorted" = some none)
  (h_z_str : PySem.W.nsIn K mainGlobals "str" = some none)
  (h_z_super : PySem.W.nsIn K mainGlobals "super" = some none)
  (h_z_tuple : PySem.W.nsIn K mainGlobals "tuple" = some none)
  (h_v_BOTTOM : PySem.W.nsIn K mainGlobals "BOTTOM" = some (some (.str "bottom" t_BOTTOM)))
  (h_v_TOP : PySem.W.nsIn K mainGlobals "TOP" = some (some (.str "top" t_TOP)))
  (h_v_LEAST_PARTS : PySem.W.nsIn K mainGlobals "LEAST_PARTS" = some (some (.int 2 t_LEAST_PARTS)))
  (h_v_ENDS : PySem.W.nsIn K mainGlobals "ENDS" = some (some (.ref g_ENDS)))
  (h_l_ENDS : K.lookup g_ENDS = some ⟨.type "tuple", od_ENDS, .seq #[.str "bottom" t_ENDS_0, .str "top" t_ENDS_1] n_ENDS, sl_ENDS⟩)
  (h_v_PLACES : PySem.W.nsIn K mainGlobals "PLACES" = some (some (.ref g_PLACES)))
  (h_l_PLACES : K.lookup g_PLACES = some ⟨.type "tuple", od_PLACES, .seq #[.str "r0" t_PLACES_0, .str "r1" t_PLACES_1, .str "r2" t_PLACES_2, .str "r3" t_PLACES_3, .str "r4" t_PLACES_4, .str "r5" t_PLACES_5, .str "x0" t_PLACES_6, .str "x1" t_PLACES_7] n_PLACES, sl_PLACES⟩)
  (e_hn : PySem.W.specialIn K (.builtin "object.__class__") "__get__" = some (some (.builtin "getset_descriptor.__get__")))
  (e_ht : PySem.W.takesIn K (.builtin "object.__class__") = some true)
  (e_n_HeldError : PySem.W.nsIn K mainGlobals "HeldError" = some (some (.ref C_HeldError)))
  (e_l_HeldError : K.lookup C_HeldError = some (PySem.excClassObj nm_HeldError q_HeldError C_HeldError N_HeldError bs_HeldError bm_HeldError true sn_HeldError sub_HeldError ab_HeldError col_HeldError dd_HeldError k0_HeldError k1_HeldError k2_HeldError k3_HeldError k5_HeldError "ValueError.__new__"))
  (e_r_HeldError : PySem.HandSPX.refsVE bm_HeldError = true)
  (e_sa_HeldError : PySem.W.findIn K (.ref C_HeldError) "__setattr__" = some (some (.builtin "object.__setattr__")))
  (e_e1_HeldError : PySem.W.subIn K (.ref C_HeldError) (.type "BaseException") = some true)
  (e_e2_HeldError : PySem.W.typeIn K (.ref C_HeldError) = some (.type "type"))
  (e_e3_HeldError : PySem.W.keepIn K (.ref C_HeldError) = true)
  (e_i_HeldError : PySem.W.findIn K (.ref C_HeldError) "__init__" = some (some (.ref f_init)))
  (e_v_HeldError : PySem.W.findIn K (.ref C_HeldError) "value" = some none)
  (e_ga_HeldError : PySem.W.findIn K (.ref C_HeldError) "__getattribute__" = some (some (.builtin "BaseException.__getattribute__")))
  (e_gg_HeldError : PySem.W.findIn K (.ref C_HeldError) "__getattr__" = some none)
  (e_hd_HeldError : PySem.W.hasDictIn K C_HeldError = true)
  (e_ha_HeldError : PySem.W.findIn K (.ref C_HeldError) "__class__" = some (some (.builtin "object.__class__")))
  (e_hm_HeldError : PySem.W.mroIn K C_HeldError (.type "object") = some true)
  (e_n_InvalidPlace : PySem.W.nsIn K mainGlobals "InvalidPlace" = some (some (.ref C_InvalidPlace)))
  (e_l_InvalidPlace : K.lookup C_InvalidPlace = some (PySem.excClassObj nm_InvalidPlace q_InvalidPlace C_InvalidPlace N_InvalidPlace bs_InvalidPlace bm_InvalidPlace true sn_InvalidPlace sub_InvalidPlace ab_InvalidPlace col_InvalidPlace dd_InvalidPlace k0_InvalidPlace k1_InvalidPlace k2_InvalidPlace k3_InvalidPlace k5_InvalidPlace "ValueError.__new__"))
  (e_r_InvalidPlace : PySem.HandSPX.refsVE bm_InvalidPlace = true)
  (e_sa_InvalidPlace : PySem.W.findIn K (.ref C_InvalidPlace) "__setattr__" = some (some (.builtin "object.__setattr__")))
  (e_e1_InvalidPlace : PySem.W.subIn K (.ref C_InvalidPlace) (.type "BaseException") = some true)
  (e_e2_InvalidPlace : PySem.W.typeIn K (.ref C_InvalidPlace) = some (.type "type"))
  (e_e3_InvalidPlace : PySem.W.keepIn K (.ref C_InvalidPlace) = true)
  (e_i_InvalidPlace : PySem.W.findIn K (.ref C_InvalidPlace) "__init__" = some (some (.ref f_init)))
  (e_v_InvalidPlace : PySem.W.findIn K (.ref C_InvalidPlace) "value" = some none)
  (e_ga_InvalidPlace : PySem.W.findIn K (.ref C_InvalidPlace) "__getattribute__" = some (some (.builtin "BaseException.__getattribute__")))
  (e_gg_InvalidPlace : PySem.W.findIn K (.ref C_InvalidPlace) "__getattr__" = some none)
  (e_hd_InvalidPlace : PySem.W.hasDictIn K C_InvalidPlace = true)
  (e_ha_InvalidPlace : PySem.W.findIn K (.ref C_InvalidPlace) "__class__" = some (some (.builtin "object.__class__")))
  (e_hm_InvalidPlace : PySem.W.mroIn K C_InvalidPlace (.type "object") = some true)
  (e_n_InvalidEnd : PySem.W.nsIn K mainGlobals "InvalidEnd" = some (some (.ref C_InvalidEnd)))
  (e_l_InvalidEnd : K.lookup C_InvalidEnd = some (PySem.excClassObj nm_InvalidEnd q_InvalidEnd C_InvalidEnd N_InvalidEnd bs_InvalidEnd bm_InvalidEnd true sn_InvalidEnd sub_InvalidEnd ab_InvalidEnd col_InvalidEnd dd_InvalidEnd k0_InvalidEnd k1_InvalidEnd k2_InvalidEnd k3_InvalidEnd k5_InvalidEnd "ValueError.__new__"))
  (e_r_InvalidEnd : PySem.HandSPX.refsVE bm_InvalidEnd = true)
  (e_sa_InvalidEnd : PySem.W.findIn K (.ref C_InvalidEnd) "__setattr__" = some (some (.builtin "object.__setattr__")))
  (e_e1_InvalidEnd : PySem.W.subIn K (.ref C_InvalidEnd) (.type "BaseException") = some true)
  (e_e2_InvalidEnd : PySem.W.typeIn K (.ref C_InvalidEnd) = some (.type "type"))
  (e_e3_InvalidEnd : PySem.W.keepIn K (.ref C_InvalidEnd) = true)
  (e_i_InvalidEnd : PySem.W.findIn K (.ref C_InvalidEnd) "__init__" = some (some (.ref f_init)))
  (e_v_InvalidEnd : PySem.W.findIn K (.ref C_InvalidEnd) "value" = some none)
  (e_ga_InvalidEnd : PySem.W.findIn K (.ref C_InvalidEnd) "__getattribute__" = some (some (.builtin "BaseException.__getattribute__")))
  (e_gg_InvalidEnd : PySem.W.findIn K (.ref C_InvalidEnd) "__getattr__" = some none)
  (e_hd_InvalidEnd : PySem.W.hasDictIn K C_InvalidEnd = true)
  (e_ha_InvalidEnd : PySem.W.findIn K (.ref C_InvalidEnd) "__class__" = some (some (.builtin "object.__class__")))
  (e_hm_InvalidEnd : PySem.W.mroIn K C_InvalidEnd (.type "object") = some true)
  (e_n_InvalidTerm : PySem.W.nsIn K mainGlobals "InvalidTerm" = some (some (.ref C_InvalidTerm)))
  (e_l_InvalidTerm : K.lookup C_InvalidTerm = some (PySem.excClassObj nm_InvalidTerm q_InvalidTerm C_InvalidTerm N_InvalidTerm bs_InvalidTerm bm_InvalidTerm true sn_InvalidTerm sub_InvalidTerm ab_InvalidTerm col_InvalidTerm dd_InvalidTerm k0_InvalidTerm k1_InvalidTerm k2_InvalidTerm k3_InvalidTerm k5_InvalidTerm "ValueError.__new__"))
  (e_r_InvalidTerm : PySem.HandSPX.refsVE bm_InvalidTerm = true)
  (e_sa_InvalidTerm : PySem.W.findIn K (.ref C_InvalidTerm) "__setattr__" = some (some (.builtin "object.__setattr__")))
  (e_e1_InvalidTerm : PySem.W.subIn K (.ref C_InvalidTerm) (.type "BaseException") = some true)
  (e_e2_InvalidTerm : PySem.W.typeIn K (.ref C_InvalidTerm) = some (.type "type"))
  (e_e3_InvalidTerm : PySem.W.keepIn K (.ref C_InvalidTerm) = true)
  (e_i_InvalidTerm : PySem.W.findIn K (.ref C_InvalidTerm) "__init__" = some (some (.ref f_init)))
  (e_v_InvalidTerm : PySem.W.findIn K (.ref C_InvalidTerm) "value" = some none)
  (e_ga_InvalidTerm : PySem.W.findIn K (.ref C_InvalidTerm) "__getattribute__" = some (some (.builtin "BaseException.__getattribute__")))
  (e_gg_InvalidTerm : PySem.W.findIn K (.ref C_InvalidTerm) "__getattr__" = some none)
  (e_hd_InvalidTerm : PySem.W.hasDictIn K C_InvalidTerm = true)
  (e_ha_InvalidTerm : PySem.W.findIn K (.ref C_InvalidTerm) "__class__" = some (some (.builtin "object.__class__")))
  (e_hm_InvalidTerm : PySem.W.mroIn K C_InvalidTerm (.type "object") = some true)
  (e_n_InvalidValues : PySem.W.nsIn K mainGlobals "InvalidValues" = some (some (.ref C_InvalidValues)))
  (e_l_InvalidValues : K.lookup C_InvalidValues = some (PySem.excClassObj nm_InvalidValues q_InvalidValues C_InvalidValues N_InvalidValues bs_InvalidValues bm_InvalidValues true sn_InvalidValues sub_InvalidValues ab_InvalidValues col_InvalidValues dd_InvalidValues k0_InvalidValues k1_InvalidValues k2_InvalidValues k3_InvalidValues k5_InvalidValues "ValueError.__new__"))
  (e_r_InvalidValues : PySem.HandSPX.refsVE bm_InvalidValues = true)
  (e_sa_InvalidValues : PySem.W.findIn K (.ref C_InvalidValues) "__setattr__" = some (some (.builtin "object.__setattr__")))
  (e_e1_InvalidValues : PySem.W.subIn K (.ref C_InvalidValues) (.type "BaseException") = some true)
  (e_e2_InvalidValues : PySem.W.typeIn K (.ref C_InvalidValues) = some (.type "type"))
  (e_e3_InvalidValues : PySem.W.keepIn K (.ref C_InvalidValues) = true)
  (e_i_InvalidValues : PySem.W.findIn K (.ref C_InvalidValues) "__init__" = some (some (.ref f_init)))
  (e_v_InvalidValues : PySem.W.findIn K (.ref C_InvalidValues) "value" = some none)
  (e_ga_InvalidValues : PySem.W.findIn K (.ref C_InvalidValues) "__getattribute__" = some (some (.builtin "BaseException.__getattribute__")))
  (e_gg_InvalidValues : PySem.W.findIn K (.ref C_InvalidValues) "__getattr__" = some none)
  (e_hd_InvalidValues : PySem.W.hasDictIn K C_InvalidValues = true)
  (e_ha_InvalidValues : PySem.W.findIn K (.ref C_InvalidValues) "__class__" = some (some (.builtin "object.__class__")))
  (e_hm_InvalidValues : PySem.W.mroIn K C_InvalidValues (.type "object") = some true)
  (h_ti : PySem.W.typeIn K (.ref f_init) = some (.type "function"))
  (h_il : K.lookup f_init = some ⟨oc_init, od_init, .func (PySem.W.fnOf "__init__" "HeldError.__init__" (defArgs s_init) (defBody s_init) (defScope s_init) (.ref TD) kV_init dc_init pm_init an_init cd_init ct_init), sl_init⟩)
  (h_ic : PySem.W.codeIn K cd_init "HeldError.__init__" = true)
  (h_ik : PySem.W.keepIn K (.ref f_init) = true)
  (h_iD : K.lookup TD = some ⟨ocD, odD, .seq #[.none] nD, slD⟩)
  (h_any : PySem.W.nsIn K cStatics "thirdparty.any" = some none)
  (h_n_Term : PySem.W.nsIn K mainGlobals "Term" = some (some (.ref k_Term)))
  (c_pg_Term : PySem.W.plainGet K k_Term Str.empty = true)
  (c_hd_Term : PySem.W.hasDictIn K k_Term = true)
  (c_po_Term : PySem.W.plainOver K k_Term = true)
  (c_sa_Term : PySem.W.findIn K (.ref k_Term) "__setattr__" = some (some (.builtin "object.__setattr__")))
  (c_ha_Term : PySem.W.findIn K (.ref k_Term) "__class__" = some (some (.builtin "object.__class__")))
  (c_hm_Term : PySem.W.mroIn K k_Term (.type "object") = some true)
  (c_ne_Term : PySem.W.findIn K (.ref k_Term) "__ne__" = some (some (.builtin "object.__ne__")))
  (c_ty_Term : PySem.W.typeIn K (.ref k_Term) = some (.type "type"))
  (c_sf_Term : PySem.W.selfFirst K k_Term = true)
  (h_n_Place : PySem.W.nsIn K mainGlobals "Place" = some (some (.ref k_Place)))
  (c_pg_Place : PySem.W.plainGet K k_Place Str.empty = true)
  (c_hd_Place : PySem.W.hasDictIn K k_Place = true)
  (c_po_Place : PySem.W.plainOver K k_Place = true)
  (c_sa_Place : PySem.W.findIn K (.ref k_Place) "__setattr__" = some (some (.builtin "object.__setattr__")))
  (c_ha_Place : PySem.W.findIn K (.ref k_Place) "__class__" = some (some (.builtin "object.__class__")))
  (c_hm_Place : PySem.W.mroIn K k_Place (.type "object") = some true)
  (c_ne_Place : PySem.W.findIn K (.ref k_Place) "__ne__" = some (some (.builtin "object.__ne__")))
  (c_ty_Place : PySem.W.typeIn K (.ref k_Place) = some (.type "type"))
  (c_sf_Place : PySem.W.selfFirst K k_Place = true)
  (h_n_End : PySem.W.nsIn K mainGlobals "End" = some (some (.ref k_End)))
  (c_pg_End : PySem.W.plainGet K k_End Str.empty = true)
  (c_hd_End : PySem.W.hasDictIn K k_End = true)
  (c_po_End : PySem.W.plainOver K k_End = true)
  (c_sa_End : PySem.W.findIn K (.ref k_End) "__setattr__" = some (some (.builtin "object.__setattr__")))
  (c_ha_End : PySem.W.findIn K (.ref k_End) "__class__" = some (some (.builtin "object.__class__")))
  (c_hm_End : PySem.W.mroIn K k_End (.type "object") = some true)
  (c_ne_End : PySem.W.findIn K (.ref k_End) "__ne__" = some (some (.builtin "object.__ne__")))
  (c_ty_End : PySem.W.typeIn K (.ref k_End) = some (.type "type"))
  (c_sf_End : PySem.W.selfFirst K k_End = true)
  (h_n_Lesser : PySem.W.nsIn K mainGlobals "Lesser" = some (some (.ref k_Lesser)))
  (c_pg_Lesser : PySem.W.plainGet K k_Lesser Str.empty = true)
  (c_hd_Lesser : PySem.W.hasDictIn K k_Lesser = true)
  (c_po_Lesser : PySem.W.plainOver K k_Lesser = true)
  (c_sa_Lesser : PySem.W.findIn K (.ref k_Lesser) "__setattr__" = some (some (.builtin "object.__setattr__")))
  (c_ha_Lesser : PySem.W.findIn K (.ref k_Lesser) "__class__" = some (some (.builtin "object.__class__")))
  (c_hm_Lesser : PySem.W.mroIn K k_Lesser (.type "object") = some true)
  (c_ne_Lesser : PySem.W.findIn K (.ref k_Lesser) "__ne__" = some (some (.builtin "object.__ne__")))
  (c_ty_Lesser : PySem.W.typeIn K (.ref k_Lesser) = some (.type "type"))
  (c_sf_Lesser : PySem.W.selfFirst K k_Lesser = true)
  (h_n_Greater : PySem.W.nsIn K mainGlobals "Greater" = some (some (.ref k_Greater)))
  (c_pg_Greater : PySem.W.plainGet K k_Greater Str.empty = true)
  (c_hd_Greater : PySem.W.hasDictIn K k_Greater = true)
  (c_po_Greater : PySem.W.plainOver K k_Greater = true)
  (c_sa_Greater : PySem.W.findIn K (.ref k_Greater) "__setattr__" = some (some (.builtin "object.__setattr__")))
  (c_ha_Greater : PySem.W.findIn K (.ref k_Greater) "__class__" = some (some (.builtin "object.__class__")))
  (c_hm_Greater : PySem.W.mroIn K k_Greater (.type "object") = some true)
  (c_ne_Greater : PySem.W.findIn K (.ref k_Greater) "__ne__" = some (some (.builtin "object.__ne__")))
  (c_ty_Greater : PySem.W.typeIn K (.ref k_Greater) = some (.type "type"))
  (c_sf_Greater : PySem.W.selfFirst K k_Greater = true)
  (f_Term_init : PySem.W.findIn K (.ref k_Term) "__init__" = some (some (.ref m_Term_init)))
  (p_at_Term_depth : PySem.W.findIn K (.ref k_Term) "depth" = some (some (.ref p_Term_depth)))
  (f_Term_at : PySem.W.findIn K (.ref k_Term) "at" = some (some (.ref m_Term_at)))
  (f_Term_places : PySem.W.findIn K (.ref k_Term) "places" = some (some (.ref m_Term_places)))
  (f_Term_turned : PySem.W.findIn K (.ref k_Term) "turned" = some (some (.ref m_Term_turned)))
  (f_Term_put : PySem.W.findIn K (.ref k_Term) "put" = some (some (.ref m_Term_put)))
  (f_Term_and : PySem.W.findIn K (.ref k_Term) "__and__" = some (some (.ref m_Term_and)))
  (f_Term_or : PySem.W.findIn K (.ref k_Term) "__or__" = some (some (.ref m_Term_or)))
  (f_Term_str : PySem.W.findIn K (.ref k_Term) "__str__" = some (some (.ref m_Term_str)))
  (f_Term_repr : PySem.W.findIn K (.ref k_Term) "__repr__" = some (some (.ref m_Term_repr)))
  (f_Term_eq : PySem.W.findIn K (.ref k_Term) "__eq__" = some (some (.ref m_Term_eq)))
  (f_Place_init : PySem.W.findIn K (.ref k_Place) "__init__" = some (some (.ref m_Place_init)))
  (p_at_Place_name : PySem.W.findIn K (.ref k_Place) "name" = some (some (.ref p_Place_name)))
  (p_at_Place_depth : PySem.W.findIn K (.ref k_Place) "depth" = some (some (.ref p_Term_depth)))
  (f_Place_at : PySem.W.findIn K (.ref k_Place) "at" = some (some (.ref m_Term_at)))
  (f_Place_places : PySem.W.findIn K (.ref k_Place) "places" = some (some (.ref m_Term_places)))
  (f_Place_turned : PySem.W.findIn K (.ref k_Place) "turned" = some (some (.ref m_Term_turned)))
  (f_Place_put : PySem.W.findIn K (.ref k_Place) "put" = some (some (.ref m_Term_put)))
  (f_Place_and : PySem.W.findIn K (.ref k_Place) "__and__" = some (some (.ref m_Term_and)))
  (f_Place_or : PySem.W.findIn K (.ref k_Place) "__or__" = some (some (.ref m_Term_or)))
  (f_Place_str : PySem.W.findIn K (.ref k_Place) "__str__" = some (some (.ref m_Term_str)))
  (f_Place_repr : PySem.W.findIn K (.ref k_Place) "__repr__" = some (some (.ref m_Term_repr)))
  (f_Place_eq : PySem.W.findIn K (.ref k_Place) "__eq__" = some (some (.ref m_Term_eq)))
  (f_End_init : PySem.W.findIn K (.ref k_End) "__init__" = some (some (.ref m_End_init)))
  (p_at_End_end : PySem.W.findIn K (.ref k_End) "end" = some (some (.ref p_End_end)))
  (p_at_End_depth : PySem.W.findIn K (.ref k_End) "depth" = some (some (.ref p_Term_depth)))
  (f_End_at : PySem.W.findIn K (.ref k_End) "at" = some (some (.ref m_Term_at)))
  (f_End_places : PySem.W.findIn K (.ref k_End) "places" = some (some (.ref m_Term_places)))
  (f_End_turned : PySem.W.findIn K (.ref k_End) "turned" = some (some (.ref m_Term_turned)))
  (f_End_put : PySem.W.findIn K (.ref k_End) "put" = some (some (.ref m_Term_put)))
  (f_End_and : PySem.W.findIn K (.ref k_End) "__and__" = some (some (.ref m_Term_and)))
  (f_End_or : PySem.W.findIn K (.ref k_End) "__or__" = some (some (.ref m_Term_or)))
  (f_End_str : PySem.W.findIn K (.ref k_End) "__str__" = some (some (.ref m_Term_str)))
  (f_End_repr : PySem.W.findIn K (.ref k_End) "__repr__" = some (some (.ref m_Term_repr)))
  (f_End_eq : PySem.W.findIn K (.ref k_End) "__eq__" = some (some (.ref m_Term_eq)))
  (f_Lesser_init : PySem.W.findIn K (.ref k_Lesser) "__init__" = some (some (.ref m_Lesser_init)))
  (p_at_Lesser_parts : PySem.W.findIn K (.ref k_Lesser) "parts" = some (some (.ref p_Lesser_parts)))
  (p_at_Lesser_depth : PySem.W.findIn K (.ref k_Lesser) "depth" = some (some (.ref p_Term_depth)))
  (f_Lesser_at : PySem.W.findIn K (.ref k_Lesser) "at" = some (some (.ref m_Term_at)))
  (f_Lesser_places : PySem.W.findIn K (.ref k_Lesser) "places" = some (some (.ref m_Term_places)))
  (f_Lesser_turned : PySem.W.findIn K (.ref k_Lesser) "turned" = some (some (.ref m_Term_turned)))
  (f_Lesser_put : PySem.W.findIn K (.ref k_Lesser) "put" = some (some (.ref m_Term_put)))
  (f_Lesser_and : PySem.W.findIn K (.ref k_Lesser) "__and__" = some (some (.ref m_Term_and)))
  (f_Lesser_or : PySem.W.findIn K (.ref k_Lesser) "__or__" = some (some (.ref m_Term_or)))
  (f_Lesser_str : PySem.W.findIn K (.ref k_Lesser) "__str__" = some (some (.ref m_Term_str)))
  (f_Lesser_repr : PySem.W.findIn K (.ref k_Lesser) "__repr__" = some (some (.ref m_Term_repr)))
  (f_Lesser_eq : PySem.W.findIn K (.ref k_Lesser) "__eq__" = some (some (.ref m_Term_eq)))
  (f_Greater_init : PySem.W.findIn K (.ref k_Greater) "__init__" = some (some (.ref m_Greater_init)))
  (p_at_Greater_parts : PySem.W.findIn K (.ref k_Greater) "parts" = some (some (.ref p_Greater_parts)))
  (p_at_Greater_depth : PySem.W.findIn K (.ref k_Greater) "depth" = some (some (.ref p_Term_depth)))
  (f_Greater_at : PySem.W.findIn K (.ref k_Greater) "at" = some (some (.ref m_Term_at)))
  (f_Greater_places : PySem.W.findIn K (.ref k_Greater) "places" = some (some (.ref m_Term_places)))
  (f_Greater_turned : PySem.W.findIn K (.ref k_Greater) "turned" = some (some (.ref m_Term_turned)))
  (f_Greater_put : PySem.W.findIn K (.ref k_Greater) "put" = some (some (.ref m_Term_put)))
  (f_Greater_and : PySem.W.findIn K (.ref k_Greater) "__and__" = some (some (.ref m_Term_and)))
  (f_Greater_or : PySem.W.findIn K (.ref k_Greater) "__or__" = some (some (.ref m_Term_or)))
  (f_Greater_str : PySem.W.findIn K (.ref k_Greater) "__str__" = some (some (.ref m_Term_str)))
  (f_Greater_repr : PySem.W.findIn K (.ref k_Greater) "__repr__" = some (some (.ref m_Term_repr)))
  (f_Greater_eq : PySem.W.findIn K (.ref k_Greater) "__eq__" = some (some (.ref m_Term_eq)))
  (p_get_Term_depth : PySem.W.specialIn K (.ref p_Term_depth) "__get__" = some (some (.builtin "property.__get__")))
  (p_tak_Term_depth : PySem.W.takesIn K (.ref p_Term_depth) = some true)
  (p_rec_Term_depth : PySem.W.recIn K p_Term_depth "property" = some (.ref m_Term_depth :: rest_Term_depth))
  (p_get_Place_name : PySem.W.specialIn K (.ref p_Place_name) "__get__" = some (some (.builtin "property.__get__")))
  (p_tak_Place_name : PySem.W.takesIn K (.ref p_Place_name) = some true)
  (p_rec_Place_name : PySem.W.recIn K p_Place_name "property" = some (.ref m_Place_name :: rest_Place_name))
  (p_get_End_end : PySem.W.specialIn K (.ref p_End_end) "__get__" = some (some (.builtin "property.__get__")))
  (p_tak_End_end : PySem.W.takesIn K (.ref p_End_end) = some true)
  (p_rec_End_end : PySem.W.recIn K p_End_end "property" = some (.ref m_End_end :: rest_End_end))
  (p_get_Lesser_parts : PySem.W.specialIn K (.ref p_Lesser_parts) "__get__" = some (some (.builtin "property.__get__")))
  (p_tak_Lesser_parts : PySem.W.takesIn K (.ref p_Lesser_parts) = some true)
  (p_rec_Lesser_parts : PySem.W.recIn K p_Lesser_parts "property" = some (.ref m_Lesser_parts :: rest_Lesser_parts))
  (p_get_Greater_parts : PySem.W.specialIn K (.ref p_Greater_parts) "__get__" = some (some (.builtin "property.__get__")))
  (p_tak_Greater_parts : PySem.W.takesIn K (.ref p_Greater_parts) = some true)
  (p_rec_Greater_parts : PySem.W.recIn K p_Greater_parts "property" = some (.ref m_Greater_parts :: rest_Greater_parts))
  (h_l_Term_init : K.lookup m_Term_init = some ⟨oc_Term_init, od_Term_init, .func (PySem.W.fnOf "__init__" "Term.__init__" (defArgs s_Term_init) (defBody s_Term_init) (defScope s_Term_init) .none kV_Term_init dc_Term_init pm_Term_init an_Term_init cd_Term_init ct_Term_init), sl_Term_init⟩)
  (h_c_Term_init : PySem.W.codeIn K cd_Term_init "Term.__init__" = true)
  (h_k_Term_init : PySem.W.keepIn K (.ref m_Term_init) = true)
  (h_fn_Term_init : PySem.W.isFn K (.ref m_Term_init) = true)
  (h_l_Term_depth : K.lookup m_Term_depth = some ⟨oc_Term_depth, od_Term_depth, .func (PySem.W.fnOf "depth" "Term.depth" (defArgs s_Term_depth) (defBody s_Term_depth) (defScope s_Term_depth) .none kV_Term_depth dc_Term_depth pm_Term_depth an_Term_depth cd_Term_depth ct_Term_depth), sl_Term_depth⟩)
  (h_c_Term_depth : PySem.W.codeIn K cd_Term_depth "Term.depth" = true)
  (h_k_Term_depth : PySem.W.keepIn K (.ref m_Term_depth) = true)
  (h_fn_Term_depth : PySem.W.isFn K (.ref m_Term_depth) = true)
  (h_l_Term_at : K.lookup m_Term_at = some ⟨oc_Term_at, od_Term_at, .func (PySem.W.fnOf "at" "Term.at" (defArgs s_Term_at) (defBody s_Term_at) (defScope s_Term_at) .none kV_Term_at dc_Term_at pm_Term_at an_Term_at cd_Term_at ct_Term_at), sl_Term_at⟩)
  (h_c_Term_at : PySem.W.codeIn K cd_Term_at "Term.at" = true)
  (h_k_Term_at : PySem.W.keepIn K (.ref m_Term_at) = true)
  (h_fn_Term_at : PySem.W.isFn K (.ref m_Term_at) = true)
  (h_l_Term_places : K.lookup m_Term_places = some ⟨oc_Term_places, od_Term_places, .func (PySem.W.fnOf "places" "Term.places" (defArgs s_Term_places) (defBody s_Term_places) (defScope s_Term_places) .none kV_Term_places dc_Term_places pm_Term_places an_Term_places cd_Term_places ct_Term_places), sl_Term_places⟩)
  (h_c_Term_places : PySem.W.codeIn K cd_Term_places "Term.places" = true)
  (h_k_Term_places : PySem.W.keepIn K (.ref m_Term_places) = true)
  (h_fn_Term_places : PySem.W.isFn K (.ref m_Term_places) = true)
  (h_l_Term_turned : K.lookup m_Term_turned = some ⟨oc_Term_turned, od_Term_turned, .func (PySem.W.fnOf "turned" "Term.turned" (defArgs s_Term_turned) (defBody s_Term_turned) (defScope s_Term_turned) .none kV_Term_turned dc_Term_turned pm_Term_turned an_Term_turned cd_Term_turned ct_Term_turned), sl_Term_turned⟩)
  (h_c_Term_turned : PySem.W.codeIn K cd_Term_turned "Term.turned" = true)
  (h_k_Term_turned : PySem.W.keepIn K (.ref m_Term_turned) = true)
  (h_fn_Term_turned : PySem.W.isFn K (.ref m_Term_turned) = true)
  (h_l_Term_put : K.lookup m_Term_put = some ⟨oc_Term_put, od_Term_put, .func (PySem.W.fnOf "put" "Term.put" (defArgs s_Term_put) (defBody s_Term_put) (defScope s_Term_put) .none kV_Term_put dc_Term_put pm_Term_put an_Term_put cd_Term_put ct_Term_put), sl_Term_put⟩)
  (h_c_Term_put : PySem.W.codeIn K cd_Term_put "Term.put" = true)
  (h_k_Term_put : PySem.W.keepIn K (.ref m_Term_put) = true)
  (h_fn_Term_put : PySem.W.isFn K (.ref m_Term_put) = true)
  (h_l_Term_and : K.lookup m_Term_and = some ⟨oc_Term_and, od_Term_and, .func (PySem.W.fnOf "__and__" "Term.__and__" (defArgs s_Term_and) (defBody s_Term_and) (defScope s_Term_and) .none kV_Term_and dc_Term_and pm_Term_and an_Term_and cd_Term_and ct_Term_and), sl_Term_and⟩)
  (h_c_Term_and : PySem.W.codeIn K cd_Term_and "Term.__and__" = true)
  (h_k_Term_and : PySem.W.keepIn K (.ref m_Term_and) = true)
  (h_fn_Term_and : PySem.W.isFn K (.ref m_Term_and) = true)
  (h_l_Term_or : K.lookup m_Term_or = some ⟨oc_Term_or, od_Term_or, .func (PySem.W.fnOf "__or__" "Term.__or__" (defArgs s_Term_or) (defBody s_Term_or) (defScope s_Term_or) .none kV_Term_or dc_Term_or pm_Term_or an_Term_or cd_Term_or ct_Term_or), sl_Term_or⟩)
  (h_c_Term_or : PySem.W.codeIn K cd_Term_or "Term.__or__" = true)
  (h_k_Term_or : PySem.W.keepIn K (.ref m_Term_or) = true)
  (h_fn_Term_or : PySem.W.isFn K (.ref m_Term_or) = true)
  (h_l_Term_str : K.lookup m_Term_str = some ⟨oc_Term_str, od_Term_str, .func (PySem.W.fnOf "__str__" "Term.__str__" (defArgs s_Term_str) (defBody s_Term_str) (defScope s_Term_str) .none kV_Term_str dc_Term_str pm_Term_str an_Term_str cd_Term_str ct_Term_str), sl_Term_str⟩)
  (h_c_Term_str : PySem.W.codeIn K cd_Term_str "Term.__str__" = true)
  (h_k_Term_str : PySem.W.keepIn K (.ref m_Term_str) = true)
  (h_fn_Term_str : PySem.W.isFn K (.ref m_Term_str) = true)
  (h_l_Term_repr : K.lookup m_Term_repr = some ⟨oc_Term_repr, od_Term_repr, .func (PySem.W.fnOf "__repr__" "Term.__repr__" (defArgs s_Term_repr) (defBody s_Term_repr) (defScope s_Term_repr) .none kV_Term_repr dc_Term_repr pm_Term_repr an_Term_repr cd_Term_repr ct_Term_repr), sl_Term_repr⟩)
  (h_c_Term_repr : PySem.W.codeIn K cd_Term_repr "Term.__repr__" = true)
  (h_k_Term_repr : PySem.W.keepIn K (.ref m_Term_repr) = true)
  (h_fn_Term_repr : PySem.W.isFn K (.ref m_Term_repr) = true)
  (h_l_Term_eq : K.lookup m_Term_eq = some ⟨oc_Term_eq, od_Term_eq, .func (PySem.W.fnOf "__eq__" "Term.__eq__" (defArgs s_Term_eq) (defBody s_Term_eq) (defScope s_Term_eq) .none kV_Term_eq dc_Term_eq pm_Term_eq an_Term_eq cd_Term_eq ct_Term_eq), sl_Term_eq⟩)
  (h_c_Term_eq : PySem.W.codeIn K cd_Term_eq "Term.__eq__" = true)
  (h_k_Term_eq : PySem.W.keepIn K (.ref m_Term_eq) = true)
  (h_fn_Term_eq : PySem.W.isFn K (.ref m_Term_eq) = true)
  (h_l_Place_init : K.lookup m_Place_init = some ⟨oc_Place_init, od_Place_init, .func (PySem.W.ksFn "__init__" "Place.__init__" (defArgs s_Place_init) (defBody s_Place_init) (defScope s_Place_init) .none kV_Place_init dc_Place_init pm_Place_init an_Place_init (.ref o_Place_init) ct_Place_init w_Place_init), sl_Place_init⟩)
  (h_c_Place_init : PySem.W.codeIn K (.ref o_Place_init) "Place.__init__" = true)
  (h_o_Place_init : K.lookup o_Place_init = some ⟨oco_Place_init, odo_Place_init, .fields vs_Place_init, slo_Place_init⟩)
  (h_x_Place_init : vs_Place_init[2]? = some (.str tx_Place_init tf_Place_init))
  (h_w_Place_init : K.lookup w_Place_init = some ⟨ocw_Place_init, odw_Place_init, .cell (some (.ref k_Place)), slw_Place_init⟩)
  (h_fi_Place_init : ((l.prog.main.file : Str) == tx_Place_init) = true)
  (h_fn_Place_init : PySem.W.isFn K (.ref m_Place_init) = true)
  (h_l_Place_name : K.lookup m_Place_name = some ⟨oc_Place_name, od_Place_name, .func (PySem.W.fnOf "name" "Place.name" (defArgs s_Place_name) (defBody s_Place_name) (defScope s_Place_name) .none kV_Place_name dc_Place_name pm_Place_name an_Place_name cd_Place_name ct_Place_name), sl_Place_name⟩)
  (h_c_Place_name : PySem.W.codeIn K cd_Place_name "Place.name" = true)
  (h_k_Place_name : PySem.W.keepIn K (.ref m_Place_name) = true)
  (h_fn_Place_name : PySem.W.isFn K (.ref m_Place_name) = true)
  (h_l_End_init : K.lookup m_End_init = some ⟨oc_End_init, od_End_init, .func (PySem.W.ksFn "__init__" "End.__init__" (defArgs s_End_init) (defBody s_End_init) (defScope s_End_init) .none kV_End_init dc_End_init pm_End_init an_End_init (.ref o_End_init) ct_End_init w_End_init), sl_End_init⟩)
  (h_c_End_init : PySem.W.codeIn K (.ref o_End_init) "End.__init__" = true)
  (h_o_End_init : K.lookup o_End_init = some ⟨oco_End_init, odo_End_init, .fields vs_End_init, slo_End_init⟩)
  (h_x_End_init : vs_End_init[2]? = some (.str tx_End_init tf_End_init))
  (h_w_End_init : K.lookup w_End_init = some ⟨ocw_End_init, odw_End_init, .cell (some (.ref k_End)), slw_End_init⟩)
  (h_fi_End_init : ((l.prog.main.file : Str) == tx_End_init) = true)
  (h_fn_End_init : PySem.W.isFn K (.ref m_End_init) = true)
  (h_l_End_end : K.lookup m_End_end = some ⟨oc_End_end, od_End_end, .func (PySem.W.fnOf "end" "End.end" (defArgs s_End_end) (defBody s_End_end) (defScope s_End_end) .none kV_End_end dc_End_end pm_End_end an_End_end cd_End_end ct_End_end), sl_End_end⟩)
  (h_c_End_end : PySem.W.codeIn K cd_End_end "End.end" = true)
  (h_k_End_end : PySem.W.keepIn K (.ref m_End_end) = true)
  (h_fn_End_end : PySem.W.isFn K (.ref m_End_end) = true)
  (h_l_Lesser_init : K.lookup m_Lesser_init = some ⟨oc_Lesser_init, od_Lesser_init, .func (PySem.W.ksFn "__init__" "Lesser.__init__" (defArgs s_Lesser_init) (defBody s_Lesser_init) (defScope s_Lesser_init) .none kV_Lesser_init dc_Lesser_init pm_Lesser_init an_Lesser_init (.ref o_Lesser_init) ct_Lesser_init w_Lesser_init), sl_Lesser_init⟩)
  (h_c_Lesser_init : PySem.W.codeIn K (.ref o_Lesser_init) "Lesser.__init__" = true)
  (h_o_Lesser_init : K.lookup o_Lesser_init = some ⟨oco_Lesser_init, odo_Lesser_init, .fields vs_Lesser_init, slo_Lesser_init⟩)
  (h_x_Lesser_init : vs_Lesser_init[2]? = some (.str tx_Lesser_init tf_Lesser_init))
  (h_w_Lesser_init : K.lookup w_Lesser_init = some ⟨ocw_Lesser_init, odw_Lesser_init, .cell (some (.ref k_Lesser)), slw_Lesser_init⟩)
  (h_fi_Lesser_init : ((l.prog.main.file : Str) == tx_Lesser_init) = true)
  (h_fn_Lesser_init : PySem.W.isFn K (.ref m_Lesser_init) = true)
  (h_l_Lesser_parts : K.lookup m_Lesser_parts = some ⟨oc_Lesser_parts, od_Lesser_parts, .func (PySem.W.fnOf "parts" "Lesser.parts" (defArgs s_Lesser_parts) (defBody s_Lesser_parts) (defScope s_Lesser_parts) .none kV_Lesser_parts dc_Lesser_parts pm_Lesser_parts an_Lesser_parts cd_Lesser_parts ct_Lesser_parts), sl_Lesser_parts⟩)
  (h_c_Lesser_parts : PySem.W.codeIn K cd_Lesser_parts "Lesser.parts" = true)
  (h_k_Lesser_parts : PySem.W.keepIn K (.ref m_Lesser_parts) = true)
  (h_fn_Lesser_parts : PySem.W.isFn K (.ref m_Lesser_parts) = true)
  (h_l_Greater_init : K.lookup m_Greater_init = some ⟨oc_Greater_init, od_Greater_init, .func (PySem.W.ksFn "__init__" "Greater.__init__" (defArgs s_Greater_init) (defBody s_Greater_init) (defScope s_Greater_init) .none kV_Greater_init dc_Greater_init pm_Greater_init an_Greater_init (.ref o_Greater_init) ct_Greater_init w_Greater_init), sl_Greater_init⟩)
  (h_c_Greater_init : PySem.W.codeIn K (.ref o_Greater_init) "Greater.__init__" = true)
  (h_o_Greater_init : K.lookup o_Greater_init = some ⟨oco_Greater_init, odo_Greater_init, .fields vs_Greater_init, slo_Greater_init⟩)
  (h_x_Greater_init : vs_Greater_init[2]? = some (.str tx_Greater_init tf_Greater_init))
  (h_w_Greater_init : K.lookup w_Greater_init = some ⟨ocw_Greater_init, odw_Greater_init, .cell (some (.ref k_Greater)), slw_Greater_init⟩)
  (h_fi_Greater_init : ((l.prog.main.file : Str) == tx_Greater_init) = true)
  (h_fn_Greater_init : PySem.W.isFn K (.ref m_Greater_init) = true)
  (h_l_Greater_parts : K.lookup m_Greater_parts = some ⟨oc_Greater_parts, od_Greater_parts, .func (PySem.W.fnOf "parts" "Greater.parts" (defArgs s_Greater_parts) (defBody s_Greater_parts) (defScope s_Greater_parts) .none kV_Greater_parts dc_Greater_parts pm_Greater_parts an_Greater_parts cd_Greater_parts ct_Greater_parts), sl_Greater_parts⟩)
  (h_c_Greater_parts : PySem.W.codeIn K cd_Greater_parts "Greater.parts" = true)
  (h_k_Greater_parts : PySem.W.keepIn K (.ref m_Greater_parts) = true)
  (h_fn_Greater_parts : PySem.W.isFn K (.ref m_Greater_parts) = true)
  (mk_Term : PySem.W.makesIn K k_Term = true)
  (kp_Term : PySem.W.keepIn K (.ref k_Term) = true)
  (rand_Term : PySem.W.findIn K (.ref k_Term) (PySem.dunderR "and") = some none)
  (ror_Term : PySem.W.findIn K (.ref k_Term) (PySem.dunderR "or") = some none)
  (na_Term_own_depth : PySem.W.findIn K (.ref k_Term) "own_depth" = some none)
  (s_sub_Place : PySem.W.mroIn K k_Place (.ref k_Place) = some true)
  (s_sup_Place : PySem.W.ks_superIn K k_Place k_Place "__init__" = some (some (.ref m_Term_init)))
  (s_ty_m_Term_init : PySem.W.typeIn K (.ref m_Term_init) = some (.type "function"))
  (s_fn_m_Term_init : PySem.W.fnIn K m_Term_init = true)
  (mk_Place : PySem.W.makesIn K k_Place = true)
  (kp_Place : PySem.W.keepIn K (.ref k_Place) = true)
  (rand_Place : PySem.W.findIn K (.ref k_Place) (PySem.dunderR "and") = some none)
  (ror_Place : PySem.W.findIn K (.ref k_Place) (PySem.dunderR "or") = some none)
  (na_Place_own_depth : PySem.W.findIn K (.ref k_Place) "own_depth" = some none)
  (na_Place_own_name : PySem.W.findIn K (.ref k_Place) "own_name" = some none)
  (s_sub_End : PySem.W.mroIn K k_End (.ref k_End) = some true)
  (s_sup_End : PySem.W.ks_superIn K k_End k_End "__init__" = some (some (.ref m_Term_init)))
  (mk_End : PySem.W.makesIn K k_End = true)
  (kp_End : PySem.W.keepIn K (.ref k_End) = true)
  (rand_End : PySem.W.findIn K (.ref k_End) (PySem.dunderR "and") = some none)
  (ror_End : PySem.W.findIn K (.ref k_End) (PySem.dunderR "or") = some none)
  (na_End_own_depth : PySem.W.findIn K (.ref k_End) "own_depth" = some none)
  (na_End_own_end : PySem.W.findIn K (.ref k_End) "own_end" = some none)
  (s_sub_Lesser : PySem.W.mroIn K k_Lesser (.ref k_Lesser) = some true)
  (s_sup_Lesser : PySem.W.ks_superIn K k_Lesser k_Lesser "__init__" = some (some (.ref m_Term_init)))
  (mk_Lesser : PySem.W.makesIn K k_Lesser = true)
  (kp_Lesser : PySem.W.keepIn K (.ref k_Lesser) = true)
  (rand_Lesser : PySem.W.findIn K (.ref k_Lesser) (PySem.dunderR "and") = some none)
  (ror_Lesser : PySem.W.findIn K (.ref k_Lesser) (PySem.dunderR "or") = some none)
  (na_Lesser_own_depth : PySem.W.findIn K (.ref k_Lesser) "own_depth" = some none)
  (na_Lesser_own_parts : PySem.W.findIn K (.ref k_Lesser) "own_parts" = some none)
  (s_sub_Greater : PySem.W.mroIn K k_Greater (.ref k_Greater) = some true)
  (s_sup_Greater : PySem.W.ks_superIn K k_Greater k_Greater "__init__" = some (some (.ref m_Term_init)))
  (mk_Greater : PySem.W.makesIn K k_Greater = true)
  (kp_Greater : PySem.W.keepIn K (.ref k_Greater) = true)
  (rand_Greater : PySem.W.findIn K (.ref k_Greater) (PySem.dunderR "and") = some none)
  (ror_Greater : PySem.W.findIn K (.ref k_Greater) (PySem.dunderR "or") = some none)
  (na_Greater_own_depth : PySem.W.findIn K (.ref k_Greater) "own_depth" = some none)
  (na_Greater_own_parts : PySem.W.findIn K (.ref k_Greater) "own_parts" = some none)
  (x_Term_Term : PySem.W.subIn K (.ref k_Term) (.ref k_Term) = some true)
  (x_Term_Place : PySem.W.subIn K (.ref k_Term) (.ref k_Place) = some false)
  (x_Term_End : PySem.W.subIn K (.ref k_Term) (.ref k_End) = some false)
  (x_Term_Lesser : PySem.W.subIn K (.ref k_Term) (.ref k_Lesser) = some false)
  (x_Term_Greater : PySem.W.subIn K (.ref k_Term) (.ref k_Greater) = some false)
  (x_Place_Term : PySem.W.subIn K (.ref k_Place) (.ref k_Term) = some true)
  (x_Place_Place : PySem.W.subIn K (.ref k_Place) (.ref k_Place) = some true)
  (x_Place_End : PySem.W.subIn K (.ref k_Place) (.ref k_End) = some false)
  (x_Place_Lesser : PySem.W.subIn K (.ref k_Place) (.ref k_Lesser) = some false)
  (x_Place_Greater : PySem.W.subIn K (.ref k_Place) (.ref k_Greater) = some false)
  (x_End_Term : PySem.W.subIn K (.ref k_End) (.ref k_Term) = some true)
  (x_End_Place : PySem.W.subIn K (.ref k_End) (.ref k_Place) = some false)
  (x_End_End : PySem.W.subIn K (.ref k_End) (.ref k_End) = some true)
  (x_End_Lesser : PySem.W.subIn K (.ref k_End) (.ref k_Lesser) = some false)
  (x_End_Greater : PySem.W.subIn K (.ref k_End) (.ref k_Greater) = some false)
  (x_Lesser_Term : PySem.W.subIn K (.ref k_Lesser) (.ref k_Term) = some true)
  (x_Lesser_Place : PySem.W.subIn K (.ref k_Lesser) (.ref k_Place) = some false)
  (x_Lesser_End : PySem.W.subIn K (.ref k_Lesser) (.ref k_End) = some false)
  (x_Lesser_Lesser : PySem.W.subIn K (.ref k_Lesser) (.ref k_Lesser) = some true)
  (x_Lesser_Greater : PySem.W.subIn K (.ref k_Lesser) (.ref k_Greater) = some false)
  (x_Greater_Term : PySem.W.subIn K (.ref k_Greater) (.ref k_Term) = some true)
  (x_Greater_Place : PySem.W.subIn K (.ref k_Greater) (.ref k_Place) = some false)
  (x_Greater_End : PySem.W.subIn K (.ref k_Greater) (.ref k_End) = some false)
  (x_Greater_Lesser : PySem.W.subIn K (.ref k_Greater) (.ref k_Lesser) = some false)
  (x_Greater_Greater : PySem.W.subIn K (.ref k_Greater) (.ref k_Greater) = some true)
  (x_HeldError_HeldError : PySem.W.subIn K (.ref C_HeldError) (.ref C_HeldError) = some true)
  (x_HeldError_InvalidPlace : PySem.W.subIn K (.ref C_HeldError) (.ref C_InvalidPlace) = some false)
  (x_HeldError_InvalidEnd : PySem.W.subIn K (.ref C_HeldError) (.ref C_InvalidEnd) = some false)
  (x_HeldError_InvalidTerm : PySem.W.subIn K (.ref C_HeldError) (.ref C_InvalidTerm) = some false)
  (x_HeldError_InvalidValues : PySem.W.subIn K (.ref C_HeldError) (.ref C_InvalidValues) = some false)
  (x_InvalidPlace_HeldError : PySem.W.subIn K (.ref C_InvalidPlace) (.ref C_HeldError) = some true)
  (x_InvalidPlace_InvalidPlace : PySem.W.subIn K (.ref C_InvalidPlace) (.ref C_InvalidPlace) = some true)
  (x_InvalidPlace_InvalidEnd : PySem.W.subIn K (.ref C_InvalidPlace) (.ref C_InvalidEnd) = some false)
  (x_InvalidPlace_InvalidTerm : PySem.W.subIn K (.ref C_InvalidPlace) (.ref C_InvalidTerm) = some false)
  (x_InvalidPlace_InvalidValues : PySem.W.subIn K (.ref C_InvalidPlace) (.ref C_InvalidValues) = some false)
  (x_InvalidEnd_HeldError : PySem.W.subIn K (.ref C_InvalidEnd) (.ref C_HeldError) = some true)
  (x_InvalidEnd_InvalidPlace : PySem.W.subIn K (.ref C_InvalidEnd) (.ref C_InvalidPlace) = some false)
  (x_InvalidEnd_InvalidEnd : PySem.W.subIn K (.ref C_InvalidEnd) (.ref C_InvalidEnd) = some true)
  (x_InvalidEnd_InvalidTerm : PySem.W.subIn K (.ref C_InvalidEnd) (.ref C_InvalidTerm) = some false)
  (x_InvalidEnd_InvalidValues : PySem.W.subIn K (.ref C_InvalidEnd) (.ref C_InvalidValues) = some false)
  (x_InvalidTerm_HeldError : PySem.W.subIn K (.ref C_InvalidTerm) (.ref C_HeldError) = some true)
  (x_InvalidTerm_InvalidPlace : PySem.W.subIn K (.ref C_InvalidTerm) (.ref C_InvalidPlace) = some false)
  (x_InvalidTerm_InvalidEnd : PySem.W.subIn K (.ref C_InvalidTerm) (.ref C_InvalidEnd) = some false)
  (x_InvalidTerm_InvalidTerm : PySem.W.subIn K (.ref C_InvalidTerm) (.ref C_InvalidTerm) = some true)
  (x_InvalidTerm_InvalidValues : PySem.W.subIn K (.ref C_InvalidTerm) (.ref C_InvalidValues) = some false)
  (x_InvalidValues_HeldError : PySem.W.subIn K (.ref C_InvalidValues) (.ref C_HeldError) = some true)
  (x_InvalidValues_InvalidPlace : PySem.W.subIn K (.ref C_InvalidValues) (.ref C_InvalidPlace) = some false)
  (x_InvalidValues_InvalidEnd : PySem.W.subIn K (.ref C_InvalidValues) (.ref C_InvalidEnd) = some false)
  (x_InvalidValues_InvalidTerm : PySem.W.subIn K (.ref C_InvalidValues) (.ref C_InvalidTerm) = some false)
  (x_InvalidValues_InvalidValues : PySem.W.subIn K (.ref C_InvalidValues) (.ref C_InvalidValues) = some true)
  (y_HeldError : PySem.W.subIn K (.ref C_HeldError) (.type "ValueError") = some true)
  (y_InvalidPlace : PySem.W.subIn K (.ref C_InvalidPlace) (.type "ValueError") = some true)
  (y_InvalidEnd : PySem.W.subIn K (.ref C_InvalidEnd) (.type "ValueError") = some true)
  (y_InvalidTerm : PySem.W.subIn K (.ref C_InvalidTerm) (.type "ValueError") = some true)
  (y_InvalidValues : PySem.W.subIn K (.ref C_InvalidValues) (.type "ValueError") = some true)
  (nk_Place : LG.noKinds K k_Place = true)
  (nk_End : LG.noKinds K k_End = true)
  (nk_Lesser : LG.noKinds K k_Lesser = true)
  (nk_Greater : LG.noKinds K k_Greater = true)
  (h_top : (l.prog.main.scope.names.lookup ("super" : Str)).isSome = false)
  : LG.LawAt l w K 21 63 mg fa h := by
  let a : At := { c_HeldError := C_HeldError, c_InvalidPlace := C_InvalidPlace, c_InvalidEnd := C_InvalidEnd, c_InvalidTerm := C_InvalidTerm, c_InvalidValues := C_InvalidValues, k_Term := k_Term, k_Place := k_Place, k_End := k_End, k_Lesser := k_Lesser, k_Greater := k_Greater, init := f_init, _wall := f__wall, is_integer := f_is_integer, is_end := f_is_end, is_value := f_is_value, is_not_less := f_is_not_less, least_of := f_least_of, greatest_of := f_greatest_of, is_place := f_is_place, want_term := f_want_term, want_terms := f_want_terms, depth_above := f_depth_above, want_values := f_want_values, value_at := f_value_at, places_in := f_places_in, term_text := f_term_text, term_repr := f_term_repr, is_within := f_is_within, least_sets := f_least_sets, found_form := f_found_form, is_above := f_is_above, is_same := f_is_same, is_never_above := f_is_never_above, showing := f_showing, _law_pot := f__law_pot, _law_draw := f__law_draw, _law_pick := f__law_pick, _law_number := f__law_number, _law_places := f__law_places, _law_term := f__law_term, _law_joined := f__law_joined, _law_real := f__law_real, _law_of := f__law_of, _law_numbers := f__law_numbers, _law_spots := f__law_spots, _law_all_ends := f__law_all_ends, _law_beside := f__law_beside, _law_is_shown := f__law_is_shown, _law_pair_right := f__law_pair_right, _law_asked := f__law_asked, _law_told := f__law_told, _law_right := f__law_right, law := f_law, m_Term_init := m_Term_init, m_Term_depth := m_Term_depth, p_Term_depth := p_Term_depth, m_Term_at := m_Term_at, m_Term_places := m_Term_places, m_Term_turned := m_Term_turned, m_Term_put := m_Term_put, m_Term_and := m_Term_and, m_Term_or := m_Term_or, m_Term_str := m_Term_str, m_Term_repr := m_Term_repr, m_Term_eq := m_Term_eq, m_Place_init := m_Place_init, w_Place_init := w_Place_init, o_Place_init := o_Place_init, m_Place_name := m_Place_name, p_Place_name := p_Place_name, m_End_init := m_End_init, w_End_init := w_End_init, o_End_init := o_End_init, m_End_end := m_End_end, p_End_end := p_End_end, m_Lesser_init := m_Lesser_init, w_Lesser_init := w_Lesser_init, o_Lesser_init := o_Lesser_init, m_Lesser_parts := m_Lesser_parts, p_Lesser_parts := p_Lesser_parts, m_Greater_init := m_Greater_init, w_Greater_init := w_Greater_init, o_Greater_init := o_Greater_init, m_Greater_parts := m_Greater_parts, p_Greater_parts := p_Greater_parts, t_BOTTOM := t_BOTTOM, t_TOP := t_TOP, t_LEAST_PARTS := t_LEAST_PARTS, ENDS := g_ENDS, PLACES := g_PLACES }
  have T : Txt K mg a :=
    { d__wall := gfn_of X G h_n__wall h_l__wall h_c__wall h_k__wall
      d_is_integer := gfn_of X G h_n_is_integer h_l_is_integer h_c_is_integer h_k_is_integer
      d_is_end := gfn_of X G h_n_is_end h_l_is_end h_c_is_end h_k_is_end
      d_is_value := gfn_of X G h_n_is_value h_l_is_value h_c_is_value h_k_is_value
      d_is_not_less := gfn_of X G h_n_is_not_less h_l_is_not_less h_c_is_not_less h_k_is_not_less
      d_least_of := gfn_of X G h_n_least_of h_l_least_of h_c_least_of h_k_least_of
      d_greatest_of := gfn_of X G h_n_greatest_of h_l_greatest_of h_c_greatest_of h_k_greatest_of
      d_is_place := gfn_of X G h_n_is_place h_l_is_place h_c_is_place h_k_is_place
      d_want_term := gfn_of X G h_n_want_term h_l_want_term h_c_want_term h_k_want_term
      d_want_terms := gfn_of X G h_n_want_terms h_l_want_terms h_c_want_terms h_k_want_terms
      d_depth_above := gfn_of X G h_n_depth_above h_l_depth_above h_c_depth_above h_k_depth_above
      d_want_values := gfn_of X G h_n_want_values h_l_want_values h_c_want_values h_k_want_values
      d_value_at := gfn_of X G h_n_value_at h_l_value_at h_c_value_at h_k_value_at
      d_places_in := gfn_of X G h_n_places_in h_l_places_in h_c_places_in h_k_places_in
      d_term_text := gfn_of X G h_n_term_text h_l_term_text h_c_term_text h_k_term_text
      d_term_repr := gfn_of X G h_n_term_repr h_l_term_repr h_c_term_repr h_k_term_repr
      d_is_within := gfn_of X G h_n_is_within h_l_is_within h_c_is_within h_k_is_within
      d_least_sets := gfn_of X G h_n_least_sets h_l_least_sets h_c_least_sets h_k_least_sets
      d_found_form := gfn_of X G h_n_found_form h_l_found_form h_c_found_form h_k_found_form
      d_is_above := gfn_of X G h_n_is_above h_l_is_above h_c_is_above h_k_is_above
      d_is_same := gfn_of X G h_n_is_same h_l_is_same h_c_is_same h_k_is_same
      d_is_never_above := gfn_of X G h_n_is_never_above h_l_is_never_above h_c_is_never_above h_k_is_never_above
      d_showing := gfn_of X G h_n_showing h_l_showing h_c_showing h_k_showing
      d__law_pot := gfn_of X G h_n__law_pot h_l__law_pot h_c__law_pot h_k__law_pot
      d__law_draw := gfn_of X G h_n__law_draw h_l__law_draw h_c__law_draw h_k__law_draw
      d__law_pick := gfn_of X G h_n__law_pick h_l__law_pick h_c__law_pick h_k__law_pick
      d__law_number := gfn_of X G h_n__law_number h_l__law_number h_c__law_number h_k__law_number
      d__law_places := gfn_of X G h_n__law_places h_l__law_places h_c__law_places h_k__law_places
      d__law_term := gfn_of X G h_n__law_term h_l__law_term h_c__law_term h_k__law_term
      d__law_joined := gfn_of X G h_n__law_joined h_l__law_joined h_c__law_joined h_k__law_joined
      d__law_real := gfn_of X G h_n__law_real h_l__law_real h_c__law_real h_k__law_real
      d__law_of := gfn_of X G h_n__law_of h_l__law_of h_c__law_of h_k__law_of
      d__law_numbers := gfn_of X G h_n__law_numbers h_l__law_numbers h_c__law_numbers h_k__law_numbers
      d__law_spots := gfn_of X G h_n__law_spots h_l__law_spots h_c__law_spots h_k__law_spots
      d__law_all_ends := gfn_of X G h_n__law_all_ends h_l__law_all_ends h_c__law_all_ends h_k__law_all_ends
      d__law_beside := gfn_of X G h_n__law_beside h_l__law_beside h_c__law_beside h_k__law_beside
      d__law_is_shown := gfn_of X G h_n__law_is_shown h_l__law_is_shown h_c__law_is_shown h_k__law_is_shown
      d__law_pair_right := gfn_of X G h_n__law_pair_right h_l__law_pair_right h_c__law_pair_right h_k__law_pair_right
      d__law_asked := gfn_of X G h_n__law_asked h_l__law_asked h_c__law_asked h_k__law_asked
      d__law_told := gfn_of X G h_n__law_told h_l__law_told h_c__law_told h_k__law_told
      d__law_right := gfn_of X G h_n__law_right h_l__law_right h_c__law_right h_k__law_right
      d_law := gfn_of X G h_n_law h_l_law h_c_law h_k_law
      z_abs := PySem.W.mg_none_of X G h_z_abs
      z_all := PySem.W.mg_none_of X G h_z_all
      z_any := PySem.W.mg_none_of X G h_z_any
      z_bool := PySem.W.mg_none_of X G h_z_bool
      z_dict := PySem.W.mg_none_of X G h_z_dict
      z_divmod := PySem.W.mg_none_of X G h_z_divmod
      z_int := PySem.W.mg_none_of X G h_z_int
      z_isinstance := PySem.W.mg_none_of X G h_z_isinstance
      z_len := PySem.W.mg_none_of X G h_z_len
      z_list := PySem.W.mg_none_of X G h_z_list
      z_max := PySem.W.mg_none_of X G h_z_max
      z_min := PySem.W.mg_none_of X G h_z_min
      z_property := PySem.W.mg_none_of X G h_z_property
      z_range := PySem.W.mg_none_of X G h_z_range
      z_repr := PySem.W.mg_none_of X G h_z_repr
      z_set := PySem.W.mg_none_of X G h_z_set
      z_sorted := PySem.W.mg_none_of X G h_z_sorted
      z_str := PySem.W.mg_none_of X G h_z_str
      z_super := PySem.W.mg_none_of X G h_z_super
      z_tuple := PySem.W.mg_none_of X G h_z_tuple
      v_BOTTOM := PySem.W.mg_of X G h_v_BOTTOM
      v_TOP := PySem.W.mg_of X G h_v_TOP
      v_LEAST_PARTS := PySem.W.mg_of X G h_v_LEAST_PARTS
      v_ENDS := PySem.W.mg_of X G h_v_ENDS
      l_ENDS := ⟨_, [.str "bottom" t_ENDS_0, .str "top" t_ENDS_1], _, _, h_l_ENDS, .cons ⟨_, rfl⟩ (.cons ⟨_, rfl⟩ (.nil))⟩
      v_PLACES := PySem.W.mg_of X G h_v_PLACES
      l_PLACES := ⟨_, [.str "r0" t_PLACES_0, .str "r1" t_PLACES_1, .str "r2" t_PLACES_2, .str "r3" t_PLACES_3, .str "r4" t_PLACES_4, .str "r5" t_PLACES_5, .str "x0" t_PLACES_6, .str "x1" t_PLACES_7], _, _, h_l_PLACES, .cons ⟨_, rfl⟩ (.cons ⟨_, rfl⟩ (.cons ⟨_, rfl⟩ (.cons ⟨_, rfl⟩ (.cons ⟨_, rfl⟩ (.cons ⟨_, rfl⟩ (.cons ⟨_, rfl⟩ (.cons ⟨_, rfl⟩ (.nil))))))))⟩
      e_HeldError := gex_of X G e_n_HeldError e_l_HeldError e_r_HeldError e_sa_HeldError e_e1_HeldError e_e2_HeldError e_e3_HeldError e_i_HeldError e_v_HeldError e_ga_HeldError e_gg_HeldError e_hd_HeldError e_ha_HeldError e_hn e_ht e_hm_HeldError
      e_InvalidPlace := gex_of X G e_n_InvalidPlace e_l_InvalidPlace e_r_InvalidPlace e_sa_InvalidPlace e_e1_InvalidPlace e_e2_InvalidPlace e_e3_InvalidPlace e_i_InvalidPlace e_v_InvalidPlace e_ga_InvalidPlace e_gg_InvalidPlace e_hd_InvalidPlace e_ha_InvalidPlace e_hn e_ht e_hm_InvalidPlace
      e_InvalidEnd := gex_of X G e_n_InvalidEnd e_l_InvalidEnd e_r_InvalidEnd e_sa_InvalidEnd e_e1_InvalidEnd e_e2_InvalidEnd e_e3_InvalidEnd e_i_InvalidEnd e_v_InvalidEnd e_ga_InvalidEnd e_gg_InvalidEnd e_hd_InvalidEnd e_ha_InvalidEnd e_hn e_ht e_hm_InvalidEnd
      e_InvalidTerm := gex_of X G e_n_InvalidTerm e_l_InvalidTerm e_r_InvalidTerm e_sa_InvalidTerm e_e1_InvalidTerm e_e2_InvalidTerm e_e3_InvalidTerm e_i_InvalidTerm e_v_InvalidTerm e_ga_InvalidTerm e_gg_InvalidTerm e_hd_InvalidTerm e_ha_InvalidTerm e_hn e_ht e_hm_InvalidTerm
      e_InvalidValues := gex_of X G e_n_InvalidValues e_l_InvalidValues e_r_InvalidValues e_sa_InvalidValues e_e1_InvalidValues e_e2_InvalidValues e_e3_InvalidValues e_i_InvalidValues e_v_InvalidValues e_ga_InvalidValues e_gg_InvalidValues e_hd_InvalidValues e_ha_InvalidValues e_hn e_ht e_hm_InvalidValues
      ti := h_ti
      di := ⟨_, ⟨_, _, _, _, _, _, _, _, _, _, rfl, h_il, h_ic, .inr ⟨by simp, TD, _, [.none], _, rfl, h_iD, rfl, .cons rfl .nil⟩, .inl rfl⟩, h_ik⟩
      hn := e_hn
      htk := e_ht
      any := h_any
      g_Term := ⟨PySem.W.mg_of X G h_n_Term, ⟨c_pg_Term, c_hd_Term, c_po_Term, c_sa_Term⟩, c_ha_Term, c_hm_Term, c_ne_Term, cls_some c_sf_Term, c_ty_Term⟩
      g_Place := ⟨PySem.W.mg_of X G h_n_Place, ⟨c_pg_Place, c_hd_Place, c_po_Place, c_sa_Place⟩, c_ha_Place, c_hm_Place, c_ne_Place, cls_some c_sf_Place, c_ty_Place⟩
      g_End := ⟨PySem.W.mg_of X G h_n_End, ⟨c_pg_End, c_hd_End, c_po_End, c_sa_End⟩, c_ha_End, c_hm_End, c_ne_End, cls_some c_sf_End, c_ty_End⟩
      g_Lesser := ⟨PySem.W.mg_of X G h_n_Lesser, ⟨c_pg_Lesser, c_hd_Lesser, c_po_Lesser, c_sa_Lesser⟩, c_ha_Lesser, c_hm_Lesser, c_ne_Lesser, cls_some c_sf_Lesser, c_ty_Lesser⟩
      g_Greater := ⟨PySem.W.mg_of X G h_n_Greater, ⟨c_pg_Greater, c_hd_Greater, c_po_Greater, c_sa_Greater⟩, c_ha_Greater, c_hm_Greater, c_ne_Greater, cls_some c_sf_Greater, c_ty_Greater⟩
      m_Term_init := ⟨⟨_, fun_mk h_l_Term_init h_c_Term_init h_k_Term_init⟩, h_fn_Term_init⟩
      m_Term_depth := ⟨⟨_, fun_mk h_l_Term_depth h_c_Term_depth h_k_Term_depth⟩, h_fn_Term_depth⟩
      m_Term_at := ⟨⟨_, fun_mk h_l_Term_at h_c_Term_at h_k_Term_at⟩, h_fn_Term_at⟩
      m_Term_places := ⟨⟨_, fun_mk h_l_Term_places h_c_Term_places h_k_Term_places⟩, h_fn_Term_places⟩
      m_Term_turned := ⟨⟨_, fun_mk h_l_Term_turned h_c_Term_turned h_k_Term_turned⟩, h_fn_Term_turned⟩
      m_Term_put := ⟨⟨_, fun_mk h_l_Term_put h_c_Term_put h_k_Term_put⟩, h_fn_Term_put⟩
      m_Term_and := ⟨⟨_, fun_mk h_l_Term_and h_c_Term_and h_k_Term_and⟩, h_fn_Term_and⟩
      m_Term_or := ⟨⟨_, fun_mk h_l_Term_or h_c_Term_or h_k_Term_or⟩, h_fn_Term_or⟩
      m_Term_str := ⟨⟨_, fun_mk h_l_Term_str h_c_Term_str h_k_Term_str⟩, h_fn_Term_str⟩
      m_Term_repr := ⟨⟨_, fun_mk h_l_Term_repr h_c_Term_repr h_k_Term_repr⟩, h_fn_Term_repr⟩
      m_Term_eq := ⟨⟨_, fun_mk h_l_Term_eq h_c_Term_eq h_k_Term_eq⟩, h_fn_Term_eq⟩
      m_Place_init := ⟨⟨_, _, _, _, _, _, _, _, h_l_Place_init⟩, h_c_Place_init, ⟨_, _, _, _, _, _, h_o_Place_init, h_x_Place_init⟩, ⟨_, _, _, h_w_Place_init⟩, Option.ne_none_iff_exists'.mp (cls_some c_sf_Place)⟩
      m_Place_name := ⟨⟨_, fun_mk h_l_Place_name h_c_Place_name h_k_Place_name⟩, h_fn_Place_name⟩
      m_End_init := ⟨⟨_, _, _, _, _, _, _, _, h_l_End_init⟩, h_c_End_init, ⟨_, _, _, _, _, _, h_o_End_init, h_x_End_init⟩, ⟨_, _, _, h_w_End_init⟩, Option.ne_none_iff_exists'.mp (cls_some c_sf_End)⟩
      m_End_end := ⟨⟨_, fun_mk h_l_End_end h_c_End_end h_k_End_end⟩, h_fn_End_end⟩
      m_Lesser_init := ⟨⟨_, _, _, _, _, _, _, _, h_l_Lesser_init⟩, h_c_Lesser_init, ⟨_, _, _, _, _, _, h_o_Lesser_init, h_x_Lesser_init⟩, ⟨_, _, _, h_w_Lesser_init⟩, Option.ne_none_iff_exists'.mp (cls_some c_sf_Lesser)⟩
      m_Lesser_parts := ⟨⟨_, fun_mk h_l_Lesser_parts h_c_Lesser_parts h_k_Lesser_parts⟩, h_fn_Lesser_parts⟩
      m_Greater_init := ⟨⟨_, _, _, _, _, _, _, _, h_l_Greater_init⟩, h_c_Greater_init, ⟨_, _, _, _, _, _, h_o_Greater_init, h_x_Greater_init⟩, ⟨_, _, _, h_w_Greater_init⟩, Option.ne_none_iff_exists'.mp (cls_some c_sf_Greater)⟩
      m_Greater_parts := ⟨⟨_, fun_mk h_l_Greater_parts h_c_Greater_parts h_k_Greater_parts⟩, h_fn_Greater_parts⟩
      f_Term_init := f_Term_init
      p_Term_depth := ⟨p_at_Term_depth, p_get_Term_depth, p_tak_Term_depth, _, p_rec_Term_depth⟩
      f_Term_at := f_Term_at
      f_Term_places := f_Term_places
      f_Term_turned := f_Term_turned
      f_Term_put := f_Term_put
      f_Term_and := f_Term_and
      f_Term_or := f_Term_or
      f_Term_str := f_Term_str
      f_Term_repr := f_Term_repr
      f_Term_eq := f_Term_eq
      mk_Term := ⟨mk_Term, f_Term_init, h_fn_Term_init, kp_Term⟩
      first_Term := c_sf_Term
      rand_Term := rand_Term
      ror_Term := ror_Term
      na_Term_own_depth := na_Term_own_depth
      f_Place_init := f_Place_init
      p_Place_name := ⟨p_at_Place_name, p_get_Place_name, p_tak_Place_name, _, p_rec_Place_name⟩
      p_Place_depth := ⟨p_at_Place_depth, p_get_Term_depth, p_tak_Term_depth, _, p_rec_Term_depth⟩
      f_Place_at := f_Place_at
      f_Place_places := f_Place_places
      f_Place_turned := f_Place_turned
      f_Place_put := f_Place_put
      f_Place_and := f_Place_and
      f_Place_or := f_Place_or
      f_Place_str := f_Place_str
      f_Place_repr := f_Place_repr
      f_Place_eq := f_Place_eq
      s_Place := ⟨s_sub_Place, s_sup_Place, s_ty_m_Term_init, h_any, s_fn_m_Term_init⟩
      mk_Place := ⟨mk_Place, f_Place_init, h_fn_Place_init, kp_Place⟩
      first_Place := c_sf_Place
      rand_Place := rand_Place
      ror_Place := ror_Place
      na_Place_own_depth := na_Place_own_depth
      na_Place_own_name := na_Place_own_name
      f_End_init := f_End_init
      p_End_end := ⟨p_at_End_end, p_get_End_end, p_tak_End_end, _, p_rec_End_end⟩
      p_End_depth := ⟨p_at_End_depth, p_get_Term_depth, p_tak_Term_depth, _, p_rec_Term_depth⟩
      f_End_at := f_End_at
      f_End_places := f_End_places
      f_End_turned := f_End_turned
      f_End_put := f_End_put
      f_End_and := f_End_and
      f_End_or := f_End_or
      f_End_str := f_End_str
      f_End_repr := f_End_repr
      f_End_eq := f_End_eq
      s_End := ⟨s_sub_End, s_sup_End, s_ty_m_Term_init, h_any, s_fn_m_Term_init⟩
      mk_End := ⟨mk_End, f_End_init, h_fn_End_init, kp_End⟩
      first_End := c_sf_End
      rand_End := rand_End
      ror_End := ror_End
      na_End_own_depth := na_End_own_depth
      na_End_own_end := na_End_own_end
      f_Lesser_init := f_Lesser_init
      p_Lesser_parts := ⟨p_at_Lesser_parts, p_get_Lesser_parts, p_tak_Lesser_parts, _, p_rec_Lesser_parts⟩
      p_Lesser_depth := ⟨p_at_Lesser_depth, p_get_Term_depth, p_tak_Term_depth, _, p_rec_Term_depth⟩
      f_Lesser_at := f_Lesser_at
      f_Lesser_places := f_Lesser_places
      f_Lesser_turned := f_Lesser_turned
      f_Lesser_put := f_Lesser_put
      f_Lesser_and := f_Lesser_and
      f_Lesser_or := f_Lesser_or
      f_Lesser_str := f_Lesser_str
      f_Lesser_repr := f_Lesser_repr
      f_Lesser_eq := f_Lesser_eq
      s_Lesser := ⟨s_sub_Lesser, s_sup_Lesser, s_ty_m_Term_init, h_any, s_fn_m_Term_init⟩
      mk_Lesser := ⟨mk_Lesser, f_Lesser_init, h_fn_Lesser_init, kp_Lesser⟩
      first_Lesser := c_sf_Lesser
      rand_Lesser := rand_Lesser
      ror_Lesser := ror_Lesser
      na_Lesser_own_depth := na_Lesser_own_depth
      na_Lesser_own_parts := na_Lesser_own_parts
      f_Greater_init := f_Greater_init
      p_Greater_parts := ⟨p_at_Greater_parts, p_get_Greater_parts, p_tak_Greater_parts, _, p_rec_Greater_parts⟩
      p_Greater_depth := ⟨p_at_Greater_depth, p_get_Term_depth, p_tak_Term_depth, _, p_rec_Term_depth⟩
      f_Greater_at := f_Greater_at
      f_Greater_places := f_Greater_places
      f_Greater_turned := f_Greater_turned
      f_Greater_put := f_Greater_put
      f_Greater_and := f_Greater_and
      f_Greater_or := f_Greater_or
      f_Greater_str := f_Greater_str
      f_Greater_repr := f_Greater_repr
      f_Greater_eq := f_Greater_eq
      s_Greater := ⟨s_sub_Greater, s_sup_Greater, s_ty_m_Term_init, h_any, s_fn_m_Term_init⟩
      mk_Greater := ⟨mk_Greater, f_Greater_init, h_fn_Greater_init, kp_Greater⟩
      first_Greater := c_sf_Greater
      rand_Greater := rand_Greater
      ror_Greater := ror_Greater
      na_Greater_own_depth := na_Greater_own_depth
      na_Greater_own_parts := na_Greater_own_parts
      x_Term_Term := x_Term_Term
      x_Term_Place := x_Term_Place
      x_Term_End := x_Term_End
      x_Term_Lesser := x_Term_Lesser
      x_Term_Greater := x_Term_Greater
      x_Place_Term := x_Place_Term
      x_Place_Place := x_Place_Place
      x_Place_End := x_Place_End
      x_Place_Lesser := x_Place_Lesser
      x_Place_Greater := x_Place_Greater
      x_End_Term := x_End_Term
      x_End_Place := x_End_Place
      x_End_End := x_End_End
      x_End_Lesser := x_End_Lesser
      x_End_Greater := x_End_Greater
      x_Lesser_Term := x_Lesser_Term
      x_Lesser_Place := x_Lesser_Place
      x_Lesser_End := x_Lesser_End
      x_Lesser_Lesser := x_Lesser_Lesser
      x_Lesser_Greater := x_Lesser_Greater
      x_Greater_Term := x_Greater_Term
      x_Greater_Place := x_Greater_Place
      x_Greater_End := x_Greater_End
      x_Greater_Lesser := x_Greater_Lesser
      x_Greater_Greater := x_Greater_Greater
      x_HeldError_HeldError := x_HeldError_HeldError
      x_HeldError_InvalidPlace := x_HeldError_InvalidPlace
      x_HeldError_InvalidEnd := x_HeldError_InvalidEnd
      x_HeldError_InvalidTerm := x_HeldError_InvalidTerm
      x_HeldError_InvalidValues := x_HeldError_InvalidValues
      x_InvalidPlace_HeldError := x_InvalidPlace_HeldError
      x_InvalidPlace_InvalidPlace := x_InvalidPlace_InvalidPlace
      x_InvalidPlace_InvalidEnd := x_InvalidPlace_InvalidEnd
      x_InvalidPlace_InvalidTerm := x_InvalidPlace_InvalidTerm
      x_InvalidPlace_InvalidValues := x_InvalidPlace_InvalidValues
      x_InvalidEnd_HeldError := x_InvalidEnd_HeldError
      x_InvalidEnd_InvalidPlace := x_InvalidEnd_InvalidPlace
      x_InvalidEnd_InvalidEnd := x_InvalidEnd_InvalidEnd
      x_InvalidEnd_InvalidTerm := x_InvalidEnd_InvalidTerm
      x_InvalidEnd_InvalidValues := x_InvalidEnd_InvalidValues
      x_InvalidTerm_HeldError := x_InvalidTerm_HeldError
      x_InvalidTerm_InvalidPlace := x_InvalidTerm_InvalidPlace
      x_InvalidTerm_InvalidEnd := x_InvalidTerm_InvalidEnd
      x_InvalidTerm_InvalidTerm := x_InvalidTerm_InvalidTerm
      x_InvalidTerm_InvalidValues := x_InvalidTerm_InvalidValues
      x_InvalidValues_HeldError := x_InvalidValues_HeldError
      x_InvalidValues_InvalidPlace := x_InvalidValues_InvalidPlace
      x_InvalidValues_InvalidEnd := x_InvalidValues_InvalidEnd
      x_InvalidValues_InvalidTerm := x_InvalidValues_InvalidTerm
      x_InvalidValues_InvalidValues := x_InvalidValues_InvalidValues
      y_HeldError := y_HeldError
      y_InvalidPlace := y_InvalidPlace
      y_InvalidEnd := y_InvalidEnd
      y_InvalidTerm := y_InvalidTerm
      y_InvalidValues := y_InvalidValues }
  have fl : Files l.prog K a :=
    { place := fun vs cl cd sl tx tf h1 h2 => by
        rw [show K.lookup a.o_Place_init = _ from h_o_Place_init] at h1
        cases h1
        rw [h_x_Place_init] at h2
        cases h2
        exact h_fi_Place_init
      endd := fun vs cl cd sl tx tf h1 h2 => by
        rw [show K.lookup a.o_End_init = _ from h_o_End_init] at h1
        cases h1
        rw [h_x_End_init] at h2
        cases h2
        exact h_fi_End_init
      lesser := fun vs cl cd sl tx tf h1 h2 => by
        rw [show K.lookup a.o_Lesser_init = _ from h_o_Lesser_init] at h1
        cases h1
        rw [h_x_Lesser_init] at h2
        cases h2
        exact h_fi_Lesser_init
      greater := fun vs cl cd sl tx tf h1 h2 => by
        rw [show K.lookup a.o_Greater_init = _ from h_o_Greater_init] at h1
        cases h1
        rw [h_x_Greater_init] at h2
        cases h2
        exact h_fi_Greater_init
      top := h_top
      nk_place := nk_Place
      nk_end := nk_End
      nk_lesser := nk_Lesser
      nk_greater := nk_Greater }
  have hfa : fa = f_law := by
    have e := hmg.symm.trans T.d_law.m
    cases e
    rfl
  subst hfa
  refine ⟨[], sp_law K, fun p hp => absurd hp List.not_mem_nil, fun p hp => absurd hp List.not_mem_nil, fun p hp => absurd hp List.not_mem_nil, ?_, ?_⟩
  · intro H b ns hn _ _ hS
    exact ⟨b, ns, rfl, hS, hn, fun _ => rfl⟩
  · intro base _ _ _
    exact ok_law T fl
end K16
open PySem PySem.W PyProof.Rows
set_option maxHeartbeats 0
open_top hd13 for PySem.Challenge.rw_rankchances_k16_same_and_never_above
theorem PySem.Challenge.cw_rankchances_k16_same_and_never_above_holds : PySem.Challenge.rw_rankchances_k16_same_and_never_above.Holds := by
  refine hd13 ?_
  k_fill
  refine LG.walk_law (l := PySem.Challenge.rw_rankchances_k16_same_and_never_above) (n := 63) (k := 21) rfl (by decide) rfl ⟨rfl, by decide, by decide⟩ (fun w h Y => PySem.W.kIn_of Y) ?F
  case F =>
    intro w mg fa h Y KX G hmg
    refine' K16.all_facts _ KX G hmg ?h_n__wall ?h_l__wall ?h_c__wall ?h_k__wall ?h_n_is_integer ?h_l_is_integer ?h_c_is_integer ?h_k_is_integer ?h_n_is_end ?h_l_is_end ?h_c_is_end ?h_k_is_end ?h_n_is_value ?h_l_is_value ?h_c_is_value ?h_k_is_value ?h_n_is_not_less ?h_l_is_not_less ?h_c_is_not_less ?h_k_is_not_less ?h_n_least_of ?h_l_least_of ?h_c_least_of ?h_k_least_of ?h_n_greatest_of ?h_l_greatest_of ?h_c_greatest_of ?h_k_greatest_of ?h_n_is_place ?h_l_is_place ?h_c_is_place ?h_k_is_place ?h_n_want_term ?h_l_want_term ?h_c_want_term ?h_k_want_term ?h_n_want_terms ?h_l_want_terms ?h_c_want_terms ?h_k_want_terms ?h_n_depth_above ?h_l_depth_above ?h_c_depth_above ?h_k_depth_above ?h_n_want_values ?h_l_want_values ?h_c_want_values ?h_k_want_values ?h_n_value_at ?h_l_value_at ?h_c_value_at ?h_k_value_at ?h_n_places_in ?h_l_places_in ?h_c_places_in ?h_k_places_in ?h_n_term_text ?h_l_term_text ?h_c_term_text ?h_k_term_text ?h_n_term_repr ?h_l_term_repr ?h_c_term_repr ?h_k_term_repr ?h_n_is_within ?h_l_is_within ?h_c_is_within ?h_k_is_within ?h_n_least_sets ?h_l_least_sets ?h_c_least_sets ?h_k_least_sets ?h_n_found_form ?h_l_found_form ?h_c_found_form ?h_k_found_form ?h_n_is_above ?h_l_is_above ?h_c_is_above ?h_k_is_above ?h_n_is_same ?h_l_is_same ?h_c_is_same ?h_k_is_same ?h_n_is_never_above ?h_l_is_never_above ?h_c_is_never_above ?h_k_is_never_above ?h_n_showing ?h_l_showing ?h_c_showing ?h_k_showing ?h_n__law_pot ?h_l__law_pot ?h_c__law_pot ?h_k__law_pot ?h_n__law_draw ?h_l__law_draw ?h_c__law_draw ?h_k__law_draw ?h_n__law_pick ?h_l__law_pick ?h_c__law_pick ?h_k__law_pick ?h_n__law_number ?h_l__law_number ?h_c__law_number ?h_k__law_number ?h_n__law_places ?h_l__law_places ?h_c__law_places ?h_k__law_places ?h_n__law_term ?h_l__law_term ?h_c__law_term ?h_k__law_term ?h_n__law_joined ?h_l__law_joined ?h_c__law_joined ?h_k__law_joined ?h_n__law_real ?h_l__law_real ?h_c__law_real ?h_k__law_real ?h_n__law_of ?h_l__law_of ?h_c__law_of ?h_k__law_of ?h_n__law_numbers ?h_l__law_numbers ?h_c__law_numbers ?h_k__law_numbers ?h_n__law_spots ?h_l__law_spots ?h_c__law_spots ?h_k__law_spots ?h_n__law_all_ends ?h_l__law_all_ends ?h_c__law_all_ends ?h_k__law_all_ends ?h_n__law_beside ?h_l__law_beside ?h_c__law_beside ?h_k__law_beside ?h_n__law_is_shown ?h_l__law_is_shown ?h_c__law_is_shown ?h_k__law_is_shown ?h_n__law_pair_right ?h_l__law_pair_right ?h_c__law_pair_right ?h_k__law_pair_right ?h_n__law_asked ?h_l__law_asked ?h_c__law_asked ?h_k__law_asked ?h_n__law_told ?h_l__law_told ?h_c__law_told ?h_k__law_told ?h_n__law_right ?h_l__law_right ?h_c__law_right ?h_k__law_right ?h_n_law ?h_l_law ?h_c_law ?h_k_law ?h_z_abs ?h_z_all ?h_z_any ?h_z_bool ?h_z_dict ?h_z_divmod ?h_z_int ?h_z_isinstance ?h_z_len ?h_z_list ?h_z_max ?h_z_min ?h_z_property ?h_z_range ?h_z_repr ?h_z_set ?h_z_sorted ?h_z_str ?h_z_super ?h_z_tuple ?h_v_BOTTOM ?h_v_TOP ?h_v_LEAST_PARTS ?h_v_ENDS ?h_l_ENDS ?h_v_PLACES ?h_l_PLACES ?e_hn ?e_ht ?e_n_HeldError ?e_l_HeldError ?e_r_HeldError ?e_sa_HeldError ?e_e1_HeldError ?e_e2_HeldError ?e_e3_HeldError ?e_i_HeldError ?e_v_HeldError ?e_ga_HeldError ?e_gg_HeldError ?e_hd_HeldError ?e_ha_HeldError ?e_hm_HeldError ?e_n_InvalidPlace ?e_l_InvalidPlace ?e_r_InvalidPlace ?e_sa_InvalidPlace ?e_e1_InvalidPlace ?e_e2_InvalidPlace ?e_e3_InvalidPlace ?e_i_InvalidPlace ?e_v_InvalidPlace ?e_ga_InvalidPlace ?e_gg_InvalidPlace ?e_hd_InvalidPlace ?e_ha_InvalidPlace ?e_hm_InvalidPlace ?e_n_InvalidEnd ?e_l_InvalidEnd ?e_r_InvalidEnd ?e_sa_InvalidEnd ?e_e1_InvalidEnd ?e_e2_InvalidEnd ?e_e3_InvalidEnd ?e_i_InvalidEnd ?e_v_InvalidEnd ?e_ga_InvalidEnd ?e_gg_InvalidEnd ?e_hd_InvalidEnd ?e_ha_InvalidEnd ?e_hm_InvalidEnd ?e_n_InvalidTerm ?e_l_InvalidTerm ?e_r_InvalidTerm ?e_sa_InvalidTerm ?e_e1_InvalidTerm ?e_e2_InvalidTerm ?e_e3_InvalidTerm ?e_i_InvalidTerm ?e_v_InvalidTerm ?e_ga_InvalidTerm ?e_gg_InvalidTerm ?e_hd_InvalidTerm ?e_ha_InvalidTerm ?e_hm_InvalidTerm ?e_n_InvalidValues ?e_l_InvalidValues ?e_r_InvalidValues ?e_sa_InvalidValues ?e_e1_InvalidValues ?e_e2_InvalidValues ?e_e3_InvalidValues ?e_i_InvalidValues ?e_v_InvalidValues ?e_ga_InvalidValues ?e_gg_InvalidValues ?e_hd_InvalidValues ?e_ha_InvalidValues ?e_hm_InvalidValues ?h_ti ?h_il ?h_ic ?h_ik ?h_iD ?h_any ?h_n_Term ?c_pg_Term ?c_hd_Term ?c_po_Term ?c_sa_Term ?c_ha_Term ?c_hm_Term ?c_ne_Term ?c_ty_Term ?c_sf_Term ?h_n_Place ?c_pg_Place ?c_hd_Place ?c_po_Place ?c_sa_Place ?c_ha_Place ?c_hm_Place ?c_ne_Place ?c_ty_Place ?c_sf_Place ?h_n_End ?c_pg_End ?c_hd_End ?c_po_End ?c_sa_End ?c_ha_End ?c_hm_End ?c_ne_End ?c_ty_End ?c_sf_End ?h_n_Lesser ?c_pg_Lesser ?c_hd_Lesser ?c_po_Lesser ?c_sa_Lesser ?c_ha_Lesser ?c_hm_Lesser ?c_ne_Lesser ?c_ty_Lesser ?c_sf_Lesser ?h_n_Greater ?c_pg_Greater ?c_hd_Greater ?c_po_Greater ?c_sa_Greater ?c_ha_Greater ?c_hm_Greater ?c_ne_Greater ?c_ty_Greater ?c_sf_Greater ?f_Term_init ?p_at_Term_depth ?f_Term_at ?f_Term_places ?f_Term_turned ?f_Term_put ?f_Term_and ?f_Term_or ?f_Term_str ?f_Term_repr ?f_Term_eq ?f_Place_init ?p_at_Place_name ?p_at_Place_depth ?f_Place_at ?f_Place_places ?f_Place_turned ?f_Place_put ?f_Place_and ?f_Place_or ?f_Place_str ?f_Place_repr ?f_Place_eq ?f_End_init ?p_at_End_end ?p_at_End_depth ?f_End_at ?f_End_places ?f_End_turned ?f_End_put ?f_End_and ?f_End_or ?f_End_str ?f_End_repr ?f_End_eq ?f_Lesser_init ?p_at_Lesser_parts ?p_at_Lesser_depth ?f_Lesser_at ?f_Lesser_places ?f_Lesser_turned ?f_Lesser_put ?f_Lesser_and ?f_Lesser_or ?f_Lesser_str ?f_Lesser_repr ?f_Lesser_eq ?f_Greater_init ?p_at_Greater_parts ?p_at_Greater_depth ?f_Greater_at ?f_Greater_places ?f_Greater_turned ?f_Greater_put ?f_Greater_and ?f_Greater_or ?f_Greater_str ?f_Greater_repr ?f_Greater_eq ?p_get_Term_depth ?p_tak_Term_depth ?p_rec_Term_depth ?p_get_Place_name ?p_tak_Place_name ?p_rec_Place_name ?p_get_End_end ?p_tak_End_end ?p_rec_End_end ?p_get_Lesser_parts ?p_tak_Lesser_parts ?p_rec_Lesser_parts ?p_get_Greater_parts ?p_tak_Greater_parts ?p_rec_Greater_parts ?h_l_Term_init ?h_c_Term_init ?h_k_Term_init ?h_fn_Term_init ?h_l_Term_depth ?h_c_Term_depth ?h_k_Term_depth ?h_fn_Term_depth ?h_l_Term_at ?h_c_Term_at ?h_k_Term_at ?h_fn_Term_at ?h_l_Term_places ?h_c_Term_places ?h_k_Term_places ?h_fn_Term_places ?h_l_Term_turned ?h_c_Term_turned ?h_k_Term_turned ?h_fn_Term_turned ?h_l_Term_put ?h_c_Term_put ?h_k_Term_put ?h_fn_Term_put ?h_l_Term_and ?h_c_Term_and ?h_k_Term_and ?h_fn_Term_and ?h_l_Term_or ?h_c_Term_or ?h_k_Term_or ?h_fn_Term_or ?h_l_Term_str ?h_c_Term_str ?h_k_Term_str ?h_fn_Term_str ?h_l_Term_repr ?h_c_Term_repr ?h_k_Term_repr ?h_fn_Term_repr ?h_l_Term_eq ?h_c_Term_eq ?h_k_Term_eq ?h_fn_Term_eq ?h_l_Place_init ?h_c_Place_init ?h_o_Place_init ?h_x_Place_init ?h_w_Place_init ?h_fi_Place_init ?h_fn_Place_init ?h_l_Place_name ?h_c_Place_name ?h_k_Place_name ?h_fn_Place_name ?h_l_End_init ?h_c_End_init ?h_o_End_init ?h_x_End_init ?h_w_End_init ?h_fi_End_init ?h_fn_End_init ?h_l_End_end ?h_c_End_end ?h_k_End_end ?h_fn_End_end ?h_l_Lesser_init ?h_c_Lesser_init ?h_o_Lesser_init ?h_x_Lesser_init ?h_w_Lesser_init ?h_fi_Lesser_init ?h_fn_Lesser_init ?h_l_Lesser_parts ?h_c_Lesser_parts ?h_k_Lesser_parts ?h_fn_Lesser_parts ?h_l_Greater_init ?h_c_Greater_init ?h_o_Greater_init ?h_x_Greater_init ?h_w_Greater_init ?h_fi_Greater_init ?h_fn_Greater_init ?h_l_Greater_parts ?h_c_Greater_parts ?h_k_Greater_parts ?h_fn_Greater_parts ?mk_Term ?kp_Term ?rand_Term ?ror_Term ?na_Term_own_depth ?s_sub_Place ?s_sup_Place ?s_ty_m_Term_init ?s_fn_m_Term_init ?mk_Place ?kp_Place ?rand_Place ?ror_Place ?na_Place_own_depth ?na_Place_own_name ?s_sub_End ?s_sup_End ?mk_End ?kp_End ?rand_End ?ror_End ?na_End_own_depth ?na_End_own_end ?s_sub_Lesser ?s_sup_Lesser ?mk_Lesser ?kp_Lesser ?rand_Lesser ?ror_Lesser ?na_Lesser_own_depth ?na_Lesser_own_parts ?s_sub_Greater ?s_sup_Greater ?mk_Greater ?kp_Greater ?rand_Greater ?ror_Greater ?na_Greater_own_depth ?na_Greater_own_parts ?x_Term_Term ?x_Term_Place ?x_Term_End ?x_Term_Lesser ?x_Term_Greater ?x_Place_Term ?x_Place_Place ?x_Place_End ?x_Place_Lesser ?x_Place_Greater ?x_End_Term ?x_End_Place ?x_End_End ?x_End_Lesser ?x_End_Greater ?x_Lesser_Term ?x_Lesser_Place ?x_Lesser_End ?x_Lesser_Lesser ?x_Lesser_Greater ?x_Greater_Term ?x_Greater_Place ?x_Greater_End ?x_Greater_Lesser ?x_Greater_Greater ?x_HeldError_HeldError ?x_HeldError_InvalidPlace ?x_HeldError_InvalidEnd ?x_HeldError_InvalidTerm ?x_HeldError_InvalidValues ?x_InvalidPlace_HeldError ?x_InvalidPlace_InvalidPlace ?x_InvalidPlace_InvalidEnd ?x_InvalidPlace_InvalidTerm ?x_InvalidPlace_InvalidValues ?x_InvalidEnd_HeldError ?x_InvalidEnd_InvalidPlace ?x_InvalidEnd_InvalidEnd ?x_InvalidEnd_InvalidTerm ?x_InvalidEnd_InvalidValues ?x_InvalidTerm_HeldError ?x_InvalidTerm_InvalidPlace ?x_InvalidTerm_InvalidEnd ?x_InvalidTerm_InvalidTerm ?x_InvalidTerm_InvalidValues ?x_InvalidValues_HeldError ?x_InvalidValues_InvalidPlace ?x_InvalidValues_InvalidEnd ?x_InvalidValues_InvalidTerm ?x_InvalidValues_InvalidValues ?y_HeldError ?y_InvalidPlace ?y_InvalidEnd ?y_InvalidTerm ?y_InvalidValues ?nk_Place ?nk_End ?nk_Lesser ?nk_Greater ?h_top
    (case h_n__wall => k_is)
    (case h_l__wall => k_is)
    (case h_c__wall => k_is)
    (case h_k__wall => k_is)
    (case h_n_is_integer => k_is)
    (case h_l_is_integer => k_is)
    (case h_c_is_integer => k_is)
    (case h_k_is_integer => k_is)
    (case h_n_is_end => k_is)
    (case h_l_is_end => k_is)
    (case h_c_is_end => k_is)
    (case h_k_is_end => k_is)
    (case h_n_is_value => k_is)
    (case h_l_is_value => k_is)
    (case h_c_is_value => k_is)
    (case h_k_is_value => k_is)
    (case h_n_is_not_less => k_is)
    (case h_l_is_not_less => k_is)
    (case h_c_is_not_less => k_is)
    (case h_k_is_not_less => k_is)
    (case h_n_least_of => k_is)
    (case h_l_least_of => k_is)
    (case h_c_least_of => k_is)
    (case h_k_least_of => k_is)
    (case h_n_greatest_of => k_is)
    (case h_l_greatest_of => k_is)
    (case h_c_greatest_of => k_is)
    (case h_k_greatest_of => k_is)
    (case h_n_is_place => k_is)
    (case h_l_is_place => k_is)
    (case h_c_is_place => k_is)
    (case h_k_is_place => k_is)
    (case h_n_want_term => k_is)
    (case h_l_want_term => k_is)
    (case h_c_want_term => k_is)
    (case h_k_want_term => k_is)
    (case h_n_want_terms => k_is)
    (case h_l_want_terms => k_is)
    (case h_c_want_terms => k_is)
    (case h_k_want_terms => k_is)
    (case h_n_depth_above => k_is)
    (case h_l_depth_above => k_is)
    (case h_c_depth_above => k_is)
    (case h_k_depth_above => k_is)
    (case h_n_want_values => k_is)
    (case h_l_want_values => k_is)
    (case h_c_want_values => k_is)
    (case h_k_want_values => k_is)
    (case h_n_value_at => k_is)
    (case h_l_value_at => k_is)
    (case h_c_value_at => k_is)
    (case h_k_value_at => k_is)
    (case h_n_places_in => k_is)
    (case h_l_places_in => k_is)
    (case h_c_places_in => k_is)
    (case h_k_places_in => k_is)
    (case h_n_term_text => k_is)
    (case h_l_term_text => k_is)
    (case h_c_term_text => k_is)
    (case h_k_term_text => k_is)
    (case h_n_term_repr => k_is)
    (case h_l_term_repr => k_is)
    (case h_c_term_repr => k_is)
    (case h_k_term_repr => k_is)
    (case h_n_is_within => k_is)
    (case h_l_is_within => k_is)
    (case h_c_is_within => k_is)
    (case h_k_is_within => k_is)
    (case h_n_least_sets => k_is)
    (case h_l_least_sets => k_is)
    (case h_c_least_sets => k_is)
    (case h_k_least_sets => k_is)
    (case h_n_found_form => k_is)
    (case h_l_found_form => k_is)
    (case h_c_found_form => k_is)
    (case h_k_found_form => k_is)
    (case h_n_is_above => k_is)
    (case h_l_is_above => k_is)
    (case h_c_is_above => k_is)
    (case h_k_is_above => k_is)
    (case h_n_is_same => k_is)
    (case h_l_is_same => k_is)
    (case h_c_is_same => k_is)
    (case h_k_is_same => k_is)
    (case h_n_is_never_above => k_is)
    (case h_l_is_never_above => k_is)
    (case h_c_is_never_above => k_is)
    (case h_k_is_never_above => k_is)
    (case h_n_showing => k_is)
    (case h_l_showing => k_is)
    (case h_c_showing => k_is)
    (case h_k_showing => k_is)
    (case h_n__law_pot => k_is)
    (case h_l__law_pot => k_is)
    (case h_c__law_pot => k_is)
    (case h_k__law_pot => k_is)
    (case h_n__law_draw => k_is)
    (case h_l__law_draw => k_is)
    (case h_c__law_draw => k_is)
    (case h_k__law_draw => k_is)
    (case h_n__law_pick => k_is)
    (case h_l__law_pick => k_is)
    (case h_c__law_pick => k_is)
    (case h_k__law_pick => k_is)
    (case h_n__law_number => k_is)
    (case h_l__law_number => k_is)
    (case h_c__law_number => k_is)
    (case h_k__law_number => k_is)
    (case h_n__law_places => k_is)
    (case h_l__law_places => k_is)
    (case h_c__law_places => k_is)
    (case h_k__law_places => k_is)
    (case h_n__law_term => k_is)
    (case h_l__law_term => k_is)
    (case h_c__law_term => k_is)
    (case h_k__law_term => k_is)
    (case h_n__law_joined => k_is)
    (case h_l__law_joined => k_is)
    (case h_c__law_joined => k_is)
    (case h_k__law_joined => k_is)
    (case h_n__law_real => k_is)
    (case h_l__law_real => k_is)
    (case h_c__law_real => k_is)
    (case h_k__law_real => k_is)
    (case h_n__law_of => k_is)
    (case h_l__law_of => k_is)
    (case h_c__law_of => k_is)
    (case h_k__law_of => k_is)
    (case h_n__law_numbers => k_is)
    (case h_l__law_numbers => k_is)
    (case h_c__law_numbers => k_is)
    (case h_k__law_numbers => k_is)
    (case h_n__law_spots => k_is)
    (case h_l__law_spots => k_is)
    (case h_c__law_spots => k_is)
    (case h_k__law_spots => k_is)
    (case h_n__law_all_ends => k_is)
    (case h_l__law_all_ends => k_is)
    (case h_c__law_all_ends => k_is)
    (case h_k__law_all_ends => k_is)
    (case h_n__law_beside => k_is)
    (case h_l__law_beside => k_is)
    (case h_c__law_beside => k_is)
    (case h_k__law_beside => k_is)
    (case h_n__law_is_shown => k_is)
    (case h_l__law_is_shown => k_is)
    (case h_c__law_is_shown => k_is)
    (case h_k__law_is_shown => k_is)
    (case h_n__law_pair_right => k_is)
    (case h_l__law_pair_right => k_is)
    (case h_c__law_pair_right => k_is)
    (case h_k__law_pair_right => k_is)
    (case h_n__law_asked => k_is)
    (case h_l__law_asked => k_is)
    (case h_c__law_asked => k_is)
    (case h_k__law_asked => k_is)
    (case h_n__law_told => k_is)
    (case h_l__law_told => k_is)
    (case h_c__law_told => k_is)
    (case h_k__law_told => k_is)
    (case h_n__law_right => k_is)
    (case h_l__law_right => k_is)
    (case h_c__law_right => k_is)
    (case h_k__law_right => k_is)
    (case h_n_law => k_is)
    (case h_l_law => k_is)
    (case h_c_law => k_is)
    (case h_k_law => k_is)
    (case h_z_abs => k_is)
    (case h_z_all => k_is)
    (case h_z_any => k_is)
    (case h_z_bool => k_is)
    (case h_z_dict => k_is)
    (case h_z_divmod => k_is)
    (case h_z_int => k_is)
    (case h_z_isinstance => k_is)
    (case h_z_len => k_is)
    (case h_z_list => k_is)
    (case h_z_max => k_is)
    (case h_z_min => k_is)
    (case h_z_property => k_is)
    (case h_z_range => k_is)
    (case h_z_repr => k_is)
    (case h_z_set => k_is)
    (case h_z_sorted => k_is)
    (case h_z_str => k_is)
    (case h_z_super => k_is)
    (case h_z_tuple => k_is)
    (case h_v_BOTTOM => k_is)
    (case h_v_TOP => k_is)
    (case h_v_LEAST_PARTS => k_is)
    (case h_v_ENDS => k_is)
    (case h_l_ENDS => k_is)
    (case h_v_PLACES => k_is)
    (case h_l_PLACES => k_is)
    (case e_hn => k_is)
    (case e_ht => k_is)
    (case e_n_HeldError => k_is)
    (case e_l_HeldError => k_is)
    (case e_r_HeldError => first | kernel_rfl | exact rfl)
    (case e_sa_HeldError => k_is)
    (case e_e1_HeldError => k_is)
    (case e_e2_HeldError => k_is)
    (case e_e3_HeldError => k_is)
    (case e_i_HeldError => k_is)
    (case e_v_HeldError => k_is)
    (case e_ga_HeldError => k_is)
    (case e_gg_HeldError => k_is)
    (case e_hd_HeldError => k_is)
    (case e_ha_HeldError => k_is)
    (case e_hm_HeldError => k_is)
    (case e_n_InvalidPlace => k_is)
    (case e_l_InvalidPlace => k_is)
    (case e_r_InvalidPlace => first | kernel_rfl | exact rfl)
    (case e_sa_InvalidPlace => k_is)
    (case e_e1_InvalidPlace => k_is)
    (case e_e2_InvalidPlace => k_is)
    (case e_e3_InvalidPlace => k_is)
    (case e_i_InvalidPlace => k_is)
    (case e_v_InvalidPlace => k_is)
    (case e_ga_InvalidPlace => k_is)
    (case e_gg_InvalidPlace => k_is)
    (case e_hd_InvalidPlace => k_is)
    (case e_ha_InvalidPlace => k_is)
    (case e_hm_InvalidPlace => k_is)
    (case e_n_InvalidEnd => k_is)
    (case e_l_InvalidEnd => k_is)
    (case e_r_InvalidEnd => first | kernel_rfl | exact rfl)
    (case e_sa_InvalidEnd => k_is)
    (case e_e1_InvalidEnd => k_is)
    (case e_e2_InvalidEnd => k_is)
    (case e_e3_InvalidEnd => k_is)
    (case e_i_InvalidEnd => k_is)
    (case e_v_InvalidEnd => k_is)
    (case e_ga_InvalidEnd => k_is)
    (case e_gg_InvalidEnd => k_is)
    (case e_hd_InvalidEnd => k_is)
    (case e_ha_InvalidEnd => k_is)
    (case e_hm_InvalidEnd => k_is)
    (case e_n_InvalidTerm => k_is)
    (case e_l_InvalidTerm => k_is)
    (case e_r_InvalidTerm => first | kernel_rfl | exact rfl)
    (case e_sa_InvalidTerm => k_is)
    (case e_e1_InvalidTerm => k_is)
    (case e_e2_InvalidTerm => k_is)
    (case e_e3_InvalidTerm => k_is)
    (case e_i_InvalidTerm => k_is)
    (case e_v_InvalidTerm => k_is)
    (case e_ga_InvalidTerm => k_is)
    (case e_gg_InvalidTerm => k_is)
    (case e_hd_InvalidTerm => k_is)
    (case e_ha_InvalidTerm => k_is)
    (case e_hm_InvalidTerm => k_is)
    (case e_n_InvalidValues => k_is)
    (case e_l_InvalidValues => k_is)
    (case e_r_InvalidValues => first | kernel_rfl | exact rfl)
    (case e_sa_InvalidValues => k_is)
    (case e_e1_InvalidValues => k_is)
    (case e_e2_InvalidValues => k_is)
    (case e_e3_InvalidValues => k_is)
    (case e_i_InvalidValues => k_is)
    (case e_v_InvalidValues => k_is)
    (case e_ga_InvalidValues => k_is)
    (case e_gg_InvalidValues => k_is)
    (case e_hd_InvalidValues => k_is)
    (case e_ha_InvalidValues => k_is)
    (case e_hm_InvalidValues => k_is)
    (case h_ti => k_is)
    (case h_il => k_is)
    (case h_ic => k_is)
    (case h_ik => k_is)
    (case h_iD => k_is)
    (case h_any => k_is)
    (case h_n_Term => k_is)
    (case c_pg_Term => k_is)
    (case c_hd_Term => k_is)
    (case c_po_Term => k_is)
    (case c_sa_Term => k_is)
    (case c_ha_Term => k_is)
    (case c_hm_Term => k_is)
    (case c_ne_Term => k_is)
    (case c_ty_Term => k_is)
    (case c_sf_Term => k_is)
    (case h_n_Place => k_is)
    (case c_pg_Place => k_is)
    (case c_hd_Place => k_is)
    (case c_po_Place => k_is)
    (case c_sa_Place => k_is)
    (case c_ha_Place => k_is)
    (case c_hm_Place => k_is)
    (case c_ne_Place => k_is)
    (case c_ty_Place => k_is)
    (case c_sf_Place => k_is)
    (case h_n_End => k_is)
    (case c_pg_End => k_is)
    (case c_hd_End => k_is)
    (case c_po_End => k_is)
    (case c_sa_End => k_is)
    (case c_ha_End => k_is)
    (case c_hm_End => k_is)
    (case c_ne_End => k_is)
    (case c_ty_End => k_is)
    (case c_sf_End => k_is)
    (case h_n_Lesser => k_is)
    (case c_pg_Lesser => k_is)
    (case c_hd_Lesser => k_is)
    (case c_po_Lesser => k_is)
    (case c_sa_Lesser => k_is)
    (case c_ha_Lesser => k_is)
    (case c_hm_Lesser => k_is)
    (case c_ne_Lesser => k_is)
    (case c_ty_Lesser => k_is)
    (case c_sf_Lesser => k_is)
    (case h_n_Greater => k_is)
    (case c_pg_Greater => k_is)
    (case c_hd_Greater => k_is)
    (case c_po_Greater => k_is)
    (case c_sa_Greater => k_is)
    (case c_ha_Greater => k_is)
    (case c_hm_Greater => k_is)
    (case c_ne_Greater => k_is)
    (case c_ty_Greater => k_is)
    (case c_sf_Greater => k_is)
    (case f_Term_init => k_is)
    (case p_at_Term_depth => k_is)
    (case f_Term_at => k_is)
    (case f_Term_places => k_is)
    (case f_Term_turned => k_is)
    (case f_Term_put => k_is)
    (case f_Term_and => k_is)
    (case f_Term_or => k_is)
    (case f_Term_str => k_is)
    (case f_Term_repr => k_is)
    (case f_Term_eq => k_is)
    (case f_Place_init => k_is)
    (case p_at_Place_name => k_is)
    (case p_at_Place_depth => k_is)
    (case f_Place_at => k_is)
    (case f_Place_places => k_is)
    (case f_Place_turned => k_is)
    (case f_Place_put => k_is)
    (case f_Place_and => k_is)
    (case f_Place_or => k_is)
    (case f_Place_str => k_is)
    (case f_Place_repr => k_is)
    (case f_Place_eq => k_is)
    (case f_End_init => k_is)
    (case p_at_End_end => k_is)
    (case p_at_End_depth => k_is)
    (case f_End_at => k_is)
    (case f_End_places => k_is)
    (case f_End_turned => k_is)
    (case f_End_put => k_is)
    (case f_End_and => k_is)
    (case f_End_or => k_is)
    (case f_End_str => k_is)
    (case f_End_repr => k_is)
    (case f_End_eq => k_is)
    (case f_Lesser_init => k_is)
    (case p_at_Lesser_parts => k_is)
    (case p_at_Lesser_depth => k_is)
    (case f_Lesser_at => k_is)
    (case f_Lesser_places => k_is)
    (case f_Lesser_turned => k_is)
    (case f_Lesser_put => k_is)
    (case f_Lesser_and => k_is)
    (case f_Lesser_or => k_is)
    (case f_Lesser_str => k_is)
    (case f_Lesser_repr => k_is)
    (case f_Lesser_eq => k_is)
    (case f_Greater_init => k_is)
    (case p_at_Greater_parts => k_is)
    (case p_at_Greater_depth => k_is)
    (case f_Greater_at => k_is)
    (case f_Greater_places => k_is)
    (case f_Greater_turned => k_is)
    (case f_Greater_put => k_is)
    (case f_Greater_and => k_is)
    (case f_Greater_or => k_is)
    (case f_Greater_str => k_is)
    (case f_Greater_repr => k_is)
    (case f_Greater_eq => k_is)
    (case p_get_Term_depth => k_is)
    (case p_tak_Term_depth => k_is)
    (case p_rec_Term_depth => first | exact rfl | k_is)
    (case p_get_Place_name => k_is)
    (case p_tak_Place_name => k_is)
    (case p_rec_Place_name => first | exact rfl | k_is)
    (case p_get_End_end => k_is)
    (case p_tak_End_end => k_is)
    (case p_rec_End_end => first | exact rfl | k_is)
    (case p_get_Lesser_parts => k_is)
    (case p_tak_Lesser_parts => k_is)
    (case p_rec_Lesser_parts => first | exact rfl | k_is)
    (case p_get_Greater_parts => k_is)
    (case p_tak_Greater_parts => k_is)
    (case p_rec_Greater_parts => first | exact rfl | k_is)
    (case h_l_Term_init => k_is)
    (case h_c_Term_init => k_is)
    (case h_k_Term_init => k_is)
    (case h_fn_Term_init => k_is)
    (case h_l_Term_depth => k_is)
    (case h_c_Term_depth => k_is)
    (case h_k_Term_depth => k_is)
    (case h_fn_Term_depth => k_is)
    (case h_l_Term_at => k_is)
    (case h_c_Term_at => k_is)
    (case h_k_Term_at => k_is)
    (case h_fn_Term_at => k_is)
    (case h_l_Term_places => k_is)
    (case h_c_Term_places => k_is)
    (case h_k_Term_places => k_is)
    (case h_fn_Term_places => k_is)
    (case h_l_Term_turned => k_is)
    (case h_c_Term_turned => k_is)
    (case h_k_Term_turned => k_is)
    (case h_fn_Term_turned => k_is)
    (case h_l_Term_put => k_is)
    (case h_c_Term_put => k_is)
    (case h_k_Term_put => k_is)
    (case h_fn_Term_put => k_is)
    (case h_l_Term_and => k_is)
    (case h_c_Term_and => k_is)
    (case h_k_Term_and => k_is)
    (case h_fn_Term_and => k_is)
    (case h_l_Term_or => k_is)
    (case h_c_Term_or => k_is)
    (case h_k_Term_or => k_is)
    (case h_fn_Term_or => k_is)
    (case h_l_Term_str => k_is)
    (case h_c_Term_str => k_is)
    (case h_k_Term_str => k_is)
    (case h_fn_Term_str => k_is)
    (case h_l_Term_repr => k_is)
    (case h_c_Term_repr => k_is)
    (case h_k_Term_repr => k_is)
    (case h_fn_Term_repr => k_is)
    (case h_l_Term_eq => k_is)
    (case h_c_Term_eq => k_is)
    (case h_k_Term_eq => k_is)
    (case h_fn_Term_eq => k_is)
    (case h_l_Place_init => k_is)
    (case h_c_Place_init => k_is)
    (case h_o_Place_init => k_is)
    (case h_x_Place_init => first | exact rfl | k_is)
    (case h_w_Place_init => k_is)
    (case h_fi_Place_init => first | kernel_rfl | exact rfl)
    (case h_fn_Place_init => k_is)
    (case h_l_Place_name => k_is)
    (case h_c_Place_name => k_is)
    (case h_k_Place_name => k_is)
    (case h_fn_Place_name => k_is)
    (case h_l_End_init => k_is)
    (case h_c_End_init => k_is)
    (case h_o_End_init => k_is)
    (case h_x_End_init => first | exact rfl | k_is)
    (case h_w_End_init => k_is)
    (case h_fi_End_init => first | kernel_rfl | exact rfl)
    (case h_fn_End_init => k_is)
    (case h_l_End_end => k_is)
    (case h_c_End_end => k_is)
    (case h_k_End_end => k_is)
    (case h_fn_End_end => k_is)
    (case h_l_Lesser_init => k_is)
    (case h_c_Lesser_init => k_is)
    (case h_o_Lesser_init => k_is)
    (case h_x_Lesser_init => first | exact rfl | k_is)
    (case h_w_Lesser_init => k_is)
    (case h_fi_Lesser_init => first | kernel_rfl | exact rfl)
    (case h_fn_Lesser_init => k_is)
    (case h_l_Lesser_parts => k_is)
    (case h_c_Lesser_parts => k_is)
    (case h_k_Lesser_parts => k_is)
    (case h_fn_Lesser_parts => k_is)
    (case h_l_Greater_init => k_is)
    (case h_c_Greater_init => k_is)
    (case h_o_Greater_init => k_is)
    (case h_x_Greater_init => first | exact rfl | k_is)
    (case h_w_Greater_init => k_is)
    (case h_fi_Greater_init => first | kernel_rfl | exact rfl)
    (case h_fn_Greater_init => k_is)
    (case h_l_Greater_parts => k_is)
    (case h_c_Greater_parts => k_is)
    (case h_k_Greater_parts => k_is)
    (case h_fn_Greater_parts => k_is)
    (case mk_Term => k_is)
    (case kp_Term => k_is)
    (case rand_Term => k_is)
    (case ror_Term => k_is)
    (case na_Term_own_depth => k_is)
    (case s_sub_Place => k_is)
    (case s_sup_Place => ks_is)
    (case s_ty_m_Term_init => k_is)
    (case s_fn_m_Term_init => k_is)
    (case mk_Place => k_is)
    (case kp_Place => k_is)
    (case rand_Place => k_is)
    (case ror_Place => k_is)
    (case na_Place_own_depth => k_is)
    (case na_Place_own_name => k_is)
    (case s_sub_End => k_is)
    (case s_sup_End => ks_is)
    (case mk_End => k_is)
    (case kp_End => k_is)
    (case rand_End => k_is)
    (case ror_End => k_is)
    (case na_End_own_depth => k_is)
    (case na_End_own_end => k_is)
    (case s_sub_Lesser => k_is)
    (case s_sup_Lesser => ks_is)
    (case mk_Lesser => k_is)
    (case kp_Lesser => k_is)
    (case rand_Lesser => k_is)
    (case ror_Lesser => k_is)
    (case na_Lesser_own_depth => k_is)
    (case na_Lesser_own_parts => k_is)
    (case s_sub_Greater => k_is)
    (case s_sup_Greater => ks_is)
    (case mk_Greater => k_is)
    (case kp_Greater => k_is)
    (case rand_Greater => k_is)
    (case ror_Greater => k_is)
    (case na_Greater_own_depth => k_is)
    (case na_Greater_own_parts => k_is)
    (case x_Term_Term => k_is)
    (case x_Term_Place => k_is)
    (case x_Term_End => k_is)
    (case x_Term_Lesser => k_is)
    (case x_Term_Greater => k_is)
    (case x_Place_Term => k_is)
    (case x_Place_Place => k_is)
    (case x_Place_End => k_is)
    (case x_Place_Lesser => k_is)
    (case x_Place_Greater => k_is)
    (case x_End_Term => k_is)
    (case x_End_Place => k_is)
    (case x_End_End => k_is)
    (case x_End_Lesser => k_is)
    (case x_End_Greater => k_is)
    (case x_Lesser_Term => k_is)
    (case x_Lesser_Place => k_is)
    (case x_Lesser_End => k_is)
    (case x_Lesser_Lesser => k_is)
    (case x_Lesser_Greater => k_is)
    (case x_Greater_Term => k_is)
    (case x_Greater_Place => k_is)
    (case x_Greater_End => k_is)
    (case x_Greater_Lesser => k_is)
    (case x_Greater_Greater => k_is)
    (case x_HeldError_HeldError => k_is)
    (case x_HeldError_InvalidPlace => k_is)
    (case x_HeldError_InvalidEnd => k_is)
    (case x_HeldError_InvalidTerm => k_is)
    (case x_HeldError_InvalidValues => k_is)
    (case x_InvalidPlace_HeldError => k_is)
    (case x_InvalidPlace_InvalidPlace => k_is)
    (case x_InvalidPlace_InvalidEnd => k_is)
    (case x_InvalidPlace_InvalidTerm => k_is)
    (case x_InvalidPlace_InvalidValues => k_is)
    (case x_InvalidEnd_HeldError => k_is)
    (case x_InvalidEnd_InvalidPlace => k_is)
    (case x_InvalidEnd_InvalidEnd => k_is)
    (case x_InvalidEnd_InvalidTerm => k_is)
    (case x_InvalidEnd_InvalidValues => k_is)
    (case x_InvalidTerm_HeldError => k_is)
    (case x_InvalidTerm_InvalidPlace => k_is)
    (case x_InvalidTerm_InvalidEnd => k_is)
    (case x_InvalidTerm_InvalidTerm => k_is)
    (case x_InvalidTerm_InvalidValues => k_is)
    (case x_InvalidValues_HeldError => k_is)
    (case x_InvalidValues_InvalidPlace => k_is)
    (case x_InvalidValues_InvalidEnd => k_is)
    (case x_InvalidValues_InvalidTerm => k_is)
    (case x_InvalidValues_InvalidValues => k_is)
    (case y_HeldError => k_is)
    (case y_InvalidPlace => k_is)
    (case y_InvalidEnd => k_is)
    (case y_InvalidTerm => k_is)
    (case y_InvalidValues => k_is)
    (case nk_Place => first | kernel_rfl | exact rfl)
    (case nk_End => first | kernel_rfl | exact rfl)
    (case nk_Lesser => first | kernel_rfl | exact rfl)
    (case nk_Greater => first | kernel_rfl | exact rfl)
    (case h_top => first | kernel_rfl | exact rfl)
