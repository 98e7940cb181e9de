import PyProof.Rows.All
import Wide.All
import OpenK.AllK
import Wide.FinOn
import HandS.Lambda
import HandS.ExcCtx
import HandS.ForMost
import HandS.Exc
import HandS.WordsExc
import HandS.Wide
import HandS.IsInst
import HandS.Deep
import HandS.TupAny
import HandS.TupMul
import HandS.Zip
import HandS.Style
import PyProof.Rows.InDataRows
import HandS.FStr
import HandS.Walk
import HandS.Conv
import HandS.ExcOwn
import HandS.Nested
import HandS.Defaults
import HandS.HeadHook1
import HandS.HeadHook2
import HandS.HeadHook3
import HandS.HeadHook4
import PyProof.ZipIter
import HandS.HotCalls
import HandS.ExcIs
import HandS.Iter
import HandS.Comp
import HandS.Text
import HandS.Head0
import HandS.Head1
import HandS.Head2
import HandS.HeadEnd
import HandS.HeadWalk
import PyProof.ExcBaseAll.ValueError
import KE.KStateDown
import Lean
import PySem.Challenge.RW_anyplans_k15_texts_of_plans
set_option Elab.async false
set_option linter.all false
set_option maxRecDepth 100000
section
set_option maxHeartbeats 2000000
/-! AQ2: closures kept in the abstract heap: the function object, its cells; a call of one, in any frame -/
namespace AP
open PySem PySem.Spec PyProof.Rows L2 LamX

/-- the object at f is this one -/
def FunO (f : Addr) (o : Obj) : HO := .ext fun h => h.get? f = some o
/-- the cell at c holds u -/
def CelAt (H : Hp) (c : Addr) (u : Value) : Prop := ∃ o, H c = some (FunO c o) ∧ o.data = .cell (some u)
/-- the heap without the cells of a list, and put back -/
def wo (C : List Addr) (H : Hp) : Hp := fun b => if b ∈ C then none else H b
def rs (C : List Addr) (H H' : Hp) : Hp := fun b => if b ∈ C then H b else H' b
section
variable {P : Program} {w : World} {C : List Addr} {H H' : Hp} {h h' B : Heap} {fs : List Addr}
def Cells (C : List Addr) (H : Hp) : Prop := ∀ c ∈ C, ∃ u, CelAt H c u
theorem wo_ne {b : Addr} (hb : b ∉ C) : wo C H b = H b := if_neg hb
theorem wo_in {b : Addr} (hb : b ∈ C) : wo C H b = none := if_pos hb
theorem rs_ne {b : Addr} (hb : b ∉ C) : rs C H H' b = H' b := if_neg hb
theorem rs_in {b : Addr} (hb : b ∈ C) : rs C H H' b = H b := if_pos hb
theorem Cells.ne {b : Addr} {o : HO} (hC : Cells C H) (e : H b = some o) (ho : ∀ φ, o ≠ .ext φ) : b ∉ C := fun hb => by
  obtain ⟨u, o', q, _⟩ := hC b hb
  rw [q] at e
  cases e
  exact ho _ rfl
theorem wo_hok (hC : Cells C H) (x : HOk P w H h) : HOk P w (wo C H) h := fun a o e => by
  have ha : a ∉ C := fun z => by rw [wo_in z] at e; cases e
  rw [wo_ne ha] at e
  refine (x a o e).stay (fun _ _ _ q => q) (fun b q => ?_) fun b xs q => ?_
  · rw [wo_ne (hC.ne q (fun φ z => by cases z))]; exact q
  · rw [wo_ne (hC.ne q (fun φ z => by cases z))]; exact q
theorem un_rs (hC : Cells C H) (u : Un fs [] (wo C H) H' h h') : Un fs [] H (rs C H H') h h' := by
  have nn : ∀ b, H b = none → wo C H b = none := fun b e => by
    by_cases hb : b ∈ C
    · exact wo_in hb
    · rw [wo_ne hb]; exact e
  refine ⟨fun b o e n => u.keep b o e (nn b n), fun b o e n => u.slot b o e (nn b n), fun b o e n x => ?_, u.there, fun b xs e => ?_, fun b o v e => ?_, fun b ps e => ?_⟩
  · by_cases hb : b ∈ C
    · rw [rs_in hb]; exact n
    · rw [rs_ne hb]; exact u.free b o e (nn b n) x
  · have hb := hC.ne e (fun φ z => by cases z)
    rw [rs_ne hb]
    exact u.tups b xs (by rw [wo_ne hb]; exact e)
  · have hb := hC.ne e (fun φ z => by cases z)
    rw [rs_ne hb]
    exact u.frzs b o v (by rw [wo_ne hb]; exact e)
  · have hb := hC.ne e (fun φ z => by cases z)
    rw [rs_ne hb]
    exact u.tbls b ps (by rw [wo_ne hb]; exact e)
theorem funO_ok {c : Addr} {o : Obj} (e : h.get? c = some o) : ObjOk P w H h c (FunO c o) := ⟨e, ⟨o, e⟩, fun h1 h2 a st => st _ a⟩
theorem funO_is {f : Addr} {o : Obj} (x : HOk P w H h) (e : H f = some (FunO f o)) : h.get? f = some o := (x f _ e).1
theorem celO_is {c : Addr} {u : Value} (x : HOk P w H h) (e : CelAt H c u) : h.IsCell c (some u) := by
  obtain ⟨o, q, hd⟩ := e
  exact ⟨o, funO_is x q, hd⟩
theorem rs_hok (hC : Cells C H) (x : HOk P w H h) (x' : HOk P w H' h') (free : ∀ c ∈ C, H' c = none) (cel : ∀ c ∈ C, ∀ o, h.get? c = some o → h'.get? c = some o) : HOk P w (rs C H H') h' := fun a o e => by
  by_cases ha : a ∈ C
  · rw [rs_in ha] at e
    obtain ⟨u, o', q, _⟩ := hC a ha
    rw [q] at e
    cases e
    exact funO_ok (cel a ha _ (funO_is x q))
  · rw [rs_ne ha] at e
    refine (x' a o e).stay (fun _ _ _ q => q) (fun b q => ?_) fun b xs q => ?_
    · by_cases hb : b ∈ C
      · rw [free b hb] at q; cases q
      · rw [rs_ne hb]; exact q
    · by_cases hb : b ∈ C
      · rw [free b hb] at q; cases q
      · rw [rs_ne hb]; exact q
end
/-- the names of a lambda with parameters -/
structure LamP (scope : Scope) (ps : List Str) : Prop where
  kind : scope.kind = .function
  co : scope.isCoroutine = false
  gen : scope.isGenerator = false
  nocell : ∀ y ∈ scope.names, y.2 ≠ .cell
  par : ∀ y ∈ ps, scope.names.lookup y = some .local
  own : ∀ y, scope.names.lookup y = some .local → y ∈ ps
/-- what a closure is, in the heap -/
structure CloH (H : Hp) (f : Addr) (qual : Str) (params : Arguments) (body : Expr) (scope : Scope) (cells : List (Str × Addr)) : Prop where
  ex : ∃ (c' : Addr) (pm ctv : Value), H f = some (FunO f (PySem.W.kla_obj "<lambda>" qual params body scope cells pm c' ctv)) ∧ H c' = some (CodeO c' qual)
  inj : ∀ x y c, cells.lookup x = some c → cells.lookup y = some c → x = y
  cel : ∀ q ∈ cells, ∃ u, CelAt H q.2 u
  has : ∀ x, scope.names.lookup x = some .free → ∃ c, cells.lookup x = some c
abbrev clEnvH (qual : Str) (scope : Scope) (L f c' : Addr) (cells : List (Str × Addr)) : Env := PySem.W.envX qual scope L f (.ref c') cells
/-- the context of a closure's body -/
def cloCx (P : Program) (w : World) (K : PySem.W.Frag) (mg : Str → Option Value) (base : Heap) (N : List Str) (A : Around) (outer : List Env) (s : Shared) (H : Hp) (E : XK) (qual : Str) (scope : Scope) (f c' : Addr) (cells : List (Str × Addr)) : Cx where
  prog := P
  w := w
  K := K
  mg := mg
  base := base
  A := A.deeper (clEnvH qual scope s.heap.objs.size f c' cells)
  N := N
  s_0 := s
  H_0 := H
  env := clEnvH qual scope s.heap.objs.size f c' cells
  outer := outer
  stack := clEnvH qual scope s.heap.objs.size f c' cells :: outer
  ex := []
  fn := fun _ => false
  calm := true
  pn := []
  xe := fun e s' => wpAny (model P w) (A.deeper (clEnvH qual scope s.heap.objs.size f c' cells)) (leaving (clEnvH qual scope s.heap.objs.size f c' cells) e) (fun _ s'' => L2N.CX P w outer H s E e s'') (fun e' s'' => L2N.CX P w outer H s E e' s'') s'
section
variable {P : Program} {w : World} {K : PySem.W.Frag} {mg : Str → Option Value} {base : Heap} {A : Around} {outer : List Env} {s : Shared} {H : Hp} {N : List Str} {k : Nat} {f : Addr} {qual y : Str} {params : Arguments} {body : Expr} {scope : Scope} {cells : List (Str × Addr)}
theorem CloH.all (cl : CloH H f qual params body scope cells) : Cells (cells.map (·.2)) H := fun c hc => by
  obtain ⟨q, hm, rfl⟩ := List.mem_map.mp hc
  exact cl.cel q hm
theorem clo_mem {x : Str} {c : Addr} (h : cells.lookup x = some c) : c ∈ cells.map (·.2) := List.mem_map.mpr ⟨_, PySem.mem_of_lookup h, rfl⟩
theorem clo_start {E : XK} {c' : Addr} {h₁ : Heap} {tk : Nat} {u : Value} {v : V} {σ : L2.St} (e0 : Env0 P w K mg base A outer s H) (hd : A.handled = none) (L : LamP scope [y]) (cl : CloH H f qual params body scope cells)
    (hns : h₁.Ns s.heap.objs.size fun x => [(y, u)].reverse.lookup x) (kp : ∀ b o, s.heap.get? b = some o → h₁.get? b = some o) (hv : RelV v u) (hl : σ.length = N.length)
    (hσ : ∀ (i : Nat) (x : Str) (z : V), N[i]? = some x → σ[i]? = some (some z) → Vis scope x → (x = y ∧ z = v) ∨ (scope.names.lookup x = some .free ∧ ∃ c uz, cells.lookup x = some c ∧ CelAt H c uz ∧ RelV z uz)) :
    Inv (cloCx P w K mg base N A outer s (wo (cells.map (·.2)) H) E qual scope f c' cells) [] σ (wo (cells.map (·.2)) H) { s with heap := h₁, toks := tk } := by
  have hC := cl.all
  have nn : ∀ b, H b = none → wo (cells.map (·.2)) H b = none := fun b e => by
    by_cases hb : b ∈ cells.map (·.2)
    · exact wo_in hb
    · rw [wo_ne hb]; exact e
  have hok1 : HOk P w (wo (cells.map (·.2)) H) s.heap := wo_hok hC e0.hok
  have noA : ∀ b : Addr, b ∉ (cloCx P w K mg base N A outer s (wo (cells.map (·.2)) H) E qual scope f c' cells).ex := fun b z => absurd (show b ∈ ([] : List Addr) from z) (by simp)
  have cellK : ∀ {c : Addr} {uz : Value}, CelAt H c uz → h₁.IsCell c (some uz) := fun {c uz} e => by
    obtain ⟨o, ho, hd⟩ := celO_is e0.hok e
    exact ⟨o, kp _ _ ho, hd⟩
  have lookP : ∀ x, scope.names.lookup x = some .local → x = y := fun x hx => List.mem_singleton.mp (L.own x hx)
  refine ⟨⟨e0.mod, L.kind, rfl, rfl, Nat.le_refl _, fun x z c e1 e2 => cl.inj x z c e1 e2, fun x hx => ?_, fun x c z _ => ?_, fun _ => hd, Around.frames_deeper e0.frames, .inr ⟨rfl, rfl⟩, fun b z => absurd z (noA b), fun b o e => ⟨(e0.bs b o e).1, nn b (e0.bs b o e).2⟩, e0.bsz, fun b _ _ => noA b,
      fun b z => absurd z (noA b), e0.funs, fun b hb => nn b (e0.frf b hb)⟩,
    rfl, e0.bare, Un.kept kp, ⟨_, hns, fun i x z e1 e2 e3 => ?_⟩, fun x c e => ?_, hok1.fresh (Nat.le_refl _), fun x c e => wo_in (clo_mem e), fun q hq => absurd (show q ∈ ([] : List (Addr × Obj)) ++ [] from hq) (by simp), hok1.kept kp, hl⟩
  · have hx : scope.names.lookup x = some .cell ∨ scope.names.lookup x = some .free := hx
    rcases hx with hx | hx
    · exact absurd rfl (L.nocell _ (PySem.mem_of_lookup hx))
    · exact cl.has x hx
  · have z : false = true := z
    cases z
  · have e3 : Vis scope x := e3
    rcases hσ i x z e1 e2 e3 with ⟨rfl, rfl⟩ | ⟨hf, c, uz, h1, h2, h3⟩
    · refine ⟨u, hv, .inl ⟨L.par x (List.mem_singleton.mpr rfl), ?_⟩⟩
      show ([(x, u)].reverse).lookup x = some u
      simp [List.lookup_cons]
    · exact ⟨uz, h3, .inr ⟨.inr hf, c, h1, cellK h2⟩⟩
  · obtain ⟨uz, q⟩ := cl.cel _ (PySem.mem_of_lookup e)
    exact ⟨_, cellK q⟩
/-- a closure of one parameter, called in any frame -/
theorem clo_run {Q : VK} {E : XK} {u : Value} {v : V} {σ : L2.St} {tb : TE} (e0 : Env0 P w K mg base A outer s H) (hr : Room (k + 1) A) (L : LamP scope [y]) (cl : CloH H f qual params body scope cells)
    (hbind : ∀ (pm cv ctv : Value), bindArgs (PySem.W.kla_fn "<lambda>" qual params body scope cells pm cv ctv) ⟨[u], []⟩ = pure [(y, u)]) (hv : RelV v u) (hl : σ.length = N.length)
    (hσ : ∀ (i : Nat) (x : Str) (z : V), N[i]? = some x → σ[i]? = some (some z) → Vis scope x → (x = y ∧ z = v) ∨ (scope.names.lookup x = some .free ∧ ∃ c uz, cells.lookup x = some c ∧ CelAt H c uz ∧ RelV z uz))
    (hbody : ∀ c', Room k (A.deeper (clEnvH qual scope s.heap.objs.size f c' cells)) → PE (cloCx P w K mg base N A outer s (wo (cells.map (·.2)) H) (fun cls d H' => (∀ c ∈ cells.map (·.2), H' c = none) → E cls d (rs (cells.map (·.2)) H H')) qual scope f c' cells) body tb)
    (ht : tb σ (wo (cells.map (·.2)) H) (fun z H' => (∀ c ∈ cells.map (·.2), H' c = none) → Q z (rs (cells.map (·.2)) H H'))) :
    codeAny (model P w) A (.call (.ref f) ⟨[u], []⟩) (CR (L2N.CX P w) outer P w H s Q E) s := by
  have hC := cl.all
  obtain ⟨c', pm, ctv, hf, hc⟩ := cl.ex
  have of1 := funO_is e0.hok hf
  obtain ⟨⟨oc, vs, t, hoc, hdc, hvc⟩, _, _⟩ := e0.hok c' _ hc
  have nof : ∀ b ∈ cells.map (·.2), b ∉ frs outer := fun b hb hfr => by
    obtain ⟨uz, o, q, _⟩ := hC b hb
    rw [e0.frf b hfr] at q; cases q
  refine PySem.W.kla_callFunE hr.depth of1 rfl L.co L.gen rfl ⟨c', oc, vs, t, rfl, hoc, hdc, hvc⟩ ?_
  rw [hbind]
  refine wpAny_pure (wpAny_newFunctionEnv (fun x hx => L.nocell x hx) (fun x hx => by rw [List.mem_singleton.mp hx]; exact L.par y (List.mem_singleton.mpr rfl)) (fun h₁ hns hsb => ⟨(e0.mod.nolimit.keeps fun b o e => (e0.bs b o e).1).fresh _ hsb, ?_⟩) L.kind)
  show codeAny _ _ (.expr body (clEnvH qual scope s.heap.objs.size f c' cells)) _ _
  have kp : ∀ b o, s.heap.get? b = some o → h₁.get? b = some o := fun b o e => hsb.extBut b o (Nat.ne_of_lt (Heap.lt_size e)) (Heap.get?_push_of_some _ e)
  have J := clo_start (E := fun cls d H' => (∀ c ∈ cells.map (·.2), H' c = none) → E cls d (rs (cells.map (·.2)) H H')) (c' := c') (tk := s.toks + [(y, u)].length) e0 hr.hd L cl hns kp hv hl hσ
  have cel : ∀ {H' : Hp} {B : Heap}, (∀ b o, s.heap.get? b = some o → wo (cells.map (·.2)) H b = none → b ∉ frs outer → B.get? b = some o) → ∀ c ∈ cells.map (·.2), ∀ o, s.heap.get? c = some o → B.get? c = some o := fun {H' B} k c hc o ho => k c o ho (wo_in hc) (nof c hc)
  have fr : ∀ c ∈ cells.map (·.2), ∃ o, s.heap.get? c = some o := fun c hc => by
    obtain ⟨uz, q⟩ := hC c hc
    obtain ⟨o, ho, _⟩ := celO_is e0.hok q
    exact ⟨o, ho⟩
  have back : ∀ {e : Value} {s'' : Shared}, L2N.CX P w outer (wo (cells.map (·.2)) H) s (fun cls d H' => (∀ c ∈ cells.map (·.2), H' c = none) → E cls d (rs (cells.map (·.2)) H H')) e s'' → L2N.CX P w outer H s E e s'' := fun {e s''} ⟨a, B, H', cls, d, e1, fl, hok, ub, na, os, ag, hE⟩ => by
    have free : ∀ c ∈ cells.map (·.2), H' c = none := fun c hc => by
      obtain ⟨o, ho⟩ := fr c hc
      exact ub.free c o ho (wo_in hc)
    refine ⟨a, B, rs (cells.map (·.2)) H H', cls, d, e1, fl, rs_hok hC e0.hok hok free (cel (H' := H') ub.keep), ?_, ?_, os, ag, hE free⟩
    · have nn : ∀ b, H b = none → wo (cells.map (·.2)) H b = none := fun b e => by
        by_cases hb : b ∈ cells.map (·.2)
        · exact wo_in hb
        · rw [wo_ne hb]; exact e
      refine ⟨fun b o e n => ub.keep b o e (nn b n), ub.slot, fun b o e n => ?_, ub.there, fun b xs e => ?_, fun b o z e => ?_, fun b ps e => ?_⟩
      · by_cases hb : b ∈ cells.map (·.2)
        · rw [rs_in hb]; exact n
        · rw [rs_ne hb]; exact ub.free b o e (nn b n)
      · have hb := hC.ne e (fun φ z => by cases z)
        rw [rs_ne hb]; exact ub.tups b xs (by rw [wo_ne hb]; exact e)
      · have hb := hC.ne e (fun φ z => by cases z)
        rw [rs_ne hb]; exact ub.frzs b o z (by rw [wo_ne hb]; exact e)
      · have hb := hC.ne e (fun φ z => by cases z)
        rw [rs_ne hb]; exact ub.tbls b ps (by rw [wo_ne hb]; exact e)
    · by_cases hb : a ∈ cells.map (·.2)
      · obtain ⟨o, ho⟩ := fr a hb
        have hB := ub.keep a o ho (wo_in hb) (nof a hb)
        rw [fl.2.1] at hB; cases hB
      · rw [rs_ne hb]; exact na
  refine PySem.W.kla_codeExpr (wpAny_mono ((hbody c' (hr.deeper _)).run [] _ _ _ _ J ht) (fun z s' hq => ?_) fun e s' hq => wpAny_mono hq (fun _ s'' q => back q) fun e' s'' q => back q)
  obtain ⟨w', H', J', rv, q⟩ := hq
  have un : Un (frs outer) [] (wo (cells.map (·.2)) H) H' s.heap s'.heap := J'.base
  have free : ∀ c ∈ cells.map (·.2), H' c = none := fun c hc => by
    obtain ⟨o, ho⟩ := fr c hc
    exact un.free c o ho (wo_in hc) (by simp)
  exact ⟨w', rs (cells.map (·.2)) H H', J'.os, J'.bare, un_rs hC un, rs_hok hC e0.hok J'.hok free (cel (H' := H') fun b o e n hb => un.keep b o e n hb (by simp)), rv, q free⟩
end
end AP
end
section
set_option maxHeartbeats 2000000
/-! AQ3: a lambda of one parameter, made and handed to a def -/
namespace AP
open PySem PySem.Spec PyProof.Rows L2 LamX

def Dom (H H1 : Hp) : Prop := ∀ b o, H b = some o → ∃ o', H1 b = some o'
section
variable {X : Cx} {pins : List (Addr × Obj)} {σ : L2.St} {H : Hp} {s : Shared}
/-- the lambda is made: its code object is new, or found in the table -/
theorem ap_lam_make {T : List (Addr × Str)} {c P : Addr} {params : Arguments} {body : Expr} {scope : Scope} {pos : Pos} {E : Value → Shared → Prop} {Q : Value → Shared → Prop} (I : Inv X pins σ H s) (TB : TabB X.base X.mg c P) (hcode : X.env.code = .ref c)
    (hm : (P, X.env.qual ++ "<lambda>") ∈ T) (hu : ∀ p ∈ T, p.1 = P → p.2 = X.env.qual ++ "<lambda>") (hT : Tabs T H) (hdef : defaultsOf params X.env = ([], [])) (hfree : ∀ y ∈ scope.names, y.2 = .free → ∃ c, X.env.cells.lookup y.1 = some c)
    (h : ∀ (f c' : Addr) (pm ctv : Value) (H1 : Hp) (s' : Shared), Inv X pins σ H1 s' → ExtN H H1 → Dom H H1 → Tabs T H1 →
      s'.heap.get? f = some (PySem.W.kla_obj "<lambda>" (X.env.qual ++ "<lambda>") params body scope (cloFrom X.env.cells scope.names []) pm c' ctv) → H1 f = none → f ∉ frs X.stack → H1 c' = some (CodeO c' (X.env.qual ++ "<lambda>")) → s.heap.objs.size ≤ f → Q (.ref f) s') :
    wpAny (model X.prog X.w) X.A (eval (.Lambda params body scope pos) X.env) Q E s := by
  obtain ⟨ps, hP, ht, ha⟩ := hT _ hm
  refine PySem.W.kla_eval hdef ?_
  have bP : s.heap.BuiltinsAt X.mg P := TB.bm.keeps I.bk
  have hP' : s.heap.get? P = some { cls := .none, data := .fields ps } := I.hok P _ hP
  have nofr : ∀ f, s.heap.objs.size ≤ f → f ∉ frs X.stack := fun f hf z => by
    rcases List.mem_cons.mp (I.stkSub _ z) with e | e
    · have h1 := I.lt
      rw [← e] at h1
      exact Nat.lt_irrefl _ (Nat.lt_of_lt_of_le h1 hf)
    · exact I.nofs hf e
  cases hc : codeAmong pos ps.toList with
  | none =>
    refine PySem.W.kla_makeFunction (mg := X.mg) (c := c) (P := P) (ps := ps) (closure_ok hfree) I.ok.glob (I.mod.glob.keeps I.bk) hcode (TB.code.keeps I.bk) hP' ht hc TB.gP bP fun c' ctv h' tk hx hge hlt hrec htb => ?_
    obtain ⟨c2, oc, vs, t, e2, hoc, hd, hv⟩ := hrec
    cases e2
    have hsz : s.heap.objs.size ≤ h'.objs.size := Nat.le_trans hge (Nat.le_of_lt hlt)
    have nC : H c' = none := I.hok.fresh hge
    have I1 := inv_table (t' := tk) (more := #[rawInt pos.line, rawInt pos.col, .ref c']) (h' := h'.push (PySem.W.kla_obj "<lambda>" (X.env.qual ++ "<lambda>") params body scope (cloFrom X.env.cells scope.names []) ((X.mg "__name__").getD .none) c' ctv)) I hP
      (fun b o hb e => Heap.get?_push_of_some _ (hx b o hb e)) (Heap.get?_push_of_some _ htb) hge ⟨oc, vs, t, Heap.get?_push_of_some _ hoc, hd, hv⟩
    have hE : ExtN H (upd (upd H P (.tbl (ps ++ #[rawInt pos.line, rawInt pos.col, .ref c']))) c' (CodeO c' (X.env.qual ++ "<lambda>"))) := fun b o e n => by
      rw [upd_ne (ne_of_none e nC), upd_ne (fun z => n ps (Option.some.inj (e.symm.trans (by rw [z]; exact hP))))]
      exact e
    have hDm : Dom H (upd (upd H P (.tbl (ps ++ #[rawInt pos.line, rawInt pos.col, .ref c']))) c' (CodeO c' (X.env.qual ++ "<lambda>"))) := fun b o e => by
      by_cases h1 : b = c'
      · exact ⟨_, by rw [h1, upd_same]⟩
      · by_cases h2 : b = P
        · exact ⟨_, by rw [upd_ne h1, h2, upd_same]⟩
        · exact ⟨o, by rw [upd_ne h1, upd_ne h2]; exact e⟩
    have eL : (ps ++ #[rawInt pos.line, rawInt pos.col, .ref c']).toList = ps.toList ++ [rawInt pos.line, rawInt pos.col, .ref c'] := by simp
    refine h h'.objs.size c' ((X.mg "__name__").getD .none) ctv _ _ I1 hE hDm (fun p hp => ?_) (Heap.get?_push_size _ rfl) ?_ (nofr _ hsz) upd_same hsz
    · by_cases hb : p.1 = P
      · rw [hu p hp hb, hb]
        refine ⟨_, by rw [upd_ne (ne_of_none hP nC), upd_same], by rw [eL]; exact PySem.TriplesOk_snoc _ _ _ _ ht, fun p' cv hcv => ?_⟩
        rw [eL] at hcv
        rcases among_app _ ht hcv with z | z
        · obtain ⟨c0, e1, e2⟩ := ha p' cv z
          exact ⟨c0, e1, hE _ _ e2 codeO_ne⟩
        · exact ⟨c', z, upd_same⟩
      · obtain ⟨ps', a1, a2, a3⟩ := hT p hp
        refine ⟨ps', by rw [upd_ne (ne_of_none a1 nC), upd_ne hb]; exact a1, a2, fun p' cv hcv => ?_⟩
        obtain ⟨c0, e1, e2⟩ := a3 p' cv hcv
        exact ⟨c0, e1, hE _ _ e2 codeO_ne⟩
    · have n1 : h'.objs.size ≠ c' := Nat.ne_of_gt hlt
      have n2 : h'.objs.size ≠ P := Nat.ne_of_gt (Nat.lt_of_lt_of_le (Heap.lt_size hP') hsz)
      rw [upd_ne n1, upd_ne n2]
      exact I.hok.fresh hsz
  | some cv =>
    obtain ⟨c', e, hco⟩ := ha pos cv hc
    subst e
    refine PySem.W.kla_makeFunctionHit (mg := X.mg) (c := c) (P := P) (ps := ps) (closure_ok hfree) I.ok.glob (I.mod.glob.keeps I.bk) hcode (TB.code.keeps I.bk) hP' ht hc bP fun ctv h' tk hx hsz => ?_
    have I1 : Inv X pins σ H { s with heap := h'.push (PySem.W.kla_obj "<lambda>" (X.env.qual ++ "<lambda>") params body scope (cloFrom X.env.cells scope.names []) ((X.mg "__name__").getD .none) c' ctv), toks := tk } := I.kept fun b o e => Heap.get?_push_of_some _ (hx b o e)
    exact h h'.objs.size c' ((X.mg "__name__").getD .none) ctv H _ I1 (ExtN.refl H) (fun _ o e => ⟨o, e⟩) hT (Heap.get?_push_size _ rfl) (I.hok.fresh hsz) (nofr _ hsz) hco hsz
end
section
variable {X : Cx} {pins : List (Addr × Obj)} {σ : L2.St} {H : Hp} {s : Shared}
/-- a new object, tracked from now on -/
theorem inv_track {f : Addr} {o : Obj} {s0 : Shared} {H0 : Hp} (I0 : Inv X pins σ H0 s0) (I : Inv X pins σ H s) (hf : s.heap.get? f = some o) (hn : H f = none) (hge : s0.heap.objs.size ≤ f) : Inv X pins σ (upd H f (FunO f o)) s := by
  have ne : ∀ b u, H b = some u → b ≠ f := fun b u e z => by rw [z, hn] at e; cases e
  have lt : ∀ b u, s0.heap.get? b = some u → b ≠ f := fun b u e z => by
    rw [z] at e
    exact Nat.lt_irrefl _ (Nat.lt_of_lt_of_le (Heap.lt_size e) hge)
  refine ⟨I.ok, I.os, I.bare, ⟨I.base.keep, I.base.slot, fun b u e n x => ?_, I.base.there, fun b xs e => ?_, fun b u v e => ?_, fun b ps e => ?_⟩, I.loc, I.cell, ?_, fun x c e => ?_, fun p hp => ?_, fun a u e => ?_, I.len⟩
  · have hb : b ≠ f := fun z => by
      rw [z] at e
      exact Nat.lt_irrefl _ (Nat.lt_of_lt_of_le (Nat.lt_of_lt_of_le (Heap.lt_size e) I0.sz) hge)
    rw [upd_ne hb]; exact I.base.free b u e n x
  · have q := I.base.tups b xs e
    rw [upd_ne (ne _ _ q)]; exact q
  · have q := I.base.frzs b u v e
    rw [upd_ne (ne _ _ q)]; exact q
  · obtain ⟨more, q⟩ := I.base.tbls b ps e
    exact ⟨more, by rw [upd_ne (ne _ _ q)]; exact q⟩
  · rw [upd_ne (fun z => ?_)]
    · exact I.free
    · have := I0.lt
      rw [z] at this
      exact Nat.lt_irrefl _ (Nat.lt_of_lt_of_le this hge)
  · have hc : c ≠ f := by
      obtain ⟨v, o', ho', _⟩ := I0.cell x c e
      exact lt c _ ho'
    rw [upd_ne hc]; exact I.freeC x c e
  · obtain ⟨h1, h2, h3, h4, h5⟩ := I.pin p hp
    have hp' : p.1 ≠ f := lt _ _ (I0.pin p hp).1
    exact ⟨h1, by rw [upd_ne hp']; exact h2, h3, h4, h5⟩
  · by_cases ha : a = f
    · subst ha
      rw [upd_same] at e
      cases e
      exact funO_ok hf
    · rw [upd_ne ha] at e
      exact (I.hok a u e).stay (fun _ _ _ q => q) (fun b q => by rw [upd_ne (ne _ _ q)]; exact q) fun b xs q => by rw [upd_ne (ne _ _ q)]; exact q
/-- the lambda as a value -/
def tLamV (X : Cx) (T : List (Addr × Str)) (params : Arguments) (body : Expr) (scope : Scope) : TE := fun σ H Q =>
  Tabs T H ∧ ∀ (f c' : Addr) (pm ctv : Value) (H1 : Hp), ExtN H H1 → Dom H H1 → Tabs T H1 → H1 f = none → H1 c' = some (CodeO c' (X.env.qual ++ "<lambda>")) →
    Q (.ref f) (upd H1 f (FunO f (PySem.W.kla_obj "<lambda>" (X.env.qual ++ "<lambda>") params body scope (cloFrom X.env.cells scope.names []) pm c' ctv)))
theorem pe_lamV {T : List (Addr × Str)} {c P : Addr} {params : Arguments} {body : Expr} {scope : Scope} {pos : Pos} (TB : TabB X.base X.mg c P) (hcode : X.env.code = .ref c) (hm : (P, X.env.qual ++ "<lambda>") ∈ T) (hu : ∀ p ∈ T, p.1 = P → p.2 = X.env.qual ++ "<lambda>")
    (hdef : defaultsOf params X.env = ([], [])) (hfree : ∀ y ∈ scope.names, y.2 = .free → X.env.scope.names.lookup y.1 = some .cell ∨ X.env.scope.names.lookup y.1 = some .free) : PE X (.Lambda params body scope pos) (tLamV X T params body scope) := by
  refine ⟨fun pins s σ H Q I ⟨hT, h⟩ => ?_⟩
  refine ap_lam_make I TB hcode hm hu hT hdef (fun y hy e => I.ok.has _ ((hfree y hy e).imp id id)) fun f c' pm ctv H1 s' I1 eN dN T1 hf hn hfr hco hge => ?_
  exact ⟨.ref f, _, inv_track I I1 hf hn hge, rfl, h f c' pm ctv H1 eN dN T1 hn hco⟩
end
/-- the abstract heap with some cells -/
structure WithC (X : Cx) (σ : L2.St) (cells : List (Str × Addr)) (H Hc : Hp) : Prop where
  out : ∀ b, b ∉ cells.map (·.2) → Hc b = H b
  none : ∀ c ∈ cells.map (·.2), H c = none
  cel : ∀ q ∈ cells, ∃ o, Hc q.2 = some (FunO q.2 o) ∧ (∃ h : Heap, h.get? q.2 = some o) ∧ ∃ v, o.data = .cell v ∧ ∀ (i : Nat) (z : V), X.N[i]? = some q.1 → σ[i]? = some (some z) → ∃ u, v = some u ∧ RelV z u
def addC (C : List Addr) (h : Heap) (H : Hp) : Hp := fun b => if b ∈ C then (match h.get? b with | some o => some (FunO b o) | none => none) else H b
section
variable {X : Cx} {pins : List (Addr × Obj)} {σ : L2.St} {H : Hp} {s : Shared} {k : Nat} {g : Addr} {fd : FuncData} {ps : List Str} {sp : Sp} {cells : List (Str × Addr)}
theorem withC (I : Inv X pins σ H s) (own : ∀ q ∈ cells, X.env.cells.lookup q.1 = some q.2 ∧ (X.env.scope.names.lookup q.1 = some .cell)) : WithC X σ cells H (addC (cells.map (·.2)) s.heap H) := by
  refine ⟨fun b hb => if_neg hb, fun c hc => ?_, fun q hq => ?_⟩
  · obtain ⟨q, hq, rfl⟩ := List.mem_map.mp hc
    exact I.freeC _ _ (own q hq).1
  · obtain ⟨v, o, ho, hd⟩ := I.cell _ _ (own q hq).1
    refine ⟨o, ?_, ⟨s.heap, ho⟩, v, hd, fun i z h1 h2 => ?_⟩
    · unfold addC
      rw [if_pos (List.mem_map.mpr ⟨q, hq, rfl⟩), ho]
    · obtain ⟨m, _, hl⟩ := I.loc
      obtain ⟨u, r, lk⟩ := hl i q.1 z h1 h2 (.inr (.inl (own q hq).2))
      rcases lk with ⟨k1, _⟩ | ⟨_, c, e1, o2, ho2, hd2⟩
      · have k1 : X.env.scope.names.lookup q.1 = some .local := k1
        rw [(own q hq).2] at k1; cases k1
      · rw [(own q hq).1] at e1
        cases e1
        rw [ho] at ho2
        cases ho2
        rw [hd] at hd2
        injection hd2 with e
        exact ⟨u, e, r⟩
theorem env0C {Hc : Hp} (I : Inv X pins σ H s) (own : ∀ q ∈ cells, X.env.cells.lookup q.1 = some q.2 ∧ X.fn q.1 = true) (hc : Hc = addC (cells.map (·.2)) s.heap H) : Env0 X.prog X.w X.K X.mg X.base X.A X.stack s Hc ∧ ∀ c ∈ cells.map (·.2), c ∉ frs X.stack := by
  have e0 := I.env0
  have big : ∀ c ∈ cells.map (·.2), X.s_0.heap.objs.size ≤ c := fun c h => by
    obtain ⟨q, hq, rfl⟩ := List.mem_map.mp h
    exact I.ok.cab _ _ (own q hq).2 (own q hq).1
  have isc : ∀ c ∈ cells.map (·.2), ∃ v, s.heap.IsCell c v := fun c h => by
    obtain ⟨q, hq, rfl⟩ := List.mem_map.mp h
    exact I.cell _ _ (own q hq).1
  have nof : ∀ c ∈ cells.map (·.2), c ∉ frs X.stack := fun c h z => by
    rcases List.mem_cons.mp (I.stkSub c z) with e | e
    · obtain ⟨m, ⟨o, es, ep, ho, hd, _⟩, _⟩ := I.loc
      obtain ⟨v, o2, ho2, hd2⟩ := isc c h
      rw [e, ho] at ho2
      cases ho2
      rw [hd] at hd2; cases hd2
    · obtain ⟨_, o, ho, _⟩ := I.ok.funs.mem e
      exact Nat.lt_irrefl _ (Nat.lt_of_lt_of_le (Heap.lt_size ho) (big c h))
  subst hc
  refine ⟨⟨e0.frames, e0.mod, fun b o e => ⟨(e0.bs b o e).1, ?_⟩, e0.bsz, e0.funs, fun b hb => ?_, fun a u e => ?_, e0.bare⟩, nof⟩
  · have hb : b ∉ cells.map (·.2) := fun z => Nat.lt_irrefl _ (Nat.lt_of_lt_of_le (Nat.lt_of_lt_of_le (Heap.lt_size e) I.ok.bsz) (big b z))
    unfold addC
    rw [if_neg hb]; exact (e0.bs b o e).2
  · have hb2 : b ∉ cells.map (·.2) := fun z => nof b z hb
    unfold addC
    rw [if_neg hb2]; exact e0.frf b hb
  · have fc : ∀ c ∈ cells.map (·.2), H c = none := fun c h => by
      obtain ⟨q, hq, rfl⟩ := List.mem_map.mp h
      exact I.freeC _ _ (own q hq).1
    unfold addC at e
    split at e
    · rename_i ha
      split at e
      · rename_i o ho
        cases e
        exact funO_ok ho
      · cases e
    · refine (e0.hok a u e).stay (fun _ _ _ q => q) (fun b q => ?_) fun b xs q => ?_
      · have hb : b ∉ cells.map (·.2) := fun z => by rw [fc b z] at q; cases q
        unfold addC; rw [if_neg hb]; exact q
      · have hb : b ∉ cells.map (·.2) := fun z => by rw [fc b z] at q; cases q
        unfold addC; rw [if_neg hb]; exact q
/-- what a call that was lent some cells leaves -/
def QC (cells : List (Str × Addr)) (Hc : Hp) (Q : VK) : VK := fun v H' => (∀ c ∈ cells.map (·.2), H' c = Hc c) ∧ Q v (wo (cells.map (·.2)) H')
/-- x(e, ..) where closures are among the arguments -/
theorem pe_callC {x : Str} {p pos : Pos} {e : Expr} {es : List Expr} {t : TA} (F : FnOk X.prog X.w X.K X.mg X.base (L2N.CX X.prog X.w) k g fd ps sp) (hr : Room k X.A) (hg : Gl X x) (hm : X.mg x = some (.ref g)) (hk : PySem.W.keepIn X.K (.ref g) = true) (hb : L2.Binds X.K fd ps [])
    (ha : PA X (e :: es) t) (hdb : (x == ("__debug__" : Str)) = false) (he : starEach (e :: es) X.env = (false, eval e X.env) :: starEach es X.env) (hpl : (backTo pos (starEach es X.env)).any (·.1) = false)
    (own : ∀ q ∈ cells, X.env.cells.lookup q.1 = some q.2 ∧ X.env.scope.names.lookup q.1 = some .cell ∧ X.fn q.1 = true) :
    PE X (.Call (.Name x p) (e :: es) [] pos) (fun σ H Q => t σ H fun vs H1 => ∀ Hc, WithC X σ cells H1 Hc → sp vs Hc (QC cells Hc Q) (fun _ _ _ => False)) := by
  refine ⟨fun pins s σ H Q I h => ?_⟩
  refine wpAny_Call_Name_kw (ld_glob I hg hm ?_ hdb)
  refine PySem.W.callWith_K (h₀ := X.base) I.ok.mod.kin hk (thn (ha.run pos pins s σ H _ I h) fun us s1 ⟨vs, H1, I1, r, q⟩ => ⟨I1.kIn, ?_⟩) he hpl
  have wc := withC I1 fun q hq => ⟨(own q hq).1, (own q hq).2.1⟩
  obtain ⟨e0, nof⟩ := env0C I1 (fun q hq => ⟨(own q hq).1, (own q hq).2.2⟩) rfl
  have hsp := q _ wc
  have hl : us.length = ps.length := by rw [← r.length]; exact F.len _ _ _ _ hsp
  have b := hb s1 us I1.kIn (by rw [List.append_nil]; exact hl)
  rw [List.append_nil] at b
  refine wpAny_call (codeAny_mono (F.run X.A X.stack s1 _ ⟨us, []⟩ us vs _ _ hr e0 b r hsp) fun z s' hq => ?_)
  have noE : ∀ e, ¬ L2N.CX X.prog X.w X.stack (addC (cells.map (·.2)) s1.heap H1) s1 (fun _ _ _ => False) e s' := fun e ⟨_, _, _, _, _, _, _, _, _, _, _, _, z⟩ => z
  cases z with
  | error e => exact (noE e hq).elim
  | ok fl =>
    cases fl with
    | ret u =>
      obtain ⟨v, H', os, bare, un, hok, rv, hc, hQ⟩ := hq
      refine I1.after ⟨v, wo (cells.map (·.2)) H', os, bare, ⟨fun b o e n hb _ => ?_, fun b o e n hb _ => ?_, fun b o e n _ => ?_, un.there, fun b xs e => ?_, fun b o z e => ?_, fun b ps e => ?_⟩, ?_, rv, hQ⟩
      · by_cases hbc : b ∈ cells.map (·.2)
        · have q1 := hc b hbc
          have q2 : addC (cells.map (·.2)) s1.heap H1 b = some (FunO b o) := by unfold addC; rw [if_pos hbc, e]
          rw [q2] at q1
          exact funO_is hok q1
        · exact un.keep b o e (by rw [wc.out b hbc]; exact n) hb (by simp)
      · have hbc : b ∉ cells.map (·.2) := fun z => nof b z hb
        exact un.slot b o e (by rw [wc.out b hbc]; exact n) hb (by simp)
      · by_cases hbc : b ∈ cells.map (·.2)
        · exact wo_in hbc
        · rw [wo_ne hbc]; exact un.free b o e (by rw [wc.out b hbc]; exact n) (by simp)
      · have hbc : b ∉ cells.map (·.2) := fun z => by rw [wc.none b z] at e; cases e
        rw [wo_ne hbc]; exact un.tups b xs (by rw [wc.out b hbc]; exact e)
      · have hbc : b ∉ cells.map (·.2) := fun z => by rw [wc.none b z] at e; cases e
        rw [wo_ne hbc]; exact un.frzs b o _ (by rw [wc.out b hbc]; exact e)
      · have hbc : b ∉ cells.map (·.2) := fun z => by rw [wc.none b z] at e; cases e
        rw [wo_ne hbc]; exact un.tbls b ps (by rw [wc.out b hbc]; exact e)
      · intro a u e
        have ha : a ∉ cells.map (·.2) := fun z => by rw [wo_in z] at e; cases e
        rw [wo_ne ha] at e
        have ext : ∀ {b : Addr} {u : HO}, H' b = some u → (∀ φ, u ≠ .ext φ) → b ∉ cells.map (·.2) := fun {b u} e n z => by
          have q1 := hc b z
          rw [e] at q1
          unfold addC at q1
          rw [if_pos z] at q1
          split at q1
          · rename_i o ho
            cases q1
            exact n _ rfl
          · cases q1
        exact (hok a u e).stay (fun _ _ _ q => q) (fun b q => by rw [wo_ne (ext q fun φ z => by cases z)]; exact q) fun b xs q => by rw [wo_ne (ext q fun φ z => by cases z)]; exact q
    | next => exact False.elim hq
    | brk => exact False.elim hq
    | cont => exact False.elim hq
end
end AP
end
section
/-! AP0: data by value, the IR, its evaluator (plain Lean) -/
namespace AP
open PySem

/-- data, by value -/
inductive D where
  | non | bl (b : Bool) | int (i : Int) | str (s : Str)
  | tup (ds : List D) | lst (ds : List D) | fn (x : Nat) | scr (ns : List Int)
  deriving Inhabited

/-- what a mutable object holds -/
inductive M where
  | lst (ds : List D)
  deriving Inhabited

inductive Val where
  | dat (d : D) | own (m : M)

inductive BOp where | add | sub | mul | fdiv | mod | pow
inductive COp where | eq | ne | lt | le | gt | ge | is | isNot | isin | notin
inductive Bi where | len | abs | all | any | sum | min | max | sorted | list | tuple | int | str | bool
/-- a class that isinstance asks for -/
inductive Cl where | ty (T : String) | own (c : Nat)

mutual
inductive IE where
  | cst (d : D) | var (i : Nat)
  | bin (o : BOp) (a b : IE) | neg (a : IE) | not (a : IE)
  | and (a b : IE) | or (a b : IE)
  | cmp (o : COp) (a b : IE) | chain (o1 o2 : COp) (a b c : IE)
  | ite (c a b : IE)
  | call (f : Nat) (as : IAs) | callV (i : Nat) (as : IAs)
  | len (a : IE) | bi (b : Bi) (as : IEs) | isi (a : IE) (c : Cl)
  | tup (es : IEs) | lst (es : IEs)
  | comp (elt : IE) (tg : Tg) (it : IIt) (cond : IE) (own : List Nat)
  | idx (a b : IE) | sl (a : IE) (lo hi : IOp)
  | pop0 (i : Nat) | popL (i : Nat) | rev (a : IE)
  | told (h : Nat) (body : IE)
  | lrng (it : IIt)
  | join (a b : IE) | split (a b : IE) | fstr (es : IEs) | slr (a : IE) (e : Int)
  | callC (f : Nat) (ns y : Nat) (body : IE) (caps : List Nat) (as : IAs)
inductive IOp where | none | some (e : IE)
inductive IEs where | nil | cons (e : IE) (r : IEs)
inductive IAs where | nil | e (a : IE) (r : IAs) | lent (i : Nat) (r : IAs)
inductive IIt where | seq (e : IE) | range1 (a : IE) | range2 (a b : IE) | range3 (a b c : IE) | zip (a b : IE) | enum (a : IE)
inductive Tg where | nm (i : Nat) | tup (ts : Tgs)
inductive Tgs where | nil | cons (t : Tg) (r : Tgs)
end

/-- a lambda of one parameter: how many slots, the parameter's, the body, what it has captured -/
inductive Clo where
  | mk (ns : Nat) (y : Nat) (body : IE) (caps : List (Nat × D))
inductive Slot where
  | no | dat (d : D) | own (m : M) | lent (m : M) | clo (c : Clo)
instance : Inhabited Slot := ⟨.no⟩
abbrev Env := List Slot

inductive Arg where
  | dat (d : D) | lent (m : M) | clo (c : Clo)

inductive ERes (α : Type) where
  | ok (a : α) (ρ : Env) | exc (c : Nat) (ρ : Env) | stuck
def ERes.bind {α β : Type} (x : ERes α) (f : α → Env → ERes β) : ERes β :=
  match x with
  | .ok a ρ => f a ρ
  | .exc c ρ => .exc c ρ
  | .stuck => .stuck
def ofO {α : Type} (x : Option α) (ρ : Env) : ERes α :=
  match x with
  | some a => .ok a ρ
  | none => .stuck

inductive FRes where
  | ret (v : Val) (ms : List M) | exc (c : Nat) (ms : List M) | stuck
/-- what calls do: of a def, of a closure -/
structure FT where
  fn : Nat → List Arg → FRes
  cl : Clo → List Arg → FRes
  told : Nat → D ⊕ Nat → Option D
  dom : Nat → Bool

/-! ### values -/
def Val.d : Val → D
  | .dat d => d
  | .own (.lst ds) => .lst ds
def frz (x : ERes Val) : ERes D :=
  match x with
  | .ok v ρ => .ok v.d ρ
  | .exc c ρ => .exc c ρ
  | .stuck => .stuck

mutual
def D.eqv : D → D → Bool
  | .non, .non => true
  | .bl a, .bl b => a == b
  | .bl a, .int j => (if a then 1 else 0) == j
  | .int i, .bl b => i == (if b then 1 else 0)
  | .int i, .int j => i == j
  | .str x, .str y => x == y
  | .tup xs, .tup ys => D.eqvL xs ys
  | .lst xs, .lst ys => D.eqvL xs ys
  | _, _ => false
def D.eqvL : List D → List D → Bool
  | [], [] => true
  | x :: xs, y :: ys => D.eqv x y && D.eqvL xs ys
  | _, _ => false
end
mutual
/-- no def within, the texts within the line -/
def D.plain : D → Bool
  | .non => true | .bl _ => true | .int _ => true
  | .str x => PyData.strOk x
  | .tup ds => D.plainL ds
  | .lst ds => D.plainL ds
  | .fn _ => false | .scr _ => false
def D.plainL : List D → Bool
  | [] => true
  | d :: r => D.plain d && D.plainL r
end
mutual
def D.dep : D → Nat
  | .tup ds => D.depL ds + 1
  | .lst ds => D.depL ds + 1
  | _ => 0
def D.depL : List D → Nat
  | [] => 0
  | d :: r => max (D.dep d) (D.depL r)
end
/-- == may be asked -/
def eqOk (a b : D) : Bool := a.plain && b.plain && decide (min a.dep b.dep ≤ 60)

def line : Nat := 16777216

/-! ### operators -/
def small64 (i : Int) : Bool := decide (-(2 ^ 64) < i) && decide (i < 2 ^ 64)
def opAdd (a b : D) : Option Val :=
  match a, b with
  | .int i, .int j => some (.dat (.int (i + j)))
  | .str x, .str y => if x.length + y.length ≤ line then some (.dat (.str (x ++ y))) else none
  | .tup xs, .tup ys => if xs.length + ys.length ≤ line then some (.dat (.tup (xs ++ ys))) else none
  | .lst xs, .lst ys => if xs.length + ys.length ≤ line then some (.own (.lst (xs ++ ys))) else none
  | .bl b, .int j => some (.dat (.int ((if b = true then (1 : Int) else 0) + j)))
  | _, _ => none
def opSub (a b : D) : Option Val :=
  match a, b with
  | .int i, .int j => some (.dat (.int (i - j)))
  | .bl b, .int j => some (.dat (.int ((if b = true then (1 : Int) else 0) - j)))
  | _, _ => none
def opMul (a b : D) : Option Val :=
  match a, b with
  | .int i, .int j => if small64 i || small64 j then some (.dat (.int (i * j))) else none
  | .lst xs, .int k => if decide (0 ≤ k) && decide (k ≤ 1000) && decide (xs.length * k.toNat ≤ line) then some (.own (.lst (List.replicate k.toNat xs).flatten)) else none
  | .tup xs, .int k => if !xs.isEmpty && decide (2 ≤ k) && decide (k ≤ 1000) && decide (xs.length ≤ 1000) then some (.dat (.tup (List.replicate k.toNat xs).flatten)) else none
  | _, _ => none
def opFdiv (a b : D) : Option Val :=
  match a, b with
  | .int i, .int j => if decide (0 < j) && decide (j.natAbs.log2 < 9000) then some (.dat (.int (i / j))) else none
  | _, _ => none
def opMod (a b : D) : Option Val :=
  match a, b with
  | .int i, .int j => if decide (0 < j) then some (.dat (.int (i % j))) else none
  | _, _ => none
def opPow (a b : D) : Option Val :=
  match a, b with
  | .int i, .int j => if decide (0 ≤ j) && decide (j ≤ 1000000) && decide (i.natAbs < 2 ^ 64) then some (.dat (.int (i ^ j.toNat))) else none
  | _, _ => none
def opBin (o : BOp) (a b : D) : Option Val :=
  match o with
  | .add => opAdd a b | .sub => opSub a b | .mul => opMul a b | .fdiv => opFdiv a b | .mod => opMod a b | .pow => opPow a b
/-- the scalars that `is` may be asked of -/
def D.isNon : D → Bool
  | .non => true
  | _ => false
def isD : D → D → Option Bool
  | a, .non => some a.isNon
  | .bl a, .bl b => some (decide (a = b))
  | _, _ => none
def occurs (x y : Str) : Bool := !(Builtin.Str.occurrences y x 0 y.length 1).isEmpty
/-- in may be asked -/
def inOk (a : D) (ys : List D) : Bool := a.plain && D.plainL ys && decide (a.dep ≤ 60)
def isinD (x : D) (ys : List D) : Bool := ys.any fun y => D.eqv y x
def ordD (f : Int → Int → Bool) (a b : D) : Option Bool :=
  match a, b with
  | .int i, .int j => some (f i j)
  | _, _ => none
def inD (a b : D) : Option Bool :=
  match a, b with
  | .str x, .str y => some (occurs x y)
  | a, .tup ys => if inOk a ys then some (isinD a ys) else none
  | a, .lst ys => if inOk a ys then some (isinD a ys) else none
  | _, _ => none
def eqD (a b : D) : Option Bool := if eqOk a b then some (D.eqv a b) else none
def opCmp (o : COp) (a b : D) : Option Bool :=
  match o with
  | .eq => eqD a b
  | .ne => (eqD a b).map (!·)
  | .lt => ordD (fun i j => decide (i < j)) a b
  | .le => ordD (fun i j => decide (i ≤ j)) a b
  | .gt => ordD (fun i j => decide (j < i)) a b
  | .ge => ordD (fun i j => decide (j ≤ i)) a b
  | .is => isD a b
  | .isNot => (isD a b).map (!·)
  | .isin => inD a b
  | .notin => (inD a b).map (!·)
def ixN (n : Nat) (i : Int) : Option Nat := if 0 ≤ i then (if i < n then some i.toNat else none) else if -(n : Int) ≤ i then some (i + n).toNat else none
def ixD (a i : D) : Option D :=
  match a, i with
  | .tup xs, .int i => (ixN xs.length i).bind fun j => xs[j]?
  | .lst xs, .int i => (ixN xs.length i).bind fun j => xs[j]?
  | .scr ns, .int i => ((ixN ns.length i).bind fun j => ns[j]?).map .int
  | .str z, .int i => if z.length ≤ line then ((ixN z.cps.toList.length i).bind fun j => z.cps.toList[j]?).map fun c => .str ⟨#[c]⟩ else none
  | _, _ => none
/-- a slice's end, brought within -/
def sIx (n d : Nat) : Option Int → Nat
  | none => d
  | some v => if v < 0 then (v + n).toNat else min v.toNat n
def cutL {α : Type} (xs : List α) (lo hi : Option Int) : List α := (xs.drop (sIx xs.length 0 lo)).take (sIx xs.length xs.length hi - sIx xs.length 0 lo)
def slD (a : D) (lo hi : Option Int) : Option Val :=
  match a with
  | .tup xs => some (.dat (.tup (cutL xs lo hi)))
  | .lst xs => some (.own (.lst (cutL xs lo hi)))
  | .str z => if z.length ≤ line then some (.dat (.str (L2.cutS z lo hi))) else none
  | _ => none
/-- xs[:e:-1] -/
def slrD (a : D) (e : Int) : Option Val :=
  match a with
  | .lst xs => if 0 ≤ e then some (.own (.lst (xs.drop (e.toNat + 1)).reverse)) else none
  | _ => none
def revD (a : D) : Option Val :=
  match a with
  | .tup xs => some (.dat (.tup xs.reverse))
  | .lst xs => some (.own (.lst xs.reverse))
  | _ => none
def intsOf : List D → Option (List Int)
  | [] => some []
  | .int i :: r => (intsOf r).map (i :: ·)
  | _ => none
def blsOf : List D → Option (List Bool)
  | [] => some []
  | .bl b :: r => (blsOf r).map (b :: ·)
  | _ => none
def minL (l : List Int) : Int := match l with | [] => 0 | x :: r => r.foldl min x
def maxL (l : List Int) : Int := match l with | [] => 0 | x :: r => r.foldl max x
def lenD (d : D) : Option Val :=
  match d with
  | .tup xs => some (.dat (.int xs.length))
  | .lst xs => some (.dat (.int xs.length))
  | .scr ns => some (.dat (.int ns.length))
  | .str x => if x.length ≤ line then some (.dat (.int x.length)) else none
  | _ => none
def absD (d : D) : Option Val := match d with | .int i => some (.dat (.int (if i < 0 then -i else i))) | _ => none
def allD (d : D) : Option Val := match d with | .lst xs => (blsOf xs).map fun bs => .dat (.bl (bs.all id)) | _ => none
def anyD (d : D) : Option Val := match d with | .lst xs => (blsOf xs).map fun bs => .dat (.bl (bs.any id)) | _ => none
def sumD (d : D) : Option Val := match d with | .lst xs => (intsOf xs).map fun ns => .dat (.int ns.sum) | _ => none
def minD (d : D) : Option Val := match d with | .lst xs => (intsOf xs).bind fun ns => if ns.isEmpty then none else some (.dat (.int (minL ns))) | _ => none
def maxD (d : D) : Option Val := match d with | .lst xs => (intsOf xs).bind fun ns => if ns.isEmpty then none else some (.dat (.int (maxL ns))) | _ => none
def min2D (d e : D) : Option Val := match d, e with | .int i, .int j => some (.dat (.int (if j < i then j else i))) | _, _ => none
def max2D (d e : D) : Option Val := match d, e with | .int i, .int j => some (.dat (.int (if j > i then j else i))) | _, _ => none
def listD (d : D) : Option Val := match d with | .tup xs => some (.own (.lst xs)) | .lst xs => some (.own (.lst xs)) | _ => none
def tupleD (d : D) : Option Val := match d with | .tup xs => some (.dat (.tup xs)) | .lst xs => some (.dat (.tup xs)) | _ => none
def intD (d : D) : Option Val := match d with
  | .int i => some (.dat (.int i))
  | .str a => if a.length ≤ 640 then (PySem.intText? a).map fun n => .dat (.int n) else none
  | _ => none
/-- an int, written -/
def numS (i : Int) : Str := Str.ofString (toString i)
def strD (d : D) : Option Val := match d with | .int i => if i.natAbs.log2 < 1920 then some (.dat (.str (numS i))) else none | _ => none
def strsOf : List D → Option (List Str)
  | [] => some []
  | .str y :: r => (strsOf r).map (y :: ·)
  | _ => none
def joinD (s : Str) (b : D) : Option Val :=
  match b with
  | .lst ds => (strsOf ds).bind fun ys => if (ys.map (·.length)).sum + ys.length * s.length ≤ 16777216 then some (.dat (.str (Txt.join s ys))) else none
  | .tup ds => (strsOf ds).bind fun ys => if (ys.map (·.length)).sum + ys.length * s.length ≤ 16777216 then some (.dat (.str (Txt.join s ys))) else none
  | _ => none
def splitD (x : Str) (b : D) : Option Val :=
  match b with
  | .str y => if (y.length == 0) = false ∧ x.length + 2 ≤ line then some (.own (.lst ((Txt.split x y).map D.str))) else none
  | _ => none
/-- a part of an f-string -/
def txtD (d : D) : Option Str :=
  match d with
  | .str y => if y.length ≤ line then some y else none
  | .int i => if i.natAbs.log2 < 1920 then some (numS i) else none
  | _ => none
def boolD (d : D) : Option Val := match d with | .bl b => some (.dat (.bl b)) | _ => none
def biD (b : Bi) (as : List D) : Option Val :=
  match as with
  | [d] => (match b with
    | .abs => absD d | .all => allD d | .any => anyD d | .sum => sumD d | .min => minD d | .max => maxD d
    | .list => listD d | .tuple => tupleD d | .int => intD d | .bool => boolD d | .str => strD d | _ => none)
  | [d, e] => (match b with | .min => min2D d e | .max => max2D d e | _ => none)
  | _ => none
/-- a value's built-in type -/
def D.tyN : D → Option String
  | .non => some "NoneType" | .bl _ => some "bool" | .int _ => some "int" | .str _ => some "str" | .tup _ => some "tuple" | .lst _ => some "list"
  | _ => none
def isiT (a T : String) : Option Bool :=
  if T = "int" then some (a == "int" || a == "bool") else if T = "bool" then some (a == "bool") else if T = "tuple" then some (a == "tuple")
  else if T = "list" then some (a == "list") else if T = "str" then some (a == "str") else none
/-- isinstance against a built-in class -/
def isiD (d : D) (c : Cl) : Option Bool :=
  match c with
  | .ty T => d.tyN.bind fun a => isiT a T
  | .own _ => none

/-! ### slots -/
def Val.slot : Val → Slot
  | .dat d => .dat d
  | .own m => .own m
def slotD (s : Slot) : Option D :=
  match s with
  | .dat d => some d
  | .own (.lst ds) => some (.lst ds)
  | .lent (.lst ds) => some (.lst ds)
  | _ => none
/-- an operand: a value, or a mutable slot, read when it is used -/
inductive Opd where | val (d : D) | slot (i : Nat)
def Opd.get (o : Opd) (ρ : Env) : Option D :=
  match o with
  | .val d => some d
  | .slot i => match ρ[i]? with | some (.own (.lst ds)) => some (.lst ds) | some (.lent (.lst ds)) => some (.lst ds) | _ => none
def isMut (s : Option Slot) : Bool := match s with | some (.own _) => true | some (.lent _) => true | _ => false
/-- what a mutable slot holds -/
def mutL (s : Option Slot) : Option (List D) := match s with | some (.own (.lst ds)) => some ds | some (.lent (.lst ds)) => some ds | _ => none
def putS (s : Option Slot) (ds : List D) : Slot :=
  match s with
  | some (.lent _) => .lent (.lst ds)
  | _ => .own (.lst ds)
def opd (e : IE) (ρ : Env) (r : ERes Val) : ERes Opd :=
  match e with
  | .var i => if isMut ρ[i]? then .ok (.slot i) ρ else (frz r).bind fun d ρ => .ok (.val d) ρ
  | _ => (frz r).bind fun d ρ => .ok (.val d) ρ
def readVar (i : Nat) (ρ : Env) : ERes Val :=
  match ρ[i]? with
  | some (.dat d) => .ok (.dat d) ρ
  | some (.own (.lst ds)) => .ok (.dat (.lst ds)) (ρ.set i (.dat (.lst ds)))
  | _ => .stuck
/-- the mutable slots that a call was lent, as it leaves them -/
def putBack : List Nat → List M → Env → Option Env
  | [], [], ρ => some ρ
  | i :: is, m :: ms, ρ => (match ρ[i]? with
      | some (.own _) => some (ρ.set i (.own m))
      | some (.lent _) => some (ρ.set i (.lent m))
      | _ => none).bind fun ρ' => putBack is ms ρ'
  | _, _, _ => none
def back (r : FRes) (is : List Nat) (ρ : Env) : ERes Val :=
  match r with
  | .ret v ms => (match putBack is ms ρ with | some ρ' => .ok v ρ' | none => .stuck)
  | .exc c ms => (match putBack is ms ρ with | some ρ' => .exc c ρ' | none => .stuck)
  | .stuck => .stuck
/-- arguments as they stand at the call: the lent slots are read there -/
inductive PArg where | dat (d : D) | lent (i : Nat) | clo (c : Clo)
def PArg.arg (ρ : Env) : PArg → Option Arg
  | .dat d => some (.dat d)
  | .lent i => match ρ[i]? with | some (.own m) => some (.lent m) | some (.lent m) => some (.lent m) | _ => none
  | .clo c => some (.clo c)
def argsOf (ρ : Env) : List PArg → Option (List Arg)
  | [] => some []
  | p :: r => (p.arg ρ).bind fun a => (argsOf ρ r).map (a :: ·)
def lentIx : List PArg → List Nat
  | [] => []
  | .lent i :: r => i :: lentIx r
  | _ :: r => lentIx r
def callRes (F : List Arg → FRes) (ps : List PArg) (ρ : Env) : ERes Val :=
  match argsOf ρ ps with
  | some as => if (lentIx ps).length ≤ 1 then back (F as) (lentIx ps) ρ else .stuck
  | none => .stuck
/-- what a closure's body starts with -/
def cloEnv (ns y : Nat) (caps : List (Nat × D)) (d : D) : Env := (caps.foldl (fun ρ q => ρ.set q.1 (.dat q.2)) (List.replicate ns .no)).set y (.dat d)
/-- what a lambda captures -/
def capsOf (ρ : Env) : List Nat → Option (List (Nat × D))
  | [] => some []
  | i :: r => match ρ[i]? with
    | some (.dat d) => (capsOf ρ r).map ((i, d) :: ·)
    | _ => none
/-- a def called with a closure and with data: data comes back -/
def callCR (F : List Arg → FRes) (c : Clo) (ps : List PArg) (ρ : Env) : ERes Val :=
  if (lentIx ps).isEmpty = true then (match argsOf ρ ps with
    | some as => (match F (.clo c :: as) with
      | .ret (.dat d) [] => .ok (.dat d) ρ
      | _ => .stuck)
    | none => .stuck) else .stuck
/-! ### targets -/
mutual
def asgTg : Tg → D → Env → Option Env
  | .nm i, d, ρ => if i < ρ.length then some (ρ.set i (.dat d)) else none
  | .tup ts, .tup ds, ρ => asgTgs ts ds ρ
  | .tup _, _, _ => none
def asgTgs : Tgs → List D → Env → Option Env
  | .nil, [], ρ => some ρ
  | .cons t r, d :: ds, ρ => (asgTg t d ρ).bind fun ρ' => asgTgs r ds ρ'
  | _, _, _ => none
end

/-! ### loops -/
def compF (f : D → Env → ERes (Option D)) : List D → Env → ERes (List D)
  | [], ρ => .ok [] ρ
  | d :: r, ρ => (f d ρ).bind fun o ρ1 => (compF f r ρ1).bind fun l ρ2 => .ok (match o with | some x => x :: l | none => l) ρ2
/-- nothing is let out -/
def noexc {α : Type} (x : ERes α) : ERes α := match x with | .exc _ _ => .stuck | x => x
def wipeE (ρ : Env) : List Nat → Env
  | [] => ρ
  | i :: r => (wipeE ρ r).set i .no
def unwipe (ρ0 ρ : Env) : List Nat → Env
  | [] => ρ
  | i :: r => (unwipe ρ0 ρ r).set i ((ρ0[i]?).getD .no)
def rangeD (lo c : Int) : Nat → List D
  | 0 => []
  | n + 1 => .int lo :: rangeD (lo + c) c n
def range62 (i : Int) : Bool := decide (-(2 ^ 62) ≤ i) && decide (i < 2 ^ 62)
def seqOf (d : D) : Option (List D) :=
  match d with
  | .lst ds => some ds
  | .tup ds => some ds
  | .str z => some (z.cps.toList.map fun c => .str ⟨#[c]⟩)
  | _ => none
def lstOf (d : D) : Option (List D) :=
  match d with
  | .lst ds => some ds
  | .tup ds => some ds
  | _ => none
def enumD (n : Nat) : List D → List D
  | [] => []
  | d :: r => .tup [.int n, d] :: enumD (n + 1) r
def zipD : List D → List D → List D
  | a :: r, b :: s => .tup [a, b] :: zipD r s
  | _, _ => []
def zipOf (a b : D) : Option (List D) :=
  match a, b with
  | .lst xs, .lst ys => some (zipD xs ys)
  | .tup xs, .tup ys => some (zipD xs ys)
  | _, _ => none

/-! ### expressions -/
/-- what is told of a value, or of an exception -/
def toldR (F : D ⊕ Nat → Option D) (x : ERes D) : ERes Val :=
  match x with
  | .ok d ρ => ofO ((F (.inl d)).map .dat) ρ
  | .exc c ρ => ofO ((F (.inr c)).map .dat) ρ
  | .stuck => .stuck
def tst (x : ERes Val) : ERes Bool :=
  match x with
  | .ok v ρ => (match v.d with | .bl b => .ok b ρ | _ => .stuck)
  | .exc c ρ => .exc c ρ
  | .stuck => .stuck

mutual
def evO (ft : FT) : IE → Env → ERes Val
  | .cst d, ρ => .ok (.dat d) ρ
  | .var i, ρ => readVar i ρ
  | .bin o a b, ρ => (frz (evO ft a ρ)).bind fun x ρ => (frz (evO ft b ρ)).bind fun y ρ => ofO (opBin o x y) ρ
  | .neg a, ρ => (frz (evO ft a ρ)).bind fun x ρ => match x with | .int i => .ok (.dat (.int (-i))) ρ | _ => .stuck
  | .not a, ρ => (tst (evO ft a ρ)).bind fun b ρ => .ok (.dat (.bl (!b))) ρ
  | .and a b, ρ => (tst (evO ft a ρ)).bind fun c ρ => if c = true then evO ft b ρ else .ok (.dat (.bl false)) ρ
  | .or a b, ρ => (tst (evO ft a ρ)).bind fun c ρ => if c = true then .ok (.dat (.bl true)) ρ else evO ft b ρ
  | .cmp o a b, ρ => (opd a ρ (evO ft a ρ)).bind fun x ρ => (opd b ρ (evO ft b ρ)).bind fun y ρ => ofO ((x.get ρ).bind fun x => (y.get ρ).bind fun y => (opCmp o x y).map fun k => .dat (.bl k)) ρ
  | .chain o1 o2 a b c, ρ => (frz (evO ft a ρ)).bind fun x ρ => (frz (evO ft b ρ)).bind fun y ρ => match opCmp o1 x y with
      | some k => if k = true then (frz (evO ft c ρ)).bind fun z ρ => ofO ((opCmp o2 y z).map fun k => .dat (.bl k)) ρ else .ok (.dat (.bl false)) ρ
      | none => .stuck
  | .ite c a b, ρ => (tst (evO ft c ρ)).bind fun k ρ => if k = true then evO ft a ρ else evO ft b ρ
  | .call f as, ρ => if ft.dom f = true then (evA ft as ρ).bind fun ps ρ => callRes (ft.fn f) ps ρ else .stuck
  | .callV i as, ρ => (match ρ[i]? with
      | some (.dat (.fn f)) => if ft.dom f = true then (evA ft as ρ).bind fun ps ρ => callRes (ft.fn f) ps ρ else .stuck
      | some (.clo c) => (evA ft as ρ).bind fun ps ρ => callRes (ft.cl c) ps ρ
      | _ => .stuck)
  | .len a, ρ => (opd a ρ (evO ft a ρ)).bind fun x ρ => ofO ((x.get ρ).bind lenD) ρ
  | .bi b as, ρ => (evL ft as ρ).bind fun ds ρ => ofO (biD b ds) ρ
  | .isi a c, ρ => (frz (evO ft a ρ)).bind fun x ρ => ofO ((isiD x c).map fun k => .dat (.bl k)) ρ
  | .tup es, ρ => (evL ft es ρ).bind fun ds ρ => if ds.length ≤ line then .ok (.dat (.tup ds)) ρ else .stuck
  | .lst es, ρ => (evL ft es ρ).bind fun ds ρ => if ds.length ≤ line then .ok (.own (.lst ds)) ρ else .stuck
  | .comp elt tg it cond own, ρ => (evI ft it ρ).bind fun ds ρ1 =>
      if own.all (fun i => !isMut ρ1[i]?) then
        (noexc (compF (fun d ρ => match asgTg tg d ρ with
          | some ρ => (tst (evO ft cond ρ)).bind fun k ρ => if k = true then (frz (evO ft elt ρ)).bind fun x ρ => .ok (some x) (wipeE ρ own) else .ok none (wipeE ρ own)
          | none => .stuck) ds (wipeE ρ1 own))).bind fun l ρ2 => if l.length < line then .ok (.own (.lst l)) (unwipe ρ1 ρ2 own) else .stuck
      else .stuck
  | .idx a b, ρ => (opd a ρ (evO ft a ρ)).bind fun x ρ => (frz (evO ft b ρ)).bind fun i ρ => ofO ((x.get ρ).bind fun x => (ixD x i).map .dat) ρ
  | .sl a lo hi, ρ => (frz (evO ft a ρ)).bind fun x ρ => (evP ft lo ρ).bind fun l ρ => (evP ft hi ρ).bind fun h ρ => ofO (slD x l h) ρ
  | .pop0 i, ρ => (match mutL ρ[i]? with
      | some (x :: r) => .ok (.dat x) (ρ.set i (putS ρ[i]? r))
      | _ => .stuck)
  | .popL i, ρ => (match mutL ρ[i]? with
      | some l => (match l[l.length - 1]? with | some x => .ok (.dat x) (ρ.set i (putS ρ[i]? l.dropLast)) | none => .stuck)
      | none => .stuck)
  | .rev a, ρ => (frz (evO ft a ρ)).bind fun x ρ => ofO (revD x) ρ
  | .told h a, ρ => toldR (ft.told h) (frz (evO ft a ρ))
  | .callC f ns y body caps as, ρ => (match capsOf ρ caps with
      | some cs => if ft.dom f = true then (evA ft as ρ).bind fun ps ρ => callCR (ft.fn f) (.mk ns y body cs) ps ρ else .stuck
      | none => .stuck)
  | .lrng it, ρ => (evI ft it ρ).bind fun ds ρ => if ds.length < line then .ok (.own (.lst ds)) ρ else .stuck
  | .join a b, ρ => (frz (evO ft a ρ)).bind fun x ρ => match x with | .str s => (frz (evO ft b ρ)).bind fun y ρ => ofO (joinD s y) ρ | _ => .stuck
  | .split a b, ρ => (frz (evO ft a ρ)).bind fun x ρ => match x with | .str s => (frz (evO ft b ρ)).bind fun y ρ => ofO (splitD s y) ρ | _ => .stuck
  | .fstr es, ρ => (evF ft es Str.empty ρ).bind fun z ρ => .ok (.dat (.str z)) ρ
  | .slr a e, ρ => (frz (evO ft a ρ)).bind fun x ρ => ofO (slrD x e) ρ
def evF (ft : FT) : IEs → Str → Env → ERes Str
  | .nil, acc, ρ => .ok acc ρ
  | .cons e r, acc, ρ => (frz (evO ft e ρ)).bind fun d ρ => match txtD d with
      | some y => if (acc ++ y).length ≤ line then evF ft r (acc ++ y) ρ else .stuck
      | none => .stuck
def evP (ft : FT) : IOp → Env → ERes (Option Int)
  | .none, ρ => .ok none ρ
  | .some e, ρ => (frz (evO ft e ρ)).bind fun d ρ => match d with | .int i => .ok (some i) ρ | _ => .stuck
def evL (ft : FT) : IEs → Env → ERes (List D)
  | .nil, ρ => .ok [] ρ
  | .cons e r, ρ => (frz (evO ft e ρ)).bind fun d ρ => (evL ft r ρ).bind fun ds ρ => .ok (d :: ds) ρ
def evA (ft : FT) : IAs → Env → ERes (List PArg)
  | .nil, ρ => .ok [] ρ
  | .e a r, ρ => (frz (evO ft a ρ)).bind fun d ρ => (evA ft r ρ).bind fun ps ρ => .ok (.dat d :: ps) ρ
  | .lent i r, ρ => if isMut ρ[i]? = true then (evA ft r ρ).bind fun ps ρ => if isMut ρ[i]? = true then .ok (.lent i :: ps) ρ else .stuck else .stuck
def evI (ft : FT) : IIt → Env → ERes (List D)
  | .seq e, ρ => (frz (evO ft e ρ)).bind fun d ρ => ofO (seqOf d) ρ
  | .range1 a, ρ => (frz (evO ft a ρ)).bind fun x ρ => match x with | .int j => (if range62 j then .ok (rangeD 0 1 j.toNat) ρ else .stuck) | _ => .stuck
  | .range2 a b, ρ => (frz (evO ft a ρ)).bind fun x ρ => (frz (evO ft b ρ)).bind fun y ρ => match x, y with | .int i, .int j => (if range62 i && range62 j then .ok (rangeD i 1 (j - i).toNat) ρ else .stuck) | _, _ => .stuck
  | .range3 a b c, ρ => (frz (evO ft a ρ)).bind fun x ρ => (frz (evO ft b ρ)).bind fun y ρ => (frz (evO ft c ρ)).bind fun z ρ => match x, y, z with
      | .int i, .int j, .int (-1) => (if range62 i && range62 j then .ok (rangeD i (-1) (i - j).toNat) ρ else .stuck) | _, _, _ => .stuck
  | .zip a b, ρ => (frz (evO ft a ρ)).bind fun x ρ => (frz (evO ft b ρ)).bind fun y ρ => ofO (zipOf x y) ρ
  | .enum a, ρ => (frz (evO ft a ρ)).bind fun x ρ => ofO ((lstOf x).map (enumD 0)) ρ
end

/-! ### statements -/
inductive SRes where
  | next (ρ : Env) | ret (v : Val) (ρ : Env) | brk (ρ : Env) | cont (ρ : Env) | exc (c : Nat) (ρ : Env) | stuck
def ERes.st {α : Type} (x : ERes α) (f : α → Env → SRes) : SRes :=
  match x with
  | .ok a ρ => f a ρ
  | .exc c ρ => .exc c ρ
  | .stuck => .stuck
def SRes.seq (x : SRes) (f : Env → SRes) : SRes :=
  match x with
  | .next ρ => f ρ
  | x => x
def forF (f : D → Env → SRes) : List D → Env → SRes
  | [], ρ => .next ρ
  | d :: r, ρ => match f d ρ with
    | .next ρ => forF f r ρ
    | .cont ρ => forF f r ρ
    | .brk ρ => .next ρ
    | x => x
def whileF (c : Env → ERes Bool) (f : Env → SRes) : Nat → Env → SRes
  | 0, _ => .stuck
  | n + 1, ρ => (c ρ).st fun k ρ => if k = true then (match f ρ with
        | .next ρ => whileF c f n ρ
        | .cont ρ => whileF c f n ρ
        | .brk ρ => .next ρ
        | x => x) else .next ρ

mutual
inductive IS where
  | asg (i : Nat) (e : IE) | asgO (i : Nat) (e : IE) | asgT (t : Tg) (e : IE)
  | par (i j : Nat) (a b : IE) (oj : Bool) | par3 (i j l : Nat) (a b c : IE)
  | app (i : Nat) (e : IE) | setIx (i : Nat) (ix e : IE)
  | expr (e : IE) | ifs (c : IE) (a b : ISs)
  | forS (tg : Tg) (it : IIt) (body : ISs) | whileS (c : IE) (body : ISs)
  | ret (e : IE) | retN | raise (c : Nat) | brk | cont | pass
inductive ISs where | nil | cons (s : IS) (r : ISs)
end

mutual
def evS (ft : FT) (fuel : Nat) : IS → Env → SRes
  | .asg i e, ρ => (frz (evO ft e ρ)).st fun d ρ => if i < ρ.length then .next (ρ.set i (.dat d)) else .stuck
  | .asgO i e, ρ => (evO ft e ρ).st fun v ρ => if i < ρ.length then .next (ρ.set i v.slot) else .stuck
  | .asgT t e, ρ => (frz (evO ft e ρ)).st fun d ρ => match asgTg t d ρ with | some ρ => .next ρ | none => .stuck
  | .par i j a b oj, ρ => (frz (evO ft a ρ)).st fun x ρ => (evO ft b ρ).st fun y ρ => if i ≠ j ∧ i < ρ.length ∧ j < ρ.length then .next ((ρ.set i (.dat x)).set j (if oj then y.slot else .dat y.d)) else .stuck
  | .par3 i j l a b c, ρ => (frz (evO ft a ρ)).st fun x ρ => (frz (evO ft b ρ)).st fun y ρ => (frz (evO ft c ρ)).st fun z ρ => if i < ρ.length ∧ j < ρ.length ∧ l < ρ.length then .next (((ρ.set i (.dat x)).set j (.dat y)).set l (.dat z)) else .stuck
  | .app i e, ρ => if isMut ρ[i]? = true then (frz (evO ft e ρ)).st fun d ρ => match mutL ρ[i]? with
      | some l => if l.length < line then .next (ρ.set i (putS ρ[i]? (l ++ [d]))) else .stuck
      | none => .stuck else .stuck
  | .setIx i ix e, ρ => (frz (evO ft e ρ)).st fun d ρ => if isMut ρ[i]? = true then (frz (evO ft ix ρ)).st fun k ρ => match k, mutL ρ[i]? with
      | .int k, some l => (match ixN l.length k with | some j => .next (ρ.set i (putS ρ[i]? (l.set j d))) | none => .stuck)
      | _, _ => .stuck else .stuck
  | .expr e, ρ => (evO ft e ρ).st fun _ ρ => .next ρ
  | .ifs c a b, ρ => (tst (evO ft c ρ)).st fun k ρ => if k = true then evSs ft fuel a ρ else evSs ft fuel b ρ
  | .forS tg it body, ρ => (evI ft it ρ).st fun ds ρ => forF (fun d ρ => match asgTg tg d ρ with | some ρ => evSs ft fuel body ρ | none => .stuck) ds ρ
  | .whileS c body, ρ => whileF (fun ρ => tst (evO ft c ρ)) (fun ρ => evSs ft fuel body ρ) fuel ρ
  | .ret e, ρ => (match e with
      | .var i => (match ρ[i]? with
        | some (.own m) => .ret (.own m) (ρ.set i .no)
        | _ => (evO ft e ρ).st fun v ρ => .ret v ρ)
      | _ => (evO ft e ρ).st fun v ρ => .ret v ρ)
  | .retN, ρ => .ret (.dat .non) ρ
  | .raise c, ρ => .exc c ρ
  | .brk, ρ => .brk ρ
  | .cont, ρ => .cont ρ
  | .pass, ρ => .next ρ
def evSs (ft : FT) (fuel : Nat) : ISs → Env → SRes
  | .nil, ρ => .next ρ
  | .cons s r, ρ => (evS ft fuel s ρ).seq fun ρ => evSs ft fuel r ρ
end

/-! ### defs -/
structure FnD where
  np : Nat
  ns : Nat
  body : ISs
def Arg.slot : Arg → Slot
  | .dat d => .dat d
  | .lent m => .lent m
  | .clo c => .clo c
def startE (as : List Arg) (ns : Nat) : Env := as.map Arg.slot ++ List.replicate (ns - as.length) .no
def lentsAt (ρ : Env) : Nat → List Arg → Option (List M)
  | _, [] => some []
  | i, .lent _ :: r => match ρ[i]? with
    | some (.lent m) => (lentsAt ρ (i + 1) r).map (m :: ·)
    | _ => none
  | i, _ :: r => lentsAt ρ (i + 1) r
def fin (as : List Arg) (r : SRes) : FRes :=
  match r with
  | .next ρ => (match lentsAt ρ 0 as with | some ms => .ret (.dat .non) ms | none => .stuck)
  | .ret v ρ => (match lentsAt ρ 0 as with | some ms => .ret v ms | none => .stuck)
  | .exc c ρ => (match lentsAt ρ 0 as with | some ms => .exc c ms | none => .stuck)
  | _ => .stuck
def runFn (ft : FT) (fuel : Nat) (fd : FnD) (as : List Arg) : FRes :=
  if as.length = fd.np ∧ fd.np ≤ fd.ns then fin as (evSs ft fuel fd.body (startE as fd.ns)) else .stuck
/-- what a closure does of one argument -/
def clF (ft : FT) : Clo → List Arg → FRes
  | .mk ns y body cs, [.dat d] => (match frz (evO ft body (cloEnv ns y cs d)) with
    | .ok r _ => .ret (.dat r) []
    | .exc c _ => .exc c []
    | .stuck => .stuck)
  | _, _ => .stuck
/-- the defs of a text (by their ids), at a depth of calls -/
def ftAt (fns : Nat → Option FnD) (told : Nat → D ⊕ Nat → Option D) (fuel : Nat) : Nat → FT
  | 0 => ⟨fun _ _ => .stuck, fun _ _ => .stuck, told, fun f => (fns f).isSome⟩
  | k + 1 => ⟨fun f as => match fns f with
      | some fd => runFn (ftAt fns told fuel k) fuel fd as
      | none => .stuck, clF (ftAt fns told fuel k), told, fun f => (fns f).isSome⟩
end AP
end
section
/-! AP1: data in the heap, states, readings; rules for expressions -/
namespace AP
open PySem PySem.Spec PyProof.Rows L2

abbrev St := L2.St
/-! ### heaps -/
def Ext (A B : Hp) : Prop := ∀ a o, A a = some o → B a = some o
theorem Ext.refl (A : Hp) : Ext A A := fun _ _ h => h
theorem Ext.trans {A B C : Hp} (h : Ext A B) (k : Ext B C) : Ext A C := fun a o e => k a o (h a o e)
/-- the frozen part and the heap grow by new objects -/
structure Grow (Fz H Fz' H' : Hp) : Prop where
  fz : Ext Fz Fz'
  sub : Ext Fz' H'
  keep : Ext H H'
  new : ∀ a o, Fz' a = some o → Fz a = some o ∨ (H a = none ∧ ∀ ps, o ≠ .tbl ps)
theorem Grow.refl {Fz H : Hp} (h : Ext Fz H) : Grow Fz H Fz H := ⟨Ext.refl _, h, Ext.refl _, fun _ _ e => .inl e⟩
theorem ext_none {A B : Hp} (h : Ext A B) {a : Addr} (e : B a = none) : A a = none := by
  cases q : A a with
  | none => rfl
  | some o => rw [h a o q] at e; cases e
theorem ext_upd {H : Hp} {p : Addr} {o : HO} (h : H p = none) : Ext H (upd H p o) := fun a x e => by
  rw [upd_ne (ne_of_none e h)]; exact e
theorem Grow.add {Fz H : Hp} (h : Ext Fz H) {p : Addr} {o : HO} (hp : H p = none) (ho : ∀ ps, o ≠ .tbl ps := by intro _ z; cases z) : Grow Fz H (upd Fz p o) (upd H p o) := by
  refine ⟨ext_upd (ext_none h hp), fun a x e => ?_, ext_upd hp, fun a x e => ?_⟩
  · by_cases ha : a = p
    · subst ha; rw [upd_same] at e ⊢; exact e
    · rw [upd_ne ha] at e ⊢; exact h a x e
  · by_cases ha : a = p
    · subst ha; rw [upd_same] at e; cases e; exact .inr ⟨hp, ho⟩
    · rw [upd_ne ha] at e; exact .inl e

/-! ### data -/
/-- what does not change through a law: the written part, the module's names, the ids' names -/
structure Glb where
  K : PySem.W.Frag
  mg : Str → Option Value
  G : List Str

mutual
inductive Rep (g : Glb) (Fz : Hp) : V → D → Prop
  | non : Rep g Fz .non .non
  | bl (b : Bool) : Rep g Fz (.bl b) (.bl b)
  | int (i : Int) : Rep g Fz (.int i) (.int i)
  | str (x : Str) : Rep g Fz (.str x) (.str x)
  | tup {a : Addr} {xs : List V} {ds : List D} : SqT g.K Fz a xs → RepL g Fz xs ds → Rep g Fz (.ref a) (.tup ds)
  | lst {a : Addr} {xs : List V} {ds : List D} : Fz a = some (.lst xs) → RepL g Fz xs ds → Rep g Fz (.ref a) (.lst ds)
  | fn {a : Addr} {x : Nat} {n : Str} : g.G[x]? = some n → g.mg n = some (.ref a) → Rep g Fz (.ref a) (.fn x)
  | scr {a : Addr} {ns : List Int} : SqL g.K Fz a (ns.map V.int) → Rep g Fz (.ref a) (.scr ns)
inductive RepL (g : Glb) (Fz : Hp) : List V → List D → Prop
  | nil : RepL g Fz [] []
  | cons {v : V} {vs : List V} {d : D} {ds : List D} : Rep g Fz v d → RepL g Fz vs ds → RepL g Fz (v :: vs) (d :: ds)
end
theorem SqL.ext {K : PySem.W.Frag} {A B : Hp} {a : Addr} {xs : List V} (e : Ext A B) (h : SqL K A a xs) : SqL K B a xs := by
  rcases h with (h | ⟨o, h⟩) | h
  · exact .inl (.inl (e _ _ h))
  · exact .inl (.inr ⟨o, e _ _ h⟩)
  · exact .inr h
theorem SqT.ext {K : PySem.W.Frag} {A B : Hp} {a : Addr} {xs : List V} (e : Ext A B) (h : SqT K A a xs) : SqT K B a xs := by
  rcases h with (h | ⟨o, h⟩) | h
  · exact .inl (.inl (e _ _ h))
  · exact .inl (.inr ⟨o, e _ _ h⟩)
  · exact .inr h
/-- all but the objects held by a law of their own -/
def ExtD (A B : Hp) : Prop := ∀ a o, A a = some o → (∀ φ, o ≠ .ext φ) → B a = some o
theorem SqL.extD {K : PySem.W.Frag} {A B : Hp} {a : Addr} {xs : List V} (e : ExtD A B) (h : SqL K A a xs) : SqL K B a xs := by
  rcases h with (h | ⟨o, h⟩) | h
  · exact .inl (.inl (e _ _ h fun φ z => by cases z))
  · exact .inl (.inr ⟨o, e _ _ h fun φ z => by cases z⟩)
  · exact .inr h
theorem SqT.extD {K : PySem.W.Frag} {A B : Hp} {a : Addr} {xs : List V} (e : ExtD A B) (h : SqT K A a xs) : SqT K B a xs := by
  rcases h with (h | ⟨o, h⟩) | h
  · exact .inl (.inl (e _ _ h fun φ z => by cases z))
  · exact .inl (.inr ⟨o, e _ _ h fun φ z => by cases z⟩)
  · exact .inr h
section
variable {g : Glb} {A B : Hp}
mutual
theorem Rep.extD (e : ExtD A B) : ∀ (d : D) (v : V), Rep g A v d → Rep g B v d
  | .non, _, h => by cases h; exact .non
  | .bl _, _, h => by cases h; exact .bl _
  | .int _, _, h => by cases h; exact .int _
  | .str _, _, h => by cases h; exact .str _
  | .tup ds, _, h => by cases h with | tup h1 h2 => exact .tup (SqT.extD e h1) (RepL.extD e ds _ h2)
  | .lst ds, _, h => by cases h with | lst h1 h2 => exact .lst (e _ _ h1 fun φ z => by cases z) (RepL.extD e ds _ h2)
  | .fn _, _, h => by cases h with | fn h1 h2 => exact .fn h1 h2
  | .scr _, _, h => by cases h with | scr h1 => exact .scr (SqL.extD e h1)
theorem RepL.extD (e : ExtD A B) : ∀ (ds : List D) (vs : List V), RepL g A vs ds → RepL g B vs ds
  | [], _, h => by cases h; exact .nil
  | d :: ds, _, h => by cases h with | cons h1 h2 => exact .cons (Rep.extD e d _ h1) (RepL.extD e ds _ h2)
end
end
/-- without the objects held by a law of their own, but for those of old -/
def dr (F0 Fz : Hp) : Hp := fun a => match Fz a with
  | some (.ext _) => F0 a
  | o => o
section
variable {F0 Fz : Hp}
theorem dr_ext (h : Ext F0 Fz) : Ext F0 (dr F0 Fz) := fun a o e => by
  have q := h a o e
  unfold dr
  rw [q]
  cases o <;> first | rfl | exact e
theorem dr_sub (h : Ext F0 Fz) : Ext (dr F0 Fz) Fz := fun a o e => by
  unfold dr at e
  split at e
  · exact h a o e
  · exact e
theorem dr_extD : ExtD Fz (dr F0 Fz) := fun a o e n => by
  unfold dr
  rw [e]
  cases o <;> first | rfl | exact absurd rfl (n _)
theorem dr_none {a : Addr} (h : Ext F0 Fz) (e : Fz a = none) : dr F0 Fz a = none := by
  unfold dr; rw [e]
theorem dr_cases {a : Addr} {o : HO} (h : Ext F0 Fz) (e : dr F0 Fz a = some o) : F0 a = some o ∨ (Fz a = some o ∧ ∀ φ, o ≠ .ext φ) := by
  unfold dr at e
  split at e
  · exact .inl e
  · rename_i n
    exact .inr ⟨e, fun φ z => n φ (by rw [e, z])⟩
end
theorem SqT.to {K K' : PySem.W.Frag} (hg : K = K') {A B : Hp} {a : Addr} {xs : List V} (e : Ext A B) (h : SqT K A a xs) : SqT K' B a xs := hg ▸ SqT.ext e h
section
variable {g : Glb} {A B : Hp}
mutual
theorem Rep.ext (e : Ext A B) : ∀ (d : D) (v : V), Rep g A v d → Rep g B v d
  | .non, _, h => by cases h; exact .non
  | .bl _, _, h => by cases h; exact .bl _
  | .int _, _, h => by cases h; exact .int _
  | .str _, _, h => by cases h; exact .str _
  | .tup ds, _, h => by cases h with | tup h1 h2 => exact .tup (SqT.ext e h1) (RepL.ext e ds _ h2)
  | .lst ds, _, h => by cases h with | lst h1 h2 => exact .lst (e _ _ h1) (RepL.ext e ds _ h2)
  | .fn _, _, h => by cases h with | fn h1 h2 => exact .fn h1 h2
  | .scr _, _, h => by cases h with | scr h1 => exact .scr (SqL.ext e h1)
theorem RepL.ext (e : Ext A B) : ∀ (ds : List D) (vs : List V), RepL g A vs ds → RepL g B vs ds
  | [], _, h => by cases h; exact .nil
  | d :: ds, _, h => by cases h with | cons h1 h2 => exact .cons (Rep.ext e d _ h1) (RepL.ext e ds _ h2)
end
theorem RepL.length : ∀ {vs : List V} {ds : List D}, RepL g A vs ds → vs.length = ds.length
  | _, _, .nil => rfl
  | _, _, .cons _ h => by simp [RepL.length h]
theorem RepL.get : ∀ {vs : List V} {ds : List D} {i : Nat} {d : D}, RepL g A vs ds → ds[i]? = some d → ∃ v, vs[i]? = some v ∧ Rep g A v d
  | _, _, _, _, .nil, e => by simp at e
  | _, _, 0, _, .cons h _, e => by simp at e; subst e; exact ⟨_, by simp, h⟩
  | _, _, i + 1, _, .cons _ h, e => by
    obtain ⟨v, h1, h2⟩ := RepL.get (i := i) h (by simpa using e)
    exact ⟨v, by simpa using h1, h2⟩
theorem RepL.append : ∀ {vs ws : List V} {ds es : List D}, RepL g A vs ds → RepL g A ws es → RepL g A (vs ++ ws) (ds ++ es)
  | _, _, _, _, .nil, k => k
  | _, _, _, _, .cons h t, k => .cons h (RepL.append t k)
theorem RepL.rev : ∀ {vs : List V} {ds : List D}, RepL g A vs ds → RepL g A vs.reverse ds.reverse
  | _, _, .nil => .nil
  | _, _, .cons h t => by
    rw [List.reverse_cons, List.reverse_cons]
    exact RepL.append (RepL.rev t) (.cons h .nil)
theorem RepL.drop : ∀ {vs : List V} {ds : List D} (n : Nat), RepL g A vs ds → RepL g A (vs.drop n) (ds.drop n)
  | _, _, 0, h => h
  | _, _, _ + 1, .nil => .nil
  | _, _, n + 1, .cons _ h => RepL.drop n h
theorem RepL.take : ∀ {vs : List V} {ds : List D} (n : Nat), RepL g A vs ds → RepL g A (vs.take n) (ds.take n)
  | _, _, 0, _ => .nil
  | _, _, _ + 1, .nil => .nil
  | _, _, n + 1, .cons h t => .cons h (RepL.take n t)
theorem RepL.set : ∀ {vs : List V} {ds : List D} (n : Nat) {v : V} {d : D}, RepL g A vs ds → Rep g A v d → RepL g A (vs.set n v) (ds.set n d)
  | _, _, _, _, _, .nil, _ => .nil
  | _, _, 0, _, _, .cons _ t, h => .cons h t
  | _, _, n + 1, _, _, .cons k t, h => .cons k (RepL.set n t h)
theorem RepL.rep : ∀ {vs : List V} {ds : List D} (n : Nat), RepL g A vs ds → RepL g A (List.replicate n vs).flatten (List.replicate n ds).flatten
  | _, _, 0, _ => .nil
  | _, _, n + 1, h => by
    rw [List.replicate_succ, List.replicate_succ, List.flatten_cons, List.flatten_cons]
    exact RepL.append h (RepL.rep n h)
theorem RepL.ints : ∀ {vs : List V} {ds : List D} {ns : List Int}, RepL g A vs ds → intsOf ds = some ns → vs = ns.map V.int
  | _, _, _, .nil, e => by simp [intsOf] at e; subst e; rfl
  | _, d :: ds, ns, .cons h t, e => by
    cases h with
    | int i =>
      simp only [intsOf, Option.map_eq_some_iff] at e
      obtain ⟨ms, e1, e2⟩ := e
      subst e2
      rw [RepL.ints t e1]; rfl
    | _ => simp [intsOf] at e
theorem RepL.bls : ∀ {vs : List V} {ds : List D} {bs : List Bool}, RepL g A vs ds → blsOf ds = some bs → vs = bs.map V.bl
  | _, _, _, .nil, e => by simp [blsOf] at e; subst e; rfl
  | _, d :: ds, ns, .cons h t, e => by
    cases h with
    | bl i =>
      simp only [blsOf, Option.map_eq_some_iff] at e
      obtain ⟨ms, e1, e2⟩ := e
      subst e2
      rw [RepL.bls t e1]; rfl
    | _ => simp [blsOf] at e
end

/-! ### states -/
/-- what closures stand for: left open here -/
abbrev CPT := Hp → V → Clo → Prop
def NoTb (o : HO) : Prop := ∀ ps, o ≠ .tbl ps
/-- the parameters of a proof: the globals, the closures' reading, what is told of tables; F0: the frozen part at the entry -/
structure Pa where
  g : Glb
  CP : CPT
  mono : ∀ (A B : Hp) (v : V) (c : Clo), Ext A B → CP A v c → CP B v c
  TI : Hp → Prop
  tmono : ∀ A B : Hp, Ext A B → TI A → TI B
  tupd : ∀ (A : Hp) (a : Addr) (xs ys : List V), A a = some (.lst xs) → TI A → TI (upd A a (.lst ys))
  tcel : ∀ (A : Hp) (C : List Addr), (∀ c ∈ C, ∃ o u, A c = some (FunO c o) ∧ o.data = .cell u ∧ ∃ h : Heap, h.get? c = some o) → TI A → TI (wo C A)
  cfun : ∀ (A : Hp) (v : V) (c : Clo), CP A v c → ∃ f o fd, v = .ref f ∧ A f = some (FunO f o) ∧ o.data = .func fd
  F0 : Hp

def SlotRep (p : Pa) (H0 : Hp) (Lt : List Addr) (Fz H : Hp) : Option (Option V) → Slot → Prop
  | _, .no => True
  | o, .dat d => ∃ v, o = some (some v) ∧ Rep p.g Fz v d
  | o, .own (.lst ds) => ∃ a xs, o = some (some (.ref a)) ∧ Fz a = none ∧ H0 a = none ∧ a ∉ Lt ∧ H a = some (.lst xs) ∧ RepL p.g Fz xs ds
  | o, .lent (.lst ds) => ∃ a xs, o = some (some (.ref a)) ∧ Fz a = none ∧ a ∈ Lt ∧ H a = some (.lst xs) ∧ RepL p.g Fz xs ds
  | o, .clo c => ∃ v, o = some (some v) ∧ p.CP Fz v c

structure StRep (p : Pa) (H0 : Hp) (Lt : List Addr) (Fz : Hp) (ρ : Env) (σ : St) (H : Hp) : Prop where
  ext : Ext Fz H
  base : ∀ a o, H0 a = some o → a ∉ Lt → NoTb o → H a = some o
  slot : ∀ (i : Nat) (s : Slot), ρ[i]? = some s → SlotRep p H0 Lt Fz H (σ[i]?) s
  apart : ∀ (i j : Nat) (a : Addr), i ≠ j → isMut ρ[i]? = true → isMut ρ[j]? = true → σ[i]? = some (some (V.ref a)) → σ[j]? = some (some (V.ref a)) → False
  len : ρ.length = σ.length
  lt : ∀ a, a ∈ Lt → ∃ o, H a = some o
  tab : p.TI H
  tbs : ∀ a o, H0 a = some o → ∃ o', H a = some o'
  ntb : ∀ a o, Fz a = some o → NoTb o
  old : ∀ a o, Fz a = some o → p.F0 a = some o ∨ H0 a = none ∨ ∃ φ, o = .ext φ
  f0 : Ext p.F0 Fz

def ValRep (p : Pa) (H0 : Hp) (Lt : List Addr) (Fz : Hp) (ρ : Env) (σ : St) (H : Hp) (x : V) : Val → Prop
  | .dat d => Rep p.g Fz x d
  | .own (.lst ds) => ∃ a xs, x = .ref a ∧ Fz a = none ∧ H0 a = none ∧ a ∉ Lt ∧ H a = some (.lst xs) ∧ RepL p.g Fz xs ds ∧ ∀ i : Nat, isMut ρ[i]? = true → σ[i]? ≠ some (some (V.ref a))

section
variable {p : Pa} {H0 : Hp} {Lt : List Addr} {Fz Fz' H H' : Hp} {ρ : Env} {σ : St}
theorem isMut_cases {s : Option Slot} (h : isMut s = true) : (∃ m, s = some (.own m)) ∨ ∃ m, s = some (.lent m) := by
  cases s with
  | none => cases h
  | some s => cases s with
    | own m => exact .inl ⟨m, rfl⟩
    | lent m => exact .inr ⟨m, rfl⟩
    | _ => cases h
theorem SlotRep.grow {o : Option (Option V)} {s : Slot} (g : Grow Fz H Fz' H') (h : SlotRep p H0 Lt Fz H o s) : SlotRep p H0 Lt Fz' H' o s := by
  have nf : ∀ a x, H a = some x → Fz a = none → Fz' a = none := fun a x e n => by
    cases q : Fz' a with
    | none => rfl
    | some y =>
      rcases g.new a y q with z | ⟨z, _⟩
      · rw [n] at z; cases z
      · rw [z] at e; cases e
  cases s with
  | no => trivial
  | dat d => obtain ⟨v, e, r⟩ := h; exact ⟨v, e, Rep.ext g.fz _ _ r⟩
  | own m => cases m with
    | lst ds => obtain ⟨a, xs, e, f, h0, l, hh, r⟩ := h; exact ⟨a, xs, e, nf a _ hh f, h0, l, g.keep _ _ hh, RepL.ext g.fz _ _ r⟩
  | lent m => cases m with
    | lst ds => obtain ⟨a, xs, e, f, l, hh, r⟩ := h; exact ⟨a, xs, e, nf a _ hh f, l, g.keep _ _ hh, RepL.ext g.fz _ _ r⟩
  | clo c => obtain ⟨v, e, r⟩ := h; exact ⟨v, e, p.mono _ _ _ _ g.fz r⟩
theorem StRep.grow (S : StRep p H0 Lt Fz ρ σ H) (g : Grow Fz H Fz' H') : StRep p H0 Lt Fz' ρ σ H' := by
  refine  ⟨g.sub, fun a o e n t => g.keep _ _ (S.base a o e n t), fun i s e => (S.slot i s e).grow g, S.apart, S.len, fun a h => let ⟨o, e⟩ := S.lt a h; ⟨o, g.keep _ _ e⟩, p.tmono _ _ g.keep S.tab, fun a o e => let ⟨o', q⟩ := S.tbs a o e; ⟨o', g.keep _ _ q⟩,
    fun a o e => (g.new a o e).elim (S.ntb a o) fun z => z.2, fun a o e => (g.new a o e).elim (S.old a o) fun z => .inr (.inl ?_), S.f0.trans g.fz⟩
  cases q : H0 a with
  | none => rfl
  | some u =>
    obtain ⟨o', e'⟩ := S.tbs a u q; rw [z.1] at e'; cases e'
/-- an object that is new to the heap is new to all -/
theorem StRep.new0 (S : StRep p H0 Lt Fz ρ σ H) {a : Addr} (n : H a = none) : Fz a = none := ext_none S.ext n
theorem StRep.mutAt (S : StRep p H0 Lt Fz ρ σ H) {i : Nat} (h : isMut ρ[i]? = true) : ∃ a xs ds, σ[i]? = some (some (.ref a)) ∧ H a = some (.lst xs) ∧ Fz a = none ∧ RepL p.g Fz xs ds ∧ (ρ[i]? = some (.own (.lst ds)) ∧ H0 a = none ∧ a ∉ Lt ∨ ρ[i]? = some (.lent (.lst ds)) ∧ a ∈ Lt) := by
  rcases isMut_cases h with ⟨m, e⟩ | ⟨m, e⟩
  · have q := S.slot i _ e
    cases m with
    | lst ds => obtain ⟨a, xs, e1, f, h0, l, hh, r⟩ := q; exact ⟨a, xs, ds, e1, hh, f, r, .inl ⟨e, h0, l⟩⟩
  · have q := S.slot i _ e
    cases m with
    | lst ds => obtain ⟨a, xs, e1, f, l, hh, r⟩ := q; exact ⟨a, xs, ds, e1, hh, f, r, .inr ⟨e, l⟩⟩
end

/-! ### readings -/
/-- a class of exceptions by its id -/
def ClsAt (g : Glb) (c : Nat) (C : Addr) : Prop := ∃ n, g.G[c]? = some n ∧ g.mg n = some (.ref C)
/-- what a value is: of a result at its state -/
abbrev RT (β α : Type) := Hp → List Addr → Hp → Env → St → Hp → β → α → Prop
def Post {β α : Type} (R : RT β α) (p : Pa) (X : Cx) (W : WX) (H0 : Hp) (Lt : List Addr) (Fz : Hp) (σ : St) (Q : β → Hp → Prop) : ERes α → Prop
  | .ok v ρ' => ∀ x Fz' H', Ext Fz Fz' → StRep p H0 Lt Fz' ρ' σ H' → R H0 Lt Fz' ρ' σ H' x v → Q x H'
  | .exc c ρ' => ∀ Fz' H' C, Ext Fz Fz' → StRep p H0 Lt Fz' ρ' σ H' → ClsAt p.g c C → W (.ref C) none σ H'
  | .stuck => False
def tR {β α : Type} (R : RT β α) (p : Pa) (X : Cx) (W : WX) (f : Env → ERes α) : St → Hp → (β → Hp → Prop) → Prop := fun σ H Q =>
  ∃ H0 Lt Fz ρ, StRep p H0 Lt Fz ρ σ H ∧ Post R p X W H0 Lt Fz σ Q (f ρ)
/-- a value; data; several data; a test; an operand -/
abbrev rO (p : Pa) : RT V Val := fun H0 Lt Fz ρ σ H x v => ValRep p H0 Lt Fz ρ σ H x v
abbrev rD (p : Pa) : RT V D := fun _ _ Fz _ _ _ x d => Rep p.g Fz x d
abbrev rL (p : Pa) : RT (List V) (List D) := fun _ _ Fz _ _ _ xs ds => RepL p.g Fz xs ds
abbrev rT : RT Bool Bool := fun _ _ _ _ _ _ b d => b = d
def rP (p : Pa) : RT V Opd := fun _ _ Fz ρ σ _ x o => match o with
  | .val d => Rep p.g Fz x d
  | .slot i => isMut ρ[i]? = true ∧ σ[i]? = some (some x)
abbrev tO (p : Pa) (X : Cx) (W : WX) (f : Env → ERes Val) : TE := tR (rO p) p X W f
abbrev tD (p : Pa) (X : Cx) (W : WX) (f : Env → ERes D) : TE := tR (rD p) p X W f
abbrev tL (p : Pa) (X : Cx) (W : WX) (f : Env → ERes (List D)) : TA := tR (rL p) p X W f
abbrev tT (p : Pa) (X : Cx) (W : WX) (f : Env → ERes Bool) : TT := tR rT p X W f
abbrev tP (p : Pa) (X : Cx) (W : WX) (f : Env → ERes Opd) : TE := tR (rP p) p X W f
section
variable {β γ α δ : Type} {R : RT β α} {R2 : RT γ δ} {p : Pa} {X : Cx} {W : WX} {H0 : Hp} {Lt : List Addr} {Fz F2 : Hp} {σ : St} {Q : β → Hp → Prop}
theorem Post.ext {r : ERes α} (e : Ext Fz F2) (q : Post R p X W H0 Lt Fz σ Q r) : Post R p X W H0 Lt F2 σ Q r := by
  cases r with
  | ok v ρ' => exact fun x Fz' H' x1 => q x Fz' H' (e.trans x1)
  | exc c ρ' => exact fun Fz' H' C x1 => q Fz' H' C (e.trans x1)
  | stuck => exact q
theorem Post.bind {Q' : γ → Hp → Prop} {r : ERes δ} {k : δ → Env → ERes α} (q : Post R p X W H0 Lt Fz σ Q (r.bind k))
    (hk : ∀ v ρ' x Fz' H', Ext Fz Fz' → StRep p H0 Lt Fz' ρ' σ H' → R2 H0 Lt Fz' ρ' σ H' x v → Post R p X W H0 Lt Fz' σ Q (k v ρ') → Q' x H') : Post R2 p X W H0 Lt Fz σ Q' r := by
  cases r with
  | ok v ρ' => exact fun x Fz' H' x1 S r => hk v ρ' x Fz' H' x1 S r (Post.ext x1 q)
  | exc c ρ' => exact q
  | stuck => exact q
/-- from a reading to another, ahead of it -/
theorem tR.bind {Q' : γ → Hp → Prop} {f : Env → ERes δ} {k : δ → Env → ERes α} {H : Hp} (h : tR R p X W (fun ρ => (f ρ).bind k) σ H Q)
    (hk : ∀ H0 Lt Fz v ρ' x H', StRep p H0 Lt Fz ρ' σ H' → R2 H0 Lt Fz ρ' σ H' x v → Post R p X W H0 Lt Fz σ Q (k v ρ') → Q' x H') : tR R2 p X W f σ H Q' := by
  obtain ⟨H0, Lt, Fz, ρ, S, q⟩ := h
  exact ⟨H0, Lt, Fz, ρ, S, Post.bind q fun v ρ' x Fz' H' x1 S' r q' => hk H0 Lt Fz' v ρ' x H' S' r q'⟩
theorem ofO_post {o : Option α} {ρ : Env} (q : Post R p X W H0 Lt Fz σ Q (ofO o ρ)) : ∃ a, o = some a ∧ Post R p X W H0 Lt Fz σ Q (.ok a ρ) := by
  cases o with
  | none => exact q.elim
  | some a => exact ⟨a, rfl, q⟩
end

theorem PE.imp {X : Cx} {e : Expr} {t t' : TE} (h : PE X e t) (i : ∀ σ H Q, t' σ H Q → t σ H Q) : PE X e t' :=
  ⟨fun pins s σ H Q I q => h.run pins s σ H Q I (i σ H Q q)⟩
theorem PT.imp {X : Cx} {e : Expr} {t t' : TT} (h : PT X e t) (i : ∀ σ H Q, t' σ H Q → t σ H Q) : PT X e t' :=
  ⟨fun pins s σ H Q I q => h.run pins s σ H Q I (i σ H Q q)⟩
theorem PW.imp {X : Cx} {e : Expr} {t t' : TT} (h : PW X e t) (i : ∀ σ H Q, t' σ H Q → t σ H Q) : PW X e t' :=
  ⟨fun wh pins s σ H Q I q => h.run wh pins s σ H Q I (i σ H Q q)⟩
theorem PA.imp {X : Cx} {e : List Expr} {t t' : TA} (h : PA X e t) (i : ∀ σ H Q, t' σ H Q → t σ H Q) : PA X e t' :=
  ⟨fun pos pins s σ H Q I q => h.run pos pins s σ H Q I (i σ H Q q)⟩
theorem PI.imp {X : Cx} {tg e : Expr} {t t' : TI} (h : PI X tg e t) (i : ∀ σ H Q, t' σ H Q → t σ H Q) : PI X tg e t' :=
  ⟨fun pins s σ H Q I q => h.run pins s σ H Q I (i σ H Q q)⟩
theorem PS.imp {X : Cx} {e : Stmt} {t t' : TS} (h : PS X e t) (i : ∀ D σ H, t' D σ H → t D σ H) : PS X e t' :=
  ⟨fun pins s σ H D I q => h.run pins s σ H D I (i D σ H q)⟩
theorem PSs.imp {X : Cx} {e : List Stmt} {t t' : TS} (h : PSs X e t) (i : ∀ D σ H, t' D σ H → t D σ H) : PSs X e t' :=
  ⟨fun pins s σ H D I q => h.run pins s σ H D I (i D σ H q)⟩

section
variable {p : Pa} {X : Cx} {W : WX}
/-- a value is frozen -/
theorem ValRep.frz {H0 : Hp} {Lt : List Addr} {Fz : Hp} {ρ : Env} {σ : St} {H : Hp} {x : V} {v : Val} (S : StRep p H0 Lt Fz ρ σ H) (h : ValRep p H0 Lt Fz ρ σ H x v) :
    ∃ Fz', Ext Fz Fz' ∧ StRep p H0 Lt Fz' ρ σ H ∧ Rep p.g Fz' x v.d := by
  cases v with
  | dat d => exact ⟨Fz, Ext.refl _, S, h⟩
  | own m => cases m with
    | lst ds =>
      obtain ⟨a, xs, rfl, f, h0, l, hh, r, ap⟩ := h
      have e1 : Ext Fz (upd Fz a (.lst xs)) := ext_upd f
      refine ⟨upd Fz a (.lst xs), e1, ⟨fun b o e => ?_, S.base, fun i s e => ?_, S.apart, S.len, S.lt, S.tab, S.tbs, fun b o e => ?_, fun b o e => ?_, S.f0.trans e1⟩, .lst upd_same (RepL.ext e1 _ _ r)⟩
      case refine_3 =>
        by_cases hb : b = a
        · subst hb; rw [upd_same] at e; cases e; intro _ z; cases z
        · rw [upd_ne hb] at e; exact S.ntb b o e
      case refine_4 =>
        by_cases hb : b = a
        · subst hb; exact .inr (.inl h0)
        · rw [upd_ne hb] at e; exact S.old b o e
      · by_cases hb : b = a
        · subst hb; rw [upd_same] at e; cases e; exact hh
        · rw [upd_ne hb] at e; exact S.ext b o e
      · have q := S.slot i s e
        cases s with
        | no => trivial
        | dat d => obtain ⟨v, e2, r2⟩ := q; exact ⟨v, e2, Rep.ext e1 _ _ r2⟩
        | own m => cases m with
          | lst es =>
            obtain ⟨b, ys, e2, f2, h2, l2, hh2, r2⟩ := q
            have nb : b ≠ a := fun z => ap i (by rw [e]; rfl) (by rw [← z]; exact e2)
            exact ⟨b, ys, e2, by rw [upd_ne nb]; exact f2, h2, l2, hh2, RepL.ext e1 _ _ r2⟩
        | lent m => cases m with
          | lst es =>
            obtain ⟨b, ys, e2, f2, l2, hh2, r2⟩ := q
            have nb : b ≠ a := fun z => ap i (by rw [e]; rfl) (by rw [← z]; exact e2)
            exact ⟨b, ys, e2, by rw [upd_ne nb]; exact f2, l2, hh2, RepL.ext e1 _ _ r2⟩
        | clo c => obtain ⟨v, e2, r2⟩ := q; exact ⟨v, e2, p.mono _ _ _ _ e1 r2⟩
theorem s_frz {e : Expr} {f : Env → ERes Val} (h : PE X e (tO p X W f)) : PE X e (tD p X W fun ρ => frz (f ρ)) := by
  refine PE.imp h fun σ H Q ⟨H0, Lt, Fz, ρ, S, q⟩ => ⟨H0, Lt, Fz, ρ, S, ?_⟩
  change Post (rD p) p X W H0 Lt Fz σ Q (frz (f ρ)) at q
  show Post (rO p) p X W H0 Lt Fz σ Q (f ρ)
  generalize f ρ = r at q ⊢
  cases r with
  | ok v ρ' =>
    intro x Fz' H' x1 S' r
    obtain ⟨F2, x2, S2, r2⟩ := ValRep.frz S' r
    exact q x F2 H' (x1.trans x2) S2 r2
  | exc c ρ' => exact q
  | stuck => exact q
theorem s_dat {e : Expr} {f : Env → ERes D} (h : PE X e (tD p X W f)) : PE X e (tO p X W fun ρ => (f ρ).bind fun d ρ => .ok (.dat d) ρ) := by
  refine PE.imp h fun σ H Q ⟨H0, Lt, Fz, ρ, S, q⟩ => ⟨H0, Lt, Fz, ρ, S, Post.bind q fun v ρ' x Fz' H' x1 S' r q' => q' x Fz' H' (Ext.refl _) S' r⟩
end
end AP
end
section
/-! AP2: operators by values -/
namespace AP
open PySem PySem.Spec PyProof.Rows L2

/-! ### data as the kit's data -/
mutual
def toP : D → PyData
  | .non => .none | .bl b => .bool b | .int i => .int i | .str x => .str x
  | .tup ds => .tuple (toPL ds) | .lst ds => .list (toPL ds) | .fn _ => .none | .scr _ => .none
def toPL : List D → List PyData
  | [] => []
  | d :: r => toP d :: toPL r
end
mutual
theorem plain_lay : ∀ d : D, d.plain = true → (toP d).canLay0 = true
  | .non, _ => by simp [toP, PyData.canLay0]
  | .bl _, _ => by simp [toP, PyData.canLay0]
  | .int _, _ => by simp [toP, PyData.canLay0]
  | .str x, h => by simpa [toP, PyData.canLay0, D.plain] using h
  | .tup ds, h => by simp only [toP, PyData.canLay0]; exact plain_layL ds (by simpa [D.plain] using h)
  | .lst ds, h => by simp only [toP, PyData.canLay0]; exact plain_layL ds (by simpa [D.plain] using h)
  | .fn _, h => by simp [D.plain] at h
  | .scr _, h => by simp [D.plain] at h
theorem plain_layL : ∀ ds : List D, D.plainL ds = true → PyData.canLayAll0 (toPL ds) = true
  | [], _ => by simp [toPL, PyData.canLayAll0]
  | d :: r, h => by
    have h' : d.plain = true ∧ D.plainL r = true := by simpa [D.plainL] using h
    simp [toPL, PyData.canLayAll0, plain_lay d h'.1, plain_layL r h'.2]
end
mutual
theorem dep_eq : ∀ d : D, (toP d).depth ≤ d.dep + 1
  | .non => by simp [toP, PyData.depth]
  | .bl _ => by simp [toP, PyData.depth]
  | .int _ => by simp [toP, PyData.depth]
  | .str _ => by simp [toP, PyData.depth]
  | .tup ds => by have := dep_eqL ds; simp only [toP, PyData.depth, D.dep]; omega
  | .lst ds => by have := dep_eqL ds; simp only [toP, PyData.depth, D.dep]; omega
  | .fn _ => by simp [toP, PyData.depth]
  | .scr _ => by simp [toP, PyData.depth]
theorem dep_eqL : ∀ ds : List D, PyData.depthAll (toPL ds) ≤ D.depL ds + 1
  | [] => by simp [toPL, PyData.depthAll]
  | d :: r => by have h1 := dep_eq d; have h2 := dep_eqL r; simp only [toPL, PyData.depthAll, D.depL]; omega
end
mutual
theorem eqv_toP : ∀ a b : D, a.plain = true → b.plain = true → PyData.eqv (toP a) (toP b) = D.eqv a b
  | .non, b, _, hb => by cases b <;> simp [toP, PyData.eqv, D.eqv, D.plain] at hb ⊢
  | .bl _, b, _, hb => by cases b <;> simp [toP, PyData.eqv, D.eqv, D.plain] at hb ⊢
  | .int _, b, _, hb => by cases b <;> simp [toP, PyData.eqv, D.eqv, D.plain] at hb ⊢
  | .str _, b, _, hb => by cases b <;> simp [toP, PyData.eqv, D.eqv, D.plain] at hb ⊢
  | .tup xs, b, ha, hb => by
    cases b with
    | tup ys => simp only [toP, PyData.eqv, D.eqv]; exact eqv_toPL xs ys (by simpa [D.plain] using ha) (by simpa [D.plain] using hb)
    | _ => simp [toP, PyData.eqv, D.eqv, D.plain] at hb ⊢
  | .lst xs, b, ha, hb => by
    cases b with
    | lst ys => simp only [toP, PyData.eqv, D.eqv]; exact eqv_toPL xs ys (by simpa [D.plain] using ha) (by simpa [D.plain] using hb)
    | _ => simp [toP, PyData.eqv, D.eqv, D.plain] at hb ⊢
  | .fn _, _, ha, _ => by simp [D.plain] at ha
  | .scr _, _, ha, _ => by simp [D.plain] at ha
theorem eqv_toPL : ∀ xs ys : List D, D.plainL xs = true → D.plainL ys = true → PyData.eqvAll (toPL xs) (toPL ys) = D.eqvL xs ys
  | [], [], _, _ => by simp [toPL, PyData.eqvAll, D.eqvL]
  | [], _ :: _, _, _ => by simp [toPL, PyData.eqvAll, D.eqvL]
  | _ :: _, [], _, _ => by simp [toPL, PyData.eqvAll, D.eqvL]
  | x :: xs, y :: ys, hx, hy => by
    have hx' : x.plain = true ∧ D.plainL xs = true := by simpa [D.plainL] using hx
    have hy' : y.plain = true ∧ D.plainL ys = true := by simpa [D.plainL] using hy
    simp only [toPL, PyData.eqvAll, D.eqvL, eqv_toP x y hx'.1 hy'.1, eqv_toPL xs ys hx'.2 hy'.2]
end
theorem any_toPL (a : D) (ha : a.plain = true) : ∀ ys : List D, D.plainL ys = true → ((toPL ys).any fun z => PyData.eqv z (toP a)) = isinD a ys
  | [], _ => by simp [toPL, isinD]
  | y :: r, h => by
    have h' : y.plain = true ∧ D.plainL r = true := by simpa [D.plainL] using h
    have ih := any_toPL a ha r h'.2
    unfold isinD at ih ⊢
    simp only [toPL, List.any_cons, ih, eqv_toP y a h'.1 ha]
section
variable {g : Glb} {Fz H : Hp}
mutual
theorem Rep.dp (e : Ext Fz H) : ∀ (d : D) (v : V), d.plain = true → Rep g Fz v d → Dp g.K H v (toP d)
  | .non, _, _, h => by cases h; exact .non
  | .bl _, _, _, h => by cases h; exact .bl _
  | .int _, _, _, h => by cases h; exact .int _
  | .str _, _, _, h => by cases h; exact .str _
  | .tup ds, _, hp, h => by cases h with | tup h1 h2 => exact .tup (SqT.ext e h1) (RepL.dp e ds _ (by simpa [D.plain] using hp) h2)
  | .lst ds, _, hp, h => by cases h with | lst h1 h2 => exact .lst (SqL.of (e _ _ h1)) (RepL.dp e ds _ (by simpa [D.plain] using hp) h2)
  | .fn _, _, hp, _ => by simp [D.plain] at hp
  | .scr _, _, hp, _ => by simp [D.plain] at hp
theorem RepL.dp (e : Ext Fz H) : ∀ (ds : List D) (vs : List V), D.plainL ds = true → RepL g Fz vs ds → DpAll g.K H vs (toPL ds)
  | [], _, _, h => by cases h; exact .nil
  | d :: ds, _, hp, h => by
    have hp' : d.plain = true ∧ D.plainL ds = true := by simpa [D.plainL] using hp
    cases h with | cons h1 h2 => exact .cons (Rep.dp e d _ hp'.1 h1) (RepL.dp e ds _ hp'.2 h2)
end
end

/-! ### results -/
def RPost (p : Pa) (Fz H : Hp) (Q : VK) : Val → Prop
  | .dat d => ∀ z Fz' H', Grow Fz H Fz' H' → Rep p.g Fz' z d → Q z H'
  | .own (.lst ds) => ∀ a xs, H a = none → RepL p.g Fz xs ds → Q (.ref a) (upd H a (.lst xs))
section
variable {p : Pa} {X : Cx} {W : WX} {H0 : Hp} {Lt : List Addr} {Fz H : Hp} {ρ : Env} {σ : St} {Q : VK}
theorem StRep.fresh (S : StRep p H0 Lt Fz ρ σ H) (a : Addr) (n : H a = none) : Fz a = none ∧ H0 a = none ∧ a ∉ Lt ∧ ∀ i : Nat, isMut ρ[i]? = true → σ[i]? ≠ some (some (V.ref a)) := by
  have hl : a ∉ Lt := fun z => by
    obtain ⟨o, e⟩ := S.lt a z
    rw [n] at e; cases e
  refine ⟨S.new0 n, ?_, hl, fun i hm e => ?_⟩
  · cases q : H0 a with
    | none => rfl
    | some o => obtain ⟨o', e'⟩ := S.tbs a o q; rw [n] at e'; cases e'
  · obtain ⟨b, xs, ds, e1, h1, _⟩ := S.mutAt hm
    rw [e1] at e
    cases e
    rw [n] at h1; cases h1
theorem StRep.push (S : StRep p H0 Lt Fz ρ σ H) {a : Addr} {o : HO} (n : H a = none) : StRep p H0 Lt Fz ρ σ (upd H a o) :=
  S.grow ⟨Ext.refl _, S.ext.trans (ext_upd n), ext_upd n, fun _ _ e => .inl e⟩
theorem rpost_of (S : StRep p H0 Lt Fz ρ σ H) {v : Val} (q : Post (rO p) p X W H0 Lt Fz σ Q (.ok v ρ)) : RPost p Fz H Q v := by
  cases v with
  | dat d => exact fun z Fz' H' g r => q z Fz' H' g.fz (S.grow g) r
  | own m => cases m with
    | lst ds =>
      intro a xs n r
      obtain ⟨f1, f2, f3, f4⟩ := S.fresh a n
      exact q (.ref a) Fz (upd H a (.lst xs)) (Ext.refl _) (S.push n) ⟨a, xs, rfl, f1, f2, f3, upd_same, r, f4⟩
end

/-! ### binary operators -/
def rBin (p : Pa) (o : BOp) : R2 := fun x y H Q => ∃ Fz dx dy v, Ext Fz H ∧ Rep p.g Fz x dx ∧ Rep p.g Fz y dy ∧ opBin o dx dy = some v ∧ RPost p Fz H Q v
theorem line_eq : line = sizeLine := by rw [sizeLine_eq]; rfl
theorem rpost_int {p : Pa} {Fz H : Hp} {Q : VK} {i : Int} (e : Ext Fz H) (q : RPost p Fz H Q (.dat (.int i))) : Q (.int i) H := q _ Fz H (Grow.refl e) (.int i)
theorem rpost_str {p : Pa} {Fz H : Hp} {Q : VK} {i : Str} (e : Ext Fz H) (q : RPost p Fz H Q (.dat (.str i))) : Q (.str i) H := q _ Fz H (Grow.refl e) (.str i)
theorem rpost_bl {p : Pa} {Fz H : Hp} {Q : VK} {i : Bool} (e : Ext Fz H) (q : RPost p Fz H Q (.dat (.bl i))) : Q (.bl i) H := q _ Fz H (Grow.refl e) (.bl i)
theorem rpost_tup {p : Pa} {Fz H : Hp} {Q : VK} {ds : List D} {xs : List V} (e : Ext Fz H) (q : RPost p Fz H Q (.dat (.tup ds))) (r : RepL p.g Fz xs ds) (a : Addr) (n : H a = none) : Q (.ref a) (upd H a (.tup xs)) :=
  q _ _ _ (Grow.add e n) (.tup (SqT.of upd_same) (RepL.ext (ext_upd (ext_none e n)) _ _ r))
section
variable {p : Pa} {X : Cx}
theorem o_add (hg : p.g.K = X.K) : OpR X (binaryOp .Add) (rBin p .add) := by
  intro pins s σ H x y v u Q I rx ry ⟨Fz, dx, dy, w, e, hx, hy, ho, q⟩
  change opAdd dx dy = some w at ho
  unfold opAdd at ho
  split at ho
  · cases ho; cases hx; cases hy
    exact op_add pins s σ H _ _ v u Q I rx ry ⟨_, _, rfl, rfl, rpost_int e q⟩
  · split at ho
    · rename_i hl
      cases ho; cases hx; cases hy
      exact op_add_str pins s σ H _ _ v u Q I rx ry ⟨_, _, rfl, rfl, by rw [← line_eq]; exact hl, rpost_str e q⟩
    · cases ho
  · split at ho
    · rename_i hl
      cases ho
      cases hx with
      | tup a1 a2 =>
        cases hy with
        | tup b1 b2 =>
          refine op_catA pins s σ H _ _ v u Q I rx ry ⟨_, _, _, _, rfl, rfl, SqT.to hg e a1, SqT.to hg e b1, by rw [← line_eq, a2.length, b2.length]; exact hl, fun z => ?_, fun _ z => ?_, fun _ _ a n => rpost_tup e q (a2.append b2) a n⟩
          · subst z
            have z2 : _ = [] := List.eq_nil_of_length_eq_zero (by rw [← a2.length]; rfl)
            subst z2
            exact q _ Fz H (Grow.refl e) (by simpa using Rep.tup b1 b2)
          · subst z
            have z2 : _ = [] := List.eq_nil_of_length_eq_zero (by rw [← b2.length]; rfl)
            subst z2
            exact q _ Fz H (Grow.refl e) (by simpa using Rep.tup a1 a2)
    · cases ho
  · split at ho
    · rename_i hl
      cases ho
      cases hx with
      | lst a1 a2 =>
        cases hy with
        | lst b1 b2 => exact op_cat pins s σ H _ _ v u Q I rx ry ⟨_, _, _, _, rfl, rfl, e _ _ a1, e _ _ b1, by rw [← line_eq, a2.length, b2.length]; exact hl, fun a n => q a _ n (a2.append b2)⟩
    · cases ho
  · rename_i b j
    cases ho; cases hx; cases hy
    cases rx
    obtain ⟨t, rfl⟩ := ry
    exact PySem.IntBool.add_bool_int ⟨.int _, H, I.tok _, ⟨_, rfl⟩, rpost_int e q⟩
  · cases ho
theorem o_sub : OpR X (binaryOp .Sub) (rBin p .sub) := by
  intro pins s σ H x y v u Q I rx ry ⟨Fz, dx, dy, w, e, hx, hy, ho, q⟩
  change opSub dx dy = some w at ho
  unfold opSub at ho
  split at ho
  · cases ho; cases hx; cases hy
    exact op_sub pins s σ H _ _ v u Q I rx ry ⟨_, _, rfl, rfl, rpost_int e q⟩
  · rename_i b j
    cases ho; cases hx; cases hy
    cases rx
    obtain ⟨t, rfl⟩ := ry
    exact PySem.IntBool.sub_bool_int ⟨.int _, H, I.tok _, ⟨_, rfl⟩, rpost_int e q⟩
  · cases ho
theorem o_mod : OpR X (binaryOp .Mod) (rBin p .mod) := by
  intro pins s σ H x y v u Q I rx ry ⟨Fz, dx, dy, w, e, hx, hy, ho, q⟩
  change opMod dx dy = some w at ho
  unfold opMod at ho
  split at ho
  · split at ho
    · rename_i hl
      cases ho; cases hx; cases hy
      exact op_mod pins s σ H _ _ v u Q I rx ry ⟨_, _, rfl, rfl, of_decide_eq_true hl, rpost_int e q⟩
    · cases ho
  · cases ho
theorem o_fdiv : OpR X (binaryOp .FloorDiv) (rBin p .fdiv) := by
  intro pins s σ H x y v u Q I rx ry ⟨Fz, dx, dy, w, e, hx, hy, ho, q⟩
  change opFdiv dx dy = some w at ho
  unfold opFdiv at ho
  split at ho
  · split at ho
    · rename_i hl
      rw [Bool.and_eq_true] at hl
      cases ho; cases hx; cases hy
      exact op_fdivW pins s σ H _ _ v u Q I rx ry ⟨_, _, rfl, rfl, ⟨of_decide_eq_true hl.1, of_decide_eq_true hl.2⟩, rpost_int e q⟩
    · cases ho
  · cases ho
theorem o_pow : OpR X (binaryOp .Pow) (rBin p .pow) := by
  intro pins s σ H x y v u Q I rx ry ⟨Fz, dx, dy, w, e, hx, hy, ho, q⟩
  change opPow dx dy = some w at ho
  unfold opPow at ho
  split at ho
  · split at ho
    · rename_i hl
      rw [Bool.and_eq_true, Bool.and_eq_true] at hl
      cases ho; cases hx; cases hy
      exact op_pow pins s σ H _ _ v u Q I rx ry ⟨_, _, rfl, rfl, ⟨of_decide_eq_true hl.1.1, of_decide_eq_true hl.1.2, of_decide_eq_true hl.2⟩, rpost_int e q⟩
    · cases ho
  · cases ho
theorem small64_of {i : Int} (h : small64 i = true) : -(2 ^ 64) < i ∧ i < 2 ^ 64 := by
  unfold small64 at h
  rw [Bool.and_eq_true] at h
  exact ⟨of_decide_eq_true h.1, of_decide_eq_true h.2⟩
theorem o_mul (hg : p.g.K = X.K) : OpR X (binaryOp .Mult) (rBin p .mul) := by
  intro pins s σ H x y v u Q I rx ry ⟨Fz, dx, dy, w, e, hx, hy, ho, q⟩
  change opMul dx dy = some w at ho
  unfold opMul at ho
  split at ho
  · split at ho
    · rename_i hl
      rw [Bool.or_eq_true] at hl
      cases ho; cases hx; cases hy
      exact op_mul pins s σ H _ _ v u Q I rx ry ⟨_, _, rfl, rfl, hl.imp small64_of small64_of, rpost_int e q⟩
    · cases ho
  · split at ho
    · rename_i hl
      rw [Bool.and_eq_true, Bool.and_eq_true] at hl
      obtain ⟨⟨h1, h2⟩, h3⟩ := hl
      have h1 := of_decide_eq_true h1
      have h2 := of_decide_eq_true h2
      have h3 := of_decide_eq_true h3
      cases ho; cases hy
      cases hx with
      | lst a1 a2 => exact op_rep pins s σ H _ _ v u Q I rx ry ⟨_, _, _, rfl, rfl, e _ _ a1, by omega, by omega, by rw [← line_eq, a2.length]; exact h3, fun a n => q a _ n (a2.rep _)⟩
    · cases ho
  · split at ho
    · rename_i hl
      rw [Bool.and_eq_true, Bool.and_eq_true, Bool.and_eq_true] at hl
      obtain ⟨⟨⟨h0, h1⟩, h2⟩, h3⟩ := hl
      have h1 := of_decide_eq_true h1
      have h2 := of_decide_eq_true h2
      have h3 := of_decide_eq_true h3
      cases ho; cases hy
      cases hx with
      | tup a1 a2 =>
        refine op_repT pins s σ H _ _ v u Q I rx ry ⟨_, _, _, rfl, rfl, SqT.to hg e a1, fun z => ?_, h1, h2, by rw [a2.length]; exact h3, fun a n => rpost_tup e q (a2.rep _) a n⟩
        subst z
        have z2 : _ = [] := List.eq_nil_of_length_eq_zero (by rw [← a2.length]; rfl)
        subst z2
        simp at h0
    · cases ho
  · cases ho
theorem o_bin (hg : p.g.K = X.K) {op : Operator} {o : BOp} (h : (match op with | .Add => some BOp.add | .Sub => some .sub | .Mult => some .mul | .FloorDiv => some .fdiv | .Mod => some .mod | .Pow => some .pow | _ => none) = some o) : OpR X (binaryOp op) (rBin p o) := by
  cases op <;> cases h
  · exact o_add hg
  · exact o_sub
  · exact o_mul hg
  · exact o_mod
  · exact o_pow
  · exact o_fdiv
end

/-! ### comparisons -/
/-- operands: read at the end -/
def rCmp (p : Pa) (o : COp) : R2 := fun x y H Q => ∃ G dx dy k, Ext G H ∧ Rep p.g G x dx ∧ Rep p.g G y dy ∧ opCmp o dx dy = some k ∧ Q (.bl k) H
theorem eqOk_of {a b : D} (h : eqOk a b = true) : a.plain = true ∧ b.plain = true ∧ min (toP a).depth (toP b).depth ≤ 64 := by
  unfold eqOk at h
  rw [Bool.and_eq_true, Bool.and_eq_true] at h
  have h3 := of_decide_eq_true h.2
  have h1 := dep_eq a
  have h2 := dep_eq b
  exact ⟨h.1.1, h.1.2, by omega⟩
section
variable {p : Pa} {X : Cx}
theorem c_eqv (hg : p.g.K = X.K) {pins : List (Addr × Obj)} {s : Shared} {σ : St} {H : Hp} (I : Inv X pins σ H s) {x y : V} {v u : Value} {dx dy : D} {k : Bool} {G : Hp} (e : Ext G H) (rx : RelV x v) (ry : RelV y u) (hx : Rep p.g G x dx) (hy : Rep p.g G y dy) (ho : eqD dx dy = some k) :
    ∃ as bs, Reads s.heap v (toP dx) as ∧ Reads s.heap u (toP dy) bs ∧ (toP dx).canLay0 = true ∧ (toP dy).canLay0 = true ∧ min (toP dx).depth (toP dy).depth ≤ 64 ∧ PyData.eqv (toP dx) (toP dy) = k := by
  unfold eqD at ho
  split at ho
  · rename_i hk
    cases ho
    obtain ⟨p1, p2, d⟩ := eqOk_of hk
    have d1 := Rep.dp e dx x p1 hx
    have d2 := Rep.dp e dy y p2 hy
    rw [hg] at d1 d2
    obtain ⟨as, r1⟩ := Dp.reads I _ x v d1 rx
    obtain ⟨bs, r2⟩ := Dp.reads I _ y u d2 ry
    exact ⟨as, bs, r1, r2, plain_lay _ p1, plain_lay _ p2, d, eqv_toP _ _ p1 p2⟩
  · cases ho
theorem c_eq (hg : p.g.K = X.K) (hu : X.A.units + 64 < cLine) : OpR X (compareOp .Eq) (rCmp p .eq) := by
  intro pins s σ H x y v u Q I rx ry ⟨G, dx, dy, k, e, hx, hy, ho, q⟩
  obtain ⟨as, bs, r1, r2, l1, l2, d, ek⟩ := c_eqv hg I e rx ry hx hy ho
  exact SeqAt.compareEq_reads r1 r2 l1 l2 (by omega) ⟨.bl _, H, I, rfl, by rw [ek]; exact q⟩
theorem c_ne (hg : p.g.K = X.K) (hu : X.A.units + 64 < cLine) : OpR X (compareOp .NotEq) (rCmp p .ne) := by
  intro pins s σ H x y v u Q I rx ry ⟨G, dx, dy, k, e, hx, hy, ho, q⟩
  obtain ⟨k', h1, h2⟩ := Option.map_eq_some_iff.mp (show (eqD dx dy).map (!·) = some k from ho)
  obtain ⟨as, bs, r1, r2, l1, l2, d, ek⟩ := c_eqv hg I e rx ry hx hy h1
  exact SeqAt.compareNe_reads r1 r2 l1 l2 (by omega) ⟨.bl _, H, I, rfl, by rw [ek, h2]; exact q⟩
theorem c_ord {op : CmpOp} {o : COp} {f : Int → Int → Bool} (hf : ∀ a b, opCmp o a b = ordD f a b) (h : OpR X (compareOp op) (rI0 fun i j => .bl (f i j))) : OpR X (compareOp op) (rCmp p o) := by
  intro pins s σ H x y v u Q I rx ry ⟨G, dx, dy, k, e, hx, hy, ho, q⟩
  rw [hf] at ho
  unfold ordD at ho
  split at ho
  · cases ho; cases hx; cases hy
    exact h pins s σ H _ _ v u Q I rx ry ⟨_, _, rfl, rfl, q⟩
  · cases ho
theorem rep_non {g : Glb} {G : Hp} {x : V} {d : D} (h : Rep g G x d) : decide (x = .non) = d.isNon := by
  cases h <;> rfl
theorem c_is : OpR X (compareOp .Is) (rCmp p .is) := by
  intro pins s σ H x y v u Q I rx ry ⟨G, dx, dy, k, e, hx, hy, ho, q⟩
  change isD dx dy = some k at ho
  unfold isD at ho
  split at ho
  · cases ho; cases hy
    refine op_isN pins s σ H _ _ v u Q I rx ry ⟨rfl, ?_⟩
    rw [rep_non hx]; exact q
  · cases ho; cases hx; cases hy
    exact op_isBl pins s σ H _ _ v u Q I rx ry ⟨_, _, rfl, rfl, q⟩
  · cases ho
theorem c_isnot : OpR X (compareOp .IsNot) (rCmp p .isNot) := by
  intro pins s σ H x y v u Q I rx ry ⟨G, dx, dy, k, e, hx, hy, ho, q⟩
  obtain ⟨k', h1, h2⟩ := Option.map_eq_some_iff.mp (show (isD dx dy).map (!·) = some k from ho)
  subst h2
  unfold isD at h1
  split at h1
  · cases h1; cases hy
    refine op_notN pins s σ H _ _ v u Q I rx ry ⟨rfl, ?_⟩
    rw [rep_non hx]; exact q
  · cases h1; cases hx; cases hy
    exact op_notBl pins s σ H _ _ v u Q I rx ry ⟨_, _, rfl, rfl, q⟩
  · cases h1
theorem inOk_of {a : D} {ys : List D} (h : inOk a ys = true) : a.plain = true ∧ D.plainL ys = true ∧ (toP a).depth ≤ 61 := by
  unfold inOk at h
  rw [Bool.and_eq_true, Bool.and_eq_true] at h
  have h3 := of_decide_eq_true h.2
  have h1 := dep_eq a
  exact ⟨h.1.1, h.1.2, by omega⟩
theorem room_in {A : Around} {xs : List PyData} {d : PyData} (h : d.depth ≤ 61) (hu : A.units + 64 < cLine) : A.units + 1 + min (PyData.depthAll xs) d.depth < cLine := by
  have : min (PyData.depthAll xs) d.depth ≤ d.depth := Nat.min_le_right _ _
  omega
theorem c_in (hg : p.g.K = X.K) (hu : X.A.units + 64 < cLine) : OpR X (compareOp .In) (rCmp p .isin) := by
  intro pins s σ H x y v u Q I rx ry ⟨G, dx, dy, k, e, hx, hy, ho, q⟩
  change inD dx dy = some k at ho
  unfold inD at ho
  split at ho
  · cases ho; cases hx; cases hy
    exact op_in_str pins s σ H _ _ v u Q I rx ry ⟨_, _, rfl, rfl, q⟩
  · split at ho
    · rename_i hk
      cases ho
      obtain ⟨p1, p2, d⟩ := inOk_of hk
      have d1 := Rep.dp e _ x p1 hx
      have d2 := Rep.dp e _ y (by simpa [D.plain] using p2) hy
      rw [hg] at d1 d2
      obtain ⟨as, r1⟩ := Dp.reads I _ x v d1 rx
      obtain ⟨bs, r2⟩ := Dp.reads I _ y u d2 ry
      simp only [toP] at r2
      exact SeqAt.in_tuple_reads r2 r1 (by have := plain_layL _ p2; simpa [PyData.canLay0] using this) (plain_lay _ p1) (room_in d hu) ⟨.bl _, H, I, rfl, by rw [any_toPL _ p1 _ p2]; exact q⟩
    · cases ho
  · split at ho
    · rename_i hk
      cases ho
      obtain ⟨p1, p2, d⟩ := inOk_of hk
      have d1 := Rep.dp e _ x p1 hx
      have d2 := Rep.dp e _ y (by simpa [D.plain] using p2) hy
      rw [hg] at d1 d2
      obtain ⟨as, r1⟩ := Dp.reads I _ x v d1 rx
      obtain ⟨bs, r2⟩ := Dp.reads I _ y u d2 ry
      simp only [toP] at r2
      exact SeqAt.in_list_reads r2 r1 (by have := plain_layL _ p2; simpa [PyData.canLay0] using this) (plain_lay _ p1) (room_in d hu) ⟨.bl _, H, I, rfl, by rw [any_toPL _ p1 _ p2]; exact q⟩
    · cases ho
  · cases ho
theorem c_notin (hg : p.g.K = X.K) (hu : X.A.units + 64 < cLine) : OpR X (compareOp .NotIn) (rCmp p .notin) := by
  intro pins s σ H x y v u Q I rx ry ⟨G, dx, dy, k, e, hx, hy, ho, q⟩
  obtain ⟨k', h1, h2⟩ := Option.map_eq_some_iff.mp (show (inD dx dy).map (!·) = some k from ho)
  subst h2
  unfold inD at h1
  split at h1
  · cases h1; cases hx; cases hy
    exact L2.op_notIn_str pins s σ H _ _ v u Q I rx ry ⟨_, _, rfl, rfl, q⟩
  · split at h1
    · rename_i hk
      cases h1
      obtain ⟨p1, p2, d⟩ := inOk_of hk
      have d1 := Rep.dp e _ x p1 hx
      have d2 := Rep.dp e _ y (by simpa [D.plain] using p2) hy
      rw [hg] at d1 d2
      obtain ⟨as, r1⟩ := Dp.reads I _ x v d1 rx
      obtain ⟨bs, r2⟩ := Dp.reads I _ y u d2 ry
      simp only [toP] at r2
      exact SeqAt.notIn_tuple_reads r2 r1 (by have := plain_layL _ p2; simpa [PyData.canLay0] using this) (plain_lay _ p1) (room_in d hu) ⟨.bl _, H, I, rfl, by rw [any_toPL _ p1 _ p2]; exact q⟩
    · cases h1
  · split at h1
    · rename_i hk
      cases h1
      obtain ⟨p1, p2, d⟩ := inOk_of hk
      have d1 := Rep.dp e _ x p1 hx
      have d2 := Rep.dp e _ y (by simpa [D.plain] using p2) hy
      rw [hg] at d1 d2
      obtain ⟨as, r1⟩ := Dp.reads I _ x v d1 rx
      obtain ⟨bs, r2⟩ := Dp.reads I _ y u d2 ry
      simp only [toP] at r2
      exact SeqAt.notIn_list_reads r2 r1 (by have := plain_layL _ p2; simpa [PyData.canLay0] using this) (plain_lay _ p1) (room_in d hu) ⟨.bl _, H, I, rfl, by rw [any_toPL _ p1 _ p2]; exact q⟩
    · cases h1
  · cases h1
def trC : CmpOp → COp
  | .Eq => .eq | .NotEq => .ne | .Lt => .lt | .LtE => .le | .Gt => .gt | .GtE => .ge | .Is => .is | .IsNot => .isNot | .In => .isin | .NotIn => .notin
theorem c_all (hg : p.g.K = X.K) (hu : X.A.units + 64 < cLine) (op : CmpOp) : OpR X (compareOp op) (rCmp p (trC op)) := by
  cases op
  · exact c_eq hg hu
  · exact c_ne hg hu
  · exact c_ord (fun _ _ => rfl) op_lt
  · exact c_ord (fun _ _ => rfl) op_le
  · exact c_ord (fun _ _ => rfl) op_gt
  · exact c_ord (fun _ _ => rfl) op_ge
  · exact c_is
  · exact c_isnot
  · exact c_in hg hu
  · exact c_notin hg hu
end
end AP
end
section
/-! AP3: rules for expressions -/
namespace AP
open PySem PySem.Spec PyProof.Rows L2

theorem frz_bind {α : Type} (x : ERes α) (k : α → Env → ERes Val) : frz (x.bind k) = x.bind fun a ρ => frz (k a ρ) := by cases x <;> rfl
theorem tst_bind {α : Type} (x : ERes α) (k : α → Env → ERes Val) : tst (x.bind k) = x.bind fun a ρ => tst (k a ρ) := by cases x <;> rfl
theorem tst_ofO {α : Type} (o : Option α) (ρ : Env) (k : α → Bool) : tst (ofO (o.map fun a => .dat (.bl (k a))) ρ) = ofO (o.map k) ρ := by cases o <;> rfl

section
variable {p : Pa} {X : Cx} {W : WX} {a b c e : Expr} {fa fb fc : Env → ERes Val} {pos : Pos}

/-! ### constants, names -/
theorem s_int {i : Int} {j : Nat} : PE X (.Constant (.int i) j pos) (tO p X W fun ρ => .ok (.dat (.int i)) ρ) :=
  PE.imp pe_int fun σ H Q ⟨H0, Lt, Fz, ρ, S, q⟩ => q _ Fz H (Ext.refl _) S (.int i)
theorem s_bl {i : Bool} {j : Nat} : PE X (.Constant (.bool i) j pos) (tO p X W fun ρ => .ok (.dat (.bl i)) ρ) :=
  PE.imp pe_bl fun σ H Q ⟨H0, Lt, Fz, ρ, S, q⟩ => q _ Fz H (Ext.refl _) S (.bl i)
theorem s_non {j : Nat} : PE X (.Constant .none j pos) (tO p X W fun ρ => .ok (.dat .non) ρ) :=
  PE.imp pe_non fun σ H Q ⟨H0, Lt, Fz, ρ, S, q⟩ => q _ Fz H (Ext.refl _) S .non
theorem s_str {i : Str} {j : Nat} : PE X (.Constant (.str i) j pos) (tO p X W fun ρ => .ok (.dat (.str i)) ρ) :=
  PE.imp pe_str fun σ H Q ⟨H0, Lt, Fz, ρ, S, q⟩ => q _ Fz H (Ext.refl _) S (.str i)
/-- a def or a class as a value -/
theorem s_fn {x : Str} {n : Nat} {f : Addr} (hm0 : p.g.mg = X.mg) (hg : Gl X x) (hm : X.mg x = some (.ref f)) (hG : p.g.G[n]? = some x) (hd : (x == ("__debug__" : Str)) = false) : PE X (.Name x pos) (tO p X W fun ρ => .ok (.dat (.fn n)) ρ) :=
  PE.imp (pe_glob (v := .ref f) hg hm rfl hd) fun σ H Q ⟨H0, Lt, Fz, ρ, S, q⟩ => q _ Fz H (Ext.refl _) S (.fn hG (by rw [hm0]; exact hm))
/-- a module's int -/
theorem s_gint {x : Str} {i : Int} {t : Tok} (hg : Gl X x) (hm : X.mg x = some (.int i t)) (hd : (x == ("__debug__" : Str)) = false) : PE X (.Name x pos) (tO p X W fun ρ => .ok (.dat (.int i)) ρ) :=
  PE.imp (pe_glob (v := .int i) hg hm ⟨_, rfl⟩ hd) fun σ H Q ⟨H0, Lt, Fz, ρ, S, q⟩ => q _ Fz H (Ext.refl _) S (.int i)

theorem RepL.ofInts {g : Glb} {Fz : Hp} : ∀ is : List Int, RepL g Fz (is.map V.int) (is.map D.int)
  | [] => .nil
  | i :: r => .cons (.int i) (RepL.ofInts r)
/-- a module's tuple of ints -/
theorem s_gtup {x : Str} {is : List Int} {a : Addr} (hK : p.g.K = X.K) (hg : Gl X x) (hm : X.mg x = some (.ref a)) (ht : ∀ Fz, SqT X.K Fz a (is.map V.int)) (hd : (x == ("__debug__" : Str)) = false) : PE X (.Name x pos) (tO p X W fun ρ => .ok (.dat (.tup (is.map D.int))) ρ) :=
  PE.imp (pe_glob (v := .ref a) hg hm rfl hd) fun σ H Q ⟨H0, Lt, Fz, ρ, S, q⟩ => q _ Fz H (Ext.refl _) S (.tup (SqT.to hK.symm (Ext.refl _) (ht Fz)) (RepL.ofInts is))

theorem set_get_ne {α : Type} {l : List α} {i j : Nat} {a : α} (h : j ≠ i) : (l.set i a)[j]? = l[j]? := List.getElem?_set_ne (Ne.symm h)
theorem StRep.frzSlot {H0 : Hp} {Lt : List Addr} {Fz H : Hp} {ρ : Env} {σ : St} (S : StRep p H0 Lt Fz ρ σ H) {i : Nat} {ds : List D} (e : ρ[i]? = some (.own (.lst ds))) :
    ∃ a xs, σ[i]? = some (some (V.ref a)) ∧ Fz a = none ∧ H a = some (.lst xs) ∧ StRep p H0 Lt (upd Fz a (.lst xs)) (ρ.set i (.dat (.lst ds))) σ H ∧ Rep p.g (upd Fz a (.lst xs)) (.ref a) (.lst ds) := by
  obtain ⟨a, xs, e1, f, h0, l, hh, r⟩ := S.slot i _ e
  have x1 : Ext Fz (upd Fz a (.lst xs)) := ext_upd f
  have hr : Rep p.g (upd Fz a (.lst xs)) (.ref a) (.lst ds) := .lst upd_same (RepL.ext x1 _ _ r)
  have hi : i < ρ.length := (List.getElem?_eq_some_iff.mp e).1
  have mu : ∀ j : Nat, isMut (ρ.set i (.dat (.lst ds)))[j]? = true → j ≠ i ∧ isMut ρ[j]? = true := fun j h => by
    by_cases hj : j = i
    · subst hj
      rw [List.getElem?_set_self hi] at h
      cases h
    · rw [set_get_ne hj] at h
      exact ⟨hj, h⟩
  refine ⟨a, xs, e1, f, hh, ⟨fun b o q => ?_, S.base, fun j s q => ?_, fun j k b hjk mj mk => S.apart j k b hjk (mu j mj).2 (mu k mk).2, by rw [List.length_set]; exact S.len, S.lt, S.tab, S.tbs, fun b o q => ?_, fun b o q => ?_, S.f0.trans x1⟩, hr⟩
  case refine_3 =>
    by_cases hb : b = a
    · subst hb; rw [upd_same] at q; cases q; intro _ z; cases z
    · rw [upd_ne hb] at q; exact S.ntb b o q
  case refine_4 =>
    by_cases hb : b = a
    · subst hb; exact .inr (.inl h0)
    · rw [upd_ne hb] at q; exact S.old b o q
  · by_cases hb : b = a
    · subst hb; rw [upd_same] at q; cases q; exact hh
    · rw [upd_ne hb] at q; exact S.ext b o q
  · by_cases hj : j = i
    · subst hj
      rw [List.getElem?_set_self hi] at q
      cases q
      exact ⟨_, e1, hr⟩
    · rw [set_get_ne hj] at q
      have z := S.slot j s q
      cases s with
      | no => trivial
      | dat d => obtain ⟨v, e2, r2⟩ := z; exact ⟨v, e2, Rep.ext x1 _ _ r2⟩
      | own m => cases m with
        | lst es =>
          obtain ⟨b, ys, e2, f2, h2, l2, hh2, r2⟩ := z
          have nb : b ≠ a := fun z => S.apart j i a hj (by rw [q]; rfl) (by rw [e]; rfl) (by rw [← z]; exact e2) e1
          exact ⟨b, ys, e2, by rw [upd_ne nb]; exact f2, h2, l2, hh2, RepL.ext x1 _ _ r2⟩
      | lent m => cases m with
        | lst es =>
          obtain ⟨b, ys, e2, f2, l2, hh2, r2⟩ := z
          have nb : b ≠ a := fun z => S.apart j i a hj (by rw [q]; rfl) (by rw [e]; rfl) (by rw [← z]; exact e2) e1
          exact ⟨b, ys, e2, by rw [upd_ne nb]; exact f2, l2, hh2, RepL.ext x1 _ _ r2⟩
      | clo c => obtain ⟨v, e2, r2⟩ := z; exact ⟨v, e2, p.mono _ _ _ _ x1 r2⟩
/-- a name of the def, readable -/
structure Nm (X : Cx) (i : Nat) (x : Str) : Prop where
  at_ : X.N[i]? = some x
  vis : Vis X.env.scope x
  d1 : (x == ("__debug__" : Str)) = false
  d2 : (x == ("__classdict__" : Str)) = false
theorem s_var {i : Nat} {x : Str} (n : Nm X i x) : PE X (.Name x pos) (tO p X W fun ρ => readVar i ρ) := by
  refine PE.imp (pe_var n.at_ n.vis n.d1 n.d2) fun σ H Q ⟨H0, Lt, Fz, ρ, S, q⟩ => ?_
  change Post (rO p) p X W H0 Lt Fz σ Q (readVar i ρ) at q
  unfold readVar at q
  split at q
  · rename_i d e
    obtain ⟨v, e1, r⟩ := S.slot i _ e
    exact ⟨v, e1, q v Fz H (Ext.refl _) S r⟩
  · rename_i ds e
    obtain ⟨a, xs, e1, f, hh, S', r⟩ := S.frzSlot e
    exact ⟨_, e1, q _ _ H (ext_upd f) S' r⟩
  · exact q.elim
/-- an operand -/
theorem s_opd {ie : IE} {f : Env → ERes Val} (h : PE X e (tO p X W f)) (hv : ∀ i, ie = .var i → ∃ x pos, e = .Name x pos ∧ Nm X i x) : PE X e (tP p X W fun ρ => opd ie ρ (f ρ)) := by
  have val : ∀ {σ H Q} {H0 Lt Fz ρ}, StRep p H0 Lt Fz ρ σ H → Post (rP p) p X W H0 Lt Fz σ Q ((frz (f ρ)).bind fun d ρ => .ok (Opd.val d) ρ) → tO p X W f σ H Q := fun {σ H Q H0 Lt Fz ρ} S q => by
    refine ⟨H0, Lt, Fz, ρ, S, ?_⟩
    generalize f ρ = r at q ⊢
    cases r with
    | ok v ρ' =>
      intro x Fz' H' x1 S' r
      obtain ⟨F2, x2, S2, r2⟩ := ValRep.frz S' r
      exact q x F2 H' (x1.trans x2) S2 r2
    | exc c ρ' => exact q
    | stuck => exact q
  by_cases hi : ∃ i, ie = .var i
  · obtain ⟨i, rfl⟩ := hi
    obtain ⟨x, pos, rfl, n⟩ := hv i rfl
    refine ⟨fun pins s σ H Q I ⟨H0, Lt, Fz, ρ, S, q⟩ => ?_⟩
    change Post (rP p) p X W H0 Lt Fz σ Q (opd (.var i) ρ (f ρ)) at q
    unfold opd at q
    dsimp only at q
    by_cases hm : isMut ρ[i]? = true
    · rw [if_pos hm] at q
      obtain ⟨a, xs, ds, e1, hh, f1, r1, k1⟩ := S.mutAt hm
      exact (pe_var (X := X) (pos := pos) n.at_ n.vis n.d1 n.d2).run pins s σ H Q I ⟨_, e1, q _ Fz H (Ext.refl _) S ⟨hm, e1⟩⟩
    · rw [if_neg hm] at q
      exact h.run pins s σ H Q I (val S q)
  · refine PE.imp h fun σ H Q ⟨H0, Lt, Fz, ρ, S, q⟩ => val S ?_
    have e1 : opd ie ρ (f ρ) = (frz (f ρ)).bind fun d ρ => .ok (Opd.val d) ρ := by
      cases ie with
      | var i => exact absurd ⟨i, rfl⟩ hi
      | _ => rfl
    rw [← e1]; exact q
/-- an operand, read: at the top level by the heap, its items frozen -/
def RepH (g : Glb) (Fz H : Hp) (x : V) (d : D) : Prop := Rep g Fz x d ∨ ∃ a xs ds, x = .ref a ∧ d = .lst ds ∧ H a = some (.lst xs) ∧ RepL g Fz xs ds
theorem RepH.rep {g : Glb} {Fz H : Hp} {x : V} {d : D} (e : Ext Fz H) (h : RepH g Fz H x d) : Rep g H x d := by
  rcases h with h | ⟨a, xs, ds, rfl, rfl, h1, h2⟩
  · exact Rep.ext e _ _ h
  · exact .lst h1 (RepL.ext e _ _ h2)
theorem opd_rep {H0 : Hp} {Lt : List Addr} {F1 F2 H1 H2 : Hp} {ρ1 ρ2 : Env} {σ : St} {x : V} {o : Opd} {d : D} (S : StRep p H0 Lt F2 ρ2 σ H2) (r : rP p H0 Lt F1 ρ1 σ H1 x o) (e : Ext F1 F2) (g : o.get ρ2 = some d) : RepH p.g F2 H2 x d := by
  cases o with
  | val d' => cases g; exact .inl (Rep.ext e _ _ r)
  | slot i =>
    obtain ⟨_, e1⟩ := r
    unfold Opd.get at g
    dsimp only at g
    split at g
    · rename_i ds q
      cases g
      obtain ⟨a, xs, e2, f, h0, l, hh, rr⟩ := S.slot i _ q
      rw [e1] at e2; cases e2
      exact .inr ⟨a, xs, ds, rfl, rfl, hh, rr⟩
    · rename_i ds q
      cases g
      obtain ⟨a, xs, e2, f, l, hh, rr⟩ := S.slot i _ q
      rw [e1] at e2; cases e2
      exact .inr ⟨a, xs, ds, rfl, rfl, hh, rr⟩
    · cases g

/-! ### operators -/
def trOp : Operator → Option BOp
  | .Add => some .add | .Sub => some .sub | .Mult => some .mul | .FloorDiv => some .fdiv | .Mod => some .mod | .Pow => some .pow | _ => none
theorem o_bin' (hg : p.g.K = X.K) {op : Operator} {o : BOp} (h : trOp op = some o) : OpR X (binaryOp op) (rBin p o) := by
  cases op <;> cases h
  · exact o_add hg
  · exact o_sub
  · exact o_mul hg
  · exact o_mod
  · exact o_pow
  · exact o_fdiv
theorem s_bin (hg : p.g.K = X.K) {op : Operator} {o : BOp} (ho : trOp op = some o) (ha : PE X a (tO p X W fa)) (hb : PE X b (tO p X W fb)) :
    PE X (.BinOp a op b pos) (tO p X W fun ρ => (frz (fa ρ)).bind fun x ρ => (frz (fb ρ)).bind fun y ρ => ofO (opBin o x y) ρ) := by
  refine PE.imp (pe_op (o_bin' (p := p) hg ho) (s_frz ha) (s_frz hb)) fun σ H Q h => tR.bind h fun H0 Lt Fz v ρ' x H' S r q => ⟨H0, Lt, Fz, ρ', S, Post.bind q fun w ρ2 y F2 H2 e2 S2 r2 q2 => ?_⟩
  obtain ⟨z, hz, q3⟩ := ofO_post q2
  exact ⟨F2, v, w, z, S2.ext, Rep.ext e2 _ _ r, r2, hz, rpost_of S2 q3⟩
theorem s_neg (ha : PE X a (tO p X W fa)) : PE X (.UnaryOp .USub a pos) (tO p X W fun ρ => (frz (fa ρ)).bind fun x ρ => match x with | .int i => .ok (.dat (.int (-i))) ρ | _ => .stuck) := by
  refine PE.imp (pe_un un_neg (s_frz ha)) fun σ H Q h => tR.bind h fun H0 Lt Fz v ρ' x H' S r q => ?_
  cases r with
  | int i => exact ⟨i, rfl, q _ Fz H' (Ext.refl _) S (.int _)⟩
  | _ => exact q.elim
theorem s_cmp {ia ib : IE} {ga gb : Env → ERes Opd} {op : CmpOp} (hg : p.g.K = X.K) (hu : X.A.units + 64 < cLine) (hm : behindInMarks op b = false) (ha : PE X a (tP p X W ga)) (hb : PE X b (tP p X W gb)) :
    PE X (.Compare a [op] [b] pos) (tO p X W fun ρ => (ga ρ).bind fun x ρ => (gb ρ).bind fun y ρ => ofO ((x.get ρ).bind fun x => (y.get ρ).bind fun y => (opCmp (trC op) x y).map fun k => .dat (.bl k)) ρ) := by
  refine PE.imp (pe_cmpR (c_all (p := p) hg hu op) ha hb hm) fun σ H Q h => tR.bind h fun H0 Lt Fz v ρ' x H' S r q => ⟨H0, Lt, Fz, ρ', S, Post.bind q fun w ρ2 y F2 H2 e2 S2 r2 q2 => ?_⟩
  obtain ⟨z, hz, q3⟩ := ofO_post q2
  obtain ⟨d1, g1, hz⟩ := Option.bind_eq_some_iff.mp hz
  obtain ⟨d2, g2, hz⟩ := Option.bind_eq_some_iff.mp hz
  obtain ⟨k, hk, rfl⟩ := Option.map_eq_some_iff.mp hz
  exact ⟨H2, d1, d2, k, Ext.refl _, (opd_rep S2 r e2 g1).rep S2.ext, (opd_rep S2 r2 (Ext.refl _) g2).rep S2.ext, hk, q3 _ F2 H2 (Ext.refl _) S2 (.bl k)⟩
theorem s_cmpT {ia ib : IE} {ga gb : Env → ERes Opd} {op : CmpOp} (hg : p.g.K = X.K) (hu : X.A.units + 64 < cLine) (hm : behindInMarks op b = false) (ha : PE X a (tP p X W ga)) (hb : PE X b (tP p X W gb)) :
    PT X (.Compare a [op] [b] pos) (tT p X W fun ρ => tst ((ga ρ).bind fun x ρ => (gb ρ).bind fun y ρ => ofO ((x.get ρ).bind fun x => (y.get ρ).bind fun y => (opCmp (trC op) x y).map fun k => .dat (.bl k)) ρ)) := by
  refine PT.imp (pt_cmpR (c_all (p := p) hg hu op) ha hb hm) fun σ H Q h => ?_
  simp only [tst_bind] at h
  refine tR.bind h fun H0 Lt Fz v ρ' x H' S r q => ⟨H0, Lt, Fz, ρ', S, Post.bind q fun w ρ2 y F2 H2 e2 S2 r2 q2 => ?_⟩
  cases hz : ((v.get ρ2).bind fun x => (w.get ρ2).bind fun y => (opCmp (trC op) x y).map fun k => Val.dat (.bl k)) with
  | none => rw [hz] at q2; exact q2.elim
  | some z =>
    rw [hz] at q2
    obtain ⟨d1, g1, hz⟩ := Option.bind_eq_some_iff.mp hz
    obtain ⟨d2, g2, hz⟩ := Option.bind_eq_some_iff.mp hz
    obtain ⟨k, hk, rfl⟩ := Option.map_eq_some_iff.mp hz
    exact ⟨H2, d1, d2, k, Ext.refl _, (opd_rep S2 r e2 g1).rep S2.ext, (opd_rep S2 r2 (Ext.refl _) g2).rep S2.ext, hk, k, rfl, q2 k F2 H2 (Ext.refl _) S2 rfl⟩
/-- a op1 b op2 c -/
def chainR (o1 o2 : COp) (ga gb gc : Env → ERes D) : Env → ERes Val := fun ρ => (ga ρ).bind fun x ρ => (gb ρ).bind fun y ρ => match opCmp o1 x y with
      | some k => if k = true then (gc ρ).bind fun z ρ => ofO ((opCmp o2 y z).map fun k => .dat (.bl k)) ρ else .ok (.dat (.bl false)) ρ
      | none => .stuck
theorem s_chain {op op' : CmpOp} (hg : p.g.K = X.K) (hu : X.A.units + 64 < cLine) (hm : lastMarks [op, op'] [b, c] = false) (ha : PE X a (tO p X W fa)) (hb : PE X b (tO p X W fb)) (hc : PE X c (tO p X W fc)) :
    PE X (.Compare a [op, op'] [b, c] pos) (tO p X W (chainR (trC op) (trC op') (fun ρ => frz (fa ρ)) (fun ρ => frz (fb ρ)) fun ρ => frz (fc ρ))) := by
  refine PE.imp (pe_chain (c_all (p := p) hg hu op) (c_all (p := p) hg hu op') (s_frz ha) (s_frz hb) (s_frz hc) hm) fun σ H Q h => tR.bind h fun H0 Lt Fz v ρ' x H' S r q => ⟨H0, Lt, Fz, ρ', S, Post.bind q fun w ρ2 y F2 H2 e2 S2 r2 q2 => ?_⟩
  cases hk : opCmp (trC op) v w with
  | none => rw [hk] at q2; exact q2.elim
  | some k =>
    rw [hk] at q2
    refine ⟨F2, v, w, k, S2.ext, Rep.ext e2 _ _ r, r2, hk, k, rfl, ?_⟩
    cases k with
    | false => exact q2 _ F2 H2 (Ext.refl _) S2 (.bl _)
    | true =>
      refine ⟨H0, Lt, F2, ρ2, S2, Post.bind q2 fun u ρ3 z F3 H3 e3 S3 r3 q3 => ?_⟩
      obtain ⟨t, ht, q4⟩ := ofO_post q3
      obtain ⟨k', hk', rfl⟩ := Option.map_eq_some_iff.mp ht
      exact ⟨F3, w, u, k', S3.ext, Rep.ext e3 _ _ r2, r3, hk', q4 _ F3 H3 (Ext.refl _) S3 (.bl _)⟩
theorem s_chainT {op op' : CmpOp} (hg : p.g.K = X.K) (hu : X.A.units + 64 < cLine) (hm : lastMarks [op, op'] [b, c] = false) (ha : PE X a (tO p X W fa)) (hb : PE X b (tO p X W fb)) (hc : PE X c (tO p X W fc)) :
    PT X (.Compare a [op, op'] [b, c] pos) (tT p X W fun ρ => tst (chainR (trC op) (trC op') (fun ρ => frz (fa ρ)) (fun ρ => frz (fb ρ)) (fun ρ => frz (fc ρ)) ρ)) := by
  refine PT.imp (pt_chain (c_all (p := p) hg hu op) (c_all (p := p) hg hu op') (s_frz ha) (s_frz hb) (s_frz hc) hm) fun σ H Q h => ?_
  unfold chainR at h
  simp only [tst_bind] at h
  refine tR.bind h fun H0 Lt Fz v ρ' x H' S r q => ⟨H0, Lt, Fz, ρ', S, Post.bind q fun w ρ2 y F2 H2 e2 S2 r2 q2 => ?_⟩
  cases hk : opCmp (trC op) v w with
  | none => rw [hk] at q2; exact q2.elim
  | some k =>
    rw [hk] at q2
    refine ⟨F2, v, w, k, S2.ext, Rep.ext e2 _ _ r, r2, hk, k, rfl, ?_⟩
    cases k with
    | false => exact ⟨false, rfl, q2 _ F2 H2 (Ext.refl _) S2 rfl⟩
    | true =>
      dsimp only at q2
      rw [if_pos rfl, tst_bind] at q2
      refine ⟨H0, Lt, F2, ρ2, S2, Post.bind q2 fun u ρ3 z F3 H3 e3 S3 r3 q3 => ?_⟩
      cases hk' : opCmp (trC op') w u with
      | none => rw [hk'] at q3; exact q3.elim
      | some k' =>
        rw [hk'] at q3
        exact ⟨F3, w, u, k', S3.ext, Rep.ext e3 _ _ r2, r3, hk', k', rfl, q3 _ F3 H3 (Ext.refl _) S3 rfl⟩

/-! ### truth -/
/-- a value as a test -/
theorem s_tst (h : PE X e (tO p X W fa)) (he : ∀ whole, isTrue e X.env whole = (do let v ← whole; standAt e.pos; holding [v] (truthy v))) : PT X e (tT p X W fun ρ => tst (fa ρ)) := by
  refine PT.imp (pt_val h he) fun σ H Q ⟨H0, Lt, Fz, ρ, S, q⟩ => ⟨H0, Lt, Fz, ρ, S, ?_⟩
  change Post rT p X W H0 Lt Fz σ Q (tst (fa ρ)) at q
  show Post (rO p) p X W H0 Lt Fz σ _ (fa ρ)
  generalize fa ρ = r at q ⊢
  cases r with
  | ok v ρ' =>
    cases v with
    | own m => cases m; exact q.elim
    | dat d =>
      cases d with
      | bl k => exact fun x Fz' H' x1 S' r => by cases r; exact ⟨k, rfl, q k Fz' H' x1 S' rfl⟩
      | _ => exact q.elim
  | exc c ρ' => exact q
  | stuck => exact q
/-- a test as what the value's rules ask -/
theorem tst_val {H0 : Hp} {Lt : List Addr} {Fz : Hp} {σ : St} {Q : Bool → Hp → Prop} {r : ERes Val} (q : Post rT p X W H0 Lt Fz σ Q (tst r)) : Post (rO p) p X W H0 Lt Fz σ (fun x H1 => ∃ c, x = .bl c ∧ Q c H1) r := by
  cases r with
  | ok v ρ' =>
    cases v with
    | own m => cases m; exact q.elim
    | dat d =>
      cases d with
      | bl k => exact fun x Fz' H' x1 S' r => by cases r; exact ⟨k, rfl, q k Fz' H' x1 S' rfl⟩
      | _ => exact q.elim
  | exc c ρ' => exact q
  | stuck => exact q
theorem s_not (ha : PE X a (tO p X W fa)) : PE X (.UnaryOp .Not a pos) (tO p X W fun ρ => (tst (fa ρ)).bind fun b ρ => .ok (.dat (.bl (!b))) ρ) := by
  refine PE.imp (pe_not ha) fun σ H Q ⟨H0, Lt, Fz, ρ, S, q⟩ => ⟨H0, Lt, Fz, ρ, S, tst_val (Post.bind (R2 := rT) q fun b ρ' x F' H' e1 S' r q' => ?_)⟩
  subst r
  exact q' _ F' H' (Ext.refl _) S' (.bl _)
theorem s_notT (ha : PT X a (tT p X W fun ρ => tst (fa ρ))) : PT X (.UnaryOp .Not a pos) (tT p X W fun ρ => tst ((tst (fa ρ)).bind fun b ρ => .ok (.dat (.bl (!b))) ρ)) := by
  refine PT.imp (pt_not ha) fun σ H Q ⟨H0, Lt, Fz, ρ, S, q⟩ => ⟨H0, Lt, Fz, ρ, S, ?_⟩
  simp only [tst_bind] at q
  refine Post.bind (R2 := rT) q fun b ρ' x F' H' e1 S' r q' => ?_
  subst r
  exact q' _ F' H' (Ext.refl _) S' rfl
def andR (fa fb : Env → ERes Val) : Env → ERes Val := fun ρ => (tst (fa ρ)).bind fun c ρ => if c = true then fb ρ else .ok (.dat (.bl false)) ρ
def orR (fa fb : Env → ERes Val) : Env → ERes Val := fun ρ => (tst (fa ρ)).bind fun c ρ => if c = true then .ok (.dat (.bl true)) ρ else fb ρ
theorem s_and {rest : List Expr} (ha : PE X a (tO p X W fa)) (hb : PE X (.BoolOp .And (b :: rest) pos) (tO p X W fb)) : PE X (.BoolOp .And (a :: b :: rest) pos) (tO p X W (andR fa fb)) := by
  refine PE.imp (pe_and ha hb) fun σ H Q ⟨H0, Lt, Fz, ρ, S, q⟩ => ⟨H0, Lt, Fz, ρ, S, tst_val (Post.bind (R2 := rT) q fun b ρ' x F' H' e1 S' r q' => ?_)⟩
  subst r
  cases x with
  | true => exact ⟨H0, Lt, F', ρ', S', q'⟩
  | false => exact q' _ F' H' (Ext.refl _) S' (.bl _)
theorem s_or {rest : List Expr} (ha : PE X a (tO p X W fa)) (hb : PE X (.BoolOp .Or (b :: rest) pos) (tO p X W fb)) : PE X (.BoolOp .Or (a :: b :: rest) pos) (tO p X W (orR fa fb)) := by
  refine PE.imp (pe_or ha hb) fun σ H Q ⟨H0, Lt, Fz, ρ, S, q⟩ => ⟨H0, Lt, Fz, ρ, S, tst_val (Post.bind (R2 := rT) q fun b ρ' x F' H' e1 S' r q' => ?_)⟩
  subst r
  cases x with
  | false => exact ⟨H0, Lt, F', ρ', S', q'⟩
  | true => exact q' _ F' H' (Ext.refl _) S' (.bl _)
theorem s_andT {rest : List Expr} (ha : PT X a (tT p X W fun ρ => tst (fa ρ))) (hb : PW X (.BoolOp .And (b :: rest) pos) (tT p X W fun ρ => tst (fb ρ))) : PW X (.BoolOp .And (a :: b :: rest) pos) (tT p X W fun ρ => tst (andR fa fb ρ)) := by
  refine PW.imp (pw_and ha hb) fun σ H Q ⟨H0, Lt, Fz, ρ, S, q⟩ => ⟨H0, Lt, Fz, ρ, S, ?_⟩
  unfold andR at q
  simp only [tst_bind] at q
  refine Post.bind (R2 := rT) q fun b ρ' x F' H' e1 S' r q' => ?_
  subst r
  cases x with
  | true => exact ⟨H0, Lt, F', ρ', S', q'⟩
  | false => exact q' _ F' H' (Ext.refl _) S' rfl
theorem s_orT {rest : List Expr} (ha : PT X a (tT p X W fun ρ => tst (fa ρ))) (hb : PW X (.BoolOp .Or (b :: rest) pos) (tT p X W fun ρ => tst (fb ρ))) : PW X (.BoolOp .Or (a :: b :: rest) pos) (tT p X W fun ρ => tst (orR fa fb ρ)) := by
  refine PW.imp (pw_or ha hb) fun σ H Q ⟨H0, Lt, Fz, ρ, S, q⟩ => ⟨H0, Lt, Fz, ρ, S, ?_⟩
  unfold orR at q
  simp only [tst_bind] at q
  refine Post.bind (R2 := rT) q fun b ρ' x F' H' e1 S' r q' => ?_
  subst r
  cases x with
  | false => exact ⟨H0, Lt, F', ρ', S', q'⟩
  | true => exact q' _ F' H' (Ext.refl _) S' rfl
theorem s_ite (hc : PT X c (tT p X W fun ρ => tst (fc ρ))) (ha : PE X a (tO p X W fa)) (hb : PE X b (tO p X W fb)) : PE X (.IfExp c a b pos) (tO p X W fun ρ => (tst (fc ρ)).bind fun k ρ => if k = true then fa ρ else fb ρ) := by
  refine PE.imp (pe_ifExp hc ha hb) fun σ H Q ⟨H0, Lt, Fz, ρ, S, q⟩ => ⟨H0, Lt, Fz, ρ, S, Post.bind (R2 := rT) q fun b ρ' x F' H' e1 S' r q' => ?_⟩
  subst r
  cases x with
  | true => exact ⟨H0, Lt, F', ρ', S', q'⟩
  | false => exact ⟨H0, Lt, F', ρ', S', q'⟩

/-! ### lists of expressions, displays -/
theorem s_nil : PA X [] (tL p X W fun ρ => .ok [] ρ) := PA.imp pa_nil fun σ H Q ⟨H0, Lt, Fz, ρ, S, q⟩ => q _ Fz H (Ext.refl _) S .nil
theorem s_cons {es : List Expr} {fr : Env → ERes (List D)} (he : PE X e (tO p X W fa)) (hr : PA X es (tL p X W fr)) (hs : starEach (e :: es) X.env = (false, eval e X.env) :: starEach es X.env) :
    PA X (e :: es) (tL p X W fun ρ => (frz (fa ρ)).bind fun d ρ => (fr ρ).bind fun ds ρ => .ok (d :: ds) ρ) := by
  refine PA.imp (pa_cons (s_frz he) hr hs) fun σ H Q h => tR.bind h fun H0 Lt Fz v ρ' x H' S r q => ⟨H0, Lt, Fz, ρ', S, Post.bind (R2 := rL p) q fun w ρ2 y F2 H2 e2 S2 r2 q2 => ?_⟩
  exact q2 _ F2 H2 (Ext.refl _) S2 (.cons (Rep.ext e2 _ _ r) r2)
theorem s_tup {es : List Expr} {k : Nat} {fr : Env → ERes (List D)} (hr : PA X es (tL p X W fr)) : PE X (.Tuple es k pos) (tO p X W fun ρ => (fr ρ).bind fun ds ρ => if ds.length ≤ line then .ok (.dat (.tup ds)) ρ else .stuck) := by
  refine PE.imp (pe_tup hr) fun σ H Q h => tR.bind h fun H0 Lt Fz v ρ' x H' S r q => ?_
  by_cases hl : v.length ≤ line
  · rw [if_pos hl] at q
    refine ⟨by rw [← line_eq, r.length]; exact hl, fun a n => ?_⟩
    exact rpost_tup S.ext (rpost_of S q) r a n
  · rw [if_neg hl] at q; exact q.elim
theorem s_lst {es : List Expr} {fr : Env → ERes (List D)} (hr : PA X es (tL p X W fr)) : PE X (.List es pos) (tO p X W fun ρ => (fr ρ).bind fun ds ρ => if ds.length ≤ line then .ok (.own (.lst ds)) ρ else .stuck) := by
  refine PE.imp (pe_lst hr) fun σ H Q h => tR.bind h fun H0 Lt Fz v ρ' x H' S r q => ?_
  by_cases hl : v.length ≤ line
  · rw [if_pos hl] at q
    exact ⟨by rw [← line_eq, r.length]; exact hl, fun a n => rpost_of S q a _ n r⟩
  · rw [if_neg hl] at q; exact q.elim
end
end AP
end
section
/-! AP4: subscripts, slices, built-ins, isinstance -/
namespace AP
open PySem PySem.Spec PyProof.Rows L2

/-! ### subscripts -/
theorem ixN_eq (n : Nat) (i : Int) : AP.ixN n i = L2.ixN n i := rfl
def rIxP (p : Pa) : R2 := fun x y H Q => ∃ Fz dx i d, Ext Fz H ∧ RepH p.g Fz H x dx ∧ y = .int i ∧ ixD dx (.int i) = some d ∧ ∀ v, Rep p.g Fz v d → Q v H
theorem at_of {g : Glb} {A : Hp} {xs : List V} {ds : List D} {i : Int} {d : D} (r : RepL g A xs ds) (h : ((AP.ixN ds.length i).bind fun j => ds[j]?) = some d) : ∃ v, atI xs i = some v ∧ Rep g A v d := by
  obtain ⟨j, h1, h2⟩ := Option.bind_eq_some_iff.mp h
  obtain ⟨v, h3, h4⟩ := r.get h2
  refine ⟨v, ?_, h4⟩
  unfold atI
  rw [r.length, ← ixN_eq, h1]
  exact h3
section
variable {p : Pa} {X : Cx} {W : WX} {a b c e : Expr} {fa fb fc : Env → ERes Val} {pos : Pos}
theorem ix_all (hg : p.g.K = X.K) : IxR X (rIxP p) := by
  intro value slice pins s σ H x y v u Q I rx ry ⟨Fz, dx, i, d, e, hx, hy, ho, q⟩ hs
  subst hy
  unfold ixD at ho
  split at ho
  · rename_i xs j z; cases z
    rcases hx with hx | ⟨_, _, _, _, h, _⟩
    · cases hx with
      | tup a1 a2 =>
        obtain ⟨w, h1, h2⟩ := at_of a2 ho
        exact ix_tup value slice pins s σ H _ _ v u Q I rx ry ⟨_, _, _, w, rfl, rfl, SqT.to hg e a1, h1, q w h2⟩ hs
    · cases h
  · rename_i xs j z; cases z
    rcases hx with hx | ⟨a, ys, ds, rfl, h, a1, a2⟩
    · cases hx with
      | lst a1 a2 =>
        obtain ⟨w, h1, h2⟩ := at_of a2 ho
        exact ix_list value slice pins s σ H _ _ v u Q I rx ry ⟨_, _, _, w, rfl, rfl, SqL.of (e _ _ a1), h1, q w h2⟩ hs
    · cases h
      obtain ⟨w, h1, h2⟩ := at_of a2 ho
      exact ix_list value slice pins s σ H _ _ v u Q I rx ry ⟨_, _, _, w, rfl, rfl, SqL.of a1, h1, q w h2⟩ hs
  · rename_i ns j z; cases z
    rcases hx with hx | ⟨_, _, _, _, h, _⟩
    · cases hx with
      | scr a1 =>
        obtain ⟨k, h1, h2⟩ := Option.map_eq_some_iff.mp ho
        subst h2
        obtain ⟨m, h3, h4⟩ := Option.bind_eq_some_iff.mp h1
        rw [hg] at a1
        refine ix_list value slice pins s σ H _ _ v u Q I rx ry ⟨_, _, _, .int k, rfl, rfl, SqL.ext e a1, ?_, q _ (.int k)⟩ hs
        unfold atI
        rw [List.length_map, ← ixN_eq, h3]
        show (List.map V.int ns)[m]? = some (V.int k)
        rw [List.getElem?_map, h4]; rfl
    · cases h
  · rename_i zs j z; cases z
    rcases hx with hx | ⟨_, _, _, _, h, _⟩
    · cases hx
      split at ho
      · rename_i hl
        obtain ⟨k, h1, h2⟩ := Option.map_eq_some_iff.mp ho
        subst h2
        exact ix_str value slice pins s σ H _ _ v u Q I rx ry ⟨_, _, k, rfl, rfl, by rw [← line_eq]; exact hl, h1, q _ (.str _)⟩ hs
      · cases ho
    · cases h
  · cases ho
theorem s_idx {ga : Env → ERes Opd} (hg : p.g.K = X.K) (ha : PE X a (tP p X W ga)) (hb : PE X b (tO p X W fb)) (hs : PlainIx b) :
    PE X (.Subscript a b pos) (tO p X W fun ρ => (ga ρ).bind fun x ρ => (frz (fb ρ)).bind fun i ρ => ofO ((x.get ρ).bind fun x => (ixD x i).map .dat) ρ) := by
  refine PE.imp (pe_ix (ix_all (p := p) hg) ha (s_frz hb) hs) fun σ H Q h => tR.bind h fun H0 Lt Fz v ρ' x H' S r q => ⟨H0, Lt, Fz, ρ', S, Post.bind q fun w ρ2 y F2 H2 e2 S2 r2 q2 => ?_⟩
  obtain ⟨z, hz, q3⟩ := ofO_post q2
  obtain ⟨d1, g1, hz⟩ := Option.bind_eq_some_iff.mp hz
  obtain ⟨d, hk, rfl⟩ := Option.map_eq_some_iff.mp hz
  have hw : ∃ i, w = .int i := by
    unfold ixD at hk
    split at hk <;> first | exact ⟨_, rfl⟩ | cases hk
  obtain ⟨i, rfl⟩ := hw
  have r2' : y = .int i := by cases r2; rfl
  subst r2'
  exact ⟨F2, d1, i, d, S2.ext, opd_rep S2 r e2 g1, rfl, hk, fun v hv => q3 v F2 H2 (Ext.refl _) S2 hv⟩

/-! ### slices -/
theorem sIx_eq (n d : Nat) (o : Option Int) (hd : d ≤ n) : AP.sIx n d o = HT.sIx n d o := by
  cases o with
  | none => rfl
  | some v => rfl
theorem cutL_eq (xs : List V) (lo hi : Option Int) : AP.cutL xs lo hi = cutV xs lo hi := by
  unfold AP.cutL cutV
  rw [sIx_eq _ _ _ (Nat.zero_le _), sIx_eq _ _ _ (Nat.le_refl _)]
theorem RepL.cut {g : Glb} {A : Hp} {xs : List V} {ds : List D} (r : RepL g A xs ds) (lo hi : Option Int) : RepL g A (cutV xs lo hi) (AP.cutL ds lo hi) := by
  rw [← cutL_eq]
  unfold AP.cutL
  rw [r.length]
  exact (r.drop _).take _
def rSlP (p : Pa) : V → Option Int → Option Int → Hp → VK → Prop := fun x lo hi H Q => ∃ Fz dx v, Ext Fz H ∧ Rep p.g Fz x dx ∧ slD dx lo hi = some v ∧ RPost p Fz H Q v
theorem sl_all (hg : p.g.K = X.K) : SlR X (rSlP p) := by
  intro pins s σ H x v vl vu lo hi sl Q I rx hs pl pu ⟨Fz, dx, w, e, hx, ho, q⟩
  unfold slD at ho
  split at ho
  · rename_i ds0
    cases ho
    cases hx with
    | tup a1 a2 =>
      refine sl_tupA pins s σ H _ v vl vu lo hi sl Q I rx hs pl pu ⟨_, _, rfl, SqT.to hg e a1, fun z => ?_, fun _ a n => rpost_tup e q (a2.cut lo hi) a n⟩
      have hc : AP.cutL ds0 lo hi = ds0 := by
        unfold AP.cutL
        rw [sIx_eq _ _ _ (Nat.zero_le _), sIx_eq _ _ _ (Nat.le_refl _), ← a2.length, z.1, z.2, List.drop_zero, Nat.sub_zero, a2.length]
        exact List.take_length
      rw [hc] at q
      exact q _ Fz H (Grow.refl e) (.tup a1 a2)
  · cases ho
    cases hx with
    | lst a1 a2 => exact sl_list pins s σ H _ v vl vu lo hi sl Q I rx hs pl pu ⟨_, _, rfl, SqL.of (e _ _ a1), fun a n => q a _ n (a2.cut lo hi)⟩
  · split at ho
    · rename_i hl
      cases ho
      cases hx
      exact sl_str pins s σ H _ v vl vu lo hi sl Q I rx hs pl pu ⟨_, rfl, by rw [← line_eq]; exact hl, rpost_str e q⟩
    · cases ho
  · cases ho
/-- a slice's part -/
abbrev rPt : RT (Option Int) (Option Int) := fun _ _ _ _ _ _ a b => a = b
abbrev tPt (p : Pa) (X : Cx) (W : WX) (f : Env → ERes (Option Int)) : TO := tR rPt p X W f
theorem PO.imp {e : Option Expr} {t t' : TO} (h : PO X e t) (i : ∀ σ H Q, t' σ H Q → t σ H Q) : PO X e t' :=
  ⟨fun pins s σ H Q I q => h.run pins s σ H Q I (i σ H Q q)⟩
theorem s_pnone : PO X none (tPt p X W fun ρ => .ok none ρ) := PO.imp po_none fun σ H Q ⟨H0, Lt, Fz, ρ, S, q⟩ => q _ Fz H (Ext.refl _) S rfl
def ptR (f : Env → ERes Val) : Env → ERes (Option Int) := fun ρ => (frz (f ρ)).bind fun d ρ => match d with | .int i => .ok (some i) ρ | _ => .stuck
theorem s_psome (he : PE X e (tO p X W fa)) : PO X (some e) (tPt p X W (ptR fa)) := by
  refine PO.imp (po_some (s_frz he)) fun σ H Q h => tR.bind h fun H0 Lt Fz v ρ' x H' S r q => ?_
  cases r with
  | int i => exact ⟨i, rfl, q _ Fz H' (Ext.refl _) S rfl⟩
  | _ => exact q.elim
theorem s_sl (hg : p.g.K = X.K) {lo hi : Option Expr} {fl fh : Env → ERes (Option Int)} {p2 : Pos} (ha : PE X a (tO p X W fa)) (hl : PO X lo (tPt p X W fl)) (hh : PO X hi (tPt p X W fh)) :
    PE X (.Subscript a (.Slice lo hi none p2) pos) (tO p X W fun ρ => (frz (fa ρ)).bind fun x ρ => (fl ρ).bind fun l ρ => (fh ρ).bind fun h ρ => ofO (slD x l h) ρ) := by
  refine PE.imp (pe_slice (sl_all (p := p) hg) (s_frz ha) hl hh) fun σ H Q h => tR.bind h fun H0 Lt Fz v ρ' x H' S r q => ⟨H0, Lt, Fz, ρ', S, Post.bind (R2 := rPt) q fun l ρ2 y F2 H2 e2 S2 r2 q2 => ?_⟩
  subst r2
  refine ⟨H0, Lt, F2, ρ2, S2, Post.bind (R2 := rPt) q2 fun u ρ3 z F3 H3 e3 S3 r3 q3 => ?_⟩
  subst r3
  obtain ⟨w, hw, q4⟩ := ofO_post q3
  exact ⟨F3, v, w, S3.ext, Rep.ext (e2.trans e3) _ _ r, hw, rpost_of S3 q4⟩
end

/-! ### built-ins -/
/-- a built-in by values -/
def rBi (p : Pa) (b : Bi) : List V → Hp → VK → Prop := fun xs H Q => ∃ Fz ds v, Ext Fz H ∧ RepL p.g Fz xs ds ∧ biD b ds = some v ∧ RPost p Fz H Q v
theorem minL_spec : ∀ (r : List Int) (x : Int), (∀ y ∈ x :: r, r.foldl min x ≤ y) ∧ r.foldl min x ∈ x :: r
  | [], x => ⟨fun y h => by simp at h; subst h; exact Int.le_refl _, by simp⟩
  | z :: r, x => by
    obtain ⟨h1, h2⟩ := minL_spec r (min x z)
    refine ⟨fun y h => ?_, ?_⟩
    · have h0 := h1 (min x z) (by simp)
      simp only [List.foldl_cons]
      rcases List.mem_cons.mp h with rfl | h
      · omega
      · rcases List.mem_cons.mp h with rfl | h
        · omega
        · exact h1 y (List.mem_cons_of_mem _ h)
    · simp only [List.foldl_cons]
      rcases List.mem_cons.mp h2 with h | h
      · rw [h]
        rcases Int.le_total x z with q | q
        · rw [Int.min_eq_left q]; simp
        · rw [Int.min_eq_right q]; simp
      · exact List.mem_cons_of_mem _ (List.mem_cons_of_mem _ h)
theorem maxL_spec : ∀ (r : List Int) (x : Int), (∀ y ∈ x :: r, y ≤ r.foldl max x) ∧ r.foldl max x ∈ x :: r
  | [], x => ⟨fun y h => by simp at h; subst h; exact Int.le_refl _, by simp⟩
  | z :: r, x => by
    obtain ⟨h1, h2⟩ := maxL_spec r (max x z)
    refine ⟨fun y h => ?_, ?_⟩
    · have h0 := h1 (max x z) (by simp)
      simp only [List.foldl_cons]
      rcases List.mem_cons.mp h with rfl | h
      · omega
      · rcases List.mem_cons.mp h with rfl | h
        · omega
        · exact h1 y (List.mem_cons_of_mem _ h)
    · simp only [List.foldl_cons]
      rcases List.mem_cons.mp h2 with h | h
      · rw [h]
        rcases Int.le_total x z with q | q
        · rw [Int.max_eq_right q]; simp
        · rw [Int.max_eq_left q]; simp
      · exact List.mem_cons_of_mem _ (List.mem_cons_of_mem _ h)
theorem minL_eq {ns : List Int} {m : Int} (hm : m ∈ ns) (hl : ∀ y ∈ ns, m ≤ y) : m = minL ns := by
  cases ns with
  | nil => cases hm
  | cons x r =>
    obtain ⟨h1, h2⟩ := minL_spec r x
    have a := h1 m hm
    have b := hl _ h2
    unfold minL
    dsimp only
    omega
theorem maxL_eq {ns : List Int} {m : Int} (hm : m ∈ ns) (hl : ∀ y ∈ ns, y ≤ m) : m = maxL ns := by
  cases ns with
  | nil => cases hm
  | cons x r =>
    obtain ⟨h1, h2⟩ := maxL_spec r x
    have a := h1 m hm
    have b := hl _ h2
    unfold maxL
    dsimp only
    omega
section
variable {p : Pa} {X : Cx}
theorem repl1 {g : Glb} {A : Hp} {xs : List V} {d : D} (r : RepL g A xs [d]) : ∃ x, xs = [x] ∧ Rep g A x d := by
  cases r with | cons h t => cases t; exact ⟨_, rfl, h⟩
theorem repl2 {g : Glb} {A : Hp} {xs : List V} {d e : D} (r : RepL g A xs [d, e]) : ∃ x y, xs = [x, y] ∧ Rep g A x d ∧ Rep g A y e := by
  cases r with | cons h t => cases t with | cons h2 t => cases t; exact ⟨_, _, rfl, h, h2⟩
/-- one argument: a rule for it -/
theorem b_one {f : Value} {b : Bi} {h : D → Option Val} (hb : ∀ ds v, biD b ds = some v → ∃ d, ds = [d] ∧ h d = some v)
    (hr : ∀ (pins : List (Addr × Obj)) (s : Shared) (σ : St) (H : Hp) (x : V) (us : List Value) (Q : VK) (Fz : Hp) (d : D) (v : Val), Inv X pins σ H s → Vals [x] us → Ext Fz H → Rep p.g Fz x d → h d = some v → RPost p Fz H Q v → wpAny (model X.prog X.w) X.A (call f us) (EP X pins σ Q) X.xe s) : CallR X f (rBi p b) := by
  intro pins s σ H xs us Q I r ⟨Fz, ds, v, e, rl, ho, q⟩
  obtain ⟨d, rfl, hd⟩ := hb ds v ho
  obtain ⟨x, rfl, rx⟩ := repl1 rl
  exact hr pins s σ H x us Q Fz d v I r e rx hd q
theorem bi_one {b : Bi} {h : D → Option Val} (h1 : ∀ d, biD b [d] = h d) (h2 : ∀ d e, biD b [d, e] = none) : ∀ ds v, biD b ds = some v → ∃ d, ds = [d] ∧ h d = some v := by
  intro ds v ho
  match ds, ho with
  | [], ho => cases ho
  | [d], ho => exact ⟨d, rfl, by rw [← h1]; exact ho⟩
  | [d, e], ho => rw [h2] at ho; cases ho
  | _ :: _ :: _ :: _, ho => cases ho
/-- len of an operand -/
def rLen (p : Pa) : List V → Hp → VK → Prop := fun xs H Q => ∃ Fz x d v, xs = [x] ∧ Ext Fz H ∧ RepH p.g Fz H x d ∧ lenD d = some v ∧ RPost p Fz H Q v
theorem b_len (hg : p.g.K = X.K) : CallR X (.builtin "len") (rLen p) := by
  intro pins s σ H xs us Q I r h
  obtain ⟨Fz, x, d, v, rfl, e, rx, hd, q⟩ := h
  unfold lenD at hd
  split at hd
  · cases hd
    rcases rx with rx | ⟨_, _, _, _, h, _⟩
    · cases rx with
      | tup a1 a2 => exact call_len_seq pins s σ H _ us Q I r ⟨_, _, rfl, .inr (SqT.to hg e a1), by rw [a2.length]; exact rpost_int e q⟩
    · cases h
  · cases hd
    rcases rx with rx | ⟨a, ys, ds, rfl, h, a1, a2⟩
    · cases rx with
      | lst a1 a2 => exact call_len_seq pins s σ H _ us Q I r ⟨_, _, rfl, .inl (SqL.of (e _ _ a1)), by rw [a2.length]; exact rpost_int e q⟩
    · cases h
      exact call_len_seq pins s σ H _ us Q I r ⟨_, _, rfl, .inl (SqL.of a1), by rw [a2.length]; exact rpost_int e q⟩
  · cases hd
    rcases rx with rx | ⟨_, _, _, _, h, _⟩
    · cases rx with
      | scr a1 => rw [hg] at a1; exact call_len_seq pins s σ H _ us Q I r ⟨_, _, rfl, .inl (SqL.ext e a1), by rw [List.length_map]; exact rpost_int e q⟩
    · cases h
  · split at hd
    · rename_i hl
      cases hd
      rcases rx with rx | ⟨_, _, _, _, h, _⟩
      · cases rx
        exact call_len_str pins s σ H _ us Q I r ⟨_, rfl, by rw [← line_eq]; exact hl, rpost_int e q⟩
      · cases h
    · cases hd
  · cases hd
theorem b_abs : CallR X (.builtin "abs") (rBi p .abs) := by
  refine b_one (h := absD) (bi_one (fun _ => rfl) fun _ _ => rfl) fun pins s σ H x us Q Fz d v I r e rx hd q => ?_
  unfold absD at hd
  split at hd
  · cases hd; cases rx
    exact call_abs pins s σ H _ us Q I r ⟨_, rfl, rpost_int e q⟩
  · cases hd
theorem b_all (hc : X.calm = true) : CallR X (.builtin "all") (rBi p .all) := by
  refine b_one (h := allD) (bi_one (fun _ => rfl) fun _ _ => rfl) fun pins s σ H x us Q Fz d v I r e rx hd q => ?_
  unfold allD at hd
  split at hd
  · obtain ⟨bs, h1, rfl⟩ := Option.map_eq_some_iff.mp hd
    cases rx with
    | lst a1 a2 => rw [a2.bls h1] at a1; exact cr_all hc pins s σ H _ us Q I r ⟨_, bs, rfl, SqL.of (e _ _ a1), rpost_bl e q⟩
  · cases hd
theorem b_any (hc : X.calm = true) : CallR X (.builtin "any") (rBi p .any) := by
  refine b_one (h := anyD) (bi_one (fun _ => rfl) fun _ _ => rfl) fun pins s σ H x us Q Fz d v I r e rx hd q => ?_
  unfold anyD at hd
  split at hd
  · obtain ⟨bs, h1, rfl⟩ := Option.map_eq_some_iff.mp hd
    cases rx with
    | lst a1 a2 => rw [a2.bls h1] at a1; exact cr_any hc pins s σ H _ us Q I r ⟨_, bs, rfl, SqL.of (e _ _ a1), rpost_bl e q⟩
  · cases hd
theorem b_sum (hc : X.calm = true) : CallR X (.builtin "sum") (rBi p .sum) := by
  refine b_one (h := sumD) (bi_one (fun _ => rfl) fun _ _ => rfl) fun pins s σ H x us Q Fz d v I r e rx hd q => ?_
  unfold sumD at hd
  split at hd
  · obtain ⟨bs, h1, rfl⟩ := Option.map_eq_some_iff.mp hd
    cases rx with
    | lst a1 a2 => rw [a2.ints h1] at a1; exact cr_sum hc pins s σ H _ us Q I r ⟨_, bs, rfl, SqL.of (e _ _ a1), rpost_int e q⟩
  · cases hd
theorem b_list (hg : p.g.K = X.K) : CallR X (.type "list") (rBi p .list) := by
  refine b_one (h := listD) (bi_one (fun _ => rfl) fun _ _ => rfl) fun pins s σ H x us Q Fz d v I r e rx hd q => ?_
  unfold listD at hd
  split at hd
  · cases hd
    cases rx with
    | tup a1 a2 => exact call_list_of pins s σ H _ us Q I r ⟨_, _, rfl, .inr (SqT.to hg e a1), fun l n => q l _ n a2⟩
  · cases hd
    cases rx with
    | lst a1 a2 => exact call_list_of pins s σ H _ us Q I r ⟨_, _, rfl, .inl (SqL.of (e _ _ a1)), fun l n => q l _ n a2⟩
  · cases hd
theorem b_tuple (hg : p.g.K = X.K) : CallR X (.type "tuple") (rBi p .tuple) := by
  refine b_one (h := tupleD) (bi_one (fun _ => rfl) fun _ _ => rfl) fun pins s σ H x us Q Fz d v I r e rx hd q => ?_
  unfold tupleD at hd
  split at hd
  · cases hd
    cases rx with
    | tup a1 a2 => exact call_tuple_of pins s σ H _ us Q I r ⟨_, _, rfl, .inr ⟨SqT.to hg e a1, q _ Fz H (Grow.refl e) (.tup a1 a2)⟩⟩
  · cases hd
    cases rx with
    | lst a1 a2 => exact call_tuple_of pins s σ H _ us Q I r ⟨_, _, rfl, .inl ⟨SqL.of (e _ _ a1), fun l n => rpost_tup e q a2 l n⟩⟩
  · cases hd
theorem b_int : CallR X (.type "int") (rBi p .int) := by
  refine b_one (h := intD) (bi_one (fun _ => rfl) fun _ _ => rfl) fun pins s σ H x us Q Fz d v I r e rx hd q => ?_
  unfold intD at hd
  split at hd
  · cases hd; cases rx
    exact call_int1 pins s σ H _ us Q I r (.inl ⟨_, rfl, rpost_int e q⟩)
  · split at hd
    · rename_i hl
      obtain ⟨n, hn, rfl⟩ := Option.map_eq_some_iff.mp hd
      cases rx
      exact call_int_str pins s σ H _ us Q I r ⟨_, n, rfl, hn, hl, rpost_int e q⟩
    · cases hd
  · cases hd
theorem b_str : CallR X (.type "str") (rBi p .str) := by
  refine b_one (h := strD) (bi_one (fun _ => rfl) fun _ _ => rfl) fun pins s σ H x us Q Fz d v I r e rx hd q => ?_
  unfold strD at hd
  split at hd
  · split at hd
    · rename_i hl
      cases hd; cases rx
      exact call_str_int pins s σ H _ us Q I r ⟨_, rfl, hl, rpost_str e q⟩
    · cases hd
  · cases hd
theorem b_bool : CallR X (.type "bool") (rBi p .bool) := by
  refine b_one (h := boolD) (bi_one (fun _ => rfl) fun _ _ => rfl) fun pins s σ H x us Q Fz d v I r e rx hd q => ?_
  unfold boolD at hd
  split at hd
  · cases hd; cases rx
    exact call_bool1 pins s σ H _ us Q I r (.inr ⟨_, rfl, rpost_bl e q⟩)
  · cases hd
theorem b_min (hc : X.calm = true) : CallR X (.builtin "min") (rBi p .min) := by
  intro pins s σ H xs us Q I r ⟨Fz, ds, v, e, rl, ho, q⟩
  match ds, rl, ho with
  | [], _, ho => cases ho
  | [d], rl, ho =>
    obtain ⟨x, rfl, rx⟩ := repl1 rl
    change minD d = some v at ho
    unfold minD at ho
    split at ho
    · obtain ⟨ns, h1, h2⟩ := Option.bind_eq_some_iff.mp ho
      cases rx with
      | lst a1 a2 =>
        rw [a2.ints h1] at a1
        split at h2
        · cases h2
        · rename_i hne
          cases h2
          refine cr_min hc pins s σ H _ us Q I r ⟨_, ns, rfl, SqL.of (e _ _ a1), ?_, fun m hm hl => ?_⟩
          · cases ns with
            | nil => exact absurd rfl hne
            | cons _ _ => simp
          · rw [minL_eq hm hl]; exact rpost_int e q
    · cases ho
  | [d, d'], rl, ho =>
    obtain ⟨x, y, rfl, rx, ry⟩ := repl2 rl
    change min2D d d' = some v at ho
    unfold min2D at ho
    split at ho
    · cases ho; cases rx; cases ry
      exact call_min2 hc pins s σ H _ us Q I r ⟨_, _, rfl, rpost_int e q⟩
    · cases ho
  | _ :: _ :: _ :: _, _, ho => cases ho
theorem b_max (hc : X.calm = true) : CallR X (.builtin "max") (rBi p .max) := by
  intro pins s σ H xs us Q I r ⟨Fz, ds, v, e, rl, ho, q⟩
  match ds, rl, ho with
  | [], _, ho => cases ho
  | [d], rl, ho =>
    obtain ⟨x, rfl, rx⟩ := repl1 rl
    change maxD d = some v at ho
    unfold maxD at ho
    split at ho
    · obtain ⟨ns, h1, h2⟩ := Option.bind_eq_some_iff.mp ho
      cases rx with
      | lst a1 a2 =>
        rw [a2.ints h1] at a1
        split at h2
        · cases h2
        · rename_i hne
          cases h2
          refine cr_max hc pins s σ H _ us Q I r ⟨_, ns, rfl, SqL.of (e _ _ a1), ?_, fun m hm hl => ?_⟩
          · cases ns with
            | nil => exact absurd rfl hne
            | cons _ _ => simp
          · rw [maxL_eq hm hl]; exact rpost_int e q
    · cases ho
  | [d, d'], rl, ho =>
    obtain ⟨x, y, rfl, rx, ry⟩ := repl2 rl
    change max2D d d' = some v at ho
    unfold max2D at ho
    split at ho
    · cases ho; cases rx; cases ry
      exact call_max2 hc pins s σ H _ us Q I r ⟨_, _, rfl, rpost_int e q⟩
    · cases ho
  | _ :: _ :: _ :: _, _, ho => cases ho
/-- the built-ins by their names -/
def trBi : Str → Option (Bi × Bool × String) := fun x =>
  if x = "abs" then some (.abs, false, "abs") else if x = "all" then some (.all, false, "all") else if x = "any" then some (.any, false, "any")
  else if x = "sum" then some (.sum, false, "sum") else if x = "min" then some (.min, false, "min") else if x = "max" then some (.max, false, "max")
  else if x = "list" then some (.list, true, "list") else if x = "tuple" then some (.tuple, true, "tuple") else if x = "int" then some (.int, true, "int") else if x = "bool" then some (.bool, true, "bool") else if x = "str" then some (.str, true, "str") else none
def biVal (t : Bool) (n : String) : Value := if t then .type n else .builtin n
theorem b_call (hg : p.g.K = X.K) (hc : X.calm = true) {x : Str} {b : Bi} {t : Bool} {n : String} (h : trBi x = some (b, t, n)) : CallR X (biVal t n) (rBi p b) ∧ bootBuiltins x = some (biVal t n) ∧ x ≠ "__name__" ∧ (x == ("__debug__" : Str)) = false := by
  unfold trBi at h
  repeat' split at h
  all_goals (first | (cases h; rename_i hx; subst hx; refine ⟨?_, by decide +kernel, by decide +kernel, by decide +kernel⟩) | cases h)
  · exact b_abs
  · exact b_all hc
  · exact b_any hc
  · exact b_sum hc
  · exact b_min hc
  · exact b_max hc
  · exact b_list hg
  · exact b_tuple hg
  · exact b_int
  · exact b_bool
  · exact b_str
variable {W : WX} {e : Expr} {es : List Expr} {fr : Env → ERes (List D)} {pos : Pos}
theorem s_len (hg : p.g.K = X.K) {ga : Env → ERes Opd} {p2 : Pos} (hgl : Gl X "len") (hm : X.mg "len" = none) (ha : PE X e (tP p X W ga)) (hs : starEach [e] X.env = (false, eval e X.env) :: starEach [] X.env) :
    PE X (.Call (.Name "len" p2) [e] [] pos) (tO p X W fun ρ => (ga ρ).bind fun x ρ => ofO ((x.get ρ).bind lenD) ρ) := by
  refine PE.imp (pe_callB (b_len (p := p) hg) hgl hm (by decide +kernel) (pa_cons ha pa_nil hs) (by decide +kernel) (by decide +kernel) hs rfl) fun σ H Q h => tR.bind h fun H0 Lt Fz v ρ' x H' S r q => ?_
  obtain ⟨w, hw, q2⟩ := ofO_post q
  obtain ⟨d, h1, h2⟩ := Option.bind_eq_some_iff.mp hw
  exact ⟨Fz, x, d, w, rfl, S.ext, opd_rep S r (Ext.refl _) h1, h2, rpost_of S q2⟩
theorem s_bi (hg : p.g.K = X.K) (hc : X.calm = true) {x : Str} {b : Bi} {t : Bool} {n : String} {p2 : Pos} (h : trBi x = some (b, t, n)) (hgl : Gl X x) (hm : X.mg x = none) (ha : PA X (e :: es) (tL p X W fr))
    (he : starEach (e :: es) X.env = (false, eval e X.env) :: starEach es X.env) (hpl : (backTo pos (starEach es X.env)).any (·.1) = false) :
    PE X (.Call (.Name x p2) (e :: es) [] pos) (tO p X W fun ρ => (fr ρ).bind fun ds ρ => ofO (biD b ds) ρ) := by
  obtain ⟨h1, h2, h3, h4⟩ := b_call (p := p) hg hc h
  have imp : ∀ σ H Q, tO p X W (fun ρ => (fr ρ).bind fun ds ρ => ofO (biD b ds) ρ) σ H Q → tCB (rBi p b) (tL p X W fr) σ H Q := fun σ H Q h => tR.bind h fun H0 Lt Fz v ρ' x H' S r q => by
    obtain ⟨w, hw, q2⟩ := ofO_post q
    exact ⟨Fz, v, w, S.ext, r, hw, rpost_of S q2⟩
  cases t with
  | true => exact PE.imp (pe_callTy h1 hgl hm h2 ha h3 h4 he hpl) imp
  | false => exact PE.imp (pe_callB h1 hgl hm h2 ha h3 h4 he hpl) imp
end
end AP
end
section
/-! AP4b: texts -/
namespace AP
open PySem PySem.Spec PyProof.Rows L2
section
variable {p : Pa} {X : Cx} {W : WX}
theorem RepL.strs {g : Glb} {A : Hp} : ∀ {vs : List V} {ds : List D} {ys : List Str}, RepL g A vs ds → strsOf ds = some ys → vs = ys.map V.str
  | _, _, _, .nil, e => by simp [strsOf] at e; subst e; rfl
  | _, d :: ds, ys, .cons h t, e => by
    cases h with
    | str i =>
      simp only [strsOf, Option.map_eq_some_iff] at e
      obtain ⟨ms, e1, e2⟩ := e
      subst e2
      rw [RepL.strs t e1]; rfl
    | _ => simp [strsOf] at e
theorem RepL.ofStrs {g : Glb} {A : Hp} : ∀ (ys : List Str), RepL g A (ys.map V.str) (ys.map D.str)
  | [] => .nil
  | y :: r => .cons (.str y) (RepL.ofStrs r)
theorem s_split {o e : Expr} {fo fe : Env → ERes Val} {apos pos : Pos} (ho : PE X o (tO p X W fo)) (he : PE X e (tO p X W fe)) (hs : starEach [e] X.env = [(false, eval e X.env)]) (hbase : attributeBase o "split" X.env (eval o X.env) = eval o X.env) (hline : (apos.endLine == pos.line) = true) :
    PE X (.Call (.Attribute o "split" apos) [e] [] pos) (tO p X W fun ρ => (frz (fo ρ)).bind fun x ρ => match x with | .str s => (frz (fe ρ)).bind fun y ρ => ofO (splitD s y) ρ | _ => .stuck) := by
  refine PE.imp (pe_split (s_frz ho) (s_frz he) hs hbase hline) fun σ H Q h => tR.bind h fun H0 Lt Fz v ρ' x H' S r q => ?_
  cases r with
  | str s =>
    refine ⟨⟨s, rfl⟩, H0, Lt, Fz, ρ', S, Post.bind (R2 := rD p) q fun d ρ2 y F2 H2 e2 S2 r2 q2 => ?_⟩
    obtain ⟨w, hw, q3⟩ := ofO_post q2
    unfold splitD at hw
    split at hw
    · split at hw
      · rename_i hl
        cases hw
        cases r2
        exact ⟨s, _, rfl, rfl, hl.1, by rw [← line_eq]; exact hl.2, fun a n => rpost_of S2 q3 a _ n (RepL.ofStrs _)⟩
      · cases hw
    · cases hw
  | _ => exact q.elim
theorem s_join (hg : p.g.K = X.K) {o e : Expr} {fo fe : Env → ERes Val} {apos pos : Pos} (ho : PE X o (tO p X W fo)) (he : PE X e (tO p X W fe)) (hs : starEach [e] X.env = [(false, eval e X.env)]) (hbase : attributeBase o "join" X.env (eval o X.env) = eval o X.env) (hline : (apos.endLine == pos.line) = true) :
    PE X (.Call (.Attribute o "join" apos) [e] [] pos) (tO p X W fun ρ => (frz (fo ρ)).bind fun x ρ => match x with | .str s => (frz (fe ρ)).bind fun y ρ => ofO (joinD s y) ρ | _ => .stuck) := by
  refine PE.imp (pe_join (s_frz ho) (s_frz he) hs hbase hline) fun σ H Q h => tR.bind h fun H0 Lt Fz v ρ' x H' S r q => ?_
  cases r with
  | str s =>
    refine ⟨⟨s, rfl⟩, H0, Lt, Fz, ρ', S, Post.bind (R2 := rD p) q fun d ρ2 y F2 H2 e2 S2 r2 q2 => ?_⟩
    obtain ⟨w, hw, q3⟩ := ofO_post q2
    have q4 := rpost_of S2 q3
    unfold joinD at hw
    split at hw
    · obtain ⟨ys, h1, h2⟩ := Option.bind_eq_some_iff.mp hw
      split at h2
      · rename_i hl
        cases h2
        cases r2 with
        | lst a1 a2 =>
          rw [a2.strs h1] at a1
          exact ⟨s, _, ys, rfl, rfl, .inl (SqL.of (S2.ext _ _ a1)), hl, rpost_str S2.ext q4⟩
      · cases h2
    · obtain ⟨ys, h1, h2⟩ := Option.bind_eq_some_iff.mp hw
      split at h2
      · rename_i hl
        cases h2
        cases r2 with
        | tup a1 a2 =>
          rw [a2.strs h1] at a1
          exact ⟨s, _, ys, rfl, rfl, .inr (SqT.to hg S2.ext a1), hl, rpost_str S2.ext q4⟩
      · cases h2
    · cases hw
  | _ => exact q.elim
/-! ### f-strings -/
abbrev rStr : RT Str Str := fun _ _ _ _ _ _ x d => d = x
abbrev tStr (p : Pa) (X : Cx) (W : WX) (f : Env → ERes Str) : St → Hp → (Str → Hp → Prop) → Prop := tR rStr p X W f
def evFc (fe : Env → ERes Val) (k : Str → Env → ERes Str) (acc : Str) (ρ : Env) : ERes Str := (frz (fe ρ)).bind fun d ρ => match txtD d with
      | some y => if (acc ++ y).length ≤ line then k (acc ++ y) ρ else .stuck
      | none => .stuck
/-- the parts' judgements, with what they give -/
def PFs (p : Pa) (X : Cx) (W : WX) (es : List Expr) (f : Str → Env → ERes Str) : Prop := ∃ ts, PJ X es ts ∧ ∀ acc σ H Q, tStr p X W (f acc) σ H Q → tJs ts acc σ H Q
theorem pf_nil : PFs p X W [] (fun acc ρ => .ok acc ρ) := ⟨[], .nil, fun acc σ H Q ⟨H0, Lt, Fz, ρ, S, q⟩ => q acc Fz H (Ext.refl _) S rfl⟩
theorem pf_val {e : Expr} {fe : Env → ERes Val} {pos : Pos} {es : List Expr} {k : Str → Env → ERes Str} (he : PE X e (tO p X W fe)) (hk : PFs p X W es k) : PFs p X W (.FormattedValue e (-1) none pos :: es) (evFc fe k) := by
  obtain ⟨ts, h1, h2⟩ := hk
  refine ⟨_, .cons (pe_fmt (s_frz he)) h1, fun acc σ H Q h => tR.bind h fun H0 Lt Fz v ρ' x H' S r q => ?_⟩
  cases hv : txtD v with
  | none => simp only [hv] at q; exact q.elim
  | some y =>
    simp only [hv] at q
    by_cases hl : (acc ++ y).length ≤ line
    · rw [if_pos hl] at q
      have q2 := h2 (acc ++ y) σ H' Q ⟨H0, Lt, Fz, ρ', S, q⟩
      unfold txtD at hv
      split at hv
      · split at hv
        · rename_i hz
          cases hv; cases r
          exact .inl ⟨_, rfl, by rw [← line_eq]; exact hz, _, rfl, by rw [← line_eq]; exact hl, q2⟩
        · cases hv
      · split at hv
        · rename_i hz
          cases hv; cases r
          exact .inr ⟨_, rfl, hz, _, rfl, by rw [← line_eq]; exact hl, q2⟩
        · cases hv
      · cases hv
    · rw [if_neg hl] at q; exact q.elim
theorem pf_cst {z : Str} {j : Nat} {pos : Pos} {es : List Expr} {k : Str → Env → ERes Str} (hk : PFs p X W es k) : PFs p X W (.Constant (.str z) j pos :: es) (evFc (fun ρ => .ok (.dat (.str z)) ρ) k) := by
  obtain ⟨ts, h1, h2⟩ := hk
  refine ⟨_, .cons (pe_str (x := z) (j := j) (pos := pos)) h1, fun acc σ H Q ⟨H0, Lt, Fz, ρ, S, q⟩ => ?_⟩
  change Post rStr p X W H0 Lt Fz σ Q (match txtD (.str z) with | some y => if (acc ++ y).length ≤ line then k (acc ++ y) ρ else .stuck | none => .stuck) at q
  unfold txtD at q
  simp only at q
  by_cases hz : z.length ≤ line
  · rw [if_pos hz] at q
    simp only at q
    by_cases hl : (acc ++ z).length ≤ line
    · rw [if_pos hl] at q
      exact ⟨z, rfl, by rw [← line_eq]; exact hl, h2 (acc ++ z) σ H Q ⟨H0, Lt, Fz, ρ, S, q⟩⟩
    · rw [if_neg hl] at q; exact q.elim
  · rw [if_neg hz] at q; exact q.elim
theorem s_fstr {v1 v2 : Expr} {rest : List Expr} {f : Str → Env → ERes Str} {pos : Pos} (h : PFs p X W (v1 :: v2 :: rest) f) : PE X (.JoinedStr (v1 :: v2 :: rest) pos) (tO p X W fun ρ => (f Str.empty ρ).bind fun z ρ => .ok (.dat (.str z)) ρ) := by
  obtain ⟨ts, h1, h2⟩ := h
  refine PE.imp (pe_joined h1) fun σ H Q h => h2 _ _ _ _ (tR.bind h fun H0 Lt Fz v ρ' x H' S r q => ?_)
  cases r
  exact q _ Fz H' (Ext.refl _) S (.str _)
/-! ### xs[:e:-1] -/
theorem filterMap_range {α : Type} (xs : Array α) (a : Nat) (h : a ≤ xs.size) : (List.range (xs.size - a)).filterMap (fun k => xs[xs.size - 1 - k]?) = (xs.toList.drop a).reverse := by
  have e : ∀ l : List α, ∀ n, n ≤ l.length → (List.range n).filterMap (fun k => l[l.length - 1 - k]?) = l.reverse.take n := fun l n hn => by
    induction n with
    | zero => rfl
    | succ n ih =>
      rw [List.range_succ, List.filterMap_append, ih (by omega), List.take_add_one, List.getElem?_reverse (by omega)]
      rw [List.getElem?_eq_getElem (by omega)]
      simp [List.getElem?_eq_getElem (show l.length - 1 - n < l.length by omega)]
  have e2 := e xs.toList (xs.size - a) (by rw [Array.length_toList]; omega)
  rw [Array.length_toList] at e2
  rw [List.reverse_drop, Array.length_toList]
  rw [← e2]
  congr 1
  funext k
  simp
theorem slr_pick (items : Array Value) (e : Int) (h : 0 ≤ e) : slicePick items none (some e) (some (-1)) = (items.toList.drop (e.toNat + 1)).reverse.toArray := by
  obtain ⟨k, rfl⟩ := Int.eq_ofNat_of_zero_le h
  have hb : sliceBounds none (some (k : Int)) (some (-1)) items.size = ((items.size : Int) - 1, max (-1) (min (k : Int) ((items.size : Int) - 1)), -1) := by
    unfold sliceBounds
    simp only [Option.getD_some]
    rw [if_neg (by omega), if_neg (by omega)]
    simp
    rw [if_neg (by omega)]
  unfold slicePick
  rw [hb]
  show ((sliceRange ((items.size : Int) - 1) (max (-1) (min (k : Int) ((items.size : Int) - 1))) (-1)).filterMap (items[·]?)).toArray = _
  rw [Int.toNat_natCast]
  have hr : sliceRange ((items.size : Int) - 1) (max (-1) (min (k : Int) ((items.size : Int) - 1))) (-1) = (List.range (items.size - (k + 1))).map fun j => items.size - 1 - j := by
    unfold sliceRange
    have h1 : ¬ ((-1 : Int) > 0) := by decide
    simp only [h1, if_false]
    have ec : (if (items.size : Int) - 1 > max (-1) (min (k : Int) ((items.size : Int) - 1)) then ((items.size : Int) - 1 - max (-1) (min (k : Int) ((items.size : Int) - 1)) - -1 - 1) / (- -1) else 0).toNat = items.size - (k + 1) := by
      rw [show (- -1 : Int) = 1 by decide, Int.ediv_one]
      split <;> omega
    rw [ec]
    refine List.map_congr_left fun j hj => ?_
    have := List.mem_range.mp hj
    omega
  rw [hr, List.filterMap_map]
  by_cases hk : k + 1 ≤ items.size
  · exact congrArg List.toArray (filterMap_range items (k + 1) hk)
  · rw [show items.size - (k + 1) = 0 by omega, List.drop_of_length_le (by rw [Array.length_toList]; omega)]; rfl
theorem s_slr {e : Expr} {fe : Env → ERes Val} {i : Int} {k0 kk : Nat} {p0 p1 p2 p3 pos : Pos} (he : PE X e (tO p X W fe)) :
    PE X (.Subscript e (.Slice none (some (.Constant (.int i) k0 p0)) (some (.UnaryOp .USub (.Constant (.int 1) kk p1) p2)) p3) pos) (tO p X W fun ρ => (frz (fe ρ)).bind fun x ρ => ofO (slrD x i) ρ) := by
  refine ⟨fun pins s σ H Q I h => ?_⟩
  have h2 : tD p X W (fun ρ => frz (fe ρ)) σ H fun x H1 => ∃ Fz d v, Ext Fz H1 ∧ Rep p.g Fz x d ∧ slrD d i = some v ∧ RPost p Fz H1 Q v := tR.bind h fun H0 Lt Fz v ρ' x H' S r q => by
    obtain ⟨w, hw, q2⟩ := ofO_post q
    exact ⟨Fz, v, w, S.ext, r, hw, rpost_of S q2⟩
  refine Subscript_ (thn ((s_frz he).run pins s σ H _ I h2) fun v s1 hh => ?_)
  obtain ⟨x, H1, I1, r1, Fz, d, w, ext, rep, hw, post⟩ := hh
  have hst : PO X (some (.UnaryOp .USub (.Constant (.int 1) kk p1) p2)) (tPart (tUn (rU fun i => .int (-i)) (tC (.int 1)))) := po_some (pe_un un_neg pe_int)
  have hup : PO X (some (.Constant (.int i) k0 p0)) (tPart (tC (.int i))) := po_some pe_int
  refine wpAny_Slice (thn (po_none.run pins s1 σ H1 (fun o H2 => o = none ∧ H2 = H1) I1 ⟨rfl, rfl⟩) fun vl s2 ⟨l, H2, I2, pl, el, e2⟩ => ?_)
  subst el e2
  refine thn (hup.run pins s2 σ H2 (fun o H3 => o = some i ∧ H3 = H2) I2 ⟨i, rfl, rfl, rfl⟩) fun vu s3 ⟨u, H3, I3, pu, eu, e3⟩ => ?_
  subst eu e3
  refine thn (hst.run pins s3 σ H3 (fun o H4 => o = some (-1) ∧ H4 = H3) I3 ⟨1, rfl, -1, rfl, rfl, rfl⟩) fun vs s4 ⟨o, H4, I4, ps, eo, e4⟩ => ?_
  subst eo e4
  have I5 : Inv X pins σ H4 { s4 with heap := s4.heap.push { cls := .type "slice", data := .fields #[vl, vu, vs] } } := I4.kept (t' := s4.toks) fun b ob q => Heap.get?_push_of_some _ q
  unfold slrD at hw
  split at hw
  · split at hw
    · rename_i h0
      cases hw
      cases rep with
      | @lst a xs ds a1 a2 =>
        cases r1
        obtain ⟨its, r, ht, hz⟩ := I5.list (SqL.of (ext _ _ a1))
        have hlen := r.length
        show wpAny (model X.prog X.w) X.A (subscriptTail e (.Slice none (some (.Constant (.int i) k0 p0)) (some (.UnaryOp .USub (.Constant (.int 1) kk p1) p2)) p3) (.ref a) (.ref s4.heap.objs.size)) (EP X pins σ Q) X.xe { s4 with heap := s4.heap.push { cls := .type "slice", data := .fields #[vl, vu, vs] } }
        refine tail_any (ops := [.ref a, .ref s4.heap.objs.size]) ht.isList.typeIs (PySem.slot_list_getitem.lookup) ?_ (by with_unfolding_all rfl)
        refine wpAny_getItem_list_slice ht.isList (Heap.IsSliceOf.new _ vl vu vs) pl pu ps (by decide) ?_ (by rw [List.size_toArray]; omega)
        rw [slr_pick _ _ h0]
        refine ⟨.ref _, _, I5.laid (t' := s4.toks) (o := .lst (xs.drop (i.toNat + 1)).reverse) (fun b ob q => Heap.get?_push_of_some _ q) (Nat.le_refl _) ?_, rfl, post _ _ (I5.hok.fresh (Nat.le_refl _)) ((a2.drop _).rev)⟩
        exact ⟨by rw [List.length_reverse, List.length_drop]; omega, _, 0, (r.drop (i.toNat + 1)).reverse, Heap.get?_push_size _ rfl⟩
    · cases hw
  · cases hw
end
end AP
end
section
/-! E0: enumerate over a tuple -/
namespace PySem
open Sem (wp)
open AutoSeq1 (wpAny_loadPart')
theorem ap_meets_enumT (l : Addr) (items : Array Value) (n : Nat) (dct : Option Addr) (sl : Array (Option Value)) :
    Meets (Builtin.«enumerate.__new__» ⟨[.type "enumerate", .ref l], []⟩) (fun _ R s => s.heap.get? l = some { cls := .type "tuple", dict := dct, data := .seq items n, slots := sl } ∧
      R (.ok (.ret (.ref (s.heap.push { cls := .type "tuple_iterator", data := .fields #[.ref l, .int 0 0] }).objs.size)))
        { s with heap := (s.heap.push { cls := .type "tuple_iterator", data := .fields #[.ref l, .int 0 0] }).push { cls := .type "enumerate", data := .fields #[.none, .bool false, .ref s.heap.objs.size, rawInt 0, .none, .none] } }) :=
  .of_wp fun prog w A R s h => by
    obtain ⟨hp, g, d, tk, os⟩ := s; obtain ⟨hl, h⟩ := h
    have hsub := sub_enumerate
    have hL : Heap.IsTuple (Shared.heap ⟨hp, g, d, tk, os⟩) l items := ⟨_, hl, rfl, n, rfl⟩
    wp_walk using wpAny_loadPart' hl
    refine wpAny_stack_any fun st => wpAny_pure ?_
    split
    · rename_i c _ _ _ _ _
      cases (c == Value.type "enumerate")
      · wp_walk using wpAny_loadPart' hl, wpAny_pyIter_tuple hL
        exact ⟨_, rfl, h⟩
      · wp_walk using wpAny_loadPart' hl, wpAny_pyIter_tuple hL
        exact ⟨_, rfl, h⟩
    · wp_walk using wpAny_loadPart' hl, wpAny_pyIter_tuple hL
      exact ⟨_, rfl, h⟩
section
variable {prog : Program} {w : World} {A : Around} {E : Value → Shared → Prop} {s : Shared}
theorem ap_call_enumT {l : Addr} {items : Array Value} {Q : Value → Shared → Prop} (hL : s.heap.IsTuple l items)
    (h : ∀ h', IsEnum h' (s.heap.objs.size + 1) s.heap.objs.size 0 .none → h'.IsTupleIter s.heap.objs.size l 0 → h'.objs.size = s.heap.objs.size + 2 →
      (∀ b o, s.heap.get? b = some o → h'.get? b = some o) → Q (.ref (s.heap.objs.size + 1)) { s with heap := h' }) :
    wpAny (model prog w) A (call (.type "enumerate") [.ref l]) Q E s := by
  obtain ⟨⟨c, dct, dt, sl⟩, hl, hc, n, hd⟩ := hL
  replace hc : c = .type "tuple" := hc
  replace hd : dt = .seq items n := hd
  subst hc hd
  refine callType_new F.called_enumerate (by decide) (F.typeCall_enumerate_1 _) (F.newCall_enumerate_1 _) (fun obj => F.args_object_init_2 obj _) F.entry_enumerate_new
    (ap_meets_enumT l items n dct sl) ⟨hl, ?_⟩
  have hz : (s.heap.push { cls := .type "tuple_iterator", data := .fields #[.ref l, .int 0 0] }).objs.size = s.heap.objs.size + 1 := Heap.size_push ..
  show _ ∧ _
  rw [hz]
  have he : IsEnum ((s.heap.push { cls := .type "tuple_iterator", data := .fields #[.ref l, .int 0 0] }).push
      { cls := .type "enumerate", data := .fields #[.none, .bool false, .ref s.heap.objs.size, rawInt 0, .none, .none] }) (s.heap.objs.size + 1) s.heap.objs.size 0 .none := by
    have := Heap.get?_push_size (s.heap.push { cls := .type "tuple_iterator", data := .fields #[.ref l, .int 0 0] })
      (o := { cls := .type "enumerate", data := .fields #[.none, .bool false, .ref s.heap.objs.size, rawInt 0, .none, .none] }) rfl
    rw [hz] at this; exact this
  refine ⟨⟨_, he, rfl⟩, h _ he ⟨_, Heap.get?_push_of_some _ (Heap.get?_push_size _ rfl), rfl, rfl⟩ (by rw [Heap.size_push, hz]) fun b o x => Heap.get?_push_of_some _ (Heap.get?_push_of_some _ x)⟩

theorem ap_enumT_next_item {e it l : Addr} {i : Nat} {items : Array Value} {x old : Value} {Q : Value → Shared → Prop}
    (he : IsEnum s.heap e it i old) (hit : s.heap.IsTupleIter it l i) (hl : s.heap.IsTuple l items) (hx : items[i]? = some x) (hne : e ≠ it)
    (hQ : ∀ h', IsEnumOut h' e it ((i : Int) + 1) x s.heap.objs.size → h'.IsTupleIter it l (i + 1) →
      h'.get? s.heap.objs.size = some { cls := .type "tuple", data := .seq #[.int i s.toks, x] } → h'.objs.size = s.heap.objs.size + 1 →
      (∀ b o, b ≠ e → b ≠ it → s.heap.get? b = some o → h'.get? b = some o) → Q (.ref s.heap.objs.size) { s with heap := h', toks := s.toks + 1 }) :
    wpAny (model prog w) A (Builtin.«enumerate.__next__» ⟨[.ref e], []⟩) (fun fin s' => ∃ v, fin = .done (.ret v) ∧ Q v s') E s := by
  obtain ⟨hp, g, d, tk, os⟩ := s
  show wpAny _ _ (field (.ref e) 2 >>= _) _ _ _
  refine wpAny_bind (wpAny_field he rfl (x := .ref it) rfl ?_)
  refine wpAny_bind (RZ.nextOf_tuple_item hit hl hx fun h₁ hit₁ hs₁ => ?_)
  replace hs₁ : Heap.SameBut it hp h₁ := hs₁
  have he₁ : IsEnum h₁ e it i old := (hs₁.2 e hne).trans he
  show wpAny _ _ (field (.ref e) 3 >>= _) _ _ ⟨h₁, g, d, tk, os⟩
  refine wpAny_bind (wpAny_field he₁ rfl (x := rawInt i) rfl ?_)
  show wpAny _ _ (field (.ref e) 4 >>= _) _ _ ⟨h₁, g, d, tk, os⟩
  refine wpAny_bind (wpAny_field he₁ rfl (x := .none) rfl ?_)
  show wpAny _ _ (mkInt i >>= _) _ _ ⟨h₁, g, d, tk, os⟩
  refine wpAny_bind (wpAny_mkInt ?_)
  show wpAny _ _ (setField (.ref e) 3 (rawInt ((i : Int) + 1)) >>= _) _ _ ⟨h₁, g, d, tk + 1, os⟩
  refine wpAny_bind (wpAny_setField_rec he₁ (by simp) fun h₂ he₂ hs₂ => ?_)
  replace hs₂ : Heap.SameBut e h₁ h₂ := hs₂
  replace he₂ : IsEnum h₂ e it ((i : Int) + 1) old := he₂
  show wpAny _ _ (setField (.ref e) 4 .none >>= _) _ _ ⟨h₂, g, d, tk + 1, os⟩
  refine wpAny_bind (wpAny_setField_rec he₂ (by simp) fun h₃ he₃ hs₃ => ?_)
  replace hs₃ : Heap.SameBut e h₂ h₃ := hs₃
  replace he₃ : IsEnum h₃ e it ((i : Int) + 1) old := he₃
  show wpAny _ _ (newTuple [.int i tk, x] >>= _) _ _ ⟨h₃, g, d, tk + 1, os⟩
  refine wpAny_bind (wpAny_newTuple ?_)
  have he₄ : IsEnum (h₃.push { cls := .type "tuple", data := .seq #[.int i tk, x] }) e it ((i : Int) + 1) old := Heap.get?_push_of_some _ he₃
  generalize hh₄ : h₃.push { cls := .type "tuple", data := .seq #[.int i tk, x] } = h₄ at he₄
  have hsz : h₃.objs.size = hp.objs.size := by rw [hs₃.1, hs₂.1, hs₁.1]
  have hel : e < hp.objs.size := Heap.lt_size he
  have ht₄ : h₄.get? hp.objs.size = some { cls := .type "tuple", data := .seq #[.int i tk, x] } := by rw [← hh₄, ← hsz]; exact Heap.get?_push_size _ rfl
  have hz₄ : h₄.objs.size = hp.objs.size + 1 := by rw [← hh₄, Heap.size_push, hsz]
  have hk₄ : ∀ b o, b ≠ e → b ≠ it → hp.get? b = some o → h₄.get? b = some o := fun b o hbe hbi hb => by
    rw [← hh₄]; exact Heap.get?_push_of_some _ (hs₃.extBut b o hbe (hs₂.extBut b o hbe (hs₁.extBut b o hbi hb)))
  have hit₄ : h₄.IsTupleIter it l (i + 1) := by
    rw [← hh₄]; obtain ⟨o, ho, r⟩ := (hit₁.extBut hs₂.extBut (Ne.symm hne)).extBut hs₃.extBut (Ne.symm hne); exact ⟨o, Heap.get?_push_of_some _ ho, r⟩
  show wpAny _ _ (Builtin.SmallTypes.ownedTupleIsFree (.ref e) >>= _) _ _ ⟨h₄, g, d, tk + 1, os⟩
  rw [hsz]
  clear hh₄ he₃ hs₃ he₂ hs₂ he₁ hs₁ hit₁ hsz h₃ h₂ h₁
  refine wpAny_bind ?_
  · unfold Builtin.SmallTypes.ownedTupleIsFree
    refine wpAny_bind (wpAny_field he₄ rfl (x := .none) rfl (wpAny_pure ?_))
    simp only [if_true]
    refine wpAny_bind (wpAny_rule ?_)
    refine wpAny_bind (wpAny_field he₄ rfl (x := old) rfl ?_)
    refine wpAny_bind (wpAny_setField_rec he₄ (by simp) fun h₅ he₅ hs₅ => ?_)
    replace hs₅ : Heap.SameBut e h₄ h₅ := hs₅
    replace he₅ : IsEnum h₅ e it ((i : Int) + 1) x := he₅
    show wpAny _ _ (Builtin.SmallTypes.ownedTupleHandOut (.ref e) (.ref hp.objs.size) >>= _) _ _ ⟨h₅, g, d, tk + 1, os⟩
    refine wpAny_bind ?_
    · unfold Builtin.SmallTypes.ownedTupleHandOut
      refine wpAny_bind (wpAny_setField_rec he₅ (by simp) fun h₆ he₆ hs₆ => ?_)
      replace hs₆ : Heap.SameBut e h₅ h₆ := hs₆
      replace he₆ : IsEnumOut h₆ e it ((i : Int) + 1) x hp.objs.size := he₆
      refine wpAny_setField_rec he₆ (by simp) fun h₇ he₇ hs₇ => ?_
      replace hs₇ : Heap.SameBut e h₆ h₇ := hs₇
      replace he₇ : IsEnumOut h₇ e it ((i : Int) + 1) x hp.objs.size := he₇
      refine wpAny_bind (wpAny_letGo (wpAny_pure ⟨_, rfl, hQ h₇ he₇ ?_ ?_ ?_ ?_⟩))
      · exact ((hit₄.extBut hs₅.extBut (Ne.symm hne)).extBut hs₆.extBut (Ne.symm hne)).extBut hs₇.extBut (Ne.symm hne)
      · exact hs₇.extBut _ _ (Nat.ne_of_gt hel) (hs₆.extBut _ _ (Nat.ne_of_gt hel) (hs₅.extBut _ _ (Nat.ne_of_gt hel) ht₄))
      · rw [hs₇.1, hs₆.1, hs₅.1, hz₄]
      · exact fun b o hbe hbi hb => hs₇.extBut b o hbe (hs₆.extBut b o hbe (hs₅.extBut b o hbe (hk₄ b o hbe hbi hb)))

theorem ap_pyNext_enumT_item {e it l : Addr} {i : Nat} {items : Array Value} {x old : Value} {Q : Option Value → Shared → Prop}
    (he : IsEnum s.heap e it i old) (hit : s.heap.IsTupleIter it l i) (hl : s.heap.IsTuple l items) (hx : items[i]? = some x) (hne : e ≠ it)
    (hQ : ∀ h', IsEnumOut h' e it ((i : Int) + 1) x s.heap.objs.size → h'.IsTupleIter it l (i + 1) →
      h'.get? s.heap.objs.size = some { cls := .type "tuple", data := .seq #[.int i s.toks, x] } → h'.objs.size = s.heap.objs.size + 1 →
      (∀ b o, b ≠ e → b ≠ it → s.heap.get? b = some o → h'.get? b = some o) → Q (some (.ref s.heap.objs.size)) { s with heap := h', toks := s.toks + 1 }) :
    wpAny (model prog w) A (pyNext (.ref e)) Q E s := by
  have hT : s.TypeIs (.ref e) "enumerate" := ⟨_, he, rfl⟩
  unfold pyNext
  exact wpAny_bind (wpAny_attempt (wpAny_callSpecial?_slot (name := Str.ofString "__next__") hT F.slot_enumerate_next
    (wpAny_call_entry F.slot_enumerate_next hT F.entry_enumerate_next
      (ap_enumT_next_item he hit hl hx hne fun h' a b c d k => wpAny_pure (hQ h' a b c d k)) (F.args_enumerate_next_1 _))))

theorem ap_pyNext_enumT_end {e it l : Addr} {i : Nat} {items : Array Value} {old : Value} {Q : Option Value → Shared → Prop} (hh : A.handled = none)
    (he : IsEnum s.heap e it i old) (hit : s.heap.IsTupleIter it l i) (hl : s.heap.IsTuple l items) (hx : items[i]? = none)
    (hQ : ∀ h', Heap.ExtBut it s.heap h' → Q none { s with heap := h' }) : wpAny (model prog w) A (pyNext (.ref e)) Q E s := by
  have hT : s.TypeIs (.ref e) "enumerate" := ⟨_, he, rfl⟩
  unfold pyNext
  refine wpAny_bind (wpAny_attempt (wpAny_callSpecial?_slot (name := Str.ofString "__next__") hT F.slot_enumerate_next
    (wpAny_call_entry F.slot_enumerate_next hT F.entry_enumerate_next ?_ (F.args_enumerate_next_1 _))))
  show wpAny _ _ (field (.ref e) 2 >>= _) _ _ _
  refine wpAny_bind (wpAny_field he rfl (x := .ref it) rfl ?_)
  refine wpAny_bind (RZ.nextOf_tuple_end hh hit hl hx fun h' x he' hx' => ?_)
  obtain ⟨o, ho, hc⟩ := hx'
  refine wpAny_bind (wpAny_isInstance (T := "StopIteration") (b := true) ⟨o, ho, hc⟩ isSubtype_stop ?_)
  exact wpAny_pure (hQ _ he')
end
end PySem

namespace L2
open PySem PySem.Spec PyProof.Rows
/-- the tuple at a, each item in a new pair -/
def ItE (K : PySem.W.Frag) (a : Addr) : It :=
  ⟨fun i H => ∃ (xs : List V) (x : V), SqT K H a xs ∧ xs[i]? = some x, fun i H v H' => ∃ T x, v = .ref T ∧ H T = none ∧ H' = upd H T (.tup [.int (i : Nat), x]) ∧ ∀ xs, SqT K H a xs → xs[i]? = some x, fun i H => ∃ xs : List V, SqT K H a xs ∧ xs.length ≤ i⟩
theorem ap_turn_enumT {P : Program} {w : World} {K : PySem.W.Frag} {elts : List Expr} {kk : Nat} {tpos : Pos} (a e it : Addr) :
    Turn P w K (.Tuple elts kk tpos) (ItE K a) [e, it] e (fun i h => (∃ old, IsEnum h e it ((i : Nat) : Int) old) ∧ h.IsTupleIter it a i ∧ e ≠ it) where
  mem := by simp
  obj := fun i h st b hb => by
    obtain ⟨⟨old, he⟩, ⟨o, ho, hc, hd⟩, _⟩ := st
    have e' : b = e ∨ b = it := by simpa using hb
    rcases e' with z | z
    · rw [z]; exact ⟨_, he, fun v q => nomatch q⟩
    · rw [z]; exact ⟨o, ho, fun v q => by rw [hd] at q; cases q⟩
  keep := fun i h h' st k => let ⟨⟨old, he⟩, hi, hne⟩ := st; ⟨⟨old, k e (by simp) _ he⟩, hi.at fun o q => k it (by simp) o q, hne⟩
  item := by
    intro X hP hw hK hc i pins s σ H E I hf st hg
    subst hP hw hK
    obtain ⟨⟨old, he⟩, hit, hne⟩ := st
    obtain ⟨xs, x, hq, hx⟩ := hg
    obtain ⟨its, rv, p, hz⟩ := I.tuple hq
    obtain ⟨u, hu, ru⟩ := rv.get hx
    have hel : e < s.heap.objs.size := Heap.lt_size he
    have hil : it < s.heap.objs.size := by obtain ⟨_, q, _⟩ := hit; exact Heap.lt_size q
    refine ap_pyNext_enumT_item he hit (show s.heap.IsTuple a its.toArray from p) (x := u) (by simpa using hu) hne fun h' ho hit' hT hsz hk => ?_
    refine ⟨_, rfl, wpAny_letOwnedTupleGo_enum (s := { s with heap := h', toks := s.toks + 1 }) ho fun h'' he' sb => ?_⟩
    have hT2 : h''.get? s.heap.objs.size = some { cls := .type "tuple", data := .seq #[.int i s.toks, u] } := (sb.2 _ (Nat.ne_of_gt hel)).trans hT
    have new : ObjOk X.prog X.w (upd H s.heap.objs.size (.tup [.int (i : Nat), x])) h'' s.heap.objs.size (.tup [.int (i : Nat), x]) :=
      ⟨by show 2 ≤ sizeLine; decide, [.int i s.toks, u], .cons ⟨_, rfl⟩ (.cons ru .nil), ⟨_, hT2, rfl, _, rfl⟩⟩
    have I1 : Inv X pins σ (upd H s.heap.objs.size (.tup [.int (i : Nat), x])) { s with heap := h'', toks := s.toks + 1 } :=
      I.turnedNew (ch := [e, it]) (fun b ob hb q => (sb.2 b (fun z => hb (by simp [z]))).trans (hk b ob (fun z => hb (by simp [z])) (fun z => hb (by simp [z])) q)) hf (Nat.le_refl _) new
    refine ⟨.ref s.heap.objs.size, _, I1, rfl, ⟨_, x, rfl, I.hok.fresh (Nat.le_refl _), rfl, fun ys hy => by rw [I.tuple_inj hy hq]; exact hx⟩, ⟨⟨u, ?_⟩, hit'.at fun o q => (sb.2 it (Ne.symm hne)).trans q, hne⟩, fun b hb => ?_⟩
    · have e1 : ((i + 1 : Nat) : Int) = (i : Int) + 1 := by omega
      rw [e1]; exact he'
    · have hb' : b < s.heap.objs.size := by
        have e' : b = e ∨ b = it := by simpa using hb
        rcases e' with z | z
        · rw [z]; exact hel
        · rw [z]; exact hil
      rw [upd_ne (Nat.ne_of_lt hb')]
      exact (hf b hb).1
  done := by
    intro X hP hw hK hc i pins s σ H E I hf st hg
    subst hP hw hK
    obtain ⟨⟨old, he⟩, hit, hne⟩ := st
    obtain ⟨xs, hq, hx⟩ := hg
    obtain ⟨its, rv, p, hz⟩ := I.tuple hq
    obtain ⟨f0, f1, f2, f3, f4, f5⟩ := hf it (by simp)
    have hl := rv.length
    exact ap_pyNext_enumT_end (I.ok.hd hc) he hit (show s.heap.IsTuple a its.toArray from p) (by simp; omega) fun h' eb => ⟨rfl, I.turned (t' := s.toks) (fun b o hb q => eb b o hb q) f0 f1 f3 f4 f5⟩
  self := fun A i s Q E st h => let ⟨⟨_, he⟩, _⟩ := st; wpAny_pyIter_enum he h
/-- enumerate(list or tuple) -/
def iEnumA (K : PySem.W.Frag) (ta : TA) : TI := fun σ H R => ta σ H fun vs H1 => ∃ a xs, vs = [.ref a] ∧ ((SqL K H1 a xs ∧ R (Ite K a) H1) ∨ (SqT K H1 a xs ∧ R (ItE K a) H1))
theorem ap_pi_enumA {X : Cx} {e : Expr} {ta : TA} {p pos tpos : Pos} {elts : List Expr} {kk : Nat} (hg : Gl X "enumerate") (hm : X.mg "enumerate" = none) (ha : PA X [e] ta) (hs : starEach [e] X.env = [(false, eval e X.env)] := by rfl) :
    PI X (.Tuple elts kk tpos) (.Call (.Name "enumerate" p) [e] [] pos) (iEnumA X.K ta) := by
  refine ⟨fun pins s σ H R I h => ?_⟩
  refine Call_ (ld_blt I hg hm boot_enumerate (PyProof.Rows.callWith_type1 (thn (ha.run pos pins s σ H _ I h) fun us s1 ⟨vs, H1, I1, r1, q1⟩ => ?_) hs rfl))
  obtain ⟨a, xs, ex, q⟩ := q1
  subst ex
  cases r1 with
  | cons r rr =>
    cases rr
    cases r
    have fin : ∀ {h' : Heap} {b : Addr}, (b = s1.heap.objs.size + 1 ∨ b = s1.heap.objs.size) → FpOk X pins H1 b := fun {h' b} e' => by
      have hle : s1.heap.objs.size ≤ b := by
        rcases e' with z | z
        · rw [z]; exact Nat.le_add_right _ _
        · rw [z]; exact Nat.le_refl _
      exact I1.fpOk hle (I1.hok.fresh hle)
    rcases q with ⟨hq, q⟩ | ⟨hq, q⟩
    · obtain ⟨its, rv, p', hz⟩ := I1.list hq
      refine call_enumerate_list p'.isList fun h' he hit hsz hk => wpAny_pyIter_enum he ?_
      have I2 : Inv X pins σ H1 { s1 with heap := h' } := I1.kept (t' := s1.toks) hk
      exact ⟨s1.heap.objs.size + 1, [s1.heap.objs.size + 1, s1.heap.objs.size], _, _, H1, rfl, I2, turn_enum a (s1.heap.objs.size + 1) s1.heap.objs.size, ⟨⟨.none, he⟩, hit, Nat.succ_ne_self _⟩, fun b hb => fin (h' := h') (by simpa using hb), q⟩
    · obtain ⟨its, rv, p', hz⟩ := I1.tuple hq
      refine ap_call_enumT (show s1.heap.IsTuple a its.toArray from p') fun h' he hit hsz hk => wpAny_pyIter_enum he ?_
      have I2 : Inv X pins σ H1 { s1 with heap := h' } := I1.kept (t' := s1.toks) hk
      exact ⟨s1.heap.objs.size + 1, [s1.heap.objs.size + 1, s1.heap.objs.size], _, _, H1, rfl, I2, ap_turn_enumT a (s1.heap.objs.size + 1) s1.heap.objs.size, ⟨⟨.none, he⟩, hit, Nat.succ_ne_self _⟩, fun b hb => fin (h' := h') (by simpa using hb), q⟩
theorem ap_fm_some {α β : Type} (f : α → Option β) (g : α → β) : ∀ l : List α, (∀ x ∈ l, f x = some (g x)) → l.filterMap f = l.map g
  | [], _ => rfl
  | x :: l, h => by
    rw [List.filterMap_cons, h x List.mem_cons_self, List.map_cons, ap_fm_some f g l fun y hy => h y (List.mem_cons_of_mem _ hy)]
/-- the tuple's reversed copy -/
theorem ap_getItem_tuple_rev {prog : Program} {w : World} {A : Around} {E : Value → Shared → Prop} {s : Shared} {t sl : Addr} {items : Array Value} {vl vu vs : Value} {Q : Value → Shared → Prop} (ht : IsTup s.heap t items) (hs : s.heap.IsSliceOf sl vl vu vs) (pl : IsPart vl none) (pu : IsPart vu none) (ps : IsPart vs (some (-1)))
    (h : Q (.ref s.heap.objs.size) { s with heap := s.heap.push { cls := .type "tuple", data := .seq items.toList.reverse.toArray } })
    (hsz : items.size ≤ sizeLine) : wpAny (model prog w) A (getItem (.ref t) (.ref sl)) Q E s := by
  obtain ⟨os, hos, hcs, hds⟩ := id hs
  have hTs : s.TypeIs (.ref sl) "slice" := ⟨os, hos, hcs⟩
  unfold getItem
  try with_reducible refine wpAny_holding ?_
  first | refine wpAny_bind (wpAny_pure ?_) | skip
  refine wpAny_bind (wpAny_sequenceKey ht.typeIs (by decide) ?_)
  refine wpAny_bind (wpAny_callSpecial?_slot (name := Str.ofString "__getitem__") ht.typeIs PyProof.Rows.slot_tuple_getitem
    (wpAny_call_entry PyProof.Rows.slot_tuple_getitem ht.typeIs entry_tuple_getitem ?_ (args_tuple_getitem _ _)))
  show wpAny _ _ (Builtin.Tuple.tupleItemsOf (.ref t) >>= _) _ _ s
  refine wpAny_bind (tupleItemsOf_ ht ?_)
  refine wpAny_bind (wpAny_typeOf hTs ?_)
  rw [if_pos (by decide)]
  have hap : ∀ (A : Around) (E : Value → Shared → Prop) (n : Nat) (Q : Int × Int × Nat → Shared → Prop), Q ((n : Int) - 1, -1, n) s → wpAny (model prog w) A (Builtin.Slice.sliceApplied (.ref sl) (pure (n : Int))) Q E s := fun A E n Q hQ => by
    unfold Builtin.Slice.sliceApplied Builtin.Slice.sliceFields
    refine wpAny_bind (wpAny_bind (wpAny_field hos hds (x := vl) rfl (wpAny_bind (wpAny_field hos hds (x := vu) rfl (wpAny_bind (wpAny_field hos hds (x := vs) rfl (wpAny_pure ?_)))))))
    refine wpAny_bind (HT.slicePart_ ps ?_)
    show wpAny _ _ (if ((-1 : Int) == 0) = true then _ else _) _ _ s
    rw [if_neg (by decide)]
    refine wpAny_bind (HT.slicePart_ pl (wpAny_bind (HT.slicePart_ pu (wpAny_bind (wpAny_pure ?_)))))
    have e1 : Builtin.Slice.sliceAdjust none none (-1) (n : Int) = ((n : Int) - 1, -1) := by
      unfold Builtin.Slice.sliceAdjust
      simp
    have e2 : Builtin.Slice.slicePlaces ((n : Int) - 1) (-1) (-1) = n := by
      unfold Builtin.Slice.slicePlaces
      simp only [show ¬ ((-1 : Int) > 0) by decide, if_false]
      split
      · simp
      · omega
    show wpAny _ _ (match Builtin.Slice.sliceAdjust none none (-1) (n : Int) with | (lo, hi) => pure (lo, (-1 : Int), Builtin.Slice.slicePlaces lo hi (-1))) _ _ s
    rw [e1]
    show wpAny _ _ (pure ((n : Int) - 1, (-1 : Int), Builtin.Slice.slicePlaces ((n : Int) - 1) (-1) (-1))) _ _ s
    rw [e2]
    exact wpAny_pure hQ
  refine wpAny_bind (hap _ _ _ _ ?_)
  have hno : ¬ ((((items.size : Int) - 1) == 0 && (-1 : Int) == 1 && items.size == items.size) = true) := by simp
  show wpAny _ _ (if (((items.size : Int) - 1) == 0 && (-1 : Int) == 1 && items.size == items.size) = true then _ else _) _ _ s
  rw [if_neg hno]
  have e3 : ((List.range items.size).filterMap fun (m : Nat) => items[((items.size : Int) - 1 + (m : Int) * (-1)).toNat]?).toArray = items.toList.reverse.toArray := by
    congr 1
    apply List.ext_getElem?
    intro i
    have : ((List.range items.size).filterMap fun (m : Nat) => items[((items.size : Int) - 1 + (m : Int) * (-1)).toNat]?) = (List.range items.size).map fun m => (items[items.size - 1 - m]?).getD .none := by
      refine ap_fm_some _ _ _ fun m hm => ?_
      have hm : m < items.size := List.mem_range.mp hm
      have e : ((items.size : Int) - 1 + (m : Int) * (-1)).toNat = items.size - 1 - m := by omega
      rw [e]
      have hl : items.size - 1 - m < items.size := by omega
      simp [hl]
    rw [this]
    by_cases hi : i < items.size
    · have hl : items.size - 1 - i < items.size := by omega
      rw [List.getElem?_map, List.getElem?_range hi, List.getElem?_reverse (by simpa using hi)]
      simp [hl]
    · rw [List.getElem?_eq_none (by simp; omega), List.getElem?_eq_none (by simp; omega)]
  have hsz2 : sizeOk (.seq items.toList.reverse.toArray) := by
    show items.toList.reverse.toArray.size ≤ sizeLine
    simpa using hsz
  rw [e3]
  first
    | exact wpAny_bind (m := Builtin.Tuple.tupleExact _) (wpAny_newObj_type (wpAny_pure ⟨_, rfl, wpAny_pure h⟩) hsz2)
    | exact wpAny_bind (m := Builtin.Tuple.tupleExact _) (wpAny_newObj_type (wpAny_bind (wpAny_pure (wpAny_pure ⟨_, rfl, wpAny_pure h⟩))) hsz2)
    | exact wpAny_bind (wpAny_bind (m := Builtin.Tuple.tupleExact _) (wpAny_newObj_type (wpAny_pure (wpAny_pure ⟨_, rfl, wpAny_pure h⟩)) hsz2))
    | exact wpAny_bind (wpAny_bind (m := Builtin.Tuple.tupleExact _) (wpAny_newObj_type (wpAny_pure ⟨_, rfl, wpAny_pure h⟩) hsz2))
end L2
end
section
/-! AP5: isinstance, mutable slots, what is walked -/
namespace AP
open PySem PySem.Spec PyProof.Rows L2

/-! ### stars -/
def noStar : Expr → Bool
  | .Starred .. => false
  | _ => true
theorem star_cons {e : Expr} {es : List Expr} {env : PySem.Env} (h : noStar e = true) : starEach (e :: es) env = (false, eval e env) :: starEach es env := by
  cases e <;> first | rfl | cases h
theorem star_any : ∀ {es : List Expr} {env : PySem.Env} {pos : Pos}, es.all noStar = true → (backTo pos (starEach es env)).any (·.1) = false
  | [], _, _, _ => rfl
  | e :: es, env, pos, h => by
    rw [List.all_cons, Bool.and_eq_true] at h
    rw [star_cons h.1]
    show (false || (backTo pos (starEach es env)).any (·.1)) = false
    rw [star_any h.2]; rfl
theorem star_one {e : Expr} {env : PySem.Env} (h : noStar e = true) : starEach [e] env = [(false, eval e env)] := star_cons h
/-- tests of a value -/
def plainTest : Expr → Bool
  | .UnaryOp .Not _ _ => false | .BoolOp .. => false | .IfExp .. => false | .Compare .. => false
  | _ => true
theorem plain_isTrue {e : Expr} {env : PySem.Env} (h : plainTest e = true) : ∀ whole, isTrue e env whole = (do let v ← whole; standAt e.pos; holding [v] (truthy v)) := by
  intro whole
  cases e with
  | UnaryOp o x p => cases o <;> first | rfl | cases h
  | BoolOp => cases h
  | IfExp => cases h
  | Compare => cases h
  | _ => rfl
def plainSlice : Expr → Bool
  | .Slice .. => false
  | _ => true
theorem plain_ix {e : Expr} (h : plainSlice e = true) : PlainIx e := by
  intro o i
  cases e <;> first | rfl | cases h

/-! ### isinstance -/
theorem isi_ty {g : Glb} {Fz H : Hp} {x : V} {d : D} {T : String} {b : Bool} (e : Ext Fz H) (r : Rep g Fz x d) (h : isiD d (.ty T) = some b) : ∃ t, TyX g.K H x t ∧ PySem.W.kitOne g.K t (.type T) = some b := by
  have key : ∃ a : String, d.tyN = some a ∧ isiT a T = some b := Option.bind_eq_some_iff.mp h
  obtain ⟨a, ha, hb⟩ := key
  have kt : PySem.W.kitOne g.K (.type a) (.type T) = some b := by
    refine kit_ty ?_
    have ha2 : a = "NoneType" ∨ a = "bool" ∨ a = "int" ∨ a = "str" ∨ a = "tuple" ∨ a = "list" := by
      cases d <;> cases ha <;> simp
    have hT : T = "int" ∨ T = "bool" ∨ T = "tuple" ∨ T = "list" ∨ T = "str" := by
      unfold isiT at hb
      repeat' split at hb
      all_goals first | (cases hb; done) | (simp [*]; done)
    rcases hT with rfl | rfl | rfl | rfl | rfl <;> rcases ha2 with rfl | rfl | rfl | rfl | rfl | rfl <;> (rw [← hb]; decide +kernel)
  refine ⟨.type a, ?_, kt⟩
  cases r with
  | non => cases ha; exact .base .non
  | bl => cases ha; exact .base (.bl _)
  | int => cases ha; exact .base (.int _)
  | str => cases ha; exact .base (.str _)
  | tup a1 _ =>
    cases ha
    rcases SqT.ext e a1 with (q | ⟨o, q⟩) | ⟨o, its, n, hk, hc, _⟩
    · exact .base (.tup q)
    · exact .fTuple q
    · exact .kTuple hk hc
  | lst a1 _ => cases ha; exact .base (.lst (e _ _ a1))
  | fn => cases ha
  | scr => cases ha
section
variable {p : Pa} {X : Cx} {W : WX} {a b c e : Expr} {fa fb fc : Env → ERes Val} {pos p1 p2 : Pos}
theorem s_isi (hg : p.g.K = X.K) {T : String} {n : Str} (hT : bootBuiltins n = some (.type T)) (hgl : Gl X "isinstance") (hm : X.mg "isinstance" = none) (hgn : Gl X n) (hmn : X.mg n = none) (hn : n ≠ "__name__") (hd : (n == ("__debug__" : Str)) = false) (ha : PE X a (tO p X W fa)) (hs : noStar a = true) :
    PE X (.Call (.Name "isinstance" p1) [a, .Name n p2] [] pos) (tO p X W fun ρ => (frz (fa ρ)).bind fun x ρ => ofO ((isiD x (.ty T)).map fun k => .dat (.bl k)) ρ) := by
  refine PE.imp (pe_callB (r := rIsi X.K) call_isi hgl hm (by decide +kernel) (pa_cons (s_frz ha) (pa_cons (pe_bltn (v := .ty T) hgn hmn hT rfl hn hd) pa_nil rfl) (star_cons hs)) (by decide +kernel) (by decide +kernel) (star_cons hs) (star_any rfl)) fun σ H Q h => tR.bind h fun H0 Lt Fz v ρ' x H' S r q => ?_
  obtain ⟨z, hz, q2⟩ := ofO_post q
  obtain ⟨k, hk, rfl⟩ := Option.map_eq_some_iff.mp hz
  obtain ⟨t, h1, h2⟩ := isi_ty S.ext r hk
  rw [hg] at h1 h2
  exact ⟨x, .ty T, t, .type T, k, rfl, .ty T, h1, h2, q2 _ Fz H' (Ext.refl _) S (.bl k)⟩

/-! ### a mutable slot is written -/
theorem StRep.wr {H0 : Hp} {Lt : List Addr} {Fz H : Hp} {ρ : Env} {σ : St} (S : StRep p H0 Lt Fz ρ σ H) {i : Nat} {a0 : Addr} {xs ys : List V} {ds : List D} (hm : isMut ρ[i]? = true) (e0 : σ[i]? = some (some (V.ref a0))) (hh : H a0 = some (.lst xs)) (r : RepL p.g Fz ys ds) :
    StRep p H0 Lt Fz (ρ.set i (putS ρ[i]? ds)) σ (upd H a0 (.lst ys)) := by
  obtain ⟨a1, xs1, ds1, e1, h1, f1, r1, k1⟩ := S.mutAt hm
  rw [e0] at e1; cases e1
  have hi : i < ρ.length := by
    rcases k1 with ⟨z, _⟩ | ⟨z, _⟩ <;> exact (List.getElem?_eq_some_iff.mp z).1
  have mu : ∀ j : Nat, isMut (ρ.set i (putS ρ[i]? ds))[j]? = true → isMut ρ[j]? = true := fun j h => by
    by_cases hj : j = i
    · subst hj; exact hm
    · rw [set_get_ne hj] at h; exact h
  refine ⟨fun b o q => ?_, fun b o q n t => ?_, fun j s q => ?_, fun j k b hjk mj mk => S.apart j k b hjk (mu j mj) (mu k mk), by rw [List.length_set]; exact S.len, fun b h => ?_, p.tupd _ _ _ _ hh S.tab, fun b o q => ?_, S.ntb, S.old, S.f0⟩
  · rw [upd_ne (fun z => by rw [z, f1] at q; cases q)]; exact S.ext b o q
  · have nb : b ≠ a0 := fun z => by
      subst z
      rcases k1 with ⟨_, z1, _⟩ | ⟨_, z1⟩
      · rw [z1] at q; cases q
      · exact n z1
    rw [upd_ne nb]; exact S.base b o q n t
  · by_cases hj : j = i
    · subst hj
      rw [List.getElem?_set_self hi] at q
      cases q
      rcases k1 with ⟨z, z1, z2⟩ | ⟨z, z1⟩
      · rw [z]; exact ⟨a0, ys, e0, f1, z1, z2, upd_same, r⟩
      · rw [z]; exact ⟨a0, ys, e0, f1, z1, upd_same, r⟩
    · rw [set_get_ne hj] at q
      have z := S.slot j s q
      cases s with
      | no => trivial
      | dat d => exact z
      | own m => cases m with
        | lst es =>
          obtain ⟨b, zs, e2, f2, h2, l2, hh2, r2⟩ := z
          have nb : b ≠ a0 := fun z => S.apart j i a0 hj (by rw [q]; rfl) hm (by rw [← z]; exact e2) e0
          exact ⟨b, zs, e2, f2, h2, l2, by rw [upd_ne nb]; exact hh2, r2⟩
      | lent m => cases m with
        | lst es =>
          obtain ⟨b, zs, e2, f2, l2, hh2, r2⟩ := z
          have nb : b ≠ a0 := fun z => S.apart j i a0 hj (by rw [q]; rfl) hm (by rw [← z]; exact e2) e0
          exact ⟨b, zs, e2, f2, l2, by rw [upd_ne nb]; exact hh2, r2⟩
      | clo c => exact z
  · by_cases hb : b = a0
    · subst hb; exact ⟨_, upd_same⟩
    · rw [upd_ne hb]; exact S.lt b h
  · by_cases hb : b = a0
    · subst hb; exact ⟨_, upd_same⟩
    · rw [upd_ne hb]; exact S.tbs b o q
theorem mutL_some {s : Option Slot} {ds : List D} (h : mutL s = some ds) : isMut s = true := by
  cases s with
  | none => cases h
  | some s => cases s <;> first | rfl | cases h
/-- what a mutable slot holds, by the heap -/
theorem StRep.mutGet {H0 : Hp} {Lt : List Addr} {Fz H : Hp} {ρ : Env} {σ : St} (S : StRep p H0 Lt Fz ρ σ H) {i : Nat} {ds : List D} (h : mutL ρ[i]? = some ds) : ∃ a xs, σ[i]? = some (some (.ref a)) ∧ H a = some (.lst xs) ∧ RepL p.g Fz xs ds := by
  obtain ⟨a, xs, es, e1, h1, f1, r1, k1⟩ := S.mutAt (mutL_some h)
  refine ⟨a, xs, e1, h1, ?_⟩
  rcases k1 with ⟨z, _⟩ | ⟨z, _⟩ <;> (rw [z] at h; cases h; exact r1)
/-- x.pop(0) -/
theorem s_pop0 {i : Nat} {x : Str} {apos p3 : Pos} {j : Nat} (n : Nm X i x) (hl : (apos.endLine == pos.line) = true) :
    PE X (.Call (.Attribute (.Name x p1) "pop" apos) [.Constant (.int 0) j p3] [] pos) (tO p X W fun ρ => match mutL ρ[i]? with
      | some (x :: r) => .ok (.dat x) (ρ.set i (putS ρ[i]? r))
      | _ => .stuck) := by
  have hm : MtR X "list.pop" rPopAt := mt_popAt
  refine PE.imp (pe_bm PySem.F.plainAttrs_list PySem.F.slot_list_pop PySem.F.type_list_pop hm (pe_var (pos := p1) n.at_ n.vis n.d1 n.d2) (pa_cons (pe_int (i := 0)) pa_nil rfl) rfl (by rfl) hl rfl rfl) fun σ H Q ⟨H0, Lt, Fz, ρ, S, q⟩ => ?_
  change Post (rO p) p X W H0 Lt Fz σ Q (match mutL ρ[i]? with
      | some (x :: r) => .ok (.dat x) (ρ.set i (putS ρ[i]? r))
      | _ => .stuck) at q
  split at q
  · rename_i d r hd
    obtain ⟨a, xs, e1, h1, rr⟩ := S.mutGet hd
    cases rr with
    | @cons v vs _ _ hv hr =>
      refine ⟨_, e1, .inl ⟨rfl, _, SqL.of h1⟩, a, v :: vs, 0, 0, v, rfl, rfl, h1, by decide, by decide, ?_, rfl, ?_⟩
      · show seqIndex? 0 (v :: vs).length = some 0
        unfold seqIndex?
        simp
      · exact q v Fz _ (Ext.refl _) (S.wr (mutL_some hd) e1 h1 hr) hv
  · exact q.elim
/-- x.pop() -/
theorem s_popL {i : Nat} {x : Str} {apos : Pos} (n : Nm X i x) (hl : (apos.endLine == pos.line) = true) :
    PE X (.Call (.Attribute (.Name x p1) "pop" apos) [] [] pos) (tO p X W fun ρ => match mutL ρ[i]? with
      | some l => (match l[l.length - 1]? with | some x => .ok (.dat x) (ρ.set i (putS ρ[i]? l.dropLast)) | none => .stuck)
      | none => .stuck) := by
  have hm : MtR X "list.pop" rPop := mt_pop
  refine PE.imp (pe_bm0 PySem.F.plainAttrs_list PySem.F.slot_list_pop PySem.F.type_list_pop hm (pe_var (pos := p1) n.at_ n.vis n.d1 n.d2) rfl hl) fun σ H Q ⟨H0, Lt, Fz, ρ, S, q⟩ => ?_
  change Post (rO p) p X W H0 Lt Fz σ Q (match mutL ρ[i]? with
      | some l => (match l[l.length - 1]? with | some x => .ok (.dat x) (ρ.set i (putS ρ[i]? l.dropLast)) | none => .stuck)
      | none => .stuck) at q
  split at q
  · rename_i l hd
    obtain ⟨a, xs, e1, h1, rr⟩ := S.mutGet hd
    split at q
    · rename_i d hx
      obtain ⟨v, hv, rv⟩ := rr.get hx
      rw [← rr.length] at hv
      refine ⟨_, e1, .inl ⟨rfl, _, SqL.of h1⟩, a, xs, v, rfl, rfl, h1, hv, ?_⟩
      have r2 : RepL p.g Fz xs.dropLast l.dropLast := by
        rw [List.dropLast_eq_take, List.dropLast_eq_take, rr.length]
        exact rr.take _
      exact q v Fz _ (Ext.refl _) (S.wr (mutL_some hd) e1 h1 r2) rv
    · exact q.elim
  · exact q.elim
end
end AP
end
section
/-! AP6: what is walked, comprehensions -/
namespace AP
open PySem PySem.Spec PyProof.Rows L2

/-- J gives ds, while what stood in the frozen part stands -/
structure Src (p : Pa) (F : Hp) (J : It) (ds : List D) : Prop where
  goes : ∀ (i : Nat) H, i < ds.length → Ext F H → J.go i H
  stops : ∀ H, Ext F H → J.stop ds.length H
  yields : ∀ (i : Nat) H x H' Fz d, ds[i]? = some d → Ext F Fz → Ext Fz H → J.yld i H x H' → ∃ Fz', Grow Fz H Fz' H' ∧ Rep p.g Fz' x d
theorem Src.ext {p : Pa} {F G : Hp} {J : It} {ds : List D} (s : Src p F J ds) (e : Ext F G) : Src p G J ds :=
  ⟨fun i H hi x => s.goes i H hi (e.trans x), fun H x => s.stops H (e.trans x), fun i H x H' Fz d hd a b y => s.yields i H x H' Fz d hd (e.trans a) b y⟩
section
variable {p : Pa} {F : Hp} {K : PySem.W.Frag} {a b : Addr} {xs ys : List V} {ds es : List D}
theorem src_list (h : F a = some (.lst xs)) (r : RepL p.g F xs ds) : Src p F (Itl K a) ds := by
  have hl := r.length
  have w := walk_list (K := K) (a := a) (xs := xs)
  rw [hl] at w
  refine ⟨fun i H hi x => w.goes i H hi (SqL.of (x _ _ h)), fun H x => w.stops H (SqL.of (x _ _ h)), fun i H x H' Fz d hd e1 e2 y => ?_⟩
  obtain ⟨rfl, hx⟩ := w.yields i H x H' (List.getElem?_eq_some_iff.mp hd).1 (SqL.of (e2 _ _ (e1 _ _ h))) y
  obtain ⟨v, hv, rv⟩ := r.get hd
  rw [hx] at hv; cases hv
  exact ⟨Fz, Grow.refl e2, Rep.ext e1 _ _ rv⟩
theorem src_tup (h : SqT K F a xs) (r : RepL p.g F xs ds) : Src p F (Itt K a) ds := by
  have hl := r.length
  have w := walk_tup (K := K) (a := a) (xs := xs)
  rw [hl] at w
  refine ⟨fun i H hi x => w.goes i H hi (SqT.ext x h), fun H x => w.stops H (SqT.ext x h), fun i H x H' Fz d hd e1 e2 y => ?_⟩
  obtain ⟨rfl, hx⟩ := w.yields i H x H' (List.getElem?_eq_some_iff.mp hd).1 (SqT.ext e2 (SqT.ext e1 h)) y
  obtain ⟨v, hv, rv⟩ := r.get hd
  rw [hx] at hv; cases hv
  exact ⟨Fz, Grow.refl e2, Rep.ext e1 _ _ rv⟩
theorem src_str {z : Str} : Src p F (Its z) (z.cps.toList.map fun c => .str ⟨#[c]⟩) := by
  have hl : (z.cps.toList.map fun c => D.str ⟨#[c]⟩).length = z.cps.size := by simp
  refine ⟨fun i H hi x => by rw [hl] at hi; exact hi, fun H x => by rw [hl]; exact Nat.le_refl _, fun i H x H' Fz d hd e1 e2 y => ?_⟩
  obtain ⟨rfl, c, hc, rfl⟩ := y
  rw [List.getElem?_map] at hd
  have e : z.cps.toList[i]? = some c := by simpa using hc
  rw [e] at hd; cases hd
  exact ⟨Fz, Grow.refl e2, .str _⟩
theorem rangeD_get {c : Int} : ∀ (n i : Nat) (lo : Int), i < n → (rangeD lo c n)[i]? = some (.int (lo + (i : Nat) * c))
  | 0, _, _, h => absurd h (Nat.not_lt_zero _)
  | n + 1, 0, lo, _ => by simp [rangeD]
  | n + 1, i + 1, lo, h => by
    show (rangeD (lo + c) c n)[i]? = _
    rw [rangeD_get n i (lo + c) (by omega)]
    congr 2
    have : ((i + 1 : Nat) : Int) * c = (i : Int) * c + c := by push_cast; rw [Int.add_mul, Int.one_mul]
    omega
theorem rangeD_len {c : Int} : ∀ (n : Nat) (lo : Int), (rangeD lo c n).length = n
  | 0, _ => rfl
  | n + 1, lo => by show (rangeD (lo + c) c n).length + 1 = n + 1; rw [rangeD_len n]
theorem src_rangeC {lo c : Int} {n : Nat} : Src p F (Itc lo c n) (rangeD lo c n) := by
  refine ⟨fun i H hi x => by rw [rangeD_len] at hi; exact hi, fun H x => by rw [rangeD_len]; exact Nat.le_refl _, fun i H x H' Fz d hd e1 e2 y => ?_⟩
  obtain ⟨rfl, rfl⟩ := y
  have hi := (List.getElem?_eq_some_iff.mp hd).1
  rw [rangeD_len] at hi
  rw [rangeD_get _ _ _ hi] at hd; cases hd
  exact ⟨Fz, Grow.refl e2, .int _⟩
theorem src_range {lo : Int} {n : Nat} : Src p F (Itr lo n) (rangeD lo 1 n) := by
  refine ⟨fun i H hi x => by rw [rangeD_len] at hi; exact hi, fun H x => by rw [rangeD_len]; exact Nat.le_refl _, fun i H x H' Fz d hd e1 e2 y => ?_⟩
  obtain ⟨rfl, rfl⟩ := y
  have hi := (List.getElem?_eq_some_iff.mp hd).1
  rw [rangeD_len] at hi
  rw [rangeD_get _ _ _ hi, Int.mul_one] at hd; cases hd
  exact ⟨Fz, Grow.refl e2, .int _⟩
theorem enumD_get : ∀ (ds : List D) (n i : Nat), (enumD n ds)[i]? = (ds[i]?).map fun d => .tup [.int ((n + i : Nat) : Int), d]
  | [], _, _ => by simp [enumD]
  | d :: r, n, 0 => by simp [enumD]
  | d :: r, n, i + 1 => by
    show (enumD (n + 1) r)[i]? = _
    rw [enumD_get r (n + 1) i]
    simp only [List.getElem?_cons_succ]
    have : n + 1 + i = n + (i + 1) := by omega
    rw [this]
theorem enumD_len : ∀ (ds : List D) (n : Nat), (enumD n ds).length = ds.length
  | [], _ => rfl
  | d :: r, n => by show (enumD (n + 1) r).length + 1 = _; rw [enumD_len r]; rfl
theorem zipD_get : ∀ (ds es : List D) (i : Nat), (zipD ds es)[i]? = match ds[i]?, es[i]? with | some d, some e => some (.tup [d, e]) | _, _ => none
  | [], es, i => by simp [zipD]
  | d :: r, [], i => by
    simp only [zipD, List.getElem?_nil]
    split <;> first | rfl | (rename_i h; cases h)
  | d :: r, e :: s, 0 => by simp [zipD]
  | d :: r, e :: s, i + 1 => by
    show (zipD r s)[i]? = _
    rw [zipD_get r s i]; rfl
theorem zipD_len : ∀ (ds es : List D), (zipD ds es).length = min ds.length es.length
  | [], es => by simp [zipD]
  | d :: r, [] => by simp [zipD]
  | d :: r, e :: s => by
    show (zipD r s).length + 1 = _
    rw [zipD_len r s]
    simp only [List.length_cons]
    omega
/-- a new pair -/
theorem grow_pair {H H' Fz : Hp} {T : Addr} {x y : V} {d e : D} (e2 : Ext Fz H) (n : H T = none) (eh : H' = upd H T (.tup [x, y])) (rx : Rep p.g Fz x d) (ry : Rep p.g Fz y e) : ∃ Fz', Grow Fz H Fz' H' ∧ Rep p.g Fz' (.ref T) (.tup [d, e]) := by
  subst eh
  have e1 : Ext Fz (upd Fz T (.tup [x, y])) := ext_upd (ext_none e2 n)
  exact ⟨upd Fz T (.tup [x, y]), Grow.add e2 n, .tup (SqT.of upd_same) (.cons (Rep.ext e1 _ _ rx) (.cons (Rep.ext e1 _ _ ry) .nil))⟩
theorem src_enum (h : F a = some (.lst xs)) (r : RepL p.g F xs ds) : Src p F (Ite K a) (enumD 0 ds) := by
  have hl := r.length
  refine ⟨fun i H hi x => ?_, fun H x => ⟨xs, SqL.of (x _ _ h), by rw [enumD_len, hl]; exact Nat.le_refl _⟩, fun i H x H' Fz d hd e1 e2 y => ?_⟩
  · rw [enumD_len, ← hl] at hi
    exact ⟨xs, xs[i], SqL.of (x _ _ h), by simp [hi]⟩
  · rw [enumD_get] at hd
    obtain ⟨d0, h0, rfl⟩ := Option.map_eq_some_iff.mp hd
    obtain ⟨T, v, rfl, n, eh, hx⟩ := y
    have hv := hx xs (SqL.of (e2 _ _ (e1 _ _ h)))
    obtain ⟨v', hv', rv⟩ := r.get h0
    rw [hv] at hv'; cases hv'
    rw [Nat.zero_add]
    exact grow_pair e2 n eh (.int _) (Rep.ext e1 _ _ rv)
theorem src_enumT (h : SqT K F a xs) (r : RepL p.g F xs ds) : Src p F (ItE K a) (enumD 0 ds) := by
  have hl := r.length
  refine ⟨fun i H hi x => ?_, fun H x => ⟨xs, SqT.ext x h, by rw [enumD_len, hl]; exact Nat.le_refl _⟩, fun i H x H' Fz d hd e1 e2 y => ?_⟩
  · rw [enumD_len, ← hl] at hi
    exact ⟨xs, xs[i], SqT.ext x h, by simp [hi]⟩
  · rw [enumD_get] at hd
    obtain ⟨d0, h0, rfl⟩ := Option.map_eq_some_iff.mp hd
    obtain ⟨T, v, rfl, n, eh, hx⟩ := y
    have hv := hx xs (SqT.ext e2 (SqT.ext e1 h))
    obtain ⟨v', hv', rv⟩ := r.get h0
    rw [hv] at hv'; cases hv'
    rw [Nat.zero_add]
    exact grow_pair e2 n eh (.int _) (Rep.ext e1 _ _ rv)
theorem zip_at {i : Nat} {d : D} (hd : (zipD ds es)[i]? = some d) : ∃ d1 d2, d = .tup [d1, d2] ∧ ds[i]? = some d1 ∧ es[i]? = some d2 := by
  rw [zipD_get] at hd
  split at hd
  · rename_i d1 d2 h1 h2; cases hd; exact ⟨d1, d2, rfl, h1, h2⟩
  · cases hd
theorem src_zip (h : F a = some (.lst xs)) (r : RepL p.g F xs ds) (h2 : F b = some (.lst ys)) (r2 : RepL p.g F ys es) : Src p F (Itz K a b) (zipD ds es) := by
  have hl := r.length
  have hl2 := r2.length
  refine ⟨fun i H hi x => ?_, fun H x => ⟨xs, ys, SqL.of (x _ _ h), SqL.of (x _ _ h2), by rw [zipD_len]; omega⟩, fun i H x H' Fz d hd e1 e2 y => ?_⟩
  · rw [zipD_len] at hi
    have i1 : i < xs.length := by omega
    have i2 : i < ys.length := by omega
    exact ⟨xs, ys, xs[i], ys[i], SqL.of (x _ _ h), SqL.of (x _ _ h2), by simp [i1], by simp [i2]⟩
  · obtain ⟨d1, d2, rfl, k1, k2⟩ := zip_at hd
    obtain ⟨T, v, w, rfl, n, eh, hx, hy⟩ := y
    have hv := hx xs (SqL.of (e2 _ _ (e1 _ _ h)))
    have hw := hy ys (SqL.of (e2 _ _ (e1 _ _ h2)))
    obtain ⟨v', hv', rv⟩ := r.get k1
    obtain ⟨w', hw', rw'⟩ := r2.get k2
    rw [hv] at hv'; cases hv'
    rw [hw] at hw'; cases hw'
    exact grow_pair e2 n eh (Rep.ext e1 _ _ rv) (Rep.ext e1 _ _ rw')
theorem src_zipT (h : SqT K F a xs) (r : RepL p.g F xs ds) (h2 : SqT K F b ys) (r2 : RepL p.g F ys es) : Src p F (RZ.ItzT K a b) (zipD ds es) := by
  have hl := r.length
  have hl2 := r2.length
  refine ⟨fun i H hi x => ?_, fun H x => ⟨xs, ys, SqT.ext x h, SqT.ext x h2, by rw [zipD_len]; omega⟩, fun i H x H' Fz d hd e1 e2 y => ?_⟩
  · rw [zipD_len] at hi
    have i1 : i < xs.length := by omega
    have i2 : i < ys.length := by omega
    exact ⟨xs, ys, xs[i], ys[i], SqT.ext x h, SqT.ext x h2, by simp [i1], by simp [i2]⟩
  · obtain ⟨d1, d2, rfl, k1, k2⟩ := zip_at hd
    obtain ⟨T, v, w, rfl, n, eh, hx, hy⟩ := y
    have hv := hx xs (SqT.ext e2 (SqT.ext e1 h))
    have hw := hy ys (SqT.ext e2 (SqT.ext e1 h2))
    obtain ⟨v', hv', rv⟩ := r.get k1
    obtain ⟨w', hw', rw'⟩ := r2.get k2
    rw [hv] at hv'; cases hv'
    rw [hw] at hw'; cases hw'
    exact grow_pair e2 n eh (Rep.ext e1 _ _ rv) (Rep.ext e1 _ _ rw')
end

/-- what is walked, as data -/
abbrev rI (p : Pa) : RT It (List D) := fun _ _ Fz _ _ _ J ds => Src p Fz J ds
abbrev tI (p : Pa) (X : Cx) (W : WX) (f : Env → ERes (List D)) : TI := tR (rI p) p X W f
section
variable {p : Pa} {X : Cx} {W : WX} {a b c e tg : Expr} {fa fb fc : Env → ERes Val} {pos p1 p2 : Pos}
/-- a list, a tuple, a text -/
def iAny (K : PySem.W.Frag) (tl : TE) : TI := fun σ H R => tl σ H fun x H1 => (∃ a xs, x = .ref a ∧ SqL K H1 a xs ∧ R (Itl K a) H1) ∨ (∃ a xs, x = .ref a ∧ SqT K H1 a xs ∧ R (Itt K a) H1) ∨ ∃ z, x = .str z ∧ R (Its z) H1
theorem pi_any {tl : TE} (hl : PE X e tl) : PI X tg e (iAny X.K tl) := by
  refine ⟨fun pins s σ H R I h => ?_⟩
  refine thn (hl.run pins s σ H _ I h) fun v s1 ⟨x, H1, I1, r1, q1⟩ => ?_
  rcases q1 with ⟨a, xs, rfl, hq, q⟩ | ⟨a, xs, rfl, hq, q⟩ | ⟨z, rfl, q⟩
  · cases r1
    obtain ⟨its, rv, p, hz⟩ := I1.list hq
    refine wpAny_pyIter_list p.isList (pi_one (tk := s1.toks) I1 _ (turn_list a _) ⟨_, Heap.get?_push_size _ rfl, rfl, rfl⟩ q)
  · cases r1
    obtain ⟨its, rv, p, hz⟩ := I1.tuple hq
    refine wpAny_pyIter_tuple (show s1.heap.IsTuple a its.toArray from p) (pi_one (tk := s1.toks) I1 _ (turn_tuple a _) ⟨_, Heap.get?_push_size _ rfl, rfl, rfl⟩ q)
  · obtain ⟨t, rfl⟩ := r1
    cases ha : z.cps.all (· < 128)
    · exact wpAny_pyIter_wide ha (pi_one (tk := s1.toks) I1 _ (turn_str _ z t "str_iterator" (.inr rfl)) ⟨_, Heap.get?_push_size _ rfl, rfl, rfl⟩ q)
    · exact wpAny_pyIter_ascii ha (pi_one (tk := s1.toks) I1 _ (turn_str _ z t "str_ascii_iterator" (.inl rfl)) ⟨_, Heap.get?_push_size _ rfl, rfl, rfl⟩ q)
theorem s_itSeq (hg : p.g.K = X.K) (ha : PE X a (tO p X W fa)) : PI X tg a (tI p X W fun ρ => (frz (fa ρ)).bind fun d ρ => ofO (seqOf d) ρ) := by
  refine PI.imp (pi_any (s_frz ha)) fun σ H Q h => tR.bind h fun H0 Lt Fz v ρ' x H' S r q => ?_
  obtain ⟨ds, hd, q2⟩ := ofO_post q
  unfold seqOf at hd
  split at hd
  · cases hd
    cases r with
    | lst a1 a2 => exact .inl ⟨_, _, rfl, SqL.of (S.ext _ _ a1), q2 _ Fz H' (Ext.refl _) S (src_list a1 a2)⟩
  · cases hd
    cases r with
    | tup a1 a2 => exact .inr (.inl ⟨_, _, rfl, SqT.to hg S.ext a1, q2 _ Fz H' (Ext.refl _) S (src_tup (SqT.to hg (Ext.refl _) a1) a2)⟩)
  · cases hd
    cases r
    exact .inr (.inr ⟨_, rfl, q2 _ Fz H' (Ext.refl _) S src_str⟩)
  · cases hd
theorem r62 {i : Int} (h : range62 i = true) : -(2 ^ 62) ≤ i ∧ i < 2 ^ 62 := by
  unfold range62 at h
  simpa only [Bool.and_eq_true, decide_eq_true_eq] using h
theorem s_itR1 (hgl : Gl X "range") (hm : X.mg "range" = none) (ha : PE X a (tO p X W fa)) (hs : noStar a = true) :
    PI X tg (.Call (.Name "range" p1) [a] [] pos) (tI p X W fun ρ => (frz (fa ρ)).bind fun x ρ => match x with | .int j => (if range62 j then .ok (rangeD 0 1 j.toNat) ρ else .stuck) | _ => .stuck) := by
  refine PI.imp (pi_range1 hgl hm (pa_cons (s_frz ha) pa_nil (star_cons hs)) (star_one hs)) fun σ H Q h => tR.bind h fun H0 Lt Fz v ρ' x H' S r q => ?_
  cases r with
  | int j =>
    by_cases hj : range62 j = true
    · dsimp only at q
      rw [if_pos hj] at q
      obtain ⟨h1, h2⟩ := r62 hj
      exact ⟨j, rfl, h1, h2, q _ Fz H' (Ext.refl _) S src_range⟩
    · dsimp only at q
      rw [if_neg hj] at q; exact q.elim
  | _ => exact q.elim
theorem s_itR2 (hgl : Gl X "range") (hm : X.mg "range" = none) (ha : PE X a (tO p X W fa)) (hb : PE X b (tO p X W fb)) (hs : noStar a = true) (hs2 : noStar b = true) :
    PI X tg (.Call (.Name "range" p1) [a, b] [] pos) (tI p X W fun ρ => (frz (fa ρ)).bind fun x ρ => (frz (fb ρ)).bind fun y ρ => match x, y with | .int i, .int j => (if range62 i && range62 j then .ok (rangeD i 1 (j - i).toNat) ρ else .stuck) | _, _ => .stuck) := by
  have st : ∀ env, starEach [a, b] env = [(false, eval a env), (false, eval b env)] := fun env => by rw [star_cons hs, star_one hs2]
  refine PI.imp (pi_range2 hgl hm (pa_cons (s_frz ha) (pa_cons (s_frz hb) pa_nil (star_cons hs2)) (star_cons hs)) (st _) (star_one hs2)) fun σ H Q h => tR.bind h fun H0 Lt Fz v ρ' x H' S r q => ⟨H0, Lt, Fz, ρ', S, Post.bind q fun w ρ2 y F2 H2 e2 S2 r2 q2 => ?_⟩
  cases r with
  | int i =>
    cases r2 with
    | int j =>
      dsimp only at q2
      by_cases hj : (range62 i && range62 j) = true
      · rw [if_pos hj] at q2
        rw [Bool.and_eq_true] at hj
        obtain ⟨h1, h2⟩ := r62 hj.1
        obtain ⟨h3, h4⟩ := r62 hj.2
        exact ⟨i, j, rfl, ⟨h1, h2, h3, h4⟩, q2 _ F2 H2 (Ext.refl _) S2 src_range⟩
      · rw [if_neg hj] at q2; exact q2.elim
    | _ => exact q2.elim
  | _ => exact q2.elim
theorem s_itR3 (hgl : Gl X "range") (hm : X.mg "range" = none) (ha : PE X a (tO p X W fa)) (hb : PE X b (tO p X W fb)) (hc : PE X c (tO p X W fc)) (hs : noStar a = true) (hs2 : noStar b = true) (hs3 : noStar c = true) :
    PI X tg (.Call (.Name "range" p1) [a, b, c] [] pos) (tI p X W fun ρ => (frz (fa ρ)).bind fun x ρ => (frz (fb ρ)).bind fun y ρ => (frz (fc ρ)).bind fun z ρ => match x, y, z with
      | .int i, .int j, .int (-1) => (if range62 i && range62 j then .ok (rangeD i (-1) (i - j).toNat) ρ else .stuck) | _, _, _ => .stuck) := by
  refine PI.imp (pi_range3 hgl hm (pa_cons (s_frz ha) (pa_cons (s_frz hb) (pa_cons (s_frz hc) pa_nil (star_cons hs3)) (star_cons hs2)) (star_cons hs)) (star_cons hs) (star_any (by simp [hs2, hs3]))) fun σ H Q h => tR.bind h fun H0 Lt Fz v ρ' x H' S r q => ⟨H0, Lt, Fz, ρ', S, Post.bind q fun w ρ2 y F2 H2 e2 S2 r2 q2 => ?_⟩
  refine ⟨H0, Lt, F2, ρ2, S2, Post.bind q2 fun u ρ3 z F3 H3 e3 S3 r3 q3 => ?_⟩
  split at q3
  · cases r; cases r2; cases r3
    rename_i i j
    by_cases hj : (range62 i && range62 j) = true
    · rw [if_pos hj] at q3
      rw [Bool.and_eq_true] at hj
      obtain ⟨h1, h2⟩ := r62 hj.1
      obtain ⟨h3, h4⟩ := r62 hj.2
      exact ⟨i, j, -1, _, rfl, RgC.neg h1 h2 h3 h4, q3 _ F3 H3 (Ext.refl _) S3 src_rangeC⟩
    · rw [if_neg hj] at q3; exact q3.elim
  · exact q3.elim
theorem s_itZip (hg : p.g.K = X.K) {es : List Expr} {kk : Nat} {tp : Pos} (hgl : Gl X "zip") (hm : X.mg "zip" = none) (ha : PE X a (tO p X W fa)) (hb : PE X b (tO p X W fb)) (hs : noStar a = true) (hs2 : noStar b = true) :
    PI X (.Tuple es kk tp) (.Call (.Name "zip" p1) [a, b] [] pos) (tI p X W fun ρ => (frz (fa ρ)).bind fun x ρ => (frz (fb ρ)).bind fun y ρ => ofO (zipOf x y) ρ) := by
  refine PI.imp (RZ.pi_zipA hgl hm (pa_cons (s_frz ha) (pa_cons (s_frz hb) pa_nil (star_cons hs2)) (star_cons hs)) (star_cons hs) (star_any (by simp [hs2]))) fun σ H Q h => tR.bind h fun H0 Lt Fz v ρ' x H' S r q => ⟨H0, Lt, Fz, ρ', S, Post.bind q fun w ρ2 y F2 H2 e2 S2 r2 q2 => ?_⟩
  obtain ⟨ds, hd, q3⟩ := ofO_post q2
  have r := Rep.ext e2 _ _ r
  unfold zipOf at hd
  split at hd
  · cases hd
    cases r with
    | lst a1 a2 => cases r2 with
      | lst b1 b2 => exact ⟨_, _, _, _, rfl, .inl ⟨SqL.of (S2.ext _ _ a1), SqL.of (S2.ext _ _ b1), q3 _ F2 H2 (Ext.refl _) S2 (src_zip a1 a2 b1 b2)⟩⟩
  · cases hd
    cases r with
    | tup a1 a2 => cases r2 with
      | tup b1 b2 => exact ⟨_, _, _, _, rfl, .inr ⟨SqT.to hg S2.ext a1, SqT.to hg S2.ext b1, q3 _ F2 H2 (Ext.refl _) S2 (src_zipT (SqT.to hg (Ext.refl _) a1) a2 (SqT.to hg (Ext.refl _) b1) b2)⟩⟩
  · cases hd
theorem s_itEnum (hg : p.g.K = X.K) {es : List Expr} {kk : Nat} {tp : Pos} (hgl : Gl X "enumerate") (hm : X.mg "enumerate" = none) (ha : PE X a (tO p X W fa)) (hs : noStar a = true) :
    PI X (.Tuple es kk tp) (.Call (.Name "enumerate" p1) [a] [] pos) (tI p X W fun ρ => (frz (fa ρ)).bind fun x ρ => ofO ((lstOf x).map (enumD 0)) ρ) := by
  refine PI.imp (ap_pi_enumA hgl hm (pa_cons (s_frz ha) pa_nil (star_cons hs)) (star_one hs)) fun σ H Q h => tR.bind h fun H0 Lt Fz v ρ' x H' S r q => ?_
  obtain ⟨ds, hd, q3⟩ := ofO_post q
  obtain ⟨es, he, rfl⟩ := Option.map_eq_some_iff.mp hd
  unfold lstOf at he
  split at he
  · cases he
    cases r with
    | lst a1 a2 => exact ⟨_, _, rfl, .inl ⟨SqL.of (S.ext _ _ a1), q3 _ Fz H' (Ext.refl _) S (src_enum a1 a2)⟩⟩
  · cases he
    cases r with
    | tup a1 a2 => exact ⟨_, _, rfl, .inr ⟨SqT.to hg S.ext a1, q3 _ Fz H' (Ext.refl _) S (src_enumT (SqT.to hg (Ext.refl _) a1) a2)⟩⟩
  · cases he
/-! ### list(range(..)) -/
theorem rgV_rep {g : Glb} {Fz : Hp} (a b : Int) : RepL g Fz (rgV a b) (rangeD a 1 (b - a).toNat) := by
  have key : ∀ (n : Nat) (lo : Int), RepL g Fz ((List.range n).map fun i => V.int (lo + (i : Nat))) (rangeD lo 1 n) := by
    intro n
    induction n with
    | zero => intro lo; exact .nil
    | succ n ih =>
      intro lo
      rw [List.range_succ_eq_map, List.map_cons, List.map_map, rangeD]
      refine .cons ?_ ?_
      · simpa using Rep.int (g := g) (Fz := Fz) lo
      · have := ih (lo + 1)
        have e : ((fun i : Nat => V.int (lo + (i : Nat))) ∘ Nat.succ) = fun i : Nat => V.int (lo + 1 + (i : Nat)) := by
          funext i
          show V.int (lo + ((i + 1 : Nat) : Int)) = _
          congr 1; omega
        rw [e]; exact this
  exact key _ _
theorem rg_small {a b : Int} (h1 : range62 a = true) (h2 : range62 b = true) (h3 : (rangeD a 1 (b - a).toNat).length < line) : RgOk a b := by
  unfold range62 at h1 h2
  simp only [Bool.and_eq_true, decide_eq_true_eq] at h1 h2
  rw [rangeD_len] at h3
  exact ⟨h1.1, h1.2, h2.1, h2.2, by unfold line at h3; omega⟩
theorem bind_assoc {α β γ : Type} (x : ERes α) (f : α → Env → ERes β) (g : β → Env → ERes γ) : (x.bind f).bind g = x.bind fun a ρ => (f a ρ).bind g := by cases x <;> rfl
theorem s_lrng1 {p3 : Pos} (hc : X.calm = true) (hgl : Gl X "list") (hm : X.mg "list" = none) (hgr : Gl X "range") (hmr : X.mg "range" = none) (ha : PE X a (tO p X W fa)) (hs : noStar a = true) :
    PE X (.Call (.Name "list" p1) [.Call (.Name "range" p2) [a] [] p3] [] pos) (tO p X W fun ρ => ((frz (fa ρ)).bind fun x ρ => match x with | .int j => (if range62 j then ERes.ok (rangeD 0 1 j.toNat) ρ else .stuck) | _ => .stuck).bind fun ds ρ => if ds.length < line then .ok (Val.own (.lst ds)) ρ else .stuck) := by
  simp only [bind_assoc]
  refine PE.imp (pe_listRg hc hgl hm (prg_1 hgr hmr (s_frz ha) (star_cons hs)) (star_one rfl)) fun σ H Q h => tR.bind h fun H0 Lt Fz v ρ' x H' S r q => ?_
  cases r with
  | int j =>
    dsimp only at q
    by_cases hj : range62 j = true
    · rw [if_pos hj] at q
      dsimp only [ERes.bind] at q
      by_cases hl : (rangeD 0 1 j.toNat).length < line
      · rw [if_pos hl] at q
        refine ⟨j, rfl, rg_small (by decide) hj (by rw [Int.sub_zero]; exact hl), fun a n => rpost_of S q a _ n ?_⟩
        have := rgV_rep (g := p.g) (Fz := Fz) 0 j
        rw [Int.sub_zero] at this
        exact this
      · rw [if_neg hl] at q; exact q.elim
    · rw [if_neg hj] at q; exact q.elim
  | _ => exact q.elim
theorem s_lrng2 {p3 : Pos} (hc : X.calm = true) (hgl : Gl X "list") (hm : X.mg "list" = none) (hgr : Gl X "range") (hmr : X.mg "range" = none) (ha : PE X a (tO p X W fa)) (hb : PE X b (tO p X W fb)) (hs : noStar a = true) (hs2 : noStar b = true) :
    PE X (.Call (.Name "list" p1) [.Call (.Name "range" p2) [a, b] [] p3] [] pos) (tO p X W fun ρ => ((frz (fa ρ)).bind fun x ρ => (frz (fb ρ)).bind fun y ρ => match x, y with | .int i, .int j => (if range62 i && range62 j then ERes.ok (rangeD i 1 (j - i).toNat) ρ else .stuck) | _, _ => .stuck).bind fun ds ρ => if ds.length < line then .ok (Val.own (.lst ds)) ρ else .stuck) := by
  simp only [bind_assoc]
  refine PE.imp (pe_listRg hc hgl hm (prg_2 hgr hmr (s_frz ha) (s_frz hb) (star_cons hs) (star_cons hs2) (star_any (by simp [hs2]))) (star_one rfl)) fun σ H Q h => tR.bind h fun H0 Lt Fz v ρ' x H' S r q => ⟨H0, Lt, Fz, ρ', S, Post.bind q fun w ρ2 y F2 H2 e2 S2 r2 q3 => ?_⟩
  cases r with
  | int i =>
    cases r2 with
    | int j =>
      dsimp only at q3
      by_cases hj : (range62 i && range62 j) = true
      · rw [if_pos hj] at q3
        rw [Bool.and_eq_true] at hj
        dsimp only [ERes.bind] at q3
        by_cases hl : (rangeD i 1 (j - i).toNat).length < line
        · rw [if_pos hl] at q3
          exact ⟨i, j, rfl, rfl, rg_small hj.1 hj.2 hl, fun a n => rpost_of S2 q3 a _ n (rgV_rep i j)⟩
        · rw [if_neg hl] at q3; exact q3.elim
      · rw [if_neg hj] at q3; exact q3.elim
    | _ => exact q3.elim
  | _ => exact q3.elim
end
end AP
end
section
/-! AP7: targets, comprehensions -/
namespace AP
open PySem PySem.Spec PyProof.Rows L2

section
variable {p : Pa} {H0 : Hp} {Lt : List Addr} {Fz H : Hp} {ρ : Env} {σ : St}
/-- a slot is stored: a value, or what is forgotten -/
theorem StRep.setV (S : StRep p H0 Lt Fz ρ σ H) {i : Nat} {x : V} {v : Val} (hi : i < ρ.length) (r : ValRep p H0 Lt Fz ρ σ H x v) : StRep p H0 Lt Fz (ρ.set i v.slot) (σ.set i (some x)) H := by
  have hi2 : i < σ.length := by rw [← S.len]; exact hi
  have oth : ∀ j : Nat, j ≠ i → (ρ.set i v.slot)[j]? = ρ[j]? ∧ (σ.set i (some x))[j]? = σ[j]? := fun j hj => ⟨set_get_ne hj, set_get_ne hj⟩
  have own : ∀ j : Nat, j ≠ i → isMut (ρ.set i v.slot)[i]? = true → isMut ρ[j]? = true → ∀ b, (σ.set i (some x))[i]? = some (some (V.ref b)) → σ[j]? = some (some (V.ref b)) → False := fun j hj m1 m2 b e1 e2 => by
    rw [List.getElem?_set_self hi] at m1
    rw [List.getElem?_set_self hi2] at e1
    cases e1
    cases v with
    | dat d => cases m1
    | own m => cases m with
      | lst ds =>
        obtain ⟨a, xs, e3, f, h0, l, hh, rr, ap⟩ := r
        cases e3
        exact ap j m2 e2
  refine ⟨S.ext, S.base, fun j s q => ?_, fun j k b hjk mj mk ej ek => ?_, by rw [List.length_set, List.length_set]; exact S.len, S.lt, S.tab, S.tbs, S.ntb, S.old, S.f0⟩
  · by_cases hj : j = i
    · subst hj
      rw [List.getElem?_set_self hi] at q
      rw [List.getElem?_set_self hi2]
      cases q
      cases v with
      | dat d => exact ⟨x, rfl, r⟩
      | own m => cases m with
        | lst ds =>
          obtain ⟨a, xs, rfl, f, h0, l, hh, rr, ap⟩ := r
          exact ⟨a, xs, rfl, f, h0, l, hh, rr⟩
    · rw [(oth j hj).1] at q
      rw [(oth j hj).2]
      exact S.slot j s q
  · by_cases hj : j = i
    · subst hj
      have hk : k ≠ j := fun z => hjk z.symm
      rw [(oth k hk).1] at mk
      rw [(oth k hk).2] at ek
      exact own k hk mj mk b ej ek
    · rw [(oth j hj).1] at mj
      rw [(oth j hj).2] at ej
      by_cases hk : k = i
      · subst hk
        exact own j hj mk mj b ek ej
      · rw [(oth k hk).1] at mk
        rw [(oth k hk).2] at ek
        exact S.apart j k b hjk mj mk ej ek
theorem StRep.setD (S : StRep p H0 Lt Fz ρ σ H) {i : Nat} {x : V} {d : D} (hi : i < ρ.length) (r : Rep p.g Fz x d) : StRep p H0 Lt Fz (ρ.set i (.dat d)) (σ.set i (some x)) H :=
  S.setV (v := .dat d) hi r
/-- what is known is made less: some slots told no more -/
theorem StRep.less {ρ' : Env} {σ' : St} (S : StRep p H0 Lt Fz ρ σ H) (hl : ρ'.length = ρ.length) (hl2 : σ'.length = σ.length) (h : ∀ i : Nat, (ρ'[i]? = ρ[i]? ∧ σ'[i]? = σ[i]?) ∨ ∀ s, ρ'[i]? = some s → s = .no) : StRep p H0 Lt Fz ρ' σ' H := by
  have mu : ∀ i : Nat, isMut ρ'[i]? = true → isMut ρ[i]? = true ∧ σ'[i]? = σ[i]? := fun i m => by
    rcases h i with ⟨e1, e2⟩ | e
    · rw [e1] at m; exact ⟨m, e2⟩
    · cases q : ρ'[i]? with
      | none => rw [q] at m; cases m
      | some s => rw [q, e s q] at m; cases m
  refine ⟨S.ext, S.base, fun j s q => ?_, fun j k b hjk mj mk ej ek => ?_, by rw [hl, hl2]; exact S.len, S.lt, S.tab, S.tbs, S.ntb, S.old, S.f0⟩
  · rcases h j with ⟨e1, e2⟩ | e
    · rw [e1] at q; rw [e2]; exact S.slot j s q
    · rw [e s q]; trivial
  · rw [(mu j mj).2] at ej
    rw [(mu k mk).2] at ek
    exact S.apart j k b hjk (mu j mj).1 (mu k mk).1 ej ek
/-- an object of no slot is held fast -/
theorem StRep.hold (S : StRep p H0 Lt Fz ρ σ H) {D : Addr} {o : HO} (hD : H D = some o) (fD : Fz D = none) (ap : ∀ i : Nat, isMut ρ[i]? = true → σ[i]? ≠ some (some (V.ref D))) : StRep p (upd H0 D o) Lt Fz ρ σ H := by
  refine ⟨S.ext, fun a u q n t => ?_, fun j s q => ?_, S.apart, S.len, S.lt, S.tab, fun a u q => ?_, S.ntb, fun a u q => ?_, S.f0⟩
  · by_cases ha : a = D
    · subst ha; rw [upd_same] at q; cases q; exact hD
    · rw [upd_ne ha] at q; exact S.base a u q n t
  · have z := S.slot j s q
    cases s with
    | no => trivial
    | dat d => exact z
    | own m => cases m with
      | lst es =>
        obtain ⟨b, zs, e2, f2, h2, l2, hh2, r2⟩ := z
        have nb : b ≠ D := fun z => ap j (by rw [q]; rfl) (by rw [← z]; exact e2)
        exact ⟨b, zs, e2, f2, by rw [upd_ne nb]; exact h2, l2, hh2, r2⟩
    | lent m => cases m with
      | lst es => exact z
    | clo c => exact z
  · by_cases ha : a = D
    · subst ha; exact ⟨o, hD⟩
    · rw [upd_ne ha] at q; exact S.tbs a u q
  · have ha : a ≠ D := fun z => by rw [z, fD] at q; cases q
    rcases S.old a u q with z | z | z
    · exact .inl z
    · exact .inr (.inl (by rw [upd_ne ha]; exact z))
    · exact .inr (.inr z)
theorem StRep.unhold {D : Addr} {o : HO} (S : StRep p (upd H0 D o) Lt Fz ρ σ H) (h0 : H0 D = none) : StRep p H0 Lt Fz ρ σ H := by
  have z0 : ∀ a, (upd H0 D o) a = none → H0 a = none := fun a e => by
    by_cases ha : a = D
    · subst ha; exact h0
    · rw [upd_ne ha] at e; exact e
  have s0 : ∀ a u, H0 a = some u → (upd H0 D o) a = some u := fun a u e => by
    have ha : a ≠ D := fun z => by rw [z, h0] at e; cases e
    rw [upd_ne ha]; exact e
  refine ⟨S.ext, fun a u q n t => S.base a u (s0 a u q) n t, fun j s q => ?_, S.apart, S.len, S.lt, S.tab, fun a u q => S.tbs a u (s0 a u q), S.ntb, fun a u q => (S.old a u q).imp (fun z => z) (Or.imp (z0 a) fun z => z), S.f0⟩
  have z := S.slot j s q
  cases s with
  | own m => cases m with
    | lst es =>
      obtain ⟨b, zs, e2, f2, h2, l2, hh2, r2⟩ := z
      exact ⟨b, zs, e2, f2, z0 b h2, l2, hh2, r2⟩
  | no => trivial
  | dat d => exact z
  | lent m => cases m with | lst es => exact z
  | clo c => exact z
/-- what is held fast is apart from all -/
theorem StRep.held {D : Addr} {o : HO} (S : StRep p (upd H0 D o) Lt Fz ρ σ H) (nl : D ∉ Lt) (nt : NoTb o) (nx : ∀ φ, o ≠ .ext φ) (nf : p.F0 D = none) : H D = some o ∧ Fz D = none ∧ ∀ i : Nat, isMut ρ[i]? = true → σ[i]? ≠ some (some (V.ref D)) := by
  refine ⟨S.base D o upd_same nl nt, ?_, fun i m e => ?_⟩
  · cases q : Fz D with
    | none => rfl
    | some u =>
      rcases S.old D u q with z | z | ⟨φ, z⟩
      · rw [nf] at z; cases z
      · rw [upd_same] at z; cases z
      · have h1 := S.ext D u q
        rw [S.base D o upd_same nl nt] at h1
        cases h1
        exact absurd z (nx φ)
  · obtain ⟨b, xs, ds, e1, h1, f1, r1, k1⟩ := S.mutAt m
    rw [e] at e1; cases e1
    rcases k1 with ⟨_, z, _⟩ | ⟨_, z⟩
    · rw [upd_same] at z; cases z
    · exact nl z
/-- .. and may be written -/
theorem StRep.wrHeld (S : StRep p H0 Lt Fz ρ σ H) {D : Addr} {xs ys : List V} (hD : H D = some (.lst xs)) (h0 : H0 D = none) (fD : Fz D = none) (ap : ∀ i : Nat, isMut ρ[i]? = true → σ[i]? ≠ some (some (V.ref D))) : StRep p H0 Lt Fz ρ σ (upd H D (.lst ys)) := by
  have nb : ∀ b o, b ≠ D → H b = some o → (upd H D (.lst ys)) b = some o := fun b o hb e => by rw [upd_ne hb]; exact e
  refine ⟨fun b o q => nb b o (fun z => by rw [z, fD] at q; cases q) (S.ext b o q), fun b o q n t => nb b o (fun z => by rw [z, h0] at q; cases q) (S.base b o q n t), fun j s q => ?_, S.apart, S.len, fun b h => ?_, p.tupd _ _ _ _ hD S.tab, fun b o q => ?_, S.ntb, S.old, S.f0⟩
  · have z := S.slot j s q
    cases s with
    | own m => cases m with
      | lst es =>
        obtain ⟨b, zs, e2, f2, h2, l2, hh2, r2⟩ := z
        exact ⟨b, zs, e2, f2, h2, l2, nb b _ (fun z => ap j (by rw [q]; rfl) (by rw [← z]; exact e2)) hh2, r2⟩
    | no => trivial
    | dat d => exact z
    | lent m => cases m with
      | lst es =>
        obtain ⟨b, zs, e2, f2, l2, hh2, r2⟩ := z
        exact ⟨b, zs, e2, f2, l2, nb b _ (fun z => ap j (by rw [q]; rfl) (by rw [← z]; exact e2)) hh2, r2⟩
    | clo c => exact z
  · by_cases hb : b = D
    · subst hb; exact ⟨_, upd_same⟩
    · rw [upd_ne hb]; exact S.lt b h
  · by_cases hb : b = D
    · subst hb; exact ⟨_, upd_same⟩
    · rw [upd_ne hb]; exact S.tbs b o q
end

/-! ### targets -/
mutual
def tgIx : Tg → List Nat
  | .nm i => [i]
  | .tup ts => tgIxs ts
def tgIxs : Tgs → List Nat
  | .nil => []
  | .cons t r => tgIx t ++ tgIxs r
end
/-- only such slots are stored -/
def Only (is : List Nat) (σ σ' : St) : Prop := σ'.length = σ.length ∧ ∀ j : Nat, j ∉ is → σ'[j]? = σ[j]?
theorem Only.refl (σ : St) : Only [] σ σ := ⟨rfl, fun _ _ => rfl⟩
theorem Only.trans {a b : List Nat} {σ σ1 σ2 : St} (h : Only a σ σ1) (k : Only b σ1 σ2) : Only (a ++ b) σ σ2 :=
  ⟨k.1.trans h.1, fun j hj => (k.2 j fun z => hj (List.mem_append_right _ z)).trans (h.2 j fun z => hj (List.mem_append_left _ z))⟩
def tG (p : Pa) (is : List Nat) (f : D → Env → Option Env) : TG := fun v σ H Q => ∃ H0 Lt Fz ρ d ρ', StRep p H0 Lt Fz ρ σ H ∧ Rep p.g Fz v d ∧ f d ρ = some ρ' ∧ ∀ σ', Only is σ σ' → StRep p H0 Lt Fz ρ' σ' H → Q σ' H
def tGs (p : Pa) (is : List Nat) (f : List D → Env → Option Env) : TGs := fun vs σ H Q => ∃ H0 Lt Fz ρ ds ρ', StRep p H0 Lt Fz ρ σ H ∧ RepL p.g Fz vs ds ∧ f ds ρ = some ρ' ∧ ∀ σ', Only is σ σ' → StRep p H0 Lt Fz ρ' σ' H → Q σ' H
theorem PG.imp {X : Cx} {e : Expr} {t t' : TG} (h : PG X e t) (i : ∀ v σ H Q, t' v σ H Q → t v σ H Q) : PG X e t' :=
  ⟨fun pins s σ H v u Q I r q => h.run pins s σ H v u Q I r (i v σ H Q q)⟩
theorem PGs.imp {X : Cx} {e : List Expr} {t t' : TGs} (h : PGs X e t) (i : ∀ v σ H Q, t' v σ H Q → t v σ H Q) : PGs X e t' :=
  ⟨fun pins s σ H v u Q I r q => h.run pins s σ H v u Q I r (i v σ H Q q)⟩
/-- a name of the def that may be stored -/
structure Nw (X : Cx) (i : Nat) (x : Str) : Prop where
  at_ : X.N[i]? = some x
  nd : X.N.Nodup
  loc : Loc X.env.scope x
  fn : X.fn x = true ∨ X.env.scope.names.lookup x = some .local
section
variable {p : Pa} {X : Cx} {pos : Pos}
theorem g_nm {i : Nat} {x : Str} (n : Nw X i x) : PG X (.Name x pos) (tG p (tgIx (.nm i)) (asgTg (.nm i))) := by
  refine PG.imp (pg_name n.nd n.at_ n.loc n.fn) fun v σ H Q ⟨H0, Lt, Fz, ρ, d, ρ', S, r, e, q⟩ => ?_
  unfold asgTg at e
  split at e
  · rename_i hi
    cases e
    refine q _ ⟨List.length_set, fun j hj => set_get_ne fun z => hj (by rw [z]; exact List.mem_singleton.mpr rfl)⟩ (S.setD hi r)
  · cases e
theorem g_nil : PGs X [] (tGs p (tgIxs .nil) (asgTgs .nil)) := by
  refine PGs.imp pgs_nil fun v σ H Q ⟨H0, Lt, Fz, ρ, ds, ρ', S, r, e, q⟩ => ?_
  cases r with
  | nil => unfold asgTgs at e; cases e; exact ⟨rfl, q σ (Only.refl σ) S⟩
  | cons => unfold asgTgs at e; cases e
theorem assign_each {e : Expr} {es : List Expr} {env : PySem.Env} (h : noStar e = true) : assignEach (e :: es) env = (false, assign e env) :: assignEach es env := by
  cases e <;> first | rfl | cases h
theorem assign_len : ∀ {es : List Expr} {env : PySem.Env}, es.all noStar = true → (assignEach es env).length = es.length ∧ (assignEach es env).findIdx? (·.1) = none
  | [], _, _ => ⟨rfl, rfl⟩
  | e :: es, env, h => by
    rw [List.all_cons, Bool.and_eq_true] at h
    obtain ⟨h1, h2⟩ := assign_len (env := env) h.2
    rw [assign_each h.1]
    refine ⟨by rw [List.length_cons, List.length_cons, h1], ?_⟩
    rw [List.findIdx?_cons, h2]; rfl
theorem g_cons {t : Tg} {ts : Tgs} {e : Expr} {es : List Expr} (h : PG X e (tG p (tgIx t) (asgTg t))) (hs : PGs X es (tGs p (tgIxs ts) (asgTgs ts))) (hn : noStar e = true) : PGs X (e :: es) (tGs p (tgIxs (.cons t ts)) (asgTgs (.cons t ts))) := by
  refine PGs.imp (pgs_cons h hs (by rw [assign_each hn]; rfl)) fun v σ H Q ⟨H0, Lt, Fz, ρ, ds, ρ', S, r, e, q⟩ => ?_
  cases r with
  | nil => unfold asgTgs at e; cases e
  | cons rv rs =>
    unfold asgTgs at e
    obtain ⟨ρ1, e1, e2⟩ := Option.bind_eq_some_iff.mp e
    exact ⟨_, _, rfl, H0, Lt, Fz, ρ, _, ρ1, S, rv, e1, fun σ1 o1 S1 => ⟨H0, Lt, Fz, ρ1, _, ρ', S1, rs, e2, fun σ2 o2 S2 => q σ2 (o1.trans o2) S2⟩⟩
def Tgs.n : Tgs → Nat
  | .nil => 0
  | .cons _ r => r.n + 1
theorem asgTgs_n : ∀ {ts : Tgs} {ds : List D} {ρ ρ' : Env}, asgTgs ts ds ρ = some ρ' → ds.length = ts.n
  | .nil, [], _, _, _ => rfl
  | .nil, _ :: _, _, _, h => by unfold asgTgs at h; cases h
  | .cons _ _, [], _, _, h => by unfold asgTgs at h; cases h
  | .cons t r, d :: ds, ρ, ρ', h => by
    unfold asgTgs at h
    obtain ⟨ρ1, _, e2⟩ := Option.bind_eq_some_iff.mp h
    rw [List.length_cons, asgTgs_n e2]; rfl
theorem g_tup (hg : p.g.K = X.K) {ts : Tgs} {es : List Expr} {k : Nat} (hc : X.calm = true) (h : PGs X es (tGs p (tgIxs ts) (asgTgs ts))) (hn : es.all noStar = true) (hl : es.length = ts.n) : PG X (.Tuple es k pos) (tG p (tgIx (.tup ts)) (asgTg (.tup ts))) := by
  obtain ⟨h1, h2⟩ := assign_len (env := X.env) hn
  refine PG.imp (pg_tup (n := ts.n) hc h (h1.trans hl) h2) fun v σ H Q ⟨H0, Lt, Fz, ρ, d, ρ', S, r, e, q⟩ => ?_
  cases r with
  | tup a1 a2 =>
    unfold asgTg at e
    exact ⟨_, _, rfl, SqT.to hg S.ext a1, by rw [a2.length, asgTgs_n e], H0, Lt, Fz, ρ, _, ρ', S, a2, e, q⟩
  | _ => unfold asgTg at e; cases e
end
end AP
end
section
/-! AP8: comprehensions -/
namespace AP
open PySem PySem.Spec PyProof.Rows L2

theorem wipeE_len (ρ : Env) : ∀ vs : List Nat, (wipeE ρ vs).length = ρ.length
  | [] => rfl
  | v :: vs => by unfold wipeE; rw [List.length_set, wipeE_len ρ vs]
theorem wipeE_out {ρ : Env} {i : Nat} : ∀ {vs : List Nat}, i ∉ vs → (wipeE ρ vs)[i]? = ρ[i]?
  | [], _ => rfl
  | v :: vs, h => by
    simp only [List.mem_cons, not_or] at h
    unfold wipeE
    rw [set_get_ne h.1, wipeE_out h.2]
theorem wipeE_in {ρ : Env} {i : Nat} {s : Slot} : ∀ {vs : List Nat}, i ∈ vs → (wipeE ρ vs)[i]? = some s → s = .no
  | v :: vs, h, e => by
    unfold wipeE at e
    by_cases hi : i = v
    · subst hi
      by_cases hl : i < (wipeE ρ vs).length
      · rw [List.getElem?_set_self hl] at e; cases e; rfl
      · rw [List.getElem?_eq_none (by rw [List.length_set]; omega)] at e; cases e
    · rw [set_get_ne hi] at e
      exact wipeE_in ((List.mem_cons.mp h).resolve_left hi) e
theorem unwipe_len (ρ0 ρ : Env) : ∀ vs : List Nat, (unwipe ρ0 ρ vs).length = ρ.length
  | [] => rfl
  | v :: vs => by unfold unwipe; rw [List.length_set, unwipe_len ρ0 ρ vs]
theorem unwipe_out {ρ0 ρ : Env} {i : Nat} : ∀ {vs : List Nat}, i ∉ vs → (unwipe ρ0 ρ vs)[i]? = ρ[i]?
  | [], _ => rfl
  | v :: vs, h => by
    simp only [List.mem_cons, not_or] at h
    unfold unwipe
    rw [set_get_ne h.1, unwipe_out h.2]
theorem unwipe_in {ρ0 ρ : Env} {i : Nat} {s : Slot} : ∀ {vs : List Nat}, i ∈ vs → (unwipe ρ0 ρ vs)[i]? = some s → s = (ρ0[i]?).getD .no
  | v :: vs, h, e => by
    unfold unwipe at e
    by_cases hi : i = v
    · subst hi
      by_cases hl : i < (unwipe ρ0 ρ vs).length
      · rw [List.getElem?_set_self hl] at e; cases e; rfl
      · rw [List.getElem?_eq_none (by rw [List.length_set]; omega)] at e; cases e
    · rw [set_get_ne hi] at e
      exact unwipe_in ((List.mem_cons.mp h).resolve_left hi) e
section
variable {p : Pa} {H0 : Hp} {Lt : List Addr} {Fz F1 H H1 : Hp} {ρ ρ1 : Env} {σ : St}
theorem wipe_only {σ2 : St} {vs is : List Nat} (h : Only is (wipe σ vs) σ2) (hs : ∀ i ∈ is, i ∈ vs) : wipe σ2 vs = wipe σ vs := by
  apply List.ext_getElem?
  intro j
  by_cases hj : j ∈ vs
  · have hn : ∀ (τ : St), τ.length = σ.length → (wipe τ vs)[j]? = if j < σ.length then some none else none := fun τ hτ => by
      by_cases hl : j < σ.length
      · rw [if_pos hl]
        have hl2 : j < (wipe τ vs).length := by rw [wipe_length, hτ]; exact hl
        rw [List.getElem?_eq_getElem hl2]
        cases q : (wipe τ vs)[j] with
        | none => rfl
        | some x =>
          have e : (wipe τ vs)[j]? = some (some x) := by rw [List.getElem?_eq_getElem hl2, q]
          exact absurd hj (wipe_some e).2
      · rw [if_neg hl, List.getElem?_eq_none (by rw [wipe_length, hτ]; omega)]
    rw [hn σ2 (h.1.trans (wipe_length _ _)), hn σ rfl]
  · rw [wipe_out hj, h.2 j fun z => hj (hs j z)]
theorem StRep.wiped (S : StRep p H0 Lt Fz ρ σ H) (vs : List Nat) : StRep p H0 Lt Fz (wipeE ρ vs) (wipe σ vs) H := by
  refine S.less (wipeE_len _ _) (wipe_length _ _) fun i => ?_
  by_cases hi : i ∈ vs
  · exact .inr fun s e => wipeE_in hi e
  · exact .inl ⟨wipeE_out hi, wipe_out hi⟩
theorem StRep.rewiped {σ2 : St} {is vs : List Nat} (S : StRep p H0 Lt Fz ρ σ2 H) (h : Only is (wipe σ vs) σ2) (hs : ∀ i ∈ is, i ∈ vs) : StRep p H0 Lt Fz (wipeE ρ vs) (wipe σ vs) H := by
  refine S.less (wipeE_len _ _) h.1.symm fun i => ?_
  by_cases hi : i ∈ vs
  · exact .inr fun s e => wipeE_in hi e
  · exact .inl ⟨wipeE_out hi, (h.2 i fun z => hi (hs i z)).symm⟩
theorem StRep.unwiped {vs : List Nat} (S1 : StRep p H0 Lt F1 ρ1 σ H1) (S : StRep p H0 Lt Fz ρ (wipe σ vs) H) (e : Ext F1 Fz) (nm : vs.all (fun i => !isMut ρ1[i]?) = true) :
    StRep p H0 Lt Fz (unwipe ρ1 ρ vs) σ H ∧ ∀ i : Nat, isMut (unwipe ρ1 ρ vs)[i]? = true → isMut ρ[i]? = true ∧ (wipe σ vs)[i]? = σ[i]? := by
  have no : ∀ i ∈ vs, isMut ρ1[i]? = false := fun i hi => by
    have := List.all_eq_true.mp nm i hi
    simpa using this
  have mu : ∀ i : Nat, isMut (unwipe ρ1 ρ vs)[i]? = true → i ∉ vs := fun i m hi => by
    cases q : (unwipe ρ1 ρ vs)[i]? with
    | none => rw [q] at m; cases m
    | some s =>
      have es := unwipe_in hi q
      rw [q] at m
      have n := no i hi
      cases q1 : ρ1[i]? with
      | none => rw [q1] at es; subst es; cases m
      | some s1 =>
        rw [q1] at es n
        have es : s = s1 := es
        rw [es] at m
        rw [m] at n; cases n
  refine ⟨⟨S.ext, S.base, fun j s q => ?_, fun j k b hjk mj mk ej ek => ?_, ?_, S.lt, S.tab, S.tbs, S.ntb, S.old, S.f0⟩, fun i m => ?_⟩
  · by_cases hj : j ∈ vs
    · have es := unwipe_in hj q
      have n := no j hj
      cases q1 : ρ1[j]? with
      | none => rw [q1] at es; subst es; trivial
      | some s1 =>
        rw [q1] at es n
        have es : s = s1 := es
        subst es
        have z := S1.slot j s q1
        cases s with
        | no => trivial
        | dat d => obtain ⟨v, e1, r⟩ := z; exact ⟨v, e1, Rep.ext e _ _ r⟩
        | clo c => obtain ⟨v, e1, r⟩ := z; exact ⟨v, e1, p.mono _ _ _ _ e r⟩
        | own m => cases n
        | lent m => cases n
    · rw [unwipe_out hj] at q
      have z := S.slot j s q
      rw [wipe_out hj] at z
      exact z
  · have hj := mu j mj
    have hk := mu k mk
    rw [unwipe_out hj] at mj
    rw [unwipe_out hk] at mk
    exact S.apart j k b hjk mj mk (by rw [wipe_out hj]; exact ej) (by rw [wipe_out hk]; exact ek)
  · rw [unwipe_len, S.len, wipe_length]
  · have hi := mu i m
    rw [unwipe_out hi] at m
    exact ⟨m, wipe_out hi⟩
end

/-- a comprehension's turn -/
def compB (asg : D → Env → Option Env) (fc fe : Env → ERes Val) (own : List Nat) : D → Env → ERes (Option D) := fun d ρ => match asg d ρ with
          | some ρ => (tst (fc ρ)).bind fun k ρ => if k = true then (frz (fe ρ)).bind fun x ρ => .ok (some x) (wipeE ρ own) else .ok none (wipeE ρ own)
          | none => .stuck
def compE (fi : Env → ERes (List D)) (asg : D → Env → Option Env) (fc fe : Env → ERes Val) (own : List Nat) : Env → ERes Val := fun ρ => (fi ρ).bind fun ds ρ1 =>
      if own.all (fun i => !isMut ρ1[i]?) then
        (noexc (compF (compB asg fc fe own) ds (wipeE ρ1 own))).bind fun l ρ2 => if l.length < line then .ok (.own (.lst l)) (unwipe ρ1 ρ2 own) else .stuck
      else .stuck
theorem bind_ok {α β : Type} {x : ERes α} {f : α → Env → ERes β} {b : β} {ρ : Env} (h : x.bind f = .ok b ρ) : ∃ a ρ1, x = .ok a ρ1 ∧ f a ρ1 = .ok b ρ := by
  cases x with
  | ok a ρ1 => exact ⟨a, ρ1, rfl, h⟩
  | exc => cases h
  | stuck => cases h
theorem src_walk {p : Pa} {F : Hp} {J : It} {ds : List D} (s : Src p F J ds) : Walk J ds.length (Ext F) (fun i H x H' => ∀ Fz d, ds[i]? = some d → Ext F Fz → Ext Fz H → ∃ Fz', Grow Fz H Fz' H' ∧ Rep p.g Fz' x d) :=
  ⟨s.goes, s.stops, fun i H x H' hi e y Fz d hd e1 e2 => s.yields i H x H' Fz d hd e1 e2 y⟩
theorem compF_step {f : D → Env → ERes (Option D)} {ds : List D} {i : Nat} {d : D} {ρ ρ2 : Env} {l : List D} (hd : ds[i]? = some d) (h : compF f (ds.drop i) ρ = .ok l ρ2) :
    ∃ o ρ1 l2, f d ρ = .ok o ρ1 ∧ compF f (ds.drop (i + 1)) ρ1 = .ok l2 ρ2 ∧ l = (match o with | some x => x :: l2 | none => l2) := by
  obtain ⟨hi, hd2⟩ := List.getElem?_eq_some_iff.mp hd
  rw [List.drop_eq_getElem_cons hi, hd2] at h
  unfold compF at h
  obtain ⟨o, ρ1, h1, h⟩ := bind_ok h
  obtain ⟨l2, ρ3, h2, h⟩ := bind_ok h
  cases h
  exact ⟨o, ρ1, l2, h1, h2, rfl⟩
/-- no exception leaves -/
abbrev W0 : WX := fun _ _ _ _ => False
section
variable {p : Pa} {X : Cx} {W : WX}
/-- the reading of a comprehension -/
theorem lc_read {tg iter elt : Expr} {σ : St} {H : Hp} {Q : VK} {fi : Env → ERes (List D)} {t : Tg} {fc fe : Env → ERes Val} {vs : List Nat} (hix : ∀ i ∈ tgIx t, i ∈ vs)
    (h : tO p X W (compE fi (asgTg t) fc fe vs) σ H Q) :
    tLc (tI p X W fi) (tG p (tgIx t) (asgTg t)) (tT p X W0 fun ρ => tst (fc ρ)) (tD p X W0 fun ρ => frz (fe ρ)) vs σ H Q := by
  refine tR.bind h fun H0 Lt F1 ds ρ1 J H1 S1 src q => ?_
  intro D nD
  by_cases hnm : vs.all (fun i => !isMut ρ1[i]?) = true
  case neg => rw [if_neg hnm] at q; exact q.elim
  rw [if_pos hnm] at q
  cases hcf : compF (compB (asgTg t) fc fe vs) ds (wipeE ρ1 vs) with
  | exc c ρ => rw [hcf] at q; exact q.elim
  | stuck => rw [hcf] at q; exact q.elim
  | ok l ρ2 =>
    rw [hcf] at q
    change Post (rO p) p X W H0 Lt F1 σ Q (if l.length < line then .ok (.own (.lst l)) (unwipe ρ1 ρ2 vs) else .stuck) at q
    by_cases hll : l.length < line
    case neg => rw [if_neg hll] at q; exact q.elim
    rw [if_pos hll] at q
    obtain ⟨fD, h0D, lD, apD⟩ := S1.fresh D nD
    have f0D : p.F0 D = none := ext_none S1.f0 fD
    refine lc_it (src_walk src) (fun i Hc => ∃ Fz ρi acc accV l', Ext F1 Fz ∧ StRep p H0 Lt Fz ρi (wipe σ vs) Hc ∧ Hc D = some (.lst accV) ∧ RepL p.g Fz accV acc ∧ Fz D = none ∧ (∀ i : Nat, isMut ρi[i]? = true → (wipe σ vs)[i]? ≠ some (some (V.ref D))) ∧
        compF (compB (asgTg t) fc fe vs) (ds.drop i) ρi = .ok l' ρ2 ∧ acc ++ l' = l) ?_ ?_ ?_ ?_
    · refine ⟨F1, wipeE ρ1 vs, [], [], l, Ext.refl _, (S1.push nD).wiped vs, upd_same, .nil, fD, fun i m e => ?_, hcf, rfl⟩
      obtain ⟨e1, hi⟩ := wipe_some e
      rw [wipeE_out hi] at m
      exact apD i m e1
    · rintro i Hc _ ⟨Fz, ρi, acc, accV, l', e, S, _⟩
      exact e.trans S.ext
    · rintro i x Hc Hn hi ⟨Fz, ρi, acc, accV, l', e, S, hD, ra, fzD, ap, hcf', hl⟩ y
      obtain ⟨d, hd⟩ : ∃ d, ds[i]? = some d := ⟨ds[i], List.getElem?_eq_getElem hi⟩
      obtain ⟨F2, gr, rx⟩ := y Fz d hd e S.ext
      obtain ⟨o, ρn, l2, hf, hrest, rfl⟩ := compF_step hd hcf'
      have S2 := S.grow gr
      have hD2 : Hn D = some (.lst accV) := gr.keep _ _ hD
      have f2D : F2 D = none := by
        cases z : F2 D with
        | none => rfl
        | some u =>
          rcases gr.new D u z with k | ⟨k, _⟩
          · rw [fzD] at k; cases k
          · rw [hD] at k; cases k
      have S3 := S2.hold hD2 f2D ap
      unfold compB at hf
      cases ha : asgTg t d ρi with
      | none => rw [ha] at hf; cases hf
      | some ρa =>
        rw [ha] at hf
        obtain ⟨k, ρb, hk, hf⟩ := bind_ok hf
        refine ⟨_, Lt, F2, ρi, d, ρa, S3, rx, ha, fun σ2 only S4 => ⟨wipe_only only hix, _, Lt, F2, ρa, S4, ?_⟩⟩
        show Post rT p X W0 _ Lt F2 σ2 _ (tst (fc ρa))
        rw [hk]
        intro b F3 H3 e3 S5 hb
        subst hb
        -- the turn's end
        have fin : ∀ {F4 : Hp} {ρc : Env} {H4 : Hp}, Ext F3 F4 → StRep p (upd H0 D (.lst accV)) Lt F4 ρc σ2 H4 → H4 D = some (.lst accV) ∧ F4 D = none ∧ (∀ i : Nat, isMut ρc[i]? = true → σ2[i]? ≠ some (some (V.ref D))) ∧ StRep p H0 Lt F4 (wipeE ρc vs) (wipe σ vs) H4 ∧
            ∀ i : Nat, isMut (wipeE ρc vs)[i]? = true → (wipe σ vs)[i]? ≠ some (some (V.ref D)) := fun {F4 ρc H4} e4 S6 => by
          obtain ⟨k1, k2, k3⟩ := S6.held lD (fun _ z => by cases z) (fun _ z => by cases z) f0D
          refine ⟨k1, k2, k3, (S6.unhold h0D).rewiped only hix, fun i m z => ?_⟩
          obtain ⟨z1, hi⟩ := wipe_some z
          rw [wipeE_out hi] at m
          refine k3 i m ?_
          rw [only.2 i fun w => hi (hix i w)]
          exact z
        cases b with
        | false =>
          cases hf
          obtain ⟨k1, k2, k3, k4, k5⟩ := fin (Ext.refl _) S5
          exact ⟨F3, _, acc, accV, l2, e.trans (gr.fz.trans e3), k4, k1, RepL.ext (gr.fz.trans e3) _ _ ra, k2, k5, hrest, hl⟩
        | true =>
          rw [if_pos rfl] at hf ⊢
          obtain ⟨z, ρc, hz, hf⟩ := bind_ok hf
          cases hf
          refine ⟨_, Lt, F3, ρb, S5, ?_⟩
          show Post (rD p) p X W0 _ Lt F3 σ2 _ (frz (fe ρb))
          rw [hz]
          intro v F4 H4 e4 S6 rv
          obtain ⟨k1, k2, k3, k4, k5⟩ := fin e4 S6
          have ra4 : RepL p.g F4 accV acc := RepL.ext (gr.fz.trans (e3.trans e4)) _ _ ra
          have hle : acc.length + l2.length + 1 = l.length := by
            rw [← hl, List.length_append]
            show _ = acc.length + (l2.length + 1)
            omega
          refine ⟨accV, k1, by rw [← line_eq, ra4.length]; omega, F4, _, acc ++ [z], accV ++ [v], l2, e.trans (gr.fz.trans (e3.trans e4)), k4.wrHeld k1 h0D k2 k5, upd_same, ra4.append (.cons rv .nil), k2, k5, hrest, ?_⟩
          rw [List.append_assoc]
          exact hl
    · rintro Hc ⟨Fz, ρi, acc, accV, l', e, S, hD, ra, fzD, ap, hcf', hl⟩
      rw [List.drop_length] at hcf'
      unfold compF at hcf'
      cases hcf'
      rw [List.append_nil] at hl
      subst hl
      obtain ⟨S2, mu⟩ := S1.unwiped S e hnm
      refine q (.ref D) Fz Hc e S2 ⟨D, accV, rfl, fzD, h0D, lD, hD, ra, fun i m z => ?_⟩
      obtain ⟨m2, e2⟩ := mu i m
      exact ap i m2 (by rw [e2]; exact z)
theorem s_lc {tg iter elt : Expr} {ifs : List Expr} {scope : Scope} {own : List (Str × Nat)} {pos : Pos} {fi : Env → ERes (List D)} {t : Tg} {fc fe : Env → ERes Val} (hc : X.calm = true) (hN : X.N.Nodup) (hi : PI X tg iter (tI p X W fi)) (ok : BlkOk X.N X.env.scope scope own)
    (hix : ∀ i ∈ tgIx t, i ∈ own.map (·.2))
    (hg : ∀ (s : Shared) (H : Hp) (C : Addr) (cl : List (Str × Addr)) (fp : List Addr), PG (X.blk s H scope (compEnvC scope cl C X.env) fp) tg (tG p (tgIx t) (asgTg t)))
    (ht : ∀ (s : Shared) (H : Hp) (C : Addr) (cl : List (Str × Addr)) (fp : List Addr), PTs (X.blk s H scope (compEnvC scope cl C X.env) fp) ifs (tT p (X.blk s H scope (compEnvC scope cl C X.env) fp) W0 fun ρ => tst (fc ρ)))
    (he : ∀ (s : Shared) (H : Hp) (C : Addr) (cl : List (Str × Addr)) (fp : List Addr), PE (X.blk s H scope (compEnvC scope cl C X.env) fp) elt (tO p (X.blk s H scope (compEnvC scope cl C X.env) fp) W0 fe))
    (hs : ∀ x, foldedSetIterable iter X.env x = pure x) : PE X (.ListComp elt [⟨tg, iter, ifs, 0⟩] scope pos) (tO p X W (compE fi (asgTg t) fc fe (own.map (·.2)))) :=
  PE.imp (pe_lc hc hN hi ok hg (tt := tT p X W0 fun ρ => tst (fc ρ)) (te := tD p X W0 fun ρ => frz (fe ρ)) (fun s H C cl fp => ht s H C cl fp) (fun s H C cl fp => s_frz (he s H C cl fp)) hs) fun σ H Q h => lc_read (tg := tg) (iter := iter) (elt := elt) hix h
theorem s_ptsNil : PTs X [] (tT p X W fun ρ => tst (.ok (.dat (.bl true)) ρ)) :=
  ⟨fun pins s σ H Q I ⟨H0, Lt, Fz, ρ, S, q⟩ => (pts_nil (X := X)).run pins s σ H Q I (q true Fz H (Ext.refl _) S rfl)⟩
end
end AP
end
section
/-! AP9: statements -/
namespace AP
open PySem PySem.Spec PyProof.Rows L2

def PostS (p : Pa) (W : WX) (D : Ends) (H0 : Hp) (Lt : List Addr) (Fz : Hp) : SRes → Prop
  | .next ρ' => ∀ σ' Fz' H', Ext Fz Fz' → StRep p H0 Lt Fz' ρ' σ' H' → D.nx σ' H'
  | .ret v ρ' => ∀ x σ' Fz' H', Ext Fz Fz' → StRep p H0 Lt Fz' ρ' σ' H' → ValRep p H0 Lt Fz' ρ' σ' H' x v → D.rt x H'
  | .brk ρ' => ∀ σ' Fz' H', Ext Fz Fz' → StRep p H0 Lt Fz' ρ' σ' H' → D.bk σ' H'
  | .cont ρ' => ∀ σ' Fz' H', Ext Fz Fz' → StRep p H0 Lt Fz' ρ' σ' H' → D.ct σ' H'
  | .exc c ρ' => ∀ σ' Fz' H' C, Ext Fz Fz' → StRep p H0 Lt Fz' ρ' σ' H' → ClsAt p.g c C → W (.ref C) none σ' H'
  | .stuck => False
def tS (p : Pa) (W : WX) (f : Env → SRes) : TS := fun D σ H => ∃ H0 Lt Fz ρ, StRep p H0 Lt Fz ρ σ H ∧ PostS p W D H0 Lt Fz (f ρ)
section
variable {p : Pa} {X : Cx} {W : WX} {D D' : Ends} {H0 : Hp} {Lt : List Addr} {Fz F2 : Hp} {σ : St}
theorem PostS.ext {r : SRes} (e : Ext Fz F2) (q : PostS p W D H0 Lt Fz r) : PostS p W D H0 Lt F2 r := by
  cases r with
  | next ρ => exact fun σ' F H' x => q σ' F H' (e.trans x)
  | ret v ρ => exact fun y σ' F H' x => q y σ' F H' (e.trans x)
  | brk ρ => exact fun σ' F H' x => q σ' F H' (e.trans x)
  | cont ρ => exact fun σ' F H' x => q σ' F H' (e.trans x)
  | exc c ρ => exact fun σ' F H' C x => q σ' F H' C (e.trans x)
  | stuck => exact q
/-- an expression ahead of a statement's rest -/
theorem PostS.st {β α : Type} {R : RT β α} {r : ERes α} {k : α → Env → SRes} {Q : β → Hp → Prop} (q : PostS p W D H0 Lt Fz (r.st k))
    (hk : ∀ v ρ' x F' H', Ext Fz F' → StRep p H0 Lt F' ρ' σ H' → R H0 Lt F' ρ' σ H' x v → PostS p W D H0 Lt F' (k v ρ') → Q x H') : Post R p X W H0 Lt Fz σ Q r := by
  cases r with
  | ok v ρ' => exact fun x F' H' e S r => hk v ρ' x F' H' e S r (PostS.ext e q)
  | exc c ρ' => exact fun F' H' C e S h => q σ F' H' C e S h
  | stuck => exact q
theorem tS.st {β α : Type} {R : RT β α} {f : Env → ERes α} {k : α → Env → SRes} {Q : β → Hp → Prop} {H : Hp} (h : tS p W (fun ρ => (f ρ).st k) D σ H)
    (hk : ∀ H0 Lt Fz v ρ' x H', StRep p H0 Lt Fz ρ' σ H' → R H0 Lt Fz ρ' σ H' x v → PostS p W D H0 Lt Fz (k v ρ') → Q x H') : tR R p X W f σ H Q := by
  obtain ⟨H0, Lt, Fz, ρ, S, q⟩ := h
  exact ⟨H0, Lt, Fz, ρ, S, PostS.st q fun v ρ' x F' H' e S' r q' => hk H0 Lt F' v ρ' x H' S' r q'⟩
theorem ps_seq {st : Stmt} {rest : List Stmt} {f g : Env → SRes} (h1 : PS X st (tS p W f)) (h2 : PSs X rest (tS p W g)) : PSs X (st :: rest) (tS p W fun ρ => (f ρ).seq g) := by
  refine PSs.imp (pss_cons h1 h2) fun D σ H ⟨H0, Lt, Fz, ρ, S, q⟩ => ⟨H0, Lt, Fz, ρ, S, ?_⟩
  change PostS p W D H0 Lt Fz ((f ρ).seq g) at q
  generalize f ρ = r at q ⊢
  cases r with
  | next ρ' => exact fun σ' F' H' e S' => ⟨H0, Lt, F', ρ', S', PostS.ext e q⟩
  | ret => exact q
  | brk => exact q
  | cont => exact q
  | exc => exact q
  | stuck => exact q
theorem ps_nil : PSs X [] (tS p W fun ρ => .next ρ) := PSs.imp pss_nil fun D σ H ⟨H0, Lt, Fz, ρ, S, q⟩ => q σ Fz H (Ext.refl _) S
variable {e a b c tg : Expr} {fe fa fb fc : Env → ERes Val} {pos p1 p2 : Pos}
theorem st_pass : PS X (.Pass pos) (tS p W fun ρ => .next ρ) := PS.imp ps_pass fun D σ H ⟨H0, Lt, Fz, ρ, S, q⟩ => q σ Fz H (Ext.refl _) S
theorem st_brk : PS X (.Break pos) (tS p W fun ρ => .brk ρ) := PS.imp ps_break fun D σ H ⟨H0, Lt, Fz, ρ, S, q⟩ => q σ Fz H (Ext.refl _) S
theorem st_cont : PS X (.Continue pos) (tS p W fun ρ => .cont ρ) := PS.imp ps_continue fun D σ H ⟨H0, Lt, Fz, ρ, S, q⟩ => q σ Fz H (Ext.refl _) S
theorem st_doc {x j} : PS X (.Expr (.Constant (.str x) j p1) pos) (tS p W fun ρ => .next ρ) := PS.imp ps_doc fun D σ H ⟨H0, Lt, Fz, ρ, S, q⟩ => q σ Fz H (Ext.refl _) S
theorem st_expr (he : PE X e (tO p X W fe)) (hs : swapsWith e none pos.line X.env = pure false) : PS X (.Expr e pos) (tS p W fun ρ => (fe ρ).st fun _ ρ => .next ρ) :=
  PS.imp (ps_expr he hs) fun D σ H h => tS.st h fun H0 Lt Fz v ρ' x H' S r q => q σ Fz H' (Ext.refl _) S
theorem st_retN : PS X (.Return none pos) (tS p W fun ρ => .ret (.dat .non) ρ) := PS.imp ps_retN fun D σ H ⟨H0, Lt, Fz, ρ, S, q⟩ => q _ σ Fz H (Ext.refl _) S .non
theorem st_ret (he : PE X e (tO p X W fe)) : PS X (.Return (some e) pos) (tS p W fun ρ => (fe ρ).st fun v ρ => .ret v ρ) :=
  PS.imp (ps_ret he) fun D σ H h => tS.st h fun H0 Lt Fz v ρ' x H' S r q => q x σ Fz H' (Ext.refl _) S r
/-- return x: what is owned is handed on -/
theorem st_retV {i : Nat} {x : Str} (n : Nm X i x) : PS X (.Return (some (.Name x p1)) pos) (tS p W fun ρ => match ρ[i]? with
        | some (.own m) => .ret (.own m) (ρ.set i .no)
        | _ => (readVar i ρ).st fun v ρ => .ret v ρ) := by
  refine ⟨fun pins s σ H D I ⟨H0, Lt, Fz, ρ, S, q⟩ => ?_⟩
  change PostS p W D H0 Lt Fz (match ρ[i]? with
        | some (.own m) => .ret (.own m) (ρ.set i .no)
        | _ => (readVar i ρ).st fun v ρ => .ret v ρ) at q
  split at q
  · rename_i m hm
    cases m with
    | lst ds =>
      refine (ps_ret (pe_var (pos := p1) n.at_ n.vis n.d1 n.d2)).run pins s σ H D I ?_
      obtain ⟨a0, xs, e1, f1, h0, l1, hh, r⟩ := S.slot i _ hm
      have hi := (List.getElem?_eq_some_iff.mp hm).1
      have S2 : StRep p H0 Lt Fz (ρ.set i .no) σ H := S.less List.length_set rfl fun j => by
        by_cases hj : j = i
        · subst hj
          exact .inr fun s e => by rw [List.getElem?_set_self hi] at e; cases e; rfl
        · exact .inl ⟨set_get_ne hj, rfl⟩
      refine ⟨_, e1, q _ σ Fz H (Ext.refl _) S2 ⟨a0, xs, rfl, f1, h0, l1, hh, r, fun j m ej => ?_⟩⟩
      by_cases hj : j = i
      · subst hj
        rw [List.getElem?_set_self hi] at m; cases m
      · rw [set_get_ne hj] at m
        exact S.apart j i a0 hj m (by rw [hm]; rfl) ej e1
  · exact (st_ret (p := p) (W := W) (s_var n)).run pins s σ H D I ⟨H0, Lt, Fz, ρ, S, q⟩
theorem st_if {sa sb : List Stmt} {ga gb : Env → SRes} (hc : PT X c (tT p X W fun ρ => tst (fc ρ))) (ha : PSs X sa (tS p W ga)) (hb : PSs X sb (tS p W gb)) :
    PS X (.If c sa sb pos) (tS p W fun ρ => (tst (fc ρ)).st fun k ρ => if k = true then ga ρ else gb ρ) := by
  refine PS.imp (ps_if hc ha hb) fun D σ H h => tS.st h fun H0 Lt Fz v ρ' x H' S r q => ?_
  subst r
  cases x with
  | true => exact ⟨H0, Lt, Fz, ρ', S, q⟩
  | false => exact ⟨H0, Lt, Fz, ρ', S, q⟩
/-! ### stores -/
theorem st_set {i : Nat} {x : Str} (n : Nw X i x) (he : PE X e (tO p X W fe)) (hs : swapsWith e (some (.Name x p1)) pos.line X.env = pure false) :
    PS X (.Assign [.Name x p1] e pos) (tS p W fun ρ => (frz (fe ρ)).st fun d ρ => if i < ρ.length then .next (ρ.set i (.dat d)) else .stuck) := by
  refine PS.imp (ps_set n.nd n.at_ n.loc (s_frz he) hs n.fn) fun D σ H h => tS.st h fun H0 Lt Fz v ρ' x H' S r q => ?_
  by_cases hi : i < ρ'.length
  · rw [if_pos hi] at q
    exact q _ Fz H' (Ext.refl _) (S.setD hi r)
  · rw [if_neg hi] at q; exact q.elim
theorem st_setO {i : Nat} {x : Str} (n : Nw X i x) (he : PE X e (tO p X W fe)) (hs : swapsWith e (some (.Name x p1)) pos.line X.env = pure false) :
    PS X (.Assign [.Name x p1] e pos) (tS p W fun ρ => (fe ρ).st fun v ρ => if i < ρ.length then .next (ρ.set i v.slot) else .stuck) := by
  refine PS.imp (ps_set n.nd n.at_ n.loc he hs n.fn) fun D σ H h => tS.st h fun H0 Lt Fz v ρ' x H' S r q => ?_
  by_cases hi : i < ρ'.length
  · rw [if_pos hi] at q
    exact q _ Fz H' (Ext.refl _) (S.setV hi r)
  · rw [if_neg hi] at q; exact q.elim
theorem tLc_imp {wi : TI} {g : TG} {tt : TT} {te : TE} {vs : List Nat} {σ : St} {H : Hp} {Q Q' : VK} (hw : ∀ σ H (R R' : It → Hp → Prop), (∀ J H, R J H → R' J H) → wi σ H R → wi σ H R') (h : tLc wi g tt te vs σ H Q) (i : ∀ x H, Q x H → Q' x H) : tLc wi g tt te vs σ H Q' := by
  refine hw σ H _ _ (fun J H1 h D nD => ?_) h
  obtain ⟨W, w0, turn⟩ := h D nD
  refine ⟨W, w0, fun i' m H2 w => ?_⟩
  rcases turn i' m H2 w with ⟨s, q⟩ | z
  · exact .inl ⟨s, i _ _ q⟩
  · exact .inr z
/-- x = [..] on one line -/
theorem st_setLc {i : Nat} {x : Str} {tg iter elt : Expr} {ifs : List Expr} {scope : Scope} {own : List (Str × Nat)} {p3 : Pos} {fi : Env → ERes (List AP.D)} {t : Tg} (n : Nw X i x) (hxl : X.env.scope.names.lookup x = some .local) (hc : X.calm = true)
    (hsw : swapsWith (.ListComp elt [⟨tg, iter, ifs, 0⟩] scope p3) (some (.Name x p1)) pos.line X.env = pure true) (hi : PI X tg iter (tI p X W fi)) (ok : BlkOk X.N X.env.scope scope own)
    (hix : ∀ i ∈ tgIx t, i ∈ own.map (·.2))
    (hg : ∀ (s : Shared) (H : Hp) (C : Addr) (cl : List (Str × Addr)) (fp : List Addr), PG (X.blk s H scope (compEnvC scope cl C X.env) fp) tg (tG p (tgIx t) (asgTg t)))
    (ht : ∀ (s : Shared) (H : Hp) (C : Addr) (cl : List (Str × Addr)) (fp : List Addr), PTs (X.blk s H scope (compEnvC scope cl C X.env) fp) ifs (tT p (X.blk s H scope (compEnvC scope cl C X.env) fp) W0 fun ρ => tst (fc ρ)))
    (he : ∀ (s : Shared) (H : Hp) (C : Addr) (cl : List (Str × Addr)) (fp : List Addr), PE (X.blk s H scope (compEnvC scope cl C X.env) fp) elt (tO p (X.blk s H scope (compEnvC scope cl C X.env) fp) W0 fe))
    (hs : ∀ x, foldedSetIterable iter X.env x = pure x) :
    PS X (.Assign [.Name x p1] (.ListComp elt [⟨tg, iter, ifs, 0⟩] scope p3) pos) (tS p W fun ρ => (compE fi (asgTg t) fc fe (own.map (·.2)) ρ).st fun v ρ => if i < ρ.length then .next (ρ.set i v.slot) else .stuck) := by
  refine PS.imp (ps_setLc hc n.nd n.at_ hxl hsw hi ok hg (tt := tT p X W0 fun ρ => tst (fc ρ)) (te := tD p X W0 fun ρ => frz (fe ρ)) (fun s H C cl fp => ht s H C cl fp) (fun s H C cl fp => s_frz (he s H C cl fp)) hs) fun D σ H h => ?_
  refine lc_read (X := X) (W := W) (tg := tg) (iter := iter) (elt := elt) hix ?_
  refine tS.st h fun H0 Lt Fz v ρ' x H' S r q => ?_
  by_cases hi : i < ρ'.length
  · rw [if_pos hi] at q
    exact q _ Fz H' (Ext.refl _) (S.setV hi r)
  · rw [if_neg hi] at q; exact q.elim
theorem st_asgT {t : Tg} (hg : PG X tg (tG p (tgIx t) (asgTg t))) (he : PE X e (tO p X W fe)) (hs : swapsWithSole [tg] e pos.line X.env = pure false) (hw : swappedStores [tg] e X.env = pure none) (hn : noStar tg = true) :
    PS X (.Assign [tg] e pos) (tS p W fun ρ => (frz (fe ρ)).st fun d ρ => match asgTg t d ρ with | some ρ => .next ρ | none => .stuck) := by
  refine PS.imp (ps_asg (s_frz he) hg hs hw (by rw [assign_each hn]; rfl)) fun D σ H h => tS.st h fun H0 Lt Fz v ρ' x H' S r q => ?_
  cases ha : asgTg t v ρ' with
  | none => rw [ha] at q; exact q.elim
  | some ρ2 =>
    rw [ha] at q
    exact ⟨H0, Lt, Fz, ρ', v, ρ2, S, r, ha, fun σ' o S' => q σ' Fz H' (Ext.refl _) S'⟩
/-- two stores -/
def parR (i j : Nat) (oj : Bool) (fa fb : Env → ERes Val) : Env → SRes := fun ρ => (frz (fa ρ)).st fun x ρ => (fb ρ).st fun y ρ => if i ≠ j ∧ i < ρ.length ∧ j < ρ.length then .next ((ρ.set i (.dat x)).set j (if oj then y.slot else .dat y.d)) else .stuck
theorem StRep.par {ρ : Env} {H : Hp} (S : StRep p H0 Lt Fz ρ σ H) {i j : Nat} {x y : V} {d : AP.D} {v : Val} (hij : i ≠ j) (hi : i < ρ.length) (hj : j < ρ.length) (rx : Rep p.g Fz x d) (ry : ValRep p H0 Lt Fz ρ σ H y v) :
    StRep p H0 Lt Fz ((ρ.set i (.dat d)).set j v.slot) ((σ.set i (some x)).set j (some y)) H := by
  refine (S.setD hi rx).setV (by rw [List.length_set]; exact hj) ?_
  cases v with
  | dat d => exact ry
  | own m => cases m with
    | lst ds =>
      obtain ⟨a, xs, e, f, h0, l, hh, rr, ap⟩ := ry
      refine ⟨a, xs, e, f, h0, l, hh, rr, fun k m ek => ?_⟩
      by_cases hk : k = i
      · subst hk
        rw [List.getElem?_set_self hi] at m; cases m
      · rw [set_get_ne hk] at m ek
        exact ap k m ek
/-- what the pair's second is stored as -/
theorem par_second {ρ : Env} {H : Hp} (S : StRep p H0 Lt Fz ρ σ H) {y : V} {v : Val} (r : ValRep p H0 Lt Fz ρ σ H y v) (oj : Bool) : ∃ F2 w, Ext Fz F2 ∧ StRep p H0 Lt F2 ρ σ H ∧ ValRep p H0 Lt F2 ρ σ H y w ∧ w.slot = (if oj then v.slot else .dat v.d) := by
  cases oj with
  | true => exact ⟨Fz, v, Ext.refl _, S, r, rfl⟩
  | false =>
    obtain ⟨F2, e, S2, r2⟩ := ValRep.frz S r
    exact ⟨F2, .dat v.d, e, S2, r2, rfl⟩
theorem st_par {i j : Nat} {x y : Str} {px py pt : Pos} {kt k2 pt2} {oj : Bool} (hc : X.calm = true) (ni : Nw X i x) (nj : Nw X j y) (hx : X.env.scope.names.lookup x = some .local) (hy : X.env.scope.names.lookup y = some .local)
    (ha : PE X a (tO p X W fa)) (hb : PE X b (tO p X W fb)) (hij : i ≠ j) (h1 : noStar a = true) (h2 : noStar b = true)
    (hw : swappedStores [.Tuple [.Name x px, .Name y py] kt pt] (.Tuple [a, b] k2 pt2) X.env = pure (some [x, y])) :
    PS X (.Assign [.Tuple [.Name x px, .Name y py] kt pt] (.Tuple [a, b] k2 pt2) pos) (tS p W (parR i j oj fa fb)) := by
  refine PS.imp (ps_par hc ni.nd ni.at_ nj.at_ hij hx hy (pa_cons (s_frz ha) (pa_cons hb pa_nil (star_cons h2)) (star_cons h1)) hw rfl) fun D σ H h => tS.st h fun H0 Lt Fz v ρ' x H' S r q => ⟨H0, Lt, Fz, ρ', S, PostS.st q fun w ρ2 y F2 H2 e2 S2 r2 q2 => ?_⟩
  by_cases hk : i ≠ j ∧ i < ρ2.length ∧ j < ρ2.length
  · rw [if_pos hk] at q2
    refine ⟨_, _, rfl, ?_⟩
    obtain ⟨F3, w', e3, S3, r3, es⟩ := par_second S2 r2 oj
    rw [← es] at q2
    exact q2 _ F3 H2 e3 (S3.par hk.1 hk.2.1 hk.2.2 (Rep.ext (e2.trans e3) _ _ r) r3)
  · rw [if_neg hk] at q2; exact q2.elim
/-- .. where the stores are not swapped -/
theorem st_parG {i j : Nat} {x y : Str} {px py pt : Pos} {kt k2 pt2} {oj : Bool} (hc : X.calm = true) (ni : Nw X i x) (nj : Nw X j y)
    (ha : PE X a (tO p X W fa)) (hb : PE X b (tO p X W fb)) (h1 : noStar a = true) (h2 : noStar b = true)
    (hw : swappedStores [.Tuple [.Name x px, .Name y py] kt pt] (.Tuple [a, b] k2 pt2) X.env = pure none) :
    PS X (.Assign [.Tuple [.Name x px, .Name y py] kt pt] (.Tuple [a, b] k2 pt2) pos) (tS p W (parR i j oj fa fb)) := by
  refine PS.imp (ps_asg (pe_tup (pa_cons (s_frz ha) (pa_cons hb pa_nil (star_cons h2)) (star_cons h1))) (pg_tup (n := 2) hc (pgs_cons (pg_name ni.nd ni.at_ ni.loc ni.fn) (pgs_cons (pg_name nj.nd nj.at_ nj.loc nj.fn) pgs_nil rfl) rfl) rfl rfl) rfl hw rfl) fun D σ H h => tS.st h fun H0 Lt Fz v ρ' x H' S r q => ⟨H0, Lt, Fz, ρ', S, PostS.st q fun w ρ2 y F2 H2 e2 S2 r2 q2 => ?_⟩
  by_cases hk : i ≠ j ∧ i < ρ2.length ∧ j < ρ2.length
  · rw [if_pos hk] at q2
    refine ⟨by show 2 ≤ sizeLine; decide, fun t nt => ?_⟩
    refine ⟨t, _, rfl, SqT.of upd_same, rfl, _, _, rfl, _, _, rfl, rfl, ?_⟩
    obtain ⟨F3, w', e3, S3, r3, es⟩ := par_second S2 r2 oj
    rw [← es] at q2
    refine q2 _ F3 _ e3 ((S3.par hk.1 hk.2.1 hk.2.2 (Rep.ext (e2.trans e3) _ _ r) r3).push nt)
  · rw [if_neg hk] at q2; exact q2.elim
theorem st_par3 {i j l : Nat} {x y z : Str} {px py pz pt : Pos} {kt k2 pt2} (hc : X.calm = true) (ni : Nw X i x) (nj : Nw X j y) (nl : Nw X l z) (hx : X.env.scope.names.lookup x = some .local) (hy : X.env.scope.names.lookup y = some .local) (hz : X.env.scope.names.lookup z = some .local)
    (ha : PE X a (tO p X W fa)) (hb : PE X b (tO p X W fb)) (hcc : PE X c (tO p X W fc)) (hij : i ≠ j) (hil : i ≠ l) (hjl : j ≠ l) (h1 : noStar a = true) (h2 : noStar b = true) (h3 : noStar c = true)
    (hw : swappedStores [.Tuple [.Name x px, .Name y py, .Name z pz] kt pt] (.Tuple [a, b, c] k2 pt2) X.env = pure (some [x, y, z])) :
    PS X (.Assign [.Tuple [.Name x px, .Name y py, .Name z pz] kt pt] (.Tuple [a, b, c] k2 pt2) pos) (tS p W fun ρ => (frz (fa ρ)).st fun x ρ => (frz (fb ρ)).st fun y ρ => (frz (fc ρ)).st fun z ρ => if i < ρ.length ∧ j < ρ.length ∧ l < ρ.length then .next (((ρ.set i (.dat x)).set j (.dat y)).set l (.dat z)) else .stuck) := by
  refine PS.imp (ps_par3 hc ni.nd ni.at_ nj.at_ nl.at_ hij hil hjl hx hy hz (pa_cons (s_frz ha) (pa_cons (s_frz hb) (pa_cons (s_frz hcc) pa_nil (star_cons h3)) (star_cons h2)) (star_cons h1)) hw rfl) fun D σ H h => tS.st h fun H0 Lt Fz v ρ' x H' S r q => ⟨H0, Lt, Fz, ρ', S, PostS.st q fun w ρ2 y F2 H2 e2 S2 r2 q2 => ?_⟩
  refine ⟨H0, Lt, F2, ρ2, S2, PostS.st q2 fun u ρ3 z F3 H3 e3 S3 r3 q3 => ?_⟩
  by_cases hk : i < ρ3.length ∧ j < ρ3.length ∧ l < ρ3.length
  · rw [if_pos hk] at q3
    exact ⟨_, _, _, rfl, q3 _ F3 H3 (Ext.refl _) (((S3.setD hk.1 (Rep.ext (e2.trans e3) _ _ r)).setD (by rw [List.length_set]; exact hk.2.1) (Rep.ext e3 _ _ r2)).setD (by rw [List.length_set, List.length_set]; exact hk.2.2) r3)⟩
  · rw [if_neg hk] at q3; exact q3.elim
/-- x.append(e) -/
theorem st_app {i : Nat} {x : Str} {apos cpos : Pos} (n : Nm X i x) (he : PE X e (tO p X W fe)) (h1 : noStar e = true) (hl : (apos.endLine == cpos.line) = true) :
    PS X (.Expr (.Call (.Attribute (.Name x p1) "append" apos) [e] [] cpos) pos) (tS p W fun ρ => if isMut ρ[i]? = true then (frz (fe ρ)).st fun d ρ => match mutL ρ[i]? with
      | some l => if l.length < line then .next (ρ.set i (putS ρ[i]? (l ++ [d]))) else .stuck
      | none => .stuck else .stuck) := by
  have hm : MtR X "list.append" rAppend := mt_append
  refine PS.imp (ps_expr (pe_bm PySem.F.plainAttrs_list PySem.F.slot_list_append PySem.F.type_list_append hm (pe_var (pos := p1) n.at_ n.vis n.d1 n.d2) (pa_cons (s_frz he) pa_nil (star_cons h1)) rfl (by
      rw [star_one h1]
      have : (backToKw cpos (keywordEach [] X.env)).all (fun x => x.1.isSome) = true := rfl
      rw [this]; rfl) hl (star_cons h1) (star_any rfl)) rfl) fun D σ H ⟨H0, Lt, Fz, ρ, S, q⟩ => ?_
  change PostS p W D H0 Lt Fz (if isMut ρ[i]? = true then (frz (fe ρ)).st fun d ρ => match mutL ρ[i]? with
      | some l => if l.length < line then .next (ρ.set i (putS ρ[i]? (l ++ [d]))) else .stuck
      | none => .stuck else .stuck) at q
  by_cases hm : isMut ρ[i]? = true
  · rw [if_pos hm] at q
    obtain ⟨a0, xs, ds, e1, hh, f1, r1, k1⟩ := S.mutAt hm
    refine ⟨_, e1, .inl ⟨rfl, _, SqL.of hh⟩, H0, Lt, Fz, ρ, S, PostS.st q fun d ρ2 y F2 H2 e2 S2 r2 q2 => ?_⟩
    cases hd : mutL ρ2[i]? with
    | none => rw [hd] at q2; exact q2.elim
    | some l =>
      rw [hd] at q2
      dsimp only at q2
      by_cases hl : l.length < line
      · rw [if_pos hl] at q2
        obtain ⟨a1, ys, e3, h3, rr⟩ := S2.mutGet hd
        rw [e1] at e3; cases e3
        exact ⟨a0, ys, y, rfl, rfl, h3, by rw [← line_eq, rr.length]; exact hl, q2 _ F2 _ (Ext.refl _) (S2.wr (mutL_some hd) e1 h3 (rr.append (.cons r2 .nil)))⟩
      · rw [if_neg hl] at q2; exact q2.elim
  · rw [if_neg hm] at q; exact q.elim
/-- x[ix] = e -/
theorem st_setIx {i : Nat} {x : Str} {sp : Pos} {ix : Expr} {fx : Env → ERes Val} (n : Nm X i x) (he : PE X e (tO p X W fe)) (hx : PE X ix (tO p X W fx)) (hsl : plainSlice ix = true) (hs : swapsWithSole [.Subscript (.Name x p1) ix sp] e pos.line X.env = pure false) (hw : swappedStores [.Subscript (.Name x p1) ix sp] e X.env = pure none) :
    PS X (.Assign [.Subscript (.Name x p1) ix sp] e pos) (tS p W fun ρ => (frz (fe ρ)).st fun d ρ => if isMut ρ[i]? = true then (frz (fx ρ)).st fun k ρ => match k, mutL ρ[i]? with
      | .int k, some l => (match ixN l.length k with | some j => .next (ρ.set i (putS ρ[i]? (l.set j d))) | none => .stuck)
      | _, _ => .stuck else .stuck) := by
  have ha : ∀ v, assign (.Subscript (.Name x p1) ix sp) X.env v = (do
      let ov ← holding [v] (eval (.Name x p1) X.env)
      let iv ← holding [v, ov] (eval ix X.env)
      standAt sp
      holding [v, ov, iv] (setItem ov iv v)
      release [v, ov, iv] []) := by
    intro v
    cases ix <;> first | rfl | cases hsl
  refine PS.imp (ps_asg (s_frz he) (pg_sub (pe_var (pos := p1) n.at_ n.vis n.d1 n.d2) (s_frz hx) set_list ha) hs hw rfl) fun D σ H h => tS.st h fun H0 Lt Fz v ρ' y H' S r q => ?_
  by_cases hm : isMut ρ'[i]? = true
  · rw [if_pos hm] at q
    obtain ⟨a0, xs, ds, e1, hh, f1, r1, k1⟩ := S.mutAt hm
    refine ⟨_, e1, H0, Lt, Fz, ρ', S, PostS.st q fun w ρ2 z F2 H2 e2 S2 r2 q2 => ?_⟩
    split at q2
    · rename_i k l hd
      split at q2
      · rename_i j hj
        cases r2
        obtain ⟨a1, ys, e3, h3, rr⟩ := S2.mutGet hd
        rw [e1] at e3; cases e3
        exact ⟨a0, ys, k, j, rfl, rfl, h3, by rw [rr.length, ← ixN_eq]; exact hj, q2 _ F2 _ (Ext.refl _) (S2.wr (mutL_some hd) e1 h3 (rr.set j (Rep.ext e2 _ _ r)))⟩
      · exact q2.elim
    · exact q2.elim
  · rw [if_neg hm] at q; exact q.elim
/-! ### loops -/
theorem st_for {iter : Expr} {body : List Stmt} {fi : Env → ERes (List AP.D)} {t : Tg} {g : Env → SRes} (hp : PassesOwn (model X.prog X.w) X.A X.env X.xe) (hc : X.calm = true) (hi : PI X tg iter (tI p X W fi)) (hg : PG X tg (tG p (tgIx t) (asgTg t))) (hb : PSs X body (tS p W g))
    (hs : ∀ x, foldedSetIterable iter X.env x = pure x) : PS X (.For tg iter body [] pos) (tS p W fun ρ => (fi ρ).st fun ds ρ => forF (fun d ρ => match asgTg t d ρ with | some ρ => g ρ | none => .stuck) ds ρ) := by
  refine PS.imp (ps_for hp hc hi hg hb hs) fun D σ H h => tS.st h fun H0 Lt F1 ds ρ1 J H1 S1 src q => ?_
  refine for_it (src_walk src) (fun i σ' Hc => ∃ Fz ρi, Ext F1 Fz ∧ StRep p H0 Lt Fz ρi σ' Hc ∧ PostS p W D H0 Lt Fz (forF (fun d ρ => match asgTg t d ρ with | some ρ => g ρ | none => .stuck) (ds.drop i) ρi)) ⟨F1, ρ1, Ext.refl _, S1, q⟩ (fun i σ' Hc _ ⟨Fz, ρi, e, S, _⟩ => e.trans S.ext) ?_ ?_
  · rintro i x σ' Hc Hn hi ⟨Fz, ρi, e, S, q⟩ y
    obtain ⟨d, hd⟩ : ∃ d, ds[i]? = some d := ⟨ds[i], List.getElem?_eq_getElem hi⟩
    obtain ⟨F2, gr, rx⟩ := y Fz d hd e S.ext
    have hd2 : ds[i] = d := (List.getElem?_eq_some_iff.mp hd).2
    rw [List.drop_eq_getElem_cons hi, hd2] at q
    unfold forF at q
    have S2 := S.grow gr
    have q := PostS.ext gr.fz q
    cases ha : asgTg t d ρi with
    | none => rw [ha] at q; exact q.elim
    | some ρa =>
      rw [ha] at q
      refine ⟨H0, Lt, F2, ρi, d, ρa, S2, rx, ha, fun σ2 o S3 => ⟨H0, Lt, F2, ρa, S3, ?_⟩⟩
      dsimp only at q
      generalize hr : g ρa = r at q ⊢
      cases r with
      | next ρ' => exact fun σ3 F3 H3 e3 S4 => ⟨F3, ρ', e.trans (gr.fz.trans e3), S4, PostS.ext e3 q⟩
      | cont ρ' => exact fun σ3 F3 H3 e3 S4 => ⟨F3, ρ', e.trans (gr.fz.trans e3), S4, PostS.ext e3 q⟩
      | brk ρ' => exact q
      | ret v ρ' => exact q
      | exc c ρ' => exact q
      | stuck => exact q
  · rintro σ' Hc ⟨Fz, ρi, e, S, q⟩
    rw [List.drop_length] at q
    exact q σ' Fz Hc (Ext.refl _) S
theorem st_while {c : Expr} {body : List Stmt} {g : Env → SRes} {fuel : Nat} (hp : PassesOwn (model X.prog X.w) X.A X.env X.xe) (hc : PT X c (tT p X W fun ρ => tst (fc ρ))) (hb : PSs X body (tS p W g)) :
    PS X (.While c body [] pos) (tS p W fun ρ => whileF (fun ρ => tst (fc ρ)) g fuel ρ) := by
  refine PS.imp (ps_while hp hc hb) fun D σ H ⟨H0, Lt, Fz, ρ, S, q⟩ => ⟨fun n σ' H' => ∃ F' ρ', Ext Fz F' ∧ StRep p H0 Lt F' ρ' σ' H' ∧ PostS p W D H0 Lt F' (whileF (fun ρ => tst (fc ρ)) g n ρ'), ⟨fuel, Fz, ρ, Ext.refl _, S, q⟩, ?_⟩
  rintro n σ' H' ⟨F', ρ', e, S', q⟩
  cases n with
  | zero => exact q.elim
  | succ n =>
    unfold whileF at q
    refine ⟨H0, Lt, F', ρ', S', PostS.st q fun k ρ2 x F2 H2 e2 S2 r q2 => ?_⟩
    subst r
    cases x with
    | false => exact q2 σ' F2 H2 (Ext.refl _) S2
    | true =>
      rw [if_pos rfl] at q2 ⊢
      refine ⟨fun σ3 H3 => ∃ F3 ρ3, Ext Fz F3 ∧ StRep p H0 Lt F3 ρ3 σ3 H3 ∧ PostS p W D H0 Lt F3 (whileF (fun ρ => tst (fc ρ)) g n ρ3), fun σ3 H3 h3 => ⟨n, Nat.lt_succ_self n, h3⟩, H0, Lt, F2, ρ2, S2, ?_⟩
      generalize hr : g ρ2 = r at q2 ⊢
      cases r with
      | next ρ3 => exact fun σ3 F3 H3 e3 S3 => ⟨F3, ρ3, e.trans (e2.trans e3), S3, PostS.ext e3 q2⟩
      | cont ρ3 => exact fun σ3 F3 H3 e3 S3 => ⟨F3, ρ3, e.trans (e2.trans e3), S3, PostS.ext e3 q2⟩
      | brk ρ3 => exact q2
      | ret v ρ3 => exact q2
      | exc c ρ3 => exact q2
      | stuck => exact q2
/-- raise X('m') -/
theorem st_raise {cl : Nat} {C : Addr} (hc : X.calm = true) (tk : L2N.Takes X W) (hC : ClsAt p.g cl C) (he : L2N.PMk X e (fun _ H Q => Q (.ref C) none H)) : PS X (.Raise (some e) none pos) (tS p W fun ρ => .exc cl ρ) :=
  PS.imp (L2N.ps_raise hc tk he) fun D σ H ⟨H0, Lt, Fz, ρ, S, q⟩ => q σ Fz H C (Ext.refl _) S hC
end
end AP
end
section
/-! AP10: calls -/
namespace AP
open PySem PySem.Spec PyProof.Rows L2

/-- an argument as it comes -/
def ArgRep (g : Glb) (CP : CPT) (Fz H : Hp) : V → Arg → Prop
  | v, .dat d => Rep g Fz v d
  | v, .lent (.lst ds) => ∃ a xs, v = .ref a ∧ Fz a = none ∧ H a = some (.lst xs) ∧ RepL g Fz xs ds
  | v, .clo c => CP Fz v c
inductive ArgsRep (g : Glb) (CP : CPT) (Fz H : Hp) : List V → List Arg → Prop
  | nil : ArgsRep g CP Fz H [] []
  | cons {v vs a as} : ArgRep g CP Fz H v a → ArgsRep g CP Fz H vs as → ArgsRep g CP Fz H (v :: vs) (a :: as)
def isLent : Arg → Bool
  | .lent _ => true
  | _ => false
/-- the addresses that are lent -/
def lentA : List V → List Arg → List Addr
  | .ref a :: vs, .lent _ :: as => a :: lentA vs as
  | _ :: vs, _ :: as => lentA vs as
  | _, _ => []
/-- the lent lists as a call leaves them -/
inductive LentRep (g : Glb) (Fz H : Hp) : List Addr → List M → Prop
  | nil : LentRep g Fz H [] []
  | cons {a : Addr} {xs : List V} {ds : List D} {l : List Addr} {ms : List M} : Fz a = none → H a = some (.lst xs) → RepL g Fz xs ds → LentRep g Fz H l ms → LentRep g Fz H (a :: l) (.lst ds :: ms)
theorem LentRep.extD {g : Glb} {A B H : Hp} (e : ExtD A B) (n : ∀ a, A a = none → B a = none) : ∀ {l : List Addr} {ms : List M}, LentRep g A H l ms → LentRep g B H l ms
  | _, _, .nil => .nil
  | _, _, .cons a b c d => .cons (n _ a) b (RepL.extD e _ _ c) (d.extD e n)
/-- behind a call -/
structure After (g : Glb) (TI : Hp → Prop) (Fz H : Hp) (Lt : List Addr) (Fz' H' : Hp) (ms : List M) : Prop where
  fz : Ext Fz Fz'
  sub : Ext Fz' H'
  tab : TI H'
  ntb : ∀ a o, Fz' a = some o → NoTb o
  keep : ∀ a o, H a = some o → a ∉ Lt → NoTb o → H' a = some o
  there : ∀ a o, H a = some o → ∃ o', H' a = some o'
  old : ∀ a o, Fz' a = some o → Fz a = some o ∨ H a = none
  lent : LentRep g Fz' H' Lt ms
def ResRep (p : Pa) (H : Hp) (Lt : List Addr) (Fz' H' : Hp) (x : V) : Val → Prop
  | .dat d => Rep p.g Fz' x d
  | .own (.lst ds) => ∃ a xs, x = .ref a ∧ Fz' a = none ∧ H a = none ∧ H' a = some (.lst xs) ∧ RepL p.g Fz' xs ds
def PostF (p : Pa) (Fz H : Hp) (Lt : List Addr) (Q : VK) (E : XK) : FRes → Prop
  | .ret v ms => ∀ x Fz' H', After p.g p.TI Fz H Lt Fz' H' ms → ResRep p H Lt Fz' H' x v → Q x H'
  | .exc c ms => ∀ Fz' H' C, After p.g p.TI Fz H Lt Fz' H' ms → ClsAt p.g c C → E (.ref C) none H'
  | .stuck => False
/-- what a def does by values -/
def spF (p : Pa) (n : Nat) (F : List Arg → FRes) : Sp := fun vs H Q E => ∃ Fz as, as.length = n ∧ ArgsRep p.g p.CP Fz H vs as ∧ Ext Fz H ∧ p.TI H ∧ (∀ a o, Fz a = some o → NoTb o) ∧ (lentA vs as).length ≤ 1 ∧ PostF p Fz H (lentA vs as) Q E (F as)
theorem ArgsRep.length {p : Pa} {Fz H : Hp} : ∀ {vs : List V} {as : List Arg}, ArgsRep p.g p.CP Fz H vs as → vs.length = as.length
  | _, _, .nil => rfl
  | _, _, .cons _ r => by rw [List.length_cons, List.length_cons, r.length]
theorem spF_len {p : Pa} {n : Nat} {F : List Arg → FRes} : ∀ vs H Q E, spF p n F vs H Q E → vs.length = n := fun vs H Q E ⟨Fz, as, h1, h2, _⟩ => h2.length.trans h1

/-! ### the arguments of a call -/
def rA1 (p : Pa) (Fz : Hp) (ρ : Env) (σ : St) : V → PArg → Prop
  | x, .dat d => Rep p.g Fz x d
  | x, .lent i => isMut ρ[i]? = true ∧ σ[i]? = some (some x)
  | x, .clo c => p.CP Fz x c
def rA (p : Pa) : RT (List V) (List PArg) := fun _ _ Fz ρ σ _ xs ps => Paired (rA1 p Fz ρ σ) xs ps
abbrev tAr (p : Pa) (X : Cx) (W : WX) (f : Env → ERes (List PArg)) : TA := tR (rA p) p X W f
/-- the mutable slots stay mutable -/
def MutUp (σ : St) (ρ ρ' : Env) : Prop := ∀ (i : Nat) x, isMut ρ[i]? = true → σ[i]? = some (some x) → isMut ρ'[i]? = true
section
variable {p : Pa} {X : Cx} {W : WX} {e : Expr} {es : List Expr} {fa : Env → ERes Val} {fr : Env → ERes (List PArg)}
theorem a_nil : PA X [] (tAr p X W fun ρ => .ok [] ρ) := PA.imp pa_nil fun σ H Q ⟨H0, Lt, Fz, ρ, S, q⟩ => q _ Fz H (Ext.refl _) S .nil
theorem a_cons (he : PE X e (tO p X W fa)) (hr : PA X es (tAr p X W fr)) (hs : noStar e = true) :
    PA X (e :: es) (tAr p X W fun ρ => (frz (fa ρ)).bind fun d ρ => (fr ρ).bind fun ps ρ => .ok (.dat d :: ps) ρ) := by
  refine PA.imp (pa_cons (s_frz he) hr (star_cons hs)) fun σ H Q h => tR.bind h fun H0 Lt Fz v ρ' x H' S r q => ⟨H0, Lt, Fz, ρ', S, Post.bind (R2 := rA p) q fun w ρ2 y F2 H2 e2 S2 r2 q2 => ?_⟩
  exact q2 _ F2 H2 (Ext.refl _) S2 (.cons (Rep.ext e2 _ _ r) r2)
/-- a mutable slot is lent; nothing behind it makes it less -/
theorem a_lent {i : Nat} {x : Str} {pos : Pos} (n : Nm X i x) (hr : PA X es (tAr p X W fr)) :
    PA X (.Name x pos :: es) (tAr p X W fun ρ => if isMut ρ[i]? = true then (fr ρ).bind fun ps ρ => if isMut ρ[i]? = true then .ok (.lent i :: ps) ρ else .stuck else .stuck) := by
  refine PA.imp (pa_cons (pe_var (pos := pos) n.at_ n.vis n.d1 n.d2) hr (star_cons rfl)) fun σ H Q ⟨H0, Lt, Fz, ρ, S, q⟩ => ?_
  change Post (rA p) p X W H0 Lt Fz σ Q (if isMut ρ[i]? = true then (fr ρ).bind fun ps ρ => if isMut ρ[i]? = true then .ok (.lent i :: ps) ρ else .stuck else .stuck) at q
  by_cases hm : isMut ρ[i]? = true
  · rw [if_pos hm] at q
    obtain ⟨a, xs, ds, e1, hh, f1, r1, k1⟩ := S.mutAt hm
    refine ⟨_, e1, H0, Lt, Fz, ρ, S, Post.bind (R2 := rA p) q fun w ρ2 y F2 H2 e2 S2 r2 q2 => ?_⟩
    by_cases hm2 : isMut ρ2[i]? = true
    · rw [if_pos hm2] at q2
      exact q2 _ F2 H2 (Ext.refl _) S2 (.cons ⟨hm2, e1⟩ r2)
    · rw [if_neg hm2] at q2; exact q2.elim
  · rw [if_neg hm] at q; exact q.elim
end

/-! ### behind the call -/
section
variable {p : Pa} {H0 : Hp} {Lt : List Addr} {Fz H : Hp} {ρ : Env} {σ : St}
/-- the lent slots' addresses -/
theorem args_rep (S : StRep p H0 Lt Fz ρ σ H) : ∀ {vs : List V} {ps : List PArg} {as : List Arg}, Paired (rA1 p Fz ρ σ) vs ps → argsOf ρ ps = some as → ArgsRep p.g p.CP Fz H vs as ∧ Paired (fun a i => isMut ρ[i]? = true ∧ σ[i]? = some (some (V.ref a))) (lentA vs as) (lentIx ps)
  | [], [], _, .nil, e => by cases e; exact ⟨.nil, .nil⟩
  | v :: vs, q :: ps, as, .cons r t, e => by
    unfold argsOf at e
    obtain ⟨a, e1, e⟩ := Option.bind_eq_some_iff.mp e
    obtain ⟨bs, e2, rfl⟩ := Option.map_eq_some_iff.mp e
    obtain ⟨h1, h2⟩ := args_rep S t e2
    cases q with
    | dat d =>
      cases e1
      refine ⟨.cons r h1, ?_⟩
      have : lentA (v :: vs) (.dat d :: bs) = lentA vs bs := by cases v <;> rfl
      rw [this]; exact h2
    | clo c =>
      cases e1
      refine ⟨.cons r h1, ?_⟩
      have : lentA (v :: vs) (.clo c :: bs) = lentA vs bs := by cases v <;> rfl
      rw [this]; exact h2
    | lent i =>
      obtain ⟨hm, ei⟩ := r
      obtain ⟨a0, xs, ds, e3, hh, f1, r1, k1⟩ := S.mutAt hm
      rw [ei] at e3; cases e3
      have ea : a = .lent (.lst ds) := by
        dsimp only [PArg.arg] at e1
        rcases k1 with ⟨z, _⟩ | ⟨z, _⟩ <;> (rw [z] at e1; cases e1; rfl)
      subst ea
      exact ⟨.cons ⟨a0, xs, rfl, f1, hh, r1⟩ h1, .cons ⟨hm, ei⟩ h2⟩
/-- a state of which some slots' contents are open: l are their addresses -/
structure Open (p : Pa) (H0 : Hp) (Lt : List Addr) (Fz : Hp) (ρ : Env) (σ : St) (H : Hp) (is : List Nat) : Prop where
  ext : Ext Fz H
  base : ∀ a o, H0 a = some o → a ∉ Lt → NoTb o → H a = some o
  slot : ∀ (i : Nat) (s : Slot), i ∉ is → ρ[i]? = some s → SlotRep p H0 Lt Fz H (σ[i]?) s
  apart : ∀ (i j : Nat) (a : Addr), i ≠ j → isMut ρ[i]? = true → isMut ρ[j]? = true → σ[i]? = some (some (V.ref a)) → σ[j]? = some (some (V.ref a)) → False
  len : ρ.length = σ.length
  lt : ∀ a, a ∈ Lt → ∃ o, H a = some o
  tab : p.TI H
  tbs : ∀ a o, H0 a = some o → ∃ o', H a = some o'
  ntb : ∀ a o, Fz a = some o → NoTb o
  old : ∀ a o, Fz a = some o → p.F0 a = some o ∨ H0 a = none ∨ ∃ φ, o = .ext φ
  f0 : Ext p.F0 Fz
  kind : ∀ i a, i ∈ is → σ[i]? = some (some (V.ref a)) → (∀ m, ρ[i]? = some (.own m) → H0 a = none ∧ a ∉ Lt) ∧ (∀ m, ρ[i]? = some (.lent m) → a ∈ Lt)
theorem Open.close : ∀ {l : List Addr} {is : List Nat} {ms : List M} {ρ ρ2 : Env}, Open p H0 Lt Fz ρ σ H is → Paired (fun a i => isMut ρ[i]? = true ∧ σ[i]? = some (some (V.ref a))) l is → LentRep p.g Fz H l ms → is.Nodup → putBack is ms ρ = some ρ2 →
    StRep p H0 Lt Fz ρ2 σ H ∧ ∀ i : Nat, isMut ρ2[i]? = true → isMut ρ[i]? = true
  | _, _, _, ρ, ρ2, O, .nil, .nil, _, e => by
    unfold putBack at e; cases e
    exact ⟨⟨O.ext, O.base, fun i s q => O.slot i s (by simp) q, O.apart, O.len, O.lt, O.tab, O.tbs, O.ntb, O.old, O.f0⟩, fun _ m => m⟩
  | a :: l, i :: is, .lst ds :: ms, ρ, ρ2, O, .cons ⟨hm, ei⟩ t, .cons f1 hh r lr, nd, e => by
    unfold putBack at e
    obtain ⟨ρ1, e1, e⟩ := Option.bind_eq_some_iff.mp e
    obtain ⟨nd1, nd2⟩ := List.nodup_cons.mp nd
    obtain ⟨kk1, kk2⟩ := O.kind i a List.mem_cons_self ei
    have hi : i < ρ.length := by
      rcases isMut_cases hm with ⟨m, z⟩ | ⟨m, z⟩ <;> exact (List.getElem?_eq_some_iff.mp z).1
    have key : ∃ s : Slot, ρ1 = ρ.set i s ∧ isMut (some s) = true ∧ SlotRep p H0 Lt Fz H (σ[i]?) s := by
      split at e1
      · rename_i m z
        cases e1
        exact ⟨_, rfl, rfl, a, _, ei, f1, (kk1 m z).1, (kk1 m z).2, hh, r⟩
      · rename_i m z
        cases e1
        exact ⟨_, rfl, rfl, a, _, ei, f1, kk2 m z, hh, r⟩
      · cases e1
    obtain ⟨s, rfl, ms1, sr⟩ := key
    have mu : ∀ j : Nat, isMut (ρ.set i s)[j]? = true → isMut ρ[j]? = true := fun j m => by
      by_cases hj : j = i
      · subst hj; exact hm
      · rw [set_get_ne hj] at m; exact m
    have O1 : Open p H0 Lt Fz (ρ.set i s) σ H is := by
      refine ⟨O.ext, O.base, fun j u hj q => ?_, fun j k b hjk mj mk => O.apart j k b hjk (mu j mj) (mu k mk), by rw [List.length_set]; exact O.len, O.lt, O.tab, O.tbs, O.ntb, O.old, O.f0, fun j b hj ej => ?_⟩
      · by_cases hji : j = i
        · subst hji
          rw [List.getElem?_set_self hi] at q; cases q
          exact sr
        · rw [set_get_ne hji] at q
          exact O.slot j u (by simp [hji, hj]) q
      · have hji : j ≠ i := fun z => nd1 (by rw [← z]; exact hj)
        rw [set_get_ne hji]
        exact O.kind j b (List.mem_cons_of_mem _ hj) ej
    have t1 : Paired (fun a i => isMut (ρ.set i s)[i]? = true ∧ σ[i]? = some (some (V.ref a))) l is := by
      have : ∀ {l : List Addr} {is : List Nat}, i ∉ is → Paired (fun a i => isMut ρ[i]? = true ∧ σ[i]? = some (some (V.ref a))) l is → Paired (fun a j => isMut (ρ.set j s)[j]? = true ∧ σ[j]? = some (some (V.ref a))) l is := by
        intro l is hni t
        induction t with
        | nil => exact .nil
        | cons r t ih =>
          simp only [List.mem_cons, not_or] at hni
          refine .cons ⟨?_, r.2⟩ (ih hni.2)
          have hl : ∀ j : Nat, isMut ρ[j]? = true → isMut (ρ.set j s)[j]? = true := fun j m => by
            have hj : j < ρ.length := by
              rcases isMut_cases m with ⟨m, z⟩ | ⟨m, z⟩ <;> exact (List.getElem?_eq_some_iff.mp z).1
            rw [List.getElem?_set_self hj]; exact ms1
          exact hl _ r.1
      exact this nd1 t
    have t2 : Paired (fun a j => isMut (ρ.set i s)[j]? = true ∧ σ[j]? = some (some (V.ref a))) l is := by
      have : ∀ {l : List Addr} {is : List Nat}, i ∉ is → Paired (fun a i => isMut ρ[i]? = true ∧ σ[i]? = some (some (V.ref a))) l is → Paired (fun a j => isMut (ρ.set i s)[j]? = true ∧ σ[j]? = some (some (V.ref a))) l is := by
        intro l is hni t
        induction t with
        | nil => exact .nil
        | cons r t ih =>
          simp only [List.mem_cons, not_or] at hni
          exact .cons ⟨by rw [set_get_ne (Ne.symm hni.1)]; exact r.1, r.2⟩ (ih hni.2)
      exact this nd1 t
    obtain ⟨h1, h2⟩ := Open.close O1 t2 lr nd2 e
    exact ⟨h1, fun j m => mu j (h2 j m)⟩
theorem StRep.after (S : StRep p H0 Lt Fz ρ σ H) {l : List Addr} {is : List Nat} {ms : List M} {Fz' H' : Hp} {ρ2 : Env} (t : Paired (fun a i => isMut ρ[i]? = true ∧ σ[i]? = some (some (V.ref a))) l is) (nd : is.Nodup) (A : After p.g p.TI Fz H l Fz' H' ms) (e : putBack is ms ρ = some ρ2) :
    StRep p H0 Lt Fz' ρ2 σ H' ∧ ∀ i : Nat, isMut ρ2[i]? = true → isMut ρ[i]? = true := by
  have hl : ∀ a, a ∈ l → ∃ i ∈ is, isMut ρ[i]? = true ∧ σ[i]? = some (some (V.ref a)) := by
    intro a
    clear A nd e
    induction t with
    | nil => intro h; cases h
    | cons r t ih =>
      intro h
      rcases List.mem_cons.mp h with rfl | h
      · exact ⟨_, List.mem_cons_self, r⟩
      · obtain ⟨j, hj, k⟩ := ih h
        exact ⟨j, List.mem_cons_of_mem _ hj, k⟩
  have h0n : ∀ a, H a = none → H0 a = none := fun a n => by
    cases q : H0 a with
    | none => rfl
    | some o => obtain ⟨o', e'⟩ := S.tbs a o q; rw [n] at e'; cases e'
  have nf : ∀ a o, Fz a = none → H a = some o → Fz' a = none := fun a o n e => by
    cases q : Fz' a with
    | none => rfl
    | some u =>
      rcases A.old a u q with z | z
      · rw [n] at z; cases z
      · rw [e] at z; cases z
  refine Open.close ⟨A.sub, fun a o q n tb => ?_, fun i s hi q => ?_, S.apart, S.len, fun a h => ?_, A.tab, fun a o q => ?_, A.ntb, fun a o q => ?_, S.f0.trans A.fz, fun i a hi ei => ?_⟩ t A.lent nd e
  · refine A.keep a o (S.base a o q n tb) (fun hm => ?_) tb
    obtain ⟨i, _, m, ei⟩ := hl a hm
    obtain ⟨b, xs, ds, e1, _, _, _, k⟩ := S.mutAt m
    rw [ei] at e1; cases e1
    rcases k with ⟨_, z, _⟩ | ⟨_, z⟩
    · rw [z] at q; cases q
    · exact n z
  · have z := S.slot i s q
    cases s with
    | no => trivial
    | dat d => obtain ⟨v, e1, r⟩ := z; exact ⟨v, e1, Rep.ext A.fz _ _ r⟩
    | clo c => obtain ⟨v, e1, r⟩ := z; exact ⟨v, e1, p.mono _ _ _ _ A.fz r⟩
    | own m => cases m with
      | lst ds =>
        obtain ⟨a, xs, e1, f1, k0, kl, hh, r⟩ := z
        refine ⟨a, xs, e1, nf a _ f1 hh, k0, kl, A.keep a _ hh (fun hm => ?_) (fun _ z => by cases z), RepL.ext A.fz _ _ r⟩
        obtain ⟨j, hj, m, ej⟩ := hl a hm
        exact S.apart i j a (fun z => hi (by rw [z]; exact hj)) (by rw [q]; rfl) m e1 ej
    | lent m => cases m with
      | lst ds =>
        obtain ⟨a, xs, e1, f1, kl, hh, r⟩ := z
        refine ⟨a, xs, e1, nf a _ f1 hh, kl, A.keep a _ hh (fun hm => ?_) (fun _ z => by cases z), RepL.ext A.fz _ _ r⟩
        obtain ⟨j, hj, m, ej⟩ := hl a hm
        exact S.apart i j a (fun z => hi (by rw [z]; exact hj)) (by rw [q]; rfl) m e1 ej
  · obtain ⟨o, q⟩ := S.lt a h
    exact A.there a o q
  · obtain ⟨o', q'⟩ := S.tbs a o q
    exact A.there a o' q'
  · rcases A.old a o q with z | z
    · exact S.old a o z
    · exact .inr (.inl (h0n a z))
  · refine ⟨fun m em => ?_, fun m em => ?_⟩
    · have z := S.slot i _ em
      cases m with
      | lst ds =>
        obtain ⟨b, xs, e1, f1, k0, kl, hh, r⟩ := z
        rw [ei] at e1; cases e1
        exact ⟨k0, kl⟩
    · have z := S.slot i _ em
      cases m with
      | lst ds =>
        obtain ⟨b, xs, e1, f1, kl, hh, r⟩ := z
        rw [ei] at e1; cases e1
        exact kl
end
/-- a call by its arguments -/
theorem res_read {p : Pa} {X : Cx} {W : WX} {H0 : Hp} {Lt : List Addr} {Fz : Hp} {ρ' : Env} {σ : St} {H' : Hp} {Q : VK} {F : List Arg → FRes} {ps : List PArg} {vs : List V} {as : List Arg} (S : StRep p H0 Lt Fz ρ' σ H') (h2 : Paired (fun a i => isMut ρ'[i]? = true ∧ σ[i]? = some (some (V.ref a))) (lentA vs as) (lentIx ps)) (nd : (lentIx ps).Nodup)
    (q : Post (rO p) p X W H0 Lt Fz σ Q (back (F as) (lentIx ps) ρ')) : PostF p Fz H' (lentA vs as) Q (WE W σ) (F as) := by
  unfold back at q
  cases hF : F as with
  | stuck => rw [hF] at q; exact q.elim
  | ret v ms =>
    rw [hF] at q
    dsimp only at q
    cases hb : putBack (lentIx ps) ms ρ' with
    | none => rw [hb] at q; exact fun x Fz' H' A rr => (by
        -- the lengths agree: nothing to show otherwise
        exact q.elim)
    | some ρ2 =>
      rw [hb] at q
      intro x Fz' H2 A rr
      obtain ⟨S2, mu⟩ := S.after h2 nd A hb
      refine q x Fz' H2 A.fz S2 ?_
      cases v with
      | dat d => exact rr
      | own m => cases m with
        | lst ds =>
          obtain ⟨a, xs, rfl, f1, k0, hh, r1⟩ := rr
          have h0 : H0 a = none := by
            cases z : H0 a with
            | none => rfl
            | some o => obtain ⟨o', e'⟩ := S.tbs a o z; rw [k0] at e'; cases e'
          refine ⟨a, xs, rfl, f1, h0, fun hm => ?_, hh, r1, fun i m e => ?_⟩
          · obtain ⟨o, e'⟩ := S.lt a hm; rw [k0] at e'; cases e'
          · obtain ⟨b, ys, es, e1, hb1, _⟩ := S.mutAt (mu i m)
            rw [e] at e1; cases e1
            rw [k0] at hb1; cases hb1
  | exc c ms =>
    rw [hF] at q
    dsimp only at q
    cases hb : putBack (lentIx ps) ms ρ' with
    | none => rw [hb] at q; exact fun Fz' H' C A hC => q.elim
    | some ρ2 =>
      rw [hb] at q
      intro Fz' H2 C A hC
      obtain ⟨S2, mu⟩ := S.after h2 nd A hb
      exact q Fz' H2 C A.fz S2 hC
theorem call_read {p : Pa} {X : Cx} {W : WX} {fr : Env → ERes (List PArg)} {n : Nat} {F : List Arg → FRes} {σ : St} {H : Hp} {Q : VK} (hn : ∀ as v ms, F as = .ret v ms → as.length = n) (hn2 : ∀ as v ms, F as = .exc v ms → as.length = n)
    (h : tO p X W (fun ρ => (fr ρ).bind fun ps ρ => callRes F ps ρ) σ H Q) : tCallS (spF p n F) (WE W) (tAr p X W fr) σ H Q := by
  refine tR.bind h fun H0 Lt Fz ps ρ' vs H' S r q => ?_
  unfold callRes at q
  cases ha : argsOf ρ' ps with
  | none => rw [ha] at q; exact q.elim
  | some as =>
    rw [ha] at q
    dsimp only at q
    by_cases nd1 : (lentIx ps).length ≤ 1
    case neg => rw [if_neg nd1] at q; exact q.elim
    rw [if_pos nd1] at q
    obtain ⟨h1, h2⟩ := args_rep S r ha
    have nd : (lentIx ps).Nodup := by
      generalize lentIx ps = l at nd1
      match l, nd1 with
      | [], _ => exact List.nodup_nil
      | [i], _ => simp
      | _ :: _ :: _, h => simp at h
    have len : as.length = n := by
      cases hF : F as with
      | ret v ms => exact hn as v ms hF
      | exc c ms => exact hn2 as c ms hF
      | stuck => rw [hF] at q; exact q.elim
    refine ⟨Fz, as, len, h1, S.ext, S.tab, S.ntb, by rw [h2.length]; exact nd1, ?_⟩
    exact res_read S h2 nd q
/-! ### a def's body -/
theorem lentA_of {p : Pa} {Fz H : Hp} : ∀ {vs : List V} {as : List Arg}, ArgsRep p.g p.CP Fz H vs as → ∀ (i : Nat) m, as[i]? = some (.lent m) → ∃ a, vs[i]? = some (.ref a) ∧ a ∈ lentA vs as
  | _, _, .nil, i, m, e => by simp at e
  | _ :: vs, a :: as, .cons r t, 0, m, e => by
    simp at e; subst e
    cases m with
    | lst ds =>
      obtain ⟨b, xs, rfl, _⟩ := r
      exact ⟨b, rfl, List.mem_cons_self⟩
  | v :: vs, a :: as, .cons r t, i + 1, m, e => by
    obtain ⟨b, h1, h2⟩ := lentA_of t i m (by simpa using e)
    refine ⟨b, by simpa using h1, ?_⟩
    cases v with
    | ref c => cases a with
      | lent _ => exact List.mem_cons_of_mem _ h2
      | _ => exact h2
    | _ => exact h2
theorem lentA_two {p : Pa} {Fz H : Hp} : ∀ {vs : List V} {as : List Arg}, ArgsRep p.g p.CP Fz H vs as → (lentA vs as).length ≤ 1 → ∀ (i j : Nat) m m', i ≠ j → as[i]? = some (.lent m) → as[j]? = some (.lent m') → False
  | _, _, .nil, _, i, j, m, m', _, e, _ => by simp at e
  | v :: vs, a :: as, .cons r t, h, i, j, m, m', hij, e1, e2 => by
    have hl : ∀ (k : Nat) m, as[k]? = some (.lent m) → 1 ≤ (lentA vs as).length := fun k m e => by
      obtain ⟨b, _, h2⟩ := lentA_of t k m e
      exact List.length_pos_of_mem h2
    have two : ∀ m, a = .lent m → (lentA (v :: vs) (a :: as)).length = (lentA vs as).length + 1 := fun m e => by
      subst e
      cases m with
      | lst ds => obtain ⟨b, xs, rfl, _⟩ := r; rfl
    have le : (lentA vs as).length ≤ (lentA (v :: vs) (a :: as)).length := by
      cases v with
      | ref c => cases a with
        | lent m => exact Nat.le_succ _
        | _ => exact Nat.le_refl _
      | _ => exact Nat.le_refl _
    match i, j with
    | 0, 0 => exact hij rfl
    | 0, j + 1 =>
      have := two m (by simpa using e1)
      have := hl j m' (by simpa using e2)
      omega
    | i + 1, 0 =>
      have := two m' (by simpa using e2)
      have := hl i m (by simpa using e1)
      omega
    | i + 1, j + 1 => exact lentA_two t (Nat.le_trans le h) i j m m' (fun z => hij (by rw [z])) (by simpa using e1) (by simpa using e2)
theorem args_get {p : Pa} {Fz H : Hp} : ∀ {vs : List V} {as : List Arg}, ArgsRep p.g p.CP Fz H vs as → ∀ (i : Nat) a, as[i]? = some a → ∃ v, vs[i]? = some v ∧ ArgRep p.g p.CP Fz H v a
  | _, _, .nil, i, a, e => by simp at e
  | _, _, .cons r t, 0, a, e => by simp at e; subst e; exact ⟨_, by simp, r⟩
  | _, _, .cons r t, i + 1, a, e => by
    obtain ⟨v, h1, h2⟩ := args_get t i a (by simpa using e)
    exact ⟨v, by simpa using h1, h2⟩
theorem startE_get {as : List Arg} {ns i : Nat} {s : Slot} (h : (startE as ns)[i]? = some s) : (∃ a, as[i]? = some a ∧ s = a.slot) ∨ (as.length ≤ i ∧ s = .no) := by
  unfold startE at h
  by_cases hi : i < as.length
  · rw [List.getElem?_append_left (by rw [List.length_map]; exact hi), List.getElem?_map] at h
    obtain ⟨a, h1, h2⟩ := Option.map_eq_some_iff.mp h
    exact .inl ⟨a, h1, h2.symm⟩
  · rw [List.getElem?_append_right (by rw [List.length_map]; omega), List.getElem?_replicate] at h
    split at h
    · cases h; exact .inr ⟨by omega, rfl⟩
    · cases h
theorem start_get {N : List Str} {vs : List V} {i : Nat} {v : V} (h : vs[i]? = some v) : (L2.start N vs)[i]? = some (some v) := by
  have hi := (List.getElem?_eq_some_iff.mp h).1
  unfold L2.start
  rw [List.getElem?_append_left (by rw [List.length_map]; exact hi), List.getElem?_map, h]; rfl
theorem lents_rep {p : Pa} {H0 : Hp} {Lt : List Addr} {Fz H : Hp} {ρ : Env} {σ : St} {a0 : Addr} (S : StRep p H0 Lt Fz ρ σ H) (one : ∀ a ∈ Lt, a = a0) {Fi Hi : Hp} :
    ∀ {vs : List V} {as : List Arg}, ArgsRep p.g p.CP Fi Hi vs as → (∀ a ∈ lentA vs as, a = a0) → ∀ (n : Nat) (ms : List M), lentsAt ρ n as = some ms → LentRep p.g Fz H (lentA vs as) ms
  | _, _, .nil, _, n, ms, e => by unfold lentsAt at e; cases e; exact .nil
  | v :: vs, a :: as, .cons r t, h, n, ms, e => by
    cases a with
    | lent m =>
      cases m with
      | lst es =>
        obtain ⟨b, xs, rfl, _⟩ := r
        unfold lentsAt at e
        split at e
        · rename_i m em
          obtain ⟨ms2, e2, rfl⟩ := Option.map_eq_some_iff.mp e
          have ih := lents_rep S one t (fun a ha => h a (List.mem_cons_of_mem _ ha)) _ _ e2
          have hb : b = a0 := h b List.mem_cons_self
          have z := S.slot n _ em
          cases m with
          | lst ds =>
            obtain ⟨c, ys, e3, f1, lc, hh, rr⟩ := z
            have hc := one c lc
            rw [hb, ← hc]
            have ih' : LentRep p.g Fz H (lentA vs as) ms2 := ih
            exact LentRep.cons f1 hh rr ih'
        · cases e
    | dat d =>
      have q : lentA (v :: vs) (.dat d :: as) = lentA vs as := by cases v <;> rfl
      rw [q] at h ⊢
      exact lents_rep S one t h _ _ (by unfold lentsAt at e; exact e)
    | clo c =>
      have q : lentA (v :: vs) (.clo c :: as) = lentA vs as := by cases v <;> rfl
      rw [q] at h ⊢
      exact lents_rep S one t h _ _ (by unfold lentsAt at e; exact e)
/-- a def's promise, by its body -/
theorem fn_read {p : Pa} {N : List Str} {ft : FT} {fuel : Nat} {fd : FnD} {vs : List V} {H : Hp} {Q : VK} {E : XK} {n : Nat} (hn : fd.ns = N.length) (h : spF p n (runFn ft fuel fd) vs H Q E) :
    ∃ F0 : Hp, tS { p with F0 := F0 } (fun cls d _ H => E cls d H) (fun ρ => evSs ft fuel fd.body ρ) { nx := fun _ H' => Q .non H', rt := Q } (L2.start N vs) H := by
  obtain ⟨Fz, as, hl, ar, ext, tab, ntb, one, q⟩ := h
  refine ⟨Fz, ?_⟩
  unfold runFn at q
  by_cases hh : as.length = fd.np ∧ fd.np ≤ fd.ns
  case neg => rw [if_neg hh] at q; exact q.elim
  rw [if_pos hh] at q
  have hlen := ar.length
  have S : StRep { p with F0 := Fz } H (lentA vs as) Fz (startE as fd.ns) (L2.start N vs) H := by
    have mu : ∀ i : Nat, isMut (startE as fd.ns)[i]? = true → ∃ m, as[i]? = some (.lent m) := fun i m => by
      cases z : (startE as fd.ns)[i]? with
      | none => rw [z] at m; cases m
      | some s =>
        rw [z] at m
        rcases startE_get z with ⟨a, e1, rfl⟩ | ⟨_, rfl⟩
        · cases a with
          | lent m' => exact ⟨m', e1⟩
          | dat d => cases m
          | clo c => cases m
        · cases m
    refine ⟨ext, fun a o e _ _ => e, fun i s e => ?_, fun i j a hij mi mj _ _ => ?_, ?_, fun a ha => ?_, tab, fun a o e => ⟨o, e⟩, ntb, fun a o e => .inl e, Ext.refl _⟩
    · rcases startE_get e with ⟨a, e1, rfl⟩ | ⟨_, rfl⟩
      · obtain ⟨v, e2, r⟩ := args_get ar i a e1
        have e3 := start_get (N := N) e2
        rw [e3]
        cases a with
        | dat d => exact ⟨v, rfl, r⟩
        | clo c => exact ⟨v, rfl, r⟩
        | lent m => cases m with
          | lst ds =>
            obtain ⟨b, xs, rfl, f1, hb, rr⟩ := r
            obtain ⟨b', e4, hm⟩ := lentA_of ar i _ e1
            rw [e2] at e4; cases e4
            exact ⟨b, xs, rfl, f1, hm, hb, rr⟩
      · trivial
    · obtain ⟨m, e1⟩ := mu i mi
      obtain ⟨m', e2⟩ := mu j mj
      exact lentA_two ar one i j m m' hij e1 e2
    · unfold startE L2.start
      rw [List.length_append, List.length_append, List.length_map, List.length_map, List.length_replicate, List.length_replicate, hn, hlen]
    · have : ∀ {vs : List V} {as : List Arg}, ArgsRep p.g p.CP Fz H vs as → ∀ a ∈ lentA vs as, ∃ o, H a = some o := by
        intro vs as ar
        induction ar with
        | nil => intro a h; cases h
        | @cons v vs b as r t ih =>
          intro a h
          cases b with
          | lent m => cases m with
            | lst ds =>
              obtain ⟨b, xs, rfl, f1, hb, rr⟩ := r
              rcases List.mem_cons.mp h with rfl | h
              · exact ⟨_, hb⟩
              · exact ih a h
          | dat d =>
            have q : lentA (v :: vs) (.dat d :: as) = lentA vs as := by cases v <;> rfl
            rw [q] at h; exact ih a h
          | clo c =>
            have q : lentA (v :: vs) (.clo c :: as) = lentA vs as := by cases v <;> rfl
            rw [q] at h; exact ih a h
      exact this ar a ha
  refine ⟨H, lentA vs as, Fz, _, S, ?_⟩
  have one0 : ∃ a0, ∀ a ∈ lentA vs as, a = a0 := by
    generalize lentA vs as = l at one
    match l, one with
    | [], _ => exact ⟨0, fun a h => by cases h⟩
    | [b], _ => exact ⟨b, fun a h => by simpa using h⟩
    | _ :: _ :: _, h => simp at h
  obtain ⟨a0, ha0⟩ := one0
  have aft : ∀ {Fz' H' : Hp} {ρ : Env} {σ : St} {ms : List M}, Ext Fz Fz' → StRep { p with F0 := Fz } H (lentA vs as) Fz' ρ σ H' → lentsAt ρ 0 as = some ms → After p.g p.TI Fz H (lentA vs as) (dr Fz Fz') H' ms := fun {Fz' H' ρ σ ms} e S' el =>
  ⟨dr_ext e, (dr_sub e).trans S'.ext, S'.tab, fun a o h => S'.ntb a o (dr_sub e a o h), S'.base, S'.tbs, fun a o h => by
    rcases dr_cases e h with z | ⟨z, n⟩
    · exact .inl z
    · rcases S'.old a o z with k | k | ⟨φ, k⟩
      · exact .inl k
      · exact .inr k
      · exact absurd k (n φ), (lents_rep S' ha0 ar ha0 0 ms el).extD dr_extD fun a => dr_none e⟩
  show PostS _ _ _ _ _ _ (evSs ft fuel fd.body (startE as fd.ns))
  generalize hr : evSs ft fuel fd.body (startE as fd.ns) = r at q ⊢
  cases r with
  | next ρ =>
    intro σ' F' H' e S'
    unfold fin at q
    dsimp only at q
    split at q
    · rename_i ms el
      exact q _ _ H' (aft e S' el) .non
    · exact q.elim
  | ret v ρ =>
    intro x σ' F' H' e S' rv
    unfold fin at q
    dsimp only at q
    split at q
    · rename_i ms el
      refine q x _ H' (aft e S' el) ?_
      cases v with
      | dat d => exact Rep.extD dr_extD _ _ rv
      | own m => cases m with
        | lst ds =>
          obtain ⟨a, xs, rfl, f, h0, l, hh, r, _⟩ := rv
          exact ⟨a, xs, rfl, dr_none e f, h0, hh, RepL.extD dr_extD _ _ r⟩
    · exact q.elim
  | exc c ρ =>
    intro σ' F' H' C e S' hC
    unfold fin at q
    dsimp only at q
    split at q
    · rename_i ms el
      exact q _ H' C (aft e S' el) hC
    · exact q.elim
  | brk ρ => exact q.elim
  | cont ρ => exact q.elim
  | stuck => exact q.elim
end AP
end
section
/-! AP11: the checker of texts for expressions -/
namespace AP
open PySem PySem.Spec PyProof.Rows L2

/-- what is known of a def's text: its slots' names, the scope, the ids' names, the built-ins, the module's ints, the tellers -/
structure Ck where
  N : List Str
  sc : Scope
  G : List Str
  Bl : List Str
  GI : List (Str × Int)
  TL : List Nat
  EX : List Nat
  GT : List (Str × List Int)
  LV : Bool
theorem takes0N {X : Cx} : L2N.Takes X (fun _ _ _ _ => False) := fun _ _ x => by
  obtain ⟨_, _, _, _, _, _, _, _, _, _, _, _, _, _, _, _, z⟩ := x
  exact z.elim
/-- a def of the module by its id -/
structure FnAt (p : Pa) (P : Program) (w : World) (K : PySem.W.Frag) (mg : Str → Option Value) (base : Heap) (k : Nat) (f : Nat) (F : List Arg → FRes) : Prop where
  ex : ∃ (x : Str) (a : Addr) (fd : FuncData) (ps : List Str), p.g.G[f]? = some x ∧ mg x = some (.ref a) ∧ PySem.W.keepIn K (.ref a) = true ∧ L2.Binds K fd ps [] ∧ FnOk P w K mg base (L2N.CX P w) k a fd ps (spF p ps.length F) ∧
    (∀ as v ms, F as = .ret v ms → as.length = ps.length) ∧ ∀ as v ms, F as = .exc v ms → as.length = ps.length
/-- closures, called in any frame -/
structure ClAt (p : Pa) (P : Program) (w : World) (K : PySem.W.Frag) (mg : Str → Option Value) (base : Heap) (k : Nat) (F : Clo → List Arg → FRes) : Prop where
  run : ∀ (c : Clo) (f : Addr) (A : Around) (outer : List PySem.Env) (s : Shared) (H : Hp) (u : Value) (v : V) (Q : VK) (E : XK) (Fz : Hp) (d : D), Room k A → Env0 P w K mg base A outer s H → RelV v u → p.CP Fz (.ref f) c → Ext Fz H → p.TI H → (∀ a o, Fz a = some o → NoTb o) → Rep p.g Fz v d → PostF p Fz H [] Q E (F c [.dat d]) →
    codeAny (model P w) A (.call (.ref f) ⟨[u], []⟩) (CR (L2N.CX P w) outer P w H s Q E) s
  one : ∀ c as, F c as ≠ .stuck → ∃ d, as = [.dat d]
/-- a class that may be raised -/
def ExcAt (K : PySem.W.Frag) (C : Addr) : Prop := ∃ (B newId initId : String) (bmB : List Value), PySem.ExcBaseFacts B newId initId bmB ∧ PySem.W.excIn K C bmB newId = true ∧ PySem.W.keepIn K (.ref C) = true ∧ PySem.W.subIn K (.ref C) (.type "BaseException") = some true ∧ PySem.W.typeIn K (.ref C) = some (.type "type")
structure XOk (p : Pa) (c : Ck) (ft : FT) (k : Nat) (W : WX) (X : Cx) : Prop where
  N : X.N = c.N
  nd : c.N.Nodup
  lk : ∀ x q, c.sc.names.lookup x = some q → (q ≠ .free → X.env.scope.names.lookup x = some q) ∧ (q = .free → X.env.scope.names.lookup x = some .free ∨ X.env.scope.names.lookup x = some .cell)
  fn : ∀ x, c.sc.names.lookup x = some .cell → X.fn x = true
  kind : X.env.scope.kind = .function
  calm : X.calm = true
  gK : p.g.K = X.K
  gm : p.g.mg = X.mg
  gG : p.g.G = c.G
  room : Room k X.A
  blt : ∀ x, x ∈ c.Bl → X.mg x = none
  gi : ∀ x i, (x, i) ∈ c.GI → ∃ t, X.mg x = some (.int i t)
  gt : ∀ x is, (x, is) ∈ c.GT → ∃ a, X.mg x = some (.ref a) ∧ ∀ Fz, SqT X.K Fz a (is.map V.int)
  gf : ∀ x, x ∈ c.G → ∃ a, X.mg x = some (.ref a)
  tk : L2N.Takes X W
  fns : ∀ f, ft.dom f = true → FnAt p X.prog X.w X.K X.mg X.base k f (ft.fn f)
  cls : ClAt p X.prog X.w X.K X.mg X.base k ft.cl
  exs : ∀ cl x C, cl ∈ c.EX → c.G[cl]? = some x → X.mg x = some (.ref C) → ExcAt X.K C
/-! ### names -/
def okNm (c : Ck) (i : Nat) (x : Str) : Bool :=
  decide (c.N[i]? = some x) && (match c.sc.names.lookup x with | some .local => true | some .cell => true | some .free => true | _ => false) && !(x == ("__debug__" : Str)) && !(x == ("__classdict__" : Str))
def okNw (c : Ck) (i : Nat) (x : Str) : Bool :=
  decide (c.N[i]? = some x) && (match c.sc.names.lookup x with | some .local => true | some .cell => true | _ => false)
def okGl (c : Ck) (x : Str) : Bool := (match c.sc.names.lookup x with | some .globalImplicit => true | _ => false) && !(x == ("__debug__" : Str))
def okBl (c : Ck) (x : Str) : Bool := okGl c x && decide (x ∈ c.Bl)
def notSet : Expr → Bool
  | .Set .. => false
  | _ => true
theorem notSet_fold {e : Expr} (h : notSet e = true) : ∀ (env : PySem.Env) x, foldedSetIterable e env x = pure x := by
  intro env x
  cases e <;> first | rfl | cases h
section
variable {p : Pa} {c : Ck} {ft : FT} {k : Nat} {W : WX} {X : Cx}
theorem XOk.nm (O : XOk p c ft k W X) {i : Nat} {x : Str} (h : okNm c i x = true) : Nm X i x := by
  unfold okNm at h
  simp only [Bool.and_eq_true, decide_eq_true_eq, Bool.not_eq_true'] at h
  obtain ⟨⟨⟨h1, h2⟩, h3⟩, h4⟩ := h
  refine ⟨by rw [O.N]; exact h1, ?_, h3, h4⟩
  split at h2
  · rename_i e; exact .inl ((O.lk x _ e).1 (by decide))
  · rename_i e; exact .inr (.inl ((O.lk x _ e).1 (by decide)))
  · rename_i e; exact ((O.lk x _ e).2 rfl).elim (fun z => .inr (.inr z)) (fun z => .inr (.inl z))
  · cases h2
theorem XOk.nw (O : XOk p c ft k W X) {i : Nat} {x : Str} (h : okNw c i x = true) : Nw X i x := by
  unfold okNw at h
  simp only [Bool.and_eq_true, decide_eq_true_eq] at h
  obtain ⟨h1, h2⟩ := h
  have hN : X.N[i]? = some x := by rw [O.N]; exact h1
  have hd : X.N.Nodup := by rw [O.N]; exact O.nd
  split at h2
  · rename_i e
    have := (O.lk x _ e).1 (by decide)
    exact ⟨hN, hd, .inl this, .inr this⟩
  · rename_i e
    have := (O.lk x _ e).1 (by decide)
    exact ⟨hN, hd, .inr this, .inl (O.fn x e)⟩
  · cases h2
theorem XOk.gl (O : XOk p c ft k W X) {x : Str} (h : okGl c x = true) : Gl X x ∧ (x == ("__debug__" : Str)) = false := by
  unfold okGl at h
  simp only [Bool.and_eq_true, Bool.not_eq_true'] at h
  obtain ⟨h1, h2⟩ := h
  refine ⟨?_, h2⟩
  split at h1
  · rename_i e; exact (O.lk x _ e).1 (by decide)
  · cases h1
theorem XOk.bl (O : XOk p c ft k W X) {x : Str} (h : okBl c x = true) : Gl X x ∧ (x == ("__debug__" : Str)) = false ∧ X.mg x = none := by
  unfold okBl at h
  simp only [Bool.and_eq_true, decide_eq_true_eq] at h
  obtain ⟨h1, h2⟩ := O.gl h.1
  exact ⟨h1, h2, O.blt x h.2⟩
/-! ### calls -/
variable {e : Expr} {es : List Expr} {fr : Env → ERes (List PArg)} {pos p1 : Pos}
theorem s_call0 {f : Nat} {x : Str} (O : XOk p c ft k W X) (hG : c.G[f]? = some x) (hg : okGl c x = true) : PE X (.Call (.Name x p1) [] [] pos) (tO p X W fun ρ => if ft.dom f = true then (ERes.ok [] ρ).bind fun ps ρ => callRes (ft.fn f) ps ρ else .stuck) := by
  obtain ⟨g1, g2⟩ := O.gl hg
  by_cases hd : ft.dom f = true
  case neg =>
    refine ⟨fun pins s σ H Q I ⟨H0, Lt, Fz, ρ, S, q⟩ => ?_⟩
    simp only [if_neg hd] at q
    exact q.elim
  obtain ⟨x', a, fd, ps, hG', hm, hk, hb, F, l1, l2⟩ := O.fns f hd
  rw [O.gG, hG] at hG'
  cases hG'
  refine ⟨fun pins s σ H Q I h => ?_⟩
  simp only [if_pos hd] at h
  have h2 := call_read (X := X) (fr := fun ρ => .ok [] ρ) (n := ps.length) l1 l2 h
  obtain ⟨H0, Lt, Fz, ρ, S, q⟩ := h2
  refine wpAny_Call_Name_kw (ld_glob I g1 hm ?_ g2)
  exact PySem.W.callWith_K0 I.kIn hk (run_fnS (us := []) (E := WE W) F O.room hb (L2N.passAt O.tk σ) I .nil (q [] Fz H (Ext.refl _) S .nil))
theorem s_call {f : Nat} {x : Str} (O : XOk p c ft k W X) (hG : c.G[f]? = some x) (hg : okGl c x = true) (ha : PA X (e :: es) (tAr p X W fr)) (hs : (e :: es).all noStar = true) :
    PE X (.Call (.Name x p1) (e :: es) [] pos) (tO p X W fun ρ => if ft.dom f = true then (fr ρ).bind fun ps ρ => callRes (ft.fn f) ps ρ else .stuck) := by
  obtain ⟨g1, g2⟩ := O.gl hg
  rw [List.all_cons, Bool.and_eq_true] at hs
  by_cases hd : ft.dom f = true
  case neg =>
    refine ⟨fun pins s σ H Q I ⟨H0, Lt, Fz, ρ, S, q⟩ => ?_⟩
    simp only [if_neg hd] at q
    exact q.elim
  obtain ⟨x', a, fd, ps, hG', hm, hk, hb, F, l1, l2⟩ := O.fns f hd
  rw [O.gG, hG] at hG'
  cases hG'
  refine PE.imp (pe_callS F O.room g1 hm hk hb (fun σ => L2N.passAt O.tk σ) ha g2 (star_cons hs.1) (star_any hs.2)) fun σ H Q h => ?_
  simp only [if_pos hd] at h
  exact call_read (X := X) l1 l2 h
/-- a call of what a name holds -/
theorem s_callV {i : Nat} {x : Str} (O : XOk p c ft k W X) (n : Nm X i x) (ha : PA X (e :: es) (tAr p X W fr)) (hs : (e :: es).all noStar = true) :
    PE X (.Call (.Name x p1) (e :: es) [] pos) (tO p X W fun ρ => match ρ[i]? with
      | some (.dat (.fn f)) => if ft.dom f = true then (fr ρ).bind fun ps ρ => callRes (ft.fn f) ps ρ else .stuck
      | some (.clo c) => (fr ρ).bind fun ps ρ => callRes (ft.cl c) ps ρ
      | _ => .stuck) := by
  rw [List.all_cons, Bool.and_eq_true] at hs
  refine ⟨fun pins s σ H Q I ⟨H0, Lt, Fz, ρ, S, q⟩ => ?_⟩
  change Post (rO p) p X W H0 Lt Fz σ Q (match ρ[i]? with
      | some (.dat (.fn f)) => if ft.dom f = true then (fr ρ).bind fun ps ρ => callRes (ft.fn f) ps ρ else .stuck
      | some (.clo c) => (fr ρ).bind fun ps ρ => callRes (ft.cl c) ps ρ
      | _ => .stuck) at q
  split at q
  · rename_i f hf
    by_cases hd : ft.dom f = true
    case neg => rw [if_neg hd] at q; exact q.elim
    rw [if_pos hd] at q
    obtain ⟨v, ev, rv⟩ := S.slot i _ hf
    cases rv with
    | @fn b _ nm hGf hmf =>
      obtain ⟨x', a, fd, ps, hG', hm, hk, hb, F, l1, l2⟩ := O.fns f hd
      rw [hGf] at hG'; cases hG'
      rw [O.gm, hm] at hmf
      have eab : a = b := by cases hmf; rfl
      subst eab
      have h2 := call_read (X := X) (W := W) (fr := fr) (σ := σ) (H := H) (Q := Q) l1 l2 ⟨H0, Lt, Fz, ρ, S, q⟩
      refine wpAny_Call_Name_kw (thn ((pe_var (X := X) (pos := p1) n.at_ n.vis n.d1 n.d2).run pins s σ H (fun v H1 => v = .ref a ∧ H1 = H) I ⟨.ref a, ev, rfl, rfl⟩) fun u s1 hh => ?_)
      obtain ⟨v, H1, I1, r1, e1, e2⟩ := hh
      subst e1 e2
      obtain rfl : u = Value.ref a := r1
      refine PySem.W.callWith_K (h₀ := X.base) I1.ok.mod.kin hk (thn (ha.run pos pins s1 σ _ _ I1 h2) fun us s2 hh2 => ?_) (star_cons hs.1) (star_any hs.2)
      obtain ⟨vs, H2, I2, r2, q2⟩ := hh2
      exact ⟨I2.kIn, run_fnS (E := WE W) F O.room hb (L2N.passAt O.tk σ) I2 r2 q2⟩
  · rename_i cl hf
    obtain ⟨v, ev, rv⟩ := S.slot i _ hf
    obtain ⟨f, o, fd, rfl, hfo, hfd⟩ := p.cfun _ _ _ rv
    have h2 : tAr p X W fr σ H fun vs H1 => ∃ F2 v d, vs = [v] ∧ Ext F2 H1 ∧ p.TI H1 ∧ (∀ a o, F2 a = some o → NoTb o) ∧ p.CP F2 (.ref f) cl ∧ F2 f = some (FunO f o) ∧ Rep p.g F2 v d ∧ PostF p F2 H1 [] Q (WE W σ) (ft.cl cl [.dat d]) := ⟨H0, Lt, Fz, ρ, S, Post.bind q fun ps ρ2 vs F2 H2 e2 S2 r2 q2 => by
      unfold callRes at q2
      cases ha : argsOf ρ2 ps with
      | none => rw [ha] at q2; exact q2.elim
      | some as =>
        rw [ha] at q2
        dsimp only at q2
        by_cases nd1 : (lentIx ps).length ≤ 1
        case neg => rw [if_neg nd1] at q2; exact q2.elim
        rw [if_pos nd1] at q2
        have hns : ft.cl cl as ≠ .stuck := fun z => by rw [z] at q2; exact q2.elim
        obtain ⟨d, rfl⟩ := O.cls.one cl as hns
        obtain ⟨h1, h2⟩ := args_rep S2 r2 ha
        have nd : (lentIx ps).Nodup := by
          generalize lentIx ps = l at nd1
          match l, nd1 with
          | [], _ => exact List.nodup_nil
          | [i], _ => simp
          | _ :: _ :: _, h => simp at h
        have pf := res_read S2 h2 nd q2
        cases h1 with
        | cons b t =>
          cases t
          rename_i v0
          have e : lentA [v0] [Arg.dat d] = [] := by cases v0 <;> rfl
          rw [e] at pf
          exact ⟨F2, v0, d, rfl, S2.ext, S2.tab, S2.ntb, p.mono _ _ _ _ e2 rv, e2 _ _ hfo, b, pf⟩⟩
    have fnAt : ∀ {s' : Shared}, s'.heap.get? f = some o → PySem.W.FnAt f s'.heap := fun h => by
      obtain ⟨oc, od, odt, osl⟩ := o
      have e : odt = .func fd := hfd
      subst e
      exact ⟨_, _, _, _, h⟩
    refine wpAny_Call_Name_kw (thn ((pe_var (X := X) (pos := p1) n.at_ n.vis n.d1 n.d2).run pins s σ H (fun v H1 => v = .ref f ∧ H1 = H) I ⟨.ref f, ev, rfl, rfl⟩) fun u s1 hh => ?_)
    obtain ⟨v, H1, I1, r1, e1, e2⟩ := hh
    subst e1 e2
    obtain rfl : u = Value.ref f := r1
    refine PySem.W.callWith_F (fnAt (funO_is I1.hok (S.ext _ _ hfo))) (thn (ha.run pos pins s1 σ _ _ I1 h2) fun us s2 hh2 => ?_) (star_cons hs.1) (star_any hs.2)
    obtain ⟨vs, H2, I2, r2, F2, v, d, rfl, x1, x2, x3, x4, x5, x6, x7⟩ := hh2
    refine ⟨fnAt (funO_is I2.hok (x1 _ _ x5)), ?_⟩
    cases r2 with
    | cons rv2 t =>
      cases t
      rename_i u0
      refine wpAny_call (codeAny_mono (O.cls.run cl f X.A X.stack s2 H2 u0 v Q (WE W σ) F2 d O.room I2.env0 rv2 x4 x1 x2 x3 x6 x7) fun r s' hq => ?_)
      cases r with
      | error e => exact L2N.passAt O.tk σ pins H2 s2 e s' I2 hq
      | ok fl =>
        cases fl with
        | ret u => exact I2.after hq
        | next => exact False.elim hq
        | brk => exact False.elim hq
        | cont => exact False.elim hq
  · exact q.elim
end
end AP
end
section
/-! AP12: the checker of texts for expressions, and that it is right -/
namespace AP
open PySem PySem.Spec PyProof.Rows L2

def BOp.eqb : BOp → BOp → Bool
  | .add, .add => true | .sub, .sub => true | .mul, .mul => true | .fdiv, .fdiv => true | .mod, .mod => true | .pow, .pow => true | _, _ => false
theorem BOp.eqb_eq {a b : BOp} (h : a.eqb b = true) : a = b := by cases a <;> cases b <;> first | rfl | cases h
def COp.eqb : COp → COp → Bool
  | .eq, .eq => true | .ne, .ne => true | .lt, .lt => true | .le, .le => true | .gt, .gt => true | .ge, .ge => true | .is, .is => true | .isNot, .isNot => true | .isin, .isin => true | .notin, .notin => true | _, _ => false
theorem COp.eqb_eq {a b : COp} (h : a.eqb b = true) : a = b := by cases a <;> cases b <;> first | rfl | cases h
def Bi.eqb : Bi → Bi → Bool
  | .len, .len => true | .abs, .abs => true | .all, .all => true | .any, .any => true | .sum, .sum => true | .min, .min => true | .max, .max => true | .sorted, .sorted => true | .list, .list => true | .tuple, .tuple => true | .int, .int => true | .str, .str => true | .bool, .bool => true | _, _ => false
theorem Bi.eqb_eq {a b : Bi} (h : a.eqb b = true) : a = b := by cases a <;> cases b <;> first | rfl | cases h
/-- the built-in classes by their names -/
def trTy (x : Str) : Option String := if x = "int" then some "int" else if x = "bool" then some "bool" else if x = "tuple" then some "tuple" else if x = "list" then some "list" else if x = "str" then some "str" else none
theorem trTy_boot {x : Str} {T : String} (h : trTy x = some T) : bootBuiltins x = some (.type T) ∧ x ≠ "__name__" := by
  unfold trTy at h
  repeat' split at h
  all_goals (first | (cases h; rename_i hx; subst hx; exact ⟨by decide +kernel, by decide +kernel⟩) | cases h)

def okCst (c : Ck) (d : D) (e : Expr) : Bool :=
  match d, e with
  | .int i, .Constant (.int j) _ _ => decide (i = j)
  | .bl a, .Constant (.bool b) _ _ => a == b
  | .non, .Constant .none _ _ => true
  | .str x, .Constant (.str y) _ _ => decide (x = y)
  | .fn n, .Name x _ => decide (c.G[n]? = some x) && okGl c x
  | .int i, .Name x _ => okGl c x && decide ((x, i) ∈ c.GI)
  | .tup ds, .Name x _ => okGl c x && (match intsOf ds with | some is => decide ((x, is) ∈ c.GT) | none => false)
  | _, _ => false
def emptyArgs : Arguments → Bool
  | ⟨[], [], none, [], [], none, []⟩ => true
  | _ => false
def okLam (c : Ck) (args : Arguments) (scope : Scope) : Bool := emptyArgs args && LamX.lamSB c.sc scope
/-- the own names of a comprehension, with their slots -/
def ownOf (c : Ck) : List Nat → List (Str × Nat)
  | [] => []
  | i :: r => ((c.N[i]?).getD "", i) :: ownOf c r
theorem ownOf_snd (c : Ck) : ∀ l : List Nat, (ownOf c l).map (·.2) = l
  | [] => rfl
  | i :: r => by show i :: (ownOf c r).map (·.2) = _; rw [ownOf_snd c r]
mutual
def okTg (c : Ck) : Tg → Expr → Bool
  | .nm i, e => (match e with | .Name x _ => okNw c i x | _ => false)
  | .tup ts, e => (match e with | .Tuple es _ _ => es.all noStar && decide (es.length = ts.n) && okTgs c ts es | _ => false)
def okTgs (c : Ck) : Tgs → List Expr → Bool
  | .nil, es => es.isEmpty
  | .cons t r, es => (match es with | e :: es => okTg c t e && okTgs c r es | _ => false)
end
def isTup : Expr → Bool
  | .Tuple .. => true
  | _ => false
def subList (a b : List Nat) : Bool := a.all fun i => b.contains i
def blkCk (c : Ck) (scope : Scope) : Ck := { c with sc := scope, LV := false }
def lamCk (c : Ck) (scope : Scope) : Ck := { c with sc := scope, TL := [], EX := [], LV := false }
/-- one parameter -/
def oneArg : Arguments → Option Str
  | ⟨[], [⟨y, _, _⟩], none, [], [], none, []⟩ => some y
  | _ => none
/-- the names of a lambda of one parameter: its own, captured ones, globals -/
def lamPB (scope : Scope) (y : Str) : Bool :=
  decide (scope.kind = .function) && !scope.isCoroutine && !scope.isGenerator && decide (scope.names.lookup y = some .local) && scope.names.all fun q => !decide (q.2 = .cell) && (!decide (q.2 = .local) || decide (q.1 = y))
def capB (c : Ck) (scope : Scope) (caps : List Nat) : Bool :=
  (scope.names.all fun q => !decide (q.2 = .free) || (decide (c.sc.names.lookup q.1 = some .cell) && caps.any fun i => decide (c.N[i]? = some q.1))) && caps.all fun i => (match c.N[i]? with | some x => decide (scope.names.lookup x = some .free) | none => false)
/-- the base of a method's name is read as it stands -/
def atB : Expr → Bool
  | .Call (.Name _ _) [] [] _ => false
  | _ => true
theorem atB_ok {o : Expr} {m : Str} {env : PySem.Env} (h : atB o = true) : attributeBase o m env (eval o env) = eval o env := by
  unfold attributeBase
  split
  · cases h
  · rfl
mutual
def okE : Ck → IE → Expr → Bool
  | c, .cst d, e => okCst c d e
  | c, .var i, e => (match e with | .Name x _ => okNm c i x | _ => false)
  | c, .bin o a b, e => (match e with | .BinOp l op r _ => (match trOp op with | some o' => o'.eqb o | none => false) && okE c a l && okE c b r | _ => false)
  | c, .neg a, e => (match e with | .UnaryOp .USub x _ => okE c a x | _ => false)
  | c, .not a, e => (match e with | .UnaryOp .Not x _ => okE c a x | _ => false)
  | c, .and a b, e => (match e with
      | .BoolOp .And [x, y] _ => okE c a x && okE c b y
      | .BoolOp .And (x :: y :: z :: r) pos => okE c a x && okE c b (.BoolOp .And (y :: z :: r) pos)
      | _ => false)
  | c, .or a b, e => (match e with
      | .BoolOp .Or [x, y] _ => okE c a x && okE c b y
      | .BoolOp .Or (x :: y :: z :: r) pos => okE c a x && okE c b (.BoolOp .Or (y :: z :: r) pos)
      | _ => false)
  | c, .cmp o a b, e => (match e with | .Compare l [op] [r] _ => (trC op).eqb o && !behindInMarks op r && okE c a l && okE c b r | _ => false)
  | c, .chain o1 o2 a b d, e => (match e with | .Compare l [op, op2] [m, r] _ => (trC op).eqb o1 && (trC op2).eqb o2 && !lastMarks [op, op2] [m, r] && okE c a l && okE c b m && okE c d r | _ => false)
  | c, .ite t a b, e => (match e with | .IfExp x y z _ => okE c t x && okE c a y && okE c b z | _ => false)
  | c, .call f as, e => (match e with | .Call (.Name x _) args [] _ => decide (c.G[f]? = some x) && okGl c x && args.all noStar && okA c as args | _ => false)
  | c, .callV i as, e => (match e with | .Call (.Name x _) (a :: args) [] _ => okNm c i x && (a :: args).all noStar && okA c as (a :: args) | _ => false)
  | c, .len a, e => (match e with | .Call (.Name x _) [y] [] _ => decide (x = "len") && okBl c x && noStar y && okE c a y | _ => false)
  | c, .bi b as, e => (match e with | .Call (.Name x _) (y :: args) [] _ => (match trBi x with | some (b', _, _) => b'.eqb b | none => false) && okBl c x && (y :: args).all noStar && okL c as (y :: args) | _ => false)
  | c, .isi a cl, e => (match e, cl with | .Call (.Name f _) [x, .Name n _] [] _, .ty T => decide (f = "isinstance") && okBl c f && okBl c n && decide (trTy n = some T) && noStar x && okE c a x | _, _ => false)
  | c, .tup es, e => (match e with | .Tuple xs _ _ => xs.all noStar && okL c es xs | _ => false)
  | c, .lst es, e => (match e with | .List xs _ => xs.all noStar && okL c es xs | _ => false)
  | c, .comp elt tg it cond own, e => (match e with
      | .ListComp x [⟨t, iter, ifs, 0⟩] scope _ => blkC c.N c.sc scope (ownOf c own) && subList (tgIx tg) own && okI c it t iter && okTg (blkCk c scope) tg t && notSet iter && okE (blkCk c scope) elt x &&
          (match ifs with | [] => (match cond with | .cst (.bl true) => true | _ => false) | [y] => okE (blkCk c scope) cond y | _ => false)
      | _ => false)
  | c, .idx a b, e => (match e with | .Subscript x y _ => plainSlice y && okE c a x && okE c b y | _ => false)
  | c, .sl a lo hi, e => (match e with | .Subscript x (.Slice l h none _) _ => okE c a x && okP c lo l && okP c hi h | _ => false)
  | c, .pop0 i, e => (match e with | .Call (.Attribute (.Name x _) m apos) [.Constant (.int 0) _ _] [] pos => decide (m = "pop") && okNm c i x && (apos.endLine == pos.line) | _ => false)
  | c, .popL i, e => (match e with | .Call (.Attribute (.Name x _) m apos) [] [] pos => decide (m = "pop") && okNm c i x && (apos.endLine == pos.line) | _ => false)
  | c, .rev a, e => (match e with | .Subscript x (.Slice none none (some (.UnaryOp .USub (.Constant (.int 1) _ _) _)) _) _ => okE c a x | _ => false)
  | c, .callC f ns y body caps as, e => (match e with
      | .Call (.Name x _) (.Lambda args lb scope _ :: es) [] _ => decide (c.G[f]? = some x) && okGl c x && es.all noStar && okA c as es && c.LV && decide (ns = c.N.length) && lamPB scope ((c.N[y]?).getD "") && decide (oneArg args = c.N[y]?) && decide (y < c.N.length) && capB c scope caps && okE (lamCk c scope) body lb
      | _ => false)
  | c, .lrng it, e => (match e with | .Call (.Name x _) [y] [] _ => decide (x = "list") && okBl c x && noStar y && okR c it y | _ => false)
  | c, .join a b, e => (match e with | .Call (.Attribute o m apos) [x] [] pos => decide (m = "join") && atB o && noStar x && (apos.endLine == pos.line) && okE c a o && okE c b x | _ => false)
  | c, .split a b, e => (match e with | .Call (.Attribute o m apos) [x] [] pos => decide (m = "split") && atB o && noStar x && (apos.endLine == pos.line) && okE c a o && okE c b x | _ => false)
  | c, .fstr es, e => (match e with | .JoinedStr (v1 :: v2 :: rest) _ => okF c es (v1 :: v2 :: rest) | _ => false)
  | c, .slr a i, e => (match e with | .Subscript x (.Slice none (some (.Constant (.int j) _ _)) (some (.UnaryOp .USub (.Constant (.int 1) _ _) _)) _) _ => decide (i = j) && okE c a x | _ => false)
  | c, .told h a, e => (match e with | .Call (.Name x _) [.Lambda args body scope _] [] _ => c.TL.contains h && decide (c.G[h]? = some x) && okGl c x && okLam c args scope && okE (lamCk c scope) a body | _ => false)
def okF : Ck → IEs → List Expr → Bool
  | c, .nil, es => es.isEmpty
  | c, .cons a r, es => (match es with
      | .FormattedValue x (-1) none _ :: xs => okE c a x && okF c r xs
      | .Constant (.str y) _ _ :: xs => (match a with | .cst (.str z) => decide (z = y) | _ => false) && okF c r xs
      | _ => false)
def okP : Ck → IOp → Option Expr → Bool
  | c, .none, e => e.isNone
  | c, .some a, e => (match e with | some x => okE c a x | none => false)
def okL : Ck → IEs → List Expr → Bool
  | c, .nil, es => es.isEmpty
  | c, .cons a r, es => (match es with | x :: xs => okE c a x && okL c r xs | _ => false)
def okA : Ck → IAs → List Expr → Bool
  | c, .nil, es => es.isEmpty
  | c, .e a r, es => (match es with | x :: xs => okE c a x && okA c r xs | _ => false)
  | c, .lent i r, es => (match es with | .Name x _ :: xs => okNm c i x && okA c r xs | _ => false)
/-- a range as an argument -/
def okR : Ck → IIt → Expr → Bool
  | c, .range1 a, e => (match e with | .Call (.Name x _) [y] [] _ => decide (x = "range") && okBl c x && noStar y && okE c a y | _ => false)
  | c, .range2 a b, e => (match e with | .Call (.Name x _) [y, z] [] _ => decide (x = "range") && okBl c x && noStar y && noStar z && okE c a y && okE c b z | _ => false)
  | _, _, _ => false
def okI : Ck → IIt → Expr → Expr → Bool
  | c, .seq a, t, e => okE c a e
  | c, .range1 a, t, e => (match e with | .Call (.Name x _) [y] [] _ => decide (x = "range") && okBl c x && noStar y && okE c a y | _ => false)
  | c, .range2 a b, t, e => (match e with | .Call (.Name x _) [y, z] [] _ => decide (x = "range") && okBl c x && noStar y && noStar z && okE c a y && okE c b z | _ => false)
  | c, .range3 a b d, t, e => (match e with | .Call (.Name x _) [y, z, u] [] _ => decide (x = "range") && okBl c x && noStar y && noStar z && noStar u && okE c a y && okE c b z && okE c d u | _ => false)
  | c, .zip a b, t, e => (match e with | .Call (.Name x _) [y, z] [] _ => decide (x = "zip") && isTup t && okBl c x && noStar y && noStar z && okE c a y && okE c b z | _ => false)
  | c, .enum a, t, e => (match e with | .Call (.Name x _) [y] [] _ => decide (x = "enumerate") && isTup t && okBl c x && noStar y && okE c a y | _ => false)
end
end AP
end
section
set_option maxHeartbeats 2000000
/-! AQ4: a def called with a lambda and data -/
namespace AP
open PySem PySem.Spec PyProof.Rows L2 LamX

theorem StRep.to {p : Pa} {H0 : Hp} {Lt : List Addr} {Fz : Hp} {ρ : Env} {σ : St} {H H1 : Hp} (S : StRep p H0 Lt Fz ρ σ H) (e : ExtN H H1) (d : Dom H H1) (t : p.TI H1) : StRep p H0 Lt Fz ρ σ H1 := by
  refine ⟨fun a o h => e a o (S.ext a o h) (S.ntb a o h), fun a o h n t => e a o (S.base a o h n t) t, fun i s h => ?_, S.apart, S.len, fun a h => ?_, t, fun a o h => ?_, S.ntb, S.old, S.f0⟩
  · have q := S.slot i s h
    cases s with
    | no => trivial
    | dat d => exact q
    | own m => cases m with
      | lst ds => obtain ⟨a, xs, e1, f, h0, l, hh, r⟩ := q; exact ⟨a, xs, e1, f, h0, l, e _ _ hh (fun ps z => by cases z), r⟩
    | lent m => cases m with
      | lst ds => obtain ⟨a, xs, e1, f, l, hh, r⟩ := q; exact ⟨a, xs, e1, f, l, e _ _ hh (fun ps z => by cases z), r⟩
    | clo c => exact q
  · obtain ⟨o, q⟩ := S.lt a h
    exact d a o q
  · obtain ⟨o', q⟩ := S.tbs a o h
    exact d a o' q
theorem StRep.more {p : Pa} {H0 : Hp} {Lt : List Addr} {Fz : Hp} {ρ : Env} {σ : St} {H H1 : Hp} (S : StRep p H0 Lt Fz ρ σ H) (e : Ext H H1) : StRep p H0 Lt Fz ρ σ H1 :=
  S.grow ⟨Ext.refl _, S.ext.trans e, e, fun _ _ z => .inl z⟩
/-- entries held by a law of their own, added -/
theorem StRep.addx {p : Pa} {H0 : Hp} {Lt : List Addr} {Fz Fz' : Hp} {ρ : Env} {σ : St} {H : Hp} (S : StRep p H0 Lt Fz ρ σ H) (e : Ext Fz Fz') (s : Ext Fz' H) (n : ∀ a o, Fz' a = some o → Fz a = some o ∨ ∃ φ, o = .ext φ) : StRep p H0 Lt Fz' ρ σ H := by
  have nf : ∀ a xs, H a = some (.lst xs) → Fz a = none → Fz' a = none := fun a xs h z => by
    cases q : Fz' a with
    | none => rfl
    | some o =>
      rcases n a o q with k | ⟨φ, k⟩
      · rw [z] at k; cases k
      · have := s a o q
        rw [h] at this
        cases this
        cases k
  refine ⟨s, S.base, fun i u h => ?_, S.apart, S.len, S.lt, S.tab, S.tbs, fun a o q => ?_, fun a o q => ?_, S.f0.trans e⟩
  · have q := S.slot i u h
    cases u with
    | no => trivial
    | dat d => obtain ⟨v, e1, r⟩ := q; exact ⟨v, e1, Rep.ext e _ _ r⟩
    | own m => cases m with
      | lst ds => obtain ⟨a, xs, e1, f, h0, l, hh, r⟩ := q; exact ⟨a, xs, e1, nf a _ hh f, h0, l, hh, RepL.ext e _ _ r⟩
    | lent m => cases m with
      | lst ds => obtain ⟨a, xs, e1, f, l, hh, r⟩ := q; exact ⟨a, xs, e1, nf a _ hh f, l, hh, RepL.ext e _ _ r⟩
    | clo c => obtain ⟨v, e1, r⟩ := q; exact ⟨v, e1, p.mono _ _ _ _ e r⟩
  · rcases n a o q with k | ⟨φ, k⟩
    · exact S.ntb a o k
    · subst k; intro _ z; cases z
  · rcases n a o q with k | k
    · exact S.old a o k
    · exact .inr (.inr k)
/-- what a closure is: its lambda, its cells, and what they hold -/
def CloSt (g : Glb) (F : Hp) (v : V) : Clo → Prop
  | .mk ns y body cs => ∃ (f : Addr) (qual nm : Str) (params : Arguments) (e : Expr) (scope : Scope) (cells : List (Str × Addr)) (c : Ck), v = .ref f ∧ CloH F f qual params e scope cells ∧ LamP scope [nm] ∧ oneArg params = some nm ∧ okE c body e = true ∧ c.sc = scope ∧ c.TL = [] ∧ c.EX = [] ∧ c.LV = false ∧
      ns = c.N.length ∧ c.N[y]? = some nm ∧ c.N.Nodup ∧ g.G = c.G ∧ (∀ x, x ∈ c.Bl → g.mg x = none) ∧ (∀ x i, (x, i) ∈ c.GI → ∃ t, g.mg x = some (.int i t)) ∧ (∀ x is, (x, is) ∈ c.GT → ∃ a, g.mg x = some (.ref a) ∧ ∀ Fz, SqT g.K Fz a (is.map V.int)) ∧ (∀ x, x ∈ c.G → ∃ a, g.mg x = some (.ref a)) ∧
      ∀ q ∈ cs, ∃ x a u z, c.N[q.1]? = some x ∧ scope.names.lookup x = some .free ∧ cells.lookup x = some a ∧ CelAt F a u ∧ RelV z u ∧ Rep g F z q.2
/-- where a lambda may be made -/
structure LamB (p : Pa) (X : Cx) : Prop where
  ex : ∃ (T : List (Addr × Str)) (c P : Addr), TabB X.base X.mg c P ∧ X.env.code = .ref c ∧ (P, X.env.qual ++ "<lambda>") ∈ T ∧ (∀ q ∈ T, q.1 = P → q.2 = X.env.qual ++ "<lambda>") ∧ ∀ H, p.TI H ↔ Tabs T H
  cp : p.CP = CloSt p.g
theorem lamP_by {scope : Scope} {y : Str} (h : lamPB scope y = true) : LamP scope [y] := by
  unfold lamPB at h
  simp only [Bool.and_eq_true, decide_eq_true_eq, Bool.not_eq_true', List.all_eq_true, Bool.or_eq_true, decide_eq_false_iff_not] at h
  obtain ⟨⟨⟨⟨h1, h2⟩, h3⟩, h4⟩, h5⟩ := h
  refine ⟨h1, h2, h3, fun q hq => (h5 q hq).1, fun z hz => ?_, fun z hz => ?_⟩
  · rw [List.mem_singleton.mp hz]; exact h4
  · rcases (h5 _ (PySem.mem_of_lookup hz)).2 with k | k
    · exact absurd rfl k
    · exact List.mem_singleton.mpr k
theorem capsOf_mem {ρ : Env} : ∀ {caps : List Nat} {cs : List (Nat × D)}, capsOf ρ caps = some cs → (∀ q ∈ cs, ρ[q.1]? = some (.dat q.2) ∧ q.1 ∈ caps) ∧ ∀ i ∈ caps, ∃ d, (i, d) ∈ cs
  | [], cs, h => by cases h; exact ⟨fun q hq => absurd hq List.not_mem_nil, fun i hi => absurd hi List.not_mem_nil⟩
  | i :: r, cs, h => by
    unfold capsOf at h
    split at h
    · rename_i d hd
      obtain ⟨js, h1, h2⟩ := Option.map_eq_some_iff.mp h
      subst h2
      obtain ⟨k1, k2⟩ := capsOf_mem h1
      refine ⟨fun q hq => ?_, fun j hj => ?_⟩
      · rcases List.mem_cons.mp hq with rfl | hq
        · exact ⟨hd, List.mem_cons_self⟩
        · exact ⟨(k1 q hq).1, List.mem_cons_of_mem _ (k1 q hq).2⟩
      · rcases List.mem_cons.mp hj with rfl | hj
        · exact ⟨d, List.mem_cons_self⟩
        · obtain ⟨d', k⟩ := k2 j hj
          exact ⟨d', List.mem_cons_of_mem _ k⟩
    · cases h
theorem oneArg_def {args : Arguments} {y : Str} {env : PySem.Env} (h : oneArg args = some y) : defaultsOf args env = ([], []) := by
  unfold oneArg at h
  split at h
  · rfl
  · cases h
end AP
end
section
set_option maxHeartbeats 2000000
/-! AQ5: a def called with a lambda and data -/
namespace AP
open PySem PySem.Spec PyProof.Rows L2 LamX

/-- the frozen part, with the lambda and its code object -/
def withF (Fz : Hp) (f c' : Addr) (o u : HO) : Hp := fun b => if b = f then some o else if b = c' then some u else Fz b
/-- the frozen part, with the cells -/
def withK (C : List Addr) (Hc F : Hp) : Hp := fun b => if b ∈ C then Hc b else F b
section
variable {p : Pa} {X : Cx} {σ : L2.St} {cells : List (Str × Addr)} {H0 : Hp} {F2 H2 Hc : Hp} {ρ2 : Env}
theorem withK_sub (wc : WithC X σ cells H2 Hc) (e : Ext F2 H2) : Ext F2 (withK (cells.map (·.2)) Hc F2) := fun b o h => by
  have hb : b ∉ cells.map (·.2) := fun z => by have k := e b o h; rw [wc.none b z] at k; cases k
  unfold withK
  rw [if_neg hb]; exact h
theorem withK_ext (wc : WithC X σ cells H2 Hc) (e : Ext F2 H2) : Ext (withK (cells.map (·.2)) Hc F2) Hc := fun b o h => by
  unfold withK at h
  split at h
  · exact h
  · rename_i hb
    rw [wc.out b hb]; exact e b o h
theorem withC_ext (wc : WithC X σ cells H2 Hc) : Ext H2 Hc := fun b o h => by
  have hb : b ∉ cells.map (·.2) := fun z => by rw [wc.none b z] at h; cases h
  rw [wc.out b hb]; exact h
/-- behind the call: without the cells -/
theorem after_wo {Fz' H' : Hp} (wc : WithC X σ cells H2 Hc) (e : Ext F2 H2) (A : After p.g p.TI (withK (cells.map (·.2)) Hc F2) Hc [] Fz' H' []) :
    (∀ c ∈ cells.map (·.2), H' c = Hc c) ∧ After p.g p.TI F2 H2 [] (dr F2 Fz') (wo (cells.map (·.2)) H') [] := by
  have xF : Ext F2 Fz' := (withK_sub wc e).trans A.fz
  have cel : ∀ c ∈ cells.map (·.2), ∃ o, Hc c = some (FunO c o) ∧ Fz' c = some (FunO c o) ∧ (∃ h : Heap, h.get? c = some o) ∧ ∃ u, o.data = .cell u := fun c hc => by
    obtain ⟨q, hq, rfl⟩ := List.mem_map.mp hc
    obtain ⟨o, h1, h2, v, h3, _⟩ := wc.cel q hq
    refine ⟨o, h1, A.fz _ _ ?_, h2, v, h3⟩
    unfold withK
    rw [if_pos hc]; exact h1
  have n2 : ∀ c ∈ cells.map (·.2), F2 c = none := fun c hc => by
    cases q : F2 c with
    | none => rfl
    | some o => have := e c o q; rw [wc.none c hc] at this; cases this
  have out : ∀ b o, dr F2 Fz' b = some o → b ∉ cells.map (·.2) := fun b o h z => by
    obtain ⟨o', _, h2, _⟩ := cel b z
    rcases dr_cases xF h with k | ⟨k, n⟩
    · rw [n2 b z] at k; cases k
    · rw [h2] at k; cases k; exact n _ rfl
  refine ⟨fun c hc => ?_, dr_ext xF, fun b o h => ?_, ?_, fun b o h => A.ntb b o (dr_sub xF b o h), fun b o h _ n => ?_, fun b o h => ?_, fun b o h => ?_, .nil⟩
  · obtain ⟨o, h1, h2, _⟩ := cel c hc
    rw [h1]; exact A.sub _ _ h2
  · rw [wo_ne (out b o h)]; exact A.sub b o (dr_sub xF b o h)
  · refine p.tcel _ _ (fun c hc => ?_) A.tab
    obtain ⟨o, _, h2, h3, u, h4⟩ := cel c hc
    exact ⟨o, u, A.sub _ _ h2, h4, h3⟩
  · have hb : b ∉ cells.map (·.2) := fun z => by rw [wc.none b z] at h; cases h
    rw [wo_ne hb]
    exact A.keep b o (by rw [wc.out b hb]; exact h) List.not_mem_nil n
  · have hb : b ∉ cells.map (·.2) := fun z => by rw [wc.none b z] at h; cases h
    rw [wo_ne hb]
    exact A.there b o (by rw [wc.out b hb]; exact h)
  · have hb := out b o h
    rcases dr_cases xF h with k | ⟨k, n⟩
    · exact .inl k
    · rcases A.old b o k with z | z
      · unfold withK at z
        rw [if_neg hb] at z; exact .inl z
      · rw [wc.out b hb] at z; exact .inr z
end
end AP
end
section
set_option maxHeartbeats 2000000
/-! AQ6: a def called with a lambda and data -/
namespace AP
open PySem PySem.Spec PyProof.Rows L2 LamX
theorem ArgsRep.up {p : Pa} {A B H H' : Hp} (e : Ext A B) : ∀ {vs : List V} {as : List Arg}, ArgsRep p.g p.CP A H vs as → lentA vs as = [] → ArgsRep p.g p.CP B H' vs as
  | _, _, .nil, _ => .nil
  | v :: vs, .dat d :: as, .cons r t, h => by
    have q : lentA (v :: vs) (.dat d :: as) = lentA vs as := by cases v <;> rfl
    rw [q] at h
    exact .cons (Rep.ext e _ _ r) (t.up e h)
  | v :: vs, .clo c :: as, .cons r t, h => by
    have q : lentA (v :: vs) (.clo c :: as) = lentA vs as := by cases v <;> rfl
    rw [q] at h
    exact .cons (p.mono _ _ _ _ e r) (t.up e h)
  | v :: vs, .lent (.lst ds) :: as, .cons r t, h => by
    obtain ⟨b, xs, rfl, _⟩ := r
    cases h
section
variable {p : Pa} {c : Ck} {ft : FT} {k : Nat} {W : WX} {X : Cx}
theorem cells_own {scope : Scope} {cs : List (Str × Addr)} (has : ∀ y ∈ scope.names, y.2 = .free → ∃ a, cs.lookup y.1 = some a) {q : Str × Addr} (hq : q ∈ cloFrom cs scope.names []) : (q.1, NameKind.free) ∈ scope.names ∧ cs.lookup q.1 = some q.2 := by
  obtain ⟨n, a⟩ := q
  rcases cloFrom_mem hq with h | ⟨h1, h2⟩
  · cases h
  · obtain ⟨b, hb⟩ := has _ h1 rfl
    have hb : cs.lookup n = some b := hb
    refine ⟨h1, ?_⟩
    show cs.lookup n = some a
    rw [h2, hb]; rfl
theorem s_callC (O : XOk p c ft k W X) {f ns y : Nat} {body : IE} {caps : List Nat} {fr : Env → ERes (List PArg)} {x yn : Str} {p1 lpos pos : Pos} {args : Arguments} {lb : Expr} {scope : Scope} {es : List Expr} (L : LamB p X)
    (hf : c.G[f]? = some x) (hgl : okGl c x = true) (hs : es.all noStar = true) (ha : PA X es (tAr p X W fr)) (hns : ns = c.N.length) (hP : lamPB scope yn = true) (hy : c.N[y]? = some yn) (hoa : oneArg args = some yn) (hcap : capB c scope caps = true) (hok : okE (lamCk c scope) body lb = true) :
    PE X (.Call (.Name x p1) (.Lambda args lb scope lpos :: es) [] pos) (tO p X W fun ρ => match capsOf ρ caps with
      | some cs => if ft.dom f = true then (fr ρ).bind fun ps ρ => callCR (ft.fn f) (.mk ns y body cs) ps ρ else .stuck
      | none => .stuck) := by
  refine ⟨fun pins s σ H Q I ⟨H0, Lt, Fz, ρ, S, q⟩ => ?_⟩
  change Post (rO p) p X W H0 Lt Fz σ Q (match capsOf ρ caps with
      | some cs => if ft.dom f = true then (fr ρ).bind fun ps ρ => callCR (ft.fn f) (.mk ns y body cs) ps ρ else .stuck
      | none => .stuck) at q
  cases hcs : capsOf ρ caps with
  | none => rw [hcs] at q; exact q.elim
  | some cs =>
  rw [hcs] at q
  dsimp only at q
  by_cases hd : ft.dom f = true
  case neg => rw [if_neg hd] at q; exact q.elim
  rw [if_pos hd] at q
  obtain ⟨g1, g2⟩ := O.gl hgl
  obtain ⟨x', a, fd, ps, hG', hm, hk, hb, F, l1, l2⟩ := O.fns f hd
  rw [O.gG, hf] at hG'
  cases hG'
  obtain ⟨⟨T, cc, P, TB, hcode, hmT, hu, hTI⟩, hcp⟩ := L
  have LP := lamP_by hP
  unfold capB at hcap
  simp only [Bool.and_eq_true, List.all_eq_true, Bool.or_eq_true, Bool.not_eq_true', decide_eq_false_iff_not, decide_eq_true_eq, List.any_eq_true] at hcap
  obtain ⟨cp1, cp2⟩ := hcap
  have ck1 : ∀ z ∈ scope.names, z.2 = .free → c.sc.names.lookup z.1 = some .cell ∧ ∃ i ∈ caps, c.N[i]? = some z.1 := fun z hz e => (cp1 z hz).resolve_left fun n => n e
  have ck2 : ∀ i ∈ caps, ∃ z, c.N[i]? = some z ∧ scope.names.lookup z = some .free := fun i hi => by
    have := cp2 i hi
    split at this
    · rename_i z hz
      exact ⟨z, hz, of_decide_eq_true this⟩
    · cases this
  obtain ⟨cm1, cm2⟩ := capsOf_mem hcs
  have hasC : ∀ z ∈ scope.names, z.2 = .free → ∃ a, X.env.cells.lookup z.1 = some a := fun z hz e => I.ok.has _ (.inl ((O.lk _ _ (ck1 z hz e).1).1 (by decide)))
  have own : ∀ q ∈ cloFrom X.env.cells scope.names [], X.env.cells.lookup q.1 = some q.2 ∧ X.env.scope.names.lookup q.1 = some .cell ∧ X.fn q.1 = true := fun q hq => by
    obtain ⟨h1, h2⟩ := cells_own hasC hq
    have h3 := (ck1 _ h1 rfl).1
    exact ⟨h2, (O.lk _ _ h3).1 (by decide), O.fn _ h3⟩
  refine (pe_callC (t := fun σ H Q => tLamV X T args lb scope σ H fun v H1 => tAr p X W fr σ H1 fun vs H2 => Q (v :: vs) H2) F O.room g1 hm hk hb (pa_cons (pe_lamV TB hcode hmT hu (oneArg_def hoa) fun z hz e => .inl ((O.lk _ _ (ck1 z hz e).1).1 (by decide))) ha (star_cons rfl)) g2 (star_cons rfl) (star_any hs) own).run pins s σ H Q I ?_
  refine ⟨(hTI H).mp S.tab, fun f' c' pm ctv H1 e1 d1 t1 n1 co1 => ?_⟩
  have S1 := S.to e1 d1 ((hTI H1).mpr t1)
  generalize hfo : PySem.W.kla_obj "<lambda>" (X.env.qual ++ "<lambda>") args lb scope (cloFrom X.env.cells scope.names []) pm c' ctv = fo
  have up : Ext H1 (upd H1 f' (FunO f' fo)) := fun b o e => by rw [upd_ne (fun z => by rw [z, n1] at e; cases e)]; exact e
  have nfF : ∀ b o, Fz b = some o → b ≠ f' := fun b o e z => by have := S1.ext b o e; rw [z, n1] at this; cases this
  have cf : c' ≠ f' := fun z => by rw [z, n1] at co1; cases co1
  have S2 : StRep p H0 Lt (withF Fz f' c' (FunO f' fo) (CodeO c' (X.env.qual ++ "<lambda>"))) ρ σ (upd H1 f' (FunO f' fo)) := by
    refine (S1.more up).addx (fun b o e => ?_) (fun b o e => ?_) fun b o e => ?_
    · unfold withF
      rw [if_neg (nfF b o e)]
      by_cases hbc : b = c'
      · rw [if_pos hbc]
        have := S1.ext b o e
        rw [hbc, co1] at this; exact this
      · rw [if_neg hbc]; exact e
    · unfold withF at e
      by_cases hbf : b = f'
      · rw [if_pos hbf] at e; rw [hbf, upd_same]; exact e
      · rw [if_neg hbf] at e
        rw [upd_ne hbf]
        by_cases hbc : b = c'
        · rw [if_pos hbc] at e; rw [hbc, co1]; exact e
        · rw [if_neg hbc] at e; exact S1.ext b o e
    · unfold withF at e
      by_cases hbf : b = f'
      · rw [if_pos hbf] at e; cases e; exact .inr ⟨_, rfl⟩
      · rw [if_neg hbf] at e
        by_cases hbc : b = c'
        · rw [if_pos hbc] at e; cases e; exact .inr ⟨_, rfl⟩
        · rw [if_neg hbc] at e; exact .inl e
  have eF : Ext Fz (withF Fz f' c' (FunO f' fo) (CodeO c' (X.env.qual ++ "<lambda>"))) := fun b o e => by
    unfold withF
    rw [if_neg (nfF b o e)]
    by_cases hbc : b = c'
    · rw [if_pos hbc]
      have := S1.ext b o e
      rw [hbc, co1] at this; exact this
    · rw [if_neg hbc]; exact e
  refine ⟨H0, Lt, _, ρ, S2, Post.bind (R2 := rA p) (Post.ext eF q) fun qs ρ2 vs F2 H2 e2 S3 r2 q2 => ?_⟩
  intro Hc wc
  unfold callCR at q2
  by_cases hl : (lentIx qs).isEmpty = true
  case neg => rw [if_neg hl] at q2; exact q2.elim
  rw [if_pos hl] at q2
  cases haa : argsOf ρ2 qs with
  | none => rw [haa] at q2; exact q2.elim
  | some as =>
  rw [haa] at q2
  dsimp only at q2
  obtain ⟨ar, lp⟩ := args_rep S3 r2 haa
  have hl0 : lentIx qs = [] := List.isEmpty_iff.mp hl
  rw [hl0] at lp
  have hlA : lentA vs as = [] := by
    generalize lentA vs as = l at lp
    cases lp; rfl
  have f1 : F2 f' = some (FunO f' fo) := e2 _ _ (by unfold withF; rw [if_pos rfl])
  have c1 : F2 c' = some (CodeO c' (X.env.qual ++ "<lambda>")) := e2 _ _ (by unfold withF; rw [if_neg cf, if_pos rfl])
  have sub := withK_sub wc S3.ext
  have ksub : ∀ b ∈ (cloFrom X.env.cells scope.names []).map (·.2), withK ((cloFrom X.env.cells scope.names []).map (·.2)) Hc F2 b = Hc b := fun b hb => if_pos hb
  have cst : CloSt p.g (withK ((cloFrom X.env.cells scope.names []).map (·.2)) Hc F2) (.ref f') (.mk ns y body cs) := by
    have celF : ∀ q ∈ cloFrom X.env.cells scope.names [], ∀ i d z, c.N[i]? = some q.1 → (i, d) ∈ cs → σ[i]? = some (some z) → ∃ u, CelAt (withK ((cloFrom X.env.cells scope.names []).map (·.2)) Hc F2) q.2 u ∧ RelV z u := fun q hq i d z h1 h2 h3 => by
      obtain ⟨o, k1, _, v, k2, k3⟩ := wc.cel q hq
      obtain ⟨u, rfl, r⟩ := k3 i z (by rw [O.N]; exact h1) h3
      exact ⟨u, ⟨o, by rw [ksub _ (List.mem_map.mpr ⟨q, hq, rfl⟩)]; exact k1, k2⟩, r⟩
    have slot : ∀ q ∈ cs, ∃ z, σ[q.1]? = some (some z) ∧ Rep p.g Fz z q.2 := fun q hq => by
      obtain ⟨v, ev, rv⟩ := S.slot q.1 _ (cm1 q hq).1
      exact ⟨v, ev, rv⟩
    refine ⟨f', X.env.qual ++ "<lambda>", yn, args, lb, scope, cloFrom X.env.cells scope.names [], lamCk c scope, rfl, ⟨⟨c', pm, ctv, ?_, sub _ _ c1⟩, fun x y a h1 h2 => ?_, fun q hq => ?_, fun x hx => ?_⟩, LP, hoa, hok, rfl, rfl, rfl, rfl, hns, hy, O.nd, O.gG, fun x hx => by rw [O.gm]; exact O.blt x hx, fun x i hx => by rw [O.gm]; exact O.gi x i hx, fun x is hx => by rw [O.gm, O.gK]; exact O.gt x is hx, fun x hx => by rw [O.gm]; exact O.gf x hx, fun q hq => ?_⟩
    · rw [hfo]; exact sub _ _ f1
    · exact I.ok.inj x y a (NdefX.clo_cm hasC h1) (NdefX.clo_cm hasC h2)
    · obtain ⟨h1, h2⟩ := cells_own hasC hq
      obtain ⟨i, hi, hN⟩ := (ck1 _ h1 rfl).2
      obtain ⟨d, hd⟩ := cm2 i hi
      obtain ⟨z, hz, _⟩ := slot _ hd
      obtain ⟨u, h, _⟩ := celF q hq i d z hN hd hz
      exact ⟨u, h⟩
    · have hx' := PySem.mem_of_lookup hx
      obtain ⟨a, ha'⟩ := hasC _ hx' rfl
      exact ⟨a, NdefX.clo_has hasC hx' ha'⟩
    · obtain ⟨x, hN, hx⟩ := ck2 q.1 (cm1 q hq).2
      have hx' := PySem.mem_of_lookup hx
      obtain ⟨a, ha'⟩ := hasC _ hx' rfl
      have hc' := NdefX.clo_has hasC hx' ha'
      obtain ⟨z, hz, rz⟩ := slot q hq
      obtain ⟨u, h1, h2⟩ := celF (x, a) (PySem.mem_of_lookup hc') q.1 q.2 z hN hq hz
      exact ⟨x, a, u, z, hN, hx, hc', h1, h2, Rep.ext ((eF.trans e2).trans sub) _ _ rz⟩
  have fin : ∀ d, ft.fn f (.clo (.mk ns y body cs) :: as) = .ret (.dat d) [] → Post (rO p) p X W H0 Lt F2 σ Q (.ok (.dat d) ρ2) → spF p ps.length (ft.fn f) (.ref f' :: vs) Hc (QC (cloFrom X.env.cells scope.names []) Hc Q) (fun _ _ _ => False) := fun d hr q3 => by
    have hlc : lentA (V.ref f' :: vs) (Arg.clo (.mk ns y body cs) :: as) = [] := hlA
    refine ⟨_, .clo (.mk ns y body cs) :: as, l1 _ _ _ hr, .cons (by show p.CP _ _ _; rw [hcp]; exact cst) (ar.up sub hlA), withK_ext wc S3.ext, p.tmono _ _ (withC_ext wc) S3.tab, fun b o e => ?_, by rw [hlc]; exact Nat.zero_le _, ?_⟩
    · unfold withK at e
      split at e
      · rename_i hbc
        obtain ⟨q, hq, rfl⟩ := List.mem_map.mp hbc
        obtain ⟨o', h1, _⟩ := wc.cel q hq
        rw [h1] at e
        cases e
        intro _ z
        cases z
      · exact S3.ntb b o e
    · rw [hlc, hr]
      intro x Fz' H' A rr
      obtain ⟨h1, A2⟩ := after_wo wc S3.ext A
      refine ⟨h1, ?_⟩
      have pf : PostF p F2 H2 (lentA [] []) Q (WE W σ) (.ret (.dat d) []) := res_read (W := W) (ps := []) (vs := []) (as := []) (F := fun _ => .ret (.dat d) []) S3 .nil List.nodup_nil (show Post (rO p) p X W H0 Lt F2 σ Q (back (.ret (.dat d) []) [] ρ2) from q3)
      exact pf x _ _ A2 (Rep.extD dr_extD _ _ rr)
  cases hr : ft.fn f (.clo (.mk ns y body cs) :: as) with
  | stuck => rw [hr] at q2; exact q2.elim
  | exc c ms => rw [hr] at q2; exact q2.elim
  | ret v ms =>
    rw [hr] at q2
    cases v with
    | own m => cases ms <;> exact q2.elim
    | dat d =>
      cases ms with
      | cons _ _ => exact q2.elim
      | nil => exact fin d hr q2
end
end AP
end
section
set_option maxHeartbeats 4000000
/-! AP13: the checker is right -/
namespace AP
open PySem PySem.Spec PyProof.Rows L2

theorem relS_free {sc : Scope} : ∀ {names : List (Str × NameKind)} {x : Str}, names.lookup x = some .free →
    (names.map fun (n, k) => if (k == NameKind.free && sc.kind == .function && sc.names.lookup n == some .cell) then (n, NameKind.cell) else (n, k)).lookup x = some .free ∨
    (names.map fun (n, k) => if (k == NameKind.free && sc.kind == .function && sc.names.lookup n == some .cell) then (n, NameKind.cell) else (n, k)).lookup x = some .cell
  | [], _, h => by simp at h
  | (n, k₀) :: r, x, h => by
    have ih := @relS_free sc r x
    show List.lookup x ((if (k₀ == NameKind.free && sc.kind == .function && sc.names.lookup n == some .cell) = true then (n, NameKind.cell) else (n, k₀)) :: _) = _ ∨ List.lookup x ((if (k₀ == NameKind.free && sc.kind == .function && sc.names.lookup n == some .cell) = true then (n, NameKind.cell) else (n, k₀)) :: _) = _
    cases hx : x == n with
    | true =>
      simp only [List.lookup_cons, hx] at h
      cases h
      by_cases hc : (NameKind.free == NameKind.free && sc.kind == .function && sc.names.lookup n == some .cell) = true
      · rw [if_pos hc]
        exact .inr (by simp only [List.lookup_cons, hx])
      · rw [if_neg hc]
        exact .inl (by simp only [List.lookup_cons, hx])
    | false =>
      simp only [List.lookup_cons, hx] at h
      by_cases hc : (k₀ == NameKind.free && sc.kind == .function && sc.names.lookup n == some .cell) = true
      · rw [if_pos hc]
        simp only [List.lookup_cons, hx]
        exact ih h
      · rw [if_neg hc]
        simp only [List.lookup_cons, hx]
        exact ih h
section
variable {p : Pa} {c : Ck} {ft : FT} {k : Nat} {W : WX} {X : Cx}
theorem XOk.blkOk (O : XOk p c ft k W X) {scope : Scope} {own : List (Str × Nat)} (h : blkC c.N c.sc scope own = true) : BlkOk X.N X.env.scope scope own := by
  have b := blkOk_by h
  refine ⟨b.kind, b.uniq, by rw [O.N]; exact b.ix, fun y hy e => ?_, by rw [O.N]; exact b.own⟩
  rcases b.free y hy e with z | z
  · exact .inl ((O.lk _ _ z).1 (by decide))
  · exact ((O.lk _ _ z).2 rfl).symm
theorem XOk.blk (O : XOk p c ft k W X) {scope : Scope} (hk : scope.kind = .function) (s : Shared) (H : Hp) (C : Addr) (cl : List (Str × Addr)) (fp : List Addr) : XOk p (blkCk c scope) ft k W0 (X.blk s H scope (compEnvC scope cl C X.env) fp) := by
  refine ⟨O.N, O.nd, fun x q e => ⟨fun n => lookup_relS_keep n e, fun z => by subst z; exact relS_free e⟩, fun x e => ?_, hk, O.calm, O.gK, O.gm, O.gG, O.room, O.blt, O.gi, O.gt, O.gf, takes0N, O.fns, O.cls, O.exs⟩
  show (scope.names.lookup x == some .cell) = true
  rw [show scope.names.lookup x = some .cell from e]; rfl
/-- what a teller does of a lambda -/
def ToldOk (p : Pa) (c : Ck) (ft : FT) (k : Nat) (W : WX) (X : Cx) (h : Nat) : Prop :=
  ∀ (x : Str) (fb : Env → ERes Val) (args : Arguments) (body : Expr) (scope : Scope) (lpos pos p1 : Pos), c.G[h]? = some x → okGl c x = true → okLam c args scope = true → (∀ W' X', XOk p (lamCk c scope) ft k W' X' → PE X' body (tO p X' W' fb)) →
    PE X (.Call (.Name x p1) [.Lambda args body scope lpos] [] pos) (tO p X W fun ρ => toldR (ft.told h) (frz (fb ρ)))
/-- two contexts of one def -/
structure Sub (X Y : Cx) : Prop where
  prog : Y.prog = X.prog
  w : Y.w = X.w
  K : Y.K = X.K
  mg : Y.mg = X.mg
  base : Y.base = X.base
  A : Y.A = X.A
  stack : Y.stack = X.stack
  qual : Y.env.qual = X.env.qual
  code : Y.env.code = X.env.code
theorem Sub.refl (X : Cx) : Sub X X := ⟨rfl, rfl, rfl, rfl, rfl, rfl, rfl, rfl, rfl⟩
/-- the tellers, in a def and in its comprehensions; lambda values -/
structure ToldAll (p : Pa) (c : Ck) (ft : FT) (k : Nat) (X : Cx) : Prop where
  td : ∀ h ∈ c.TL, ∀ (Y : Cx) (W : WX) (c' : Ck), Sub X Y → c'.G = c.G → XOk p c' ft k W Y → ToldOk p c' ft k W Y h
  lv : c.LV = true → LamB p X
theorem ToldAll.nil (h : c.TL = []) (hl : c.LV = false) : ToldAll p c ft k X := ⟨fun h' hh => (by rw [h] at hh; cases hh), fun z => (by rw [hl] at z; cases z)⟩
theorem ToldAll.blk (T : ToldAll p c ft k X) {scope : Scope} (s : Shared) (H : Hp) (C : Addr) (cl : List (Str × Addr)) (fp : List Addr) : ToldAll p (blkCk c scope) ft k (X.blk s H scope (compEnvC scope cl C X.env) fp) := ⟨fun h hh Y W c' S e O =>
  T.td h hh Y W c' ⟨S.prog, S.w, S.K, S.mg, S.base, S.A, S.stack, S.qual, S.code⟩ e O, fun z => by cases z⟩
/-- the rules for an expression -/
structure Snd (p : Pa) (X : Cx) (W : WX) (e : Expr) (f : Env → ERes Val) : Prop where
  pe : PE X e (tO p X W f)
  pt : PT X e (tT p X W fun ρ => tst (f ρ))
  pw : ∀ op vs pos, e = .BoolOp op vs pos → PW X e (tT p X W fun ρ => tst (f ρ))
theorem Snd.of {e : Expr} {f : Env → ERes Val} (h : PE X e (tO p X W f)) (hp : plainTest e = true) : Snd p X W e f :=
  ⟨h, s_tst h (plain_isTrue hp), fun op vs pos ee => by subst ee; cases hp⟩
theorem Snd.of2 {e : Expr} {f : Env → ERes Val} (h : PE X e (tO p X W f)) (ht : PT X e (tT p X W fun ρ => tst (f ρ))) (hp : ∀ op vs pos, e ≠ .BoolOp op vs pos) : Snd p X W e f :=
  ⟨h, ht, fun op vs pos ee => absurd ee (hp op vs pos)⟩
theorem intsOf_eq : ∀ {ds : List D} {is : List Int}, intsOf ds = some is → ds = is.map D.int
  | [], is, h => by simp [intsOf] at h; subst h; rfl
  | d :: r, is, h => by
    cases d with
    | int i =>
      obtain ⟨js, h1, h2⟩ := Option.map_eq_some_iff.mp (show (intsOf r).map (i :: ·) = some is from h)
      subst h2
      rw [intsOf_eq h1]; rfl
    | _ => simp [intsOf] at h
theorem okCst_snd (O : XOk p c ft k W X) {d : D} {e : Expr} (h : okCst c d e = true) : Snd p X W e (fun ρ => .ok (.dat d) ρ) := by
  unfold okCst at h
  split at h
  · rename_i i j _ _
    have : i = j := of_decide_eq_true h
    subst this
    exact .of s_int rfl
  · rename_i a b _ _
    have : a = b := by simpa using h
    subst this
    exact .of s_bl rfl
  · exact .of s_non rfl
  · rename_i x y _ _
    have : x = y := of_decide_eq_true h
    subst this
    exact .of s_str rfl
  · rename_i n x _
    simp only [Bool.and_eq_true, decide_eq_true_eq] at h
    obtain ⟨g1, g2⟩ := O.gl h.2
    obtain ⟨a, ha⟩ := O.gf x (List.mem_of_getElem? h.1)
    exact .of (s_fn O.gm g1 ha (by rw [O.gG]; exact h.1) g2) rfl
  · rename_i i x _
    simp only [Bool.and_eq_true, decide_eq_true_eq] at h
    obtain ⟨g1, g2⟩ := O.gl h.1
    obtain ⟨t, ha⟩ := O.gi x i h.2
    exact .of (s_gint g1 ha g2) rfl
  · rename_i ds x _
    simp only [Bool.and_eq_true] at h
    obtain ⟨g1, g2⟩ := O.gl h.1
    obtain ⟨-, h2⟩ := h
    cases hi : intsOf ds with
    | none => rw [hi] at h2; cases h2
    | some is =>
      rw [hi] at h2
      obtain ⟨a, ha, ht⟩ := O.gt x is (of_decide_eq_true h2)
      have e := intsOf_eq hi
      subst e
      exact .of (s_gtup O.gK g1 ha ht g2) rfl
  · cases h
mutual
theorem okTg_snd (O : XOk p c ft k W X) : ∀ (t : Tg) (e : Expr), okTg c t e = true → PG X e (tG p (tgIx t) (asgTg t))
  | .nm i, e, h => by
    unfold okTg at h
    split at h
    · exact g_nm (O.nw h)
    · cases h
  | .tup ts, e, h => by
    unfold okTg at h
    split at h
    · rename_i es _ _
      simp only [Bool.and_eq_true, decide_eq_true_eq] at h
      exact g_tup O.gK O.calm (okTgs_snd O ts es h.2) h.1.1 h.1.2
    · cases h
theorem okTgs_snd (O : XOk p c ft k W X) : ∀ (ts : Tgs) (es : List Expr), okTgs c ts es = true → PGs X es (tGs p (tgIxs ts) (asgTgs ts))
  | .nil, es, h => by
    unfold okTgs at h
    have : es = [] := by simpa using h
    subst this
    exact g_nil
  | .cons t r, es, h => by
    unfold okTgs at h
    split at h
    · rename_i e es
      simp only [Bool.and_eq_true] at h
      refine g_cons (okTg_snd O t e h.1) (okTgs_snd O r es h.2) ?_
      cases t with
      | nm i => have := h.1; unfold okTg at this; split at this <;> first | rfl | cases this
      | tup ts => have := h.1; unfold okTg at this; split at this <;> first | rfl | cases this
    · cases h
end
end
section
variable {p : Pa} {ft : FT} {k : Nat}
theorem s_iteT {X : Cx} {W : WX} {a b c : Expr} {fa fb fc : Env → ERes Val} {pos : Pos} (hc : PT X c (tT p X W fun ρ => tst (fc ρ))) (ha : PT X a (tT p X W fun ρ => tst (fa ρ))) (hb : PT X b (tT p X W fun ρ => tst (fb ρ))) :
    PT X (.IfExp c a b pos) (tT p X W fun ρ => tst ((tst (fc ρ)).bind fun k ρ => if k = true then fa ρ else fb ρ)) := by
  refine ⟨fun pins s σ H Q I ⟨H0, Lt, Fz, ρ, S, q⟩ => ?_⟩
  simp only [tst_bind] at q
  refine isTrue_IfExp (thn (hc.run pins s σ H (fun d H1 => tT p X W (fun ρ => tst (if d = true then fa ρ else fb ρ)) σ H1 Q) I ⟨H0, Lt, Fz, ρ, S, Post.bind (R2 := rT) q fun d ρ' x F' H' e1 S' r q' => by subst r; exact ⟨H0, Lt, F', ρ', S', q'⟩⟩) fun d s1 ⟨H1, I1, q1⟩ => ?_)
  cases d with
  | true => exact ha.run pins s1 σ H1 Q I1 q1
  | false => exact hb.run pins s1 σ H1 Q I1 q1
/-- e[::-1] -/
theorem s_rev {X : Cx} {W : WX} {e : Expr} {fe : Env → ERes Val} {kk : Nat} {p1 p2 p3 pos : Pos} (hK : p.g.K = X.K) (he : PE X e (tO p X W fe)) :
    PE X (.Subscript e (.Slice none none (some (.UnaryOp .USub (.Constant (.int 1) kk p1) p2)) p3) pos) (tO p X W fun ρ => (frz (fe ρ)).bind fun x ρ => ofO (revD x) ρ) := by
  refine ⟨fun pins s σ H Q I h => ?_⟩
  have h2 : tD p X W (fun ρ => frz (fe ρ)) σ H fun x H1 => ∃ Fz d v, Ext Fz H1 ∧ Rep p.g Fz x d ∧ revD d = some v ∧ RPost p Fz H1 Q v := tR.bind h fun H0 Lt Fz v ρ' x H' S r q => by
    obtain ⟨w, hw, q2⟩ := ofO_post q
    exact ⟨Fz, v, w, S.ext, r, hw, rpost_of S q2⟩
  refine Subscript_ (thn ((s_frz he).run pins s σ H _ I h2) fun v s1 hh => ?_)
  obtain ⟨x, H1, I1, r1, Fz, d, w, ext, rep, hw, post⟩ := hh
  have hst : PO X (some (.UnaryOp .USub (.Constant (.int 1) kk p1) p2)) (tPart (tUn (rU fun i => .int (-i)) (tC (.int 1)))) := po_some (pe_un un_neg pe_int)
  refine wpAny_Slice (thn (po_none.run pins s1 σ H1 (fun o H2 => o = none ∧ H2 = H1) I1 ⟨rfl, rfl⟩) fun vl s2 ⟨l, H2, I2, pl, el, e2⟩ => ?_)
  subst el e2
  refine thn (po_none.run pins s2 σ H2 (fun o H3 => o = none ∧ H3 = H2) I2 ⟨rfl, rfl⟩) fun vu s3 ⟨u, H3, I3, pu, eu, e3⟩ => ?_
  subst eu e3
  refine thn (hst.run pins s3 σ H3 (fun o H4 => o = some (-1) ∧ H4 = H3) I3 ⟨1, rfl, -1, rfl, rfl, rfl⟩) fun vs s4 ⟨o, H4, I4, ps, eo, e4⟩ => ?_
  subst eo e4
  have I5 : Inv X pins σ H4 { s4 with heap := s4.heap.push { cls := .type "slice", data := .fields #[vl, vu, vs] } } := I4.kept (t' := s4.toks) fun b ob q => Heap.get?_push_of_some _ q
  unfold revD at hw
  split at hw
  · cases hw
    cases rep with
    | @tup a xs ds a1 a2 =>
      cases r1
      obtain ⟨its, r, ht, hz⟩ := I5.tuple (SqT.to hK ext a1)
      have hlen := r.length
      show wpAny (model X.prog X.w) X.A (subscriptTail e (.Slice none none (some (.UnaryOp .USub (.Constant (.int 1) kk p1) p2)) p3) (.ref a) (.ref s4.heap.objs.size)) (EP X pins σ Q) X.xe { s4 with heap := s4.heap.push { cls := .type "slice", data := .fields #[vl, vu, vs] } }
      refine tail_any (ops := [.ref a, .ref s4.heap.objs.size]) ht.typeIs PyProof.Rows.slot_tuple_getitem.lookup ?_ (by with_unfolding_all rfl)
      refine ap_getItem_tuple_rev ht (Heap.IsSliceOf.new _ vl vu vs) pl pu ps ?_ (by rw [List.size_toArray]; omega)
      refine ⟨.ref _, _, I5.laid (t' := s4.toks) (o := .tup xs.reverse) (fun b ob q => Heap.get?_push_of_some _ q) (Nat.le_refl _) ?_, rfl, rpost_tup ext post (a2.rev) _ (I5.hok.fresh (Nat.le_refl _))⟩
      exact ⟨by rw [List.length_reverse]; exact hz, _, r.reverse, ⟨_, Heap.get?_push_size _ rfl, rfl, _, rfl⟩⟩
  · cases hw
    cases rep with
    | @lst a xs ds a1 a2 =>
      cases r1
      obtain ⟨its, r, ht, hz⟩ := I5.list (SqL.of (ext _ _ a1))
      have hlen := r.length
      show wpAny (model X.prog X.w) X.A (subscriptTail e (.Slice none none (some (.UnaryOp .USub (.Constant (.int 1) kk p1) p2)) p3) (.ref a) (.ref s4.heap.objs.size)) (EP X pins σ Q) X.xe { s4 with heap := s4.heap.push { cls := .type "slice", data := .fields #[vl, vu, vs] } }
      refine tail_any (ops := [.ref a, .ref s4.heap.objs.size]) ht.isList.typeIs (PySem.slot_list_getitem.lookup) ?_ (by with_unfolding_all rfl)
      refine wpAny_getItem_list_slice ht.isList (Heap.IsSliceOf.new _ vl vu vs) pl pu ps (by decide) ?_ (by rw [List.size_toArray]; omega)
      rw [PySem.W.krv_pick]
      refine ⟨.ref _, _, I5.laid (t' := s4.toks) (o := .lst xs.reverse) (fun b ob q => Heap.get?_push_of_some _ q) (Nat.le_refl _) ?_, rfl, post _ _ (I5.hok.fresh (Nat.le_refl _)) (a2.rev)⟩
      exact ⟨by rw [List.length_reverse]; exact hz, _, 0, r.reverse, Heap.get?_push_size _ rfl⟩
  · cases hw
theorem one_more {x : Expr} {xs : List Expr} (h : (x :: xs).all noStar = true) : noStar x = true ∧ xs.all noStar = true := by
  rw [List.all_cons, Bool.and_eq_true] at h; exact h
theorem var_of {c : Ck} {X : Cx} {W : WX} {ie : IE} {e : Expr} (O : XOk p c ft k W X) (h : okE c ie e = true) : ∀ i, ie = .var i → ∃ x pos, e = .Name x pos ∧ Nm X i x := by
  intro i hi
  subst hi
  unfold okE at h
  split at h
  · exact ⟨_, _, rfl, O.nm h⟩
  · cases h
mutual
theorem okE_snd : ∀ (ie : IE) (c : Ck) (W : WX) (X : Cx) (e : Expr), XOk p c ft k W X → ToldAll p c ft k X → okE c ie e = true → Snd p X W e (evO ft ie)
  | .cst d, c, W, X, e, O, TD, h => okCst_snd O (by unfold okE at h; exact h)
  | .var i, c, W, X, e, O, TD, h => by
    unfold okE at h
    split at h
    · exact .of (s_var (O.nm h)) rfl
    · cases h
  | .bin o a b, c, W, X, e, O, TD, h => by
    unfold okE at h
    split at h
    · simp only [Bool.and_eq_true] at h
      obtain ⟨⟨h1, h2⟩, h3⟩ := h
      split at h1
      · rename_i o' ho
        have := BOp.eqb_eq h1
        subst this
        exact .of (s_bin O.gK ho (okE_snd a c W X _ O TD h2).pe (okE_snd b c W X _ O TD h3).pe) rfl
      · cases h1
    · cases h
  | .neg a, c, W, X, e, O, TD, h => by
    unfold okE at h
    split at h
    · exact .of (s_neg (okE_snd a c W X _ O TD h).pe) rfl
    · cases h
  | .not a, c, W, X, e, O, TD, h => by
    unfold okE at h
    split at h
    · exact .of2 (s_not (okE_snd a c W X _ O TD h).pe) (s_notT (okE_snd a c W X _ O TD h).pt) (fun _ _ _ z => by cases z)
    · cases h
  | .and a b, c, W, X, e, O, TD, h => by
    unfold okE at h
    split at h
    · simp only [Bool.and_eq_true] at h
      have ha := okE_snd a c W X _ O TD h.1
      have hb := okE_snd b c W X _ O TD h.2
      exact ⟨s_and ha.pe (pe_one hb.pe), (s_andT ha.pt (pw_and1 hb.pt)).pt, fun _ _ _ _ => s_andT ha.pt (pw_and1 hb.pt)⟩
    · simp only [Bool.and_eq_true] at h
      have ha := okE_snd a c W X _ O TD h.1
      have hb := okE_snd b c W X _ O TD h.2
      have w := s_andT ha.pt (hb.pw _ _ _ rfl)
      exact ⟨s_and ha.pe hb.pe, w.pt, fun _ _ _ _ => w⟩
    · cases h
  | .or a b, c, W, X, e, O, TD, h => by
    unfold okE at h
    split at h
    · simp only [Bool.and_eq_true] at h
      have ha := okE_snd a c W X _ O TD h.1
      have hb := okE_snd b c W X _ O TD h.2
      exact ⟨s_or ha.pe (pe_one hb.pe), (s_orT ha.pt (pw_or1 hb.pt)).pt, fun _ _ _ _ => s_orT ha.pt (pw_or1 hb.pt)⟩
    · simp only [Bool.and_eq_true] at h
      have ha := okE_snd a c W X _ O TD h.1
      have hb := okE_snd b c W X _ O TD h.2
      have w := s_orT ha.pt (hb.pw _ _ _ rfl)
      exact ⟨s_or ha.pe hb.pe, w.pt, fun _ _ _ _ => w⟩
    · cases h
  | .cmp o a b, c, W, X, e, O, TD, h => by
    unfold okE at h
    split at h
    · simp only [Bool.and_eq_true, Bool.not_eq_true'] at h
      obtain ⟨⟨⟨h1, h2⟩, h3⟩, h4⟩ := h
      have := COp.eqb_eq h1
      subst this
      have ha := s_opd (okE_snd a c W X _ O TD h3).pe (var_of O h3)
      have hb := s_opd (okE_snd b c W X _ O TD h4).pe (var_of O h4)
      exact .of2 (s_cmp (ia := a) (ib := b) O.gK O.room.units h2 ha hb) (s_cmpT (ia := a) (ib := b) O.gK O.room.units h2 ha hb) (fun _ _ _ z => by cases z)
    · cases h
  | .chain o1 o2 a b d, c, W, X, e, O, TD, h => by
    unfold okE at h
    split at h
    · simp only [Bool.and_eq_true, Bool.not_eq_true'] at h
      obtain ⟨⟨⟨⟨⟨h1, h2⟩, h3⟩, h4⟩, h5⟩, h6⟩ := h
      have := COp.eqb_eq h1
      subst this
      have := COp.eqb_eq h2
      subst this
      exact .of2 (s_chain O.gK O.room.units h3 (okE_snd a c W X _ O TD h4).pe (okE_snd b c W X _ O TD h5).pe (okE_snd d c W X _ O TD h6).pe) (s_chainT O.gK O.room.units h3 (okE_snd a c W X _ O TD h4).pe (okE_snd b c W X _ O TD h5).pe (okE_snd d c W X _ O TD h6).pe) (fun _ _ _ z => by cases z)
    · cases h
  | .ite t a b, c, W, X, e, O, TD, h => by
    unfold okE at h
    split at h
    · simp only [Bool.and_eq_true] at h
      obtain ⟨⟨h1, h2⟩, h3⟩ := h
      have ht := okE_snd t c W X _ O TD h1
      have ha := okE_snd a c W X _ O TD h2
      have hb := okE_snd b c W X _ O TD h3
      exact .of2 (s_ite ht.pt ha.pe hb.pe) (s_iteT ht.pt ha.pt hb.pt) (fun _ _ _ z => by cases z)
    · cases h
  | .call f as, c, W, X, e, O, TD, h => by
    unfold okE at h
    split at h
    · rename_i x _ args _
      simp only [Bool.and_eq_true, decide_eq_true_eq] at h
      obtain ⟨⟨⟨h1, h2⟩, h3⟩, h4⟩ := h
      cases args with
      | nil =>
        have : as = .nil := by
          cases as with
          | nil => rfl
          | e a r => unfold okA at h4; cases h4
          | lent i r => unfold okA at h4; cases h4
        subst this
        exact .of (s_call0 O h1 h2) rfl
      | cons y ys => exact .of (s_call O h1 h2 (okA_snd as c W X _ O TD h3 h4) h3) rfl
    · cases h
  | .callV i as, c, W, X, e, O, TD, h => by
    unfold okE at h
    split at h
    · simp only [Bool.and_eq_true] at h
      obtain ⟨⟨h1, h2⟩, h3⟩ := h
      exact .of (s_callV O (O.nm h1) (okA_snd as c W X _ O TD h2 h3) h2) rfl
    · cases h
  | .callC f ns y body caps as, c, W, X, e, O, TD, h => by
    unfold okE at h
    split at h
    · simp only [Bool.and_eq_true, decide_eq_true_eq] at h
      obtain ⟨⟨⟨⟨⟨⟨⟨⟨⟨⟨h1, h2⟩, h3⟩, h4⟩, h5⟩, h6⟩, h7⟩, h8⟩, h9⟩, h10⟩, h11⟩ := h
      have hy : c.N[y]? = some ((c.N[y]?).getD "") := by
        rw [List.getElem?_eq_getElem h9]; rfl
      exact .of (s_callC O (TD.lv h5) h1 h2 h3 (okA_snd as c W X _ O TD h3 h4) h6 h7 hy (h8.trans hy) h10 h11) rfl
    · cases h
  | .len a, c, W, X, e, O, TD, h => by
    unfold okE at h
    split at h
    · simp only [Bool.and_eq_true, decide_eq_true_eq] at h
      obtain ⟨⟨⟨h1, h2⟩, h3⟩, h4⟩ := h
      subst h1
      obtain ⟨g1, g2, g3⟩ := O.bl h2
      exact .of (s_len O.gK g1 g3 (s_opd (okE_snd a c W X _ O TD h4).pe (var_of O h4)) (star_one h3)) rfl
    · cases h
  | .bi b as, c, W, X, e, O, TD, h => by
    unfold okE at h
    split at h
    · simp only [Bool.and_eq_true] at h
      obtain ⟨⟨⟨h1, h2⟩, h3⟩, h4⟩ := h
      obtain ⟨g1, g2, g3⟩ := O.bl h2
      split at h1
      · rename_i b' t n ht
        have := Bi.eqb_eq h1
        subst this
        obtain ⟨s1, s2⟩ := one_more h3
        exact .of (s_bi O.gK O.calm ht g1 g3 (okL_snd as c W X _ O TD h3 h4) (star_cons s1) (star_any s2)) rfl
      · cases h1
    · cases h
  | .isi a cl, c, W, X, e, O, TD, h => by
    unfold okE at h
    split at h
    · simp only [Bool.and_eq_true, decide_eq_true_eq] at h
      obtain ⟨⟨⟨⟨⟨h1, h2⟩, h3⟩, h4⟩, h5⟩, h6⟩ := h
      subst h1
      obtain ⟨g1, g2, g3⟩ := O.bl h2
      obtain ⟨k1, k2, k3⟩ := O.bl h3
      obtain ⟨t1, t2⟩ := trTy_boot h4
      exact .of (s_isi O.gK t1 g1 g3 k1 k3 t2 k2 (okE_snd a c W X _ O TD h6).pe h5) rfl
    · cases h
  | .tup es, c, W, X, e, O, TD, h => by
    unfold okE at h
    split at h
    · simp only [Bool.and_eq_true] at h
      exact .of (s_tup (okL_snd es c W X _ O TD h.1 h.2)) rfl
    · cases h
  | .lst es, c, W, X, e, O, TD, h => by
    unfold okE at h
    split at h
    · simp only [Bool.and_eq_true] at h
      exact .of (s_lst (okL_snd es c W X _ O TD h.1 h.2)) rfl
    · cases h
  | .comp elt tg it cond own, c, W, X, e, O, TD, h => by
    unfold okE at h
    split at h
    · rename_i x t iter ifs scope _
      simp only [Bool.and_eq_true] at h
      obtain ⟨⟨⟨⟨⟨⟨h1, h2⟩, h3⟩, h4⟩, h5⟩, h6⟩, h7⟩ := h
      have hN : X.N.Nodup := by rw [O.N]; exact O.nd
      have ok := O.blkOk h1
      have es := ownOf_snd c own
      have OB := O.blk (scope := scope) ok.kind
      have hix : ∀ i ∈ tgIx tg, i ∈ (ownOf c own).map (·.2) := fun i hi => by
        rw [es]
        simpa using List.all_eq_true.mp h2 i hi
      have q := s_lc (pos := ‹_›) (fc := evO ft cond) (fe := evO ft elt) O.calm hN (okI_snd it c W X t iter O TD h3) ok hix (fun s H C cl fp => okTg_snd (OB s H C cl fp) tg t h4)
        (ifs := ifs) (fun s H C cl fp => by
          split at h7
          · split at h7
            · exact s_ptsNil
            · cases h7
          · exact pts_one (okE_snd cond _ W0 _ _ (OB s H C cl fp) (TD.blk s H C cl fp) h7).pt
          · cases h7)
        (fun s H C cl fp => (okE_snd elt _ W0 _ _ (OB s H C cl fp) (TD.blk s H C cl fp) h6).pe) (notSet_fold h5 _)
      rw [es] at q
      exact .of q rfl
    · cases h
  | .idx a b, c, W, X, e, O, TD, h => by
    unfold okE at h
    split at h
    · simp only [Bool.and_eq_true] at h
      obtain ⟨⟨h1, h2⟩, h3⟩ := h
      exact .of (s_idx O.gK (s_opd (okE_snd a c W X _ O TD h2).pe (var_of O h2)) (okE_snd b c W X _ O TD h3).pe (plain_ix h1)) rfl
    · cases h
  | .sl a lo hi, c, W, X, e, O, TD, h => by
    unfold okE at h
    split at h
    · simp only [Bool.and_eq_true] at h
      obtain ⟨⟨h1, h2⟩, h3⟩ := h
      exact .of (s_sl O.gK (okE_snd a c W X _ O TD h1).pe (okP_snd lo c W X _ O TD h2) (okP_snd hi c W X _ O TD h3)) rfl
    · cases h
  | .pop0 i, c, W, X, e, O, TD, h => by
    unfold okE at h
    split at h
    · simp only [Bool.and_eq_true, decide_eq_true_eq] at h
      obtain ⟨⟨h1, h2⟩, h3⟩ := h
      subst h1
      exact .of (s_pop0 (O.nm h2) h3) rfl
    · cases h
  | .popL i, c, W, X, e, O, TD, h => by
    unfold okE at h
    split at h
    · simp only [Bool.and_eq_true, decide_eq_true_eq] at h
      obtain ⟨⟨h1, h2⟩, h3⟩ := h
      subst h1
      exact .of (s_popL (O.nm h2) h3) rfl
    · cases h
  | .rev a, c, W, X, e, O, TD, h => by
    unfold okE at h
    split at h
    · exact .of (s_rev O.gK (okE_snd a c W X _ O TD h).pe) rfl
    · cases h
  | .lrng it, c, W, X, e, O, TD, h => by
    unfold okE at h
    split at h
    · simp only [Bool.and_eq_true, decide_eq_true_eq] at h
      obtain ⟨⟨⟨h1, h2⟩, h3⟩, h4⟩ := h
      subst h1
      obtain ⟨g1, g2, g3⟩ := O.bl h2
      cases it with
      | range1 a =>
        unfold okR at h4
        split at h4
        · simp only [Bool.and_eq_true, decide_eq_true_eq] at h4
          obtain ⟨⟨⟨k1, k2⟩, k3⟩, k4⟩ := h4
          subst k1
          obtain ⟨j1, j2, j3⟩ := O.bl k2
          exact .of (s_lrng1 O.calm g1 g3 j1 j3 (okE_snd a c W X _ O TD k4).pe k3) rfl
        · cases h4
      | range2 a b =>
        unfold okR at h4
        split at h4
        · simp only [Bool.and_eq_true, decide_eq_true_eq] at h4
          obtain ⟨⟨⟨⟨⟨k1, k2⟩, k3⟩, k4⟩, k5⟩, k6⟩ := h4
          subst k1
          obtain ⟨j1, j2, j3⟩ := O.bl k2
          exact .of (s_lrng2 O.calm g1 g3 j1 j3 (okE_snd a c W X _ O TD k5).pe (okE_snd b c W X _ O TD k6).pe k3 k4) rfl
        · cases h4
      | _ => unfold okR at h4; cases h4
    · cases h
  | .join a b, c, W, X, e, O, TD, h => by
    unfold okE at h
    split at h
    · simp only [Bool.and_eq_true, decide_eq_true_eq] at h
      obtain ⟨⟨⟨⟨⟨h1, h2⟩, h3⟩, h4⟩, h5⟩, h6⟩ := h
      subst h1
      exact .of (s_join O.gK (okE_snd a c W X _ O TD h5).pe (okE_snd b c W X _ O TD h6).pe (star_one h3) (atB_ok h2) h4) rfl
    · cases h
  | .split a b, c, W, X, e, O, TD, h => by
    unfold okE at h
    split at h
    · simp only [Bool.and_eq_true, decide_eq_true_eq] at h
      obtain ⟨⟨⟨⟨⟨h1, h2⟩, h3⟩, h4⟩, h5⟩, h6⟩ := h
      subst h1
      exact .of (s_split (okE_snd a c W X _ O TD h5).pe (okE_snd b c W X _ O TD h6).pe (star_one h3) (atB_ok h2) h4) rfl
    · cases h
  | .fstr es, c, W, X, e, O, TD, h => by
    unfold okE at h
    split at h
    · exact .of (s_fstr (okF_snd es c W X _ O TD h)) rfl
    · cases h
  | .slr a i, c, W, X, e, O, TD, h => by
    unfold okE at h
    split at h
    · simp only [Bool.and_eq_true, decide_eq_true_eq] at h
      obtain ⟨h1, h2⟩ := h
      subst h1
      exact .of (s_slr (okE_snd a c W X _ O TD h2).pe) rfl
    · cases h
  | .told hh a, c, W, X, e, O, TD, h => by
    unfold okE at h
    split at h
    · simp only [Bool.and_eq_true, decide_eq_true_eq] at h
      obtain ⟨⟨⟨⟨h1, h2⟩, h3⟩, h4⟩, h5⟩ := h
      refine .of (TD.td hh (by simpa using h1) X W c (Sub.refl X) rfl O _ _ _ _ _ _ _ _ h2 h3 h4 fun W' X' O' => (okE_snd a _ W' X' _ O' (ToldAll.nil rfl rfl) h5).pe) rfl
    · cases h
theorem okF_snd : ∀ (ies : IEs) (c : Ck) (W : WX) (X : Cx) (es : List Expr), XOk p c ft k W X → ToldAll p c ft k X → okF c ies es = true → PFs p X W es (fun acc ρ => evF ft ies acc ρ)
  | .nil, c, W, X, es, O, TD, h => by
    unfold okF at h
    have : es = [] := by simpa using h
    subst this
    exact pf_nil
  | .cons a r, c, W, X, es, O, TD, h => by
    unfold okF at h
    split at h
    · simp only [Bool.and_eq_true] at h
      exact pf_val (okE_snd a c W X _ O TD h.1).pe (okF_snd r c W X _ O TD h.2)
    · simp only [Bool.and_eq_true] at h
      obtain ⟨h1, h2⟩ := h
      split at h1
      · have := of_decide_eq_true h1
        subst this
        exact pf_cst (okF_snd r c W X _ O TD h2)
      · cases h1
    · cases h
theorem okP_snd : ∀ (o : IOp) (c : Ck) (W : WX) (X : Cx) (e : Option Expr), XOk p c ft k W X → ToldAll p c ft k X → okP c o e = true → PO X e (tPt p X W (evP ft o))
  | .none, c, W, X, e, O, TD, h => by
    unfold okP at h
    have : e = none := by simpa using h
    subst this
    exact s_pnone
  | .some a, c, W, X, e, O, TD, h => by
    unfold okP at h
    split at h
    · exact s_psome (okE_snd a c W X _ O TD h).pe
    · cases h
theorem okL_snd : ∀ (ies : IEs) (c : Ck) (W : WX) (X : Cx) (es : List Expr), XOk p c ft k W X → ToldAll p c ft k X → es.all noStar = true → okL c ies es = true → PA X es (tL p X W (evL ft ies))
  | .nil, c, W, X, es, O, TD, hs, h => by
    unfold okL at h
    have : es = [] := by simpa using h
    subst this
    exact s_nil
  | .cons a r, c, W, X, es, O, TD, hs, h => by
    unfold okL at h
    split at h
    · simp only [Bool.and_eq_true] at h
      obtain ⟨s1, s2⟩ := one_more hs
      exact s_cons (okE_snd a c W X _ O TD h.1).pe (okL_snd r c W X _ O TD s2 h.2) (star_cons s1)
    · cases h
theorem okA_snd : ∀ (ies : IAs) (c : Ck) (W : WX) (X : Cx) (es : List Expr), XOk p c ft k W X → ToldAll p c ft k X → es.all noStar = true → okA c ies es = true → PA X es (tAr p X W (evA ft ies))
  | .nil, c, W, X, es, O, TD, hs, h => by
    unfold okA at h
    have : es = [] := by simpa using h
    subst this
    exact a_nil
  | .e a r, c, W, X, es, O, TD, hs, h => by
    unfold okA at h
    split at h
    · simp only [Bool.and_eq_true] at h
      obtain ⟨s1, s2⟩ := one_more hs
      exact a_cons (okE_snd a c W X _ O TD h.1).pe (okA_snd r c W X _ O TD s2 h.2) s1
    · cases h
  | .lent i r, c, W, X, es, O, TD, hs, h => by
    unfold okA at h
    split at h
    · simp only [Bool.and_eq_true] at h
      obtain ⟨s1, s2⟩ := one_more hs
      exact a_lent (O.nm h.1) (okA_snd r c W X _ O TD s2 h.2)
    · cases h
theorem okI_snd : ∀ (it : IIt) (c : Ck) (W : WX) (X : Cx) (t e : Expr), XOk p c ft k W X → ToldAll p c ft k X → okI c it t e = true → PI X t e (tI p X W (evI ft it))
  | .seq a, c, W, X, t, e, O, TD, h => by
    unfold okI at h
    exact s_itSeq O.gK (okE_snd a c W X _ O TD h).pe
  | .range1 a, c, W, X, t, e, O, TD, h => by
    unfold okI at h
    split at h
    · simp only [Bool.and_eq_true, decide_eq_true_eq] at h
      obtain ⟨⟨⟨h1, h2⟩, h3⟩, h4⟩ := h
      subst h1
      obtain ⟨g1, g2, g3⟩ := O.bl h2
      exact s_itR1 g1 g3 (okE_snd a c W X _ O TD h4).pe h3
    · cases h
  | .range2 a b, c, W, X, t, e, O, TD, h => by
    unfold okI at h
    split at h
    · simp only [Bool.and_eq_true, decide_eq_true_eq] at h
      obtain ⟨⟨⟨⟨⟨h1, h2⟩, h3⟩, h4⟩, h5⟩, h6⟩ := h
      subst h1
      obtain ⟨g1, g2, g3⟩ := O.bl h2
      exact s_itR2 g1 g3 (okE_snd a c W X _ O TD h5).pe (okE_snd b c W X _ O TD h6).pe h3 h4
    · cases h
  | .range3 a b d, c, W, X, t, e, O, TD, h => by
    unfold okI at h
    split at h
    · simp only [Bool.and_eq_true, decide_eq_true_eq] at h
      obtain ⟨⟨⟨⟨⟨⟨⟨h1, h2⟩, h3⟩, h4⟩, h5⟩, h6⟩, h7⟩, h8⟩ := h
      subst h1
      obtain ⟨g1, g2, g3⟩ := O.bl h2
      exact s_itR3 g1 g3 (okE_snd a c W X _ O TD h6).pe (okE_snd b c W X _ O TD h7).pe (okE_snd d c W X _ O TD h8).pe h3 h4 h5
    · cases h
  | .zip a b, c, W, X, t, e, O, TD, h => by
    unfold okI at h
    split at h
    · simp only [Bool.and_eq_true, decide_eq_true_eq] at h
      obtain ⟨⟨⟨⟨⟨⟨h1, h0⟩, h2⟩, h3⟩, h4⟩, h5⟩, h6⟩ := h
      subst h1
      obtain ⟨g1, g2, g3⟩ := O.bl h2
      cases t <;> first | (cases h0; done) | exact s_itZip O.gK g1 g3 (okE_snd a c W X _ O TD h5).pe (okE_snd b c W X _ O TD h6).pe h3 h4
    · cases h
  | .enum a, c, W, X, t, e, O, TD, h => by
    unfold okI at h
    split at h
    · simp only [Bool.and_eq_true, decide_eq_true_eq] at h
      obtain ⟨⟨⟨⟨h1, h0⟩, h2⟩, h3⟩, h4⟩ := h
      subst h1
      obtain ⟨g1, g2, g3⟩ := O.bl h2
      cases t <;> first | (cases h0; done) | exact s_itEnum O.gK g1 g3 (okE_snd a c W X _ O TD h4).pe h3
    · cases h
end
end
end AP
end
section
/-! AP14: the checker for statements -/
namespace AP
open PySem PySem.Spec PyProof.Rows L2

/-- how a tuple's stores go, by the scope -/
def swN (sc : Scope) (ts : List Expr) : List Str :=
  ts.filterMap fun
    | .Name id pos => if (sc.names.lookup id == some .local && pos.line == (ts.head?.map (·.pos.line)).getD 0) = true then some id else none
    | _ => none
def swC1 (ts vs : List Expr) : Bool := !(ts.length == 2 || ts.length == 3) || vs.length != ts.length || ScopeKind.function != ScopeKind.function
def swC2 (vs : List Expr) : Bool := vs.any fun | .Starred .. => true | _ => false
def swC3 (sc : Scope) (ts : List Expr) : Bool := (swN sc ts).length != ts.length || (swN sc ts).eraseDups.length != (swN sc ts).length
def swB (sc : Scope) (ts vs : List Expr) : Option (Option (List Str)) :=
  if swC1 ts vs = true then some none else if swC2 vs = true then some none else if swC3 sc ts = true then some none else
  if vs.all (foldedForSure 8) = true then some none else if vs.all (constantsAlone 8) = true then none else some (some (swN sc ts))
theorem swB_eq {env : PySem.Env} {ts vs : List Expr} {k1 k2 : Nat} {p1 p2 : Pos} {r : Option (List Str)} (hk : env.scope.kind = .function) (h : swB env.scope ts vs = some r) : swappedStores [.Tuple ts k1 p1] (.Tuple vs k2 p2) env = pure r := by
  have hb : env.blockKind = .function := by unfold Env.blockKind; rw [hk]; rfl
  have e : ∃ z, swappedStores [.Tuple ts k1 p1] (.Tuple vs k2 p2) env = (if swC1 ts vs = true then pure none else if swC2 vs = true then pure none else if swC3 env.scope ts = true then pure none else
    if vs.all (foldedForSure 8) = true then pure none else if vs.all (constantsAlone 8) = true then z else pure (some (swN env.scope ts))) := by
    unfold swappedStores
    simp only [hb]
    exact ⟨_, rfl⟩
  obtain ⟨z, e⟩ := e
  rw [e]
  unfold swB at h
  repeat' split at h
  all_goals first | (cases h; simp only [*, if_true, if_false, Bool.false_eq_true]; done) | (simp_all; done)
def notComp : Expr → Bool
  | .ListComp .. => false | .SetComp .. => false | .DictComp .. => false
  | _ => true
theorem sw_notComp {e : Expr} (h : notComp e = true) : ∀ t l env, swapsWith e t l env = pure false := by
  intro t l env
  cases e <;> first | rfl | cases h
def notName : Expr → Bool
  | .Name .. => false
  | _ => true
theorem sw_notName {t : Expr} (h : notName t = true) : ∀ e l env, swapsWithSole [t] e l env = pure false := by
  intro e l env
  cases t <;> first | (cases e <;> rfl) | cases h
def notTup : Expr → Bool
  | .Tuple .. => false
  | _ => true
theorem sws_notTup {ts : List Expr} {v : Expr} {k : Nat} {p : Pos} (h : notTup v = true) : ∀ env, swappedStores [.Tuple ts k p] v env = pure none := by
  intro env
  cases v <;> first | rfl | cases h
theorem sws_sub {a b v : Expr} {p : Pos} : ∀ env, swappedStores [.Subscript a b p] v env = pure none := by
  intro env
  cases v <;> rfl
/-- whether x = [..] stores within -/
def lcSw (sc : Scope) (x : Str) (p1 : Pos) (v : Expr) : Bool :=
  match v with
  | .ListComp _ _ scope pos => (sc.names.lookup x == some .local) && (p1.line == pos.line) && !(scope.names.any fun (n, k) => n == x && (k == .local || k == .cell))
  | _ => false
theorem lcSw_eq {env : PySem.Env} {x : Str} {p1 pos : Pos} {a : Expr} {gs : List Comprehension} {scope : Scope} (hk : env.scope.kind = .function) (l : Nat) : swapsWith (.ListComp a gs scope pos) (some (.Name x p1)) l env = pure (lcSw env.scope x p1 (.ListComp a gs scope pos)) := by
  have hb : env.blockKind = .function := by unfold Env.blockKind; rw [hk]; rfl
  unfold swapsWith
  simp only [hb]
  rfl
mutual
def okS : Ck → IS → Stmt → Bool
  | c, .asg i e, s => (match s with | .Assign [.Name x _] v _ => okNw c i x && notComp v && okE c e v | _ => false)
  | c, .asgO i e, s => (match s with | .Assign [.Name x p1] v _ => okNw c i x && okE c e v && (notComp v || (match v with | .ListComp .. => (match e with | .comp .. => true | _ => !lcSw c.sc x p1 v) | _ => false)) | _ => false)
  | c, .asgT t e, s => (match s with | .Assign [.Tuple ts k p] v _ => okTg c t (.Tuple ts k p) && okE c e v && (match v with | .Tuple vs _ _ => decide (swB c.sc ts vs = some none) | _ => true) | _ => false)
  | c, .par i j a b oj, s => (match s with
      | .Assign [.Tuple [.Name x px, .Name y py] _ _] (.Tuple [u, v] _ _) _ => okNw c i x && okNw c j y && noStar u && noStar v && okE c a u && okE c b v &&
          (decide (swB c.sc [.Name x px, .Name y py] [u, v] = some none) || (decide (i ≠ j) && decide (c.sc.names.lookup x = some .local) && decide (c.sc.names.lookup y = some .local) && decide (swB c.sc [.Name x px, .Name y py] [u, v] = some (some [x, y]))))
      | _ => false)
  | c, .par3 i j l a b d, s => (match s with
      | .Assign [.Tuple [.Name x px, .Name y py, .Name z pz] _ _] (.Tuple [u, v, w] _ _) _ => okNw c i x && okNw c j y && okNw c l z && noStar u && noStar v && noStar w && okE c a u && okE c b v && okE c d w &&
          decide (i ≠ j) && decide (i ≠ l) && decide (j ≠ l) && decide (c.sc.names.lookup x = some .local) && decide (c.sc.names.lookup y = some .local) && decide (c.sc.names.lookup z = some .local) && decide (swB c.sc [.Name x px, .Name y py, .Name z pz] [u, v, w] = some (some [x, y, z]))
      | _ => false)
  | c, .app i e, s => (match s with | .Expr (.Call (.Attribute (.Name x _) m apos) [v] [] cpos) _ => decide (m = "append") && okNm c i x && noStar v && okE c e v && (apos.endLine == cpos.line) | _ => false)
  | c, .setIx i ix e, s => (match s with | .Assign [.Subscript (.Name x _) y _] v _ => okNm c i x && plainSlice y && okE c e v && okE c ix y | _ => false)
  | c, .expr e, s => (match s with | .Expr v _ => notComp v && okE c e v | _ => false)
  | c, .ifs t a b, s => (match s with | .If x y z _ => okE c t x && okSs c a y && okSs c b z | _ => false)
  | c, .forS tg it body, s => (match s with | .For t iter b [] _ => okI c it t iter && okTg c tg t && notSet iter && okSs c body b | _ => false)
  | c, .whileS t body, s => (match s with | .While x b [] _ => okE c t x && okSs c body b | _ => false)
  | c, .ret e, s => (match s with | .Return (some v) _ => okE c e v | _ => false)
  | c, .retN, s => (match s with | .Return none _ => true | _ => false)
  | c, .raise cl, s => (match s with | .Raise (some (.Call (.Name x _) [.Constant (.str m) _ _] [] _)) none _ => decide (c.G[cl]? = some x) && okGl c x && c.EX.contains cl | _ => false)
  | c, .brk, s => (match s with | .Break _ => true | _ => false)
  | c, .cont, s => (match s with | .Continue _ => true | _ => false)
  | c, .pass, s => (match s with | .Pass _ => true | .Expr (.Constant (.str _) _ _) _ => true | _ => false)
def okSs : Ck → ISs → List Stmt → Bool
  | c, .nil, ss => ss.isEmpty
  | c, .cons s r, ss => (match ss with | t :: ts => okS c s t && okSs c r ts | _ => false)
end
/-- what is known in a def's own statements -/
structure SOk (p : Pa) (c : Ck) (ft : FT) (k : Nat) (W : WX) (X : Cx) : Prop where
  x : XOk p c ft k W X
  sc : X.env.scope = c.sc
  po : PassesOwn (model X.prog X.w) X.A X.env X.xe
  td : ToldAll p c ft k X
section
variable {p : Pa} {ft : FT} {k fuel : Nat}
theorem excAt_mk {X : Cx} {C : Addr} {x m : Str} {j : Nat} {p1 p2 pos : Pos} (h : ExcAt X.K C) (hm : X.mg x = some (.ref C)) (hg : Gl X x) (hd : (x == ("__debug__" : Str)) = false) : L2N.PMk X (.Call (.Name x p1) [.Constant (.str m) j p2] [] pos) (fun _ H Q => Q (.ref C) none H) := by
  obtain ⟨B, newId, initId, bmB, F, q, kC, h1, h2⟩ := h
  exact L2N.pmk_own F q hm kC (raises_own h1 h2) hg hd
mutual
theorem okS_snd : ∀ (s : IS) (c : Ck) (W : WX) (X : Cx) (st : Stmt), SOk p c ft k W X → okS c s st = true → PS X st (tS p W (evS ft fuel s))
  | .asg i e, c, W, X, st, O, h => by
    unfold okS at h
    split at h
    · simp only [Bool.and_eq_true] at h
      exact st_set (O.x.nw h.1.1) (okE_snd e c W X _ O.x O.td h.2).pe (sw_notComp h.1.2 _ _ _)
    · cases h
  | .asgO i e, c, W, X, st, O, h => by
    unfold okS at h
    split at h
    · rename_i x p1 v pos
      simp only [Bool.and_eq_true, Bool.or_eq_true] at h
      obtain ⟨⟨h1, h2⟩, h3⟩ := h
      rcases h3 with h3 | h3
      · exact st_setO (O.x.nw h1) (okE_snd e c W X _ O.x O.td h2).pe (sw_notComp h3 _ _ _)
      · split at h3
        · rename_i a gs scope pos2
          by_cases hl : lcSw c.sc x p1 (.ListComp a gs scope pos2) = true
          · split at h3
            · rename_i elt tg it cond own
              have sw : swapsWith (.ListComp a gs scope pos2) (some (.Name x p1)) pos.line X.env = pure true := by
                rw [lcSw_eq O.x.kind, O.sc, hl]
              have hxl : X.env.scope.names.lookup x = some .local := by
                unfold lcSw at hl
                simp only [Bool.and_eq_true] at hl
                rw [O.sc]
                exact eq_of_beq hl.1.1
              unfold okE at h2
              split at h2
              · rename_i x2 t iter ifs scope2 pos3 ee
                cases ee
                simp only [Bool.and_eq_true] at h2
                obtain ⟨⟨⟨⟨⟨⟨h1', h2'⟩, h3'⟩, h4'⟩, h5'⟩, h6'⟩, h7'⟩ := h2
                have ok := O.x.blkOk h1'
                have es := ownOf_snd c own
                have OB := O.x.blk (scope := scope) ok.kind
                have hix : ∀ i ∈ tgIx tg, i ∈ (ownOf c own).map (·.2) := fun i hi => by
                  rw [es]
                  simpa using List.all_eq_true.mp h2' i hi
                have q := st_setLc (pos := pos) (fc := evO ft cond) (fe := evO ft elt) (O.x.nw h1) hxl O.x.calm sw (okI_snd it c W X t iter O.x O.td h3') ok hix (fun s H C cl fp => okTg_snd (OB s H C cl fp) tg t h4')
                  (ifs := ifs) (fun s H C cl fp => by
                    split at h7'
                    · split at h7'
                      · exact s_ptsNil
                      · cases h7'
                    · exact pts_one (okE_snd cond _ W0 _ _ (OB s H C cl fp) (O.td.blk s H C cl fp) h7').pt
                    · cases h7')
                  (fun s H C cl fp => (okE_snd elt _ W0 _ _ (OB s H C cl fp) (O.td.blk s H C cl fp) h6').pe) (notSet_fold h5' _)
                rw [es] at q
                exact q
              · cases h2
            · rw [hl] at h3; cases h3
          · have sw : swapsWith (.ListComp a gs scope pos2) (some (.Name x p1)) pos.line X.env = pure false := by
              rw [lcSw_eq O.x.kind, O.sc]
              rw [Bool.not_eq_true] at hl
              rw [hl]
            exact st_setO (O.x.nw h1) (okE_snd e c W X _ O.x O.td h2).pe sw
        · cases h3
    · cases h
  | .asgT t e, c, W, X, st, O, h => by
    unfold okS at h
    split at h
    · rename_i ts kk p1 v pos
      simp only [Bool.and_eq_true] at h
      obtain ⟨⟨h1, h2⟩, h3⟩ := h
      refine st_asgT (okTg_snd O.x t _ h1) (okE_snd e c W X _ O.x O.td h2).pe (sw_notName rfl _ _ _) ?_ rfl
      split at h3
      · rename_i vs k2 p2
        exact swB_eq O.x.kind (by rw [O.sc]; exact of_decide_eq_true h3)
      · rename_i hn
        refine sws_notTup ?_ _
        cases v <;> first | rfl | exact absurd rfl (hn _ _ _)
    · cases h
  | .par i j a b oj, c, W, X, st, O, h => by
    unfold okS at h
    split at h
    · simp only [Bool.and_eq_true, Bool.or_eq_true, decide_eq_true_eq] at h
      obtain ⟨⟨⟨⟨⟨⟨h1, h2⟩, h3⟩, h4⟩, h5⟩, h6⟩, h7⟩ := h
      have ha := (okE_snd a c W X _ O.x O.td h5).pe
      have hb := (okE_snd b c W X _ O.x O.td h6).pe
      rcases h7 with h7 | ⟨⟨⟨k1, k2⟩, k3⟩, k4⟩
      · exact st_parG O.x.calm (O.x.nw h1) (O.x.nw h2) ha hb h3 h4 (swB_eq O.x.kind (by rw [O.sc]; exact h7))
      · exact st_par O.x.calm (O.x.nw h1) (O.x.nw h2) (by rw [O.sc]; exact k2) (by rw [O.sc]; exact k3) ha hb k1 h3 h4 (swB_eq O.x.kind (by rw [O.sc]; exact k4))
    · cases h
  | .par3 i j l a b d, c, W, X, st, O, h => by
    unfold okS at h
    split at h
    · simp only [Bool.and_eq_true, decide_eq_true_eq] at h
      obtain ⟨⟨⟨⟨⟨⟨⟨⟨⟨⟨⟨⟨⟨⟨⟨h1, h2⟩, h3⟩, h4⟩, h5⟩, h6⟩, h7⟩, h8⟩, h9⟩, k1⟩, k2⟩, k3⟩, k4⟩, k5⟩, k6⟩, k7⟩ := h
      exact st_par3 O.x.calm (O.x.nw h1) (O.x.nw h2) (O.x.nw h3) (by rw [O.sc]; exact k4) (by rw [O.sc]; exact k5) (by rw [O.sc]; exact k6) (okE_snd a c W X _ O.x O.td h7).pe (okE_snd b c W X _ O.x O.td h8).pe (okE_snd d c W X _ O.x O.td h9).pe k1 k2 k3 h4 h5 h6 (swB_eq O.x.kind (by rw [O.sc]; exact k7))
    · cases h
  | .app i e, c, W, X, st, O, h => by
    unfold okS at h
    split at h
    · simp only [Bool.and_eq_true, decide_eq_true_eq] at h
      obtain ⟨⟨⟨⟨h1, h2⟩, h3⟩, h4⟩, h5⟩ := h
      subst h1
      exact st_app (O.x.nm h2) (okE_snd e c W X _ O.x O.td h4).pe h3 h5
    · cases h
  | .setIx i ix e, c, W, X, st, O, h => by
    unfold okS at h
    split at h
    · simp only [Bool.and_eq_true] at h
      obtain ⟨⟨⟨h1, h2⟩, h3⟩, h4⟩ := h
      exact st_setIx (O.x.nm h1) (okE_snd e c W X _ O.x O.td h3).pe (okE_snd ix c W X _ O.x O.td h4).pe h2 (sw_notName rfl _ _ _) (sws_sub _)
    · cases h
  | .expr e, c, W, X, st, O, h => by
    unfold okS at h
    split at h
    · simp only [Bool.and_eq_true] at h
      exact st_expr (okE_snd e c W X _ O.x O.td h.2).pe (sw_notComp h.1 _ _ _)
    · cases h
  | .ifs t a b, c, W, X, st, O, h => by
    unfold okS at h
    split at h
    · simp only [Bool.and_eq_true] at h
      exact st_if (okE_snd t c W X _ O.x O.td h.1.1).pt (okSs_snd a c W X _ O h.1.2) (okSs_snd b c W X _ O h.2)
    · cases h
  | .forS tg it body, c, W, X, st, O, h => by
    unfold okS at h
    split at h
    · simp only [Bool.and_eq_true] at h
      obtain ⟨⟨⟨h1, h2⟩, h3⟩, h4⟩ := h
      exact st_for O.po O.x.calm (okI_snd it c W X _ _ O.x O.td h1) (okTg_snd O.x tg _ h2) (okSs_snd body c W X _ O h4) (notSet_fold h3 _)
    · cases h
  | .whileS t body, c, W, X, st, O, h => by
    unfold okS at h
    split at h
    · simp only [Bool.and_eq_true] at h
      exact st_while O.po (okE_snd t c W X _ O.x O.td h.1).pt (okSs_snd body c W X _ O h.2)
    · cases h
  | .ret e, c, W, X, st, O, h => by
    unfold okS at h
    split at h
    · rename_i v pos
      by_cases hv : ∃ i, e = .var i
      · obtain ⟨i, rfl⟩ := hv
        obtain ⟨x, p1, rfl, n⟩ := var_of O.x h i rfl
        exact st_retV n
      · have q := st_ret (pos := pos) (okE_snd e c W X _ O.x O.td h).pe
        refine PS.imp q fun D σ H hh => ?_
        have e1 : evS ft fuel (.ret e) = fun ρ => (evO ft e ρ).st fun v ρ => .ret v ρ := by
          funext ρ
          cases e with
          | var i => exact absurd ⟨i, rfl⟩ hv
          | _ => rfl
        rw [e1] at hh
        exact hh
    · cases h
  | .retN, c, W, X, st, O, h => by
    unfold okS at h
    split at h
    · exact st_retN
    · cases h
  | .raise cl, c, W, X, st, O, h => by
    unfold okS at h
    split at h
    · simp only [Bool.and_eq_true, decide_eq_true_eq] at h
      obtain ⟨⟨h1, h2⟩, h3⟩ := h
      obtain ⟨g1, g2⟩ := O.x.gl h2
      obtain ⟨C, hC⟩ := O.x.gf _ (List.mem_of_getElem? h1)
      have ex := O.x.exs cl _ C (by simpa using h3) h1 hC
      exact st_raise O.x.calm O.x.tk ⟨_, by rw [O.x.gG]; exact h1, by rw [O.x.gm]; exact hC⟩ (excAt_mk ex hC g1 g2)
    · cases h
  | .brk, c, W, X, st, O, h => by
    unfold okS at h
    split at h
    · exact st_brk
    · cases h
  | .cont, c, W, X, st, O, h => by
    unfold okS at h
    split at h
    · exact st_cont
    · cases h
  | .pass, c, W, X, st, O, h => by
    unfold okS at h
    split at h
    · exact st_pass
    · exact st_doc
    · cases h
theorem okSs_snd : ∀ (s : ISs) (c : Ck) (W : WX) (X : Cx) (st : List Stmt), SOk p c ft k W X → okSs c s st = true → PSs X st (tS p W (evSs ft fuel s))
  | .nil, c, W, X, st, O, h => by
    unfold okSs at h
    have : st = [] := by simpa using h
    subst this
    exact ps_nil
  | .cons s r, c, W, X, st, O, h => by
    unfold okSs at h
    split at h
    · simp only [Bool.and_eq_true] at h
      exact ps_seq (okS_snd s c W X _ O h.1) (okSs_snd r c W X _ O h.2)
    · cases h
end
end
end AP
end
section
set_option maxHeartbeats 2000000
/-! AQ7: a closure keeps its promise in any frame -/
namespace AP
open PySem PySem.Spec PyProof.Rows L2 LamX

/-- slots of data, with what holds of each value -/
def Good (g : Glb) (F : Hp) (Φ : Nat → V → Prop) (ρ : Env) (σ : St) : Prop := ρ.length = σ.length ∧ ∀ (i : Nat) s, ρ[i]? = some s → (s = .no ∧ σ[i]? = some none) ∨ ∃ d z, s = .dat d ∧ σ[i]? = some (some z) ∧ Rep g F z d ∧ Φ i z
theorem Good.set {g : Glb} {F : Hp} {Φ : Nat → V → Prop} {ρ : Env} {σ : St} (G : Good g F Φ ρ σ) {i : Nat} {d : D} {z : V} (r : Rep g F z d) (f : Φ i z) : Good g F Φ (ρ.set i (.dat d)) (σ.set i (some z)) := by
  refine ⟨by rw [List.length_set, List.length_set]; exact G.1, fun j s e => ?_⟩
  by_cases h : i = j
  · subst h
    have hl : i < ρ.length := by
      have := (List.getElem?_eq_some_iff.mp e).1
      rwa [List.length_set] at this
    rw [List.getElem?_set_self hl] at e
    cases e
    exact .inr ⟨d, z, rfl, List.getElem?_set_self (G.1 ▸ hl), r, f⟩
  · rw [List.getElem?_set_ne h] at e ⊢
    exact G.2 j s e
theorem Good.caps {g : Glb} {F : Hp} {Φ : Nat → V → Prop} : ∀ {cs : List (Nat × D)} {ρ : Env} {σ : St}, Good g F Φ ρ σ → (∀ q ∈ cs, ∃ z, Rep g F z q.2 ∧ Φ q.1 z) → ∃ σ', Good g F Φ (cs.foldl (fun ρ q => ρ.set q.1 (.dat q.2)) ρ) σ'
  | [], ρ, σ, G, _ => ⟨σ, G⟩
  | q :: r, ρ, σ, G, h => by
    obtain ⟨z, hz, fz⟩ := h q List.mem_cons_self
    exact Good.caps (cs := r) (ρ := ρ.set q.1 (.dat q.2)) (G.set hz fz) fun q' hq => h q' (List.mem_cons_of_mem _ hq)
theorem foldl_len : ∀ {cs : List (Nat × D)} {ρ : Env}, (cs.foldl (fun ρ q => ρ.set q.1 (.dat q.2)) ρ).length = ρ.length
  | [], ρ => rfl
  | q :: r, ρ => by
    show (r.foldl _ (ρ.set q.1 (.dat q.2))).length = _
    rw [foldl_len, List.length_set]
theorem CloH.up {F H : Hp} {f : Addr} {qual : Str} {params : Arguments} {body : Expr} {scope : Scope} {cells : List (Str × Addr)} (e : Ext F H) (C : CloH F f qual params body scope cells) : CloH H f qual params body scope cells := by
  obtain ⟨c', pm, ctv, h1, h2⟩ := C.ex
  refine ⟨⟨c', pm, ctv, e _ _ h1, e _ _ h2⟩, C.inj, fun q hq => ?_, C.has⟩
  obtain ⟨u, o, h3, h4⟩ := C.cel q hq
  exact ⟨u, o, e _ _ h3, h4⟩
theorem oneArg_bind {q : Str} {body : Expr} {scope : Scope} {cl : List (Str × Addr)} {pm cv ctv u : Value} {args : Arguments} {y : Str} (h : oneArg args = some y) : bindArgs (PySem.W.kla_fn "<lambda>" q args body scope cl pm cv ctv) ⟨[u], []⟩ = pure [(y, u)] := by
  unfold oneArg at h
  split at h
  · cases h
    simp [bindArgs, PySem.W.kla_fn, List.lookup_cons, show seqItems? Value.none = pure none from rfl]
  · cases h
section
variable {p : Pa} {P : Program} {w : World} {K : PySem.W.Frag} {mg : Str → Option Value} {base : Heap} {k : Nat} {ft : FT}
theorem clAt_zero : ClAt p P w K mg base k (fun _ _ => .stuck) :=
  ⟨fun c f A outer s H u v Q E Fz d _ _ _ _ _ _ _ _ pf => pf.elim, fun c as h => absurd rfl h⟩
/-- behind a closure's body: with the cells again -/
theorem after_rs {C : List Addr} {H Fz Fz' H' : Hp} {ρ : Env} {σ : St} (ext : Ext Fz H) (e1 : Ext (wo C Fz) Fz') (S : StRep { p with F0 := wo C Fz } (wo C H) [] Fz' ρ σ H') (fr : ∀ c ∈ C, H' c = none) (ntb : ∀ a o, Fz a = some o → NoTb o) :
    After p.g p.TI Fz H [] (rs C Fz (dr (wo C Fz) Fz')) (rs C H H') [] ∧ ∀ x d, Rep p.g Fz' x d → Rep p.g (rs C Fz (dr (wo C Fz) Fz')) x d := by
  refine ⟨⟨fun a o h => ?_, fun a o h => ?_, p.tmono _ _ (fun a o h => ?_) S.tab, fun a o h => ?_, fun a o h _ n => ?_, fun a o h => ?_, fun a o h => ?_, .nil⟩, fun x d r => Rep.extD (fun a o h n => ?_) _ _ r⟩
  · by_cases ha : a ∈ C
    · rw [rs_in ha]; exact h
    · rw [rs_ne ha]; exact dr_ext e1 a o (by rw [wo_ne ha]; exact h)
  · by_cases ha : a ∈ C
    · rw [rs_in ha] at h ⊢; exact ext a o h
    · rw [rs_ne ha] at h ⊢; exact S.ext a o (dr_sub e1 a o h)
  · have ha : a ∉ C := fun z => by rw [fr a z] at h; cases h
    rw [rs_ne ha]; exact h
  · by_cases ha : a ∈ C
    · rw [rs_in ha] at h; exact ntb a o h
    · rw [rs_ne ha] at h; exact S.ntb a o (dr_sub e1 a o h)
  · by_cases ha : a ∈ C
    · rw [rs_in ha]; exact h
    · rw [rs_ne ha]; exact S.base a o (by rw [wo_ne ha]; exact h) List.not_mem_nil n
  · by_cases ha : a ∈ C
    · rw [rs_in ha]; exact ⟨o, h⟩
    · rw [rs_ne ha]; exact S.tbs a o (by rw [wo_ne ha]; exact h)
  · by_cases ha : a ∈ C
    · rw [rs_in ha] at h; exact .inl h
    · rw [rs_ne ha] at h
      rcases dr_cases e1 h with z | ⟨z, n⟩
      · rw [wo_ne ha] at z; exact .inl z
      · rcases S.old a o z with k | k | ⟨φ, k⟩
        · have k : wo C Fz a = some o := k
          rw [wo_ne ha] at k; exact .inl k
        · rw [wo_ne ha] at k; exact .inr k
        · exact absurd k (n φ)
  · have ha : a ∉ C := fun z => by have := S.ext a o h; rw [fr a z] at this; cases this
    rw [rs_ne ha]; exact dr_extD a o h n
theorem clAt_succ (hcp : ∀ F v q, p.CP F v q → CloSt p.g F v q) (hK : p.g.K = K) (hm : p.g.mg = mg) (fns : ∀ f, ft.dom f = true → FnAt p P w K mg base k f (ft.fn f)) (cls : ClAt p P w K mg base k ft.cl) : ClAt p P w K mg base (k + 1) (clF ft) := by
  refine ⟨fun cl f A outer s H u v Q E Fz d hr e0 hv hc ext tab ntb hd pf => ?_, fun cl as h => ?_⟩
  case refine_2 =>
    cases cl with
    | mk ns y body cs =>
      unfold clF at h
      split at h
      · exact ⟨_, rfl⟩
      · exact absurd rfl h
  obtain ⟨ns, y, body, cs⟩ := cl
  obtain ⟨f0, qual, nm, params, e, scope, cells, c, hfe, CL, LP, hoa, hok, hsc, hTL, hEX, hLV, hns, hy, nd, gG, blt, gi, gt, gf, hcaps⟩ := hcp _ _ _ hc
  cases hfe
  subst hK hm hsc
  have CH := CL.up ext
  let C := cells.map (·.2)
  have celF : ∀ a ∈ C, ∃ u, CelAt Fz a u := fun a ha => by
    obtain ⟨q, hq, rfl⟩ := List.mem_map.mp ha
    exact CL.cel q hq
  have woD : ExtD Fz (wo C Fz) := fun a o h n => by
    have ha : a ∉ C := fun z => by
      obtain ⟨u, o', h1, _⟩ := celF a z
      rw [h1] at h
      cases h
      exact n _ rfl
    rw [wo_ne ha]; exact h
  have woE : Ext (wo C Fz) (wo C H) := fun a o h => by
    have ha : a ∉ C := fun z => by rw [wo_in z] at h; cases h
    rw [wo_ne ha] at h ⊢
    exact ext a o h
  -- the start
  have G0 : Good p.g (wo C Fz) (fun i z => ∃ x, c.N[i]? = some x ∧ ((x = nm ∧ z = v) ∨ (c.sc.names.lookup x = some .free ∧ ∃ a uz, cells.lookup x = some a ∧ CelAt H a uz ∧ RelV z uz))) (List.replicate ns .no) (List.replicate ns none) := by
    refine ⟨by simp, fun i s h => ?_⟩
    obtain ⟨h1, h2⟩ := List.getElem?_eq_some_iff.mp h
    rw [List.length_replicate] at h1
    refine .inl ⟨by rw [← h2, List.getElem_replicate], ?_⟩
    rw [List.getElem?_eq_getElem (by rw [List.length_replicate]; exact h1), List.getElem_replicate]
  obtain ⟨σ1, G1⟩ := G0.caps (cs := cs) fun q hq => by
    obtain ⟨x, a, uz, z, h1, h2, h3, ⟨o, h4, h5⟩, h6, h7⟩ := hcaps q hq
    exact ⟨z, Rep.extD woD _ _ h7, x, h1, .inr ⟨h2, a, uz, h3, ⟨o, ext _ _ h4, h5⟩, h6⟩⟩
  have G2 := G1.set (i := y) (Rep.extD woD _ _ hd) ⟨nm, hy, .inl ⟨rfl, rfl⟩⟩
  have hlen : (σ1.set y (some v)).length = c.N.length := by
    rw [← G2.1, List.length_set, foldl_len, List.length_replicate, hns]
  have S0 : StRep { p with F0 := wo C Fz } (wo C H) [] (wo C Fz) (cloEnv ns y cs d) (σ1.set y (some v)) (wo C H) := by
    have nomut : ∀ i : Nat, isMut (cloEnv ns y cs d)[i]? = true → False := fun i hi => by
      cases h : (cloEnv ns y cs d)[i]? with
      | none => rw [h] at hi; cases hi
      | some s =>
        rw [h] at hi
        rcases G2.2 i s h with ⟨rfl, _⟩ | ⟨d', z, rfl, _⟩ <;> cases hi
    refine ⟨woE, fun a o h _ _ => h, fun i s h => ?_, fun i j a _ mi => (nomut i mi).elim, G2.1, fun a h => absurd h List.not_mem_nil, p.tcel _ _ (fun a ha => ?_) tab, fun a o h => ⟨o, h⟩, fun a o h => ?_, fun a o h => .inl h, Ext.refl _⟩
    · rcases G2.2 i s h with ⟨rfl, _⟩ | ⟨d', z, rfl, h1, h2, _⟩
      · trivial
      · exact ⟨z, h1, h2⟩
    · obtain ⟨uz, o, h1, h2⟩ := celF a ha
      exact ⟨o, _, ext _ _ h1, h2, _, funO_is e0.hok (ext _ _ h1)⟩
    · have ha : a ∉ C := fun z => by rw [wo_in z] at h; cases h
      rw [wo_ne ha] at h; exact ntb a o h
  refine clo_run (N := c.N) (tb := tD { p with F0 := wo C Fz } (cloCx P w p.g.K p.g.mg base c.N A outer s (wo C H) (fun cls d H' => (∀ a ∈ C, H' a = none) → E cls d (rs C H H')) qual c.sc f 0 cells) (fun cls d _ H' => (∀ a ∈ C, H' a = none) → E cls d (rs C H H')) (fun ρ => frz (evO ft body ρ))) e0 hr LP CH (fun pm cv ctv => oneArg_bind hoa) hv hlen (fun i x z h1 h2 _ => ?_) (fun c' hr' => ?_) ?_
  · have hi : i < (cloEnv ns y cs d).length := by
      rw [show (cloEnv ns y cs d).length = (σ1.set y (some v)).length from G2.1]
      exact (List.getElem?_eq_some_iff.mp h2).1
    rcases G2.2 i _ (List.getElem?_eq_getElem hi) with ⟨_, h3⟩ | ⟨d', z', _, h3, _, x', h4, h5⟩
    · rw [h2] at h3; cases h3
    · rw [h2] at h3; cases h3
      rw [h1] at h4; cases h4
      exact h5
  · have O : XOk { p with F0 := wo C Fz } c ft k (fun cls d _ H' => (∀ a ∈ C, H' a = none) → E cls d (rs C H H')) (cloCx P w p.g.K p.g.mg base c.N A outer s (wo C H) (fun cls d H' => (∀ a ∈ C, H' a = none) → E cls d (rs C H H')) qual c.sc f c' cells) := by
      refine ⟨rfl, nd, fun x q e => ⟨fun _ => e, fun z => .inl (by subst z; exact e)⟩, fun x e => absurd rfl (LP.nocell _ (PySem.mem_of_lookup e)), LP.kind, rfl, rfl, rfl, gG, hr', blt, gi, gt, gf, L2N.takes_of rfl rfl rfl rfl, fun f hf => ?_, ?_, fun cl y C hcl => by rw [hEX] at hcl; exact absurd hcl List.not_mem_nil⟩
      · obtain ⟨x, a, fd, ps, h1, h2, h3, h4, h5, h6, h7⟩ := fns f hf
        exact ⟨x, a, fd, ps, h1, h2, h3, h4, h5, h6, h7⟩
      · exact ⟨cls.run, cls.one⟩
    exact s_frz (okE_snd body c _ _ e O (ToldAll.nil hTL hLV) hok).pe
  · refine ⟨wo C H, [], wo C Fz, cloEnv ns y cs d, S0, ?_⟩
    change PostF p Fz H [] Q E (match frz (evO ft body (cloEnv ns y cs d)) with
      | .ok r _ => .ret (.dat r) []
      | .exc c _ => .exc c []
      | .stuck => .stuck) at pf
    show Post _ _ _ _ _ _ _ _ _ (frz (evO ft body (cloEnv ns y cs d)))
    generalize frz (evO ft body (cloEnv ns y cs d)) = r at pf ⊢
    cases r with
    | ok r ρ' =>
      refine fun x Fz' H' e1 S' rr => fun hfr => ?_
      obtain ⟨A2, rx⟩ := after_rs ext e1 S' hfr ntb
      exact pf x _ _ A2 (rx _ _ rr)
    | exc c ρ' =>
      refine fun Fz' H' CC e1 S' hC => fun hfr => ?_
      obtain ⟨A2, rx⟩ := after_rs ext e1 S' hfr ntb
      exact pf _ _ CC A2 hC
    | stuck => exact pf.elim
end
end AP
end
section
/-! AP15: the defs of a text -/
namespace AP
open PySem PySem.Spec PyProof.Rows L2

/-- what a text's checks lean on -/
structure GlbOk (p : Pa) (K : PySem.W.Frag) (mg : Str → Option Value) (c : Ck) : Prop where
  gK : p.g.K = K
  gm : p.g.mg = mg
  gG : p.g.G = c.G
  blt : ∀ x, x ∈ c.Bl → mg x = none
  gi : ∀ x i, (x, i) ∈ c.GI → ∃ t, mg x = some (.int i t)
  gt : ∀ x is, (x, is) ∈ c.GT → ∃ a, mg x = some (.ref a) ∧ ∀ Fz, SqT K Fz a (is.map V.int)
  gf : ∀ x, x ∈ c.G → ∃ a, mg x = some (.ref a)
  exs : ∀ cl x C, cl ∈ c.EX → c.G[cl]? = some x → mg x = some (.ref C) → ExcAt K C
abbrev Lv (n : Nat) : Nat := 3 * n
section
variable {p : Pa} {P : Program} {w : World} {K : PySem.W.Frag} {mg : Str → Option Value} {base : Heap}
theorem xok_def {c : Ck} {ft : FT} {k : Nat} {N ps : List Str} {qual : Str} {scope : Scope} {f : Addr} {cdv : Value} {A : Around} {outer : List PySem.Env} {s : Shared} {H F0 : Hp} {E : XK} (G : GlbOk p K mg c) (S : FnScope N ps scope) (hN : c.N = N) (hsc : c.sc = scope)
    (hr : Room k (A.deeper (envOfC qual scope s.heap.objs.size f cdv))) (fns : ∀ f, ft.dom f = true → FnAt p P w K mg base k f (ft.fn f)) (cls : ClAt p P w K mg base k ft.cl) :
    XOk { p with F0 := F0 } c ft k (fun cls d _ H => E cls d H) (cxOf (L2N.CX P w) P w K mg base N qual scope f cdv A outer s H E) := by
  subst hN hsc
  refine ⟨rfl, S.nd, fun x q e => ⟨fun _ => e, fun z => .inl (by subst z; exact e)⟩, fun _ _ => rfl, S.kind, rfl, G.gK, G.gm, G.gG, hr, G.blt, G.gi, G.gt, G.gf, L2N.takes_of rfl rfl rfl rfl, fun f hf => ?_, ⟨cls.run, cls.one⟩, G.exs⟩
  obtain ⟨x, a, fd, ps, h1, h2, h3, h4, h5, h6, h7⟩ := fns f hf
  exact ⟨x, a, fd, ps, h1, h2, h3, h4, h5, h6, h7⟩
theorem ftAt_dom {fns : Nat → Option FnD} {told : Nat → D ⊕ Nat → Option D} {fuel : Nat} : ∀ n f, (ftAt fns told fuel n).dom f = (fns f).isSome
  | 0, _ => rfl
  | _ + 1, _ => rfl
theorem ftAt_told {fns : Nat → Option FnD} {told : Nat → D ⊕ Nat → Option D} {fuel : Nat} : ∀ n, (ftAt fns told fuel n).told = told
  | 0 => rfl
  | _ + 1 => rfl
theorem ftAt_fn {fns : Nat → Option FnD} {told : Nat → D ⊕ Nat → Option D} {fuel : Nat} {f : Nat} {d : FnD} (n : Nat) (h : fns f = some d) : (ftAt fns told fuel (n + 1)).fn f = runFn (ftAt fns told fuel n) fuel d := by
  funext as
  show (match fns f with | some fd => runFn (ftAt fns told fuel n) fuel fd as | none => .stuck) = _
  rw [h]
/-- a def as the text has it, its slots' code, its checks -/
structure DefOk (p : Pa) (P : Program) (w : World) (K : PySem.W.Frag) (mg : Str → Option Value) (base : Heap) (fns : Nat → Option FnD) (told : Nat → D ⊕ Nat → Option D) (fuel : Nat) (f : Nat) (d : FnD) : Prop where
  ex : ∃ (d0 : He.DefD) (fd : FuncData) (ps : List Str) (c : Ck), p.g.G[f]? = some d0.at_.1 ∧ mg d0.at_.1 = some (.ref (He.fAd K d0.at_)) ∧ FunD K d0.name d0.qual d0.params d0.body d0.scope [] [] (He.fAd K d0.at_) fd ∧ L2.Binds K fd ps [] ∧ FnScope c.N ps d0.scope ∧
    d.ns = c.N.length ∧ d.np = ps.length ∧ c.sc = d0.scope ∧ GlbOk p K mg c ∧ okSs c d.body d0.body = true ∧
    ∀ (F0 : Hp) (n : Nat) (A : Around) (outer : List PySem.Env) (s : Shared) (H : Hp) (E : XK), Room (Lv n + 2) (A.deeper (envOfC d0.qual d0.scope s.heap.objs.size (He.fAd K d0.at_) (.ref (He.codeOf K d0.at_)))) →
      XOk { p with F0 := F0 } c (ftAt fns told fuel n) (Lv n) (fun cls d _ H => E cls d H) (cxOf (L2N.CX P w) P w K mg base c.N d0.qual d0.scope (He.fAd K d0.at_) (.ref (He.codeOf K d0.at_)) A outer s H E) →
      ToldAll { p with F0 := F0 } c (ftAt fns told fuel n) (Lv n) (cxOf (L2N.CX P w) P w K mg base c.N d0.qual d0.scope (He.fAd K d0.at_) (.ref (He.codeOf K d0.at_)) A outer s H E)
theorem runFn_len {ft : FT} {fuel : Nat} {d : FnD} {as : List Arg} : (∀ v ms, runFn ft fuel d as = .ret v ms → as.length = d.np) ∧ ∀ v ms, runFn ft fuel d as = .exc v ms → as.length = d.np := by
  unfold runFn
  by_cases h : as.length = d.np ∧ d.np ≤ d.ns
  · exact ⟨fun _ _ _ => h.1, fun _ _ _ => h.1⟩
  · rw [if_neg h]
    exact ⟨fun _ _ z => (by cases z), fun _ _ z => (by cases z)⟩
theorem ClAt.up {F : Clo → List Arg → FRes} {k j : Nat} (h : k ≤ j) (C : ClAt p P w K mg base k F) : ClAt p P w K mg base j F :=
  ⟨fun c f A outer s H u v Q E Fz d hr => C.run c f A outer s H u v Q E Fz d (hr.mono h), C.one⟩
/-- every def of the text keeps its promise, at any depth of calls; every closure too -/
theorem defs_both {fns : Nat → Option FnD} {told : Nat → D ⊕ Nat → Option D} {fuel : Nat} (ok : ∀ f d, fns f = some d → DefOk p P w K mg base fns told fuel f d) (hcp : ∀ F v q, p.CP F v q → CloSt p.g F v q) (hK : p.g.K = K) (hmg : p.g.mg = mg) :
    ∀ (n : Nat), (∀ (f : Nat) (d : FnD), fns f = some d → FnAt p P w K mg base (Lv n) f ((ftAt fns told fuel n).fn f)) ∧ ClAt p P w K mg base (Lv n) (ftAt fns told fuel n).cl
  | 0 => by
    refine ⟨fun f d h => ?_, clAt_zero⟩
    obtain ⟨d0, fd, ps, c, hG, hm, F, hb, S, h1, h2, h3, G, hs, td⟩ := (ok f d h).ex
    refine ⟨d0.at_.1, _, fd, ps, hG, hm, F.kp, hb, ⟨spF_len, fun A outer s H args us vs Q E hr he hb hv hsp => ?_⟩, fun as v ms z => (by cases z), fun as v ms z => (by cases z)⟩
    obtain ⟨Fz, as, _, _, _, _, _, _, hF⟩ := hsp
    exact False.elim hF
  | n + 1 => by
    have ihb := defs_both ok hcp hK hmg n
    have ih := ihb.1
    have fnsN : ∀ g, (ftAt fns told fuel n).dom g = true → FnAt p P w K mg base (Lv n) g ((ftAt fns told fuel n).fn g) := fun g hg => by
      rw [ftAt_dom] at hg
      obtain ⟨dg, hdg⟩ := Option.isSome_iff_exists.mp hg
      exact ih g dg hdg
    refine ⟨fun f d h => ?_, (clAt_succ hcp hK hmg fnsN ihb.2).up (by show 3 * n + 1 ≤ 3 * (n + 1); omega)⟩
    obtain ⟨d0, fd, ps, c, hG, hm, F, hb, S, h1, h2, h3, G, hs, td⟩ := (ok f d h).ex
    rw [ftAt_fn n h]
    refine ⟨d0.at_.1, _, fd, ps, hG, hm, F.kp, hb, ?_, fun as v ms z => (by rw [← h2]; exact runFn_len.1 v ms z), fun as v ms z => (by rw [← h2]; exact runFn_len.2 v ms z)⟩
    obtain ⟨oc, od, dV, kV, doc, pm, an, cdv, ct, osl, rfl, lk, hcd, _, _⟩ := F.ex
    obtain ⟨c0, rfl⟩ := He.codeIn_ref hcd
    have ec : He.codeOf K d0.at_ = c0 := He.codeOf_eq lk rfl
    subst ec
    refine FnOk.mono (j := (Lv n + 2) + 1) (fn_of lk hcd S spF_len fun A outer s H vs Q E hr hsp => ?_) (by show 3 * n + 2 + 1 ≤ 3 * (n + 1); omega)
    obtain ⟨F0, hr2⟩ := fn_read h1 hsp
    refine ⟨_, ?_, hr2⟩
    have xo := xok_def (P := P) (w := w) (base := base) (qual := d0.qual) (f := He.fAd K d0.at_) (cdv := .ref (He.codeOf K d0.at_)) (A := A) (outer := outer) (s := s) (H := H) (F0 := F0) (E := E) (ft := ftAt fns told fuel n) (k := Lv n) G S rfl h3 (hr.mono (by omega)) fnsN ihb.2
    exact okSs_snd d.body c _ _ d0.body ⟨xo, h3.symm, passes_of rfl, td F0 n A outer s H E hr xo⟩ hs
theorem defs_ok {fns : Nat → Option FnD} {told : Nat → D ⊕ Nat → Option D} {fuel : Nat} (ok : ∀ f d, fns f = some d → DefOk p P w K mg base fns told fuel f d) (hcp : ∀ F v q, p.CP F v q → CloSt p.g F v q) (hK : p.g.K = K) (hmg : p.g.mg = mg) (n f : Nat) (d : FnD) (h : fns f = some d) : FnAt p P w K mg base (Lv n) f ((ftAt fns told fuel n).fn f) :=
  (defs_both ok hcp hK hmg n).1 f d h
end
end AP
end
section
set_option maxHeartbeats 2000000
/-! E1: zip of two lists and a comprehension over it while an exception is handled -/
namespace PySem
open Sem (wp)
open PyProof.Rows
section
variable {prog : Program} {w : World} {A : Around} {E : Value → Shared → Prop} {s : Shared}
theorem ap_nextOf_list_end_hot {it l : Addr} {i : Nat} {items} {Q : Value → Shared → Prop} {xh : Addr} (hat : HotX.HotAt A xh s.heap)
    (hit : s.heap.IsListIter it l i) (hl : s.heap.IsList l items) (hx : items[i]? = none)
    (hE : ∀ h' e, Heap.ExtBut it s.heap h' → (∃ o, h'.get? e = some o ∧ o.cls = .type "StopIteration") → E (.ref e) { s with heap := h' }) :
    wpAny (model prog w) A (Builtin.SmallTypes.nextOf (.ref it)) Q E s := by
  obtain ⟨o, ho, hc, hd⟩ := id hit
  obtain ⟨ol, hol, _, nl, hdl⟩ := hl
  obtain ⟨hhd, oh, vsh, gh, dh, ch⟩ := hat
  have xit : xh ≠ it := fun e => by
    rw [e, ho] at gh; cases gh; rw [hd] at dh; cases dh; simp at ch
  unfold Builtin.SmallTypes.nextOf
  refine wpAny_bind (wpAny_callSpecial?_slot (name := Str.ofString "__next__") hit.typeIs slot_listiter_next
    (wpAny_call_entry slot_listiter_next hit.typeIs entry_listiter_next ?_ (args_listiter_next _)))
  show wpAny _ _ (field (.ref it) 0 >>= _) _ _ s
  refine wpAny_bind (wpAny_field ho hd (x := .ref l) rfl ?_)
  show wpAny _ _ (if (Value.ref l == Value.none) = true then _ else _) _ _ s
  rw [if_neg (show ¬ ((Value.ref l == Value.none) = true) from Bool.false_ne_true)]
  show wpAny _ _ (field (.ref it) 1 >>= _) _ _ s
  refine wpAny_bind (wpAny_field ho hd (x := .int i 0) rfl ?_)
  show wpAny _ _ (seqItems? (.ref l) >>= _) _ _ s
  refine wpAny_bind (wpAny_seqItems hol hdl ?_)
  simp only [Int.toNat_natCast, hx]
  refine wpAny_bind (wpAny_rule (wpAny_bind (wpAny_setField ho hd (by simp) ?_)))
  show wpAny _ _ (newExc (.type "StopIteration") [] >>= _) _ _ _
  refine wpAny_bind ?_
  simp only [newExc, newTuple]
  refine wpAny_bind (wpAny_newObj_type ?_ (by size_fits))
  refine wpAny_bind (m := firstArgMember _ _) (wpAny_of_eq (a := Value.none) (by first | rfl | (simp only [firstArgMember]; rfl)) ?_)
  refine wpAny_newObj_type ?_ (by size_fits)
  have gh1 : ∀ f, (s.heap.update it f).get? xh = some oh := fun f => by rw [Heap.get?_update_other _ _ (Ne.symm xit)]; exact gh
  refine HotX.raiseNew_hot ⟨hhd, oh, vsh, Heap.get?_push_of_some _ (Heap.get?_push_of_some _ (gh1 _)), dh, ch⟩ (Nat.ne_of_lt (Heap.lt_size (Heap.get?_push_of_some _ (gh1 _)))) (Heap.get?_push_size _ rfl) rfl (by first | (simp; done) | (simp; omega) | (simp only [Array.size_append]; simp; omega)) ?_
  refine hE _ _ (fun b ob hb e => ?_) ⟨_, Heap.get?_update_self _ (Heap.get?_push_size _ rfl) rfl, rfl⟩
  have e1 : ∀ f, (s.heap.update it f).get? b = some ob := fun f => by rw [Heap.get?_update_other _ _ (Ne.symm hb)]; exact e
  rw [Heap.get?_update_other _ _ (Nat.ne_of_gt (Heap.lt_size (Heap.get?_push_of_some _ (e1 _))))]
  exact Heap.get?_push_of_some _ (Heap.get?_push_of_some _ (e1 _))

theorem ap_zip_next_end_hot {z TI TO i1 i2 l1 l2 : Addr} {k1 k2 : Nat} {xs ys : Array Value} {a b : Value} {Q : Fin → Shared → Prop} {xh : Addr} (hat : HotX.HotAt A xh s.heap) (D : ZipApart z TI TO i1 i2 l1 l2)
    (hz : IsZip s.heap z TI TO .none) (hTI : IsPair s.heap TI (.ref i1) (.ref i2)) (hTO : IsPair s.heap TO a b)
    (h1 : s.heap.IsListIter i1 l1 k1) (h2 : s.heap.IsListIter i2 l2 k2) (hl1 : s.heap.IsList l1 xs) (hl2 : s.heap.IsList l2 ys) (hend : xs[k1]? = none ∨ ys[k2]? = none)
    (hE : ∀ h' e, (∀ c o, c ≠ z → c ≠ TO → c ≠ i1 → c ≠ i2 → s.heap.get? c = some o → h'.get? c = some o) → (∃ o, h'.get? e = some o ∧ o.cls = .type "StopIteration") → E (.ref e) { s with heap := h' }) :
    wpAny (model prog w) A (Builtin.«zip.__next__» ⟨[.ref z], []⟩) Q E s := by
  obtain ⟨hhd, oh, vsh, gh, dh, ch⟩ := hat
  have xz : xh ≠ z := fun e => by
    rw [e, hz] at gh; cases gh; cases dh; simp at ch
  have xTO : xh ≠ TO := fun e => by
    rw [e, hTO] at gh; cases gh; cases dh
  have xi1 : xh ≠ i1 := fun e => by
    obtain ⟨o, ho, _, hd⟩ := h1
    rw [e, ho] at gh; cases gh; rw [hd] at dh; cases dh; simp at ch
  have xi2 : xh ≠ i2 := fun e => by
    obtain ⟨o, ho, _, hd⟩ := h2
    rw [e, ho] at gh; cases gh; rw [hd] at dh; cases dh; simp at ch
  have hat0 : ∀ h' : Heap, h'.get? xh = some oh → HotX.HotAt A xh h' := fun h' e => ⟨hhd, oh, vsh, e, dh, ch⟩
  show wpAny _ _ (field (.ref z) 2 >>= _) _ _ _
  refine wpAny_bind (wpAny_field hz rfl (x := .bool false) rfl ?_)
  show wpAny _ _ (field (.ref z) 3 >>= _) _ _ _
  refine wpAny_bind (wpAny_field hz rfl (x := .ref TI) rfl ?_)
  refine wpAny_bind (wpAny_seqItems hTI rfl ?_)
  show wpAny _ _ (Builtin.SmallTypes.ownedTupleIsFree (.ref z) >>= _) _ _ _
  refine wpAny_bind ?_
  unfold Builtin.SmallTypes.ownedTupleIsFree
  refine wpAny_bind (wpAny_field hz rfl (x := .none) rfl (wpAny_pure ?_))
  simp only [if_true]
  refine wpAny_bind (wpAny_rule ?_)
  refine wpAny_bind (wpAny_field hz rfl (x := .ref TO) rfl ?_)
  refine wpAny_bind (wpAny_setField_rec hz (by simp) fun h₁ hz₁ hs₁ => ?_)
  replace hz₁ : IsZip h₁ z TI TO .ellipsis := hz₁
  refine wpAny_bind ?_
  simp only [List.zipIdx_cons, List.zipIdx_nil, List.forIn_cons, List.forIn_nil]
  refine wpAny_bind (wpAny_bind (wpAny_onRaise ?_))
  show wpAny _ _ (Builtin.SmallTypes.nextOf (.ref i1) >>= _) _ _ _
  cases hx : xs[k1]? with
  | none =>
    refine wpAny_bind (ap_nextOf_list_end_hot (hat0 h₁ (hs₁.extBut _ _ xz gh)) (h1.extBut hs₁.extBut D.i1z) (hl1.extBut hs₁.extBut D.l1z) hx fun h₂ e hs₂ he => ?_)
    obtain ⟨oe, hoe, hce⟩ := he
    have hz₂ : IsZip h₂ z TI TO .ellipsis := hs₂ _ _ D.i1z.symm hz₁
    have hez : e ≠ z := fun x => by subst x; rw [hz₂] at hoe; cases hoe; simp at hce
    refine wpAny_setField_rec hz₂ (by simp) fun h₃ _ hs₃ => hE h₃ e (fun c o c1 _ c3 _ x => hs₃.extBut _ _ c1 (hs₂ _ _ c3 (hs₁.extBut _ _ c1 x))) ⟨oe, hs₃.extBut _ _ hez hoe, hce⟩
  | some x =>
    have hy : ys[k2]? = none := by rcases hend with h | h; rw [hx] at h; cases h; exact h
    refine wpAny_bind (wpAny_nextOf_list_item (h1.extBut hs₁.extBut D.i1z) (hl1.extBut hs₁.extBut D.l1z) hx fun h₂ h1₂ hs₂ => wpAny_pure ?_)
    have hTO₂ : IsPair h₂ TO a b := hs₂.extBut _ _ D.TOi1 (hs₁.extBut _ _ D.TOz hTO)
    refine wpAny_bind (wpAny_seqItems hTO₂ rfl ?_)
    refine wpAny_bind (wpAny_updateSeq_pair hTO₂ fun h₃ hTO₃ hs₃ => ?_)
    refine wpAny_bind (wpAny_letGo (wpAny_pure ?_))
    refine wpAny_bind (wpAny_bind (wpAny_onRaise ?_))
    show wpAny _ _ (Builtin.SmallTypes.nextOf (.ref i2) >>= _) _ _ _
    refine wpAny_bind (ap_nextOf_list_end_hot (hat0 h₃ (hs₃.extBut _ _ xTO (hs₂.extBut _ _ xi1 (hs₁.extBut _ _ xz gh)))) (((h2.extBut hs₁.extBut D.i2z).extBut hs₂.extBut D.i12.symm).extBut hs₃.extBut D.TOi2.symm)
      (((hl2.extBut hs₁.extBut D.l2z).extBut hs₂.extBut D.l2i1).extBut hs₃.extBut D.l2TO) hy fun h₄ e hs₄ he => ?_)
    obtain ⟨oe, hoe, hce⟩ := he
    have hz₄ : IsZip h₄ z TI TO .ellipsis := hs₄ _ _ D.i2z.symm (hs₃.extBut _ _ D.TOz.symm (hs₂.extBut _ _ D.i1z.symm hz₁))
    have hez : e ≠ z := fun x => by subst x; rw [hz₄] at hoe; cases hoe; simp at hce
    refine wpAny_setField_rec hz₄ (by simp) fun h₅ _ hs₅ => hE h₅ e (fun c o c1 c2 c3 c4 x => hs₅.extBut _ _ c1 (hs₄ _ _ c4 (hs₃.extBut _ _ c2 (hs₂.extBut _ _ c3 (hs₁.extBut _ _ c1 x))))) ⟨oe, hs₅.extBut _ _ hez hoe, hce⟩


theorem ap_zip_end_hot {z TI TO i1 i2 l1 l2 : Addr} {k1 k2 : Nat} {xs ys : Array Value} {a b : Value} {Q : Option Value → Shared → Prop} {xh : Addr} (hat : HotX.HotAt A xh s.heap) (D : ZipApart z TI TO i1 i2 l1 l2)
    (hz : IsZip s.heap z TI TO .none) (hTI : IsPair s.heap TI (.ref i1) (.ref i2)) (hTO : IsPair s.heap TO a b)
    (h1 : s.heap.IsListIter i1 l1 k1) (h2 : s.heap.IsListIter i2 l2 k2) (hl1 : s.heap.IsList l1 xs) (hl2 : s.heap.IsList l2 ys) (hend : xs[k1]? = none ∨ ys[k2]? = none)
    (hQ : ∀ h', (∀ c o, c ≠ z → c ≠ TO → c ≠ i1 → c ≠ i2 → s.heap.get? c = some o → h'.get? c = some o) → Q none { s with heap := h' }) : wpAny (model prog w) A (pyNext (.ref z)) Q E s := by
  have hT : s.TypeIs (.ref z) "zip" := ⟨_, hz, rfl⟩
  unfold pyNext
  refine wpAny_bind (wpAny_attempt (wpAny_callSpecial?_slot (name := Str.ofString "__next__") hT F.slot_zip_next
    (wpAny_call_entry F.slot_zip_next hT F.entry_zip_next (ap_zip_next_end_hot hat D hz hTI hTO h1 h2 hl1 hl2 hend fun h' e hk he => ?_) (F.args_zip_next_1 _))))
  obtain ⟨o, ho, hc⟩ := he
  refine wpAny_bind (wpAny_isInstance (T := "StopIteration") (b := true) ⟨o, ho, hc⟩ isSubtype_stop ?_)
  exact wpAny_pure (hQ _ hk)



theorem ap_next_tuple_end_hot {it t : Addr} {i : Nat} {items} {Q : Option Value → Shared → Prop} {xh : Addr} (hat : HotX.HotAt A xh s.heap)
    (hit : IsTupIter s.heap it t i) (ht : IsTup s.heap t items) (hx : items[i]? = none)
    (hQ : ∀ h', Heap.ExtBut it s.heap h' → Q none { s with heap := h' }) : wpAny (model prog w) A (pyNext (.ref it)) Q E s := by
  obtain ⟨o, ho, hc, hd⟩ := id hit
  obtain ⟨ol, hol, _, nl, hdl⟩ := ht
  obtain ⟨hhd, oh, vsh, gh, dh, ch⟩ := hat
  have xit : xh ≠ it := fun e => by
    rw [e, ho] at gh; cases gh; rw [hd] at dh; cases dh; simp at ch
  unfold pyNext
  refine wpAny_bind (wpAny_attempt (wpAny_callSpecial?_slot (name := Str.ofString "__next__") hit.typeIs slot_tupleiter_next
    (wpAny_call_entry slot_tupleiter_next hit.typeIs entry_tupleiter_next ?_ (args_tupleiter_next _))))
  show wpAny _ _ (field (.ref it) 0 >>= _) _ _ s
  refine wpAny_bind (wpAny_field ho hd (x := .ref t) rfl ?_)
  show wpAny _ _ (if (Value.ref t == Value.none) = true then _ else _) _ _ s
  rw [if_neg (show ¬ ((Value.ref t == Value.none) = true) from Bool.false_ne_true)]
  show wpAny _ _ (field (.ref it) 1 >>= _) _ _ s
  refine wpAny_bind (wpAny_field ho hd (x := .int i 0) rfl ?_)
  show wpAny _ _ (seqItems? (.ref t) >>= _) _ _ s
  refine wpAny_bind (wpAny_seqItems hol hdl ?_)
  simp only [Int.toNat_natCast, hx]
  refine wpAny_bind (wpAny_rule (wpAny_bind (wpAny_setField ho hd (by simp) ?_)))
  show wpAny _ _ (newExc (.type "StopIteration") [] >>= _) _ _ _
  refine wpAny_bind ?_
  simp only [newExc, newTuple]
  refine wpAny_bind (wpAny_newObj_type ?_ (by size_fits))
  refine wpAny_bind (m := firstArgMember _ _) (wpAny_of_eq (a := Value.none) (by first | rfl | (simp only [firstArgMember]; rfl)) ?_)
  refine wpAny_newObj_type ?_ (by size_fits)
  have gh1 : ∀ f, (s.heap.update it f).get? xh = some oh := fun f => by rw [Heap.get?_update_other _ _ (Ne.symm xit)]; exact gh
  refine HotX.raiseNew_hot ⟨hhd, oh, vsh, Heap.get?_push_of_some _ (Heap.get?_push_of_some _ (gh1 _)), dh, ch⟩ (Nat.ne_of_lt (Heap.lt_size (Heap.get?_push_of_some _ (gh1 _)))) (Heap.get?_push_size _ rfl) rfl (by first | (simp; done) | (simp; omega) | (simp only [Array.size_append]; simp; omega)) ?_
  refine wpAny_bind (wpAny_isInstance (T := "StopIteration") (b := true) ⟨_, Heap.get?_update_self _ (Heap.get?_push_size _ rfl) rfl, rfl⟩ isSubtype_stop ?_)
  refine wpAny_pure (hQ _ fun b ob hb e => ?_)
  have e1 : ∀ f, (s.heap.update it f).get? b = some ob := fun f => by rw [Heap.get?_update_other _ _ (Ne.symm hb)]; exact e
  rw [Heap.get?_update_other _ _ (Nat.ne_of_gt (Heap.lt_size (Heap.get?_push_of_some _ (e1 _))))]
  exact Heap.get?_push_of_some _ (Heap.get?_push_of_some _ (e1 _))
theorem ap_unpackItems_hot {t : Addr} {items : Array Value} {Q : List Value → Shared → Prop} {xh : Addr} (hat : HotX.HotAt A xh s.heap) (ht : IsTup s.heap t items)
    (hQ : ∀ h', Heap.ExtBut s.heap.objs.size s.heap h' → Q items.toList { s with heap := h' }) : wpAny (model prog w) A (unpackItems (.ref t) items.size none) Q E s := by
  have hlt : t ≠ s.heap.objs.size := by obtain ⟨o, ho, _⟩ := ht; exact Nat.ne_of_lt (Heap.lt_size ho)
  obtain ⟨hhd, oh, vsh, gh, dh, ch⟩ := hat
  unfold unpackItems
  refine wpAny_bind ?_
  · unfold notIterableAtAll
    refine wpAny_bind (wpAny_specialOf ht.typeIs slot_tuple_iter.lookup ?_)
    refine wpAny_pure ?_
    simp only [Bool.false_eq_true, if_false]
    refine wpAny_bind (wpAny_holding (iter_tuple ht ?_))
    refine wpAny_bind (wpAny_holding (draw_tuple hlt items.size 0 _ _ ⟨_, Heap.get?_push_size _ rfl, rfl, rfl⟩ (ht.push _) (by omega) fun h₁ hit₁ hs₁ => ?_))
    have hall : List.take items.size (List.drop 0 items.toList) = items.toList := by
      rw [List.drop_zero]; exact List.take_of_length_le (by simp)
    rw [hall]
    rw [if_neg (by simp)]
    have ht₁ : IsTup h₁ t items := (ht.push _).extBut hs₁.extBut hlt
    refine wpAny_bind (wpAny_holding (ap_next_tuple_end_hot (xh := xh) ⟨hhd, oh, vsh, hs₁.extBut _ _ (Nat.ne_of_lt (Heap.lt_size gh)) (Heap.get?_push_of_some _ gh), dh, ch⟩ hit₁ ht₁ (by simp) fun h₂ he₂ => ?_))
    simp only [Option.isSome_none, Bool.false_eq_true, if_false]
    refine wpAny_pure (hQ h₂ fun b o hb e => he₂ b o hb (hs₁.extBut b o hb (Heap.get?_push_of_some _ e)))
theorem ap_assign_tup_hot {env : Env} {elts : List Expr} {x1} {pos : Pos} {t : Addr} {items : Array Value} {Q : Unit → Shared → Prop} {xh : Addr} (hat : HotX.HotAt A xh s.heap) (ht : IsTup s.heap t items)
    (hn : (assignEach elts env).length = items.size) (hstar : (assignEach elts env).findIdx? (·.1) = none)
    (h : ∀ h', Heap.ExtBut s.heap.objs.size s.heap h' → wpAny (model prog w) A (assignInOrder ((assignEach elts env).map (·.2)) items.toList) Q E { s with heap := h' }) :
    wpAny (model prog w) A (assign (.Tuple elts x1 pos) env (.ref t)) Q E s := by
  rw [assign_Tuple]
  refine wpAny_bind (wpAny_standAt ?_)
  unfold unpack
  rw [hn, hstar]
  exact wpAny_bind (wpAny_holding (ap_unpackItems_hot hat ht h))
end
end PySem
namespace L2
open PySem PySem.Spec PyProof.Rows
/-- a turn that no context is asked for; its end while an exception is handled -/
structure TurnK (P : Program) (w : World) (K : PySem.W.Frag) (tg : Expr) (J : It) (fp : List Addr) (it : Addr) (tn : Nat → Heap → Prop) : Prop where
  mem : it ∈ fp
  obj : ∀ i h, tn i h → ∀ b ∈ fp, ∃ o, h.get? b = some o ∧ ∀ v, o.data ≠ .cell v
  keep : ∀ i h h', tn i h → (∀ b ∈ fp, ∀ o, h.get? b = some o → h'.get? b = some o) → tn i h'
  item : ∀ (X : Cx), X.prog = P → X.w = w → X.K = K → ∀ (i : Nat) (pins : List (Addr × Obj)) (s : Shared) (σ : St) (H : Hp) (E : Value → Shared → Prop), Inv X pins σ H s → (∀ b ∈ fp, FpOk X pins H b) → tn i s.heap → J.go i H →
    wpAny (model P w) X.A (pyNext (.ref it)) (fun r s1 => ∃ u, r = some u ∧
      wpAny (model P w) X.A (letOwnedTupleGo tg (.ref it) u) (fun _ s2 => ∃ x H', Inv X pins σ H' s2 ∧ RelV x u ∧ J.yld i H x H' ∧ tn (i + 1) s2.heap ∧ ∀ b ∈ fp, H' b = none) E s1) E s
  done : ∀ (X : Cx), X.prog = P → X.w = w → X.K = K → ∀ (i : Nat) (pins : List (Addr × Obj)) (s : Shared) (σ : St) (H : Hp) (E : Value → Shared → Prop) (xh : Addr), HotX.HotAt X.A xh s.heap → Inv X pins σ H s → (∀ b ∈ fp, FpOk X pins H b) → tn i s.heap → J.stop i H →
    wpAny (model P w) X.A (pyNext (.ref it)) (fun r s1 => r = none ∧ Inv X pins σ H s1) E s
  self : ∀ (A : Around) (i : Nat) (s : Shared) (Q : Value → Shared → Prop) (E : Value → Shared → Prop), tn i s.heap → Q (.ref it) s → wpAny (model P w) A (pyIter (.ref it)) Q E s
def PIEK (X : Cx) (pins : List (Addr × Obj)) (σ : St) (tg : Expr) (R : It → Hp → Prop) (itv : Value) (s2 : Shared) : Prop :=
  ∃ (it : Addr) (fp : List Addr) (tn : Nat → Heap → Prop) (J : It) (H' : Hp), itv = .ref it ∧ Inv X pins σ H' s2 ∧ TurnK X.prog X.w X.K tg J fp it tn ∧ tn 0 s2.heap ∧ (∀ b ∈ fp, FpOk X pins H' b) ∧ R J H'
structure PIK (X : Cx) (tg iter : Expr) (wi : TI) : Prop where
  run : ∀ (pins : List (Addr × Obj)) (s : Shared) (σ : St) (H : Hp) (R : It → Hp → Prop), Inv X pins σ H s → wi σ H R →
    wpAny (model X.prog X.w) X.A (eval iter X.env) (fun v s1 => wpAny (model X.prog X.w) X.A (pyIter v) (PIEK X pins σ tg R) X.xe s1) X.xe s

theorem ap_turn_zipK {P : Program} {w : World} {K : PySem.W.Frag} {elts : List Expr} {kk : Nat} {tpos : Pos} {a b z TI TO i1 i2 : Addr} (D : ZipApart z TI TO i1 i2 a b) :
    TurnK P w K (.Tuple elts kk tpos) (Itz K a b) [z, TI, TO, i1, i2] z (fun i h => IsZip h z TI TO .none ∧ IsPair h TI (.ref i1) (.ref i2) ∧ (∃ x y, IsPair h TO x y) ∧ h.IsListIter i1 a i ∧ h.IsListIter i2 b i) where
  mem := by simp
  obj := fun i h st c hc => by
    obtain ⟨hz, hTI, ⟨x, y, hTO⟩, ⟨o1, e1, _, d1⟩, ⟨o2, e2, _, d2⟩⟩ := st
    have e' : c = z ∨ c = TI ∨ c = TO ∨ c = i1 ∨ c = i2 := by simpa using hc
    rcases e' with q | q | q | q | q
    · rw [q]; exact ⟨_, hz, fun v q => nomatch q⟩
    · rw [q]; exact ⟨_, hTI, fun v q => nomatch q⟩
    · rw [q]; exact ⟨_, hTO, fun v q => nomatch q⟩
    · rw [q]; exact ⟨o1, e1, fun v q => by rw [d1] at q; cases q⟩
    · rw [q]; exact ⟨o2, e2, fun v q => by rw [d2] at q; cases q⟩
  keep := fun i h h' st k => by
    obtain ⟨hz, hTI, ⟨x, y, hTO⟩, h1, h2⟩ := st
    exact ⟨k z (by simp) _ hz, k TI (by simp) _ hTI, ⟨x, y, k TO (by simp) _ hTO⟩, h1.at fun o q => k i1 (by simp) o q, h2.at fun o q => k i2 (by simp) o q⟩
  item := by
    intro X hP hw hK i pins s σ H E I hf st hg
    subst hP hw hK
    obtain ⟨hz, hTI, ⟨x0, y0, hTO⟩, h1, h2⟩ := st
    obtain ⟨xs, ys, x, y, hqx, hqy, hx, hy⟩ := hg
    obtain ⟨its, rv, p, _⟩ := I.list hqx
    obtain ⟨its2, rv2, p2, _⟩ := I.list hqy
    obtain ⟨u, hu, ru⟩ := rv.get hx
    obtain ⟨u2, hu2, ru2⟩ := rv2.get hy
    have hzl : z < s.heap.objs.size := Heap.lt_size hz
    refine wpAny_pyNext_zip_item D hz hTI hTO h1 h2 p.isList p2.isList (x := u) (y := u2) (by simpa using hu) (by simpa using hu2) fun h' z' TO' h1' h2' hT hsz hk => ?_
    refine ⟨_, rfl, wpAny_letOwnedTupleGo_zip (s := { s with heap := h' }) z' fun h'' z'' sb => ?_⟩
    have hT2 : h''.get? s.heap.objs.size = some { cls := .type "tuple", data := .seq #[u, u2] } := (sb.2 _ (Nat.ne_of_gt hzl)).trans hT
    have new : ObjOk X.prog X.w (upd H s.heap.objs.size (.tup [x, y])) h'' s.heap.objs.size (.tup [x, y]) :=
      ⟨by show 2 ≤ sizeLine; decide, [u, u2], .cons ru (.cons ru2 .nil), ⟨_, hT2, rfl, _, rfl⟩⟩
    have I1 : Inv X pins σ (upd H s.heap.objs.size (.tup [x, y])) { s with heap := h'' } :=
      I.turnedNew (t' := s.toks) (ch := [z, TI, TO, i1, i2]) (fun c o hb q => (sb.2 c (fun q' => hb (by simp [q']))).trans (hk c o (fun q' => hb (by simp [q'])) (fun q' => hb (by simp [q'])) (fun q' => hb (by simp [q'])) (fun q' => hb (by simp [q'])) q)) hf (Nat.le_refl _) new
    refine ⟨.ref s.heap.objs.size, _, I1, rfl, ⟨_, x, y, rfl, I.hok.fresh (Nat.le_refl _), rfl, fun l hl => by rw [I.list_inj hl hqx]; exact hx, fun l hl => by rw [I.list_inj hl hqy]; exact hy⟩, ⟨z'', ?_, ⟨u, u2, ?_⟩, ?_, ?_⟩, fun c hcm => ?_⟩
    · exact (sb.2 _ D.TIz).trans (hk _ _ D.TIz D.TITO D.TIi1 D.TIi2 hTI)
    · exact (sb.2 _ D.TOz).trans TO'
    · exact h1'.at fun o q => (sb.2 _ D.i1z).trans q
    · exact h2'.at fun o q => (sb.2 _ D.i2z).trans q
    · have hlt : c < s.heap.objs.size := by
        have e' : c = z ∨ c = TI ∨ c = TO ∨ c = i1 ∨ c = i2 := by simpa using hcm
        rcases e' with q | q | q | q | q
        · rw [q]; exact hzl
        · rw [q]; exact Heap.lt_size hTI
        · rw [q]; exact Heap.lt_size hTO
        · rw [q]; obtain ⟨_, e1, _⟩ := h1; exact Heap.lt_size e1
        · rw [q]; obtain ⟨_, e2, _⟩ := h2; exact Heap.lt_size e2
      rw [upd_ne (Nat.ne_of_lt hlt)]
      exact (hf c hcm).1
  done := by
    intro X hP hw hK i pins s σ H E x1 hat I hf st hg
    subst hP hw hK
    obtain ⟨hz, hTI, ⟨x0, y0, hTO⟩, h1, h2⟩ := st
    obtain ⟨xs, ys, hqx, hqy, hend⟩ := hg
    obtain ⟨its, rv, p, _⟩ := I.list hqx
    obtain ⟨its2, rv2, p2, _⟩ := I.list hqy
    have l1 := rv.length
    have l2 := rv2.length
    have he : its.toArray[i]? = none ∨ its2.toArray[i]? = none := by
      rcases hend with q | q
      · exact .inl (by simp; omega)
      · exact .inr (by simp; omega)
    exact PySem.ap_zip_end_hot hat D hz hTI hTO h1 h2 p.isList p2.isList he fun h' hk => ⟨rfl, I.turnedL (t' := s.toks) (ch := [z, TI, TO, i1, i2]) (fun c o hb q =>
      hk c o (fun q' => hb (by simp [q'])) (fun q' => hb (by simp [q'])) (fun q' => hb (by simp [q'])) (fun q' => hb (by simp [q'])) q) hf⟩
  self := fun A i s Q E st h => wpAny_pyIter_zip st.1 h

theorem ap_pi_zipK {X : Cx} {e e2 : Expr} {ta : TA} {p pos tpos : Pos} {elts : List Expr} {kk : Nat} (hg : Gl X "zip") (hm : X.mg "zip" = none) (ha : PA X [e, e2] ta)
    (hs : starEach [e, e2] X.env = (false, eval e X.env) :: starEach [e2] X.env := by rfl) (hpl : (backTo pos (starEach [e2] X.env)).any (·.1) = false := by rfl) :
    PIK X (.Tuple elts kk tpos) (.Call (.Name "zip" p) [e, e2] [] pos) (iZip X.K ta) := by
  refine ⟨fun pins s σ H R I h => ?_⟩
  refine Call_ (ld_blt I hg hm PyProof.Rows.boot_zip (PyProof.Rows.callWith_type1 (thn (ha.run pos pins s σ H _ I h) fun us s1 ⟨vs, H1, I1, r1, q1⟩ => ?_) hs hpl))
  obtain ⟨a, b, xs, ys, ex, hqx, hqy, q⟩ := q1
  subst ex
  cases r1 with
  | cons r rr =>
    cases rr with
    | cons r' rr =>
      cases rr
      cases r
      cases r'
      obtain ⟨its, rv, p1, _⟩ := I1.list hqx
      obtain ⟨its2, rv2, p2, _⟩ := I1.list hqy
      have la : a < s1.heap.objs.size := p1.lt
      have lb : b < s1.heap.objs.size := p2.lt
      refine call_zip_2 p1.isList p2.isList fun h' hz hTI hTO h1 h2 hsz hk => wpAny_pyIter_zip hz ?_
      have I2 : Inv X pins σ H1 { s1 with heap := h' } := I1.kept (t' := s1.toks) hk
      refine ⟨s1.heap.objs.size + 4, [s1.heap.objs.size + 4, s1.heap.objs.size + 2, s1.heap.objs.size + 3, s1.heap.objs.size, s1.heap.objs.size + 1], _, _, H1, rfl, I2, ap_turn_zipK (PySem.W.ktu_apart s1.heap.objs.size a b la lb), ⟨hz, hTI, ⟨_, _, hTO⟩, h1, h2⟩, fun c hcm => ?_, q⟩
      have e' : c = s1.heap.objs.size + 4 ∨ c = s1.heap.objs.size + 2 ∨ c = s1.heap.objs.size + 3 ∨ c = s1.heap.objs.size ∨ c = s1.heap.objs.size + 1 := by simpa using hcm
      have hle : s1.heap.objs.size ≤ c := by
        rcases e' with z | z | z | z | z
        · rw [z]; exact Nat.le_add_right _ _
        · rw [z]; exact Nat.le_add_right _ _
        · rw [z]; exact Nat.le_add_right _ _
        · rw [z]; exact Nat.le_refl _
        · rw [z]; exact Nat.le_add_right _ _
      exact I1.fpOk hle (I1.hok.fresh hle)

/-- the handled exception stands at a block's entry -/
def HotB (X : Cx) (s : Shared) (H : Hp) (fp : List Addr) : Prop := ∃ p : Addr × Obj, L2H.Hot1 X.A p ∧ s.heap.get? p.1 = some p.2 ∧ H p.1 = none ∧ p.1 ∉ frs X.stack ∧ p.1 ∉ fp
section
variable {X : Cx}
theorem HotB.at {s : Shared} {H : Hp} {scope : Scope} {ce : Env} {fp : List Addr} {pins : List (Addr × Obj)} {σ : St} {H' : Hp} {s' : Shared} (h : HotB X s H fp) (I : Inv (X.blk s H scope ce fp) pins σ H' s') : ∃ x1, HotX.HotAt X.A x1 s'.heap := by
  obtain ⟨p, ⟨hh, v1, e1, c1⟩, g, n, f1, f2⟩ := h
  exact ⟨p.1, hh, p.2, v1, I.base.keep p.1 p.2 g n f1 f2, e1, c1⟩
theorem pg_tupH {s : Shared} {H : Hp} {scope : Scope} {ce : Env} {fp : List Addr} {es : List Expr} {k : Nat} {t : TGs} {n : Nat} {pos : Pos} (hot : HotB X s H fp) (h : PGs (X.blk s H scope ce fp) es t)
    (hn : (assignEach es ce).length = n := by rfl) (hst : (assignEach es ce).findIdx? (·.1) = none := by rfl) : PG (X.blk s H scope ce fp) (.Tuple es k pos) (gTup X.K n t) := by
  refine ⟨fun pins s σ H v u Q I r hw => ?_⟩
  obtain ⟨a, xs, e1, hq, hl, hw⟩ := hw
  subst e1
  cases r
  obtain ⟨its, rv, ht, hz⟩ := I.tuple hq
  obtain ⟨x1, hat⟩ := hot.at I
  refine PySem.ap_assign_tup_hot hat ht (by simp [hn, ← hl, rv.length]) hst fun h' hx => ?_
  have I1 : Inv (X.blk _ _ scope ce fp) pins σ H { s with heap := h' } := I.kept (t' := s.toks) fun b o e => hx b o (Nat.ne_of_lt (Heap.lt_size e)) e
  exact h.run pins _ σ H xs _ Q I1 (by simpa using rv) hw
theorem ap_lc_coreH {pins : List (Addr × Obj)} {s : Shared} {σ : St} {H : Hp} {Q : VK} {elt tg iter : Expr} {ifs : List Expr} {scope : Scope} {own : List (Str × Nat)} {pos pos' : Pos} {wi : TI} {g : TG} {tt : TT} {te : TE} {use : Option (Value → Sem Unit)} {Qf : Value → Shared → Prop}
    (hot : L2H.HotC X) (hN : X.N.Nodup) (I : Inv X pins σ H s) (hi : PIK X tg iter wi) (ok : BlkOk X.N X.env.scope scope own)
    (hg : ∀ (s : Shared) (H : Hp) (C : Addr) (cl : List (Str × Addr)) (fp : List Addr), HotB X s H fp → PG (X.blk s H scope (compEnvC scope cl C X.env) fp) tg g) (ht : ∀ (s : Shared) (H : Hp) (C : Addr) (cl : List (Str × Addr)) (fp : List Addr), PTs (X.blk s H scope (compEnvC scope cl C X.env) fp) ifs tt)
    (he : ∀ (s : Shared) (H : Hp) (C : Addr) (cl : List (Str × Addr)) (fp : List Addr), PE (X.blk s H scope (compEnvC scope cl C X.env) fp) elt te) (hs : ∀ x, foldedSetIterable iter X.env x = pure x)
    (h : tLc wi g tt te (own.map (·.2)) σ H Q)
    (hRR : ∀ D C s' m H', Inv X pins σ H' s' → Q (.ref D) H' → s'.heap.Ns C m → FpOk X pins H' C → compPost (model X.prog X.w) X.A X.xe use Qf (.ref D) C (.ok .next) s') :
    wpAny (model X.prog X.w) X.A (comprehension (.ListComp elt [⟨tg, iter, ifs, 0⟩] scope pos) scope X.env pos' (newList []) false (eval iter X.env) use) Qf X.xe s := by
  have hfree : ∀ y ∈ scope.names, y.2 = .free → ∃ c, X.env.cells.lookup y.1 = some c := fun y hy e => by
    rcases ok.free y hy e with k | k
    · exact I.ok.has _ (.inl k)
    · exact I.ok.has _ (.inr k)
  refine wpAny_comprehension_free (use := use) rfl hs (closure_ok hfree) ok.kind (fun y hy e => by rw [ok.uniq y hy, e])
    (thn (hi.run pins s σ H _ I h) fun xv s1 hx => thn hx fun itv s2 h2 => ?_)
  obtain ⟨it, fp, tn, J, H2, e, I2, T, st2, f2, q⟩ := h2
  subst e
  obtain ⟨px, ⟨hhd, vs1, e1, c1⟩, hpx⟩ := hot
  have px2 := I2.pin px (List.mem_append_left _ hpx)
  have pxf : ∀ b ∈ fp, px.1 ≠ b := fun b hb => (f2 b hb).2.2.2.2.2 px (List.mem_append_left _ hpx)
  refine wpAny_newObj_type (newEnv_comp ?_) (by show 0 ≤ sizeLine; decide)
  generalize hD : s2.heap.objs.size = D
  have hDn : H2 D = none := I2.hok.fresh (Nat.le_of_eq hD)
  obtain ⟨W, ⟨m0, w0⟩, turn⟩ := q D hDn
  -- the new list
  generalize hs3 : ({ s2 with heap := s2.heap.push { cls := .type "list", data := .seq ([] : List Value).toArray } } : Shared) = s3
  have I3 : Inv X pins σ (upd H2 D (.lst [])) s3 := by
    rw [← hs3]
    refine I2.laid (t' := s2.toks) (fun b o e => Heap.get?_push_of_some _ e) (Nat.le_of_eq hD) ⟨Nat.zero_le _, [], 0, .nil, ?_⟩
    rw [← hD]
    exact Heap.get?_push_size _ rfl
  have h3 : s3.heap = s2.heap.push { cls := .type "list", data := .seq ([] : List Value).toArray } := by rw [← hs3]
  have sz : ∀ b ∈ fp, b < s2.heap.objs.size := fun b hb => by
    obtain ⟨o, e, _⟩ := T.obj _ _ st2 b hb
    exact Heap.lt_size e
  have f3 : ∀ b ∈ fp, FpOk X pins (upd H2 D (.lst [])) b ∧ b < s3.heap.objs.size := fun b hb => by
    have hlt := sz b hb
    refine ⟨⟨?_, (f2 b hb).2⟩, by rw [h3, Heap.size_push]; exact Nat.lt_succ_of_lt hlt⟩
    rw [upd_ne (by rw [← hD]; exact Nat.ne_of_lt hlt)]
    exact (f2 b hb).1
  have st3 : tn 0 s3.heap := T.keep _ _ _ st2 fun b _ o e => by rw [h3]; exact Heap.get?_push_of_some _ e
  have I4 := block_start I3 ok hN f3
  have px3 := I3.pin px (List.mem_append_left _ hpx)
  have pxS : px.1 ∉ frs X.stack := fun hm => (List.mem_cons.mp (I3.stkSub px.1 hm)).elim px3.2.2.1 px3.2.2.2.1
  have pg := hg s3 (upd H2 D (.lst [])) s3.heap.objs.size (cellsFrom (s3.heap.objs.size + 1) scope.names (cloFrom X.env.cells scope.names [])) fp ⟨px, ⟨hhd, vs1, e1, c1⟩, px3.1, px3.2.1, pxS, fun hm => pxf px.1 hm rfl⟩
  have pt := ht s3 (upd H2 D (.lst [])) s3.heap.objs.size (cellsFrom (s3.heap.objs.size + 1) scope.names (cloFrom X.env.cells scope.names [])) fp
  have pe := he s3 (upd H2 D (.lst [])) s3.heap.objs.size (cellsFrom (s3.heap.objs.size + 1) scope.names (cloFrom X.env.cells scope.names [])) fp
  show codeAny _ _ (.compStart (.ListComp elt [⟨tg, iter, ifs, 0⟩] scope pos) 0 (.ref it) (.ref D) (compEnvC scope (cellsFrom (s3.heap.objs.size + 1) scope.names (cloFrom X.env.cells scope.names [])) s3.heap.objs.size X.env)) (compPost (model X.prog X.w) X.A X.xe use Qf (.ref D) s3.heap.objs.size) { s3 with heap := pushCells (s3.heap.push { cls := .type "dict", data := .dict #[] }) scope.names }
  have nfp : ∀ b ∈ fp, (upd H2 D (.lst [])) b = none := fun b hb => (f3 b hb).1.1
  generalize hce : compEnvC scope (cellsFrom (s3.heap.objs.size + 1) scope.names (cloFrom X.env.cells scope.names [])) s3.heap.objs.size X.env = ce at I4 pg pt pe ⊢
  have cL : ce.locals = s3.heap.objs.size := by subst hce; rfl
  generalize hH3 : upd H2 D (.lst []) = H3 at I3 I4 pg pt pe w0 nfp f3 px3
  generalize hs4 : ({ s3 with heap := pushCells (s3.heap.push { cls := .type "dict", data := .dict #[] }) scope.names } : Shared) = s4 at I4 ⊢
  have st4 : tn 0 s4.heap := T.keep _ _ _ st3 fun b _ o e => by rw [← hs4]; exact pushCells_keeps _ _ _ _ (Heap.get?_push_of_some _ e)
  have stat : ∀ {σ' : St} {H' : Hp} {s' : Shared}, Inv (X.blk s3 H3 scope ce fp) [] σ' H' s' → (∀ b ∈ fp, H' b = none) → ∀ b ∈ fp, FpOk (X.blk s3 H3 scope ce fp) [] H' b := fun {σ' H' s'} I' hn b hb =>
    ⟨hn b hb, (I'.ok.exf b hb).1, I'.ok.exfs b hb, .inl hb, fun x c e => (I'.ok.exf b hb).2 x c e, fun p hp => absurd (show p ∈ ([] : List (Addr × Obj)) ++ [] from hp) (by simp)⟩
  have loop : codeAny (model X.prog X.w) X.A (.compLoop (.ListComp elt [⟨tg, iter, ifs, 0⟩] scope pos) 0 (.ref it) (.ref D) ce) (compPost (model X.prog X.w) X.A X.xe use Qf (.ref D) s3.heap.objs.size) s4 := by
    refine compLoop_any (fun n s' => ∃ i H', Inv (X.blk s3 H3 scope ce fp) [] (wipe σ (own.map (·.2))) H' s' ∧ tn i s'.heap ∧ (∀ b ∈ fp, H' b = none) ∧ W i n H') ?_ m0 ⟨0, H3, I4, st4, nfp, w0⟩
    rintro n s5 ⟨i, H5, I5, st5, n5, w5⟩
    rcases turn i n H5 w5 with ⟨stop, qq⟩ | ⟨go, Nx, hNx, step⟩
    · have hat : HotX.HotAt X.A px.1 s5.heap := ⟨hhd, px.2, vs1, I5.base.keep px.1 px.2 px3.1 px3.2.1 pxS (fun hm => pxf px.1 hm rfl), e1, c1⟩
      have td := T.done (X.blk s3 H3 scope ce fp) rfl rfl rfl i [] s5 _ H5 (fun _ _ => False) px.1 hat I5 (stat I5 n5) st5 stop
      refine thnF td fun r s6 ⟨hr, I6⟩ => ?_
      subst hr
      -- back in the def's context
      have I7 : Inv X pins σ H5 s6 := I3.call' (ch := fp) I6.os I6.base I6.hok I6.bare fun b hb => ⟨(f3 b hb).1.2.2.2.1, (f3 b hb).1.2.1, (f3 b hb).1.2.2.2.2.1, (f3 b hb).1.2.2.2.2.2⟩
      have nC : H5 s3.heap.objs.size = none := by
        have z : H5 ce.locals = none := I6.free
        rw [cL] at z
        exact z
      obtain ⟨m, hn, _⟩ := I6.loc
      have hn : s6.heap.Ns ce.locals m := hn
      rw [cL] at hn
      exact hRR D s3.heap.objs.size s6 m H5 I7 qq hn (I3.fpOk (Nat.le_refl _) nC)
    · have ti := T.item (X.blk s3 H3 scope ce fp) rfl rfl rfl i [] s5 _ H5 (fun _ _ => False) I5 (stat I5 n5) st5 go
      refine thnF ti fun r s6 ⟨u, hr, h6⟩ => ?_
      subst hr
      refine thnF h6 fun _ s7 ⟨x, H7, I7, r7, y7, st7, n7⟩ => ?_
      have I7' := I7.pinned (stat I7 n7) (T.obj _ _ st7)
      refine thnF (pg.run _ s7 _ H7 x u _ I7' r7 (step x H7 y7)) fun _ s8 ⟨σ8, H8, I8, hw8, q8⟩ => ?_
      refine thnF (pt.run _ s8 σ8 H8 _ I8 q8) fun b s9 ⟨H9, I9, q9⟩ => ?_
      -- the turn's end
      have fin : ∀ {s' : Shared} {H' : Hp}, Inv (X.blk s3 H3 scope ce fp) ([] ++ pinsAt fp s7.heap) σ8 H' s' → Nx H' → ∃ m, m < n ∧ ∃ i H', Inv (X.blk s3 H3 scope ce fp) [] (wipe σ (own.map (·.2))) H' s' ∧ tn i s'.heap ∧ (∀ b ∈ fp, H' b = none) ∧ W i m H' := fun {s' H'} I' nx => by
        obtain ⟨m', hm, w'⟩ := hNx H' nx
        have pin' : ∀ b ∈ fp, ∀ o, s7.heap.get? b = some o → s'.heap.get? b = some o ∧ H' b = none := fun b hb o e =>
          let z := I'.pin (b, o) (List.mem_append_right _ (List.mem_append_right _ (mem_pinsAt hb e)))
          ⟨z.1, z.2.1⟩
        have hl : (wipe σ (own.map (·.2))).length = σ8.length := by rw [← hw8, wipe_length]
        refine ⟨m', hm, i + 1, H', (I'.unpinned (pins := [])).weak hl (fun j v e => ?_), T.keep _ _ _ st7 fun b hb o e => (pin' b hb o e).1, fun b hb => ?_, w'⟩
        · rw [← hw8] at e
          exact (wipe_some e).1
        · obtain ⟨o, e, _⟩ := T.obj _ _ st7 b hb
          exact (pin' b hb o e).2
      cases b with
      | false =>
        simp only [Bool.false_eq_true, if_false] at q9 ⊢
        exact fin I9 q9
      | true =>
        simp only [if_true] at q9 ⊢
        refine thnF (pe.run _ s9 σ8 H9 _ I9 q9) fun z s10 ⟨yv, H10, I10, r10, acc, hD10, hz10, nx⟩ => ?_
        exact app_ok (X := X.blk s3 H3 scope ce fp) I10 hD10 hz10 r10 fun s11 I11 => fin I11 nx
  exact codeAny_compStart_list loop (T.self X.A 0 _ _ _ st4 loop)

theorem ap_pe_lcH {elt tg iter : Expr} {ifs : List Expr} {scope : Scope} {own : List (Str × Nat)} {pos : Pos} {wi : TI} {g : TG} {tt : TT} {te : TE} (hot : L2H.HotC X) (hN : X.N.Nodup) (hi : PIK X tg iter wi) (ok : BlkOk X.N X.env.scope scope own)
    (hg : ∀ (s : Shared) (H : Hp) (C : Addr) (cl : List (Str × Addr)) (fp : List Addr), HotB X s H fp → PG (X.blk s H scope (compEnvC scope cl C X.env) fp) tg g) (ht : ∀ (s : Shared) (H : Hp) (C : Addr) (cl : List (Str × Addr)) (fp : List Addr), PTs (X.blk s H scope (compEnvC scope cl C X.env) fp) ifs tt)
    (he : ∀ (s : Shared) (H : Hp) (C : Addr) (cl : List (Str × Addr)) (fp : List Addr), PE (X.blk s H scope (compEnvC scope cl C X.env) fp) elt te) (hs : ∀ x, foldedSetIterable iter X.env x = pure x := by intro _; rfl) :
    PE X (.ListComp elt [⟨tg, iter, ifs, 0⟩] scope pos) (tLc wi g tt te (own.map (·.2))) := by
  refine ⟨fun pins s σ H Q I h => ?_⟩
  rw [eval_ListComp]
  refine ap_lc_coreH hot hN I hi ok hg ht he hs h fun D C s' m H' I' q hn f => ⟨m, hn, fun h'' sb => ?_⟩
  obtain ⟨f0, f1, f2, f3, f4, f5⟩ := f
  exact ⟨.ref D, H', I'.turned (t' := s'.toks) (fun b o hb e => (sb.2 b hb).trans e) f0 f1 f3 f4 f5, rfl, q⟩
end
end L2
end
section
set_option maxHeartbeats 2000000
/-! E2: the name of an error, asked for while it is handled -/
namespace AP
open PySem PySem.Spec PyProof.Rows L2 L2H

/-- isinstance of a pinned exception -/
theorem call_isEp {X : Cx} {a D : Addr} {oe : Obj} (C : ExcC X.K D) (hz : Zc (.ref D) none oe) (hf : ∃ vs, oe.data = .fields vs) (hp : (a, oe) ∈ X.pn) : CallR X (.builtin "isinstance") (rIsE X.K D a) := by
  intro pins s σ H xs us Q I r h
  obtain ⟨c, cv, b, rfl, hcv, e, q⟩ := h
  cases r with
  | cons rx rr =>
    cases rr with
    | cons rt rr =>
      cases rr
      cases rx
      have ec := hcv _ rt
      subst ec
      obtain ⟨hget, _⟩ := I.pin (a, oe) (List.mem_append.mpr (.inl hp))
      obtain ⟨vs, hv⟩ := hf
      have J : PySem.W.InstAt s.heap a oe D none := by
        obtain ⟨oc, od, oda, osl⟩ := oe
        obtain ⟨h1, h2⟩ := hz
        dsimp only at h1 h2 hv
        subst h1 h2 hv
        exact ⟨hget, rfl, rfl, trivial⟩
      exact PySem.W.kia_one (PySem.W.handS_kitx_exc C.hg C.hk C.hs C.hd C.ha C.hn C.ht C.hm) I.kIn J e (fun z => nomatch z) fun tk => ⟨.bl b, H, I.kept (t' := tk) fun _ _ z => z, rfl, q⟩
section
variable {X : Cx} {a D : Addr}
/-- isinstance(e, C) by its answer -/
def tIsE (i : Nat) (a : Addr) (k : Bool) : TE := fun σ H Q => σ[i]? = some (some (V.ref a)) ∧ Q (.bl k) H
theorem pe_isE {i : Nat} {e c : Str} {C : Addr} {k : Bool} {p1 p2 p3 pos : Pos} (hc : CallR X (.builtin "isinstance") (rIsE X.K D a)) (hgl : Gl X "isinstance") (hm : X.mg "isinstance" = none) (n : Nm X i e) (hgc : Gl X c) (hmc : X.mg c = some (.ref C)) (hd : (c == ("__debug__" : Str)) = false)
    (hk : PySem.W.kitOne X.K (.ref D) (.ref C) = some k) : PE X (.Call (.Name "isinstance" p1) [.Name e p2, .Name c p3] [] pos) (tIsE i a k) :=
  PE.imp (pe_callB hc hgl hm (by decide +kernel) (pa_cons (pe_var (pos := p2) n.at_ n.vis n.d1 n.d2) (pa_cons (pe_glob (v := .ref C) hgc hmc rfl hd) pa_nil rfl) rfl) (by decide +kernel) (by decide +kernel) rfl rfl) fun σ H Q ⟨h1, h2⟩ =>
    ⟨_, h1, .ref C, .ref C, k, rfl, fun u r => r, hk, h2⟩
theorem pe_isT {i : Nat} {e c : Str} {T : String} {k : Bool} {p1 p2 p3 pos : Pos} (hc : CallR X (.builtin "isinstance") (rIsE X.K D a)) (hgl : Gl X "isinstance") (hm : X.mg "isinstance" = none) (n : Nm X i e) (hgc : Gl X c) (hmc : X.mg c = none) (hb : bootBuiltins c = some (.type T)) (hn : c ≠ "__name__") (hd : (c == ("__debug__" : Str)) = false)
    (hk : PySem.W.kitOne X.K (.ref D) (.type T) = some k) : PE X (.Call (.Name "isinstance" p1) [.Name e p2, .Name c p3] [] pos) (tIsE i a k) :=
  PE.imp (pe_callB hc hgl hm (by decide +kernel) (pa_cons (pe_var (pos := p2) n.at_ n.vis n.d1 n.d2) (pa_cons (pe_bltn (v := .ty T) hgc hmc hb rfl hn hd) pa_nil rfl) rfl) (by decide +kernel) (by decide +kernel) rfl rfl) fun σ H Q ⟨h1, h2⟩ =>
    ⟨_, h1, .ty T, .type T, k, rfl, fun u r => r, hk, h2⟩
/-- several of them -/
def tIsL (a : Addr) (ks : List Bool) : TA := fun σ H Q => σ[0]? = some (some (V.ref a)) ∧ Q (ks.map V.bl) H
theorem pa_is0 : PA X [] (tIsL a []) := PA.imp pa_nil fun σ H Q h => h.2
theorem pa_is1 {e : Expr} {es : List Expr} {k : Bool} {ks : List Bool} (h : PE X e (tIsE 0 a k)) (hr : PA X es (tIsL a ks)) (hs : noStar e = true) : PA X (e :: es) (tIsL a (k :: ks)) :=
  PA.imp (pa_cons h hr (star_cons hs)) fun σ H Q ⟨h1, h2⟩ => ⟨h1, h1, h2⟩
/-- the state of such a def: the exception, the answers so far -/
def NmSt (a : Addr) (Hs : Hp) (bs : List Bool) (σ : L2.St) (H : Hp) : Prop := σ[0]? = some (some (V.ref a)) ∧ σ.length = 5 ∧ Ext Hs H ∧ ∃ l, σ[1]? = some (some (V.ref l)) ∧ H l = some (.lst (bs.map V.bl))
variable {Hs : Hp}
theorem nm_set {es : List Expr} {ks : List Bool} {p1 p2 pos : Pos} {x : Str} (n : Nw X 1 x) (h : PA X es (tIsL a ks)) (hz : ks.length ≤ 1000) :
    PS X (.Assign [.Name x p1] (.List es p2) pos) (fun D σ H => σ[0]? = some (some (V.ref a)) ∧ σ.length = 5 ∧ Ext Hs H ∧ ∀ σ' H', NmSt a Hs ks σ' H' → D.nx σ' H') :=
  PS.imp (ps_set n.nd n.at_ n.loc (pe_lst h) rfl n.fn) fun D σ H ⟨h1, h2, h3, h4⟩ => ⟨h1, by rw [List.length_map, sizeLine_eq]; omega, fun p np => h4 _ _ ⟨by rw [List.getElem?_set_ne (by decide)]; exact h1, by rw [List.length_set]; exact h2, h3.trans (ext_upd np), p, by rw [List.getElem?_set_self (by omega)], upd_same⟩⟩
theorem nm_cat {es : List Expr} {ks bs : List Bool} {p1 p2 p3 p4 pos : Pos} {x : Str} (n : Nw X 1 x) (nm : Nm X 1 x) (h : PA X es (tIsL a ks)) (hz : ks.length ≤ 1000) (hz2 : bs.length ≤ 1000) :
    PS X (.Assign [.Name x p1] (.BinOp (.Name x p3) .Add (.List es p2) p4) pos) (fun D σ H => NmSt a Hs bs σ H ∧ ∀ σ' H', NmSt a Hs (bs ++ ks) σ' H' → D.nx σ' H') :=
  PS.imp (ps_set n.nd n.at_ n.loc (pe_op op_cat (pe_var (pos := p3) nm.at_ nm.vis nm.d1 nm.d2) (pe_lst h)) rfl n.fn) fun D σ H ⟨⟨h1, h2, h3, l, h4, h5⟩, h6⟩ => by
    refine ⟨_, h4, h1, by rw [List.length_map, sizeLine_eq]; omega, fun p np => ?_⟩
    have npl : p ≠ l := fun z => by rw [z, h5] at np; cases np
    refine ⟨l, p, bs.map V.bl, ks.map V.bl, rfl, rfl, by rw [upd_ne (Ne.symm npl)]; exact h5, upd_same, by rw [List.length_map, List.length_map, sizeLine_eq]; omega, fun q nq => h6 _ _ ⟨by rw [List.getElem?_set_ne (by decide)]; exact h1, by rw [List.length_set]; exact h2, (h3.trans (ext_upd np)).trans (ext_upd nq), q, by rw [List.getElem?_set_self (by omega)], ?_⟩⟩
    rw [upd_same, List.map_append]
theorem nm_lab {L x : Str} {bs : List Bool} {j : Nat} {p1 p2 pos : Pos} (n : Nw X 2 x) :
    PS X (.Assign [.Name x p1] (.Constant (.str L) j p2) pos) (fun D σ H => NmSt a Hs bs σ H ∧ ∀ σ', NmSt a Hs bs σ' H → σ'[2]? = some (some (V.str L)) → D.nx σ' H) :=
  PS.imp (ps_set n.nd n.at_ n.loc pe_str rfl n.fn) fun D σ H ⟨⟨h1, h2, h3, l, h4, h5⟩, h6⟩ => h6 _ ⟨by rw [List.getElem?_set_ne (by decide)]; exact h1, by rw [List.length_set]; exact h2, h3, l, by rw [List.getElem?_set_ne (by decide)]; exact h4, h5⟩ (by rw [List.getElem?_set_self (by omega)])
/-- those picked -/
def pick : List Str → List Bool → List Str
  | l :: ls, b :: bs => if b = true then l :: pick ls bs else pick ls bs
  | _, _ => []
theorem pick_take (ls : List Str) (bs : List Bool) (hl : ls.length = bs.length) : ∀ i, i < ls.length → ∀ l b, ls[i]? = some l → bs[i]? = some b → pick (ls.take (i + 1)) (bs.take (i + 1)) = pick (ls.take i) (bs.take i) ++ (if b = true then [l] else []) := by
  induction ls generalizing bs with
  | nil => intro i h; simp at h
  | cons x xs ih =>
    intro i hi l b e1 e2
    cases bs with
    | nil => simp at hl
    | cons y ys =>
      cases i with
      | zero =>
        simp at e1 e2
        subst e1 e2
        simp only [List.take_succ_cons, List.take_zero, pick, List.nil_append]
      | succ i =>
        have q := ih ys (by simpa using hl) i (by simpa using hi) l b (by simpa using e1) (by simpa using e2)
        simp only [List.take_succ_cons, pick]
        rw [q]
        split <;> rfl
theorem nm_ret {L nm x1 x2 x3 x4 : Str} {bs : List Bool} {j j2 j3 k5 : Nat} {scope : Scope} {pa pb pc pd pe2 pf pg ph pi pj pk pl pm pn po pq pr ps : Pos} (hot : HotC X) (hN : X.N.Nodup) (n1 : Nm X 1 x1) (n2 : Nm X 2 x2)
    (ok : BlkOk X.N X.env.scope scope [(x3, 3), (x4, 4)]) (hsc : scope.names.lookup x3 = some .local ∧ scope.names.lookup x4 = some .local) (hd3 : (x3 == ("__debug__" : Str)) = false ∧ (x3 == ("__classdict__" : Str)) = false) (hd4 : (x4 == ("__debug__" : Str)) = false ∧ (x4 == ("__classdict__" : Str)) = false)
    (hz : Gl X "zip") (hzm : X.mg "zip" = none) (hl : (pm.endLine == pn.line) = true) (hl2 : (pa.endLine == pb.line) = true) (hlen : (Txt.split L " ").length = bs.length) (hL : L.length ≤ 1000) (hb : bs.length ≤ 1000)
    (hlens : (pick (Txt.split L " ") bs |>.map (·.length)).sum + (pick (Txt.split L " ") bs).length * (" " : Str).length ≤ 16777216) (hnm : Txt.join " " (pick (Txt.split L " ") bs) = nm) :
    PS X (.Return (some (.Call (.Attribute (.Constant (.str " ") j pc) "join" pa) [.ListComp (.Name x3 pd) [⟨.Tuple [.Name x3 pe2, .Name x4 pf] k5 pg, .Call (.Name "zip" ph) [.Call (.Attribute (.Name x2 pi) "split" pm) [.Constant (.str " ") j2 pj] [] pn, .Name x1 pk] [] pl, [.Name x4 po], 0⟩] scope pq] [] pb)) pr)
      (fun D σ H => NmSt a Hs bs σ H ∧ σ[2]? = some (some (V.str L)) ∧ ∀ H', Ext Hs H' → D.rt (.str nm) H') := by
  have hsplit : MtR X "str.split" _ := mt_split
  have hjoin : MtR X "str.join" _ := mt_join
  have nmB : ∀ (s : Shared) (H : Hp) (C : Addr) (cl : List (Str × Addr)) (fp : List Addr), ((X.blk s H scope (compEnvC scope cl C X.env) fp).env.scope.names.lookup x3 = some .local) ∧ ((X.blk s H scope (compEnvC scope cl C X.env) fp).env.scope.names.lookup x4 = some .local) := fun s H C cl fp => ⟨lookup_relS_keep (by decide) hsc.1, lookup_relS_keep (by decide) hsc.2⟩
  have i3 : X.N[3]? = some x3 := ok.ix (x3, 3) (by simp)
  have i4 : X.N[4]? = some x4 := ok.ix (x4, 4) (by simp)
  refine PS.imp (ps_ret (pe_bm PySem.F.plainAttrs_str PySem.F.slot_str_join PySem.F.type_str_join hjoin (pe_str (x := " ")) (pa_cons (ap_pe_lcH (own := [(x3, 3), (x4, 4)]) hot hN
    (ap_pi_zipK hz hzm (pa_cons (pe_bm PySem.F.plainAttrs_str PySem.F.slot_str_split PySem.F.type_str_split hsplit (pe_var (pos := pi) n2.at_ n2.vis n2.d1 n2.d2) (pa_cons (pe_str (x := " ")) pa_nil rfl) rfl rfl hl rfl rfl) (pa_cons (pe_var (pos := pk) n1.at_ n1.vis n1.d1 n1.d2) pa_nil rfl) rfl) rfl rfl)
    ok (g := gTup X.K 2 (gCons (gName 3) (gCons (gName 4) gNil))) (tt := tTest (tVar 4)) (te := tVar 3)
    (fun s H C cl fp hb => pg_tupH hb (pgs_cons (pg_name hN i3 (.inl (nmB s H C cl fp).1) (.inr (nmB s H C cl fp).1)) (pgs_cons (pg_name hN i4 (.inl (nmB s H C cl fp).2) (.inr (nmB s H C cl fp).2)) pgs_nil rfl) rfl) rfl rfl)
    (fun s H C cl fp => pts_one (pt_val (pe_var (i := 4) i4 (.inl (nmB s H C cl fp).2) hd4.1 hd4.2) (fun _ => rfl)))
    (fun s H C cl fp => pe_var (i := 3) i3 (.inl (nmB s H C cl fp).1) hd3.1 hd3.2)) pa_nil rfl) rfl rfl hl2 rfl rfl)) fun D σ H ⟨⟨h1, h2, h3, l, h4, h5⟩, h6, h7⟩ => ?_
  refine ⟨rfl, ?_⟩
  refine ⟨_, h6, rfl, L, " ", rfl, rfl, by decide +kernel, by rw [sizeLine_eq]; omega, fun q nq => ?_⟩
  have nql : q ≠ l := fun z => by rw [z, h5] at nq; cases nq
  refine ⟨_, h4, q, l, _, _, rfl, SqL.of upd_same, SqL.of (by rw [upd_ne (Ne.symm nql)]; exact h5), ?_⟩
  intro A nA
  have hlm : ((Txt.split L " ").map V.str).length = (bs.map V.bl).length := by rw [List.length_map, List.length_map, hlen]
  have nAq : q ≠ A := fun z => by rw [← z, upd_same] at nA; cases nA
  have nAl : l ≠ A := fun z => by rw [← z, upd_ne (Ne.symm nql), h5] at nA; cases nA
  have base : Ext Hs (upd H q (.lst ((Txt.split L " ").map V.str))) := h3.trans (ext_upd nq)
  refine lc_it (vs := [3, 4]) (walk_zip (K := X.K) (a := q) (b := l) (xs := (Txt.split L " ").map V.str) (ys := bs.map V.bl) rfl)
    (fun i Hc => Hc A = some (.lst ((pick ((Txt.split L " ").take i) (bs.take i)).map V.str)) ∧ Hc q = some (.lst ((Txt.split L " ").map V.str)) ∧ Hc l = some (.lst (bs.map V.bl)) ∧ Ext Hs Hc) ?_ ?_ ?_ ?_
  · exact ⟨upd_same, by rw [upd_ne nAq]; exact upd_same, by rw [upd_ne nAl, upd_ne (Ne.symm nql)]; exact h5, base.trans (ext_upd nA)⟩
  · rintro i Hc _ ⟨k1, k2, k3, k4⟩
    exact ⟨SqL.of k2, SqL.of k3⟩
  · rintro i x Hc Hn hi ⟨k1, k2, k3, k4⟩ ⟨T, u, v, rfl, nT, rfl, hu, hv⟩
    rw [List.length_map, List.length_map, ← hlen, Nat.min_self] at hi
    obtain ⟨b, hb1⟩ : ∃ b, bs[i]? = some b := ⟨bs[i], by simp [show i < bs.length by omega]⟩
    obtain ⟨s1, hs1⟩ : ∃ s1, (Txt.split L " ")[i]? = some s1 := ⟨(Txt.split L " ")[i], by simp [hi]⟩
    have eu : u = V.str s1 := by
      have hu : ((Txt.split L " ").map V.str)[i]? = some u := hu
      rw [List.getElem?_map, hs1] at hu; cases hu; rfl
    have ev : v = V.bl b := by
      have hv : (bs.map V.bl)[i]? = some v := hv
      rw [List.getElem?_map, hb1] at hv; cases hv; rfl
    subst eu ev
    have hstep := pick_take (Txt.split L " ") bs hlen i hi s1 b hs1 hb1
    have nTA : T ≠ A := fun z => by rw [z, k1] at nT; cases nT
    have nTq : T ≠ q := fun z => by rw [z, k2] at nT; cases nT
    have nTl : T ≠ l := fun z => by rw [z, k3] at nT; cases nT
    have hw5 : (wipe σ [3, 4]).length = 5 := by rw [wipe_length]; exact h2
    refine ⟨T, _, rfl, SqT.of upd_same, rfl, _, _, rfl, _, _, rfl, rfl, ?_⟩
    refine ⟨?_, ?_⟩
    · apply List.ext_getElem?
      intro j
      simp only [wipe]
      by_cases j3 : j = 3
      · subst j3
        rw [List.getElem?_set_self (by simp [h2]), List.getElem?_set_self (by simp [h2])]
      · by_cases j4 : j = 4
        · subst j4
          rw [List.getElem?_set_ne (by decide), List.getElem?_set_self (by simp [h2]), List.getElem?_set_ne (by decide), List.getElem?_set_self (by simp [h2])]
        · simp only [List.getElem?_set_ne (Ne.symm j3), List.getElem?_set_ne (Ne.symm j4)]
    · refine ⟨V.bl b, by rw [List.getElem?_set_self (by rw [List.length_set]; omega)], b, rfl, ?_⟩
      have kA : (upd Hc T (.tup [V.str s1, V.bl b])) A = some (.lst ((pick ((Txt.split L " ").take i) (bs.take i)).map V.str)) := by rw [upd_ne (Ne.symm nTA)]; exact k1
      have kq : (upd Hc T (.tup [V.str s1, V.bl b])) q = some (.lst ((Txt.split L " ").map V.str)) := by rw [upd_ne (Ne.symm nTq)]; exact k2
      have kl : (upd Hc T (.tup [V.str s1, V.bl b])) l = some (.lst (bs.map V.bl)) := by rw [upd_ne (Ne.symm nTl)]; exact k3
      have ke : Ext Hs (upd Hc T (.tup [V.str s1, V.bl b])) := k4.trans (ext_upd nT)
      cases b with
      | false =>
        refine (if_neg (show ¬ (false = true) by decide)).mpr ?_
        refine ⟨?_, kq, kl, ke⟩
        rw [hstep, if_neg (by decide), List.append_nil]; exact kA
      | true =>
        refine (if_pos (show true = true from rfl)).mpr ?_
        refine ⟨V.str s1, by rw [List.getElem?_set_ne (by decide), List.getElem?_set_self (by omega)], _, kA, ?_, ?_, ?_, ?_, ?_⟩
        · have : (pick ((Txt.split L " ").take i) (bs.take i)).length ≤ i := by
            have : ∀ (a : List Str) (c : List Bool), (pick a c).length ≤ a.length := by
              intro a
              induction a with
              | nil => intro c; cases c <;> exact Nat.le_refl _
              | cons x xs ih =>
                intro c
                cases c with
                | nil => exact Nat.zero_le _
                | cons y ys =>
                  simp only [pick]
                  split
                  · simp only [List.length_cons]; have := ih ys; omega
                  · simp only [List.length_cons]; have := ih ys; omega
            refine Nat.le_trans (this _ _) ?_
            rw [List.length_take]; omega
          rw [List.length_map, sizeLine_eq]
          omega
        · rw [upd_same, hstep, if_pos rfl, List.map_append]; rfl
        · rw [upd_ne nAq]; exact kq
        · rw [upd_ne nAl]; exact kl
        · intro c o ho
          have hcA : c ≠ A := fun z => by
            have := base A o (by rw [← z]; exact ho)
            rw [nA] at this; cases this
          rw [upd_ne hcA]; exact ke c o ho
  · rintro Hc ⟨k1, k2, k3, k4⟩
    rw [List.length_map, List.length_map, ← hlen, Nat.min_self] at k1
    rw [List.take_length, hlen, List.take_length] at k1
    refine ⟨" ", A, pick (Txt.split L " ") bs, rfl, rfl, .inl (SqL.of k1), hlens, ?_⟩
    rw [hnm]
    exact h7 Hc k4
end
end AP
end
section
set_option maxHeartbeats 2000000
/-! E3: the def that names an error, called where it is handled -/
namespace AP
open PySem PySem.Spec PyProof.Rows L2 L2H

/-- a def's promise where p is handled -/
structure FnHp (P : Program) (w : World) (K : PySem.W.Frag) (mg : Str → Option Value) (base : Heap) (CX : CXT) (k : Nat) (p : Addr × Obj) (f : Addr) (fd : FuncData) (ps : List Str) (sp : Sp) : Prop where
  len : ∀ vs H Q E, sp vs H Q E → vs.length = ps.length
  run : ∀ (A : Around) (outer : List PySem.Env) (s : Shared) (H : Hp) (args : Args) (us : List Value) (vs : List V) (Q : VK) (E : XK), RoomH k A → Hot1 A p → PinOk outer H s p → Env0 P w K mg base A outer s H → BindsTo s fd args (ps.zip us) → Vals vs us → sp vs H Q E →
    codeAny (model P w) A (.call (.ref f) args) (CR CX outer P w H s Q E) s
theorem fn_ofHp {CX : CXT} {P : Program} {w : World} {K : PySem.W.Frag} {mg : Str → Option Value} {base : Heap} {k : Nat} {p : Addr × Obj} {f : Addr} {name qual : Str} {params : Arguments} {body : List Stmt} {scope : Scope} {dV kV doc pm cdv ct oc : Value} {an od : Option Addr}
    {osl : Array (Option Value)} {N ps : List Str} {sp : Sp} (lk : K.lookup f = some ⟨oc, od, .func (PySem.W.fnOf name qual params body scope dV kV doc pm an cdv ct), osl⟩) (hcd : PySem.W.codeIn K cdv qual = true) (S : FnScope N ps scope)
    (len : ∀ vs H Q E, sp vs H Q E → vs.length = ps.length)
    (hbody : ∀ (A : Around) (outer : List PySem.Env) (s : Shared) (H : Hp) (vs : List V) (Q : VK) (E : XK), Hot1 A p → RoomH k (A.deeper (envOfC qual scope s.heap.objs.size f cdv)) → sp vs H Q E →
      ∃ t, PSs (cxH CX P w K mg base N qual scope f cdv A outer s H E p) body t ∧ t { nx := fun _ H' => Q .non H', rt := Q } (L2.start N vs) H) :
    FnHp P w K mg base CX (k + 1) p f (PySem.W.fnOf name qual params body scope dV kV doc pm an cdv ct) ps sp := by
  refine ⟨len, fun A outer s H args us vs Q E hr hot hpin e0 hb r hsp => ?_⟩
  have hl := len _ _ _ _ hsp
  have KX : K.In s.heap := e0.mod.kin.keeps fun b o e => (e0.bs b o e).1
  have lim : s.heap.NoLimit := e0.mod.nolimit.keeps fun b o e => (e0.bs b o e).1
  have hkind : ∀ y ∈ ps.zip us, scope.names.lookup y.1 = some .local ∨ (scope.names.lookup y.1 = some .cell ∧ ((cellsFrom (s.heap.objs.size + 1) scope.names []).lookup y.1).isSome = true) := fun ⟨n, v⟩ hy => by
    rcases S.par n (List.of_mem_zip hy).1 with q | q
    · exact .inl q
    · exact .inr ⟨q, PySem.W.cellsFrom_some _ _ _ (.inl q)⟩
  refine codeAny_call_function hr.depth (KX _ _ lk) rfl S.co S.gen rfl (PySem.W.codeRec_of KX hcd) (hb _ _ _ _ ?_)
  refine wpAny_newFunctionEnv_cells S.kind hkind fun env he s1 x => ?_
  subst he
  refine ⟨lim.keeps x.toInCall.keep, codeAny_func ?_⟩
  obtain ⟨t, ht, hq⟩ := hbody A outer s H vs Q E hot (hr.deeper _) hsp
  have I : Inv (cxH CX P w K mg base N qual scope f cdv A outer s H E p) [] (L2.start N vs) H s1 := inv_startH S hpin e0 hl r x
  refine wpAny_mono (ht.run [] s1 (L2.start N vs) H _ I hq) (fun fl s' hs => ?_) fun e s' hs => hs
  have fin : ∀ {σ' : L2.St} {H' : Hp} {v : V} {u : Value}, Inv (cxH CX P w K mg base N qual scope f cdv A outer s H E p) [] σ' H' s' → RelV v u → Q v H' → CE outer P w H s Q u s' :=
    fun {σ' H' v u} J rv q => ⟨v, H', J.os, J.bare, J.base, J.hok, rv, q⟩
  cases fl with
  | ret u =>
    obtain ⟨v, σ', H', J, rv, q⟩ := hs
    exact fin J rv q
  | next =>
    obtain ⟨σ', H', J, q⟩ := hs
    exact fin (v := V.non) (u := Value.none) J rfl q
  | brk =>
    obtain ⟨_, _, _, q⟩ := hs
    exact False.elim q
  | cont =>
    obtain ⟨_, _, _, q⟩ := hs
    exact False.elim q
section
variable {X : Cx} {CX : CXT} {k : Nat} {p : Addr × Obj} {f : Addr} {fd : FuncData} {ps : List Str} {sp : Sp} {E : L2.St → XK} {x : Str} {q pos : Pos} {e : Expr} {es : List Expr} {t : TA}
theorem pe_callHp (F : FnHp X.prog X.w X.K X.mg X.base CX k p f fd ps sp) (hr : RoomH k X.A) (hot : Hot1 X.A p) (hp : p ∈ X.pn) (hg : Gl X x) (hm : X.mg x = some (.ref f)) (hk : PySem.W.keepIn X.K (.ref f) = true) (hb : L2.Binds X.K fd ps []) (hx : ∀ σ, PassesAt CX X σ (E σ))
    (ha : PA X (e :: es) t) (hdb : (x == ("__debug__" : Str)) = false) (he : starEach (e :: es) X.env = (false, eval e X.env) :: starEach es X.env) (hpl : (backTo pos (starEach es X.env)).any (·.1) = false) :
    PE X (.Call (.Name x q) (e :: es) [] pos) (tCallS sp E t) := by
  refine ⟨fun pins s σ H Q I h => ?_⟩
  refine wpAny_Call_Name_kw (ld_glob I hg hm ?_ hdb)
  refine PySem.W.callWith_K (h₀ := X.base) I.ok.mod.kin hk (thn (ha.run pos pins s σ H _ I h) fun us s1 ⟨vs, H1, I1, r, q⟩ => ⟨I1.kIn, ?_⟩) he hpl
  have hl : us.length = ps.length := by rw [← r.length]; exact F.len _ _ _ _ q
  have b := hb s1 us I1.kIn (by rw [List.append_nil]; exact hl)
  rw [List.append_nil] at b
  have P1 := I1.pin p (List.mem_append_left _ hp)
  have hpin : PinOk X.stack H1 s1 p := ⟨P1.1, P1.2.1, fun hm => (List.mem_cons.mp (I1.stkSub p.1 hm)).elim P1.2.2.1 P1.2.2.2.1, P1.2.2.2.2⟩
  refine wpAny_call (codeAny_mono (F.run X.A X.stack s1 H1 ⟨us, []⟩ us vs Q (E σ) hr hot hpin I1.env0 b r q) fun r s' hq => ?_)
  cases r with
  | error e => exact hx σ pins H1 s1 e s' I1 hq
  | ok fl =>
    cases fl with
    | ret u => exact I1.after hq
    | next => exact False.elim hq
    | brk => exact False.elim hq
    | cont => exact False.elim hq
end

/-! ### the text of the def that names -/
def nmB (N : List Str) (sc : Scope) (i : Nat) (x : Str) : Bool :=
  decide (N[i]? = some x) && decide (sc.names.lookup x = some .local) && !(x == ("__debug__" : Str)) && !(x == ("__classdict__" : Str))
theorem nmB_nm {X : Cx} {i : Nat} {x : Str} (h : nmB X.N X.env.scope i x = true) : Nm X i x := by
  unfold nmB at h
  simp only [Bool.and_eq_true, decide_eq_true_eq, Bool.not_eq_true'] at h
  exact ⟨h.1.1.1, .inl h.1.1.2, h.1.2, h.2⟩
theorem nmB_nw {X : Cx} (nd : X.N.Nodup) {i : Nat} {x : Str} (h : nmB X.N X.env.scope i x = true) : Nw X i x := by
  unfold nmB at h
  simp only [Bool.and_eq_true, decide_eq_true_eq, Bool.not_eq_true'] at h
  exact ⟨h.1.1.1, nd, .inl h.1.1.2, .inr h.1.1.2⟩
def glB (sc : Scope) (x : Str) : Bool := decide (sc.names.lookup x = some .globalImplicit) && !(x == ("__debug__" : Str))
theorem glB_gl {X : Cx} {x : Str} (h : glB X.env.scope x = true) : Gl X x ∧ (x == ("__debug__" : Str)) = false := by
  unfold glB at h
  simp only [Bool.and_eq_true, decide_eq_true_eq, Bool.not_eq_true'] at h
  exact ⟨h.1, h.2⟩
def isOne (N : List Str) (sc : Scope) (i : Nat) : Expr → Option Str
  | .Call (.Name f _) [.Name e _, .Name c _] [] _ => if (decide (f = ("isinstance" : Str)) && glB sc ("isinstance" : Str) && nmB N sc i e && glB sc c) = true then some c else none
  | _ => none
def isAll (N : List Str) (sc : Scope) : List Expr → Option (List Str)
  | [] => some []
  | e :: es => match isOne N sc 0 e with
    | some c => (match isAll N sc es with | some cs => if noStar e = true then some (c :: cs) else none | none => none)
    | none => none
section
variable {X : Cx} {a D : Addr} {oe : Obj} {cl : Str → Addr} {ky : Str → Bool}
theorem isAll_snd (hc : CallR X (.builtin "isinstance") (rIsE X.K D a)) (hi : X.mg "isinstance" = none) : ∀ (es : List Expr) (ys : List Str), isAll X.N X.env.scope es = some ys → (∀ y ∈ ys, X.mg y = some (.ref (cl y)) ∧ PySem.W.kitOne X.K (.ref D) (.ref (cl y)) = some (ky y)) → PA X es (tIsL a (ys.map ky))
  | [], ys, h, _ => by
    cases h
    exact pa_is0
  | e :: es, ys, h, hy => by
    unfold isAll at h
    split at h
    · rename_i c hone
      split at h
      · rename_i cs hall
        split at h
        · rename_i hs
          cases h
          have ih := isAll_snd hc hi es cs hall fun y hm => hy y (List.mem_cons_of_mem _ hm)
          obtain ⟨h1, h2⟩ := hy c List.mem_cons_self
          unfold isOne at hone
          split at hone
          · rename_i f pf e' pe' c' pc' pos'
            split at hone
            · rename_i hb
              simp only [Bool.and_eq_true, decide_eq_true_eq] at hb
              obtain ⟨⟨⟨hb1, hb2⟩, hb3⟩, hb4⟩ := hb
              cases hone
              subst hb1
              refine pa_is1 (pe_isE hc (glB_gl hb2).1 hi (nmB_nm hb3) (glB_gl hb4).1 h1 (glB_gl hb4).2 h2) ih hs
            · cases hone
          · cases hone
        · cases h
      · cases h
    · cases h
end
/-- the def's text: the classes asked for, the labels -/
def named (N : List Str) (sc : Scope) : List Stmt → Option (List Str × List Str × List Str × List Str × Str)
  | [.Assign [.Name x1 _] (.List e1 _) _, .Assign [.Name x2 _] (.BinOp (.Name x3 _) .Add (.List e2 _) _) _, .Assign [.Name x4 _] (.BinOp (.Name x5 _) .Add (.List e3 _) _) _, .Assign [.Name x6 _] (.BinOp (.Name x7 _) .Add (.List e4 _) _) _,
     .Assign [.Name y1 _] (.Constant (.str L) _ _) _, r] =>
    if (decide (x1 = x2) && decide (x2 = x3) && decide (x3 = x4) && decide (x4 = x5) && decide (x5 = x6) && decide (x6 = x7) && nmB N sc 1 x1 && nmB N sc 2 y1) = true then
      (match isAll N sc e1, isAll N sc e2, isAll N sc e3, isAll N sc e4 with
      | some k1, some k2, some k3, some k4 => some (k1, k2, k3, k4, L)
      | _, _, _, _ => none)
    else none
  | _ => none
def namedRet (N : List Str) (sc : Scope) : Stmt → Bool
  | .Return (some (.Call (.Attribute (.Constant (.str s1) _ _) m pa) [.ListComp (.Name x3 _) [⟨.Tuple [.Name x3' _, .Name x4 _] _ _, .Call (.Name z _) [.Call (.Attribute (.Name x2 _) sp pm) [.Constant (.str s2) _ _] [] pn, .Name x1 _] [] _, [.Name x4' _], ia⟩] scope _] [] pb)) _ =>
    decide (s1 = (" " : Str)) && decide (s2 = (" " : Str)) && decide (m = ("join" : Str)) && decide (sp = ("split" : Str)) && decide (x3 = x3') && decide (x4 = x4') && decide (z = ("zip" : Str)) && decide (ia = 0) && nmB N sc 1 x1 && nmB N sc 2 x2 && glB sc ("zip" : Str) &&
      blkC N sc scope [(x3, 3), (x4, 4)] && decide (scope.names.lookup x3 = some .local) && decide (scope.names.lookup x4 = some .local) && !(x3 == ("__debug__" : Str)) && !(x3 == ("__classdict__" : Str)) && !(x4 == ("__debug__" : Str)) && !(x4 == ("__classdict__" : Str)) &&
      (pm.endLine == pn.line) && (pa.endLine == pb.line)
  | _ => false
def namedEnd : List Stmt → Option Stmt
  | [_, _, _, _, _, r] => some r
  | _ => none
end AP
end
section
set_option maxHeartbeats 2000000
/-! E4: its reading -/
namespace AP
open PySem PySem.Spec PyProof.Rows L2 L2H

section
variable {X : Cx} {a D : Addr} {cl : Str → Addr} {ky : Str → Bool}
theorem namedRet_snd {Hs : Hp} {nm L : Str} {bs : List Bool} {r : Stmt} (hot : HotC X) (hN : X.N.Nodup) (hzm : X.mg "zip" = none) (h : namedRet X.N X.env.scope r = true) (hlen : (Txt.split L " ").length = bs.length) (hL : L.length ≤ 1000) (hb : bs.length ≤ 1000)
    (hlens : (pick (Txt.split L " ") bs |>.map (·.length)).sum + (pick (Txt.split L " ") bs).length * (" " : Str).length ≤ 16777216) (hnm : Txt.join " " (pick (Txt.split L " ") bs) = nm) :
    PS X r (fun D σ H => NmSt a Hs bs σ H ∧ σ[2]? = some (some (V.str L)) ∧ ∀ H', Ext Hs H' → D.rt (.str nm) H') := by
  unfold namedRet at h
  split at h
  · simp only [Bool.and_eq_true, decide_eq_true_eq, Bool.not_eq_true'] at h
    obtain ⟨⟨⟨⟨⟨⟨⟨⟨⟨⟨⟨⟨⟨⟨⟨⟨⟨⟨⟨e1, e2⟩, e3⟩, e4⟩, e5⟩, e6⟩, e7⟩, e8⟩, e9⟩, e10⟩, e11⟩, e12⟩, e13⟩, e14⟩, e15⟩, e16⟩, e17⟩, e18⟩, e19⟩, e20⟩ := h
    subst e1 e2 e3 e4 e5 e6 e7 e8
    exact nm_ret (j3 := 0) (ps := (by assumption)) hot hN (nmB_nm e9) (nmB_nm e10) (blkOk_by e12) ⟨e13, e14⟩ ⟨e15, e16⟩ ⟨e17, e18⟩ (glB_gl e11).1 hzm e19 e20 hlen hL hb hlens hnm
  · cases h
theorem named_snd {nm : Str} {k1 k2 k3 k4 : List Str} {L : Str} {body : List Stmt} {r : Stmt} (hot : HotC X) (hN : X.N.Nodup) (hc : CallR X (.builtin "isinstance") (rIsE X.K D a)) (hi : X.mg "isinstance" = none) (hzm : X.mg "zip" = none)
    (h1 : named X.N X.env.scope body = some (k1, k2, k3, k4, L)) (h2 : namedEnd body = some r) (h3 : namedRet X.N X.env.scope r = true)
    (hy : ∀ y ∈ ((k1 ++ k2) ++ k3) ++ k4, X.mg y = some (.ref (cl y)) ∧ PySem.W.kitOne X.K (.ref D) (.ref (cl y)) = some (ky y))
    (hlen : (Txt.split L " ").length = (((k1 ++ k2) ++ k3) ++ k4).length) (hL : L.length ≤ 1000) (hb : (((k1 ++ k2) ++ k3) ++ k4).length ≤ 1000)
    (hlens : (pick (Txt.split L " ") ((((k1 ++ k2) ++ k3) ++ k4).map ky) |>.map (·.length)).sum + (pick (Txt.split L " ") ((((k1 ++ k2) ++ k3) ++ k4).map ky)).length * (" " : Str).length ≤ 16777216)
    (hnm : Txt.join " " (pick (Txt.split L " ") ((((k1 ++ k2) ++ k3) ++ k4).map ky)) = nm) :
    PSs X body (fun D σ H => σ[0]? = some (some (V.ref a)) ∧ σ.length = 5 ∧ ∀ H', Ext H H' → D.rt (.str nm) H') := by
  unfold named at h1
  split at h1
  · rename_i x1 p1 es1 p2 p3 x2 p4 x3 p5 es2 p6 p7 p8 x4 p9 x5 p10 es3 p11 p12 p13 x6 p14 x7 p15 es4 p16 p17 p18 y1 p19 L' j p20 p21 r'
    split at h1
    · rename_i hb1
      simp only [Bool.and_eq_true, decide_eq_true_eq] at hb1
      obtain ⟨⟨⟨⟨⟨⟨⟨e1, e2⟩, e3⟩, e4⟩, e5⟩, e6⟩, e7⟩, e8⟩ := hb1
      subst e1 e2 e3 e4 e5 e6
      split at h1
      · rename_i q1 q2 q3 q4 g1 g2 g3 g4
        cases h1
        cases h2
        have L1 : (k1 ++ k2 ++ k3 ++ k4).length = k1.length + k2.length + k3.length + k4.length := by simp only [List.length_append]
        have a1 := isAll_snd (a := a) hc hi es1 k1 g1 fun y hm => hy y (by simp [hm])
        have a2 := isAll_snd (a := a) hc hi es2 k2 g2 fun y hm => hy y (by simp [hm])
        have a3 := isAll_snd (a := a) hc hi es3 k3 g3 fun y hm => hy y (by simp [hm])
        have a4 := isAll_snd (a := a) hc hi es4 k4 g4 fun y hm => hy y (by simp [hm])
        have n1 := nmB_nm e7
        have w1 := nmB_nw hN e7
        have w2 := nmB_nw hN e8
        refine ⟨fun pins s σ H Dd I ⟨z1, z2, z3⟩ => ?_⟩
        have body := pss_cons (nm_set (pos := p3) (p1 := p1) (p2 := p2) (Hs := H) w1 a1 (by rw [List.length_map]; omega)) (pss_cons (nm_cat (pos := p8) (p1 := p4) (p2 := p6) (p3 := p5) (p4 := p7) (Hs := H) (bs := k1.map ky) w1 n1 a2 (by rw [List.length_map]; omega) (by rw [List.length_map]; omega))
          (pss_cons (nm_cat (pos := p13) (p1 := p9) (p2 := p11) (p3 := p10) (p4 := p12) (Hs := H) (bs := k1.map ky ++ k2.map ky) w1 n1 a3 (by rw [List.length_map]; omega) (by rw [List.length_append, List.length_map, List.length_map]; omega))
          (pss_cons (nm_cat (pos := p18) (p1 := p14) (p2 := p16) (p3 := p15) (p4 := p17) (Hs := H) (bs := k1.map ky ++ k2.map ky ++ k3.map ky) w1 n1 a4 (by rw [List.length_map]; omega) (by rw [List.length_append, List.length_append, List.length_map, List.length_map, List.length_map]; omega))
          (pss_cons (nm_lab (pos := p21) (p1 := p19) (p2 := p20) (Hs := H) (a := a) (bs := k1.map ky ++ k2.map ky ++ k3.map ky ++ k4.map ky) (L := L) (j := j) w2)
          (pss_one (namedRet_snd (Hs := H) (a := a) (nm := nm) (L := L) (bs := k1.map ky ++ k2.map ky ++ k3.map ky ++ k4.map ky) hot hN hzm h3 (by rw [hlen]; simp only [List.length_append, List.length_map]) hL (by simp only [List.length_append, List.length_map] at hb ⊢; exact hb) (by simpa only [List.map_append] using hlens) (by simpa only [List.map_append] using hnm)))))))
        refine body.run pins s σ H Dd I ?_
        refine ⟨z1, z2, Ext.refl _, fun σ1 H1 s1 => ⟨s1, fun σ2 H2 s2 => ⟨s2, fun σ3 H3 s3 => ⟨s3, fun σ4 H4 s4 => ⟨s4, fun σ5 s5 s6 => ⟨s5, s6, z3⟩⟩⟩⟩⟩⟩
      · cases h1
    · cases h1
  · cases h1
end
end AP
end
section
set_option maxHeartbeats 2000000
/-! E5: a lambda handed to a def: the heap's domain only grows; exceptions with no context -/
namespace AP
open PySem PySem.Spec PyProof.Rows L2 LamX

/-- the context of the lambda's body -/
abbrev lamCxN (X : Cx) (A : Around) (outer : List PySem.Env) (s : Shared) (H : Hp) (E : XK) (scope : Scope) (f c' : Addr) : Cx :=
  (lamCx X A outer s H E scope f c').wish fun e s' => wpAny (model X.prog X.w) (A.deeper (lamEnv X scope s.heap.objs.size f c')) (leaving (lamEnv X scope s.heap.objs.size f c') e) (fun _ s'' => L2N.CX X.prog X.w outer H s E e s'') (fun e' s'' => L2N.CX X.prog X.w outer H s E e' s'') s'
section
variable {X : Cx} {pins : List (Addr × Obj)} {σ : L2.St} {H HZ : Hp} {s s1 : Shared}
/-- x(), in the def that got the lambda: Z is that def's context, entered at s -/
theorem ap_pe_act {CXg : CXT} {Eg : XK} {Ng : List Str} {qg : Str} {sg : Scope} {g f c' : Addr} {cdg pm ctv : Value} {params : Arguments} {body : Expr} {scope : Scope} {k i : Nat} {a : Str} {pn : List (Addr × Obj)} {xe : Value → Shared → Prop} {W : WX} {E : XK} {tb : TE} {p1 p2 : Pos}
    (I : Inv X pins σ H s) (L : LamS X.env.scope scope) (hf : s.heap.get? f = some (PySem.W.kla_obj "<lambda>" (X.env.qual ++ "<lambda>") params body scope (cloFrom X.env.cells scope.names []) pm c' ctv)) (hfn : H f = none) (hfr : f ∉ frs X.stack)
    (hbind : bindArgs (PySem.W.kla_fn "<lambda>" (X.env.qual ++ "<lambda>") params body scope (cloFrom X.env.cells scope.names []) pm (.ref c') ctv) ⟨[], []⟩ = pure [])
    (tk : L2N.Takes ((cxOf CXg X.prog X.w X.K X.mg X.base Ng qg sg g cdg X.A X.stack s H Eg).tr pn xe) W) (hW : ∀ cls d σ' H', E cls d H' → W cls d σ' H') (hr : Room (k + 1) (X.A.deeper (envOfC qg sg s.heap.objs.size g cdg)))
    (hbody : ∀ (A : Around) (outer : List PySem.Env) (s : Shared) (H : Hp), Room k (A.deeper (lamEnv X scope s.heap.objs.size f c')) → PE (lamCxN X A outer s H E scope f c') body tb)
    (hN : Ng[i]? = some a) (hv : Vis sg a) (hd : (a == ("__debug__" : Str)) = false := by decide) (hcd : (a == ("__classdict__" : Str)) = false := by decide) :
    PE ((cxOf CXg X.prog X.w X.K X.mg X.base Ng qg sg g cdg X.A X.stack s H Eg).tr pn xe) (.Call (.Name a p1) [] [] p2)
      (fun σZ HZ Q => σZ[i]? = some (some (.ref f)) ∧ HZ c' = some (CodeO c' (X.env.qual ++ "<lambda>")) ∧ tb σ HZ Q) := by
  refine ⟨fun pinsZ sZ σZ HZ Q IZ h => ?_⟩
  obtain ⟨hs, hc, ht⟩ := h
  refine wpAny_Call_Name_kw (thn ((pe_var (pos := p1) (i := i) hN hv hd hcd).run pinsZ sZ σZ HZ (fun v H1 => v = .ref f ∧ H1 = HZ) IZ ⟨.ref f, hs, rfl, rfl⟩) fun u s1 ⟨v, H1, I1, r1, q1⟩ => ?_)
  obtain ⟨ev, eH⟩ := q1
  subst ev
  rw [eH] at I1
  obtain rfl : u = Value.ref f := r1
  have of1 : s1.heap.get? f = some (PySem.W.kla_obj "<lambda>" (X.env.qual ++ "<lambda>") params body scope (cloFrom X.env.cells scope.names []) pm c' ctv) := I1.base.keep f _ hf hfn hfr (fun z => nomatch (show f ∈ ([] : List Addr) from z))
  refine PySem.W.callWith_F0 ⟨_, _, _, _, of1⟩ ?_
  have un : Un (frs X.stack) [] H HZ s.heap s1.heap := I1.base
  obtain ⟨⟨oc, vs, t, hoc, hdc, hvc⟩, _, _⟩ := I1.hok c' _ hc
  have rc : codeAny (model X.prog X.w) (X.A.deeper (envOfC qg sg s.heap.objs.size g cdg)) (.call (.ref f) ⟨[], []⟩) (CR (L2N.CX X.prog X.w) (envOfC qg sg s.heap.objs.size g cdg :: X.stack) X.prog X.w HZ s1 Q E) s1 := by
    refine PySem.W.kla_callFunE hr.depth of1 rfl L.co L.gen rfl ⟨c', oc, vs, t, rfl, hoc, hdc, hvc⟩ ?_
    rw [hbind]
    refine wpAny_pure (wpAny_newFunctionEnv (fun y hy => (L.own y hy).2) (fun y hy => absurd hy (by simp)) (fun h₁ hns hsb => ⟨I1.nolimit.fresh _ hsb, ?_⟩) L.kind)
    show codeAny _ _ (.expr body (lamEnv X scope s1.heap.objs.size f c')) _ _
    have kp : ∀ b o, s1.heap.get? b = some o → h₁.get? b = some o := fun b o e => hsb.extBut b o (Nat.ne_of_lt (Heap.lt_size e)) (Heap.get?_push_of_some _ e)
    have J : Inv (lamCx X (X.A.deeper (envOfC qg sg s.heap.objs.size g cdg)) (envOfC qg sg s.heap.objs.size g cdg :: X.stack) s1 HZ E scope f c') [] σ HZ { s1 with heap := h₁, toks := s1.toks + ([] : List (Str × Value)).length } :=
      lam_start2 I L I1.env0 hr.hd un hns kp
    refine PySem.W.kla_codeExpr (wpAny_mono ((hbody _ _ s1 HZ (hr.deeper _)).run [] _ _ HZ Q (J.wish _) ht) (fun v s' hq => ?_) fun e s' hq => hq)
    obtain ⟨w', H', J', rv, q⟩ := hq
    exact ⟨w', H', J'.os, J'.bare, J'.base, J'.hok, rv, q⟩
  have hx : Passes (L2N.CX X.prog X.w) ((cxOf CXg X.prog X.w X.K X.mg X.base Ng qg sg g cdg X.A X.stack s H Eg).tr pn xe) E := L2N.passes_call tk hW
  refine wpAny_call (codeAny_mono rc fun r s' hq => ?_)
  cases r with
  | error e => exact hx pinsZ σZ HZ s1 e s' I1 hq
  | ok fl =>
    cases fl with
    | ret u => exact I1.after hq
    | next => exact False.elim hq
    | brk => exact False.elim hq
    | cont => exact False.elim hq
end
/-- the def that calls what it got: a calls it; TT: what it makes of the lambda's reading -/
def GivesToN (X : Cx) (Ng : List Str) (x : Str) (sg : Scope) (g : Addr) (cdg : Value) (bg : List Stmt) (a : Str) (q : Str) (k : Nat) (TT : (XK → Hp → VK → Prop) → Hp → VK → Prop) : Prop :=
  ∀ (f c' : Addr) (s : Shared) (H : Hp) (Q : VK) (tl : XK → Hp → VK → Prop),
    (∀ (W : WX) (pn : List (Addr × Obj)) (xe : Value → Shared → Prop) (E : XK) (p1 p2 : Pos), L2N.Takes ((cxOf C8.CX0 X.prog X.w X.K X.mg X.base Ng x sg g cdg X.A X.stack s H C8.E0).tr pn xe) W → (∀ cls d σ' H', E cls d H' → W cls d σ' H') →
      PE ((cxOf C8.CX0 X.prog X.w X.K X.mg X.base Ng x sg g cdg X.A X.stack s H C8.E0).tr pn xe) (.Call (.Name a p1) [] [] p2) (fun σZ HZ Q => σZ[0]? = some (some (.ref f)) ∧ HZ c' = some (CodeO c' q) ∧ tl E HZ Q)) →
    H c' = some (CodeO c' q) → TT tl H Q → Room k (X.A.deeper (envOfC x sg s.heap.objs.size g cdg)) →
    ∃ t, PSs (cxOf C8.CX0 X.prog X.w X.K X.mg X.base Ng x sg g cdg X.A X.stack s H C8.E0).nox bg t ∧ t { nx := fun _ H' => Q .non H', rt := Q } (L2.start Ng [.ref f]) H
def tLamN (T : List (Addr × Str)) (TT : (XK → Hp → VK → Prop) → Hp → VK → Prop) (t : XK → TE) : TE := fun σ H Q => Tabs T H ∧ ∀ H1, ExtN H H1 → Dom H H1 → Tabs T H1 → TT (fun E H' Q' => t E σ H' Q') H1 Q
section
variable {X : Cx}
/-- x(lambda: body) -/
theorem ap_pe_lamcall {T : List (Addr × Str)} {TT : (XK → Hp → VK → Prop) → Hp → VK → Prop} {x a : Str} {g c P : Addr} {k : Nat} {pg : Arguments} {bg : List Stmt} {sg : Scope} {dV kV doc pm cdv ct oc : Value} {an od : Option Addr} {osl : Array (Option Value)} {Ng : List Str}
    {params : Arguments} {body : Expr} {scope : Scope} {t : XK → TE} {p lpos pos : Pos} (hg : Gl X x) (hm : X.mg x = some (.ref g)) (hk : PySem.W.keepIn X.K (.ref g) = true)
    (lk : X.K.lookup g = some ⟨oc, od, .func (PySem.W.fnOf x x pg bg sg dV kV doc pm an cdv ct), osl⟩) (hcg : PySem.W.codeIn X.K cdv x = true) (hb : L2.Binds X.K (PySem.W.fnOf x x pg bg sg dV kV doc pm an cdv ct) [a] []) (Sg : FnScope Ng [a] sg) (hNg : Ng[0]? = some a) (hva : Vis sg a)
    (hG : GivesToN X Ng x sg g cdv bg a (X.env.qual ++ "<lambda>") (k + 1) TT)
    (TB : TabB X.base X.mg c P) (hcode : X.env.code = .ref c) (hmT : (P, X.env.qual ++ "<lambda>") ∈ T) (hu : ∀ p ∈ T, p.1 = P → p.2 = X.env.qual ++ "<lambda>") (hr : Room (k + 2) X.A) (L : LamS X.env.scope scope) (hdef : defaultsOf params X.env = ([], []))
    (hbind : ∀ (q : Str) (cl : List (Str × Addr)) (pm cv ctv : Value), bindArgs (PySem.W.kla_fn "<lambda>" q params body scope cl pm cv ctv) ⟨[], []⟩ = pure [])
    (hbody : ∀ (A : Around) (outer : List PySem.Env) (s : Shared) (H : Hp) (E : XK) (f c' : Addr), Room k (A.deeper (lamEnv X scope s.heap.objs.size f c')) → PE (lamCxN X A outer s H E scope f c') body (t E))
    (hdb : (x == ("__debug__" : Str)) = false := by decide) (hd : (a == ("__debug__" : Str)) = false := by decide) (hcd : (a == ("__classdict__" : Str)) = false := by decide) :
    PE X (.Call (.Name x p) [.Lambda params body scope lpos] [] pos) (tLamN T TT t) := by
  refine ⟨fun pins s σ H Q I h => ?_⟩
  obtain ⟨hT, h⟩ := h
  refine wpAny_Call_Name_kw (ld_glob I hg hm ?_ hdb)
  refine PySem.W.callWith_K (h₀ := X.base) I.ok.mod.kin hk ?_ (by rfl) (by rfl)
  show wpAny _ _ (spliced ((false, eval (.Lambda params body scope lpos) X.env) :: backTo pos (starEach [] X.env))) _ _ s
  refine Calls.spliced_cons (ap_lam_make I TB hcode hmT hu hT hdef (L.has I.ok) fun f c' pm' ctv H1 s' I1 eN dN T1 hf hfn hfr hco _ => ?_)
  refine Calls.spliced_nil ⟨I1.kIn, ?_⟩
  have rc : codeAny (model X.prog X.w) X.A (.call (.ref g) ⟨[.ref f], []⟩) (CR C8.CX0 X.stack X.prog X.w H1 s' Q C8.E0) s' := by
    refine run_ofS (N := Ng) (ps := [a]) (us := [.ref f]) (vs := [.ref f]) lk hcg Sg hr I1.env0 (hb s' [.ref f] I1.kIn rfl) (.cons rfl .nil) rfl fun hr' => ?_
    obtain ⟨t', ht', hq'⟩ := hG f c' s' H1 Q (fun E H' Q' => t E σ H' Q') (fun W pn xe E p1 p2 tk hW => ap_pe_act (i := 0) I1 L hf hfn hfr (hbind _ _ _ _ _) tk hW hr' (fun A outer s H hr2 => hbody A outer s H E f c' hr2) hNg hva hd hcd) hco (h H1 eN dN T1) hr'
    exact ⟨t', ht'.nox, hq'⟩
  refine wpAny_call (codeAny_mono rc fun r s2 hq => ?_)
  cases r with
  | error e => exact (show False from hq).elim
  | ok fl =>
    cases fl with
    | ret u => exact I1.after hq
    | next => exact False.elim hq
    | brk => exact False.elim hq
    | cont => exact False.elim hq
end
end AP
end
section
set_option maxHeartbeats 2000000
/-! E6: the def that tells the name of an error -/
namespace AP
open PySem PySem.Spec PyProof.Rows L2 L2H LamX

/-- the exception's name is told -/
def spNm (a : Addr) (nm : Str) : Sp := fun vs H Q _ => vs = [.ref a] ∧ ∀ H', Ext H H' → Q (.str nm) H'
/-- the def gn names each exception of a class of ok -/
def NamedOk (P : Program) (w : World) (K : PySem.W.Frag) (mg : Str → Option Value) (base : Heap) (gn : Str) (ok : Addr → Prop) (lab : Addr → Str) : Prop :=
  ∃ (f : Addr) (fd : FuncData) (x : Str), mg gn = some (.ref f) ∧ PySem.W.keepIn K (.ref f) = true ∧ L2.Binds K fd [x] [] ∧
    ∀ D, ok D → ∀ (a : Addr) (oe : Obj), L2N.Zn (.ref D) none oe → (∃ vs, oe.data = .fields vs) → FnHp P w K mg base C8.CX0 1 (a, oe) f fd [x] (spNm a (lab D))
theorem named_fnHp {P : Program} {w : World} {K : PySem.W.Frag} {mg : Str → Option Value} {base : Heap} {f D : Addr} {name qual x : Str} {params : Arguments} {body : List Stmt} {scope : Scope} {dV kV doc pm cdv ct oc : Value} {an od : Option Addr}
    {osl : Array (Option Value)} {N : List Str} (lk : K.lookup f = some ⟨oc, od, .func (PySem.W.fnOf name qual params body scope dV kV doc pm an cdv ct), osl⟩) (hcd : PySem.W.codeIn K cdv qual = true) (S : FnScope N [x] scope) (hNl : N.length = 5)
    {cl : Str → Addr} {ky : Str → Bool} {nm : Str} {k1 k2 k3 k4 : List Str} {L : Str} {r : Stmt} (C : ExcC K D) (hi : mg "isinstance" = none) (hzm : mg "zip" = none)
    (h1 : named N scope body = some (k1, k2, k3, k4, L)) (h2 : namedEnd body = some r) (h3 : namedRet N scope r = true)
    (hy : ∀ y ∈ ((k1 ++ k2) ++ k3) ++ k4, mg y = some (.ref (cl y)) ∧ PySem.W.kitOne K (.ref D) (.ref (cl y)) = some (ky y))
    (hlen : (Txt.split L " ").length = (((k1 ++ k2) ++ k3) ++ k4).length) (hL : L.length ≤ 1000) (hb : (((k1 ++ k2) ++ k3) ++ k4).length ≤ 1000)
    (hlens : (pick (Txt.split L " ") ((((k1 ++ k2) ++ k3) ++ k4).map ky) |>.map (·.length)).sum + (pick (Txt.split L " ") ((((k1 ++ k2) ++ k3) ++ k4).map ky)).length * (" " : Str).length ≤ 16777216)
    (hnm : Txt.join " " (pick (Txt.split L " ") ((((k1 ++ k2) ++ k3) ++ k4).map ky)) = nm) (a : Addr) (oe : Obj) (hz : L2N.Zn (.ref D) none oe) (hf : ∃ vs, oe.data = .fields vs) :
    FnHp P w K mg base C8.CX0 1 (a, oe) f (PySem.W.fnOf name qual params body scope dV kV doc pm an cdv ct) [x] (spNm a nm) := by
  refine fn_ofHp (k := 0) lk hcd S (fun vs H Q E h => by rw [h.1]; rfl) fun A outer s H vs Q E hot hr hsp => ?_
  obtain ⟨rfl, hq⟩ := hsp
  have hotC : HotC (cxH C8.CX0 P w K mg base N qual scope f cdv A outer s H E (a, oe)) := ⟨(a, oe), hot, List.mem_singleton.mpr rfl⟩
  refine ⟨_, named_snd (a := a) (D := D) (nm := nm) hotC S.nd (call_isEp (oe := oe) C hz.zc hf (List.mem_singleton.mpr rfl)) hi hzm h1 h2 h3 hy hlen hL hb hlens hnm, ?_, ?_, hq⟩
  · cases N with
    | nil => cases hNl
    | cons n N => rfl
  · show (L2.start N [V.ref a]).length = 5
    unfold L2.start
    rw [List.length_append, List.length_map, List.length_replicate, hNl]
    rfl

/-- the teller's text -/
def errText (N : List Str) (sc : Scope) : List Stmt → Option (Str × Str)
  | [.Try [.Expr (.Call (.Name a _) [] [] _) _] [.ExceptHandler (some (.Name pe _)) (some n) [.Return (some (.IfExp (.Call (.Name i _) [.Name n1 _, .Name v _] [] _) (.Call (.Name g _) [.Name n2 _] [] _) (.Constant (.str _) _ _) _)) _] _] [] [] _,
     .Return (some (.Constant (.str e) _ _)) _] =>
    if (decide (i = ("isinstance" : Str)) && decide (v = ("ValueError" : Str)) && decide (e = ("" : Str)) && decide (n1 = n) && decide (n2 = n) && nmB N sc 0 a && nmB N sc 1 n && glB sc pe && glB sc g && glB sc ("isinstance" : Str) && glB sc ("ValueError" : Str) && decide (N.length = 2)) = true then some (pe, g) else none
  | _ => none
def TTErr (ok : Addr → Prop) (lab : Addr → Str) : (XK → Hp → VK → Prop) → Hp → VK → Prop := fun tl H Q =>
  tl (fun cls d H' => ∃ D, cls = .ref D ∧ d = none ∧ ok D ∧ ∀ H'', Ext H' H'' → Q (.str (lab D)) H'') H (fun _ H' => Q (.str "") H')
theorem err_gives {X : Cx} {Ng : List Str} {a x q pe gn : Str} {sg : Scope} {g CP : Addr} {cdg : Value} {bg : List Stmt} {k : Nat} {ok : Addr → Prop} {lab : Addr → Str} (ha : Ng[0]? = some a) (nd : Ng.Nodup) (ht : errText Ng sg bg = some (pe, gn)) (hme : X.mg pe = some (.ref CP)) (hi : X.mg "isinstance" = none) (hv : X.mg "ValueError" = none)
    (hok : ∀ D, ok D → ExcC X.K D ∧ PySem.W.exmOne X.K (.ref D) (.ref CP) = some true ∧ PySem.W.kitOne X.K (.ref D) (.type "ValueError") = some true) (hn : NamedOk X.prog X.w X.K X.mg X.base gn ok lab) : GivesToN X Ng x sg g cdg bg a q (k + 1) (TTErr ok lab) := by
  intro f c' s H Q tl act hc h hroom
  unfold errText at ht
  split at ht
  case h_2 => cases ht
  rename_i a' p1 p2 p3 pe' p4 n i' p5 n1 p6 v' p7 p8 g' p9 n2 p10 p11 od jd p12 p13 p14 p15 p16 e' je p17 p18
  split at ht
  case isFalse => cases ht
  rename_i hb
  simp only [Bool.and_eq_true, decide_eq_true_eq] at hb
  obtain ⟨⟨⟨⟨⟨⟨⟨⟨⟨⟨⟨e1, e2⟩, e3⟩, e4⟩, e5⟩, e6⟩, e7⟩, e8⟩, e9⟩, e10⟩, e11⟩, e12⟩ := hb
  cases ht
  subst e1 e2 e3 e4 e5
  have ea : a' = a := by
    unfold nmB at e6
    simp only [Bool.and_eq_true, decide_eq_true_eq] at e6
    have := e6.1.1.1
    rw [ha] at this
    exact (Option.some.inj this).symm
  subst ea
  obtain ⟨fN, fdN, xN, hm1, hm2, hm3, hm4⟩ := hn
  generalize hX : (cxOf C8.CX0 X.prog X.w X.K X.mg X.base Ng x sg g cdg X.A X.stack s H C8.E0).nox = X0
  have hX0 : X0.N = Ng ∧ X0.env.scope = sg ∧ X0.K = X.K ∧ X0.mg = X.mg ∧ X0.base = X.base ∧ X0.prog = X.prog ∧ X0.w = X.w ∧ X0.stack = X0.env :: X0.outer ∧ X0.env.frame = some X0.env.locals ∧ X0.A = X.A.deeper (envOfC x sg s.heap.objs.size g cdg) := by
    subst hX; exact ⟨rfl, rfl, rfl, rfl, rfl, rfl, rfl, rfl, rfl, rfl⟩
  obtain ⟨hXN, hXs, hXK, hXm, hXb, hXp, hXw, hXst, hXf, hXA⟩ := hX0
  have e7' : nmB X0.N X0.env.scope 1 n2 = true := by rw [hXN, hXs]; exact e7
  have n1' := nmB_nm e7'
  have w1 := nmB_nw (by rw [hXN]; exact nd) e7'
  have hln : X0.env.kindOf n2 = some .local := by
    unfold nmB at e7'
    simp only [Bool.and_eq_true, decide_eq_true_eq] at e7'
    exact e7'.1.1.2
  have gp := glB_gl (X := X0) (x := pe) (by rw [hXs]; exact e8)
  have gg := glB_gl (X := X0) (x := gn) (by rw [hXs]; exact e9)
  have gi := glB_gl (X := X0) (x := "isinstance") (by rw [hXs]; exact e10)
  have gv := glB_gl (X := X0) (x := "ValueError") (by rw [hXs]; exact e11)
  refine ⟨_, pss_cons (L2N.ps_try_as (X := X0) (c := .ref CP) (i := 1)
      (tb := fun W D σ H => ∃ Ech : XK, (∀ cls d σ' H', Ech cls d H' → W cls d σ' H') ∧ σ[0]? = some (some (.ref f)) ∧ H c' = some (CodeO c' q) ∧ tl Ech H (fun _ H' => D.nx σ H'))
      (ts := fun a cls d D σ H => ∃ Dd, cls = .ref Dd ∧ d = none ∧ ok Dd ∧ (1 < σ.length → σ[1]? = some (some (V.ref a))) ∧ ∀ H'', Ext H H'' → D.rt (.str (lab Dd)) H'')
      (Wout := fun _ _ _ _ => False) hXst hXf (by rw [hXN]; exact nd) n1'.at_ hln ⟨gp.1, gp.2, .inl (by rw [hXm]; exact hme)⟩ takes0N (fun W pn xe tk _ => ?_) (fun a oe cls d pn hz hf => ?_)) (pss_one (ps_ret pe_str)), ?_⟩
  · subst hX
    refine ⟨fun pins s' σ H' D I h' => ?_⟩
    obtain ⟨Ech, hW, h1, h2, h3⟩ := h'
    have hq := pss_one (ps_expr (pos := p3) (act W pn xe Ech p1 p2 tk hW))
    exact hq.run pins s' σ H' D I ⟨h1, h2, h3⟩
  · refine ⟨fun pins s' σ H' Dd I h' => ?_⟩
    obtain ⟨D0, rfl, rfl, hD, hσ, hq⟩ := h'
    obtain ⟨hC, hex, hval⟩ := hok D0 hD
    have hl : σ.length = 2 := by
      have := I.len
      rw [this]
      show X0.N.length = 2
      rw [hXN]; exact e12
    have hot : Hot1 (X0.suite a ((a, oe) :: pn)).A (a, oe) := by
      obtain ⟨vs, hvs⟩ := hf
      exact ⟨rfl, vs, hvs, hz.2.2 vs hvs⟩
    have F := hm4 D0 hD a oe hz hf
    have F' : FnHp (X0.suite a ((a, oe) :: pn)).prog (X0.suite a ((a, oe) :: pn)).w (X0.suite a ((a, oe) :: pn)).K (X0.suite a ((a, oe) :: pn)).mg (X0.suite a ((a, oe) :: pn)).base C8.CX0 1 (a, oe) fN fdN [xN] (spNm a (lab D0)) := by
      show FnHp X0.prog X0.w X0.K X0.mg X0.base _ _ _ _ _ _ _
      rw [hXp, hXw, hXK, hXm, hXb]; exact F
    have hr1 : RoomH 1 (X0.suite a ((a, oe) :: pn)).A := by
      have h0 := (roomH_of hroom).mono (j := 1) (by omega)
      rw [← hXA] at h0
      exact ⟨h0.dp, h0.un⟩
    have nS : Nm (X0.suite a ((a, oe) :: pn)) 1 n2 := ⟨n1'.at_, n1'.vis, n1'.d1, n1'.d2⟩
    have cis : CallR (X0.suite a ((a, oe) :: pn)) (.builtin "isinstance") (rIsE (X0.suite a ((a, oe) :: pn)).K D0 a) := call_isEp (oe := oe) (by show ExcC X0.K D0; rw [hXK]; exact hC) hz.zc hf List.mem_cons_self
    have body := pss_one (ps_ret (X := X0.suite a ((a, oe) :: pn)) (pos := p14) (pe_ifExp (pos := p13) (pt_val (pe_isT (i := 1) (k := true) (p1 := p5) (p2 := p6) (p3 := p7) (pos := p8) cis gi.1 (by show X0.mg _ = _; rw [hXm]; exact hi) nS gv.1 (by show X0.mg _ = _; rw [hXm]; exact hv) (T := "ValueError") rfl (by decide) gv.2 (by show PySem.W.kitOne X0.K _ _ = _; rw [hXK]; exact hval)) (fun _ => rfl))
      (pe_callHp (E := fun _ _ _ _ => False) (q := p9) (pos := p11) F' hr1 hot List.mem_cons_self gg.1 (by show X0.mg _ = _; rw [hXm]; exact hm1) (by show PySem.W.keepIn X0.K _ = _; rw [hXK]; exact hm2) (by show L2.Binds X0.K _ _ _; rw [hXK]; exact hm3) (fun σ _ _ _ _ _ _ z => z.elim) (pa_cons (pe_var (pos := p10) (i := 1) nS.at_ nS.vis nS.d1 nS.d2) pa_nil rfl) gg.2 rfl rfl)
      (pe_str (x := od) (j := jd) (pos := p12))))
    refine body.run pins s' σ H' Dd I ?_
    have h1 := hσ (by omega)
    refine ⟨h1, true, rfl, ?_⟩
    refine (if_pos (show true = true from rfl)).mpr ?_
    exact ⟨_, h1, rfl, hq⟩
  · refine ⟨_, fun cls d σ' H' z => ?_, ?_, hc, h⟩
    · obtain ⟨D0, rfl, rfl, hD, hq⟩ := z
      obtain ⟨hC, hex, hval⟩ := hok D0 hD
      refine ⟨true, by rw [hXK]; exact hex, fun _ a na => ⟨D0, rfl, rfl, hD, fun hl => ?_, hq⟩, fun z => (by cases z)⟩
      rw [List.length_set] at hl
      rw [List.getElem?_set_self hl]
    · cases Ng with
      | nil => cases ha
      | cons n N => rfl
end AP
end
section
set_option maxHeartbeats 2000000
/-! E7: a teller of a text's checks -/
namespace AP
open PySem PySem.Spec PyProof.Rows L2 L2H LamX

theorem lam_bind {q : Str} {body : Expr} {scope : Scope} {cl : List (Str × Addr)} {pm cv ctv : Value} {args : Arguments} (h : emptyArgs args = true) : bindArgs (PySem.W.kla_fn "<lambda>" q args body scope cl pm cv ctv) ⟨[], []⟩ = pure [] := by
  unfold emptyArgs at h
  split at h
  · rfl
  · cases h
theorem lam_def {args : Arguments} {env : PySem.Env} (h : emptyArgs args = true) : defaultsOf args env = ([], []) := by
  unfold emptyArgs at h
  split at h
  · rfl
  · cases h
theorem lamS_lk {p : Pa} {c : Ck} {ft : FT} {k : Nat} {W : WX} {X : Cx} {scope : Scope} (O : XOk p c ft k W X) (L : LamS c.sc scope) : LamS X.env.scope scope :=
  ⟨L.kind, L.co, L.gen, L.own, fun y hy e => by
    rcases L.free y hy e with z | z
    · exact .inl ((O.lk _ _ z).1 (by decide))
    · exact ((O.lk _ _ z).2 rfl).symm⟩
theorem told_ok0 {p : Pa} {c : Ck} {ft : FT} {k : Nat} {W : WX} {X : Cx} {h : Nat} {T : List (Addr × Str)} {ok : Addr → Prop} {lab : Addr → Str}
    {x a : Str} {g cc P : Addr} {pg : Arguments} {bg : List Stmt} {sg : Scope} {dV kV doc pm cdv ct oc : Value} {an od : Option Addr} {osl : Array (Option Value)} {Ng : List Str}
    (O : XOk p c ft k W X) (hr : Room (k + 2) X.A) (hTI : ∀ H, p.TI H ↔ Tabs T H) (hx : c.G[h]? = some x) (hm : X.mg x = some (.ref g)) (hk : PySem.W.keepIn X.K (.ref g) = true)
    (lk : X.K.lookup g = some ⟨oc, od, .func (PySem.W.fnOf x x pg bg sg dV kV doc pm an cdv ct), osl⟩) (hcg : PySem.W.codeIn X.K cdv x = true) (hb : L2.Binds X.K (PySem.W.fnOf x x pg bg sg dV kV doc pm an cdv ct) [a] []) (Sg : FnScope Ng [a] sg) (hNg : Ng[0]? = some a) (hva : Vis sg a) (hd1 : (a == ("__debug__" : Str)) = false) (hd2 : (a == ("__classdict__" : Str)) = false)
    (hG : GivesToN X Ng x sg g cdv bg a (X.env.qual ++ "<lambda>") (k + 1) (TTErr ok lab))
    (TB : TabB X.base X.mg cc P) (hcode : X.env.code = .ref cc) (hmT : (P, X.env.qual ++ "<lambda>") ∈ T) (hu : ∀ p ∈ T, p.1 = P → p.2 = X.env.qual ++ "<lambda>")
    (hin : ∀ d, ft.told h (.inl d) = some (.str "")) (hlab : ∀ cid d C, ft.told h (.inr cid) = some d → ClsAt p.g cid C → ok C ∧ d = .str (lab C)) : ToldOk p c ft k W X h := by
  intro x' fb args body scope lpos pos p1 hG' hgl hlam hbody
  rw [hx] at hG'
  cases hG'
  obtain ⟨g1, g2⟩ := O.gl hgl
  unfold okLam at hlam
  rw [Bool.and_eq_true] at hlam
  obtain ⟨hea, hls⟩ := hlam
  have L : LamS X.env.scope scope := lamS_lk O (lamS_by hls)
  refine PE.imp (ap_pe_lamcall (T := T) (TT := TTErr ok lab) (k := k) (t := fun E => tO p X (fun cls d _ H => E cls d H) fb) g1 hm hk lk hcg hb Sg hNg hva hG TB hcode hmT hu hr L (lam_def hea) (fun _ _ _ _ _ => lam_bind hea) (fun A outer s H E f c' hr' => ?_) g2 hd1 hd2) fun σ H Q ⟨H0, Lt, Fz, ρ, S, q⟩ => ?_
  · refine hbody (fun cls d _ H => E cls d H) (lamCxN X A outer s H E scope f c') ⟨O.N, O.nd, fun y q e => ⟨fun _ => e, fun z => .inl (by subst z; exact e)⟩, fun y e => ?_, L.kind, rfl, O.gK, O.gm, O.gG, hr', O.blt, O.gi, O.gt, O.gf, L2N.takes_of rfl rfl rfl rfl, O.fns, O.cls, fun cl y C hcl => absurd hcl List.not_mem_nil⟩
    exact absurd rfl (L.own _ (PySem.mem_of_lookup e)).2
  · refine ⟨(hTI H).mp S.tab, fun H1 e1 d1 t1 => ?_⟩
    have S1 := S.to e1 d1 ((hTI H1).mpr t1)
    refine ⟨H0, Lt, Fz, ρ, S1, ?_⟩
    change Post (rO p) p X W H0 Lt Fz σ Q (toldR (ft.told h) (frz (fb ρ))) at q
    generalize fb ρ = r at q ⊢
    cases r with
    | ok v ρ' =>
      simp only [frz, toldR, hin] at q
      exact fun y Fz' H' x1 S' r => q (.str "") Fz' H' x1 S' (.str _)
    | exc cid ρ' =>
      cases ht : ft.told h (.inr cid) with
      | none => simp only [frz, toldR, ht] at q; exact q.elim
      | some d =>
        simp only [frz, toldR, ht] at q
        refine fun Fz' H' C x1 S' hC => ?_
        obtain ⟨h1, h2⟩ := hlab cid d C ht hC
        subst h2
        exact ⟨C, rfl, rfl, h1, fun H'' e2 => q _ Fz' H'' x1 (S'.more e2) (.str _)⟩
    | stuck => exact q.elim
theorem told_ok {p : Pa} {c : Ck} {ft : FT} {k : Nat} {X : Cx} {h : Nat} {T : List (Addr × Str)} {ok : Addr → Prop} {lab : Addr → Str}
    {x a : Str} {g cc P : Addr} {pg : Arguments} {bg : List Stmt} {sg : Scope} {dV kV doc pm cdv ct oc : Value} {an od : Option Addr} {osl : Array (Option Value)} {Ng : List Str}
    (hr : Room (k + 2) X.A) (hTI : ∀ H, p.TI H ↔ Tabs T H) (hx : c.G[h]? = some x) (hm : X.mg x = some (.ref g)) (hk : PySem.W.keepIn X.K (.ref g) = true)
    (lk : X.K.lookup g = some ⟨oc, od, .func (PySem.W.fnOf x x pg bg sg dV kV doc pm an cdv ct), osl⟩) (hcg : PySem.W.codeIn X.K cdv x = true) (hb : L2.Binds X.K (PySem.W.fnOf x x pg bg sg dV kV doc pm an cdv ct) [a] []) (Sg : FnScope Ng [a] sg) (hNg : Ng[0]? = some a) (hva : Vis sg a) (hd1 : (a == ("__debug__" : Str)) = false) (hd2 : (a == ("__classdict__" : Str)) = false)
    (hG : GivesToN X Ng x sg g cdv bg a (X.env.qual ++ "<lambda>") (k + 1) (TTErr ok lab))
    (TB : TabB X.base X.mg cc P) (hcode : X.env.code = .ref cc) (hmT : (P, X.env.qual ++ "<lambda>") ∈ T) (hu : ∀ p ∈ T, p.1 = P → p.2 = X.env.qual ++ "<lambda>")
    (hin : ∀ d, ft.told h (.inl d) = some (.str "")) (hlab : ∀ cid d C, ft.told h (.inr cid) = some d → ClsAt p.g cid C → ok C ∧ d = .str (lab C)) : ∀ (Y : Cx) (W : WX) (c' : Ck), Sub X Y → c'.G = c.G → XOk p c' ft k W Y → ToldOk p c' ft k W Y h := by
  intro Y W c' S eG O
  rw [← eG] at hx
  obtain ⟨yprog, yw, yK, ymg, ybase, yA, yN, ys0, yH0, yenv, youter, ystack, yex, yfn, ycalm, ypn, yxe⟩ := Y
  obtain ⟨e1, e2, e3, e4, e5, e6, e7, e8, e9⟩ := S
  simp only at e1 e2 e3 e4 e5 e6 e7 e8 e9
  subst e1 e2 e3 e4 e5 e6 e7
  rw [← e9] at hcode
  rw [← e8] at hG hmT hu
  exact told_ok0 (T := T) (ok := ok) (lab := lab) (a := a) (cc := cc) (P := P) O hr hTI hx hm hk lk hcg hb Sg hNg hva hd1 hd2 hG TB hcode hmT hu hin hlab
end AP
end
section
set_option maxHeartbeats 2000000
/-! E8: from the head's facts to the law's promise -/
namespace AP
open PySem PySem.Spec PyProof.Rows L2 L2H LamX

/-- what a head's facts say of the module's names -/
structure HeadFs (K : PySem.W.Frag) (mg : Str → Option Value) (G Bl : List Str) (GI : List (Str × Int)) (cls : List Str) : Prop where
  gl : ∀ x ∈ G, mg x = some (.ref (He.ga K x))
  bl : ∀ x ∈ Bl, mg x = none
  gi : ∀ x i, (x, i) ∈ GI → ∃ t, mg x = some (.int i t)
  ex : ∀ x ∈ cls, (He.Fa.exc x).ok K = true
def facts0 (G Bl : List Str) (GI : List (Str × Int)) (cls : List Str) : List He.Fa := G.map .glo ++ (Bl.map .free ++ (cls.map .exc ++ GI.map fun p => .int p.1 p.2))
theorem headFs {K : PySem.W.Frag} {h : Heap} {mg : Str → Option Value} {G Bl : List Str} {GI : List (Str × Int)} {cls : List Str} {more : List He.Fa} {fn : List He.DefD} (X : K.In h) (Gm : h.Ns mainGlobals mg) (c : He.SaysD (facts0 G Bl GI cls ++ more) fn K) : HeadFs K mg G Bl GI cls := by
  have f : ∀ {x : He.Fa}, x ∈ facts0 G Bl GI cls → x.ok K = true := fun hx => c.facts (List.mem_append_left _ hx)
  refine ⟨fun x hx => He.glo_ok X Gm (f ?_), fun x hx => He.free_ok X Gm (f ?_), fun x i hx => He.int_ok X Gm (f ?_), fun x hx => f ?_⟩
  · exact List.mem_append_left _ (List.mem_map.mpr ⟨x, hx, rfl⟩)
  · exact List.mem_append_right _ (List.mem_append_left _ (List.mem_map.mpr ⟨x, hx, rfl⟩))
  · exact List.mem_append_right _ (List.mem_append_right _ (List.mem_append_right _ (List.mem_map.mpr ⟨(x, i), hx, rfl⟩)))
  · exact List.mem_append_right _ (List.mem_append_right _ (List.mem_append_left _ (List.mem_map.mpr ⟨x, hx, rfl⟩)))
theorem CloSt.mono {g : Glb} {A B : Hp} {v : V} {q : Clo} (e : Ext A B) (h : CloSt g A v q) : CloSt g B v q := by
  obtain ⟨ns, y, body, cs⟩ := q
  obtain ⟨f, qual, nm, params, ex, scope, cells, c, h1, h2, h3, h4, h5, h6, h7, h8, h9, h10, h11, h12, h13, h14, h15, h16, h17, h18⟩ := h
  refine ⟨f, qual, nm, params, ex, scope, cells, c, h1, h2.up e, h3, h4, h5, h6, h7, h8, h9, h10, h11, h12, h13, h14, h15, h16, h17, fun q hq => ?_⟩
  obtain ⟨x, a, u, z, k1, k2, k3, ⟨o, k4, k5⟩, k6, k7⟩ := h18 q hq
  exact ⟨x, a, u, z, k1, k2, k3, ⟨o, e _ _ k4, k5⟩, k6, Rep.ext e _ _ k7⟩
theorem tabs_wo {T : List (Addr × Str)} {A : Hp} {C : List Addr} (hC : ∀ c ∈ C, ∃ o u, A c = some (FunO c o) ∧ o.data = .cell u ∧ ∃ h : Heap, h.get? c = some o) (t : Tabs T A) : Tabs T (wo C A) := fun p hp => by
  obtain ⟨ps, h1, h2, h3⟩ := t p hp
  have n1 : p.1 ∉ C := fun z => by
    obtain ⟨o, u, k, _⟩ := hC _ z
    rw [h1] at k; cases k
  refine ⟨ps, by rw [wo_ne n1]; exact h1, h2, fun pos cv hc => ?_⟩
  obtain ⟨c, e1, e2⟩ := h3 pos cv hc
  have n2 : c ∉ C := fun z => by
    obtain ⟨o, u, k, hd, h, hh⟩ := hC _ z
    rw [e2] at k
    unfold CodeO FunO at k
    injection k with k
    injection k with k
    have q := congrFun k h
    have q2 := (iff_of_eq q).mpr hh
    obtain ⟨oc, vs, t, a1, a2, _⟩ := q2
    rw [hh] at a1
    cases a1
    rw [hd] at a2
    cases a2
  exact ⟨c, e1, by rw [wo_ne n2]; exact e2⟩
/-- the parameters of such a proof -/
def pa (K : PySem.W.Frag) (mg : Str → Option Value) (G : List Str) (T : List (Addr × Str)) : Pa where
  g := ⟨K, mg, G⟩
  CP := CloSt ⟨K, mg, G⟩
  mono := fun _ _ _ _ e z => z.mono e
  TI := Tabs T
  tmono := fun _ _ e t => t.ext e
  tupd := fun A a xs ys ha t p hp => by
    obtain ⟨ps, h1, h2, h3⟩ := t p hp
    have n1 : p.1 ≠ a := fun z => by rw [z, ha] at h1; cases h1
    refine ⟨ps, by rw [upd_ne n1]; exact h1, h2, fun pos cv hc => ?_⟩
    obtain ⟨c, e1, e2⟩ := h3 pos cv hc
    have n2 : c ≠ a := fun z => by
      rw [z, ha] at e2
      unfold CodeO at e2
      cases e2
    exact ⟨c, e1, by rw [upd_ne n2]; exact e2⟩
  tcel := fun A C hC t => tabs_wo hC t
  cfun := fun A v q z => by
    obtain ⟨ns, y, body, cs⟩ := q
    obtain ⟨f, qual, nm, params, ex, scope, cells, c, h1, h2, _⟩ := z
    obtain ⟨c', pm, ctv, k, _⟩ := h2.ex
    exact ⟨f, _, _, h1, k, rfl⟩
  F0 := fun _ => none
/-- a written tuple of ints, by the fragment -/
def tupB (K : PySem.W.Frag) (x : Str) (is : List Int) : Bool := (match K.lookup (He.ga K x) with
  | some ⟨c, _, .seq its _, _⟩ => decide (c = .type "tuple") && decide (its.size ≤ 1000) && decide (its.toList.map absV = is.map fun i => some (V.int i))
  | _ => false)
theorem vals_abs : ∀ {us : List Value} {is : List Int}, us.map absV = (is.map fun i => some (V.int i)) → Vals (is.map V.int) us
  | [], [], _ => .nil
  | [], _ :: _, h => by simp at h
  | _ :: _, [], h => by simp at h
  | u :: us, i :: is, h => by
    simp only [List.map_cons, List.cons.injEq] at h
    refine .cons ?_ (vals_abs h.2)
    have h1 := h.1
    cases u <;> simp [absV] at h1
    subst h1
    exact ⟨_, rfl⟩
theorem tupB_ok {K : PySem.W.Frag} {x : Str} {is : List Int} (h : tupB K x is = true) : ∀ Fz, SqT K Fz (He.ga K x) (is.map V.int) := by
  intro Fz
  unfold tupB at h
  split at h
  · rename_i c d its n sl hk
    simp only [Bool.and_eq_true, decide_eq_true_eq] at h
    obtain ⟨⟨h1, h2⟩, h3⟩ := h
    exact .inr ⟨_, its, n, hk, h1, rfl, by rw [sizeLine_eq]; omega, vals_abs h3⟩
  · cases h
theorem glbOk {K : PySem.W.Frag} {mg : Str → Option Value} {G Bl : List Str} {GI : List (Str × Int)} {cls : List Str} {T : List (Addr × Str)} {EX TL : List Nat} {LV : Bool} (H : HeadFs K mg G Bl GI cls) (hEX : (EX.map fun i => G[i]?) = cls.map some) (N : List Str) (sc : Scope) {GT : List (Str × List Int)} (hGT : ∀ x is, (x, is) ∈ GT → mg x = some (.ref (He.ga K x)) ∧ tupB K x is = true) : GlbOk (pa K mg G T) K mg ⟨N, sc, G, Bl, GI, TL, EX, GT, LV⟩ := by
  refine ⟨rfl, rfl, rfl, H.bl, H.gi, fun x is hx => ⟨_, (hGT x is hx).1, tupB_ok (hGT x is hx).2⟩, fun x hx => ⟨_, H.gl x hx⟩, fun cl x C h1 h2 h3 => ?_⟩
  have hm : some x ∈ cls.map some := by
    rw [← hEX]
    exact List.mem_map.mpr ⟨cl, h1, h2⟩
  obtain ⟨y, hy, e⟩ := List.mem_map.mp hm
  cases e
  have hg := H.gl x (List.mem_of_getElem? h2)
  rw [h3] at hg
  cases hg
  obtain ⟨a1, a2, a3, a4⟩ := He.exc_ok (H.ex x hy)
  exact ⟨_, _, _, _, PySem.F.excBase_ValueError, a1, a2, a3, a4⟩
section
variable {p : Pa} {P : Program} {w : World} {K : PySem.W.Frag} {mg : Str → Option Value} {base : Heap} {fns : Nat → Option FnD} {told : Nat → D ⊕ Nat → Option D} {fuel f : Nat} {d : FnD}
/-- a def without a teller -/
theorem mkDef {d0 : He.DefD} {fd : FuncData} {ps : List Str} {c : Ck} (hG : p.g.G[f]? = some d0.at_.1) (hm : mg d0.at_.1 = some (.ref (He.fAd K d0.at_))) (F : FunD K d0.name d0.qual d0.params d0.body d0.scope [] [] (He.fAd K d0.at_) fd) (hb : L2.Binds K fd ps []) (S : FnScope c.N ps d0.scope)
    (h1 : d.ns = c.N.length) (h2 : d.np = ps.length) (h3 : c.sc = d0.scope) (G : GlbOk p K mg c) (hs : okSs c d.body d0.body = true) (ht : c.TL = []) (hl : c.LV = false) : DefOk p P w K mg base fns told fuel f d :=
  ⟨d0, fd, ps, c, hG, hm, F, hb, S, h1, h2, h3, G, hs, fun _ _ _ _ _ _ _ _ _ => ToldAll.nil ht hl⟩
def AllFrom (Q : Nat → FnD → Prop) : Nat → List (Option FnD) → Prop
  | _, [] => True
  | n, none :: r => AllFrom Q (n + 1) r
  | n, some d :: r => Q n d ∧ AllFrom Q (n + 1) r
theorem all_tab {Q : Nat → FnD → Prop} : ∀ (tab : List (Option FnD)) (n : Nat), AllFrom Q n tab → ∀ f d, tab[f]? = some (some d) → Q (n + f) d
  | [], _, _, f, d, h => by simp at h
  | none :: r, n, a, 0, d, h => by simp at h
  | none :: r, n, a, f + 1, d, h => by
    have := all_tab r (n + 1) a f d (by simpa using h)
    rw [show n + (f + 1) = n + 1 + f by omega]; exact this
  | some d0 :: r, n, a, 0, d, h => by
    have : d0 = d := by simpa using h
    subst this; exact a.1
  | some d0 :: r, n, a, f + 1, d, h => by
    have := all_tab r (n + 1) a.2 f d (by simpa using h)
    rw [show n + (f + 1) = n + 1 + f by omega]; exact this
/-- the law's own promise, from its value -/
theorem law_sp {n : Nat} {F : List Arg → FRes} {H : Hp} {a : Addr} {ns : List Int} (hT : p.TI H) (hK : p.g.K = K) (hS : SqL K H a (ns.map V.int)) (hv : F [.dat (.scr ns)] = .ret (.dat (.bl true)) []) : spF p 1 F [.ref a] H (fun v _ => v = .bl true) fun _ _ _ => False := by
  have key : ∀ Fz : Hp, Ext Fz H → (∀ b o, Fz b = some o → NoTb o) → SqL K Fz a (ns.map V.int) → spF p 1 F [.ref a] H (fun v _ => v = .bl true) fun _ _ _ => False := fun Fz e1 e2 e3 =>
    ⟨Fz, [.dat (.scr ns)], rfl, .cons (show Rep p.g Fz (.ref a) (.scr ns) from .scr (by rw [hK]; exact e3)) .nil, e1, hT, e2, Nat.zero_le _, by
      rw [hv]
      intro x Fz' H' _ r
      cases r
      rfl⟩
  rcases hS with (h | ⟨o, h⟩) | h
  · refine key (fun b => if b = a then H a else none) (fun b o e => ?_) (fun b o e => ?_) (.inl (.inl ((if_pos rfl).trans h)))
    · by_cases hb : b = a
      · subst hb; exact (if_pos rfl).symm.trans e
      · have := (if_neg hb).symm.trans e; cases this
    · by_cases hb : b = a
      · have := (if_pos hb).symm.trans e
        rw [h] at this; cases this
        intro ps z; cases z
      · have := (if_neg hb).symm.trans e; cases this
  · refine key (fun b => if b = a then H a else none) (fun b o e => ?_) (fun b o e => ?_) (.inl (.inr ⟨o, (if_pos rfl).trans h⟩))
    · by_cases hb : b = a
      · subst hb; exact (if_pos rfl).symm.trans e
      · have := (if_neg hb).symm.trans e; cases this
    · by_cases hb : b = a
      · have := (if_pos hb).symm.trans e
        rw [h] at this; cases this
        intro ps z; cases z
      · have := (if_neg hb).symm.trans e; cases this
  · exact key (fun _ => none) (fun b o e => by cases e) (fun b o e => by cases e) (.inr h)
end
end AP
end
section
set_option maxHeartbeats 2000000
/-! E9: the def with a teller -/
namespace AP
open PySem PySem.Spec PyProof.Rows L2 L2H LamX
section
variable {p : Pa} {P : Program} {w : World} {K : PySem.W.Frag} {mg : Str → Option Value} {base : Heap} {fns : Nat → Option FnD} {told : Nat → D ⊕ Nat → Option D} {fuel f : Nat} {d : FnD}
abbrev lamQ (qual : Str) (sc : Scope) : Str := (envOfC qual sc 0 0 .none).qual ++ "<lambda>"
theorem lawTd {d0 : He.DefD} {c : Ck} (h3 : c.sc = d0.scope) {tl : Nat} (ht : c.TL = [tl])
    {x a pe gn : Str} {g CP Pt : Addr} {pg : Arguments} {bg : List Stmt} {sg : Scope} {fdT : FuncData} {Ng : List Str} {ok : Addr → Prop} {lab : Addr → Str} {T : List (Addr × Str)} (hcp : p.CP = CloSt p.g) (hTI : p.TI = Tabs T) (hmT : (Pt, lamQ d0.qual d0.scope) ∈ T) (hu : ∀ q ∈ T, q.1 = Pt → q.2 = lamQ d0.qual d0.scope) (hx : c.G[tl]? = some x) (hmx : mg x = some (.ref g)) (FT : FunD K x x pg bg sg [] [] g fdT) (bT : L2.Binds K fdT [a] [])
    (ST : FnScope Ng [a] sg) (hNg : Ng[0]? = some a) (hva : Vis sg a) (hd1 : (a == ("__debug__" : Str)) = false) (hd2 : (a == ("__classdict__" : Str)) = false) (htx : errText Ng sg bg = some (pe, gn)) (hme : mg pe = some (.ref CP)) (hi : mg "isinstance" = none) (hv : mg "ValueError" = none)
    (hok : ∀ D, ok D → ExcC K D ∧ PySem.W.exmOne K (.ref D) (.ref CP) = some true ∧ PySem.W.kitOne K (.ref D) (.type "ValueError") = some true) (hn : NamedOk P w K mg base gn ok lab) (TB : TabB base mg (He.codeOf K d0.at_) Pt)
    (hin : ∀ d, told tl (.inl d) = some (.str "")) (hlab : ∀ cid d C, told tl (.inr cid) = some d → ClsAt p.g cid C → ok C ∧ d = .str (lab C)) : ∀ (F0 : Hp) (n : Nat) (A : Around) (outer : List PySem.Env) (s : Shared) (H : Hp) (E : XK), Room (Lv n + 2) (A.deeper (envOfC d0.qual d0.scope s.heap.objs.size (He.fAd K d0.at_) (.ref (He.codeOf K d0.at_)))) →
      XOk { p with F0 := F0 } c (ftAt fns told fuel n) (Lv n) (fun cls d _ H => E cls d H) (cxOf (L2N.CX P w) P w K mg base c.N d0.qual d0.scope (He.fAd K d0.at_) (.ref (He.codeOf K d0.at_)) A outer s H E) →
      ToldAll { p with F0 := F0 } c (ftAt fns told fuel n) (Lv n) (cxOf (L2N.CX P w) P w K mg base c.N d0.qual d0.scope (He.fAd K d0.at_) (.ref (He.codeOf K d0.at_)) A outer s H E) := by
  intro F0 n A outer s H E hr xo
  refine ⟨fun h hh => ?_, fun _ => ⟨⟨T, _, Pt, TB, rfl, hmT, hu, fun H => by show p.TI H ↔ _; rw [hTI]⟩, hcp⟩⟩
  rw [ht] at hh
  have eh : h = tl := List.mem_singleton.mp hh
  subst eh
  obtain ⟨oc, od, dV, kV, doc, pm, an, cdv, ct, osl, rfl, lk, hcd, _, _⟩ := FT.ex
  refine told_ok (T := T) (ok := ok) (lab := lab) (x := x) (a := a) (g := g) (cc := He.codeOf K d0.at_) (P := Pt) hr (fun H => by show p.TI H ↔ _; rw [hTI]) hx hmx FT.kp lk hcd bT ST hNg hva hd1 hd2 ?_ TB rfl hmT hu (fun d => by rw [ftAt_told]; exact hin d) (fun cid d C e1 e2 => by rw [ftAt_told] at e1; exact hlab cid d C e1 e2)
  exact err_gives hNg ST.nd htx hme hi hv hok hn
/-- the promise of a def whose text is known -/
theorem law_fn (ok : ∀ f d, fns f = some d → DefOk p P w K mg base fns told fuel f d) (hcp : ∀ F v q, p.CP F v q → CloSt p.g F v q) (n : Nat) {d0 : He.DefD} {fd : FuncData} {ps : List Str} {c : Ck} (hf : fns f = some d) (F : FunD K d0.name d0.qual d0.params d0.body d0.scope [] [] (He.fAd K d0.at_) fd) (S : FnScope c.N ps d0.scope)
    (h1 : d.ns = c.N.length) (h2 : d.np = ps.length) (h3 : c.sc = d0.scope) (G : GlbOk p K mg c) (hs : okSs c d.body d0.body = true)
    (td : ∀ (F0 : Hp) (n : Nat) (A : Around) (outer : List PySem.Env) (s : Shared) (H : Hp) (E : XK), Room (Lv n + 2) (A.deeper (envOfC d0.qual d0.scope s.heap.objs.size (He.fAd K d0.at_) (.ref (He.codeOf K d0.at_)))) →
      XOk { p with F0 := F0 } c (ftAt fns told fuel n) (Lv n) (fun cls d _ H => E cls d H) (cxOf (L2N.CX P w) P w K mg base c.N d0.qual d0.scope (He.fAd K d0.at_) (.ref (He.codeOf K d0.at_)) A outer s H E) →
      ToldAll { p with F0 := F0 } c (ftAt fns told fuel n) (Lv n) (cxOf (L2N.CX P w) P w K mg base c.N d0.qual d0.scope (He.fAd K d0.at_) (.ref (He.codeOf K d0.at_)) A outer s H E)) :
    FnOk P w K mg base (L2N.CX P w) (Lv (n + 1)) (He.fAd K d0.at_) fd ps (spF p ps.length ((ftAt fns told fuel (n + 1)).fn f)) := by
  have ihb := defs_both ok hcp G.gK G.gm n
  have ih := ihb.1
  rw [ftAt_fn n hf]
  obtain ⟨oc, od, dV, kV, doc, pm, an, cdv, ct, osl, rfl, lk, hcd, _, _⟩ := F.ex
  obtain ⟨c0, rfl⟩ := He.codeIn_ref hcd
  have ec : He.codeOf K d0.at_ = c0 := He.codeOf_eq lk rfl
  subst ec
  refine FnOk.mono (j := (Lv n + 2) + 1) (fn_of lk hcd S spF_len fun A outer s H vs Q E hr hsp => ?_) (by show 3 * n + 2 + 1 ≤ 3 * (n + 1); omega)
  obtain ⟨F0, hr2⟩ := fn_read h1 hsp
  refine ⟨_, ?_, hr2⟩
  have xo := xok_def (P := P) (w := w) (base := base) (qual := d0.qual) (f := He.fAd K d0.at_) (cdv := .ref (He.codeOf K d0.at_)) (A := A) (outer := outer) (s := s) (H := H) (F0 := F0) (E := E) (ft := ftAt fns told fuel n) (k := Lv n) G S rfl h3 (hr.mono (by omega)) (fun g hg => by
    rw [ftAt_dom] at hg
    obtain ⟨dg, hdg⟩ := Option.isSome_iff_exists.mp hg
    exact ih g dg hdg) ihb.2
  exact okSs_snd d.body c _ _ d0.body ⟨xo, h3.symm, passes_of rfl, td F0 n A outer s H E hr xo⟩ hs
end
end AP
end
section
set_option maxHeartbeats 2000000
/-! E6s: the def that tells what a call returns, or the name of its error -/
namespace AP
open PySem PySem.Spec PyProof.Rows L2 L2H LamX

/-- the teller's text -/
def soText (N : List Str) (sc : Scope) : List Stmt → Option (Str × Str)
  | [.Try [.Return (some (.Tuple [.Call (.Name a _) [] [] _, .Constant (.str e) _ _] _ _)) _] [.ExceptHandler (some (.Name pe _)) (some n) [.Return (some (.Tuple [.Constant .none _ _, .Call (.Name g _) [.Name n2 _] [] _] _ _)) _] _] [] [] _] =>
    if (decide (e = ("" : Str)) && decide (n2 = n) && nmB N sc 0 a && nmB N sc 1 n && glB sc pe && glB sc g && decide (N.length = 2)) = true then some (pe, g) else none
  | _ => none
def TTSo (ok : Addr → Prop) (lab : Addr → Str) : (XK → Hp → VK → Prop) → Hp → VK → Prop := fun tl H Q =>
  tl (fun cls d H' => ∃ D, cls = .ref D ∧ d = none ∧ ok D ∧ ∀ H'', Ext H' H'' → ∀ p, H'' p = none → Q (.ref p) (upd H'' p (.tup [.non, .str (lab D)]))) H (fun v H' => [v, V.str ("" : Str)].length ≤ sizeLine ∧ ∀ p, H' p = none → Q (.ref p) (upd H' p (.tup [v, .str ("" : Str)])))
theorem so_gives {X : Cx} {Ng : List Str} {a x q pe gn : Str} {sg : Scope} {g CP : Addr} {cdg : Value} {bg : List Stmt} {k : Nat} {ok : Addr → Prop} {lab : Addr → Str} (ha : Ng[0]? = some a) (nd : Ng.Nodup) (ht : soText Ng sg bg = some (pe, gn)) (hme : X.mg pe = some (.ref CP))
    (hok : ∀ D, ok D → ExcC X.K D ∧ PySem.W.exmOne X.K (.ref D) (.ref CP) = some true) (hn : NamedOk X.prog X.w X.K X.mg X.base gn ok lab) : GivesToN X Ng x sg g cdg bg a q (k + 1) (TTSo ok lab) := by
  intro f c' s H Q tl act hc h hroom
  unfold soText at ht
  split at ht
  case h_2 => cases ht
  rename_i a' p1 p2 e' je p3 kt p4 p5 pe' p6 n p7 p8 g' p9 n2 p10 p11 kt2 p12 p13 p14 p15
  split at ht
  case isFalse => cases ht
  rename_i hb
  simp only [Bool.and_eq_true, decide_eq_true_eq] at hb
  obtain ⟨⟨⟨⟨⟨⟨e1, e2⟩, e6⟩, e7⟩, e8⟩, e9⟩, e12⟩ := hb
  cases ht
  subst e1 e2
  have ea : a' = a := by
    unfold nmB at e6
    simp only [Bool.and_eq_true, decide_eq_true_eq] at e6
    have := e6.1.1.1
    rw [ha] at this
    exact (Option.some.inj this).symm
  subst ea
  obtain ⟨fN, fdN, xN, hm1, hm2, hm3, hm4⟩ := hn
  generalize hX : (cxOf C8.CX0 X.prog X.w X.K X.mg X.base Ng x sg g cdg X.A X.stack s H C8.E0).nox = X0
  have hX0 : X0.N = Ng ∧ X0.env.scope = sg ∧ X0.K = X.K ∧ X0.mg = X.mg ∧ X0.base = X.base ∧ X0.prog = X.prog ∧ X0.w = X.w ∧ X0.stack = X0.env :: X0.outer ∧ X0.env.frame = some X0.env.locals ∧ X0.A = X.A.deeper (envOfC x sg s.heap.objs.size g cdg) := by
    subst hX; exact ⟨rfl, rfl, rfl, rfl, rfl, rfl, rfl, rfl, rfl, rfl⟩
  obtain ⟨hXN, hXs, hXK, hXm, hXb, hXp, hXw, hXst, hXf, hXA⟩ := hX0
  have e7' : nmB X0.N X0.env.scope 1 n2 = true := by rw [hXN, hXs]; exact e7
  have n1' := nmB_nm e7'
  have w1 := nmB_nw (by rw [hXN]; exact nd) e7'
  have hln : X0.env.kindOf n2 = some .local := by
    unfold nmB at e7'
    simp only [Bool.and_eq_true, decide_eq_true_eq] at e7'
    exact e7'.1.1.2
  have gp := glB_gl (X := X0) (x := pe) (by rw [hXs]; exact e8)
  have gg := glB_gl (X := X0) (x := gn) (by rw [hXs]; exact e9)
  refine ⟨_, pss_one (L2N.ps_try_as (X := X0) (c := .ref CP) (i := 1)
      (tb := fun W D σ H => ∃ Ech : XK, (∀ cls d σ' H', Ech cls d H' → W cls d σ' H') ∧ σ[0]? = some (some (.ref f)) ∧ H c' = some (CodeO c' q) ∧ tl Ech H (fun v H' => [v, V.str ("" : Str)].length ≤ sizeLine ∧ ∀ p, H' p = none → D.rt (.ref p) (upd H' p (.tup [v, .str ("" : Str)]))))
      (ts := fun a cls d D σ H => ∃ Dd, cls = .ref Dd ∧ d = none ∧ ok Dd ∧ (1 < σ.length → σ[1]? = some (some (V.ref a))) ∧ ∀ H'', Ext H H'' → ∀ p, H'' p = none → D.rt (.ref p) (upd H'' p (.tup [.non, .str (lab Dd)])))
      (Wout := fun _ _ _ _ => False) hXst hXf (by rw [hXN]; exact nd) n1'.at_ hln ⟨gp.1, gp.2, .inl (by rw [hXm]; exact hme)⟩ takes0N (fun W pn xe tk _ => ?_) (fun a oe cls d pn hz hf => ?_)), ?_⟩
  · subst hX
    refine ⟨fun pins s' σ H' D I h' => ?_⟩
    obtain ⟨Ech, hW, h1, h2, h3⟩ := h'
    have hq := pss_one (ps_ret (pos := p5) (pe_tup (x1 := kt) (pos := p4) (pa_cons (act W pn xe Ech p1 p2 tk hW) (pa_cons (pe_str (x := ("" : Str)) (j := je) (pos := p3)) pa_nil rfl) rfl)))
    refine hq.run pins s' σ H' D I ⟨h1, h2, ?_⟩
    exact h3
  · refine ⟨fun pins s' σ H' Dd I h' => ?_⟩
    obtain ⟨D0, rfl, rfl, hD, hσ, hq⟩ := h'
    obtain ⟨hC, hex⟩ := hok D0 hD
    have hl : σ.length = 2 := by
      have := I.len
      rw [this]
      show X0.N.length = 2
      rw [hXN]; exact e12
    have hot : Hot1 (X0.suite a ((a, oe) :: pn)).A (a, oe) := by
      obtain ⟨vs, hvs⟩ := hf
      exact ⟨rfl, vs, hvs, hz.2.2 vs hvs⟩
    have F := hm4 D0 hD a oe hz hf
    have F' : FnHp (X0.suite a ((a, oe) :: pn)).prog (X0.suite a ((a, oe) :: pn)).w (X0.suite a ((a, oe) :: pn)).K (X0.suite a ((a, oe) :: pn)).mg (X0.suite a ((a, oe) :: pn)).base C8.CX0 1 (a, oe) fN fdN [xN] (spNm a (lab D0)) := by
      show FnHp X0.prog X0.w X0.K X0.mg X0.base _ _ _ _ _ _ _
      rw [hXp, hXw, hXK, hXm, hXb]; exact F
    have hr1 : RoomH 1 (X0.suite a ((a, oe) :: pn)).A := by
      have h0 := (roomH_of hroom).mono (j := 1) (by omega)
      rw [← hXA] at h0
      exact ⟨h0.dp, h0.un⟩
    have nS : Nm (X0.suite a ((a, oe) :: pn)) 1 n2 := ⟨n1'.at_, n1'.vis, n1'.d1, n1'.d2⟩
    have body := pss_one (ps_ret (X := X0.suite a ((a, oe) :: pn)) (pos := p13) (pe_tup (x1 := kt2) (pos := p12) (pa_cons (pe_non (j := p7) (pos := p8))
      (pa_cons (pe_callHp (E := fun _ _ _ _ => False) (q := p9) (pos := p11) F' hr1 hot List.mem_cons_self gg.1 (by show X0.mg _ = _; rw [hXm]; exact hm1) (by show PySem.W.keepIn X0.K _ = _; rw [hXK]; exact hm2) (by show L2.Binds X0.K _ _ _; rw [hXK]; exact hm3) (fun σ _ _ _ _ _ _ z => z.elim) (pa_cons (pe_var (pos := p10) (i := 1) nS.at_ nS.vis nS.d1 nS.d2) pa_nil rfl) gg.2 rfl rfl) pa_nil rfl) rfl)))
    refine body.run pins s' σ H' Dd I ?_
    have h1 := hσ (by omega)
    exact ⟨_, h1, rfl, fun H'' e2 => ⟨by show 2 ≤ _; rw [sizeLine_eq]; decide, hq H'' e2⟩⟩
  · refine ⟨_, fun cls d σ' H' z => ?_, ?_, hc, h⟩
    · obtain ⟨D0, rfl, rfl, hD, hq⟩ := z
      obtain ⟨hC, hex⟩ := hok D0 hD
      refine ⟨true, by rw [hXK]; exact hex, fun _ a na => ⟨D0, rfl, rfl, hD, fun hl => ?_, hq⟩, fun z => (by cases z)⟩
      rw [List.length_set] at hl
      rw [List.getElem?_set_self hl]
    · cases Ng with
      | nil => cases ha
      | cons n N => rfl
end AP
end
section
set_option maxHeartbeats 2000000
/-! E7s: a teller of values, or of errors -/
namespace AP
open PySem PySem.Spec PyProof.Rows L2 L2H LamX

theorem so_ok0 {p : Pa} {c : Ck} {ft : FT} {k : Nat} {W : WX} {X : Cx} {h : Nat} {T : List (Addr × Str)} {ok : Addr → Prop} {lab : Addr → Str}
    {x a : Str} {g cc P : Addr} {pg : Arguments} {bg : List Stmt} {sg : Scope} {dV kV doc pm cdv ct oc : Value} {an od : Option Addr} {osl : Array (Option Value)} {Ng : List Str}
    (O : XOk p c ft k W X) (hr : Room (k + 2) X.A) (hTI : ∀ H, p.TI H ↔ Tabs T H) (hx : c.G[h]? = some x) (hm : X.mg x = some (.ref g)) (hk : PySem.W.keepIn X.K (.ref g) = true)
    (lk : X.K.lookup g = some ⟨oc, od, .func (PySem.W.fnOf x x pg bg sg dV kV doc pm an cdv ct), osl⟩) (hcg : PySem.W.codeIn X.K cdv x = true) (hb : L2.Binds X.K (PySem.W.fnOf x x pg bg sg dV kV doc pm an cdv ct) [a] []) (Sg : FnScope Ng [a] sg) (hNg : Ng[0]? = some a) (hva : Vis sg a) (hd1 : (a == ("__debug__" : Str)) = false) (hd2 : (a == ("__classdict__" : Str)) = false)
    (hG : GivesToN X Ng x sg g cdv bg a (X.env.qual ++ "<lambda>") (k + 1) (TTSo ok lab))
    (TB : TabB X.base X.mg cc P) (hcode : X.env.code = .ref cc) (hmT : (P, X.env.qual ++ "<lambda>") ∈ T) (hu : ∀ p ∈ T, p.1 = P → p.2 = X.env.qual ++ "<lambda>")
    (hin : ∀ d, ft.told h (.inl d) = some (.tup [d, .str ""])) (hlab : ∀ cid d C, ft.told h (.inr cid) = some d → ClsAt p.g cid C → ok C ∧ d = .tup [.non, .str (lab C)]) : ToldOk p c ft k W X h := by
  intro x' fb args body scope lpos pos p1 hG' hgl hlam hbody
  rw [hx] at hG'
  cases hG'
  obtain ⟨g1, g2⟩ := O.gl hgl
  unfold okLam at hlam
  rw [Bool.and_eq_true] at hlam
  obtain ⟨hea, hls⟩ := hlam
  have L : LamS X.env.scope scope := lamS_lk O (lamS_by hls)
  refine PE.imp (ap_pe_lamcall (T := T) (TT := TTSo ok lab) (k := k) (t := fun E => tO p X (fun cls d _ H => E cls d H) fb) g1 hm hk lk hcg hb Sg hNg hva hG TB hcode hmT hu hr L (lam_def hea) (fun _ _ _ _ _ => lam_bind hea) (fun A outer s H E f c' hr' => ?_) g2 hd1 hd2) fun σ H Q ⟨H0, Lt, Fz, ρ, S, q⟩ => ?_
  · refine hbody (fun cls d _ H => E cls d H) (lamCxN X A outer s H E scope f c') ⟨O.N, O.nd, fun y q e => ⟨fun _ => e, fun z => .inl (by subst z; exact e)⟩, fun y e => ?_, L.kind, rfl, O.gK, O.gm, O.gG, hr', O.blt, O.gi, O.gt, O.gf, L2N.takes_of rfl rfl rfl rfl, O.fns, O.cls, fun cl y C hcl => absurd hcl List.not_mem_nil⟩
    exact absurd rfl (L.own _ (PySem.mem_of_lookup e)).2
  · refine ⟨(hTI H).mp S.tab, fun H1 e1 d1 t1 => ?_⟩
    have S1 := S.to e1 d1 ((hTI H1).mpr t1)
    refine ⟨H0, Lt, Fz, ρ, S1, ?_⟩
    change Post (rO p) p X W H0 Lt Fz σ Q (toldR (ft.told h) (frz (fb ρ))) at q
    generalize fb ρ = r at q ⊢
    cases r with
    | ok v ρ' =>
      simp only [frz, toldR, hin] at q
      refine fun y Fz' H' x1 S' r => ⟨by show 2 ≤ _; rw [sizeLine_eq]; decide, fun a n => ?_⟩
      obtain ⟨F2, x2, S2, r2⟩ := ValRep.frz S' r
      exact rpost_tup S2.ext (rpost_of S2 (Post.ext (x1.trans x2) q)) (.cons r2 (.cons (.str _) .nil)) a n
    | exc cid ρ' =>
      cases ht : ft.told h (.inr cid) with
      | none => simp only [frz, toldR, ht] at q; exact q.elim
      | some d =>
        simp only [frz, toldR, ht] at q
        refine fun Fz' H' C x1 S' hC => ?_
        obtain ⟨h1, h2⟩ := hlab cid d C ht hC
        subst h2
        refine ⟨C, rfl, rfl, h1, fun H'' e2 a n => ?_⟩
        have S2 := S'.more e2
        exact rpost_tup S2.ext (rpost_of S2 (Post.ext x1 q)) (.cons .non (.cons (.str _) .nil)) a n
    | stuck => exact q.elim
theorem so_ok {p : Pa} {c : Ck} {ft : FT} {k : Nat} {X : Cx} {h : Nat} {T : List (Addr × Str)} {ok : Addr → Prop} {lab : Addr → Str}
    {x a : Str} {g cc P : Addr} {pg : Arguments} {bg : List Stmt} {sg : Scope} {dV kV doc pm cdv ct oc : Value} {an od : Option Addr} {osl : Array (Option Value)} {Ng : List Str}
    (hr : Room (k + 2) X.A) (hTI : ∀ H, p.TI H ↔ Tabs T H) (hx : c.G[h]? = some x) (hm : X.mg x = some (.ref g)) (hk : PySem.W.keepIn X.K (.ref g) = true)
    (lk : X.K.lookup g = some ⟨oc, od, .func (PySem.W.fnOf x x pg bg sg dV kV doc pm an cdv ct), osl⟩) (hcg : PySem.W.codeIn X.K cdv x = true) (hb : L2.Binds X.K (PySem.W.fnOf x x pg bg sg dV kV doc pm an cdv ct) [a] []) (Sg : FnScope Ng [a] sg) (hNg : Ng[0]? = some a) (hva : Vis sg a) (hd1 : (a == ("__debug__" : Str)) = false) (hd2 : (a == ("__classdict__" : Str)) = false)
    (hG : GivesToN X Ng x sg g cdv bg a (X.env.qual ++ "<lambda>") (k + 1) (TTSo ok lab))
    (TB : TabB X.base X.mg cc P) (hcode : X.env.code = .ref cc) (hmT : (P, X.env.qual ++ "<lambda>") ∈ T) (hu : ∀ p ∈ T, p.1 = P → p.2 = X.env.qual ++ "<lambda>")
    (hin : ∀ d, ft.told h (.inl d) = some (.tup [d, .str ""])) (hlab : ∀ cid d C, ft.told h (.inr cid) = some d → ClsAt p.g cid C → ok C ∧ d = .tup [.non, .str (lab C)]) : ∀ (Y : Cx) (W : WX) (c' : Ck), Sub X Y → c'.G = c.G → XOk p c' ft k W Y → ToldOk p c' ft k W Y h := by
  intro Y W c' S eG O
  rw [← eG] at hx
  obtain ⟨yprog, yw, yK, ymg, ybase, yA, yN, ys0, yH0, yenv, youter, ystack, yex, yfn, ycalm, ypn, yxe⟩ := Y
  obtain ⟨e1, e2, e3, e4, e5, e6, e7, e8, e9⟩ := S
  simp only at e1 e2 e3 e4 e5 e6 e7 e8 e9
  subst e1 e2 e3 e4 e5 e6 e7
  rw [← e9] at hcode
  rw [← e8] at hG hmT hu
  exact so_ok0 (T := T) (ok := ok) (lab := lab) (a := a) (cc := cc) (P := P) O hr hTI hx hm hk lk hcg hb Sg hNg hva hd1 hd2 hG TB hcode hmT hu hin hlab
end AP
end
section
set_option maxHeartbeats 2000000
/-! E9: the def with a teller -/
namespace AP
open PySem PySem.Spec PyProof.Rows L2 L2H LamX
section
variable {p : Pa} {P : Program} {w : World} {K : PySem.W.Frag} {mg : Str → Option Value} {base : Heap} {fns : Nat → Option FnD} {told : Nat → D ⊕ Nat → Option D} {fuel f : Nat} {d : FnD}
theorem lawTdS {d0 : He.DefD} {c : Ck} (h3 : c.sc = d0.scope) {tl : Nat} (ht : c.TL = [tl])
    {x a pe gn : Str} {g CP Pt : Addr} {pg : Arguments} {bg : List Stmt} {sg : Scope} {fdT : FuncData} {Ng : List Str} {ok : Addr → Prop} {lab : Addr → Str} {T : List (Addr × Str)} (hcp : p.CP = CloSt p.g) (hTI : p.TI = Tabs T) (hmT : (Pt, lamQ d0.qual d0.scope) ∈ T) (hu : ∀ q ∈ T, q.1 = Pt → q.2 = lamQ d0.qual d0.scope) (hx : c.G[tl]? = some x) (hmx : mg x = some (.ref g)) (FT : FunD K x x pg bg sg [] [] g fdT) (bT : L2.Binds K fdT [a] [])
    (ST : FnScope Ng [a] sg) (hNg : Ng[0]? = some a) (hva : Vis sg a) (hd1 : (a == ("__debug__" : Str)) = false) (hd2 : (a == ("__classdict__" : Str)) = false) (htx : soText Ng sg bg = some (pe, gn)) (hme : mg pe = some (.ref CP)) 
    (hok : ∀ D, ok D → ExcC K D ∧ PySem.W.exmOne K (.ref D) (.ref CP) = some true) (hn : NamedOk P w K mg base gn ok lab) (TB : TabB base mg (He.codeOf K d0.at_) Pt)
    (hin : ∀ d, told tl (.inl d) = some (.tup [d, .str ""])) (hlab : ∀ cid d C, told tl (.inr cid) = some d → ClsAt p.g cid C → ok C ∧ d = .tup [.non, .str (lab C)]) : ∀ (F0 : Hp) (n : Nat) (A : Around) (outer : List PySem.Env) (s : Shared) (H : Hp) (E : XK), Room (Lv n + 2) (A.deeper (envOfC d0.qual d0.scope s.heap.objs.size (He.fAd K d0.at_) (.ref (He.codeOf K d0.at_)))) →
      XOk { p with F0 := F0 } c (ftAt fns told fuel n) (Lv n) (fun cls d _ H => E cls d H) (cxOf (L2N.CX P w) P w K mg base c.N d0.qual d0.scope (He.fAd K d0.at_) (.ref (He.codeOf K d0.at_)) A outer s H E) →
      ToldAll { p with F0 := F0 } c (ftAt fns told fuel n) (Lv n) (cxOf (L2N.CX P w) P w K mg base c.N d0.qual d0.scope (He.fAd K d0.at_) (.ref (He.codeOf K d0.at_)) A outer s H E) := by
  intro F0 n A outer s H E hr xo
  refine ⟨fun h hh => ?_, fun _ => ⟨⟨T, _, Pt, TB, rfl, hmT, hu, fun H => by show p.TI H ↔ _; rw [hTI]⟩, hcp⟩⟩
  rw [ht] at hh
  have eh : h = tl := List.mem_singleton.mp hh
  subst eh
  obtain ⟨oc, od, dV, kV, doc, pm, an, cdv, ct, osl, rfl, lk, hcd, _, _⟩ := FT.ex
  refine so_ok (T := T) (ok := ok) (lab := lab) (x := x) (a := a) (g := g) (cc := He.codeOf K d0.at_) (P := Pt) hr (fun H => by show p.TI H ↔ _; rw [hTI]) hx hmx FT.kp lk hcd bT ST hNg hva hd1 hd2 ?_ TB rfl hmT hu (fun d => by rw [ftAt_told]; exact hin d) (fun cid d C e1 e2 => by rw [ftAt_told] at e1; exact hlab cid d C e1 e2)
  exact so_gives hNg ST.nd htx hme hok hn
end
end AP
end
section
namespace K15
open PySem AP
def G : List Str := (["is_whole", "is_row", "is_bounds", "is_task", "is_plan", "need_plan", "task_line", "as_text", "plan_text", "number_in", "task_in", "read_plan", "_law_cell", "_law_draws", "_law_bag", "_law_take", "_law_choice", "_law_plan", "_law_named_error", "_law_told_so", "_law_text", "_law_integer", "_law_read", "_law_bent", "law", "PlanError", "InvalidPlan", "InvalidCase", "InvalidWord", "InvalidTask", "InvalidMoment", "InvalidPaper", "InvalidFacts", "InvalidDeed", "InvalidText", "Unlike", "NothingToUndo"] : List String).map Str.ofString
/-- is_whole -/
def N_is_whole : List Str := (["value", "low", "high"] : List String).map Str.ofString
def b_is_whole : ISs :=
  (.cons (.ret (.and (.isi (.var 0) (.ty "int")) (.and (.not (.isi (.var 0) (.ty "bool"))) (.chain .le .le (.var 1) (.var 0) (.var 2))))) .nil)
def d_is_whole : FnD := ⟨3, 3, b_is_whole⟩
/-- is_row -/
def N_is_row : List Str := (["value", "low", "high"] : List String).map Str.ofString
def b_is_row : ISs :=
  (.cons (.ret (.and (.isi (.var 0) (.ty "tuple")) (.chain .le .le (.var 1) (.len (.var 0)) (.var 2)))) .nil)
def d_is_row : FnD := ⟨3, 3, b_is_row⟩
/-- is_bounds -/
def N_is_bounds : List Str := (["value"] : List String).map Str.ofString
def b_is_bounds : ISs :=
  (.cons (.ret (.and (.call 1 (.e (.var 0) (.e (.cst (.int 2)) (.e (.cst (.int 2)) .nil)))) (.and (.call 0 (.e (.idx (.var 0) (.cst (.int 1))) (.e (.cst (.int 0)) (.e (.cst (.int 20)) .nil)))) (.call 0 (.e (.idx (.var 0) (.cst (.int 0))) (.e (.cst (.int 0)) (.e (.idx (.var 0) (.cst (.int 1))) .nil))))))) .nil)
def d_is_bounds : FnD := ⟨1, 1, b_is_bounds⟩
/-- is_task -/
def N_is_task : List Str := (["number", "value", "wait", "one", "other"] : List String).map Str.ofString
def b_is_task : ISs :=
  (.cons (.ifs (.or (.not (.call 1 (.e (.var 1) (.e (.cst (.int 4)) (.e (.cst (.int 4)) .nil))))) (.not (.call 1 (.e (.idx (.var 1) (.cst (.int 0))) (.e (.cst (.int 0)) (.e (.cst (.int 5)) .nil)))))) (.cons (.ret (.cst (.bl false))) .nil) .nil) (.cons (.ifs (.not (.bi .all (.cons (.comp (.call 0 (.e (.var 2) (.e (.cst (.int 0)) (.e (.bin .sub (.var 0) (.cst (.int 1))) .nil)))) (.nm 2) (.seq (.idx (.var 1) (.cst (.int 0)))) (.cst (.bl true)) [2]) .nil))) (.cons (.ret (.cst (.bl false))) .nil) .nil) (.cons (.ifs (.not (.bi .all (.cons (.comp (.cmp .lt (.var 3) (.var 4)) (.tup (.cons (.nm 3) (.cons (.nm 4) .nil))) (.zip (.idx (.var 1) (.cst (.int 0))) (.sl (.idx (.var 1) (.cst (.int 0))) (.some (.cst (.int 1))) .none)) (.cst (.bl true)) [3, 4]) .nil))) (.cons (.ret (.cst (.bl false))) .nil) .nil) (.cons (.ret (.and (.call 0 (.e (.idx (.var 1) (.cst (.int 1))) (.e (.cst (.int 0)) (.e (.cst (.int 9)) .nil)))) (.and (.call 0 (.e (.idx (.var 1) (.cst (.int 2))) (.e (.cst (.int 0)) (.e (.cst (.int 9)) .nil)))) (.call 0 (.e (.idx (.var 1) (.cst (.int 3))) (.e (.cst (.int 0)) (.e (.cst (.int 60)) .nil))))))) .nil))))
def d_is_task : FnD := ⟨2, 5, b_is_task⟩
/-- is_plan -/
def N_is_plan : List Str := (["value", "number", "task"] : List String).map Str.ofString
def b_is_plan : ISs :=
  (.cons (.ifs (.or (.not (.call 1 (.e (.var 0) (.e (.cst (.int 3)) (.e (.cst (.int 3)) .nil))))) (.or (.not (.call 1 (.e (.idx (.var 0) (.cst (.int 0))) (.e (.cst (.int 1)) (.e (.cst (.int 6)) .nil))))) (.or (.not (.call 2 (.e (.idx (.var 0) (.cst (.int 1))) .nil))) (.not (.call 2 (.e (.idx (.var 0) (.cst (.int 2))) .nil)))))) (.cons (.ret (.cst (.bl false))) .nil) .nil) (.cons (.ret (.bi .all (.cons (.comp (.call 3 (.e (.var 1) (.e (.var 2) .nil))) (.tup (.cons (.nm 1) (.cons (.nm 2) .nil))) (.enum (.idx (.var 0) (.cst (.int 0)))) (.cst (.bl true)) [1, 2]) .nil))) .nil))
def d_is_plan : FnD := ⟨1, 3, b_is_plan⟩
/-- need_plan -/
def N_need_plan : List Str := (["plan"] : List String).map Str.ofString
def b_need_plan : ISs :=
  (.cons (.ifs (.not (.call 4 (.e (.var 0) .nil))) (.cons (.raise 26) .nil) .nil) .nil)
def d_need_plan : FnD := ⟨1, 1, b_need_plan⟩
/-- task_line -/
def N_task_line : List Str := (["task", "waits", "wait"] : List String).map Str.ofString
def b_task_line : ISs :=
  (.cons (.asg 1 (.ite (.cmp .ne (.idx (.var 0) (.cst (.int 0))) (.tup .nil)) (.join (.cst (.str ",")) (.comp (.bi .str (.cons (.var 2) .nil)) (.nm 2) (.seq (.idx (.var 0) (.cst (.int 0)))) (.cst (.bl true)) [2])) (.cst (.str "-")))) (.cons (.ret (.fstr (.cons (.cst (.str "task ")) (.cons (.var 1) (.cons (.cst (.str " ")) (.cons (.idx (.var 0) (.cst (.int 1))) (.cons (.cst (.str " ")) (.cons (.idx (.var 0) (.cst (.int 2))) (.cons (.cst (.str " ")) (.cons (.idx (.var 0) (.cst (.int 3))) .nil)))))))))) .nil))
def d_task_line : FnD := ⟨1, 3, b_task_line⟩
/-- as_text -/
def N_as_text : List Str := (["plan", "tasks", "first", "second", "lines", "task"] : List String).map Str.ofString
def b_as_text : ISs :=
  (.cons (.asgT (.tup (.cons (.nm 1) (.cons (.nm 2) (.cons (.nm 3) .nil)))) (.var 0)) (.cons (.asg 4 (.lst (.cons (.fstr (.cons (.cst (.str "first ")) (.cons (.idx (.var 2) (.cst (.int 0))) (.cons (.cst (.str " ")) (.cons (.idx (.var 2) (.cst (.int 1))) .nil))))) (.cons (.fstr (.cons (.cst (.str "second ")) (.cons (.idx (.var 3) (.cst (.int 0))) (.cons (.cst (.str " ")) (.cons (.idx (.var 3) (.cst (.int 1))) .nil))))) .nil)))) (.cons (.ret (.join (.cst (.str "\n")) (.bin .add (.var 4) (.comp (.call 6 (.e (.var 5) .nil)) (.nm 5) (.seq (.var 1)) (.cst (.bl true)) [5])))) .nil)))
def d_as_text : FnD := ⟨1, 6, b_as_text⟩
/-- plan_text -/
def N_plan_text : List Str := (["plan"] : List String).map Str.ofString
def b_plan_text : ISs :=
  (.cons (.expr (.call 5 (.e (.var 0) .nil))) (.cons (.ret (.call 7 (.e (.var 0) .nil))) .nil))
def d_plan_text : FnD := ⟨1, 1, b_plan_text⟩
/-- number_in -/
def N_number_in : List Str := (["word", "sign"] : List String).map Str.ofString
def b_number_in : ISs :=
  (.cons (.ifs (.or (.not (.chain .le .le (.cst (.int 1)) (.len (.var 0)) (.cst (.int 2)))) (.not (.bi .all (.cons (.comp (.cmp .isin (.var 1) (.cst (.str "0123456789"))) (.nm 1) (.seq (.var 0)) (.cst (.bl true)) [1]) .nil)))) (.cons (.ret (.neg (.cst (.int 1)))) .nil) .nil) (.cons (.ret (.bi .int (.cons (.var 0) .nil))) .nil))
def d_number_in : FnD := ⟨1, 2, b_number_in⟩
/-- task_in -/
def N_task_in : List Str := (["line", "words", "waits", "wait", "word"] : List String).map Str.ofString
def b_task_in : ISs :=
  (.cons (.asg 1 (.split (.var 0) (.cst (.str " ")))) (.cons (.asg 2 (.ite (.and (.cmp .gt (.len (.var 1)) (.cst (.int 1))) (.cmp .ne (.idx (.var 1) (.cst (.int 1))) (.cst (.str "-")))) (.split (.idx (.var 1) (.cst (.int 1))) (.cst (.str ","))) (.lst .nil))) (.cons (.ret (.bin .add (.tup (.cons (.bi .tuple (.cons (.comp (.call 9 (.e (.var 3) .nil)) (.nm 3) (.seq (.var 2)) (.cst (.bl true)) [3]) .nil)) .nil)) (.bi .tuple (.cons (.comp (.call 9 (.e (.var 4) .nil)) (.nm 4) (.seq (.sl (.var 1) (.some (.cst (.int 2))) .none)) (.cst (.bl true)) [4]) .nil)))) .nil)))
def d_task_in : FnD := ⟨1, 5, b_task_in⟩
/-- read_plan -/
def N_read_plan : List Str := (["value", "lines", "bounds", "found", "line", "word"] : List String).map Str.ofString
def b_read_plan : ISs :=
  (.cons (.ifs (.not (.isi (.var 0) (.ty "str"))) (.cons (.raise 34) .nil) .nil) (.cons (.asg 1 (.split (.var 0) (.cst (.str "\n")))) (.cons (.asg 2 (.bi .tuple (.cons (.comp (.bi .tuple (.cons (.comp (.call 9 (.e (.var 5) .nil)) (.nm 5) (.seq (.sl (.split (.var 4) (.cst (.str " "))) (.some (.cst (.int 1))) .none)) (.cst (.bl true)) [5]) .nil)) (.nm 4) (.seq (.sl (.var 1) .none (.some (.cst (.int 2))))) (.cst (.bl true)) [4]) .nil))) (.cons (.asg 3 (.bin .add (.tup (.cons (.bi .tuple (.cons (.comp (.call 10 (.e (.var 4) .nil)) (.nm 4) (.seq (.sl (.var 1) (.some (.cst (.int 2))) .none)) (.cst (.bl true)) [4]) .nil)) .nil)) (.var 2))) (.cons (.ifs (.or (.not (.call 4 (.e (.var 3) .nil))) (.cmp .ne (.call 7 (.e (.var 3) .nil)) (.var 0))) (.cons (.raise 34) .nil) .nil) (.cons (.ret (.var 3)) .nil))))))
def d_read_plan : FnD := ⟨1, 6, b_read_plan⟩
/-- _law_cell -/
def N_law_cell : List Str := (["script", "k"] : List String).map Str.ofString
def b_law_cell : ISs :=
  (.cons (.ifs (.cmp .lt (.var 1) (.len (.var 0))) (.cons (.ret (.idx (.var 0) (.var 1))) .nil) .nil) (.cons (.ifs (.cmp .eq (.len (.var 0)) (.cst (.int 0))) (.cons (.ret (.bin .add (.bin .mul (.cst (.int 7919)) (.var 1)) (.cst (.int 101)))) .nil) .nil) (.cons (.ret (.bin .add (.bin .mod (.idx (.var 0) (.bin .mod (.var 1) (.len (.var 0)))) (.cst (.int 1000003))) (.bin .mul (.cst (.int 7919)) (.var 1)))) .nil)))
def d_law_cell : FnD := ⟨2, 2, b_law_cell⟩
/-- _law_draws -/
def N_law_draws : List Str := (["script", "k", "many", "base", "primes", "cell", "rest", "row", "j", "mash"] : List String).map Str.ofString
def b_law_draws : ISs :=
  (.cons (.asg 4 (.tup (.cons (.cst (.int 2147483647)) (.cons (.cst (.int 2147483629)) (.cons (.cst (.int 2147483587)) (.cons (.cst (.int 2147483579)) (.cons (.cst (.int 2147483563)) (.cons (.cst (.int 2147483549)) (.cons (.cst (.int 2147483543)) (.cons (.cst (.int 2147483497)) .nil)))))))))) (.cons (.asg 5 (.call 12 (.e (.var 0) (.e (.var 1) .nil)))) (.cons (.asg 6 (.cst (.int 0))) (.cons (.ifs (.cmp .ge (.var 5) (.bin .pow (.cst (.int 10)) (.cst (.int 18)))) (.cons (.asg 6 (.var 5)) .nil) .nil) (.cons (.asgO 7 (.lst .nil)) (.cons (.forS (.nm 8) (.range1 (.var 2)) (.cons (.asg 9 (.bin .mul (.bin .mod (.var 5) (.idx (.var 4) (.bin .mod (.var 8) (.cst (.int 8))))) (.bin .add (.cst (.int 48271)) (.bin .mul (.bin .mul (.cst (.int 2)) (.var 8)) (.var 8))))) (.cons (.asg 9 (.bin .add (.bin .add (.var 9) (.bin .mul (.bin .mul (.cst (.int 7919)) (.bin .add (.var 8) (.cst (.int 1)))) (.bin .add (.var 8) (.cst (.int 1))))) (.bin .mul (.cst (.int 104729)) (.var 1)))) (.cons (.asg 9 (.bin .mod (.var 9) (.idx (.var 4) (.bin .mod (.bin .add (.bin .mul (.cst (.int 3)) (.var 8)) (.var 1)) (.cst (.int 8)))))) (.cons (.asg 9 (.bin .mod (.bin .mul (.bin .mul (.var 9) (.var 9)) (.var 9)) (.idx (.var 4) (.bin .mod (.bin .add (.var 8) (.cst (.int 5))) (.cst (.int 8)))))) (.cons (.ifs (.cmp .gt (.var 6) (.cst (.int 0))) (.cons (.asg 9 (.var 6)) .nil) .nil) (.cons (.app 7 (.bin .mod (.var 9) (.var 3))) (.cons (.asg 6 (.bin .fdiv (.var 6) (.var 3))) .nil)))))))) (.cons (.ret (.var 7)) .nil)))))))
def d_law_draws : FnD := ⟨4, 10, b_law_draws⟩
/-- _law_bag -/
def N_law_bag : List Str := (["script", "k"] : List String).map Str.ofString
def b_law_bag : ISs :=
  (.cons (.ret (.call 13 (.e (.var 0) (.e (.var 1) (.e (.cst (.int 150)) (.e (.cst (.int 27720)) .nil)))))) .nil)
def d_law_bag : FnD := ⟨2, 2, b_law_bag⟩
/-- _law_take -/
def N_law_take : List Str := (["bag", "many", "draw"] : List String).map Str.ofString
def b_law_take : ISs :=
  (.cons (.asg 2 (.ite (.cmp .ne (.var 0) (.lst .nil)) (.pop0 0) (.cst (.int 0)))) (.cons (.ret (.bin .mod (.bi .int (.cons (.var 2) .nil)) (.var 1))) .nil))
def d_law_take : FnD := ⟨2, 3, b_law_take⟩
/-- _law_choice -/
def N_law_choice : List Str := (["bag", "some"] : List String).map Str.ofString
def b_law_choice : ISs :=
  (.cons (.ret (.idx (.var 1) (.call 15 (.lent 0 (.e (.len (.var 1)) .nil))))) .nil)
def d_law_choice : FnD := ⟨2, 2, b_law_choice⟩
/-- _law_plan -/
def N_law_plan : List Str := (["bag", "most", "some", "number", "waits", "bounds", "other"] : List String).map Str.ofString
def b_law_plan : ISs :=
  (.cons (.asgO 2 (.lst .nil)) (.cons (.forS (.nm 3) (.range1 (.bin .add (.cst (.int 1)) (.call 15 (.lent 0 (.e (.var 1) .nil))))) (.cons (.asg 4 (.bi .tuple (.cons (.comp (.var 6) (.nm 6) (.range1 (.var 3)) (.cmp .lt (.call 15 (.lent 0 (.e (.cst (.int 5)) .nil))) (.cst (.int 2))) [6]) .nil))) (.cons (.app 2 (.tup (.cons (.var 4) (.cons (.call 15 (.lent 0 (.e (.cst (.int 4)) .nil))) (.cons (.call 15 (.lent 0 (.e (.cst (.int 4)) .nil))) (.cons (.call 16 (.lent 0 (.e (.lst (.cons (.cst (.int 0)) (.cons (.cst (.int 0)) (.cons (.cst (.int 1)) (.cons (.cst (.int 2)) (.cons (.cst (.int 5)) (.cons (.cst (.int 9)) .nil))))))) .nil))) .nil)))))) .nil))) (.cons (.asg 5 (.lst (.cons (.tup (.cons (.cst (.int 0)) (.cons (.cst (.int 10)) .nil))) (.cons (.tup (.cons (.cst (.int 0)) (.cons (.cst (.int 4)) .nil))) (.cons (.tup (.cons (.cst (.int 2)) (.cons (.cst (.int 5)) .nil))) (.cons (.tup (.cons (.cst (.int 3)) (.cons (.cst (.int 3)) .nil))) (.cons (.tup (.cons (.cst (.int 1)) (.cons (.cst (.int 2)) .nil))) .nil))))))) (.cons (.ret (.tup (.cons (.bi .tuple (.cons (.var 2) .nil)) (.cons (.call 16 (.lent 0 (.e (.var 5) .nil))) (.cons (.call 16 (.lent 0 (.e (.var 5) .nil))) .nil))))) .nil))))
def d_law_plan : FnD := ⟨2, 7, b_law_plan⟩
/-- _law_text -/
def N_law_text : List Str := (["plan_so", "some", "low", "high", "least", "most", "lines_so", "waits", "a", "b", "c", "label", "at"] : List String).map Str.ofString
def b_law_text : ISs :=
  (.cons (.asgT (.tup (.cons (.nm 1) (.cons (.tup (.cons (.nm 2) (.cons (.nm 3) .nil))) (.cons (.tup (.cons (.nm 4) (.cons (.nm 5) .nil))) .nil)))) (.var 0)) (.cons (.asgO 6 (.lst (.cons (.bin .add (.bin .add (.bin .add (.cst (.str "first ")) (.bi .str (.cons (.var 2) .nil))) (.cst (.str " "))) (.bi .str (.cons (.var 3) .nil))) (.cons (.bin .add (.bin .add (.bin .add (.cst (.str "second ")) (.bi .str (.cons (.var 4) .nil))) (.cst (.str " "))) (.bi .str (.cons (.var 5) .nil))) .nil)))) (.cons (.forS (.tup (.cons (.nm 7) (.cons (.nm 8) (.cons (.nm 9) (.cons (.nm 10) .nil))))) (.seq (.var 1)) (.cons (.asg 11 (.ite (.cmp .eq (.var 7) (.tup .nil)) (.cst (.str "-")) (.join (.cst (.str ",")) (.comp (.bi .str (.cons (.var 12) .nil)) (.nm 12) (.seq (.var 7)) (.cst (.bl true)) [12])))) (.cons (.app 6 (.join (.cst (.str " ")) (.lst (.cons (.cst (.str "task")) (.cons (.var 11) (.cons (.bi .str (.cons (.var 8) .nil)) (.cons (.bi .str (.cons (.var 9) .nil)) (.cons (.bi .str (.cons (.var 10) .nil)) .nil)))))))) .nil))) (.cons (.ret (.join (.cst (.str "\n")) (.var 6))) .nil))))
def d_law_text : FnD := ⟨1, 13, b_law_text⟩
/-- _law_integer -/
def N_law_integer : List Str := (["word", "mark"] : List String).map Str.ofString
def b_law_integer : ISs :=
  (.cons (.ifs (.or (.cmp .eq (.var 0) (.cst (.str ""))) (.or (.cmp .gt (.len (.var 0)) (.cst (.int 2))) (.cmp .ne (.comp (.var 1) (.nm 1) (.seq (.var 0)) (.cmp .notin (.var 1) (.cst (.str "0123456789"))) [1]) (.lst .nil)))) (.cons (.ret (.cst .non)) .nil) .nil) (.cons (.ret (.ite (.cmp .eq (.bi .str (.cons (.bi .int (.cons (.var 0) .nil)) .nil)) (.var 0)) (.bi .int (.cons (.var 0) .nil)) (.cst .non))) .nil))
def d_law_integer : FnD := ⟨1, 2, b_law_integer⟩
/-- _law_read -/
def N_law_read : List Str := (["text", "line", "some", "bounds", "found", "waits", "word"] : List String).map Str.ofString
def b_law_read : ISs :=
  (.cons (.asgO 2 (.comp (.split (.var 1) (.cst (.str " "))) (.nm 1) (.seq (.split (.var 0) (.cst (.str "\n")))) (.cst (.bl true)) [1])) (.cons (.ifs (.or (.cmp .lt (.len (.var 2)) (.cst (.int 3))) (.cmp .ne (.comp (.idx (.var 1) (.cst (.int 0))) (.nm 1) (.seq (.var 2)) (.cst (.bl true)) [1]) (.bin .add (.lst (.cons (.cst (.str "first")) (.cons (.cst (.str "second")) .nil))) (.bin .mul (.lst (.cons (.cst (.str "task")) .nil)) (.bin .sub (.len (.var 2)) (.cst (.int 2))))))) (.cons (.ret (.cst .non)) .nil) .nil) (.cons (.ifs (.cmp .ne (.comp (.cst (.int 1)) (.nm 1) (.seq (.sl (.var 2) (.some (.cst (.int 2))) .none)) (.cmp .ne (.len (.var 1)) (.cst (.int 5))) [1]) (.lst .nil)) (.cons (.ret (.cst .non)) .nil) .nil) (.cons (.asgO 3 (.comp (.bi .tuple (.cons (.comp (.call 21 (.e (.var 6) .nil)) (.nm 6) (.seq (.sl (.var 1) (.some (.cst (.int 1))) .none)) (.cst (.bl true)) [6]) .nil)) (.nm 1) (.seq (.sl (.var 2) .none (.some (.cst (.int 2))))) (.cst (.bl true)) [1])) (.cons (.asg 4 (.tup .nil)) (.cons (.forS (.nm 1) (.seq (.sl (.var 2) (.some (.cst (.int 2))) .none)) (.cons (.asg 5 (.ite (.cmp .eq (.idx (.var 1) (.cst (.int 1))) (.cst (.str "-"))) (.tup .nil) (.bi .tuple (.cons (.comp (.call 21 (.e (.var 6) .nil)) (.nm 6) (.seq (.split (.idx (.var 1) (.cst (.int 1))) (.cst (.str ",")))) (.cst (.bl true)) [6]) .nil)))) (.cons (.asg 4 (.bin .add (.var 4) (.tup (.cons (.bin .add (.tup (.cons (.var 5) .nil)) (.bi .tuple (.cons (.comp (.call 21 (.e (.var 6) .nil)) (.nm 6) (.seq (.sl (.var 1) (.some (.cst (.int 2))) .none)) (.cst (.bl true)) [6]) .nil))) .nil)))) .nil))) (.cons (.ret (.ite (.call 4 (.e (.tup (.cons (.var 4) (.cons (.idx (.var 3) (.cst (.int 0))) (.cons (.idx (.var 3) (.cst (.int 1))) .nil)))) .nil)) (.tup (.cons (.var 4) (.cons (.idx (.var 3) (.cst (.int 0))) (.cons (.idx (.var 3) (.cst (.int 1))) .nil)))) (.cst .non))) .nil)))))))
def d_law_read : FnD := ⟨1, 7, b_law_read⟩
/-- _law_bent -/
def N_law_bent : List Str := (["bag", "text", "at", "way", "some", "line", "mark"] : List String).map Str.ofString
def b_law_bent : ISs :=
  (.cons (.par 2 3 (.call 15 (.lent 0 (.e (.bin .add (.len (.var 1)) (.cst (.int 1))) .nil))) (.call 15 (.lent 0 (.e (.cst (.int 6)) .nil))) false) (.cons (.asg 4 (.split (.var 1) (.cst (.str "\n")))) (.cons (.asg 5 (.call 15 (.lent 0 (.e (.len (.var 4)) .nil)))) (.cons (.ifs (.cmp .eq (.var 3) (.cst (.int 0))) (.cons (.asg 6 (.call 16 (.lent 0 (.e (.lst (.cons (.cst (.str " ")) (.cons (.cst (.str "x")) (.cons (.cst (.str "\n")) (.cons (.cst (.str "1")) (.cons (.cst (.str "0")) (.cons (.cst (.str ",0")) (.cons (.cst (.str "-")) (.cons (.cst (.str "\ntask - 1 1 1")) (.cons (.cst (.str "\nsecond 0 3")) (.cons (.cst (.str ",")) .nil))))))))))) .nil)))) (.cons (.ret (.bin .add (.bin .add (.sl (.var 1) .none (.some (.var 2))) (.var 6)) (.sl (.var 1) (.some (.var 2)) .none))) .nil)) .nil) (.cons (.ifs (.cmp .eq (.var 3) (.cst (.int 1))) (.cons (.ret (.bin .add (.sl (.var 1) .none (.some (.var 2))) (.sl (.var 1) (.some (.bin .add (.var 2) (.cst (.int 1)))) .none))) .nil) .nil) (.cons (.ifs (.cmp .eq (.var 3) (.cst (.int 2))) (.cons (.ret (.join (.cst (.str "\n")) (.bin .add (.sl (.var 4) .none (.some (.var 5))) (.sl (.var 4) (.some (.bin .add (.var 5) (.cst (.int 1)))) .none)))) .nil) .nil) (.cons (.ifs (.cmp .eq (.var 3) (.cst (.int 3))) (.cons (.ret (.join (.cst (.str "\n")) (.bin .add (.sl (.var 4) .none (.some (.bin .add (.var 5) (.cst (.int 1))))) (.sl (.var 4) (.some (.var 5)) .none)))) .nil) .nil) (.cons (.ifs (.cmp .eq (.var 3) (.cst (.int 4))) (.cons (.ret (.join (.cst (.str "\n")) (.bin .add (.sl (.var 4) (.some (.var 5)) .none) (.sl (.var 4) .none (.some (.var 5)))))) .nil) .nil) (.cons (.ret (.join (.cst (.str "\n")) (.bin .add (.sl (.var 4) .none (.some (.cst (.int 2)))) (.slr (.var 4) 1)))) .nil)))))))))
def d_law_bent : FnD := ⟨2, 7, b_law_bent⟩
/-- law -/
def N_law : List Str := (["script", "k", "bag", "turn", "due", "head", "some", "bent", "odd", "plan_so", "text"] : List String).map Str.ofString
def b_law : ISs :=
  (.cons (.forS (.nm 1) (.range1 (.cst (.int 8))) (.cons (.asgO 2 (.call 14 (.e (.var 0) (.e (.var 1) .nil)))) (.cons (.asg 9 (.call 17 (.lent 2 (.e (.cst (.int 5)) .nil)))) (.cons (.asg 10 (.call 20 (.e (.var 9) .nil))) (.cons (.ifs (.or (.cmp .ne (.call 8 (.e (.var 9) .nil)) (.var 10)) (.cmp .ne (.call 11 (.e (.var 10) .nil)) (.var 9))) (.cons (.ret (.cst (.bl false))) .nil) .nil) (.cons (.forS (.nm 3) (.range1 (.cst (.int 14))) (.cons (.asg 7 (.call 23 (.lent 2 (.e (.var 10) .nil)))) (.cons (.asg 4 (.call 22 (.e (.var 7) .nil))) (.cons (.ifs (.cmp .ne (.told 19 (.call 11 (.e (.var 7) .nil))) (.ite (.cmp .is (.var 4) (.cst .non)) (.tup (.cons (.cst .non) (.cons (.cst (.str "text")) .nil))) (.tup (.cons (.var 4) (.cons (.cst (.str "")) .nil))))) (.cons (.ret (.cst (.bl false))) .nil) .nil) .nil)))) (.cons (.forS (.nm 8) (.seq (.lst (.cons (.cst .non) (.cons (.cst (.int 5)) (.cons (.cst (.str "")) (.cons (.cst (.str "first 0 1")) (.cons (.cst (.str "first 0 1\nsecond 0 1")) (.cons (.tup (.cons (.var 10) .nil)) (.cons (.bin .add (.var 10) (.cst (.str "\n"))) (.cons (.bin .add (.cst (.str "\n")) (.var 10)) (.cons (.bin .add (.cst (.str " ")) (.var 10)) .nil))))))))))) (.cons (.ifs (.cmp .ne (.told 19 (.call 11 (.e (.var 8) .nil))) (.tup (.cons (.cst .non) (.cons (.cst (.str "text")) .nil)))) (.cons (.ret (.cst (.bl false))) .nil) .nil) .nil)) (.cons (.ifs (.cmp .ne (.told 19 (.call 8 (.e (.bi .list (.cons (.var 9) .nil)) .nil))) (.tup (.cons (.cst .non) (.cons (.cst (.str "plan")) .nil)))) (.cons (.ret (.cst (.bl false))) .nil) .nil) .nil)))))))) (.cons (.asg 5 (.cst (.str "first 0 4\nsecond 0 3\n"))) (.cons (.asgO 6 (.lst (.cons (.bin .add (.var 5) (.cst (.str "task - 1 1"))) (.cons (.bin .add (.var 5) (.cst (.str "task - 1 1 61"))) (.cons (.bin .add (.var 5) (.cst (.str "task -1 1 1 1"))) (.cons (.bin .add (.var 5) (.cst (.str "task 0 1 1 1"))) .nil)))))) (.cons (.app 6 (.bin .add (.var 5) (.cst (.str "task  1 1 1")))) (.cons (.asgO 6 (.bin .add (.var 6) (.lst (.cons (.bin .add (.var 5) (.cst (.str "task - 01 1 1"))) (.cons (.bin .add (.var 5) (.cst (.str "task - 1 1 1\ntask 0,0 1 1 1"))) (.cons (.cst (.str "first 4 0\nsecond 0 3\ntask - 1 1 1")) .nil)))))) (.cons (.asgO 6 (.bin .add (.var 6) (.lst (.cons (.cst (.str "second 0 3\nfirst 0 4\ntask - 1 1 1")) (.cons (.bin .add (.var 5) (.cst (.str "tasks - 1 1 1"))) (.cons (.bin .add (.var 5) (.cst (.str "task - 1 1 1\ntask 0, 1 1 1"))) .nil)))))) (.cons (.forS (.nm 10) (.seq (.bin .add (.var 6) (.lst (.cons (.bin .add (.var 5) (.join (.cst (.str "\n")) (.bin .mul (.lst (.cons (.cst (.str "task - 1 1 1")) .nil)) (.cst (.int 7))))) .nil)))) (.cons (.ifs (.cmp .ne (.told 19 (.call 11 (.e (.var 10) .nil))) (.tup (.cons (.cst .non) (.cons (.cst (.str "text")) .nil)))) (.cons (.ret (.cst (.bl false))) .nil) .nil) .nil)) (.cons (.ifs (.cmp .ne (.call 11 (.e (.cst (.str "first 1 2\nsecond 0 0\ntask - 0 0 60")) .nil)) (.tup (.cons (.tup (.cons (.tup (.cons (.tup .nil) (.cons (.cst (.int 0)) (.cons (.cst (.int 0)) (.cons (.cst (.int 60)) .nil))))) .nil)) (.cons (.tup (.cons (.cst (.int 1)) (.cons (.cst (.int 2)) .nil))) (.cons (.tup (.cons (.cst (.int 0)) (.cons (.cst (.int 0)) .nil))) .nil))))) (.cons (.ret (.cst (.bl false))) .nil) .nil) (.cons (.ret (.cmp .eq (.idx (.idx (.call 11 (.e (.bin .add (.var 5) (.cst (.str "task - 1 1 1\ntask 0 0 9 0"))) .nil)) (.cst (.int 0))) (.cst (.int 1))) (.tup (.cons (.tup (.cons (.cst (.int 0)) .nil)) (.cons (.cst (.int 0)) (.cons (.cst (.int 9)) (.cons (.cst (.int 0)) .nil))))))) .nil)))))))))
def d_law : FnD := ⟨1, 11, b_law⟩
def tab : List (Option FnD) := [some d_is_whole, some d_is_row, some d_is_bounds, some d_is_task, some d_is_plan, some d_need_plan, some d_task_line, some d_as_text, some d_plan_text, some d_number_in, some d_task_in, some d_read_plan, some d_law_cell, some d_law_draws, some d_law_bag, some d_law_take, some d_law_choice, some d_law_plan, none, none, some d_law_text, some d_law_integer, some d_law_read, some d_law_bent, some d_law, none, none, none, none, none, none, none, none, none, none, none, none]
def fns (f : Nat) : Option FnD := match tab[f]? with | some (some d) => some d | _ => none
def told (h : Nat) (x : D ⊕ Nat) : Option D := if h = 19 then (match x with | .inl d => some (.tup [d, .str ""]) | .inr c => if c = 26 then some (.tup [.non, .str "plan"]) else if c = 34 then some (.tup [.non, .str "text"]) else none) else none
end K15
namespace K15
open PySem AP
def FU : Nat := 10000000
def PureLaw : Prop := ∀ ns : List Int, ns.length ≤ 63 → (ftAt fns told FU 30).fn 24 [.dat (.scr ns)] = .ret (.dat (.bl true)) []
end K15
namespace AP
open PySem
theorem ftAt_dom' {fns : Nat → Option FnD} {told : Nat → D ⊕ Nat → Option D} {fuel : Nat} : ∀ n f, (ftAt fns told fuel n).dom f = (fns f).isSome
  | 0, _ => rfl
  | _ + 1, _ => rfl
theorem ftAt_told' {fns : Nat → Option FnD} {told : Nat → D ⊕ Nat → Option D} {fuel : Nat} : ∀ n, (ftAt fns told fuel n).told = told
  | 0 => rfl
  | _ + 1 => rfl
theorem ftAt_fn' {fns : Nat → Option FnD} {told : Nat → D ⊕ Nat → Option D} {fuel : Nat} {f : Nat} {d : FnD} (n : Nat) (h : fns f = some d) : (ftAt fns told fuel (n + 1)).fn f = runFn (ftAt fns told fuel n) fuel d := by
  funext as
  show (match fns f with | some fd => runFn (ftAt fns told fuel n) fuel fd as | none => .stuck) = _
  rw [h]
end AP
end
section
namespace AP
open PySem
/-! rules, led by the syntax: what an expression gives, what holds behind statements -/
section
variable {ft : FT} {fu : Nat}
theorem pid {p : Prop} (h : p) : p := h
theorem f_val {e : IE} {ρ ρ' : Env} {v : Val} {d : D} (h : evO ft e ρ = .ok v ρ') (hv : v.d = d) : frz (evO ft e ρ) = .ok d ρ' := by rw [h]; subst hv; rfl
theorem r_cst {d : D} {ρ : Env} : evO ft (.cst d) ρ = .ok (.dat d) ρ := by rw [evO]
theorem r_var {i : Nat} {ρ : Env} {d : D} (h : ρ[i]? = some (.dat d)) : evO ft (.var i) ρ = .ok (.dat d) ρ := by rw [evO, readVar, h]
theorem r_bin {o : BOp} {a b : IE} {ρ ρ1 ρ2 : Env} {x y : D} {v : Val} (ha : frz (evO ft a ρ) = .ok x ρ1) (hb : frz (evO ft b ρ1) = .ok y ρ2) (h : opBin o x y = some v) : evO ft (.bin o a b) ρ = .ok v ρ2 := by
  rw [evO, ha]; simp only [ERes.bind, hb, h, ofO]
theorem r_neg {a : IE} {ρ ρ1 : Env} {i : Int} (ha : frz (evO ft a ρ) = .ok (.int i) ρ1) : evO ft (.neg a) ρ = .ok (.dat (.int (-i))) ρ1 := by rw [evO, ha]; rfl
theorem r_not {a : IE} {ρ ρ1 : Env} {b : Bool} (ha : evO ft a ρ = .ok (.dat (.bl b)) ρ1) : evO ft (.not a) ρ = .ok (.dat (.bl (!b))) ρ1 := by rw [evO, ha]; rfl
theorem r_and {a b : IE} {ρ ρ1 : Env} {k v : Bool} (ha : evO ft a ρ = .ok (.dat (.bl k)) ρ1) (hb : k = true → evO ft b ρ1 = .ok (.dat (.bl v)) ρ1) : evO ft (.and a b) ρ = .ok (.dat (.bl (k && v))) ρ1 := by
  rw [evO, ha]
  cases k with
  | false => rfl
  | true => simp only [tst, Val.d, ERes.bind, if_true, hb rfl, Bool.true_and]
theorem r_or {a b : IE} {ρ ρ1 : Env} {k v : Bool} (ha : evO ft a ρ = .ok (.dat (.bl k)) ρ1) (hb : k = false → evO ft b ρ1 = .ok (.dat (.bl v)) ρ1) : evO ft (.or a b) ρ = .ok (.dat (.bl (k || v))) ρ1 := by
  rw [evO, ha]
  cases k with
  | true => rfl
  | false => simp only [tst, Val.d, ERes.bind, hb rfl, Bool.false_or]; rfl
theorem r_and_f {a b : IE} {ρ ρ1 : Env} (ha : evO ft a ρ = .ok (.dat (.bl false)) ρ1) : evO ft (.and a b) ρ = .ok (.dat (.bl false)) ρ1 := by rw [evO, ha]; rfl
theorem r_and_t {a b : IE} {ρ ρ1 ρ2 : Env} {v : Val} (ha : evO ft a ρ = .ok (.dat (.bl true)) ρ1) (hb : evO ft b ρ1 = .ok v ρ2) : evO ft (.and a b) ρ = .ok v ρ2 := by rw [evO, ha]; simp only [tst, Val.d, ERes.bind, if_true, hb]
theorem r_or_t {a b : IE} {ρ ρ1 : Env} (ha : evO ft a ρ = .ok (.dat (.bl true)) ρ1) : evO ft (.or a b) ρ = .ok (.dat (.bl true)) ρ1 := by rw [evO, ha]; rfl
theorem r_or_f {a b : IE} {ρ ρ1 ρ2 : Env} {v : Val} (ha : evO ft a ρ = .ok (.dat (.bl false)) ρ1) (hb : evO ft b ρ1 = .ok v ρ2) : evO ft (.or a b) ρ = .ok v ρ2 := by rw [evO, ha]; simp only [tst, Val.d, ERes.bind, hb]; rfl
theorem r_ite {c a b : IE} {ρ ρ1 ρ2 : Env} {k : Bool} {v : Val} (hc : evO ft c ρ = .ok (.dat (.bl k)) ρ1) (ha : k = true → evO ft a ρ1 = .ok v ρ2) (hb : k = false → evO ft b ρ1 = .ok v ρ2) : evO ft (.ite c a b) ρ = .ok v ρ2 := by
  rw [evO, hc]
  cases k with
  | true => simp only [tst, Val.d, ERes.bind, if_true, ha rfl]
  | false => simp only [tst, Val.d, ERes.bind, hb rfl]; rfl
theorem r_ite_t {c a b : IE} {ρ ρ1 ρ2 : Env} {k : Bool} {v : Val} (hc : evO ft c ρ = .ok (.dat (.bl k)) ρ1) (hk : k = true) (ha : evO ft a ρ1 = .ok v ρ2) : evO ft (.ite c a b) ρ = .ok v ρ2 := r_ite hc (fun _ => ha) (fun z => by rw [hk] at z; cases z)
theorem r_ite_f {c a b : IE} {ρ ρ1 ρ2 : Env} {k : Bool} {v : Val} (hc : evO ft c ρ = .ok (.dat (.bl k)) ρ1) (hk : k = false) (hb : evO ft b ρ1 = .ok v ρ2) : evO ft (.ite c a b) ρ = .ok v ρ2 := r_ite hc (fun z => by rw [hk] at z; cases z) (fun _ => hb)
def isVar (e : IE) : Bool := match e with | .var _ => true | _ => false
theorem o_val {e : IE} {ρ ρ1 : Env} {d : D} (hn : isVar e = false) (h : frz (evO ft e ρ) = .ok d ρ1) : opd e ρ (evO ft e ρ) = .ok (.val d) ρ1 := by
  have key : ∀ r, opd e ρ r = (frz r).bind fun d ρ => .ok (.val d) ρ := fun r => by cases e <;> first | rfl | cases hn
  rw [key, h]; rfl
theorem o_var {i : Nat} {ρ : Env} {d : D} (h : ρ[i]? = some (.dat d)) : opd (.var i) ρ (evO ft (.var i) ρ) = .ok (.val d) ρ := by
  unfold opd
  simp only [h, isMut, evO, readVar, frz, Val.d, ERes.bind]; rfl
theorem o_own {i : Nat} {ρ : Env} {m : M} (h : ρ[i]? = some (.own m)) : opd (.var i) ρ (evO ft (.var i) ρ) = .ok (.slot i) ρ := by
  unfold opd
  simp only [h, isMut, if_true]
theorem o_lent {i : Nat} {ρ : Env} {m : M} (h : ρ[i]? = some (.lent m)) : opd (.var i) ρ (evO ft (.var i) ρ) = .ok (.slot i) ρ := by
  unfold opd
  simp only [h, isMut, if_true]
theorem g_val {d : D} {ρ : Env} : (Opd.val d).get ρ = some d := rfl
theorem g_own {i : Nat} {ρ : Env} {ds : List D} (h : ρ[i]? = some (.own (.lst ds))) : (Opd.slot i).get ρ = some (.lst ds) := by simp only [Opd.get, h]
theorem g_lent {i : Nat} {ρ : Env} {ds : List D} (h : ρ[i]? = some (.lent (.lst ds))) : (Opd.slot i).get ρ = some (.lst ds) := by simp only [Opd.get, h]
theorem r_cmp {o : COp} {a b : IE} {ρ ρ1 ρ2 : Env} {x y : Opd} {dx dy : D} {k : Bool} (ha : opd a ρ (evO ft a ρ) = .ok x ρ1) (hb : opd b ρ1 (evO ft b ρ1) = .ok y ρ2) (gx : x.get ρ2 = some dx) (gy : y.get ρ2 = some dy) (h : opCmp o dx dy = some k) : evO ft (.cmp o a b) ρ = .ok (.dat (.bl k)) ρ2 := by
  rw [evO, ha]; simp only [ERes.bind, hb, gx, gy, Option.bind_some, h, Option.map_some, ofO]
theorem r_chain {o1 o2 : COp} {a b c : IE} {ρ ρ1 ρ2 : Env} {x y z : D} {k1 k2 : Bool} (ha : frz (evO ft a ρ) = .ok x ρ1) (hb : frz (evO ft b ρ1) = .ok y ρ2) (h1 : opCmp o1 x y = some k1) (hc : k1 = true → frz (evO ft c ρ2) = .ok z ρ2) (h2 : opCmp o2 y z = some k2) : evO ft (.chain o1 o2 a b c) ρ = .ok (.dat (.bl (k1 && k2))) ρ2 := by
  rw [evO, ha]; simp only [ERes.bind, hb, h1]
  cases k1 with
  | true => simp only [if_true, hc rfl, h2, Option.map_some, ofO, Bool.true_and]
  | false => rfl
theorem r_call {f : Nat} {as : IAs} {ρ ρ1 ρ2 : Env} {ps : List PArg} {args : List Arg} {v : Val} {ms : List M} (hd : ft.dom f = true) (ha : evA ft as ρ = .ok ps ρ1) (hr : argsOf ρ1 ps = some args) (hl : (lentIx ps).length ≤ 1) (hf : ft.fn f args = .ret v ms) (hb : putBack (lentIx ps) ms ρ1 = some ρ2) : evO ft (.call f as) ρ = .ok v ρ2 := by
  rw [evO, if_pos hd, ha]; simp only [ERes.bind, callRes, hr, if_pos hl, hf, back, hb]
theorem r_call_exc {f : Nat} {as : IAs} {ρ ρ1 ρ2 : Env} {ps : List PArg} {args : List Arg} {c : Nat} {ms : List M} (hd : ft.dom f = true) (ha : evA ft as ρ = .ok ps ρ1) (hr : argsOf ρ1 ps = some args) (hl : (lentIx ps).length ≤ 1) (hf : ft.fn f args = .exc c ms) (hb : putBack (lentIx ps) ms ρ1 = some ρ2) : evO ft (.call f as) ρ = .exc c ρ2 := by
  rw [evO, if_pos hd, ha]; simp only [ERes.bind, callRes, hr, if_pos hl, hf, back, hb]
theorem r_callV {i f : Nat} {as : IAs} {ρ ρ1 ρ2 : Env} {ps : List PArg} {args : List Arg} {v : Val} {ms : List M} (hi : ρ[i]? = some (.dat (.fn f))) (hd : ft.dom f = true) (ha : evA ft as ρ = .ok ps ρ1) (hr : argsOf ρ1 ps = some args) (hl : (lentIx ps).length ≤ 1) (hf : ft.fn f args = .ret v ms) (hb : putBack (lentIx ps) ms ρ1 = some ρ2) : evO ft (.callV i as) ρ = .ok v ρ2 := by
  rw [evO, hi]; simp only [if_pos hd, ha, ERes.bind, callRes, hr, if_pos hl, hf, back, hb]
theorem r_callV_exc {i f : Nat} {as : IAs} {ρ ρ1 ρ2 : Env} {ps : List PArg} {args : List Arg} {c : Nat} {ms : List M} (hi : ρ[i]? = some (.dat (.fn f))) (hd : ft.dom f = true) (ha : evA ft as ρ = .ok ps ρ1) (hr : argsOf ρ1 ps = some args) (hl : (lentIx ps).length ≤ 1) (hf : ft.fn f args = .exc c ms) (hb : putBack (lentIx ps) ms ρ1 = some ρ2) : evO ft (.callV i as) ρ = .exc c ρ2 := by
  rw [evO, hi]; simp only [if_pos hd, ha, ERes.bind, callRes, hr, if_pos hl, hf, back, hb]
theorem r_told_ok {h : Nat} {a : IE} {ρ ρ1 : Env} {d e : D} (ha : frz (evO ft a ρ) = .ok d ρ1) (ht : ft.told h (.inl d) = some e) : evO ft (.told h a) ρ = .ok (.dat e) ρ1 := by
  rw [evO, ha]; simp only [toldR, ht, Option.map_some, ofO]
theorem r_told_exc {h : Nat} {a : IE} {ρ ρ1 : Env} {c : Nat} {e : D} (ha : frz (evO ft a ρ) = .exc c ρ1) (ht : ft.told h (.inr c) = some e) : evO ft (.told h a) ρ = .ok (.dat e) ρ1 := by
  rw [evO, ha]; simp only [toldR, ht, Option.map_some, ofO]
theorem f_exc {e : IE} {ρ ρ' : Env} {c : Nat} (h : evO ft e ρ = .exc c ρ') : frz (evO ft e ρ) = .exc c ρ' := by rw [h]; rfl
theorem r_len {a : IE} {ρ ρ1 : Env} {x : Opd} {d : D} {v : Val} (ha : opd a ρ (evO ft a ρ) = .ok x ρ1) (gx : x.get ρ1 = some d) (h : lenD d = some v) : evO ft (.len a) ρ = .ok v ρ1 := by
  rw [evO, ha]; simp only [ERes.bind, gx, Option.bind_some, h, ofO]
theorem r_bi {b : Bi} {as : IEs} {ρ ρ1 : Env} {ds : List D} {v : Val} (ha : evL ft as ρ = .ok ds ρ1) (h : biD b ds = some v) : evO ft (.bi b as) ρ = .ok v ρ1 := by
  rw [evO, ha]; simp only [ERes.bind, h, ofO]
theorem r_isi {a : IE} {c : Cl} {ρ ρ1 : Env} {d : D} {k : Bool} (ha : frz (evO ft a ρ) = .ok d ρ1) (h : isiD d c = some k) : evO ft (.isi a c) ρ = .ok (.dat (.bl k)) ρ1 := by
  rw [evO, ha]; simp only [ERes.bind, h, Option.map_some, ofO]
theorem r_tup {es : IEs} {ρ ρ1 : Env} {ds : List D} (ha : evL ft es ρ = .ok ds ρ1) (h : ds.length ≤ line) : evO ft (.tup es) ρ = .ok (.dat (.tup ds)) ρ1 := by
  rw [evO, ha]; simp only [ERes.bind, if_pos h]
theorem r_lst {es : IEs} {ρ ρ1 : Env} {ds : List D} (ha : evL ft es ρ = .ok ds ρ1) (h : ds.length ≤ line) : evO ft (.lst es) ρ = .ok (.own (.lst ds)) ρ1 := by
  rw [evO, ha]; simp only [ERes.bind, if_pos h]
theorem line_of {n : Nat} (h : n ≤ 16777216) : n ≤ line := h
theorem r_idx {a b : IE} {ρ ρ1 ρ2 : Env} {x : Opd} {i d r : D} (ha : opd a ρ (evO ft a ρ) = .ok x ρ1) (hb : frz (evO ft b ρ1) = .ok i ρ2) (gx : x.get ρ2 = some d) (h : ixD d i = some r) : evO ft (.idx a b) ρ = .ok (.dat r) ρ2 := by
  rw [evO, ha]; simp only [ERes.bind, hb, gx, Option.bind_some, h, Option.map_some, ofO]
theorem p_none {ρ : Env} : evP ft .none ρ = .ok none ρ := by rw [evP]
theorem p_some {e : IE} {ρ ρ1 : Env} {i : Int} (h : frz (evO ft e ρ) = .ok (.int i) ρ1) : evP ft (.some e) ρ = .ok (some i) ρ1 := by rw [evP, h]; rfl
theorem r_sl {a : IE} {lo hi : IOp} {ρ ρ1 ρ2 ρ3 : Env} {d : D} {l h : Option Int} {v : Val} (ha : frz (evO ft a ρ) = .ok d ρ1) (hl : evP ft lo ρ1 = .ok l ρ2) (hh : evP ft hi ρ2 = .ok h ρ3) (hs : slD d l h = some v) : evO ft (.sl a lo hi) ρ = .ok v ρ3 := by
  rw [evO, ha]; simp only [ERes.bind, hl, hh, hs, ofO]
theorem r_rev {a : IE} {ρ ρ1 : Env} {d : D} {v : Val} (ha : frz (evO ft a ρ) = .ok d ρ1) (h : revD d = some v) : evO ft (.rev a) ρ = .ok v ρ1 := by
  rw [evO, ha]; simp only [ERes.bind, h, ofO]
theorem r_pop0 {i : Nat} {ρ : Env} {x : D} {r : List D} (h : mutL ρ[i]? = some (x :: r)) : evO ft (.pop0 i) ρ = .ok (.dat x) (ρ.set i (putS ρ[i]? r)) := by rw [evO, h]
theorem l_nil {ρ : Env} : evL ft .nil ρ = .ok [] ρ := by rw [evL]
theorem l_cons {e : IE} {r : IEs} {ρ ρ1 ρ2 : Env} {d : D} {ds : List D} (h : frz (evO ft e ρ) = .ok d ρ1) (hr : evL ft r ρ1 = .ok ds ρ2) : evL ft (.cons e r) ρ = .ok (d :: ds) ρ2 := by
  rw [evL, h]; simp only [ERes.bind, hr]
theorem za_nil {ρ : Env} : evA ft .nil ρ = .ok [] ρ := by rw [evA]
theorem a_e {e : IE} {r : IAs} {ρ ρ1 ρ2 : Env} {d : D} {ps : List PArg} (h : frz (evO ft e ρ) = .ok d ρ1) (hr : evA ft r ρ1 = .ok ps ρ2) : evA ft (.e e r) ρ = .ok (.dat d :: ps) ρ2 := by
  rw [evA, h]; simp only [ERes.bind, hr]
theorem za_lent {i : Nat} {r : IAs} {ρ ρ2 : Env} {ps : List PArg} (h : isMut ρ[i]? = true) (hr : evA ft r ρ = .ok ps ρ2) (h2 : isMut ρ2[i]? = true) : evA ft (.lent i r) ρ = .ok (.lent i :: ps) ρ2 := by
  rw [evA, if_pos h, hr]; simp only [ERes.bind, if_pos h2]
theorem i_seq {e : IE} {ρ ρ1 : Env} {d : D} {ds : List D} (h : frz (evO ft e ρ) = .ok d ρ1) (hs : seqOf d = some ds) : evI ft (.seq e) ρ = .ok ds ρ1 := by rw [evI, h]; simp only [ERes.bind, hs, ofO]
theorem i_range1 {a : IE} {ρ ρ1 : Env} {j : Int} (h : frz (evO ft a ρ) = .ok (.int j) ρ1) (hj : range62 j = true) : evI ft (.range1 a) ρ = .ok (rangeD 0 1 j.toNat) ρ1 := by rw [evI, h]; simp only [ERes.bind, if_pos hj]
theorem i_range1N {a : IE} {ρ ρ1 : Env} {k : Nat} (h : frz (evO ft a ρ) = .ok (.int k) ρ1) (hj : range62 k = true) : evI ft (.range1 a) ρ = .ok (rangeD 0 1 k) ρ1 := by
  have e := i_range1 h hj
  rw [Int.toNat_natCast] at e; exact e
theorem i_range2 {a b : IE} {ρ ρ1 ρ2 : Env} {i j : Int} (ha : frz (evO ft a ρ) = .ok (.int i) ρ1) (hb : frz (evO ft b ρ1) = .ok (.int j) ρ2) (hi : range62 i = true) (hj : range62 j = true) : evI ft (.range2 a b) ρ = .ok (rangeD i 1 (j - i).toNat) ρ2 := by
  rw [evI, ha]; simp only [ERes.bind, hb, hi, hj, Bool.and_self, if_true]
theorem i_range3 {a b c : IE} {ρ ρ1 ρ2 ρ3 : Env} {i j : Int} (ha : frz (evO ft a ρ) = .ok (.int i) ρ1) (hb : frz (evO ft b ρ1) = .ok (.int j) ρ2) (hc : frz (evO ft c ρ2) = .ok (.int (-1)) ρ3) (hi : range62 i = true) (hj : range62 j = true) : evI ft (.range3 a b c) ρ = .ok (rangeD i (-1) (i - j).toNat) ρ3 := by
  rw [evI, ha]; simp only [ERes.bind, hb, hc, hi, hj, Bool.and_self, if_true]
theorem i_zip {a b : IE} {ρ ρ1 ρ2 : Env} {x y : D} {ds : List D} (ha : frz (evO ft a ρ) = .ok x ρ1) (hb : frz (evO ft b ρ1) = .ok y ρ2) (h : zipOf x y = some ds) : evI ft (.zip a b) ρ = .ok ds ρ2 := by
  rw [evI, ha]; simp only [ERes.bind, hb, h, ofO]
theorem i_enum {a : IE} {ρ ρ1 : Env} {x : D} {ds : List D} (ha : frz (evO ft a ρ) = .ok x ρ1) (h : lstOf x = some ds) : evI ft (.enum a) ρ = .ok (enumD 0 ds) ρ1 := by
  rw [evI, ha]; simp only [ERes.bind, h, Option.map_some, ofO]
/-! a mutable slot, read: it is shared from there on -/
theorem r_varO {i : Nat} {ρ : Env} {ds : List D} (h : ρ[i]? = some (.own (.lst ds))) : evO ft (.var i) ρ = .ok (.dat (.lst ds)) (ρ.set i (.dat (.lst ds))) := by rw [evO, readVar, h]
/-! operators -/
theorem b_add {a b : Int} : opBin .add (.int a) (.int b) = some (.dat (.int (a + b))) := rfl
theorem b_sub {a b : Int} : opBin .sub (.int a) (.int b) = some (.dat (.int (a - b))) := rfl
theorem b_mul_r {a b : Int} (h : small64 b = true) : opBin .mul (.int a) (.int b) = some (.dat (.int (a * b))) := by
  show (if (small64 a || small64 b) = true then _ else _) = _
  rw [h, Bool.or_true]; rfl
theorem b_mul_l {a b : Int} (h : small64 a = true) : opBin .mul (.int a) (.int b) = some (.dat (.int (a * b))) := by
  show (if (small64 a || small64 b) = true then _ else _) = _
  rw [h, Bool.true_or]; rfl
theorem b_mod {a b : Int} (h : 0 < b) : opBin .mod (.int a) (.int b) = some (.dat (.int (a % b))) := if_pos (decide_eq_true h)
theorem b_addT {xs ys : List D} (h : xs.length + ys.length ≤ line) : opBin .add (.tup xs) (.tup ys) = some (.dat (.tup (xs ++ ys))) := if_pos h
theorem b_addL {xs ys : List D} (h : xs.length + ys.length ≤ line) : opBin .add (.lst xs) (.lst ys) = some (.own (.lst (xs ++ ys))) := if_pos h
theorem c_lt {a b : Int} : opCmp .lt (.int a) (.int b) = some (decide (a < b)) := rfl
theorem c_le {a b : Int} : opCmp .le (.int a) (.int b) = some (decide (a ≤ b)) := rfl
theorem c_gt {a b : Int} : opCmp .gt (.int a) (.int b) = some (decide (b < a)) := rfl
theorem c_ge {a b : Int} : opCmp .ge (.int a) (.int b) = some (decide (b ≤ a)) := rfl
theorem zc_eq {a b : D} {k : Bool} (h : eqD a b = some k) : opCmp .eq a b = some k := h
theorem zc_ne {a b : D} {k : Bool} (h : eqD a b = some k) : opCmp .ne a b = some (!k) := by
  show (eqD a b).map _ = _; rw [h]; rfl
theorem zc_in {a b : D} {k : Bool} (h : inD a b = some k) : opCmp .isin a b = some k := h
theorem c_nin {a b : D} {k : Bool} (h : inD a b = some k) : opCmp .notin a b = some (!k) := by
  show (inD a b).map _ = _; rw [h]; rfl
theorem eqD_i {a b : Int} : eqD (.int a) (.int b) = some (decide (a = b)) := by
  unfold eqD
  rw [if_pos (show eqOk (.int a) (.int b) = true by simp [eqOk, D.plain, D.dep]), D.eqv]
  show some (a == b) = _
  rw [show (a == b) = decide (a = b) by rw [Bool.eq_iff_iff, beq_iff_eq, decide_eq_true_eq]]
theorem set_0 {s x : Slot} {r : Env} : (s :: r).set 0 x = x :: r := rfl
theorem set_s {s x : Slot} {r r' : Env} {i : Nat} (h : r.set i x = r') : (s :: r).set (i + 1) x = s :: r' := by rw [List.set_cons_succ, h]
theorem vd_dat {d : D} : (Val.dat d).d = d := rfl
theorem vd_own {ds : List D} : (Val.own (.lst ds)).d = .lst ds := rfl
theorem lt_len {i n : Nat} (h : Nat.blt i n = true) : i < n := by simpa using h
theorem le_len {i n : Nat} (h : Nat.ble i n = true) : i ≤ n := Nat.le_of_ble_eq_true h
theorem pb_nil {ρ : Env} : putBack [] [] ρ = some ρ := rfl
theorem pb_lent {i : Nat} {m m0 : M} {ρ ρ' : Env} (h : ρ[i]? = some (.lent m0)) (hs : ρ.set i (.lent m) = ρ') : putBack [i] [m] ρ = some ρ' := by
  simp only [putBack, h, Option.bind_some, hs]
theorem pb_own {i : Nat} {m m0 : M} {ρ ρ' : Env} (h : ρ[i]? = some (.own m0)) (hs : ρ.set i (.own m) = ρ') : putBack [i] [m] ρ = some ρ' := by
  simp only [putBack, h, Option.bind_some, hs]
theorem tg_nm {i : Nat} {d : D} {ρ ρ' : Env} (h : Nat.blt i ρ.length = true) (hs : ρ.set i (.dat d) = ρ') : asgTg (.nm i) d ρ = some ρ' := by
  rw [asgTg, if_pos (lt_len h), hs]
theorem tg_tup {ts : Tgs} {ds : List D} {ρ ρ' : Env} (h : asgTgs ts ds ρ = some ρ') : asgTg (.tup ts) (.tup ds) ρ = some ρ' := by rw [asgTg, h]
theorem tgs_nil {ρ : Env} : asgTgs .nil [] ρ = some ρ := by rw [asgTgs]
theorem tgs_cons {t : Tg} {r : Tgs} {d : D} {ds : List D} {ρ ρ1 ρ' : Env} (h : asgTg t d ρ = some ρ1) (hr : asgTgs r ds ρ1 = some ρ') : asgTgs (.cons t r) (d :: ds) ρ = some ρ' := by rw [asgTgs, h]; exact hr
theorem ty_int_int {i : Int} : isiD (.int i) (.ty "int") = some true := by simp [isiD, D.tyN, isiT]
theorem ty_int_bool {i : Int} : isiD (.int i) (.ty "bool") = some false := by simp [isiD, D.tyN, isiT]
theorem ty_int_tuple {i : Int} : isiD (.int i) (.ty "tuple") = some false := by simp [isiD, D.tyN, isiT]
theorem ty_int_list {i : Int} : isiD (.int i) (.ty "list") = some false := by simp [isiD, D.tyN, isiT]
theorem ty_int_str {i : Int} : isiD (.int i) (.ty "str") = some false := by simp [isiD, D.tyN, isiT]
theorem ty_bl_int {i : Bool} : isiD (.bl i) (.ty "int") = some true := by simp [isiD, D.tyN, isiT]
theorem ty_bl_bool {i : Bool} : isiD (.bl i) (.ty "bool") = some true := by simp [isiD, D.tyN, isiT]
theorem ty_bl_tuple {i : Bool} : isiD (.bl i) (.ty "tuple") = some false := by simp [isiD, D.tyN, isiT]
theorem ty_bl_list {i : Bool} : isiD (.bl i) (.ty "list") = some false := by simp [isiD, D.tyN, isiT]
theorem ty_bl_str {i : Bool} : isiD (.bl i) (.ty "str") = some false := by simp [isiD, D.tyN, isiT]
theorem ty_non_int : isiD .non (.ty "int") = some false := by simp [isiD, D.tyN, isiT]
theorem ty_non_bool : isiD .non (.ty "bool") = some false := by simp [isiD, D.tyN, isiT]
theorem ty_non_tuple : isiD .non (.ty "tuple") = some false := by simp [isiD, D.tyN, isiT]
theorem ty_non_list : isiD .non (.ty "list") = some false := by simp [isiD, D.tyN, isiT]
theorem ty_non_str : isiD .non (.ty "str") = some false := by simp [isiD, D.tyN, isiT]
theorem ty_str_int {s : Str} : isiD (.str s) (.ty "int") = some false := by simp [isiD, D.tyN, isiT]
theorem ty_str_bool {s : Str} : isiD (.str s) (.ty "bool") = some false := by simp [isiD, D.tyN, isiT]
theorem ty_str_tuple {s : Str} : isiD (.str s) (.ty "tuple") = some false := by simp [isiD, D.tyN, isiT]
theorem ty_str_list {s : Str} : isiD (.str s) (.ty "list") = some false := by simp [isiD, D.tyN, isiT]
theorem ty_str_str {s : Str} : isiD (.str s) (.ty "str") = some true := by simp [isiD, D.tyN, isiT]
theorem ty_tup_int {s : List D} : isiD (.tup s) (.ty "int") = some false := by simp [isiD, D.tyN, isiT]
theorem ty_tup_bool {s : List D} : isiD (.tup s) (.ty "bool") = some false := by simp [isiD, D.tyN, isiT]
theorem ty_tup_tuple {s : List D} : isiD (.tup s) (.ty "tuple") = some true := by simp [isiD, D.tyN, isiT]
theorem ty_tup_list {s : List D} : isiD (.tup s) (.ty "list") = some false := by simp [isiD, D.tyN, isiT]
theorem ty_tup_str {s : List D} : isiD (.tup s) (.ty "str") = some false := by simp [isiD, D.tyN, isiT]
theorem ty_lst_int {s : List D} : isiD (.lst s) (.ty "int") = some false := by simp [isiD, D.tyN, isiT]
theorem ty_lst_bool {s : List D} : isiD (.lst s) (.ty "bool") = some false := by simp [isiD, D.tyN, isiT]
theorem ty_lst_tuple {s : List D} : isiD (.lst s) (.ty "tuple") = some false := by simp [isiD, D.tyN, isiT]
theorem ty_lst_list {s : List D} : isiD (.lst s) (.ty "list") = some true := by simp [isiD, D.tyN, isiT]
theorem ty_lst_str {s : List D} : isiD (.lst s) (.ty "str") = some false := by simp [isiD, D.tyN, isiT]
theorem blsOf_map : ∀ bs : List Bool, blsOf (bs.map D.bl) = some bs
  | [] => rfl
  | b :: r => by show (blsOf (r.map D.bl)).map (b :: ·) = _; rw [blsOf_map r]; rfl
theorem bi_all {bs : List Bool} : biD .all [.lst (bs.map D.bl)] = some (.dat (.bl (bs.all id))) := by
  show (blsOf (bs.map D.bl)).map _ = _; rw [blsOf_map]; rfl
theorem bi_any {bs : List Bool} : biD .any [.lst (bs.map D.bl)] = some (.dat (.bl (bs.any id))) := by
  show (blsOf (bs.map D.bl)).map _ = _; rw [blsOf_map]; rfl
/-! statements -/
def ISs.app : ISs → ISs → ISs
  | .nil, r => r
  | .cons s a, r => .cons s (a.app r)
theorem ss_app : ∀ (a r : ISs) (ρ : Env), (evSs ft fu a ρ).seq (fun ρ => evSs ft fu r ρ) = evSs ft fu (a.app r) ρ
  | .nil, r, ρ => by rw [evSs]; rfl
  | .cons s a, r, ρ => by
    rw [evSs, ISs.app, evSs]
    cases evS ft fu s ρ with
    | next ρ1 => exact ss_app a r ρ1
    | _ => rfl
/-- what holds of what statements do -/
def Wp (ft : FT) (fu : Nat) (ss : ISs) (ρ : Env) (Q : SRes → Prop) : Prop := Q (evSs ft fu ss ρ)
theorem Wp.of {ss : ISs} {ρ : Env} {Q : SRes → Prop} (h : Wp ft fu ss ρ Q) : Q (evSs ft fu ss ρ) := h
theorem Wp.mk {ss : ISs} {ρ : Env} {Q : SRes → Prop} (h : Q (evSs ft fu ss ρ)) : Wp ft fu ss ρ Q := h
theorem Wp.mono {ss : ISs} {ρ : Env} {Q R : SRes → Prop} (h : Wp ft fu ss ρ Q) (hq : ∀ r, Q r → R r) : Wp ft fu ss ρ R := hq _ h
theorem w_nil {ρ : Env} {Q : SRes → Prop} (h : Q (.next ρ)) : Wp ft fu .nil ρ Q := by unfold Wp; rw [evSs]; exact h
theorem w_next {s : IS} {r : ISs} {ρ ρ1 : Env} {Q : SRes → Prop} (h : evS ft fu s ρ = .next ρ1) (hr : Wp ft fu r ρ1 Q) : Wp ft fu (.cons s r) ρ Q := by unfold Wp; rw [evSs, h]; exact hr
theorem w_asg {i : Nat} {e : IE} {r : ISs} {ρ ρ1 ρ2 : Env} {d : D} {Q : SRes → Prop} (h : frz (evO ft e ρ) = .ok d ρ1) (hi : i < ρ1.length) (hs : ρ1.set i (.dat d) = ρ2) (hr : Wp ft fu r ρ2 Q) : Wp ft fu (.cons (.asg i e) r) ρ Q :=
  w_next (by rw [evS, h]; simp only [ERes.st, if_pos hi, hs]) hr
theorem w_asgO {i : Nat} {e : IE} {r : ISs} {ρ ρ1 ρ2 : Env} {v : Val} {Q : SRes → Prop} (h : evO ft e ρ = .ok v ρ1) (hi : i < ρ1.length) (hs : ρ1.set i v.slot = ρ2) (hr : Wp ft fu r ρ2 Q) : Wp ft fu (.cons (.asgO i e) r) ρ Q :=
  w_next (by rw [evS, h]; simp only [ERes.st, if_pos hi, hs]) hr
theorem w_asgT {t : Tg} {e : IE} {r : ISs} {ρ ρ1 ρ2 : Env} {d : D} {Q : SRes → Prop} (h : frz (evO ft e ρ) = .ok d ρ1) (hs : asgTg t d ρ1 = some ρ2) (hr : Wp ft fu r ρ2 Q) : Wp ft fu (.cons (.asgT t e) r) ρ Q :=
  w_next (by rw [evS, h]; simp only [ERes.st, hs]) hr
theorem w_par {i j : Nat} {a b : IE} {oj : Bool} {r : ISs} {ρ ρ1 ρ2 ρ3 : Env} {x : D} {y : Val} {Q : SRes → Prop} (ha : frz (evO ft a ρ) = .ok x ρ1) (hb : evO ft b ρ1 = .ok y ρ2) (hi : i ≠ j ∧ i < ρ2.length ∧ j < ρ2.length) (hs : (ρ2.set i (.dat x)).set j (if oj then y.slot else .dat y.d) = ρ3) (hr : Wp ft fu r ρ3 Q) : Wp ft fu (.cons (.par i j a b oj) r) ρ Q :=
  w_next (by rw [evS, ha]; simp only [ERes.st, hb, if_pos hi, hs]) hr
theorem w_par3 {i j l : Nat} {a b c : IE} {r : ISs} {ρ ρ1 ρ2 ρ3 ρ4 : Env} {x y z : D} {Q : SRes → Prop} (ha : frz (evO ft a ρ) = .ok x ρ1) (hb : frz (evO ft b ρ1) = .ok y ρ2) (hc : frz (evO ft c ρ2) = .ok z ρ3) (hi : i < ρ3.length ∧ j < ρ3.length ∧ l < ρ3.length) (hs : ((ρ3.set i (.dat x)).set j (.dat y)).set l (.dat z) = ρ4) (hr : Wp ft fu r ρ4 Q) : Wp ft fu (.cons (.par3 i j l a b c) r) ρ Q :=
  w_next (by rw [evS, ha]; simp only [ERes.st, hb, hc, if_pos hi, hs]) hr
theorem w_app {i : Nat} {e : IE} {r : ISs} {ρ ρ1 ρ2 : Env} {d : D} {ds : List D} {Q : SRes → Prop} (hm : isMut ρ[i]? = true) (h : frz (evO ft e ρ) = .ok d ρ1) (hd : mutL ρ1[i]? = some ds) (hl : ds.length < line) (hs : ρ1.set i (putS ρ1[i]? (ds ++ [d])) = ρ2) (hr : Wp ft fu r ρ2 Q) : Wp ft fu (.cons (.app i e) r) ρ Q :=
  w_next (by rw [evS, if_pos hm, h]; simp only [ERes.st, hd, if_pos hl, hs]) hr
theorem w_appO {i : Nat} {e : IE} {r : ISs} {ρ ρ1 ρ2 : Env} {d : D} {ds : List D} {Q : SRes → Prop} (hm : isMut ρ[i]? = true) (h : frz (evO ft e ρ) = .ok d ρ1) (hd : ρ1[i]? = some (.own (.lst ds))) (hl : ds.length < line) (hs : ρ1.set i (.own (.lst (ds ++ [d]))) = ρ2) (hr : Wp ft fu r ρ2 Q) : Wp ft fu (.cons (.app i e) r) ρ Q :=
  w_app hm h (by rw [hd]; rfl) hl (by rw [hd]; exact hs) hr
theorem w_setO {i : Nat} {ix e : IE} {r : ISs} {ρ ρ1 ρ2 ρ3 : Env} {d : D} {k : Int} {j : Nat} {ds : List D} {Q : SRes → Prop} (h : frz (evO ft e ρ) = .ok d ρ1) (hm : isMut ρ1[i]? = true) (hk : frz (evO ft ix ρ1) = .ok (.int k) ρ2) (hd : ρ2[i]? = some (.own (.lst ds))) (hj : ixN ds.length k = some j) (hs : ρ2.set i (.own (.lst (ds.set j d))) = ρ3) (hr : Wp ft fu r ρ3 Q) : Wp ft fu (.cons (.setIx i ix e) r) ρ Q := by
  refine w_next (ρ1 := ρ3) ?_ hr
  rw [evS, h]
  simp only [ERes.st, if_pos hm, hk, hd, mutL, hj, putS, hs]
theorem w_setIx {i : Nat} {ix e : IE} {r : ISs} {ρ ρ1 ρ2 ρ3 : Env} {d : D} {k : Int} {j : Nat} {ds : List D} {Q : SRes → Prop} (h : frz (evO ft e ρ) = .ok d ρ1) (hm : isMut ρ1[i]? = true) (hk : frz (evO ft ix ρ1) = .ok (.int k) ρ2) (hd : mutL ρ2[i]? = some ds) (hj : ixN ds.length k = some j) (hs : ρ2.set i (putS ρ2[i]? (ds.set j d)) = ρ3) (hr : Wp ft fu r ρ3 Q) : Wp ft fu (.cons (.setIx i ix e) r) ρ Q :=
  w_next (by rw [evS, h]; simp only [ERes.st, if_pos hm, hk, hd, hj, hs]) hr
theorem w_expr {e : IE} {r : ISs} {ρ ρ1 : Env} {v : Val} {Q : SRes → Prop} (h : evO ft e ρ = .ok v ρ1) (hr : Wp ft fu r ρ1 Q) : Wp ft fu (.cons (.expr e) r) ρ Q :=
  w_next (by rw [evS, h]; rfl) hr
theorem w_expr_exc {e : IE} {r : ISs} {ρ ρ1 : Env} {c : Nat} {Q : SRes → Prop} (h : evO ft e ρ = .exc c ρ1) (hq : Q (.exc c ρ1)) : Wp ft fu (.cons (.expr e) r) ρ Q := by
  unfold Wp; rw [evSs, evS, h]; exact hq
theorem w_ifs {c : IE} {a b r : ISs} {ρ ρ1 : Env} {k : Bool} {Q : SRes → Prop} (hc : evO ft c ρ = .ok (.dat (.bl k)) ρ1) (ht : k = true → Wp ft fu (a.app r) ρ1 Q) (hf : k = false → Wp ft fu (b.app r) ρ1 Q) : Wp ft fu (.cons (.ifs c a b) r) ρ Q := by
  unfold Wp
  rw [evSs, evS, hc]
  simp only [tst, Val.d, ERes.st]
  cases k with
  | true => rw [if_pos rfl, ss_app]; exact ht rfl
  | false => rw [if_neg (by decide), ss_app]; exact hf rfl
theorem w_ifs_t {c : IE} {a b r : ISs} {ρ ρ1 : Env} {k : Bool} {Q : SRes → Prop} (hc : evO ft c ρ = .ok (.dat (.bl k)) ρ1) (hk : k = true) (ht : Wp ft fu (a.app r) ρ1 Q) : Wp ft fu (.cons (.ifs c a b) r) ρ Q := w_ifs hc (fun _ => ht) (fun z => by rw [hk] at z; cases z)
theorem w_ifs_f {c : IE} {a b r : ISs} {ρ ρ1 : Env} {k : Bool} {Q : SRes → Prop} (hc : evO ft c ρ = .ok (.dat (.bl k)) ρ1) (hk : k = false) (hf : Wp ft fu (b.app r) ρ1 Q) : Wp ft fu (.cons (.ifs c a b) r) ρ Q := w_ifs hc (fun z => by rw [hk] at z; cases z) (fun _ => hf)
theorem w_ret {e : IE} {r : ISs} {ρ ρ1 : Env} {v : Val} {Q : SRes → Prop} (hn : isVar e = false) (h : evO ft e ρ = .ok v ρ1) (hq : Q (.ret v ρ1)) : Wp ft fu (.cons (.ret e) r) ρ Q := by
  have e1 : evS ft fu (.ret e) ρ = .ret v ρ1 := by
    rw [evS]
    · simp only [h, ERes.st]
    · intro i hi; subst hi; cases hn
  unfold Wp; rw [evSs, e1]; exact hq
theorem w_retV {i : Nat} {r : ISs} {ρ : Env} {d : D} {Q : SRes → Prop} (h : ρ[i]? = some (.dat d)) (hq : Q (.ret (.dat d) ρ)) : Wp ft fu (.cons (.ret (.var i)) r) ρ Q := by
  have e1 : evS ft fu (.ret (.var i)) ρ = .ret (.dat d) ρ := by
    simp only [evS, h, evO, readVar, ERes.st]
  unfold Wp; rw [evSs, e1]; exact hq
theorem w_retO {i : Nat} {r : ISs} {ρ : Env} {m : M} {Q : SRes → Prop} (h : ρ[i]? = some (.own m)) (hq : Q (.ret (.own m) (ρ.set i .no))) : Wp ft fu (.cons (.ret (.var i)) r) ρ Q := by
  have e1 : evS ft fu (.ret (.var i)) ρ = .ret (.own m) (ρ.set i .no) := by
    simp only [evS, h]
  unfold Wp; rw [evSs, e1]; exact hq
theorem w_app_cons {s : IS} {a r : ISs} {ρ : Env} {Q : SRes → Prop} (h : Wp ft fu (.cons s (a.app r)) ρ Q) : Wp ft fu ((ISs.cons s a).app r) ρ Q := h
theorem w_app_nil {r : ISs} {ρ : Env} {Q : SRes → Prop} (h : Wp ft fu r ρ Q) : Wp ft fu (ISs.nil.app r) ρ Q := h
theorem w_if {s : IS} {r : ISs} {ρ ρ1 ρ2 : Env} {k : Bool} {v : Val} {Q : SRes → Prop} (h : evS ft fu s ρ = if k = true then .next ρ1 else .ret v ρ2) (ht : k = true → Wp ft fu r ρ1 Q) (hf : k = false → Q (.ret v ρ2)) : Wp ft fu (.cons s r) ρ Q := by
  cases k with
  | true => exact w_next (by rw [h, if_pos rfl]) (ht rfl)
  | false => unfold Wp; rw [evSs, h]; exact hf rfl
theorem w_raise {c : Nat} {r : ISs} {ρ : Env} {Q : SRes → Prop} (hq : Q (.exc c ρ)) : Wp ft fu (.cons (.raise c) r) ρ Q := by
  unfold Wp; rw [evSs, evS]; exact hq
theorem w_retN {r : ISs} {ρ : Env} {Q : SRes → Prop} (hq : Q (.ret (.dat .non) ρ)) : Wp ft fu (.cons .retN r) ρ Q := by
  unfold Wp; rw [evSs, evS]; exact hq
def forB (ft : FT) (fu : Nat) (tg : Tg) (body : ISs) (d : D) (ρ : Env) : SRes := match asgTg tg d ρ with | some ρ => evSs ft fu body ρ | none => .stuck
theorem w_for {tg : Tg} {it : IIt} {body r : ISs} {ρ ρ1 : Env} {ds : List D} {Q : SRes → Prop} (h : evI ft it ρ = .ok ds ρ1) (hr : Q ((forF (forB ft fu tg body) ds ρ1).seq fun ρ => evSs ft fu r ρ)) : Wp ft fu (.cons (.forS tg it body) r) ρ Q := by
  unfold Wp; rw [evSs, evS, h]; exact hr
theorem forB_eq {tg : Tg} {body : ISs} {d : D} {ρ ρ1 : Env} (h : asgTg tg d ρ = some ρ1) : forB ft fu tg body d ρ = evSs ft fu body ρ1 := by unfold forB; rw [h]
/-- a loop, turn by turn, and what stands behind it -/
def Wf (ft : FT) (fu : Nat) (tg : Tg) (body : ISs) (ds : List D) (r : ISs) (ρ : Env) (Q : SRes → Prop) : Prop := Q ((forF (forB ft fu tg body) ds ρ).seq fun ρ => evSs ft fu r ρ)
theorem w_forW {tg : Tg} {it : IIt} {body r : ISs} {ρ ρ1 : Env} {ds : List D} {Q : SRes → Prop} (h : evI ft it ρ = .ok ds ρ1) (hr : Wf ft fu tg body ds r ρ1 Q) : Wp ft fu (.cons (.forS tg it body) r) ρ Q := w_for h hr
theorem wf_nil {tg : Tg} {body r : ISs} {ρ : Env} {Q : SRes → Prop} (h : Wp ft fu r ρ Q) : Wf ft fu tg body [] r ρ Q := h
theorem wf_cons {tg : Tg} {body r : ISs} {ρ ρ2 : Env} {d : D} {ds : List D} {Q : SRes → Prop} (h : asgTg tg d ρ = some ρ2) (hb : Wp ft fu body ρ2 fun x => ∃ ρ3, (x = .next ρ3 ∨ x = .cont ρ3) ∧ Wf ft fu tg body ds r ρ3 Q) : Wf ft fu tg body (d :: ds) r ρ Q := by
  obtain ⟨ρ3, hx, hw⟩ := hb
  unfold Wf
  rw [forF, forB_eq h]
  rcases hx with hx | hx <;> rw [hx] <;> exact hw
theorem wf_ret {tg : Tg} {body r : ISs} {ρ ρ2 : Env} {d : D} {ds : List D} {Q : SRes → Prop} (h : asgTg tg d ρ = some ρ2) (hb : Wp ft fu body ρ2 fun x => ∃ v ρ3, x = .ret v ρ3 ∧ Q (.ret v ρ3)) : Wf ft fu tg body (d :: ds) r ρ Q := by
  obtain ⟨v, ρ3, hx, hw⟩ := hb
  unfold Wf
  rw [forF, forB_eq h, hx]; exact hw
/-- a loop whose turns all go on -/
theorem w_for_inv {tg : Tg} {it : IIt} {body r : ISs} {ρ ρ1 : Env} {ds : List D} {Q : SRes → Prop} (I : Nat → Env → Prop) (h : evI ft it ρ = .ok ds ρ1) (h0 : I 0 ρ1)
    (hs : ∀ i d ρ, ds[i]? = some d → I i ρ → ∃ ρ2, asgTg tg d ρ = some ρ2 ∧ Wp ft fu body ρ2 fun x => ∃ ρ3, (x = .next ρ3 ∨ x = .cont ρ3) ∧ I (i + 1) ρ3) (hr : ∀ ρ, I ds.length ρ → Wp ft fu r ρ Q) : Wp ft fu (.cons (.forS tg it body) r) ρ Q := by
  refine w_for h ?_
  have key : ∀ (ds : List D) (k : Nat) (ρ : Env), (∀ i d ρ, ds[i]? = some d → I (k + i) ρ → ∃ ρ2, asgTg tg d ρ = some ρ2 ∧ Wp ft fu body ρ2 fun x => ∃ ρ3, (x = .next ρ3 ∨ x = .cont ρ3) ∧ I (k + i + 1) ρ3) → I k ρ → ∃ ρ', forF (forB ft fu tg body) ds ρ = .next ρ' ∧ I (k + ds.length) ρ' := by
    intro ds
    induction ds with
    | nil => intro k ρ _ i; exact ⟨ρ, rfl, i⟩
    | cons d r ih =>
      intro k ρ h i
      obtain ⟨ρ2, e, ρ3, hx, i3⟩ := h 0 d ρ rfl i
      obtain ⟨ρ', e', i'⟩ := ih (k + 1) ρ3 (fun j x ρ hj hi => by
        have := h (j + 1) x ρ (by simpa using hj) (by rw [show k + (j + 1) = k + 1 + j by omega]; exact hi)
        rw [show k + (j + 1) + 1 = k + 1 + j + 1 by omega] at this
        exact this) i3
      refine ⟨ρ', ?_, by rw [List.length_cons, show k + (r.length + 1) = k + 1 + r.length by omega]; exact i'⟩
      rw [forF, forB_eq e]
      rcases hx with hx | hx <;> rw [hx] <;> exact e'
  obtain ⟨ρ', e, i⟩ := key ds 0 ρ1 (fun i d ρ a b => by rw [Nat.zero_add] at b ⊢; exact hs i d ρ a b) h0
  rw [e]
  rw [Nat.zero_add] at i
  exact hr ρ' i
/-- a loop that may end with an answer -/
theorem w_for_chk {tg : Tg} {it : IIt} {body r : ISs} {ρ ρ1 : Env} {ds : List D} {Q : SRes → Prop} (I : Nat → Env → Prop) (h : evI ft it ρ = .ok ds ρ1) (h0 : I 0 ρ1)
    (hs : ∀ i d ρ, ds[i]? = some d → I i ρ → ∃ ρ2, asgTg tg d ρ = some ρ2 ∧ Wp ft fu body ρ2 fun x => (∃ ρ3, x = .next ρ3 ∧ I (i + 1) ρ3) ∨ (∃ v ρ3, x = .ret v ρ3 ∧ Q (.ret v ρ3))) (hr : ∀ ρ, I ds.length ρ → Wp ft fu r ρ Q) : Wp ft fu (.cons (.forS tg it body) r) ρ Q := by
  refine w_for h ?_
  have key : ∀ (ds : List D) (k : Nat) (ρ : Env), (∀ i d ρ, ds[i]? = some d → I (k + i) ρ → ∃ ρ2, asgTg tg d ρ = some ρ2 ∧ Wp ft fu body ρ2 fun x => (∃ ρ3, x = .next ρ3 ∧ I (k + i + 1) ρ3) ∨ (∃ v ρ3, x = .ret v ρ3 ∧ Q (.ret v ρ3))) → I k ρ → (∃ ρ', forF (forB ft fu tg body) ds ρ = .next ρ' ∧ I (k + ds.length) ρ') ∨ ∃ v ρ', forF (forB ft fu tg body) ds ρ = .ret v ρ' ∧ Q (.ret v ρ') := by
    intro ds
    induction ds with
    | nil => intro k ρ _ i; exact .inl ⟨ρ, rfl, i⟩
    | cons d r ih =>
      intro k ρ h i
      obtain ⟨ρ2, e, hx⟩ := h 0 d ρ rfl i
      rcases hx with ⟨ρ3, hx, i3⟩ | ⟨v, ρ3, hx, q⟩
      · have := ih (k + 1) ρ3 (fun j x ρ hj hi => by
          have := h (j + 1) x ρ (by simpa using hj) (by rw [show k + (j + 1) = k + 1 + j by omega]; exact hi)
          rw [show k + (j + 1) + 1 = k + 1 + j + 1 by omega] at this
          exact this) i3
        rw [List.length_cons, show k + (r.length + 1) = k + 1 + r.length by omega, forF, forB_eq e, hx]
        exact this
      · exact .inr ⟨v, ρ3, by rw [forF, forB_eq e, hx], q⟩
  rcases key ds 0 ρ1 (fun i d ρ a b => by rw [Nat.zero_add] at b ⊢; exact hs i d ρ a b) h0 with ⟨ρ', e, i⟩ | ⟨v, ρ', e, q⟩
  · rw [e]
    rw [Nat.zero_add] at i
    exact hr ρ' i
  · rw [e]; exact q
/-- a loop that ends with False at the first that is not right -/
theorem w_for_all {tg : Tg} {it : IIt} {body r : ISs} {ρ ρ1 : Env} {ds : List D} {Q : SRes → Prop} (ok : D → Bool) (I : Env → Prop) (h : evI ft it ρ = .ok ds ρ1) (h0 : I ρ1)
    (hs : ∀ d ∈ ds, ∀ ρ, I ρ → ∃ ρ2, asgTg tg d ρ = some ρ2 ∧ Wp ft fu body ρ2 fun x => if ok d = true then ∃ ρ3, x = .next ρ3 ∧ I ρ3 else ∃ ρ3, x = .ret (.dat (.bl false)) ρ3)
    (hr : ds.all ok = true → ∀ ρ, I ρ → Wp ft fu r ρ Q) (hf : ds.all ok = false → ∀ ρ, Q (.ret (.dat (.bl false)) ρ)) : Wp ft fu (.cons (.forS tg it body) r) ρ Q := by
  refine w_for h ?_
  have key : ∀ (ds : List D) (ρ : Env), (∀ d ∈ ds, ∀ ρ, I ρ → ∃ ρ2, asgTg tg d ρ = some ρ2 ∧ Wp ft fu body ρ2 fun x => if ok d = true then ∃ ρ3, x = .next ρ3 ∧ I ρ3 else ∃ ρ3, x = .ret (.dat (.bl false)) ρ3) → I ρ →
      if ds.all ok = true then ∃ ρ', forF (forB ft fu tg body) ds ρ = .next ρ' ∧ I ρ' else ∃ ρ', forF (forB ft fu tg body) ds ρ = .ret (.dat (.bl false)) ρ' := by
    intro ds
    induction ds with
    | nil => intro ρ _ i; exact ⟨ρ, rfl, i⟩
    | cons d r ih =>
      intro ρ h i
      obtain ⟨ρ2, e, hx⟩ := h d List.mem_cons_self ρ i
      replace hx := hx.of
      rw [List.all_cons]
      cases hd : ok d with
      | true =>
        rw [hd, if_pos rfl] at hx
        obtain ⟨ρ3, hx, i3⟩ := hx
        rw [Bool.true_and, forF, forB_eq e, hx]
        exact ih ρ3 (fun x m => h x (List.mem_cons_of_mem _ m)) i3
      | false =>
        rw [hd, if_neg (by decide)] at hx
        obtain ⟨ρ3, hx⟩ := hx
        rw [Bool.false_and, if_neg (by decide), forF, forB_eq e, hx]
        exact ⟨ρ3, rfl⟩
  have k := key ds ρ1 hs h0
  cases ha : ds.all ok with
  | true =>
    rw [ha, if_pos rfl] at k
    obtain ⟨ρ', e, i⟩ := k
    rw [e]; exact hr ha ρ' i
  | false =>
    rw [ha, if_neg (by decide)] at k
    obtain ⟨ρ', e⟩ := k
    rw [e]; exact hf ha ρ'
/-! comprehensions -/
def zcompB (ft : FT) (tg : Tg) (cond elt : IE) (own : List Nat) (d : D) (ρ : Env) : ERes (Option D) := match asgTg tg d ρ with
          | some ρ => (tst (evO ft cond ρ)).bind fun k ρ => if k = true then (frz (evO ft elt ρ)).bind fun x ρ => .ok (some x) (wipeE ρ own) else .ok none (wipeE ρ own)
          | none => .stuck
theorem r_comp {elt cond : IE} {tg : Tg} {it : IIt} {own : List Nat} {ρ ρ1 ρ2 : Env} {ds l : List D} (hi : evI ft it ρ = .ok ds ρ1) (hm : (own.all fun i => !isMut ρ1[i]?) = true) (hc : compF (zcompB ft tg cond elt own) ds (wipeE ρ1 own) = .ok l ρ2) (hl : l.length < line) :
    evO ft (.comp elt tg it cond own) ρ = .ok (.own (.lst l)) (unwipe ρ1 ρ2 own) := by
  rw [evO, hi]
  show (if (own.all fun i => !isMut ρ1[i]?) = true then (noexc (compF (zcompB ft tg cond elt own) ds (wipeE ρ1 own))).bind fun l ρ2 => (if l.length < line then ERes.ok (Val.own (M.lst l)) (unwipe ρ1 ρ2 own) else ERes.stuck) else ERes.stuck) = _
  rw [if_pos hm, hc]
  show (if l.length < line then _ else _) = _
  rw [if_pos hl]
theorem compB_some {tg : Tg} {cond elt : IE} {own : List Nat} {d x : D} {ρ ρ1 ρ2 ρ3 : Env} (h1 : asgTg tg d ρ = some ρ1) (h2 : evO ft cond ρ1 = .ok (.dat (.bl true)) ρ2) (h3 : frz (evO ft elt ρ2) = .ok x ρ3) : zcompB ft tg cond elt own d ρ = .ok (some x) (wipeE ρ3 own) := by
  unfold zcompB; rw [h1]; simp only [h2, tst, Val.d, ERes.bind, if_true, h3]
theorem compB_none {tg : Tg} {cond elt : IE} {own : List Nat} {d : D} {ρ ρ1 ρ2 : Env} (h1 : asgTg tg d ρ = some ρ1) (h2 : evO ft cond ρ1 = .ok (.dat (.bl false)) ρ2) : zcompB ft tg cond elt own d ρ = .ok none (wipeE ρ2 own) := by
  unfold zcompB; rw [h1]; simp only [h2, tst, Val.d, ERes.bind]; rfl
/-- a comprehension whose turns leave the slots as they were -/
theorem compF_id {f : D → Env → ERes (Option D)} {g : D → Option D} {ρ : Env} : ∀ (ds : List D), (∀ d ∈ ds, f d ρ = .ok (g d) ρ) → compF f ds ρ = .ok (ds.filterMap g) ρ
  | [], _ => rfl
  | d :: r, h => by
    have e := compF_id r fun x hx => h x (List.mem_cons_of_mem _ hx)
    rw [compF, h d List.mem_cons_self]
    simp only [ERes.bind, e]
    cases hg : g d with
    | none => simp [List.filterMap_cons, hg]
    | some x => simp [List.filterMap_cons, hg]
/-- a comprehension without a test -/
theorem r_map {elt : IE} {tg : Tg} {it : IIt} {own : List Nat} {ρ ρ1 : Env} {ds : List D} (g : D → D) (hi : evI ft it ρ = .ok ds ρ1) (hm : (own.all fun i => !isMut ρ1[i]?) = true) (hl : ds.length < line)
    (h : ∀ d ∈ ds, ∃ ρ2 ρ4, asgTg tg d (wipeE ρ1 own) = some ρ2 ∧ frz (evO ft elt ρ2) = .ok (g d) ρ4 ∧ wipeE ρ4 own = wipeE ρ1 own) :
    evO ft (.comp elt tg it (.cst (.bl true)) own) ρ = .ok (.own (.lst (ds.map g))) (unwipe ρ1 (wipeE ρ1 own) own) := by
  refine r_comp hi hm ?_ (by rw [List.length_map]; exact hl)
  rw [← List.filterMap_eq_map']
  refine compF_id ds fun d hd => ?_
  obtain ⟨ρ2, ρ4, h1, h2, h3⟩ := h d hd
  rw [compB_some h1 r_cst h2, h3]
/-- a comprehension with a test -/
theorem r_filter {elt cond : IE} {tg : Tg} {it : IIt} {own : List Nat} {ρ ρ1 : Env} {ds : List D} (g : D → D) (q : D → Bool) (hi : evI ft it ρ = .ok ds ρ1) (hm : (own.all fun i => !isMut ρ1[i]?) = true) (hl : ds.length < line)
    (h : ∀ d ∈ ds, ∃ ρ2 ρ3, asgTg tg d (wipeE ρ1 own) = some ρ2 ∧ evO ft cond ρ2 = .ok (.dat (.bl (q d))) ρ3 ∧ wipeE ρ3 own = wipeE ρ1 own ∧ (q d = true → ∃ ρ4, frz (evO ft elt ρ3) = .ok (g d) ρ4 ∧ wipeE ρ4 own = wipeE ρ1 own)) :
    evO ft (.comp elt tg it cond own) ρ = .ok (.own (.lst ((ds.filter q).map g))) (unwipe ρ1 (wipeE ρ1 own) own) := by
  have e : (ds.filter q).map g = ds.filterMap fun d => if q d = true then some (g d) else none := by
    clear h hl hi
    induction ds with
    | nil => rfl
    | cons d r ih =>
      cases hq : q d <;> simp [List.filter_cons, List.filterMap_cons, hq, ih]
  refine r_comp hi hm ?_ (by rw [List.length_map]; exact Nat.lt_of_le_of_lt (List.length_filter_le _ _) hl)
  rw [e]
  refine compF_id ds fun d hd => ?_
  obtain ⟨ρ2, ρ3, h1, h2, h3, h4⟩ := h d hd
  cases hq : q d with
  | true =>
    obtain ⟨ρ4, h5, h6⟩ := h4 hq
    rw [hq] at h2
    rw [compB_some h1 h2 h5, h6]; rfl
  | false =>
    rw [hq] at h2
    rw [compB_none h1 h2, h3]; rfl
inductive Sel (Q : D → D → Prop) : List D → List D → Prop
  | nil : Sel Q [] []
  | skip {d : D} {r o : List D} : Sel Q r o → Sel Q (d :: r) o
  | take {d x : D} {r o : List D} : Q d x → Sel Q r o → Sel Q (d :: r) (x :: o)
theorem compF_sel {f : D → Env → ERes (Option D)} {I : Env → Prop} {Q : D → D → Prop} : ∀ {ds : List D}, (∀ d ∈ ds, ∀ ρ, I ρ → ∃ o ρ', f d ρ = .ok o ρ' ∧ I ρ' ∧ ∀ x, o = some x → Q d x) → ∀ ρ, I ρ → ∃ outs ρ', compF f ds ρ = .ok outs ρ' ∧ I ρ' ∧ Sel Q ds outs
  | [], _, ρ, i => ⟨[], ρ, rfl, i, .nil⟩
  | d :: r, h, ρ, i => by
    obtain ⟨o, ρ1, e1, i1, q⟩ := h d List.mem_cons_self ρ i
    obtain ⟨outs, ρ2, e2, i2, s⟩ := compF_sel (fun x hx => h x (List.mem_cons_of_mem _ hx)) ρ1 i1
    cases o with
    | none => exact ⟨outs, ρ2, by rw [compF, e1]; simp only [ERes.bind, e2], i2, .skip s⟩
    | some x => exact ⟨x :: outs, ρ2, by rw [compF, e1]; simp only [ERes.bind, e2], i2, .take (q x rfl) s⟩
theorem Sel.len {Q : D → D → Prop} {a b : List D} (h : Sel Q a b) : b.length ≤ a.length := by
  induction h with
  | nil => exact Nat.le_refl _
  | skip _ ih => exact Nat.le_succ_of_le ih
  | take _ _ ih => exact Nat.succ_le_succ ih
/-- a comprehension whose turns may change slots -/
theorem r_comp_sel {elt cond : IE} {tg : Tg} {it : IIt} {own : List Nat} {ρ ρ1 : Env} {ds : List D} (I : Env → Prop) (Q : D → D → Prop) (hi : evI ft it ρ = .ok ds ρ1) (hm : (own.all fun i => !isMut ρ1[i]?) = true) (hl : ds.length < line) (h0 : I (wipeE ρ1 own))
    (h : ∀ d ∈ ds, ∀ ρ, I ρ → ∃ o ρ', zcompB ft tg cond elt own d ρ = .ok o ρ' ∧ I ρ' ∧ ∀ x, o = some x → Q d x) :
    ∃ outs ρ', evO ft (.comp elt tg it cond own) ρ = .ok (.own (.lst outs)) (unwipe ρ1 ρ' own) ∧ I ρ' ∧ Sel Q ds outs := by
  obtain ⟨outs, ρ', e, i, s⟩ := compF_sel h _ h0
  exact ⟨outs, ρ', r_comp hi hm e (Nat.lt_of_le_of_lt s.len hl), i, s⟩
/-! defs -/
theorem fin_ret {as : List Arg} {v : Val} {ρ : Env} {ms : List M} (h : lentsAt ρ 0 as = some ms) : fin as (.ret v ρ) = .ret v ms := by simp only [fin, h]
theorem fin_next {as : List Arg} {ρ : Env} {ms : List M} (h : lentsAt ρ 0 as = some ms) : fin as (.next ρ) = .ret (.dat .non) ms := by simp only [fin, h]
theorem fin_exc {as : List Arg} {c : Nat} {ρ : Env} {ms : List M} (h : lentsAt ρ 0 as = some ms) : fin as (.exc c ρ) = .exc c ms := by simp only [fin, h]
theorem run_wp {fd : FnD} {as : List Arg} {out : FRes → Prop} (h : as.length = fd.np) (h2 : fd.np ≤ fd.ns) (hw : Wp ft fu fd.body (startE as fd.ns) fun r => out (fin as r)) : out (runFn ft fu fd as) := by
  unfold runFn
  rw [if_pos ⟨h, h2⟩]; exact hw
end
end AP
end
section
namespace K15
open PySem AP
abbrev FN (n : Nat) : FT := ftAt fns told FU n
theorem fn_at {f : Nat} {d : FnD} (h : fns f = some d) (n : Nat) : (FN (n + 1)).fn f = runFn (FN n) FU d := ftAt_fn' n h
theorem dom_at {f : Nat} {d : FnD} (h : fns f = some d) (n : Nat) : (FN n).dom f = true := by rw [FN, ftAt_dom', h]; rfl
theorem dom_any {f n : Nat} (h : (fns f).isSome = true) : (FN n).dom f = true := by rw [FN, ftAt_dom']; exact h
def wholeB (v : D) (lo hi : Int) : Bool := match v with | .int i => decide (lo ≤ i) && decide (i ≤ hi) | _ => false
def Known (v : D) : Prop := match v with | .non => True | .bl _ => True | .int _ => True | .str _ => True | .tup _ => True | .lst _ => True | _ => False
theorem ite_ok {c : Prop} [Decidable c] {α : Type} {a b : α} {ρ : AP.Env} : (if c then ERes.ok a ρ else ERes.ok b ρ) = ERes.ok (if c then a else b) ρ := by split <;> rfl
theorem ite_dat {c : Prop} [Decidable c] {a b : D} : (if c then Val.dat a else Val.dat b) = Val.dat (if c then a else b) := by split <;> rfl
theorem ite_bl {c : Prop} [Decidable c] {a b : Bool} : (if c then D.bl a else D.bl b) = D.bl (if c then a else b) := by split <;> rfl
theorem is_whole_spec (n : Nat) (v : D) (lo hi : Int) (hv : Known v) : (FN (n + 1)).fn 0 [.dat v, .dat (.int lo), .dat (.int hi)] = .ret (.dat (.bl (wholeB v lo hi))) [] := by
  rw [fn_at (d := d_is_whole) rfl]
  cases v <;> first | exact hv.elim | (simp [runFn, evSs, evS, evO, evL, evA, evI, evP, startE, Arg.slot, tst, readVar, frz, ERes.bind, ERes.st, ofO, Val.d, isiD, D.tyN, isiT, opCmp, ordD, SRes.seq, fin, lentsAt, opd, isMut, Opd.get, lenD, callRes, argsOf, PArg.arg, lentIx, back, putBack, d_is_whole, b_is_whole, wholeB]; done) | (rename_i i; by_cases h : lo ≤ i <;> simp [runFn, evSs, evS, evO, evL, evA, evI, evP, startE, Arg.slot, tst, readVar, frz, ERes.bind, ERes.st, ofO, Val.d, isiD, D.tyN, isiT, opCmp, ordD, SRes.seq, fin, lentsAt, opd, isMut, Opd.get, lenD, callRes, argsOf, PArg.arg, lentIx, back, putBack, d_is_whole, b_is_whole, wholeB, h])
def rowB (v : D) (lo hi : Int) : Bool := match v with | .tup xs => decide (lo ≤ (xs.length : Int)) && decide ((xs.length : Int) ≤ hi) | _ => false
theorem is_row_spec (n : Nat) (v : D) (lo hi : Int) (hv : Known v) : (FN (n + 1)).fn 1 [.dat v, .dat (.int lo), .dat (.int hi)] = .ret (.dat (.bl (rowB v lo hi))) [] := by
  rw [fn_at (d := d_is_row) rfl]
  cases v <;> first | exact hv.elim | (simp [runFn, evSs, evS, evO, evL, evA, evI, evP, startE, Arg.slot, tst, readVar, frz, ERes.bind, ERes.st, ofO, Val.d, isiD, D.tyN, isiT, opCmp, ordD, SRes.seq, fin, lentsAt, opd, isMut, Opd.get, lenD, callRes, argsOf, PArg.arg, lentIx, back, putBack, d_is_row, b_is_row, rowB]; done) | (rename_i ds; by_cases h : lo ≤ (ds.length : Int) <;> simp [runFn, evSs, evS, evO, evL, evA, evI, evP, startE, Arg.slot, tst, readVar, frz, ERes.bind, ERes.st, ofO, Val.d, isiD, D.tyN, isiT, opCmp, ordD, SRes.seq, fin, lentsAt, opd, isMut, Opd.get, lenD, callRes, argsOf, PArg.arg, lentIx, back, putBack, d_is_row, b_is_row, rowB, h])
/-- bounds of a time -/
def boundsB (v : D) : Bool := match v with | .tup [.int a, .int b] => decide (0 ≤ a) && decide (a ≤ b) && decide (b ≤ 20) | _ => false
theorem wholeB_known {v : D} {lo hi : Int} (h : wholeB v lo hi = true) : ∃ i : Int, v = .int i ∧ lo ≤ i ∧ i ≤ hi := by
  cases v with
  | int i => simp [wholeB] at h; exact ⟨i, rfl, h.1, h.2⟩
  | _ => cases h
theorem dom_is_whole (n : Nat) : (FN n).dom 0 = true := dom_at (d := d_is_whole) rfl n
theorem dom_is_row (n : Nat) : (FN n).dom 1 = true := dom_at (d := d_is_row) rfl n
theorem is_bounds_spec (n : Nat) (v : D) (hv : Known v) (hk : ∀ ds, v = .tup ds → ∀ d ∈ ds, Known d) : (FN (n + 2)).fn 2 [.dat v] = .ret (.dat (.bl (boundsB v))) [] := by
  rw [fn_at (d := d_is_bounds) rfl]
  have h2 := is_row_spec n v 2 2 hv
  cases v with
  | tup ds =>
    have kn := hk ds rfl
    match ds, kn with
    | [a, b], kn =>
      have k1 := is_whole_spec n b 0 20 (kn b (by simp))
      by_cases w1 : wholeB b 0 20 = true
      · obtain ⟨j, rfl, j1, j2⟩ := wholeB_known w1
        have k2 := is_whole_spec n a 0 j (kn a (by simp))
        simp [runFn, evSs, evS, evO, evL, evA, evI, evP, startE, Arg.slot, tst, readVar, frz, ERes.bind, ERes.st, ofO, Val.d, isiD, D.tyN, isiT, opCmp, ordD, SRes.seq, fin, lentsAt, opd, isMut, Opd.get, lenD, callRes, argsOf, PArg.arg, lentIx, back, putBack, d_is_bounds, b_is_bounds, dom_is_whole, dom_is_row, h2, k1, k2, rowB, w1, ixD, ixN]
        cases a <;> simp [wholeB, boundsB, j2]
      · simp [runFn, evSs, evS, evO, evL, evA, evI, evP, startE, Arg.slot, tst, readVar, frz, ERes.bind, ERes.st, ofO, Val.d, isiD, D.tyN, isiT, opCmp, ordD, SRes.seq, fin, lentsAt, opd, isMut, Opd.get, lenD, callRes, argsOf, PArg.arg, lentIx, back, putBack, d_is_bounds, b_is_bounds, dom_is_whole, dom_is_row, h2, k1, rowB, w1, ixD, ixN]
        cases a <;> cases b <;> simp_all [wholeB, boundsB]
        all_goals omega
    | [], _ => simp [runFn, evSs, evS, evO, evL, evA, evI, evP, startE, Arg.slot, tst, readVar, frz, ERes.bind, ERes.st, ofO, Val.d, isiD, D.tyN, isiT, opCmp, ordD, SRes.seq, fin, lentsAt, opd, isMut, Opd.get, lenD, callRes, argsOf, PArg.arg, lentIx, back, putBack, d_is_bounds, b_is_bounds, dom_is_row, h2, rowB, boundsB]
    | [a], _ => simp [runFn, evSs, evS, evO, evL, evA, evI, evP, startE, Arg.slot, tst, readVar, frz, ERes.bind, ERes.st, ofO, Val.d, isiD, D.tyN, isiT, opCmp, ordD, SRes.seq, fin, lentsAt, opd, isMut, Opd.get, lenD, callRes, argsOf, PArg.arg, lentIx, back, putBack, d_is_bounds, b_is_bounds, dom_is_row, h2, rowB, boundsB]
    | a :: b :: c :: r, _ =>
      have e : rowB (.tup (a :: b :: c :: r)) 2 2 = false := by simp [rowB]; omega
      simp [runFn, evSs, evS, evO, evL, evA, evI, evP, startE, Arg.slot, tst, readVar, frz, ERes.bind, ERes.st, ofO, Val.d, isiD, D.tyN, isiT, opCmp, ordD, SRes.seq, fin, lentsAt, opd, isMut, Opd.get, lenD, callRes, argsOf, PArg.arg, lentIx, back, putBack, d_is_bounds, b_is_bounds, dom_is_row, h2, e, boundsB]
  | _ => first | exact hv.elim | simp [runFn, evSs, evS, evO, evL, evA, evI, evP, startE, Arg.slot, tst, readVar, frz, ERes.bind, ERes.st, ofO, Val.d, isiD, D.tyN, isiT, opCmp, ordD, SRes.seq, fin, lentsAt, opd, isMut, Opd.get, lenD, callRes, argsOf, PArg.arg, lentIx, back, putBack, d_is_bounds, b_is_bounds, dom_is_row, h2, rowB, boundsB]
end K15
namespace K15
open PySem AP
theorem eqD_int (a b : Int) : eqD (.int a) (.int b) = some (decide (a = b)) := by
  unfold eqD
  rw [if_pos (show eqOk (.int a) (.int b) = true by simp [eqOk, D.plain, D.dep])]
  simp [D.eqv]
  rw [Bool.eq_iff_iff]; simp
theorem while_step {c : AP.Env → ERes Bool} {f : AP.Env → SRes} {n : Nat} {ρ ρ' ρ'' : AP.Env} (hc : c ρ = .ok true ρ') (hf : f ρ' = .next ρ'') : whileF c f (n + 1) ρ = whileF c f n ρ'' := by
  rw [whileF, hc]; simp only [ERes.st, if_true, hf]
theorem while_end {c : AP.Env → ERes Bool} {f : AP.Env → SRes} {n : Nat} {ρ ρ' : AP.Env} (hc : c ρ = .ok false ρ') : whileF c f (n + 1) ρ = .next ρ' := by
  rw [whileF, hc]; rfl
theorem gcd_loop (ft : FT) : ∀ (m a b : Nat), b < m → whileF (fun ρ => tst (evO ft (.cmp .ne (.var 1) (.cst (.int 0))) ρ)) (fun ρ => evSs ft FU (.cons (.par 0 1 (.var 1) (.bin .mod (.var 0) (.var 1)) false) .nil) ρ) m [.dat (.int a), .dat (.int b)] = .next [.dat (.int (Nat.gcd a b)), .dat (.int 0)]
  | 0, _, _, h => by omega
  | m + 1, a, b, h => by
    by_cases hb : b = 0
    · subst hb
      rw [while_end (ρ' := [.dat (.int a), .dat (.int 0)]) (by simp [runFn, evSs, evS, evO, evL, evA, evI, evP, startE, Arg.slot, tst, readVar, frz, ERes.bind, ERes.st, ofO, Val.d, isiD, D.tyN, isiT, opCmp, ordD, SRes.seq, fin, lentsAt, opd, isMut, Opd.get, lenD, callRes, argsOf, PArg.arg, lentIx, back, putBack, eqD_int])]
      simp
    · have hp : 0 < b := Nat.pos_of_ne_zero hb
      have e := gcd_loop ft m b (a % b) (by have := Nat.mod_lt a hp; omega)
      rw [while_step (ρ' := [.dat (.int a), .dat (.int b)]) (ρ'' := [.dat (.int b), .dat (.int (a % b : Nat))]) (by simp [runFn, evSs, evS, evO, evL, evA, evI, evP, startE, Arg.slot, tst, readVar, frz, ERes.bind, ERes.st, ofO, Val.d, isiD, D.tyN, isiT, opCmp, ordD, SRes.seq, fin, lentsAt, opd, isMut, Opd.get, lenD, callRes, argsOf, PArg.arg, lentIx, back, putBack, eqD_int, hb]) (by simp [runFn, evSs, evS, evO, evL, evA, evI, evP, startE, Arg.slot, tst, readVar, frz, ERes.bind, ERes.st, ofO, Val.d, isiD, D.tyN, isiT, opCmp, ordD, SRes.seq, fin, lentsAt, opd, isMut, Opd.get, lenD, callRes, argsOf, PArg.arg, lentIx, back, putBack, opBin, opMod, hp]), e]
      rw [Nat.gcd_comm b, ← Nat.gcd_rec, Nat.gcd_comm]
theorem absD_int (i : Int) : absD (.int i) = some (.dat (.int (i.natAbs : Nat))) := by
  have h : (if i < 0 then -i else i) = (i.natAbs : Nat) := by split <;> omega
  show some (Val.dat (D.int (if i < 0 then -i else i))) = _
  rw [h]
theorem run_body {ft : FT} {fd : FnD} {as : List AP.Arg} (h : as.length = fd.np) (h2 : fd.np ≤ fd.ns) : runFn ft FU fd as = fin as (evSs ft FU fd.body (startE as fd.ns)) := if_pos ⟨h, h2⟩
end K15
namespace K15
open PySem AP
abbrev bagD (bs : List Int) : List D := bs.map D.int
theorem plain_ints : ∀ bs : List Int, D.plainL (bagD bs) = true
  | [] => rfl
  | b :: r => by
    show (D.plain (.int b) && D.plainL (bagD r)) = true
    rw [plain_ints r]; rfl
theorem ne_nil (bs : List Int) : eqD (.lst (bagD bs)) (.lst []) = some (decide (bs = [])) := by
  unfold eqD
  have h : eqOk (.lst (bagD bs)) (.lst []) = true := by
    have h2 : (D.lst (bagD bs)).plain = true := plain_ints bs
    have h3 : (D.lst []).plain = true := rfl
    have h4 : min (D.lst (bagD bs)).dep (D.lst []).dep ≤ 60 := Nat.le_trans (Nat.min_le_right _ _) (by decide)
    unfold eqOk
    rw [h2, h3, decide_eq_true h4]; rfl
  rw [if_pos h]
  cases bs <;> rfl
def drawn (bs : List Int) (m : Int) : Int := bs.headD 0 % m
theorem take_spec (n : Nat) (bs : List Int) (m : Int) (hm : 0 < m) : (FN (n + 1)).fn 15 [.lent (.lst (bagD bs)), .dat (.int m)] = .ret (.dat (.int (drawn bs m))) [.lst (bagD bs.tail)] := by
  rw [fn_at (d := d_law_take) rfl, run_body rfl (by decide)]
  cases bs with
  | nil =>
    have e := ne_nil []
    simp at e
    simp [runFn, evSs, evS, evO, evL, evA, evI, evP, startE, Arg.slot, tst, readVar, frz, ERes.bind, ERes.st, ofO, Val.d, isiD, D.tyN, isiT, opCmp, ordD, SRes.seq, fin, lentsAt, opd, isMut, Opd.get, lenD, callRes, argsOf, PArg.arg, lentIx, back, putBack, d_law_take, b_law_take, slotD, opBin, opMod, hm, biD, intD, drawn, mutL, putS, e]
  | cons b r =>
    have e := ne_nil (b :: r)
    simp at e
    simp [runFn, evSs, evS, evO, evL, evA, evI, evP, startE, Arg.slot, tst, readVar, frz, ERes.bind, ERes.st, ofO, Val.d, isiD, D.tyN, isiT, opCmp, ordD, SRes.seq, fin, lentsAt, opd, isMut, Opd.get, lenD, callRes, argsOf, PArg.arg, lentIx, back, putBack, d_law_take, b_law_take, slotD, opBin, opMod, hm, biD, intD, drawn, mutL, putS, e]
end K15
namespace K15
open PySem AP
/-- a comprehension whose turns leave the slots as they were -/
theorem compF_pure {f : D → AP.Env → ERes (Option D)} {g : D → Option D} {ρ : AP.Env} : ∀ (ds : List D), (∀ d ∈ ds, f d ρ = .ok (g d) ρ) → compF f ds ρ = .ok (ds.filterMap g) ρ
  | [], _ => rfl
  | d :: r, h => by
    have e := compF_pure r fun x hx => h x (List.mem_cons_of_mem _ hx)
    rw [compF, h d List.mem_cons_self]
    simp only [ERes.bind, e]
    cases hg : g d with
    | none => simp [List.filterMap_cons, hg]
    | some x => simp [List.filterMap_cons, hg]
theorem all_bls : ∀ bs : List Bool, allD (.lst (bs.map D.bl)) = some (.dat (.bl (bs.all id)))
  | bs => by
    have h : ∀ l : List Bool, blsOf (l.map D.bl) = some l := fun l => by
      induction l with
      | nil => rfl
      | cons b r ih => simp [blsOf, ih]
    simp [allD, h]
/-- data that a law may make -/
inductive Dat : D → Prop
  | non : Dat .non
  | bl (b : Bool) : Dat (.bl b)
  | int (i : Int) : Dat (.int i)
  | str (x : Str) : Dat (.str x)
  | tup {ds : List D} : (∀ d ∈ ds, Dat d) → Dat (.tup ds)
  | lst {ds : List D} : (∀ d ∈ ds, Dat d) → Dat (.lst ds)
theorem Dat.known {d : D} (h : Dat d) : Known d := by cases h <;> trivial
theorem whole_comp (n : Nat) (num : Int) (ws : List D) (hw : ∀ d ∈ ws, Dat d) (v x3 x4 : Slot) (hv : v = .dat (.tup ws) ∨ True) :
    compF (fun d ρ => match asgTg (.nm 2) d ρ with
          | some ρ => (tst (evO (FN (n + 1)) (.cst (.bl true)) ρ)).bind fun k ρ => if k = true then (frz (evO (FN (n + 1)) (.call 0 (.e (.var 2) (.e (.cst (.int 0)) (.e (.bin .sub (.var 0) (.cst (.int 1))) .nil)))) ρ)).bind fun x ρ => .ok (some x) (wipeE ρ [2]) else .ok none (wipeE ρ [2])
          | none => .stuck) ws [.dat (.int num), v, .no, x3, x4] = .ok (ws.map fun d => .bl (wholeB d 0 (num - 1))) [.dat (.int num), v, .no, x3, x4] := by
  rw [compF_pure (g := fun d => some (.bl (wholeB d 0 (num - 1))))]
  · rw [List.filterMap_eq_map']
  · intro d hd
    have k := is_whole_spec n d 0 (num - 1) (hw d hd).known
    simp [runFn, evSs, evS, evO, evL, evA, evI, evP, startE, Arg.slot, tst, readVar, frz, ERes.bind, ERes.st, ofO, Val.d, isiD, D.tyN, isiT, opCmp, ordD, SRes.seq, fin, lentsAt, opd, isMut, Opd.get, lenD, callRes, argsOf, PArg.arg, lentIx, back, putBack, asgTg, dom_is_whole, opBin, opSub, k, wipeE]
end K15
namespace K15
open PySem AP
def incB : List Int → Bool
  | a :: b :: r => decide (a < b) && incB (b :: r)
  | _ => true
def ltP (d : D) : Option D := match d with | .tup [.int a, .int b] => some (.bl (decide (a < b))) | _ => none
theorem zip_inc : ∀ is : List Int, ∃ bs : List Bool, (zipD (bagD is) ((bagD is).drop 1)).filterMap ltP = bs.map D.bl ∧ bs.all id = incB is ∧ bs.length ≤ is.length
  | [] => ⟨[], rfl, rfl, Nat.le_refl _⟩
  | [a] => ⟨[], rfl, rfl, Nat.zero_le _⟩
  | a :: b :: r => by
    obtain ⟨bs, h1, h2, h3⟩ := zip_inc (b :: r)
    refine ⟨decide (a < b) :: bs, ?_, ?_, by simp at h3 ⊢; omega⟩
    · simp only [bagD, List.map_cons, List.drop_succ_cons, List.drop_zero] at h1 ⊢
      rw [zipD, List.filterMap_cons]
      simp only [ltP]
      rw [h1]
    · simp only [List.all_cons, id, incB, h2]
theorem zip_mem : ∀ (xs ys : List Int) (d : D), d ∈ zipD (bagD xs) (bagD ys) → ∃ a b, d = .tup [.int a, .int b]
  | [], _, d, h => by simp [bagD, zipD] at h
  | a :: xs, [], d, h => by simp [bagD, zipD] at h
  | a :: xs, b :: ys, d, h => by
    simp only [bagD, List.map_cons, zipD, List.mem_cons] at h
    rcases h with h | h
    · exact ⟨a, b, h⟩
    · exact zip_mem xs ys d h
theorem inc_comp (ft : FT) (is : List Int) (x0 x1 x2 : Slot) :
    ∃ bs : List Bool, bs.all id = incB is ∧ bs.length ≤ is.length ∧ compF (fun d ρ => match asgTg (.tup (.cons (.nm 3) (.cons (.nm 4) .nil))) d ρ with
          | some ρ => (tst (evO ft (.cst (.bl true)) ρ)).bind fun k ρ => if k = true then (frz (evO ft (.cmp .lt (.var 3) (.var 4)) ρ)).bind fun x ρ => .ok (some x) (wipeE ρ [3, 4]) else .ok none (wipeE ρ [3, 4])
          | none => .stuck) (zipD (bagD is) ((bagD is).drop 1)) [x0, x1, x2, .no, .no] = .ok (bs.map D.bl) [x0, x1, x2, .no, .no] := by
  obtain ⟨bs, h1, h2, h3⟩ := zip_inc is
  refine ⟨bs, h2, h3, ?_⟩
  rw [compF_pure (g := ltP), h1]
  intro d hd
  obtain ⟨a, b, rfl⟩ := zip_mem is (is.drop 1) d (by rw [bagD, bagD, List.map_drop]; exact hd)
  simp [runFn, evSs, evS, evO, evL, evA, evI, evP, startE, Arg.slot, tst, readVar, frz, ERes.bind, ERes.st, ofO, Val.d, isiD, D.tyN, isiT, opCmp, ordD, SRes.seq, fin, lentsAt, opd, isMut, Opd.get, lenD, callRes, argsOf, PArg.arg, lentIx, back, putBack, asgTg, asgTgs, wipeE, ltP]
end K15
namespace K15
open PySem AP
def intsB : List D → Option (List Int)
  | [] => some []
  | .int i :: r => (intsB r).map (i :: ·)
  | _ => none
theorem whole_all {lo hi : Int} : ∀ ws : List D, (ws.map fun d => wholeB d lo hi).all id = true → ∃ is : List Int, ws = bagD is
  | [], _ => ⟨[], rfl⟩
  | d :: r, h => by
    simp only [List.map_cons, List.all_cons, id, Bool.and_eq_true] at h
    obtain ⟨i, rfl, _, _⟩ := wholeB_known h.1
    obtain ⟨is, e⟩ := whole_all r h.2
    exact ⟨i :: is, by rw [e]; rfl⟩
def incD (ws : List D) : Bool := match intsB ws with | some is => incB is | none => false
theorem intsB_bag : ∀ is : List Int, intsB (bagD is) = some is
  | [] => rfl
  | i :: r => by
    show (intsB (bagD r)).map (i :: ·) = _
    rw [intsB_bag r]; rfl
def taskB (num : Int) (v : D) : Bool := match v with
  | .tup [.tup ws, a, b, c] => decide (ws.length ≤ 5) && ((ws.map fun d => wholeB d 0 (num - 1)).all id && (incD ws && (wholeB a 0 9 && (wholeB b 0 9 && wholeB c 0 60))))
  | _ => false
def s1T : IS := .ifs (.or (.not (.call 1 (.e (.var 1) (.e (.cst (.int 4)) (.e (.cst (.int 4)) .nil))))) (.not (.call 1 (.e (.idx (.var 1) (.cst (.int 0))) (.e (.cst (.int 0)) (.e (.cst (.int 5)) .nil)))))) (.cons (.ret (.cst (.bl false))) .nil) .nil
theorem s1T_bad (n : Nat) (num : Int) (v : D) (hv : Dat v) (h : ∀ ws a b c, v = .tup [.tup ws, a, b, c] → ¬ ws.length ≤ 5) : evS (FN (n + 1)) FU s1T [.dat (.int num), .dat v, .no, .no, .no] = .ret (.dat (.bl false)) [.dat (.int num), .dat v, .no, .no, .no] := by
  have h2 := is_row_spec n v 4 4 hv.known
  by_cases hr : rowB v 4 4 = true
  · cases v with
    | tup ds =>
      match ds, hr, hv with
      | [w, a, b, c], hr, hv =>
        have hw : Dat w := by cases hv with | tup g => exact g w (by simp)
        have h3 := is_row_spec n w 0 5 hw.known
        have e : rowB w 0 5 = false := by
          cases w with
          | tup ws =>
            have := h ws a b c rfl
            simp [rowB]; omega
          | _ => rfl
        simp [runFn, evSs, evS, evO, evL, evA, evI, evP, startE, Arg.slot, tst, readVar, frz, ERes.bind, ERes.st, ofO, Val.d, isiD, D.tyN, isiT, opCmp, ordD, SRes.seq, fin, lentsAt, opd, isMut, Opd.get, lenD, callRes, argsOf, PArg.arg, lentIx, back, putBack, s1T, dom_is_row, h2, hr, h3, e, ixD, ixN]
      | [], hr, _ => simp [rowB] at hr
      | [a], hr, _ => simp [rowB] at hr
      | [a, b], hr, _ => simp [rowB] at hr
      | [a, b, c], hr, _ => simp [rowB] at hr
      | a :: b :: c :: d :: e :: r, hr, _ => simp [rowB] at hr; omega
    | _ => cases hr
  · simp [runFn, evSs, evS, evO, evL, evA, evI, evP, startE, Arg.slot, tst, readVar, frz, ERes.bind, ERes.st, ofO, Val.d, isiD, D.tyN, isiT, opCmp, ordD, SRes.seq, fin, lentsAt, opd, isMut, Opd.get, lenD, callRes, argsOf, PArg.arg, lentIx, back, putBack, s1T, dom_is_row, h2, hr]
theorem s1T_ok (n : Nat) (num : Int) (ws : List D) (a b c : D) (hw : ws.length ≤ 5) : evS (FN (n + 1)) FU s1T [.dat (.int num), .dat (.tup [.tup ws, a, b, c]), .no, .no, .no] = .next [.dat (.int num), .dat (.tup [.tup ws, a, b, c]), .no, .no, .no] := by
  have h2 := is_row_spec n (.tup [.tup ws, a, b, c]) 4 4 trivial
  have h3 := is_row_spec n (.tup ws) 0 5 trivial
  have e2 : rowB (.tup [.tup ws, a, b, c]) 4 4 = true := by simp [rowB]
  have e3 : rowB (.tup ws) 0 5 = true := by simp [rowB]; omega
  simp [runFn, evSs, evS, evO, evL, evA, evI, evP, startE, Arg.slot, tst, readVar, frz, ERes.bind, ERes.st, ofO, Val.d, isiD, D.tyN, isiT, opCmp, ordD, SRes.seq, fin, lentsAt, opd, isMut, Opd.get, lenD, callRes, argsOf, PArg.arg, lentIx, back, putBack, s1T, dom_is_row, h2, e2, h3, e3, ixD, ixN]
end K15
namespace K15
open PySem AP
/-- a comprehension without a test, told turn by turn -/
theorem comp_ev {ft : FT} {elt : IE} {tg : Tg} {it : IIt} {own : List Nat} {ρ ρ1 : AP.Env} {ds : List D} {g : D → D} (hi : evI ft it ρ = .ok ds ρ1) (hm : own.all (fun i => !isMut ρ1[i]?) = true) (hl : ds.length < line)
    (h : ∀ d ∈ ds, ∃ ρ2 ρ4, asgTg tg d (wipeE ρ1 own) = some ρ2 ∧ frz (evO ft elt ρ2) = .ok (g d) ρ4 ∧ wipeE ρ4 own = wipeE ρ1 own) :
    evO ft (.comp elt tg it (.cst (.bl true)) own) ρ = .ok (.own (.lst (ds.map g))) (unwipe ρ1 (wipeE ρ1 own) own) := by
  rw [evO, hi]
  simp only [ERes.bind]
  rw [if_pos hm, compF_pure (g := fun d => some (g d))]
  · rw [List.filterMap_eq_map']
    simp only [noexc]
    rw [if_pos (by rw [List.length_map]; exact hl)]
  · intro d hd
    obtain ⟨ρ2, ρ4, h1, h2, h3⟩ := h d hd
    rw [h1]
    simp only [evO, tst, Val.d, if_true]
    rw [h2]
    simp only [h3]
def c1T : IE := .comp (.call 0 (.e (.var 2) (.e (.cst (.int 0)) (.e (.bin .sub (.var 0) (.cst (.int 1))) .nil)))) (.nm 2) (.seq (.idx (.var 1) (.cst (.int 0)))) (.cst (.bl true)) [2]
theorem c1T_ev (n : Nat) (num : Int) (ws : List D) (a b c : D) (hw : ∀ d ∈ ws, Dat d) (hl : ws.length ≤ 5) : evO (FN (n + 1)) c1T [.dat (.int num), .dat (.tup [.tup ws, a, b, c]), .no, .no, .no] = .ok (.own (.lst (ws.map fun d => .bl (wholeB d 0 (num - 1))))) [.dat (.int num), .dat (.tup [.tup ws, a, b, c]), .no, .no, .no] := by
  refine comp_ev (ρ1 := [.dat (.int num), .dat (.tup [.tup ws, a, b, c]), .no, .no, .no]) (by simp [runFn, evSs, evS, evO, evL, evA, evI, evP, startE, Arg.slot, tst, readVar, frz, ERes.bind, ERes.st, ofO, Val.d, isiD, D.tyN, isiT, opCmp, ordD, SRes.seq, fin, lentsAt, opd, isMut, Opd.get, lenD, callRes, argsOf, PArg.arg, lentIx, back, putBack, ixD, ixN, seqOf]) (by simp [isMut]) (by unfold line; omega) fun d hd => ?_
  have k := is_whole_spec n d 0 (num - 1) (hw d hd).known
  exact ⟨[.dat (.int num), .dat (.tup [.tup ws, a, b, c]), .dat d, .no, .no], [.dat (.int num), .dat (.tup [.tup ws, a, b, c]), .dat d, .no, .no], by simp [asgTg, wipeE], by simp [runFn, evSs, evS, evO, evL, evA, evI, evP, startE, Arg.slot, tst, readVar, frz, ERes.bind, ERes.st, ofO, Val.d, isiD, D.tyN, isiT, opCmp, ordD, SRes.seq, fin, lentsAt, opd, isMut, Opd.get, lenD, callRes, argsOf, PArg.arg, lentIx, back, putBack, dom_is_whole, opBin, opSub, k], rfl⟩
end K15
namespace K15
open PySem AP
def c2T : IE := .comp (.cmp .lt (.var 3) (.var 4)) (.tup (.cons (.nm 3) (.cons (.nm 4) .nil))) (.zip (.idx (.var 1) (.cst (.int 0))) (.sl (.idx (.var 1) (.cst (.int 0))) (.some (.cst (.int 1))) .none)) (.cst (.bl true)) [3, 4]
def ltQ (d : D) : D := match d with | .tup [.int a, .int b] => .bl (decide (a < b)) | _ => .non
theorem zip_incQ : ∀ is : List Int, ∃ bs : List Bool, (zipD (bagD is) ((bagD is).drop 1)).map ltQ = bs.map D.bl ∧ bs.all id = incB is
  | [] => ⟨[], rfl, rfl⟩
  | [a] => ⟨[], rfl, rfl⟩
  | a :: b :: r => by
    obtain ⟨bs, h1, h2⟩ := zip_incQ (b :: r)
    refine ⟨decide (a < b) :: bs, ?_, ?_⟩
    · simp only [bagD, List.map_cons, List.drop_succ_cons, List.drop_zero] at h1 ⊢
      rw [zipD, List.map_cons, h1]
      rfl
    · simp only [List.all_cons, id, incB, h2]
theorem zip_len : ∀ (xs ys : List D), (zipD xs ys).length ≤ xs.length
  | [], _ => Nat.le_refl _
  | a :: xs, [] => Nat.zero_le _
  | a :: xs, b :: ys => by
    show (zipD xs ys).length + 1 ≤ xs.length + 1
    have := zip_len xs ys
    omega
theorem c2T_ev (ft : FT) (num : Int) (is : List Int) (a b c : D) (hl : is.length ≤ 5) : ∃ bs : List Bool, bs.all id = incB is ∧ evO ft c2T [.dat (.int num), .dat (.tup [.tup (bagD is), a, b, c]), .no, .no, .no] = .ok (.own (.lst (bs.map D.bl))) [.dat (.int num), .dat (.tup [.tup (bagD is), a, b, c]), .no, .no, .no] := by
  obtain ⟨bs, h1, h2⟩ := zip_incQ is
  have hc : cutL (bagD is) (some 1) none = (bagD is).drop 1 := by
    cases is with
    | nil => rfl
    | cons x r =>
      simp only [cutL, sIx]
      rw [if_neg (by omega)]
      have : min (1 : Int).toNat (bagD (x :: r)).length = 1 := by simp [bagD]
      rw [this, List.take_of_length_le (by simp)]
  refine ⟨bs, h2, ?_⟩
  have e := comp_ev (ft := ft) (elt := .cmp .lt (.var 3) (.var 4)) (tg := .tup (.cons (.nm 3) (.cons (.nm 4) .nil))) (it := .zip (.idx (.var 1) (.cst (.int 0))) (.sl (.idx (.var 1) (.cst (.int 0))) (.some (.cst (.int 1))) .none)) (own := [3, 4]) (g := ltQ)
    (ρ := [.dat (.int num), .dat (.tup [.tup (bagD is), a, b, c]), .no, .no, .no]) (ρ1 := [.dat (.int num), .dat (.tup [.tup (bagD is), a, b, c]), .no, .no, .no]) (ds := zipD (bagD is) ((bagD is).drop 1)) (by simp [runFn, evSs, evS, evO, evL, evA, evI, evP, startE, Arg.slot, tst, readVar, frz, ERes.bind, ERes.st, ofO, Val.d, isiD, D.tyN, isiT, opCmp, ordD, SRes.seq, fin, lentsAt, opd, isMut, Opd.get, lenD, callRes, argsOf, PArg.arg, lentIx, back, putBack, ixD, ixN, slD, zipOf, hc]) (by simp [isMut])
    (Nat.lt_of_le_of_lt (zip_len _ _) (by rw [List.length_map]; unfold line; omega)) (fun d hd => by
      obtain ⟨x, y, rfl⟩ := zip_mem is (is.drop 1) d (by rw [bagD, bagD, List.map_drop]; exact hd)
      exact ⟨[.dat (.int num), .dat (.tup [.tup (bagD is), a, b, c]), .no, .dat (.int x), .dat (.int y)], [.dat (.int num), .dat (.tup [.tup (bagD is), a, b, c]), .no, .dat (.int x), .dat (.int y)], by simp [asgTg, asgTgs, wipeE], by simp [runFn, evSs, evS, evO, evL, evA, evI, evP, startE, Arg.slot, tst, readVar, frz, ERes.bind, ERes.st, ofO, Val.d, isiD, D.tyN, isiT, opCmp, ordD, SRes.seq, fin, lentsAt, opd, isMut, Opd.get, lenD, callRes, argsOf, PArg.arg, lentIx, back, putBack, ltQ], rfl⟩)
  rw [h1] at e
  exact e
end K15
namespace K15
open PySem AP
def rfT : ISs := .cons (.ret (.cst (.bl false))) .nil
theorem all_ev {ft : FT} {e : IE} {ρ : AP.Env} {bs : List Bool} (h : evO ft e ρ = .ok (.own (.lst (bs.map D.bl))) ρ) : evS ft FU (.ifs (.not (.bi .all (.cons e .nil))) rfT .nil) ρ = if bs.all id = true then .next ρ else .ret (.dat (.bl false)) ρ := by
  have e1 : evO ft (.bi .all (.cons e .nil)) ρ = .ok (.dat (.bl (bs.all id))) ρ := by
    rw [evO, evL, h]
    simp only [frz, ERes.bind, Val.d, evL, biD, all_bls, ofO]
  rw [evS, evO, e1]
  cases hb : bs.all id <;> simp [tst, Val.d, ERes.bind, ERes.st, evSs, rfT, evS, evO, SRes.seq]
def s4T : IS := .ret (.and (.call 0 (.e (.idx (.var 1) (.cst (.int 1))) (.e (.cst (.int 0)) (.e (.cst (.int 9)) .nil)))) (.and (.call 0 (.e (.idx (.var 1) (.cst (.int 2))) (.e (.cst (.int 0)) (.e (.cst (.int 9)) .nil)))) (.call 0 (.e (.idx (.var 1) (.cst (.int 3))) (.e (.cst (.int 0)) (.e (.cst (.int 60)) .nil))))))
theorem s4T_ev (n : Nat) (num : Int) (w a b c : D) (ha : Dat a) (hb : Dat b) (hc : Dat c) : evS (FN (n + 1)) FU s4T [.dat (.int num), .dat (.tup [w, a, b, c]), .no, .no, .no] = .ret (.dat (.bl (wholeB a 0 9 && (wholeB b 0 9 && wholeB c 0 60)))) [.dat (.int num), .dat (.tup [w, a, b, c]), .no, .no, .no] := by
  have k1 := is_whole_spec n a 0 9 ha.known
  have k2 := is_whole_spec n b 0 9 hb.known
  have k3 := is_whole_spec n c 0 60 hc.known
  cases h1 : wholeB a 0 9 <;> cases h2 : wholeB b 0 9 <;> simp [runFn, evSs, evS, evO, evL, evA, evI, evP, startE, Arg.slot, tst, readVar, frz, ERes.bind, ERes.st, ofO, Val.d, isiD, D.tyN, isiT, opCmp, ordD, SRes.seq, fin, lentsAt, opd, isMut, Opd.get, lenD, callRes, argsOf, PArg.arg, lentIx, back, putBack, s4T, dom_is_whole, k1, k2, k3, h1, h2, ixD, ixN]
theorem seq_ret {ft : FT} {s : IS} {r : ISs} {ρ ρ' : AP.Env} {v : Val} (h : evS ft FU s ρ = .ret v ρ') : evSs ft FU (.cons s r) ρ = .ret v ρ' := by rw [evSs, h]; rfl
theorem seq_next {ft : FT} {s : IS} {r : ISs} {ρ ρ' : AP.Env} (h : evS ft FU s ρ = .next ρ') : evSs ft FU (.cons s r) ρ = evSs ft FU r ρ' := by rw [evSs, h]; rfl
theorem is_task_spec (n : Nat) (num : Int) (v : D) (hv : Dat v) : (FN (n + 2)).fn 3 [.dat (.int num), .dat v] = .ret (.dat (.bl (taskB num v))) [] := by
  rw [fn_at (d := d_is_task) rfl, run_body rfl (by decide)]
  show fin _ (evSs (FN (n + 1)) FU (.cons s1T (.cons (.ifs (.not (.bi .all (.cons c1T .nil))) rfT .nil) (.cons (.ifs (.not (.bi .all (.cons c2T .nil))) rfT .nil) (.cons s4T .nil)))) [.dat (.int num), .dat v, .no, .no, .no]) = _
  by_cases hs : ∃ ws a b c, v = .tup [.tup ws, a, b, c] ∧ ws.length ≤ 5
  · obtain ⟨ws, a, b, c, rfl, hl⟩ := hs
    have hd : ∀ d ∈ [D.tup ws, a, b, c], Dat d := by cases hv with | tup g => exact g
    have hw : ∀ d ∈ ws, Dat d := by cases hd (.tup ws) (by simp) with | tup g => exact g
    rw [seq_next (s1T_ok n num ws a b c hl)]
    have e1 := c1T_ev n num ws a b c hw hl
    have e1' : (ws.map fun d => D.bl (wholeB d 0 (num - 1))) = (ws.map fun d => wholeB d 0 (num - 1)).map D.bl := by rw [List.map_map]; rfl
    rw [e1'] at e1
    have a1 := all_ev e1
    cases h1 : (ws.map fun d => wholeB d 0 (num - 1)).all id with
    | false =>
      rw [h1, if_neg (by decide)] at a1
      rw [seq_ret a1]
      simp [fin, lentsAt, taskB, h1]
    | true =>
      rw [h1, if_pos rfl] at a1
      rw [seq_next a1]
      obtain ⟨is, rfl⟩ := whole_all ws h1
      obtain ⟨bs, hb1, e2⟩ := c2T_ev (FN (n + 1)) num is a b c (by simpa using hl)
      have a2 := all_ev e2
      rw [hb1] at a2
      have hin : incD (bagD is) = incB is := by unfold incD; rw [intsB_bag]
      cases h2 : incB is with
      | false =>
        rw [h2, if_neg (by decide)] at a2
        rw [seq_ret a2]
        simp only [fin, lentsAt, taskB, h1, hin, h2, Bool.false_and, Bool.and_false]
      | true =>
        rw [h2, if_pos rfl] at a2
        rw [seq_next a2, seq_ret (s4T_ev n num (.tup (bagD is)) a b c (hd a (by simp)) (hd b (by simp)) (hd c (by simp)))]
        simp only [fin, lentsAt, taskB, h1, hin, h2, Bool.true_and, decide_eq_true hl]
  · rw [seq_ret (s1T_bad n num v hv fun ws a b c e hl => hs ⟨ws, a, b, c, e, hl⟩)]
    have e : taskB num v = false := by
      unfold taskB
      split
      · rename_i ws a b c
        have : ¬ ws.length ≤ 5 := fun hl => hs ⟨ws, a, b, c, rfl, hl⟩
        simp [this]
      · rfl
    simp [fin, lentsAt, e]
end K15
namespace K15
open PySem AP
def tasksB : Nat → List D → List Bool
  | _, [] => []
  | n, d :: r => taskB n d :: tasksB (n + 1) r
def planB (v : D) : Bool := match v with
  | .tup [.tup ts, a, b] => decide (1 ≤ ts.length) && (decide (ts.length ≤ 6) && (boundsB a && (boundsB b && (tasksB 0 ts).all id)))
  | _ => false
def tkQ (d : D) : D := match d with | .tup [.int i, t] => .bl (taskB i t) | _ => .non
theorem enum_tasks : ∀ (ts : List D) (k : Nat), (enumD k ts).map tkQ = (tasksB k ts).map D.bl
  | [], _ => rfl
  | t :: r, k => by
    rw [enumD, List.map_cons, enum_tasks r (k + 1)]; rfl
theorem enum_mem : ∀ (ts : List D) (k : Nat) (d : D), d ∈ enumD k ts → ∃ (i : Nat) (t : D), d = .tup [.int i, t] ∧ t ∈ ts
  | [], _, d, h => by simp [enumD] at h
  | t :: r, k, d, h => by
    rw [enumD, List.mem_cons] at h
    rcases h with h | h
    · exact ⟨k, t, h, by simp⟩
    · obtain ⟨i, t', e, m⟩ := enum_mem r (k + 1) d h
      exact ⟨i, t', e, List.mem_cons_of_mem _ m⟩
theorem enum_len : ∀ (ts : List D) (k : Nat), (enumD k ts).length = ts.length
  | [], _ => rfl
  | t :: r, k => by rw [enumD, List.length_cons, enum_len r, List.length_cons]
def cP : IE := .comp (.call 3 (.e (.var 1) (.e (.var 2) .nil))) (.tup (.cons (.nm 1) (.cons (.nm 2) .nil))) (.enum (.idx (.var 0) (.cst (.int 0)))) (.cst (.bl true)) [1, 2]
theorem dom_is_bounds (n : Nat) : (FN n).dom 2 = true := dom_at (d := d_is_bounds) rfl n
theorem dom_is_task (n : Nat) : (FN n).dom 3 = true := dom_at (d := d_is_task) rfl n
theorem cP_ev (n : Nat) (ts : List D) (a b : D) (hw : ∀ d ∈ ts, Dat d) (hl : ts.length ≤ 6) : evO (FN (n + 2)) cP [.dat (.tup [.tup ts, a, b]), .no, .no] = .ok (.own (.lst ((tasksB 0 ts).map D.bl))) [.dat (.tup [.tup ts, a, b]), .no, .no] := by
  have e := comp_ev (ft := FN (n + 2)) (elt := .call 3 (.e (.var 1) (.e (.var 2) .nil))) (tg := .tup (.cons (.nm 1) (.cons (.nm 2) .nil))) (it := .enum (.idx (.var 0) (.cst (.int 0)))) (own := [1, 2]) (g := tkQ)
    (ρ := [.dat (.tup [.tup ts, a, b]), .no, .no]) (ρ1 := [.dat (.tup [.tup ts, a, b]), .no, .no]) (ds := enumD 0 ts) (by simp [runFn, evSs, evS, evO, evL, evA, evI, evP, startE, Arg.slot, tst, readVar, frz, ERes.bind, ERes.st, ofO, Val.d, isiD, D.tyN, isiT, opCmp, ordD, SRes.seq, fin, lentsAt, opd, isMut, Opd.get, lenD, callRes, argsOf, PArg.arg, lentIx, back, putBack, ixD, ixN, lstOf]) (by simp [isMut])
    (by rw [enum_len]; unfold line; omega) (fun d hd => by
      obtain ⟨i, t, rfl, m⟩ := enum_mem ts 0 d hd
      have k := is_task_spec n i t (hw t m)
      exact ⟨[.dat (.tup [.tup ts, a, b]), .dat (.int i), .dat t], [.dat (.tup [.tup ts, a, b]), .dat (.int i), .dat t], by simp [asgTg, asgTgs, wipeE], by simp [runFn, evSs, evS, evO, evL, evA, evI, evP, startE, Arg.slot, tst, readVar, frz, ERes.bind, ERes.st, ofO, Val.d, isiD, D.tyN, isiT, opCmp, ordD, SRes.seq, fin, lentsAt, opd, isMut, Opd.get, lenD, callRes, argsOf, PArg.arg, lentIx, back, putBack, dom_is_task, k, tkQ], rfl⟩)
  rw [enum_tasks] at e
  exact e
end K15
namespace K15
open PySem AP
def s1P : IS := .ifs (.or (.not (.call 1 (.e (.var 0) (.e (.cst (.int 3)) (.e (.cst (.int 3)) .nil))))) (.or (.not (.call 1 (.e (.idx (.var 0) (.cst (.int 0))) (.e (.cst (.int 1)) (.e (.cst (.int 6)) .nil))))) (.or (.not (.call 2 (.e (.idx (.var 0) (.cst (.int 1))) .nil))) (.not (.call 2 (.e (.idx (.var 0) (.cst (.int 2))) .nil)))))) (.cons (.ret (.cst (.bl false))) .nil) .nil
theorem dat_tup {ds : List D} (h : Dat (.tup ds)) : ∀ d ∈ ds, Dat d := by cases h with | tup g => exact g
theorem bounds_dat (n : Nat) (v : D) (hv : Dat v) : (FN (n + 2)).fn 2 [.dat v] = .ret (.dat (.bl (boundsB v))) [] := is_bounds_spec n v hv.known fun ds e d hd => by
  subst e; exact (dat_tup hv d hd).known
def headB (v : D) : Bool := match v with
  | .tup [.tup ts, a, b] => decide (1 ≤ ts.length) && (decide (ts.length ≤ 6) && (boundsB a && boundsB b))
  | _ => false
theorem s1P_ev (n : Nat) (v : D) (hv : Dat v) : evS (FN (n + 2)) FU s1P [.dat v, .no, .no] = if headB v = true then .next [.dat v, .no, .no] else .ret (.dat (.bl false)) [.dat v, .no, .no] := by
  have h2 := is_row_spec (n + 1) v 3 3 hv.known
  by_cases hr : rowB v 3 3 = true
  · cases v with
    | tup ds =>
      match ds, hr, hv with
      | [w, a, b], hr, hv =>
        have hd := dat_tup hv
        have h3 := is_row_spec (n + 1) w 1 6 (hd w (by simp)).known
        have k1 := bounds_dat n a (hd a (by simp))
        have k2 := bounds_dat n b (hd b (by simp))
        cases hw : rowB w 1 6 with
        | false =>
          have e : headB (.tup [w, a, b]) = false := by
            cases w with
            | tup ts => simp [rowB] at hw; simp [headB]; omega
            | _ => rfl
          simp [runFn, evSs, evS, evO, evL, evA, evI, evP, startE, Arg.slot, tst, readVar, frz, ERes.bind, ERes.st, ofO, Val.d, isiD, D.tyN, isiT, opCmp, ordD, SRes.seq, fin, lentsAt, opd, isMut, Opd.get, lenD, callRes, argsOf, PArg.arg, lentIx, back, putBack, s1P, dom_is_row, h2, hr, h3, hw, ixD, ixN, e]
        | true =>
          have e : headB (.tup [w, a, b]) = (boundsB a && boundsB b) := by
            cases w with
            | tup ts =>
              simp [rowB] at hw
              have g1 : 1 ≤ ts.length := by omega
              have g2 : ts.length ≤ 6 := by omega
              simp only [headB, decide_eq_true g1, decide_eq_true g2, Bool.true_and]
            | _ => cases hw
          cases h4 : boundsB a <;> cases h5 : boundsB b <;> simp [runFn, evSs, evS, evO, evL, evA, evI, evP, startE, Arg.slot, tst, readVar, frz, ERes.bind, ERes.st, ofO, Val.d, isiD, D.tyN, isiT, opCmp, ordD, SRes.seq, fin, lentsAt, opd, isMut, Opd.get, lenD, callRes, argsOf, PArg.arg, lentIx, back, putBack, s1P, dom_is_row, dom_is_bounds, h2, hr, h3, hw, ixD, ixN, e, k1, k2, h4, h5]
      | [], hr, _ => simp [rowB] at hr
      | [a], hr, _ => simp [rowB] at hr
      | [a, b], hr, _ => simp [rowB] at hr
      | a :: b :: c :: d :: r, hr, _ => simp [rowB] at hr; omega
    | _ => cases hr
  · have e : headB v = false := by
      unfold headB
      split
      · exact absurd rfl hr
      · rfl
    simp [runFn, evSs, evS, evO, evL, evA, evI, evP, startE, Arg.slot, tst, readVar, frz, ERes.bind, ERes.st, ofO, Val.d, isiD, D.tyN, isiT, opCmp, ordD, SRes.seq, fin, lentsAt, opd, isMut, Opd.get, lenD, callRes, argsOf, PArg.arg, lentIx, back, putBack, s1P, dom_is_row, h2, hr, e]
end K15
namespace K15
open PySem AP
theorem is_plan_spec (n : Nat) (v : D) (hv : Dat v) : (FN (n + 3)).fn 4 [.dat v] = .ret (.dat (.bl (planB v))) [] := by
  rw [fn_at (d := d_is_plan) rfl, run_body rfl (by decide)]
  show fin _ (evSs (FN (n + 2)) FU (.cons s1P (.cons (.ret (.bi .all (.cons cP .nil))) .nil)) [.dat v, .no, .no]) = _
  have h1 := s1P_ev n v hv
  cases hb : headB v with
  | false =>
    rw [hb, if_neg (by decide)] at h1
    rw [seq_ret h1]
    have e : planB v = false := by
      unfold headB at hb
      unfold planB
      split
      · rename_i ts a b
        simp only at hb
        cases q1 : decide (1 ≤ ts.length) <;> cases q2 : decide (ts.length ≤ 6) <;> cases q3 : boundsB a <;> cases q4 : boundsB b <;> simp_all
      · rfl
    simp [fin, lentsAt, e]
  | true =>
    rw [hb, if_pos rfl] at h1
    rw [seq_next h1]
    unfold headB at hb
    split at hb
    · rename_i ts a b
      simp only [Bool.and_eq_true, decide_eq_true_eq] at hb
      obtain ⟨q1, q2, q3, q4⟩ := hb
      have hd := dat_tup hv
      have e := cP_ev n ts a b (dat_tup (hd (.tup ts) (by simp))) q2
      have e1 : evO (FN (n + 2)) (.bi .all (.cons cP .nil)) [.dat (.tup [.tup ts, a, b]), .no, .no] = .ok (.dat (.bl ((tasksB 0 ts).all id))) [.dat (.tup [.tup ts, a, b]), .no, .no] := by
        rw [evO, evL, e]
        simp only [frz, ERes.bind, Val.d, evL, biD, all_bls, ofO]
      rw [seq_ret (v := .dat (.bl ((tasksB 0 ts).all id))) (ρ' := [.dat (.tup [.tup ts, a, b]), .no, .no]) (by
        rw [evS]
        · simp only [e1, ERes.st]
        · intro i h; cases h)]
      simp only [fin, lentsAt, planB, decide_eq_true q1, decide_eq_true q2, q3, q4, Bool.true_and]
    · cases hb
end K15
namespace K15
open PySem AP
theorem and_ev {ft : FT} {a b : IE} {ρ : AP.Env} {k v : Bool} (ha : evO ft a ρ = .ok (.dat (.bl k)) ρ) (hb : k = true → evO ft b ρ = .ok (.dat (.bl v)) ρ) : evO ft (.and a b) ρ = .ok (.dat (.bl (k && v))) ρ := by
  rw [evO, ha]
  cases k with
  | false => rfl
  | true =>
    simp only [tst, Val.d, ERes.bind, if_true, hb rfl, Bool.true_and]
theorem ret_ev {ft : FT} {e : IE} {ρ ρ' : AP.Env} {v : Val} (h : evO ft e ρ = .ok v ρ') (hn : ∀ i, e ≠ .var i) : evS ft FU (.ret e) ρ = .ret v ρ' := by
  rw [evS]
  · simp only [h, ERes.st]
  · intro i hi; exact hn i hi
end K15
namespace K15
open PySem AP
/-! typed plans -/
structure Tk where
  ws : List Int
  a : Int
  b : Int
  c : Int
  deriving DecidableEq
structure Pl where
  ts : List Tk
  l1 : Int
  h1 : Int
  l2 : Int
  h2 : Int
  deriving DecidableEq
def tkD (t : Tk) : D := .tup [.tup (bagD t.ws), .int t.a, .int t.b, .int t.c]
def plD (p : Pl) : D := .tup [.tup (p.ts.map tkD), .tup [.int p.l1, .int p.h1], .tup [.int p.l2, .int p.h2]]
def allI (q : Int → Bool) (is : List Int) : Bool := is.all q
/-- a typed task with a number is one -/
def tkOk (num : Int) (t : Tk) : Bool := decide (t.ws.length ≤ 5) && (t.ws.all (fun i => decide (0 ≤ i) && decide (i ≤ num - 1)) && (incB t.ws && ((decide (0 ≤ t.a) && decide (t.a ≤ 9)) && ((decide (0 ≤ t.b) && decide (t.b ≤ 9)) && (decide (0 ≤ t.c) && decide (t.c ≤ 60))))))
def tksOk : Nat → List Tk → Bool
  | _, [] => true
  | n, t :: r => tkOk n t && tksOk (n + 1) r
structure PlOk (p : Pl) : Prop where
  len1 : 1 ≤ p.ts.length
  len6 : p.ts.length ≤ 6
  b1 : 0 ≤ p.l1 ∧ p.l1 ≤ p.h1 ∧ p.h1 ≤ 20
  b2 : 0 ≤ p.l2 ∧ p.l2 ≤ p.h2 ∧ p.h2 ≤ 20
  tk : tksOk 0 p.ts = true
theorem incD_bag (is : List Int) : incD (bagD is) = incB is := by unfold incD; rw [intsB_bag]
theorem taskB_tkD (num : Int) (t : Tk) : taskB num (tkD t) = tkOk num t := by
  unfold taskB tkD tkOk
  simp only [incD_bag, wholeB, bagD, List.length_map, List.map_map, List.all_map]
  rfl
theorem tasksB_tkD : ∀ (ts : List Tk) (n : Nat), (tasksB n (ts.map tkD)).all id = tksOk n ts
  | [], _ => rfl
  | t :: r, n => by
    rw [List.map_cons, tasksB, List.all_cons, tasksB_tkD r (n + 1), id, taskB_tkD]; rfl
theorem planB_plD {p : Pl} (h : PlOk p) : planB (plD p) = true := by
  unfold planB plD
  simp only [tasksB_tkD, List.length_map, h.tk, boundsB, decide_eq_true h.len1, decide_eq_true h.len6, decide_eq_true h.b1.1, decide_eq_true h.b1.2.1, decide_eq_true h.b1.2.2, decide_eq_true h.b2.1, decide_eq_true h.b2.2.1, decide_eq_true h.b2.2.2, Bool.and_self]
theorem dat_ints (is : List Int) : ∀ d ∈ bagD is, Dat d := fun d h => by
  obtain ⟨i, _, rfl⟩ := List.mem_map.mp h
  exact .int i
theorem dat_tk (t : Tk) : Dat (tkD t) := .tup fun d h => by
  simp only [List.mem_cons, List.not_mem_nil, or_false] at h
  rcases h with rfl | rfl | rfl | rfl
  · exact .tup (dat_ints _)
  all_goals exact .int _
theorem dat_pair (a b : Int) : Dat (.tup [.int a, .int b]) := .tup fun d h => by
  simp only [List.mem_cons, List.not_mem_nil, or_false] at h
  rcases h with rfl | rfl <;> exact .int _
theorem dat_pl (p : Pl) : Dat (plD p) := .tup fun d h => by
  simp only [List.mem_cons, List.not_mem_nil, or_false] at h
  rcases h with rfl | rfl | rfl
  · exact .tup fun d h => by
      obtain ⟨t, _, rfl⟩ := List.mem_map.mp h
      exact dat_tk t
  · exact dat_pair _ _
  · exact dat_pair _ _
theorem small_of {i : Int} (h : 0 ≤ i ∧ i ≤ 1000000) : small64 i = true := by
  unfold small64
  simp only [Bool.and_eq_true, decide_eq_true_eq]
  omega
/-! ### == and in over integers -/
theorem eqD_ints (xs ys : List Int) : D.eqvL (bagD xs) (bagD ys) = decide (xs = ys) := by
  induction xs generalizing ys with
  | nil => cases ys <;> simp [bagD, D.eqvL]
  | cons x r ih =>
    cases ys with
    | nil => simp [bagD, D.eqvL]
    | cons y s =>
      simp only [bagD, List.map_cons, D.eqvL] at ih ⊢
      rw [ih]
      simp only [D.eqv]
      rw [Bool.eq_iff_iff]; simp
theorem depL_ints : ∀ is : List Int, D.depL (bagD is) = 0
  | [] => rfl
  | i :: r => by
    show max (D.dep (.int i)) (D.depL (bagD r)) = 0
    rw [depL_ints r]; rfl
theorem tupI_eq (xs ys : List Int) : eqD (.tup (bagD xs)) (.tup (bagD ys)) = some (decide (xs = ys)) := by
  unfold eqD
  have h : eqOk (.tup (bagD xs)) (.tup (bagD ys)) = true := by
    unfold eqOk
    have h1 : (D.tup (bagD xs)).plain = true := plain_ints xs
    have h2 : (D.tup (bagD ys)).plain = true := plain_ints ys
    have h3 : (D.tup (bagD xs)).dep = 1 := by show D.depL _ + 1 = 1; rw [depL_ints]
    have h4 : (D.tup (bagD ys)).dep = 1 := by show D.depL _ + 1 = 1; rw [depL_ints]
    rw [h1, h2, h3, h4]; rfl
  rw [if_pos h]
  show some (D.eqvL _ _) = _
  rw [eqD_ints]
theorem tup_nil (ws : List Int) : eqD (.tup (bagD ws)) (.tup []) = some (decide (ws = [])) := tupI_eq ws []
theorem eqv_int (a b : Int) : D.eqv (.int a) (.int b) = decide (a = b) := by
  rw [D.eqv]
  rw [Bool.eq_iff_iff, beq_iff_eq, decide_eq_true_eq]
theorem isin_ints (i : Int) : ∀ is : List Int, isinD (.int i) (bagD is) = decide (i ∈ is)
  | [] => rfl
  | j :: r => by
    have ih := isin_ints i r
    unfold isinD at ih ⊢
    rw [bagD, List.map_cons, List.any_cons, ih, eqv_int]
    by_cases h : j = i
    · subst h; simp
    · have h2 : ¬ i = j := fun e => h e.symm
      simp [h, h2]
theorem inD_tup (i : Int) (is : List Int) : inD (.int i) (.tup (bagD is)) = some (decide (i ∈ is)) := by
  show (if inOk (.int i) (bagD is) = true then some (isinD (.int i) (bagD is)) else none) = _
  rw [if_pos (by unfold inOk; rw [plain_ints]; rfl), isin_ints]
theorem inD_lst (i : Int) (is : List Int) : inD (.int i) (.lst (bagD is)) = some (decide (i ∈ is)) := by
  show (if inOk (.int i) (bagD is) = true then some (isinD (.int i) (bagD is)) else none) = _
  rw [if_pos (by unfold inOk; rw [plain_ints]; rfl), isin_ints]
/-! ### words -/
def memW (d : D) (ws : List Int) : Bool := match d with
  | .int i => if ws = [] then decide (i = -1) else decide (i ∈ ws)
  | _ => false
def partB (m : Int) (d : D) (t : Tk) : Bool := wholeB d (-1) m && memW d t.ws
def zipB (m : Int) : List D → List Tk → Bool
  | d :: r, t :: s => partB m d t && zipB m r s
  | _, _ => true
def wordB (ts : List Tk) (v : D) : Bool := match v with
  | .tup ds => decide (ds.length = ts.length + 1) && (wholeB (ds.getLast?.getD .non) 0 (ts.length - 1) && zipB ts.length ds ts)
  | _ => false
/-- a loop that ends with False at the first that is not right -/
theorem for_chk {f : D → AP.Env → SRes} {ok : D → Bool} {I : AP.Env → Prop} : ∀ {ds : List D}, (∀ d ∈ ds, ∀ ρ, I ρ → if ok d = true then ∃ ρ', f d ρ = .next ρ' ∧ I ρ' else ∃ ρ', f d ρ = .ret (.dat (.bl false)) ρ') →
    ∀ ρ, I ρ → if ds.all ok = true then ∃ ρ', forF f ds ρ = .next ρ' ∧ I ρ' else ∃ ρ', forF f ds ρ = .ret (.dat (.bl false)) ρ'
  | [], _, ρ, i => by
    rw [if_pos (show ([] : List D).all ok = true from rfl)]; exact ⟨ρ, rfl, i⟩
  | d :: r, h, ρ, i => by
    have h1 := h d List.mem_cons_self ρ i
    rw [List.all_cons]
    cases hd : ok d with
    | true =>
      rw [hd, if_pos rfl] at h1
      obtain ⟨ρ', e, i'⟩ := h1
      rw [Bool.true_and]
      have h2 := for_chk (fun x hx => h x (List.mem_cons_of_mem _ hx)) ρ' i'
      rw [forF, e]
      exact h2
    | false =>
      rw [hd, if_neg (by decide)] at h1
      obtain ⟨ρ', e⟩ := h1
      rw [Bool.false_and, if_neg (by decide)]
      exact ⟨ρ', by rw [forF, e]⟩
def bodyFW : ISs := .cons (.ifs (.or (.not (.call 0 (.e (.var 3) (.e (.neg (.cst (.int 1))) (.e (.var 2) .nil))))) (.cmp .notin (.var 3) (.ite (.cmp .ne (.idx (.var 4) (.cst (.int 0))) (.tup .nil)) (.idx (.var 4) (.cst (.int 0))) (.tup (.cons (.neg (.cst (.int 1))) .nil))))) (.cons (.ret (.cst (.bl false))) .nil) .nil) .nil
theorem bodyFW_ev (n : Nat) (x y : Slot) (m : Int) (d : D) (hd : Dat d) (t : Tk) : evSs (FN (n + 1)) FU bodyFW [x, y, .dat (.int m), .dat d, .dat (tkD t)] =
    if partB m d t = true then .next [x, y, .dat (.int m), .dat d, .dat (tkD t)] else .ret (.dat (.bl false)) [x, y, .dat (.int m), .dat d, .dat (tkD t)] := by
  have k := is_whole_spec n d (-1) m hd.known
  cases hw : wholeB d (-1) m with
  | false => simp [runFn, evSs, evS, evO, evL, evA, evI, evP, startE, Arg.slot, tst, readVar, frz, ERes.bind, ERes.st, ofO, Val.d, isiD, D.tyN, isiT, opCmp, ordD, SRes.seq, fin, lentsAt, opd, isMut, Opd.get, lenD, callRes, argsOf, PArg.arg, lentIx, back, putBack, bodyFW, dom_is_whole, k, hw, partB]
  | true =>
    obtain ⟨i, rfl, i1, i2⟩ := wholeB_known hw
    have e0 := tup_nil t.ws
    have e1 := inD_tup i t.ws
    have e2 : inD (.int i) (.tup [.int (-1)]) = some (decide (i = -1)) := by
      have := inD_tup i [-1]; simpa using this
    obtain ⟨ws, a, b, c⟩ := t
    cases ws with
    | nil =>
      have e0' : eqD (.tup []) (.tup []) = some true := e0
      by_cases hi : i = -1
      · subst hi
        simp [runFn, evSs, evS, evO, evL, evA, evI, evP, startE, Arg.slot, tst, readVar, frz, ERes.bind, ERes.st, ofO, Val.d, isiD, D.tyN, isiT, opCmp, ordD, SRes.seq, fin, lentsAt, opd, isMut, Opd.get, lenD, callRes, argsOf, PArg.arg, lentIx, back, putBack, bodyFW, dom_is_whole, k, hw, partB, tkD, ixD, ixN, e0', e2, memW, line]
      · simp [runFn, evSs, evS, evO, evL, evA, evI, evP, startE, Arg.slot, tst, readVar, frz, ERes.bind, ERes.st, ofO, Val.d, isiD, D.tyN, isiT, opCmp, ordD, SRes.seq, fin, lentsAt, opd, isMut, Opd.get, lenD, callRes, argsOf, PArg.arg, lentIx, back, putBack, bodyFW, dom_is_whole, k, hw, partB, tkD, ixD, ixN, e0', e2, memW, hi, line]
    | cons w r =>
      have e0' : eqD (.tup (.int w :: bagD r)) (.tup []) = some false := e0
      have e1' : inD (.int i) (.tup (.int w :: bagD r)) = some (decide (i ∈ w :: r)) := e1
      by_cases hi : i ∈ w :: r
      · have hi' := hi
        rw [decide_eq_true hi] at e1'
        simp at hi'
        simp [runFn, evSs, evS, evO, evL, evA, evI, evP, startE, Arg.slot, tst, readVar, frz, ERes.bind, ERes.st, ofO, Val.d, isiD, D.tyN, isiT, opCmp, ordD, SRes.seq, fin, lentsAt, opd, isMut, Opd.get, lenD, callRes, argsOf, PArg.arg, lentIx, back, putBack, bodyFW, dom_is_whole, k, hw, partB, tkD, ixD, ixN, e0', e1', memW, hi']
      · have hi' := hi
        rw [decide_eq_false hi] at e1'
        simp at hi'
        simp [runFn, evSs, evS, evO, evL, evA, evI, evP, startE, Arg.slot, tst, readVar, frz, ERes.bind, ERes.st, ofO, Val.d, isiD, D.tyN, isiT, opCmp, ordD, SRes.seq, fin, lentsAt, opd, isMut, Opd.get, lenD, callRes, argsOf, PArg.arg, lentIx, back, putBack, bodyFW, dom_is_whole, k, hw, partB, tkD, ixD, ixN, e0', e1', memW, hi']
theorem zip_all (m : Int) (ok : D → Bool) (h : ∀ d t, ok (.tup [d, tkD t]) = partB m d t) : ∀ (ds : List D) (ts : List Tk), (zipD ds (ts.map tkD)).all ok = zipB m ds ts
  | [], _ => by simp [zipD, zipB]
  | d :: r, [] => by simp [zipD, zipB]
  | d :: r, t :: s => by
    rw [List.map_cons, zipD, List.all_cons, h, zip_all m ok h r s]; rfl
theorem zip_memT : ∀ (ds : List D) (ts : List Tk) (q : D), q ∈ zipD ds (ts.map tkD) → ∃ d t, q = .tup [d, tkD t] ∧ d ∈ ds ∧ t ∈ ts
  | [], _, q, h => by simp [zipD] at h
  | d :: r, [], q, h => by simp [zipD] at h
  | d :: r, t :: s, q, h => by
    rw [List.map_cons, zipD, List.mem_cons] at h
    rcases h with h | h
    · exact ⟨d, t, h, by simp, by simp⟩
    · obtain ⟨d', t', e, m1, m2⟩ := zip_memT r s q h
      exact ⟨d', t', e, List.mem_cons_of_mem _ m1, List.mem_cons_of_mem _ m2⟩
/-- the typed task of a value -/
def tkOf (d : D) : Option Tk := match d with
  | .tup [.tup ws, .int a, .int b, .int c] => (intsB ws).map fun w => ⟨w, a, b, c⟩
  | _ => none
theorem tkOf_tkD (t : Tk) : tkOf (tkD t) = some t := by
  show (intsB (bagD t.ws)).map _ = _
  rw [intsB_bag]; rfl
def okW (m : Int) (q : D) : Bool := match q with
  | .tup [d, t] => (match tkOf t with | some t => partB m d t | none => false)
  | _ => false
theorem okW_eq (m : Int) (d : D) (t : Tk) : okW m (.tup [d, tkD t]) = partB m d t := by
  unfold okW; simp only [tkOf_tkD]
end K15
end
section
namespace K15
open PySem AP
theorem dom_is_plan (n : Nat) : (FN n).dom 4 = true := dom_at (d := d_is_plan) rfl n
theorem dom_need_plan (n : Nat) : (FN n).dom 5 = true := dom_at (d := d_need_plan) rfl n
theorem last_idx (ds : List D) (hn : ds ≠ []) : ixD (.tup ds) (.int (-1)) = some (ds.getLast?.getD .non) := by
  have hp : 0 < ds.length := List.length_pos_iff.mpr hn
  have e : ixN ds.length (-1) = some (ds.length - 1) := by
    unfold ixN
    rw [if_neg (by omega), if_pos (by omega)]
    congr 1; omega
  show (ixN ds.length (-1)).bind _ = _
  rw [e]
  show ds[ds.length - 1]? = _
  rw [List.getLast?_eq_getElem?, List.getElem?_eq_getElem (by omega)]; rfl
theorem getLast_mem {ds : List D} (hn : ds ≠ []) : ds.getLast?.getD .non ∈ ds := by
  rw [List.getLast?_eq_some_getLast hn]
  exact List.getLast_mem hn
theorem need_plan_spec (n : Nat) (v : D) (hv : Dat v) : (FN (n + 4)).fn 5 [.dat v] = if planB v = true then .ret (.dat .non) [] else .exc 26 [] := by
  rw [fn_at (d := d_need_plan) rfl]
  have k := is_plan_spec n v hv
  cases hp : planB v <;> simp [runFn, evSs, evS, evO, evL, evA, evI, evP, startE, Arg.slot, tst, readVar, frz, ERes.bind, ERes.st, ofO, Val.d, isiD, D.tyN, isiT, opCmp, ordD, SRes.seq, fin, lentsAt, opd, isMut, Opd.get, lenD, callRes, argsOf, PArg.arg, lentIx, back, putBack, d_need_plan, b_need_plan, dom_is_plan, k, hp]
end K15
end
section
namespace K15
open PySem AP
theorem natAbs_lt {i : Int} {n : Nat} (h : -(n : Int) < i) (h2 : i < n) : i.natAbs < n := by omega
theorem log_small {n : Nat} (h : n < FU) : n.log2 < 9000 := by
  by_cases h0 : n = 0
  · subst h0; decide
  · have h1 : n < 2 ^ 24 := Nat.lt_of_lt_of_le h (by unfold FU; decide)
    exact Nat.lt_trans ((Nat.log2_lt h0).mpr h1) (by decide)
theorem opFdiv_nat (a : Int) (g : Nat) (h0 : 0 < g) (h : g < FU) : opFdiv (.int a) (.int g) = some (.dat (.int (a / g))) := by
  show (if (decide ((0 : Int) < (g : Int)) && decide ((g : Int).natAbs.log2 < 9000)) = true then _ else _) = _
  rw [if_pos]
  rw [Int.natAbs_natCast, decide_eq_true (log_small h), decide_eq_true (by omega)]; rfl
theorem opMul_r (a b : Int) (h : small64 b = true) : opMul (.int a) (.int b) = some (.dat (.int (a * b))) := by
  show (if (small64 a || small64 b) = true then _ else _) = _
  rw [h, Bool.or_true]; rfl
theorem opMul_l (a b : Int) (h : small64 a = true) : opMul (.int a) (.int b) = some (.dat (.int (a * b))) := by
  show (if (small64 a || small64 b) = true then _ else _) = _
  rw [h, Bool.true_or]; rfl
theorem small_nat {n : Nat} (h : n < FU) : small64 (n : Int) = true := by
  unfold FU at h
  unfold small64
  simp only [Bool.and_eq_true, decide_eq_true_eq]; omega
end K15
end
section
namespace K15
open PySem AP
/-! the draws -/
theorem for_inv {f : D → AP.Env → SRes} {I : Nat → AP.Env → Prop} : ∀ (ds : List D) (k : Nat), (∀ i d ρ, ds[i]? = some d → I (k + i) ρ → ∃ ρ', f d ρ = .next ρ' ∧ I (k + i + 1) ρ') → ∀ ρ, I k ρ → ∃ ρ', forF f ds ρ = .next ρ' ∧ I (k + ds.length) ρ'
  | [], k, _, ρ, i => ⟨ρ, rfl, i⟩
  | d :: r, k, h, ρ, i => by
    obtain ⟨ρ1, e1, i1⟩ := h 0 d ρ rfl i
    obtain ⟨ρ2, e2, i2⟩ := for_inv r (k + 1) (fun j x ρ hj hi => by
      have := h (j + 1) x ρ (by simpa using hj) (by rw [show k + (j + 1) = k + 1 + j by omega]; exact hi)
      rw [show k + (j + 1) + 1 = k + 1 + j + 1 by omega] at this
      exact this) ρ1 i1
    refine ⟨ρ2, by rw [forF, e1]; exact e2, ?_⟩
    rw [List.length_cons, show k + (r.length + 1) = k + 1 + r.length by omega]; exact i2
theorem asg_ev {ft : FT} {i : Nat} {e : IE} {ρ ρ' : AP.Env} {d : D} (h : evO ft e ρ = .ok (.dat d) ρ') (hi : i < ρ'.length) : evS ft FU (.asg i e) ρ = .next (ρ'.set i (.dat d)) := by
  rw [evS, h]
  simp only [frz, Val.d, ERes.st, if_pos hi]
theorem rangeD_len (lo c : Int) : ∀ n, (rangeD lo c n).length = n
  | 0 => rfl
  | n + 1 => by rw [rangeD, List.length_cons, rangeD_len]
theorem rangeD_at (c : Int) : ∀ (n : Nat) (lo : Int) (i : Nat), i < n → (rangeD lo c n)[i]? = some (.int (lo + i * c))
  | 0, _, _, h => by omega
  | n + 1, lo, 0, _ => by simp [rangeD]
  | n + 1, lo, i + 1, h => by
    rw [rangeD, List.getElem?_cons_succ, rangeD_at c n _ i (by omega)]
    congr 2
    rw [Int.natCast_add, Int.add_mul]; simp only [Int.natCast_one, Int.one_mul]; omega
theorem rangeD_get {c : Int} {n : Nat} {lo : Int} {i : Nat} {d : D} (h : (rangeD lo c n)[i]? = some d) : i < n ∧ d = .int (lo + i * c) := by
  have hi : i < n := by
    have := (List.getElem?_eq_some_iff.mp h).1
    rw [rangeD_len] at this; exact this
  rw [rangeD_at c n lo i hi] at h
  exact ⟨hi, (Option.some.inj h).symm⟩
def primes : List Int := [2147483647, 2147483629, 2147483587, 2147483579, 2147483563, 2147483549, 2147483543, 2147483497]
def PrimeAt (P : D) : Prop := ∀ i : Int, 0 ≤ i → i < 8 → ∃ p : Int, ixD P (.int i) = some (.int p) ∧ 0 < p ∧ p < 2147483648
theorem prime_at : PrimeAt (.tup (bagD primes)) := fun i h0 h8 => by
  have : i = 0 ∨ i = 1 ∨ i = 2 ∨ i = 3 ∨ i = 4 ∨ i = 5 ∨ i = 6 ∨ i = 7 := by omega
  rcases this with rfl | rfl | rfl | rfl | rfl | rfl | rfl | rfl <;> exact ⟨_, rfl, by decide, by decide⟩
theorem small_of2 {i : Int} (h : 0 ≤ i) (h2 : i < 2147483648) : small64 i = true := by
  unfold small64
  simp only [Bool.and_eq_true, decide_eq_true_eq]; omega
def bD1 : IE := (.bin .mul (.bin .mod (.var 5) (.idx (.var 4) (.bin .mod (.var 8) (.cst (.int 8))))) (.bin .add (.cst (.int 48271)) (.bin .mul (.bin .mul (.cst (.int 2)) (.var 8)) (.var 8))))
def bD2 : IE := (.bin .add (.bin .add (.var 9) (.bin .mul (.bin .mul (.cst (.int 7919)) (.bin .add (.var 8) (.cst (.int 1)))) (.bin .add (.var 8) (.cst (.int 1))))) (.bin .mul (.cst (.int 104729)) (.var 1)))
def bD3 : IE := (.bin .mod (.var 9) (.idx (.var 4) (.bin .mod (.bin .add (.bin .mul (.cst (.int 3)) (.var 8)) (.var 1)) (.cst (.int 8)))))
def bD4 : IE := (.bin .mod (.bin .mul (.bin .mul (.var 9) (.var 9)) (.var 9)) (.idx (.var 4) (.bin .mod (.bin .add (.var 8) (.cst (.int 5))) (.cst (.int 8)))))
def bD5 : IS := .ifs (.cmp .gt (.var 6) (.cst (.int 0))) (.cons (.asg 9 (.var 6)) .nil) .nil
def bD6 : IS := .app 7 (.bin .mod (.var 9) (.var 3))
def bD7 : IE := (.bin .fdiv (.var 6) (.var 3))
def bDr : ISs := .cons (.asg 9 bD1) (.cons (.asg 9 bD2) (.cons (.asg 9 bD3) (.cons (.asg 9 bD4) (.cons bD5 (.cons bD6 (.cons (.asg 6 bD7) .nil))))))
theorem emod8 (a : Int) : 0 ≤ a % 8 ∧ a % 8 < 8 := ⟨Int.emod_nonneg a (by decide), Int.emod_lt_of_pos a (by decide)⟩
theorem b_fdiv_lit {r : Int} : opBin .fdiv (.int r) (.int 27720) = some (.dat (.int (r / 27720))) := opFdiv_nat r 27720 (by decide) (by unfold FU; decide)
theorem bDr_ev (ft : FT) (x : Slot) (k : Int) (hk : 0 ≤ k ∧ k < 100) (m c r : Int) (P : D) (hP : PrimeAt P) (bs : List Int) (hl : bs.length < 1000) (j : Int) (hj : 0 ≤ j ∧ j < 1000) (z : Slot) :
    Wp ft FU bDr [x, .dat (.int k), .dat (.int m), .dat (.int 27720), .dat P, .dat (.int c), .dat (.int r), .own (.lst (bagD bs)), .dat (.int j), z] fun q => ∃ b r' y : Int, q = .next [x, .dat (.int k), .dat (.int m), .dat (.int 27720), .dat P, .dat (.int c), .dat (.int r'), .own (.lst (bagD bs ++ [.int b])), .dat (.int j), .dat (.int y)] := by
  obtain ⟨p1, e1, q1, u1⟩ := hP (j % 8) (emod8 _).1 (emod8 _).2
  obtain ⟨p2, e2, q2, u2⟩ := hP ((3 * j + k) % 8) (emod8 _).1 (emod8 _).2
  obtain ⟨p3, e3, q3, u3⟩ := hP ((j + 5) % 8) (emod8 _).1 (emod8 _).2
  have s1 : small64 (c % p1) = true := small_of2 (Int.emod_nonneg _ (by omega)) (Int.lt_trans (Int.emod_lt_of_pos _ q1) u1)
  have sj : small64 j = true := small_of (by omega)
  have sj1 : small64 (j + 1) = true := small_of (by omega)
  have sk : small64 k = true := small_of (by omega)
  have s3 : ∀ v, small64 (v % p2) = true := fun v => small_of2 (Int.emod_nonneg _ (by omega)) (Int.lt_trans (Int.emod_lt_of_pos _ q2) u2)
  have hl2 : (bagD bs).length < line := by rw [List.length_map]; unfold line; omega
  unfold bDr bD1 bD2 bD3 bD4 bD5 bD6 bD7
  repeat' (first
    | with_reducible (apply pid; assumption)
    | with_reducible (first | exact s3 _ | exact b_fdiv_lit | exact hl2)
    | with_reducible (first | apply vd_dat | apply vd_own | apply r_cst | apply za_nil | apply l_nil | apply p_none | apply g_val | apply set_0 | apply set_s | apply pb_nil | apply pb_lent | apply pb_own | apply f_val | apply r_bin | apply r_neg | apply r_not | apply r_and | apply r_or | apply r_cmp | apply r_chain | apply r_call | apply r_len | apply r_bi | apply r_isi | apply r_tup | apply r_lst | apply r_idx | apply p_some | apply r_sl | apply r_rev | apply l_cons | apply a_e | apply za_lent | apply i_seq | apply i_range1 | apply i_range2 | apply i_range3 | apply i_zip | apply i_enum | apply tg_nm | apply tg_tup | apply tgs_nil | apply tgs_cons | apply b_add | apply b_sub | apply w_asg | apply w_asgO | apply w_asgT | apply w_par | apply w_par3 | apply w_appO | apply w_setO | apply w_expr | apply w_ifs | apply w_retV | apply w_raise | apply w_retN | apply w_nil | apply w_app_cons | apply w_app_nil | apply c_lt | apply c_le | apply c_gt | apply c_ge | apply zc_eq | apply zc_ne | apply zc_in | apply c_nin | apply eqD_i | apply bi_all | apply bi_any)
    | (with_reducible apply o_val rfl) | (with_reducible apply w_ret rfl)
    | ((with_reducible apply dom_any); rfl)
    | ((with_reducible apply r_var); rfl) | ((with_reducible apply o_var); rfl) | ((with_reducible apply o_own); rfl) | ((with_reducible apply o_lent); rfl) | ((with_reducible apply g_own); rfl) | ((with_reducible apply g_lent); rfl) | ((with_reducible apply r_varO); rfl)
    | (with_reducible apply b_mod; first | with_reducible assumption | decide | omega) | (with_reducible apply b_mul_r; first | with_reducible assumption | (with_reducible decide) | with_reducible (first | exact s3 _ | exact b_fdiv_lit | exact hl2)) | (with_reducible apply b_mul_l; first | with_reducible assumption | (with_reducible decide) | with_reducible (first | exact s3 _ | exact b_fdiv_lit | exact hl2))
    | with_reducible (first | exact ty_int_int | exact ty_int_bool | exact ty_int_tuple | exact ty_int_list | exact ty_int_str | exact ty_bl_int | exact ty_bl_bool | exact ty_bl_tuple | exact ty_bl_list | exact ty_bl_str | exact ty_non_int | exact ty_non_bool | exact ty_non_tuple | exact ty_non_list | exact ty_non_str | exact ty_str_int | exact ty_str_bool | exact ty_str_tuple | exact ty_str_list | exact ty_str_str | exact ty_tup_int | exact ty_tup_bool | exact ty_tup_tuple | exact ty_tup_list | exact ty_tup_str | exact ty_lst_int | exact ty_lst_bool | exact ty_lst_tuple | exact ty_lst_list | exact ty_lst_str)
    | exact lt_len rfl | exact le_len rfl | rfl | (intro _))
  all_goals exact ⟨_, _, _, rfl⟩
end K15
end
section
namespace K15
open PySem AP
theorem dom_law_cell (n : Nat) : (FN n).dom 12 = true := dom_at (d := d_law_cell) rfl n
theorem dom_law_draws (n : Nat) : (FN n).dom 13 = true := dom_at (d := d_law_draws) rfl n
theorem dom_law_take (n : Nat) : (FN n).dom 15 = true := dom_at (d := d_law_take) rfl n
theorem dom_law_choice (n : Nat) : (FN n).dom 16 = true := dom_at (d := d_law_choice) rfl n
theorem cell_spec (n : Nat) (ns : List Int) (k : Nat) (hk : k < 100) (hl : ns.length < 1000) : ∃ c : Int, (FN (n + 1)).fn 12 [.dat (.scr ns), .dat (.int k)] = .ret (.dat (.int c)) [] := by
  rw [fn_at (d := d_law_cell) rfl]
  have sk : small64 (k : Int) = true := small_of (by omega)
  have e0 := eqD_int (ns.length : Nat) 0
  by_cases h : (k : Int) < (ns.length : Nat)
  · have h' : k < ns.length := by omega
    have e : ixD (.scr ns) (.int k) = some (.int (ns[k]'h')) := by
      show ((ixN ns.length k).bind fun j => ns[j]?).map D.int = _
      rw [show ixN ns.length (k : Int) = some k by unfold ixN; rw [if_pos (by omega), if_pos (by omega)]; rfl]
      simp [h']
    exact ⟨ns[k]'h', by simp [runFn, evSs, evS, evO, evL, evA, evI, evP, startE, Arg.slot, tst, readVar, frz, ERes.bind, ERes.st, ofO, Val.d, isiD, D.tyN, isiT, opCmp, ordD, SRes.seq, fin, lentsAt, opd, isMut, Opd.get, lenD, callRes, argsOf, PArg.arg, lentIx, back, putBack, d_law_cell, b_law_cell, h', e]⟩
  · have h' : ¬ k < ns.length := by omega
    by_cases h0 : ns = []
    · subst h0
      have e1 : eqD (.int 0) (.int 0) = some true := by have := eqD_int 0 0; simpa using this
      exact ⟨_, by simp [runFn, evSs, evS, evO, evL, evA, evI, evP, startE, Arg.slot, tst, readVar, frz, ERes.bind, ERes.st, ofO, Val.d, isiD, D.tyN, isiT, opCmp, ordD, SRes.seq, fin, lentsAt, opd, isMut, Opd.get, lenD, callRes, argsOf, PArg.arg, lentIx, back, putBack, d_law_cell, b_law_cell, e1, opBin, opAdd, opMul_r _ _ sk]; rfl⟩
    · have hp : 0 < ns.length := List.length_pos_iff.mpr h0
      have e1 : eqD (.int (ns.length : Nat)) (.int 0) = some false := by rw [eqD_int]; simp [h0]
      have hm : k % ns.length < ns.length := Nat.mod_lt _ hp
      have e : ixD (.scr ns) (.int ((k : Int) % (ns.length : Int))) = some (.int (ns[k % ns.length]'hm)) := by
        show ((ixN ns.length ((k : Int) % (ns.length : Int))).bind fun j => ns[j]?).map D.int = _
        rw [show ixN ns.length ((k : Int) % (ns.length : Int)) = some (k % ns.length) by
          rw [← Int.natCast_emod]
          unfold ixN; rw [if_pos (by omega), if_pos (by omega)]; rfl]
        simp [hm]
      exact ⟨_, by simp [runFn, evSs, evS, evO, evL, evA, evI, evP, startE, Arg.slot, tst, readVar, frz, ERes.bind, ERes.st, ofO, Val.d, isiD, D.tyN, isiT, opCmp, ordD, SRes.seq, fin, lentsAt, opd, isMut, Opd.get, lenD, callRes, argsOf, PArg.arg, lentIx, back, putBack, d_law_cell, b_law_cell, h', e1, opBin, opMod, opAdd, hp, e, opMul_r _ _ sk]; rfl⟩
theorem len_app (bs : List Int) (b : Int) : bagD bs ++ [.int b] = bagD (bs ++ [b]) := by simp [bagD]
theorem draws_spec (n : Nat) (ns : List Int) (k : Nat) (hk : k < 100) (hl : ns.length < 1000) : ∃ bs : List Int, (FN (n + 2)).fn 13 [.dat (.scr ns), .dat (.int k), .dat (.int 150), .dat (.int 27720)] = .ret (.own (.lst (bagD bs))) [] := by
  rw [fn_at (d := d_law_draws) rfl]
  obtain ⟨c, hc⟩ := cell_spec n ns k hk hl
  refine run_wp (out := fun x => ∃ bs, x = .ret (.own (.lst (bagD bs))) []) rfl (by decide) ?_
  show Wp (FN (n + 1)) FU b_law_draws [.dat (.scr ns), .dat (.int k), .dat (.int 150), .dat (.int 27720), .no, .no, .no, .no, .no, .no] _
  have hP := prime_at
  unfold b_law_draws
  refine w_asg (d := .tup (bagD primes)) (ρ1 := [.dat (.scr ns), .dat (.int k), .dat (.int 150), .dat (.int 27720), .no, .no, .no, .no, .no, .no]) (by repeat' (first
    | with_reducible (apply pid; assumption)
    
    | with_reducible (first | apply vd_dat | apply vd_own | apply r_cst | apply za_nil | apply l_nil | apply p_none | apply g_val | apply set_0 | apply set_s | apply pb_nil | apply pb_lent | apply pb_own | apply f_val | apply r_bin | apply r_neg | apply r_not | apply r_and | apply r_or | apply r_cmp | apply r_chain | apply r_call | apply r_len | apply r_bi | apply r_isi | apply r_tup | apply r_lst | apply r_idx | apply p_some | apply r_sl | apply r_rev | apply l_cons | apply a_e | apply za_lent | apply i_seq | apply i_range1 | apply i_range2 | apply i_range3 | apply i_zip | apply i_enum | apply tg_nm | apply tg_tup | apply tgs_nil | apply tgs_cons | apply b_add | apply b_sub | apply w_asg | apply w_asgO | apply w_asgT | apply w_par | apply w_par3 | apply w_appO | apply w_setO | apply w_expr | apply w_ifs | apply w_retV | apply w_raise | apply w_retN | apply w_nil | apply w_app_cons | apply w_app_nil | apply c_lt | apply c_le | apply c_gt | apply c_ge | apply zc_eq | apply zc_ne | apply zc_in | apply c_nin | apply eqD_i | apply bi_all | apply bi_any)
    | (with_reducible apply o_val rfl) | (with_reducible apply w_ret rfl)
    | ((with_reducible apply dom_any); rfl)
    | ((with_reducible apply r_var); rfl) | ((with_reducible apply o_var); rfl) | ((with_reducible apply o_own); rfl) | ((with_reducible apply o_lent); rfl) | ((with_reducible apply g_own); rfl) | ((with_reducible apply g_lent); rfl) | ((with_reducible apply r_varO); rfl)
    | (with_reducible apply b_mod; first | with_reducible assumption | decide | omega) | (with_reducible apply b_mul_r; first | with_reducible assumption | (with_reducible decide) ) | (with_reducible apply b_mul_l; first | with_reducible assumption | (with_reducible decide) )
    | with_reducible (first | exact ty_int_int | exact ty_int_bool | exact ty_int_tuple | exact ty_int_list | exact ty_int_str | exact ty_bl_int | exact ty_bl_bool | exact ty_bl_tuple | exact ty_bl_list | exact ty_bl_str | exact ty_non_int | exact ty_non_bool | exact ty_non_tuple | exact ty_non_list | exact ty_non_str | exact ty_str_int | exact ty_str_bool | exact ty_str_tuple | exact ty_str_list | exact ty_str_str | exact ty_tup_int | exact ty_tup_bool | exact ty_tup_tuple | exact ty_tup_list | exact ty_tup_str | exact ty_lst_int | exact ty_lst_bool | exact ty_lst_tuple | exact ty_lst_list | exact ty_lst_str)
    | exact lt_len rfl | exact le_len rfl | rfl | (intro _))) (lt_len rfl) rfl ?_
  generalize D.tup (bagD primes) = P at hP
  show Wp (FN (n + 1)) FU (.cons (.asg 5 (.call 12 (.e (.var 0) (.e (.var 1) .nil)))) (.cons (.asg 6 (.cst (.int 0))) (.cons (.ifs (.cmp .ge (.var 5) (.bin .pow (.cst (.int 10)) (.cst (.int 18)))) (.cons (.asg 6 (.var 5)) .nil) .nil) (.cons (.asgO 7 (.lst .nil)) (.cons (.forS (.nm 8) (.range1 (.var 2)) bDr) (.cons (.ret (.var 7)) .nil)))))) _ _
  refine w_asg (d := .int c) (ρ1 := [.dat (.scr ns), .dat (.int k), .dat (.int 150), .dat (.int 27720), .dat P, .no, .no, .no, .no, .no]) (by repeat' (first
    | with_reducible (apply pid; assumption)
    | with_reducible (first | exact hc)
    | with_reducible (first | apply vd_dat | apply vd_own | apply r_cst | apply za_nil | apply l_nil | apply p_none | apply g_val | apply set_0 | apply set_s | apply pb_nil | apply pb_lent | apply pb_own | apply f_val | apply r_bin | apply r_neg | apply r_not | apply r_and | apply r_or | apply r_cmp | apply r_chain | apply r_call | apply r_len | apply r_bi | apply r_isi | apply r_tup | apply r_lst | apply r_idx | apply p_some | apply r_sl | apply r_rev | apply l_cons | apply a_e | apply za_lent | apply i_seq | apply i_range1 | apply i_range2 | apply i_range3 | apply i_zip | apply i_enum | apply tg_nm | apply tg_tup | apply tgs_nil | apply tgs_cons | apply b_add | apply b_sub | apply w_asg | apply w_asgO | apply w_asgT | apply w_par | apply w_par3 | apply w_appO | apply w_setO | apply w_expr | apply w_ifs | apply w_retV | apply w_raise | apply w_retN | apply w_nil | apply w_app_cons | apply w_app_nil | apply c_lt | apply c_le | apply c_gt | apply c_ge | apply zc_eq | apply zc_ne | apply zc_in | apply c_nin | apply eqD_i | apply bi_all | apply bi_any)
    | (with_reducible apply o_val rfl) | (with_reducible apply w_ret rfl)
    | ((with_reducible apply dom_any); rfl)
    | ((with_reducible apply r_var); rfl) | ((with_reducible apply o_var); rfl) | ((with_reducible apply o_own); rfl) | ((with_reducible apply o_lent); rfl) | ((with_reducible apply g_own); rfl) | ((with_reducible apply g_lent); rfl) | ((with_reducible apply r_varO); rfl)
    | (with_reducible apply b_mod; first | with_reducible assumption | decide | omega) | (with_reducible apply b_mul_r; first | with_reducible assumption | (with_reducible decide) | with_reducible (first | exact hc)) | (with_reducible apply b_mul_l; first | with_reducible assumption | (with_reducible decide) | with_reducible (first | exact hc))
    | with_reducible (first | exact ty_int_int | exact ty_int_bool | exact ty_int_tuple | exact ty_int_list | exact ty_int_str | exact ty_bl_int | exact ty_bl_bool | exact ty_bl_tuple | exact ty_bl_list | exact ty_bl_str | exact ty_non_int | exact ty_non_bool | exact ty_non_tuple | exact ty_non_list | exact ty_non_str | exact ty_str_int | exact ty_str_bool | exact ty_str_tuple | exact ty_str_list | exact ty_str_str | exact ty_tup_int | exact ty_tup_bool | exact ty_tup_tuple | exact ty_tup_list | exact ty_tup_str | exact ty_lst_int | exact ty_lst_bool | exact ty_lst_tuple | exact ty_lst_list | exact ty_lst_str)
    | exact lt_len rfl | exact le_len rfl | rfl | (intro _))) (lt_len rfl) rfl ?_
  refine w_asg (d := .int 0) (ρ1 := [.dat (.scr ns), .dat (.int k), .dat (.int 150), .dat (.int 27720), .dat P, .dat (.int c), .no, .no, .no, .no]) (by repeat' (first
    | with_reducible (apply pid; assumption)
    
    | with_reducible (first | apply vd_dat | apply vd_own | apply r_cst | apply za_nil | apply l_nil | apply p_none | apply g_val | apply set_0 | apply set_s | apply pb_nil | apply pb_lent | apply pb_own | apply f_val | apply r_bin | apply r_neg | apply r_not | apply r_and | apply r_or | apply r_cmp | apply r_chain | apply r_call | apply r_len | apply r_bi | apply r_isi | apply r_tup | apply r_lst | apply r_idx | apply p_some | apply r_sl | apply r_rev | apply l_cons | apply a_e | apply za_lent | apply i_seq | apply i_range1 | apply i_range2 | apply i_range3 | apply i_zip | apply i_enum | apply tg_nm | apply tg_tup | apply tgs_nil | apply tgs_cons | apply b_add | apply b_sub | apply w_asg | apply w_asgO | apply w_asgT | apply w_par | apply w_par3 | apply w_appO | apply w_setO | apply w_expr | apply w_ifs | apply w_retV | apply w_raise | apply w_retN | apply w_nil | apply w_app_cons | apply w_app_nil | apply c_lt | apply c_le | apply c_gt | apply c_ge | apply zc_eq | apply zc_ne | apply zc_in | apply c_nin | apply eqD_i | apply bi_all | apply bi_any)
    | (with_reducible apply o_val rfl) | (with_reducible apply w_ret rfl)
    | ((with_reducible apply dom_any); rfl)
    | ((with_reducible apply r_var); rfl) | ((with_reducible apply o_var); rfl) | ((with_reducible apply o_own); rfl) | ((with_reducible apply o_lent); rfl) | ((with_reducible apply g_own); rfl) | ((with_reducible apply g_lent); rfl) | ((with_reducible apply r_varO); rfl)
    | (with_reducible apply b_mod; first | with_reducible assumption | decide | omega) | (with_reducible apply b_mul_r; first | with_reducible assumption | (with_reducible decide) ) | (with_reducible apply b_mul_l; first | with_reducible assumption | (with_reducible decide) )
    | with_reducible (first | exact ty_int_int | exact ty_int_bool | exact ty_int_tuple | exact ty_int_list | exact ty_int_str | exact ty_bl_int | exact ty_bl_bool | exact ty_bl_tuple | exact ty_bl_list | exact ty_bl_str | exact ty_non_int | exact ty_non_bool | exact ty_non_tuple | exact ty_non_list | exact ty_non_str | exact ty_str_int | exact ty_str_bool | exact ty_str_tuple | exact ty_str_list | exact ty_str_str | exact ty_tup_int | exact ty_tup_bool | exact ty_tup_tuple | exact ty_tup_list | exact ty_tup_str | exact ty_lst_int | exact ty_lst_bool | exact ty_lst_tuple | exact ty_lst_list | exact ty_lst_str)
    | exact lt_len rfl | exact le_len rfl | rfl | (intro _))) (lt_len rfl) rfl ?_
  have fin : ∀ r : Int, Wp (FN (n + 1)) FU (.cons (.asgO 7 (.lst .nil)) (.cons (.forS (.nm 8) (.range1 (.var 2)) bDr) (.cons (.ret (.var 7)) .nil))) [.dat (.scr ns), .dat (.int k), .dat (.int 150), .dat (.int 27720), .dat P, .dat (.int c), .dat (.int r), .no, .no, .no] fun r => ∃ bs, fin [.dat (.scr ns), .dat (.int k), .dat (.int 150), .dat (.int 27720)] r = .ret (.own (.lst (bagD bs))) [] := fun r => by
    refine w_asgO (v := .own (.lst (bagD []))) (ρ1 := [.dat (.scr ns), .dat (.int k), .dat (.int 150), .dat (.int 27720), .dat P, .dat (.int c), .dat (.int r), .no, .no, .no]) (by repeat' (first
    | with_reducible (apply pid; assumption)
    
    | with_reducible (first | apply vd_dat | apply vd_own | apply r_cst | apply za_nil | apply l_nil | apply p_none | apply g_val | apply set_0 | apply set_s | apply pb_nil | apply pb_lent | apply pb_own | apply f_val | apply r_bin | apply r_neg | apply r_not | apply r_and | apply r_or | apply r_cmp | apply r_chain | apply r_call | apply r_len | apply r_bi | apply r_isi | apply r_tup | apply r_lst | apply r_idx | apply p_some | apply r_sl | apply r_rev | apply l_cons | apply a_e | apply za_lent | apply i_seq | apply i_range1 | apply i_range2 | apply i_range3 | apply i_zip | apply i_enum | apply tg_nm | apply tg_tup | apply tgs_nil | apply tgs_cons | apply b_add | apply b_sub | apply w_asg | apply w_asgO | apply w_asgT | apply w_par | apply w_par3 | apply w_appO | apply w_setO | apply w_expr | apply w_ifs | apply w_retV | apply w_raise | apply w_retN | apply w_nil | apply w_app_cons | apply w_app_nil | apply c_lt | apply c_le | apply c_gt | apply c_ge | apply zc_eq | apply zc_ne | apply zc_in | apply c_nin | apply eqD_i | apply bi_all | apply bi_any)
    | (with_reducible apply o_val rfl) | (with_reducible apply w_ret rfl)
    | ((with_reducible apply dom_any); rfl)
    | ((with_reducible apply r_var); rfl) | ((with_reducible apply o_var); rfl) | ((with_reducible apply o_own); rfl) | ((with_reducible apply o_lent); rfl) | ((with_reducible apply g_own); rfl) | ((with_reducible apply g_lent); rfl) | ((with_reducible apply r_varO); rfl)
    | (with_reducible apply b_mod; first | with_reducible assumption | decide | omega) | (with_reducible apply b_mul_r; first | with_reducible assumption | (with_reducible decide) ) | (with_reducible apply b_mul_l; first | with_reducible assumption | (with_reducible decide) )
    | with_reducible (first | exact ty_int_int | exact ty_int_bool | exact ty_int_tuple | exact ty_int_list | exact ty_int_str | exact ty_bl_int | exact ty_bl_bool | exact ty_bl_tuple | exact ty_bl_list | exact ty_bl_str | exact ty_non_int | exact ty_non_bool | exact ty_non_tuple | exact ty_non_list | exact ty_non_str | exact ty_str_int | exact ty_str_bool | exact ty_str_tuple | exact ty_str_list | exact ty_str_str | exact ty_tup_int | exact ty_tup_bool | exact ty_tup_tuple | exact ty_tup_list | exact ty_tup_str | exact ty_lst_int | exact ty_lst_bool | exact ty_lst_tuple | exact ty_lst_list | exact ty_lst_str)
    | exact lt_len rfl | exact le_len rfl | rfl | (intro _))) (lt_len rfl) rfl ?_
    refine w_for_inv (I := fun i ρ' => ∃ (bs : List Int) (r : Int) (x y : Slot), bs.length = i ∧ ρ' = [.dat (.scr ns), .dat (.int k), .dat (.int 150), .dat (.int 27720), .dat P, .dat (.int c), .dat (.int r), .own (.lst (bagD bs)), x, y]) (ds := rangeD 0 1 150) (ρ1 := [.dat (.scr ns), .dat (.int k), .dat (.int 150), .dat (.int 27720), .dat P, .dat (.int c), .dat (.int r), .own (.lst (bagD [])), .no, .no]) (by repeat' (first
    | with_reducible (apply pid; assumption)
    
    | with_reducible (first | apply vd_dat | apply vd_own | apply r_cst | apply za_nil | apply l_nil | apply p_none | apply g_val | apply set_0 | apply set_s | apply pb_nil | apply pb_lent | apply pb_own | apply f_val | apply r_bin | apply r_neg | apply r_not | apply r_and | apply r_or | apply r_cmp | apply r_chain | apply r_call | apply r_len | apply r_bi | apply r_isi | apply r_tup | apply r_lst | apply r_idx | apply p_some | apply r_sl | apply r_rev | apply l_cons | apply a_e | apply za_lent | apply i_seq | apply i_range1 | apply i_range2 | apply i_range3 | apply i_zip | apply i_enum | apply tg_nm | apply tg_tup | apply tgs_nil | apply tgs_cons | apply b_add | apply b_sub | apply w_asg | apply w_asgO | apply w_asgT | apply w_par | apply w_par3 | apply w_appO | apply w_setO | apply w_expr | apply w_ifs | apply w_retV | apply w_raise | apply w_retN | apply w_nil | apply w_app_cons | apply w_app_nil | apply c_lt | apply c_le | apply c_gt | apply c_ge | apply zc_eq | apply zc_ne | apply zc_in | apply c_nin | apply eqD_i | apply bi_all | apply bi_any)
    | (with_reducible apply o_val rfl) | (with_reducible apply w_ret rfl)
    | ((with_reducible apply dom_any); rfl)
    | ((with_reducible apply r_var); rfl) | ((with_reducible apply o_var); rfl) | ((with_reducible apply o_own); rfl) | ((with_reducible apply o_lent); rfl) | ((with_reducible apply g_own); rfl) | ((with_reducible apply g_lent); rfl) | ((with_reducible apply r_varO); rfl)
    | (with_reducible apply b_mod; first | with_reducible assumption | decide | omega) | (with_reducible apply b_mul_r; first | with_reducible assumption | (with_reducible decide) ) | (with_reducible apply b_mul_l; first | with_reducible assumption | (with_reducible decide) )
    | with_reducible (first | exact ty_int_int | exact ty_int_bool | exact ty_int_tuple | exact ty_int_list | exact ty_int_str | exact ty_bl_int | exact ty_bl_bool | exact ty_bl_tuple | exact ty_bl_list | exact ty_bl_str | exact ty_non_int | exact ty_non_bool | exact ty_non_tuple | exact ty_non_list | exact ty_non_str | exact ty_str_int | exact ty_str_bool | exact ty_str_tuple | exact ty_str_list | exact ty_str_str | exact ty_tup_int | exact ty_tup_bool | exact ty_tup_tuple | exact ty_tup_list | exact ty_tup_str | exact ty_lst_int | exact ty_lst_bool | exact ty_lst_tuple | exact ty_lst_list | exact ty_lst_str)
    | exact lt_len rfl | exact le_len rfl | rfl | (intro _))) ⟨[], r, .no, .no, rfl, rfl⟩ (fun i d ρ1 hd ⟨bs, r, x, y, hb, hρ⟩ => ?_) (fun ρ ⟨bs, r, x, y, hb, hρ⟩ => ?_)
    · obtain ⟨hi, rfl⟩ := rangeD_get hd
      subst hρ
      refine ⟨[.dat (.scr ns), .dat (.int k), .dat (.int 150), .dat (.int 27720), .dat P, .dat (.int c), .dat (.int r), .own (.lst (bagD bs)), .dat (.int (0 + i * 1)), y], by repeat' (first
    | with_reducible (apply pid; assumption)
    
    | with_reducible (first | apply vd_dat | apply vd_own | apply r_cst | apply za_nil | apply l_nil | apply p_none | apply g_val | apply set_0 | apply set_s | apply pb_nil | apply pb_lent | apply pb_own | apply f_val | apply r_bin | apply r_neg | apply r_not | apply r_and | apply r_or | apply r_cmp | apply r_chain | apply r_call | apply r_len | apply r_bi | apply r_isi | apply r_tup | apply r_lst | apply r_idx | apply p_some | apply r_sl | apply r_rev | apply l_cons | apply a_e | apply za_lent | apply i_seq | apply i_range1 | apply i_range2 | apply i_range3 | apply i_zip | apply i_enum | apply tg_nm | apply tg_tup | apply tgs_nil | apply tgs_cons | apply b_add | apply b_sub | apply w_asg | apply w_asgO | apply w_asgT | apply w_par | apply w_par3 | apply w_appO | apply w_setO | apply w_expr | apply w_ifs | apply w_retV | apply w_raise | apply w_retN | apply w_nil | apply w_app_cons | apply w_app_nil | apply c_lt | apply c_le | apply c_gt | apply c_ge | apply zc_eq | apply zc_ne | apply zc_in | apply c_nin | apply eqD_i | apply bi_all | apply bi_any)
    | (with_reducible apply o_val rfl) | (with_reducible apply w_ret rfl)
    | ((with_reducible apply dom_any); rfl)
    | ((with_reducible apply r_var); rfl) | ((with_reducible apply o_var); rfl) | ((with_reducible apply o_own); rfl) | ((with_reducible apply o_lent); rfl) | ((with_reducible apply g_own); rfl) | ((with_reducible apply g_lent); rfl) | ((with_reducible apply r_varO); rfl)
    | (with_reducible apply b_mod; first | with_reducible assumption | decide | omega) | (with_reducible apply b_mul_r; first | with_reducible assumption | (with_reducible decide) ) | (with_reducible apply b_mul_l; first | with_reducible assumption | (with_reducible decide) )
    | with_reducible (first | exact ty_int_int | exact ty_int_bool | exact ty_int_tuple | exact ty_int_list | exact ty_int_str | exact ty_bl_int | exact ty_bl_bool | exact ty_bl_tuple | exact ty_bl_list | exact ty_bl_str | exact ty_non_int | exact ty_non_bool | exact ty_non_tuple | exact ty_non_list | exact ty_non_str | exact ty_str_int | exact ty_str_bool | exact ty_str_tuple | exact ty_str_list | exact ty_str_str | exact ty_tup_int | exact ty_tup_bool | exact ty_tup_tuple | exact ty_tup_list | exact ty_tup_str | exact ty_lst_int | exact ty_lst_bool | exact ty_lst_tuple | exact ty_lst_list | exact ty_lst_str)
    | exact lt_len rfl | exact le_len rfl | rfl | (intro _)), ?_⟩
      refine (bDr_ev (FN (n + 1)) (.dat (.scr ns)) k (by omega) 150 c r P hP bs (by omega) (0 + i * 1) (by omega) y).mono fun q ⟨b, r', v, e⟩ => ?_
      rw [len_app] at e
      exact ⟨_, .inl e, bs ++ [b], r', _, _, by simp [hb], rfl⟩
    · subst hρ
      exact w_retO rfl ⟨bs, fin_ret rfl⟩
  refine w_ifs (k := decide ((1000000000000000000 : Int) ≤ c)) (ρ1 := [.dat (.scr ns), .dat (.int k), .dat (.int 150), .dat (.int 27720), .dat P, .dat (.int c), .dat (.int 0), .no, .no, .no]) (by repeat' (first
    | with_reducible (apply pid; assumption)
    
    | with_reducible (first | apply vd_dat | apply vd_own | apply r_cst | apply za_nil | apply l_nil | apply p_none | apply g_val | apply set_0 | apply set_s | apply pb_nil | apply pb_lent | apply pb_own | apply f_val | apply r_bin | apply r_neg | apply r_not | apply r_and | apply r_or | apply r_cmp | apply r_chain | apply r_call | apply r_len | apply r_bi | apply r_isi | apply r_tup | apply r_lst | apply r_idx | apply p_some | apply r_sl | apply r_rev | apply l_cons | apply a_e | apply za_lent | apply i_seq | apply i_range1 | apply i_range2 | apply i_range3 | apply i_zip | apply i_enum | apply tg_nm | apply tg_tup | apply tgs_nil | apply tgs_cons | apply b_add | apply b_sub | apply w_asg | apply w_asgO | apply w_asgT | apply w_par | apply w_par3 | apply w_appO | apply w_setO | apply w_expr | apply w_ifs | apply w_retV | apply w_raise | apply w_retN | apply w_nil | apply w_app_cons | apply w_app_nil | apply c_lt | apply c_le | apply c_gt | apply c_ge | apply zc_eq | apply zc_ne | apply zc_in | apply c_nin | apply eqD_i | apply bi_all | apply bi_any)
    | (with_reducible apply o_val rfl) | (with_reducible apply w_ret rfl)
    | ((with_reducible apply dom_any); rfl)
    | ((with_reducible apply r_var); rfl) | ((with_reducible apply o_var); rfl) | ((with_reducible apply o_own); rfl) | ((with_reducible apply o_lent); rfl) | ((with_reducible apply g_own); rfl) | ((with_reducible apply g_lent); rfl) | ((with_reducible apply r_varO); rfl)
    | (with_reducible apply b_mod; first | with_reducible assumption | decide | omega) | (with_reducible apply b_mul_r; first | with_reducible assumption | (with_reducible decide) ) | (with_reducible apply b_mul_l; first | with_reducible assumption | (with_reducible decide) )
    | with_reducible (first | exact ty_int_int | exact ty_int_bool | exact ty_int_tuple | exact ty_int_list | exact ty_int_str | exact ty_bl_int | exact ty_bl_bool | exact ty_bl_tuple | exact ty_bl_list | exact ty_bl_str | exact ty_non_int | exact ty_non_bool | exact ty_non_tuple | exact ty_non_list | exact ty_non_str | exact ty_str_int | exact ty_str_bool | exact ty_str_tuple | exact ty_str_list | exact ty_str_str | exact ty_tup_int | exact ty_tup_bool | exact ty_tup_tuple | exact ty_tup_list | exact ty_tup_str | exact ty_lst_int | exact ty_lst_bool | exact ty_lst_tuple | exact ty_lst_list | exact ty_lst_str)
    | exact lt_len rfl | exact le_len rfl | rfl | (intro _))) (fun _ => ?_) (fun _ => fin 0)
  refine w_asg (d := .int c) (ρ1 := [.dat (.scr ns), .dat (.int k), .dat (.int 150), .dat (.int 27720), .dat P, .dat (.int c), .dat (.int 0), .no, .no, .no]) (by repeat' (first
    | with_reducible (apply pid; assumption)
    
    | with_reducible (first | apply vd_dat | apply vd_own | apply r_cst | apply za_nil | apply l_nil | apply p_none | apply g_val | apply set_0 | apply set_s | apply pb_nil | apply pb_lent | apply pb_own | apply f_val | apply r_bin | apply r_neg | apply r_not | apply r_and | apply r_or | apply r_cmp | apply r_chain | apply r_call | apply r_len | apply r_bi | apply r_isi | apply r_tup | apply r_lst | apply r_idx | apply p_some | apply r_sl | apply r_rev | apply l_cons | apply a_e | apply za_lent | apply i_seq | apply i_range1 | apply i_range2 | apply i_range3 | apply i_zip | apply i_enum | apply tg_nm | apply tg_tup | apply tgs_nil | apply tgs_cons | apply b_add | apply b_sub | apply w_asg | apply w_asgO | apply w_asgT | apply w_par | apply w_par3 | apply w_appO | apply w_setO | apply w_expr | apply w_ifs | apply w_retV | apply w_raise | apply w_retN | apply w_nil | apply w_app_cons | apply w_app_nil | apply c_lt | apply c_le | apply c_gt | apply c_ge | apply zc_eq | apply zc_ne | apply zc_in | apply c_nin | apply eqD_i | apply bi_all | apply bi_any)
    | (with_reducible apply o_val rfl) | (with_reducible apply w_ret rfl)
    | ((with_reducible apply dom_any); rfl)
    | ((with_reducible apply r_var); rfl) | ((with_reducible apply o_var); rfl) | ((with_reducible apply o_own); rfl) | ((with_reducible apply o_lent); rfl) | ((with_reducible apply g_own); rfl) | ((with_reducible apply g_lent); rfl) | ((with_reducible apply r_varO); rfl)
    | (with_reducible apply b_mod; first | with_reducible assumption | decide | omega) | (with_reducible apply b_mul_r; first | with_reducible assumption | (with_reducible decide) ) | (with_reducible apply b_mul_l; first | with_reducible assumption | (with_reducible decide) )
    | with_reducible (first | exact ty_int_int | exact ty_int_bool | exact ty_int_tuple | exact ty_int_list | exact ty_int_str | exact ty_bl_int | exact ty_bl_bool | exact ty_bl_tuple | exact ty_bl_list | exact ty_bl_str | exact ty_non_int | exact ty_non_bool | exact ty_non_tuple | exact ty_non_list | exact ty_non_str | exact ty_str_int | exact ty_str_bool | exact ty_str_tuple | exact ty_str_list | exact ty_str_str | exact ty_tup_int | exact ty_tup_bool | exact ty_tup_tuple | exact ty_tup_list | exact ty_tup_str | exact ty_lst_int | exact ty_lst_bool | exact ty_lst_tuple | exact ty_lst_list | exact ty_lst_str)
    | exact lt_len rfl | exact le_len rfl | rfl | (intro _))) (lt_len rfl) rfl (fin c)
theorem bag_spec (n : Nat) (ns : List Int) (k : Nat) (hk : k < 100) (hl : ns.length < 1000) : ∃ bs : List Int, (FN (n + 3)).fn 14 [.dat (.scr ns), .dat (.int k)] = .ret (.own (.lst (bagD bs))) [] := by
  rw [fn_at (d := d_law_bag) rfl]
  obtain ⟨bs, h⟩ := draws_spec n ns k hk hl
  refine ⟨bs, run_wp (out := fun x => x = _) rfl (by decide) (w_ret (ρ1 := [.dat (.scr ns), .dat (.int k)]) rfl ?_ (fin_ret rfl))⟩
  repeat' (first
    | with_reducible (apply pid; assumption)
    | with_reducible (first | exact h)
    | with_reducible (first | apply vd_dat | apply vd_own | apply r_cst | apply za_nil | apply l_nil | apply p_none | apply g_val | apply set_0 | apply set_s | apply pb_nil | apply pb_lent | apply pb_own | apply f_val | apply r_bin | apply r_neg | apply r_not | apply r_and | apply r_or | apply r_cmp | apply r_chain | apply r_call | apply r_len | apply r_bi | apply r_isi | apply r_tup | apply r_lst | apply r_idx | apply p_some | apply r_sl | apply r_rev | apply l_cons | apply a_e | apply za_lent | apply i_seq | apply i_range1 | apply i_range2 | apply i_range3 | apply i_zip | apply i_enum | apply tg_nm | apply tg_tup | apply tgs_nil | apply tgs_cons | apply b_add | apply b_sub | apply w_asg | apply w_asgO | apply w_asgT | apply w_par | apply w_par3 | apply w_appO | apply w_setO | apply w_expr | apply w_ifs | apply w_retV | apply w_raise | apply w_retN | apply w_nil | apply w_app_cons | apply w_app_nil | apply c_lt | apply c_le | apply c_gt | apply c_ge | apply zc_eq | apply zc_ne | apply zc_in | apply c_nin | apply eqD_i | apply bi_all | apply bi_any)
    | (with_reducible apply o_val rfl) | (with_reducible apply w_ret rfl)
    | ((with_reducible apply dom_any); rfl)
    | ((with_reducible apply r_var); rfl) | ((with_reducible apply o_var); rfl) | ((with_reducible apply o_own); rfl) | ((with_reducible apply o_lent); rfl) | ((with_reducible apply g_own); rfl) | ((with_reducible apply g_lent); rfl) | ((with_reducible apply r_varO); rfl)
    | (with_reducible apply b_mod; first | with_reducible assumption | decide | omega) | (with_reducible apply b_mul_r; first | with_reducible assumption | (with_reducible decide) | with_reducible (first | exact h)) | (with_reducible apply b_mul_l; first | with_reducible assumption | (with_reducible decide) | with_reducible (first | exact h))
    | with_reducible (first | exact ty_int_int | exact ty_int_bool | exact ty_int_tuple | exact ty_int_list | exact ty_int_str | exact ty_bl_int | exact ty_bl_bool | exact ty_bl_tuple | exact ty_bl_list | exact ty_bl_str | exact ty_non_int | exact ty_non_bool | exact ty_non_tuple | exact ty_non_list | exact ty_non_str | exact ty_str_int | exact ty_str_bool | exact ty_str_tuple | exact ty_str_list | exact ty_str_str | exact ty_tup_int | exact ty_tup_bool | exact ty_tup_tuple | exact ty_tup_list | exact ty_tup_str | exact ty_lst_int | exact ty_lst_bool | exact ty_lst_tuple | exact ty_lst_list | exact ty_lst_str)
    | exact lt_len rfl | exact le_len rfl | rfl | (intro _))
theorem choice_spec (n : Nat) (bs : List Int) (ds : List D) (hd : ds ≠ []) : ∃ d ∈ ds, (FN (n + 2)).fn 16 [.lent (.lst (bagD bs)), .dat (.lst ds)] = .ret (.dat d) [.lst (bagD bs.tail)] := by
  rw [fn_at (d := d_law_choice) rfl]
  have hp : 0 < ds.length := List.length_pos_iff.mpr hd
  have k := take_spec n bs ds.length (by omega)
  have h0 : 0 ≤ drawn bs ds.length := Int.emod_nonneg _ (by omega)
  have h1 : drawn bs ds.length < ds.length := Int.emod_lt_of_pos _ (by omega)
  have hi : (drawn bs ds.length).toNat < ds.length := by omega
  have e : ixD (.lst ds) (.int (drawn bs ds.length)) = some (ds[(drawn bs ds.length).toNat]'hi) := by
    show (ixN ds.length (drawn bs ds.length)).bind _ = _
    rw [show ixN ds.length (drawn bs ds.length) = some (drawn bs ds.length).toNat by unfold ixN; rw [if_pos h0, if_pos h1]]
    simp [hi]
  exact ⟨_, List.getElem_mem hi, by simp [runFn, evSs, evS, evO, evL, evA, evI, evP, startE, Arg.slot, tst, readVar, frz, ERes.bind, ERes.st, ofO, Val.d, isiD, D.tyN, isiT, opCmp, ordD, SRes.seq, fin, lentsAt, opd, isMut, Opd.get, lenD, callRes, argsOf, PArg.arg, lentIx, back, putBack, d_law_choice, b_law_choice, dom_law_take, k, e]⟩
end K15
end
section
namespace K15
open PySem AP
/-! a drawn plan -/
theorem take_ex (n : Nat) (bs : List Int) (m : Int) (hm : 0 < m) (rest : AP.Env) (e : IE) (he : evO (FN (n + 1)) e (.lent (.lst (bagD bs)) :: rest) = .ok (.dat (.int m)) (.lent (.lst (bagD bs)) :: rest)) :
    ∃ (i : Int) (bs' : List Int), 0 ≤ i ∧ i < m ∧ evO (FN (n + 1)) (.call 15 (.lent 0 (.e e .nil))) (.lent (.lst (bagD bs)) :: rest) = .ok (.dat (.int i)) (.lent (.lst (bagD bs')) :: rest) := by
  refine ⟨drawn bs m, bs.tail, Int.emod_nonneg _ (by omega), Int.emod_lt_of_pos _ hm, ?_⟩
  have k := take_spec n bs m hm
  have d := dom_law_take (n + 1)
  rw [evO, if_pos d]
  simp only [evA, isMut, List.getElem?_cons_zero, if_true, he, frz, Val.d, ERes.bind, callRes, argsOf, PArg.arg, Option.bind_some, Option.map_some, lentIx, List.length_cons, List.length_nil, k, back, putBack]
  simp
theorem take_exc (n : Nat) (bs : List Int) (m : Int) (hm : 0 < m) (rest : AP.Env) : ∃ (i : Int) (bs' : List Int), 0 ≤ i ∧ i < m ∧ evO (FN (n + 1)) (.call 15 (.lent 0 (.e (.cst (.int m)) .nil))) (.lent (.lst (bagD bs)) :: rest) = .ok (.dat (.int i)) (.lent (.lst (bagD bs')) :: rest) := take_ex n bs m hm rest _ (by rw [evO])
theorem choice_ex (n : Nat) (bs : List Int) (ds : List D) (hd : ds ≠ []) (rest : AP.Env) (e : IE) (he : frz (evO (FN (n + 2)) e (.lent (.lst (bagD bs)) :: rest)) = .ok (.lst ds) (.lent (.lst (bagD bs)) :: rest)) :
    ∃ (d : D) (bs' : List Int), d ∈ ds ∧ evO (FN (n + 2)) (.call 16 (.lent 0 (.e e .nil))) (.lent (.lst (bagD bs)) :: rest) = .ok (.dat d) (.lent (.lst (bagD bs')) :: rest) := by
  obtain ⟨d, hm, k⟩ := choice_spec n bs ds hd
  refine ⟨d, bs.tail, hm, ?_⟩
  have dd := dom_law_choice (n + 2)
  rw [evO, if_pos dd]
  simp only [evA, isMut, List.getElem?_cons_zero, if_true, he, ERes.bind, callRes, argsOf, PArg.arg, Option.bind_some, Option.map_some, lentIx, List.length_cons, List.length_nil, k, back, putBack]
  simp
theorem incB_cons {a : Int} : ∀ {ws : List Int}, (∀ i ∈ ws, a < i) → incB ws = true → incB (a :: ws) = true
  | [], _, _ => rfl
  | b :: r, h, h2 => by
    show (decide (a < b) && incB (b :: r)) = true
    rw [h2, decide_eq_true (h b List.mem_cons_self)]; rfl
theorem sel_range : ∀ {k : Nat} {lo : Int} {outs : List D}, Sel (fun d x => x = d) (rangeD lo 1 k) outs → ∃ ws : List Int, outs = bagD ws ∧ ws.length ≤ k ∧ (∀ i ∈ ws, lo ≤ i ∧ i < lo + k) ∧ incB ws = true
  | 0, _, _, h => by
    cases h
    exact ⟨[], rfl, Nat.le_refl _, fun i h => (by cases h), rfl⟩
  | k + 1, lo, outs, h => by
    rw [rangeD] at h
    cases h with
    | skip s =>
      obtain ⟨ws, e, l, m, c⟩ := sel_range s
      exact ⟨ws, e, by omega, fun i hi => by have := m i hi; omega, c⟩
    | take q s =>
      subst q
      obtain ⟨ws, e, l, m, c⟩ := sel_range s
      refine ⟨lo :: ws, by rw [e]; rfl, by simp; omega, fun i hi => ?_, incB_cons (fun i hi => by have := m i hi; omega) c⟩
      rcases List.mem_cons.mp hi with rfl | hi
      · omega
      · have := m i hi; omega
theorem tksOk_snoc : ∀ (ts : List Tk) (n : Nat) (t : Tk), tksOk n (ts ++ [t]) = (tksOk n ts && tkOk (n + ts.length : Nat) t)
  | [], n, t => by simp [tksOk]
  | s :: r, n, t => by
    rw [List.cons_append, tksOk, tksOk_snoc r (n + 1) t, tksOk, List.length_cons, Bool.and_assoc, show n + 1 + r.length = n + (r.length + 1) by omega]
/-- what a drawn task has -/
def TkSm (t : Tk) : Prop := (0 ≤ t.a ∧ t.a ≤ 3) ∧ (0 ≤ t.b ∧ t.b ≤ 3) ∧ (0 ≤ t.c ∧ t.c ≤ 9)
structure PlSm (p : Pl) : Prop where
  tk : ∀ t ∈ p.ts, TkSm t
  b1 : p.h1 ≤ 10
  b2 : p.h2 ≤ 10
def cPL : IE := .comp (.var 6) (.nm 6) (.range1 (.var 3)) (.cmp .lt (.call 15 (.lent 0 (.e (.cst (.int 5)) .nil))) (.cst (.int 2))) [6]
def c6 : IE := .lst (.cons (.cst (.int 0)) (.cons (.cst (.int 0)) (.cons (.cst (.int 1)) (.cons (.cst (.int 2)) (.cons (.cst (.int 5)) (.cons (.cst (.int 9)) .nil))))))
def tPL : IE := .tup (.cons (.var 4) (.cons (.call 15 (.lent 0 (.e (.cst (.int 4)) .nil))) (.cons (.call 15 (.lent 0 (.e (.cst (.int 4)) .nil))) (.cons (.call 16 (.lent 0 (.e c6 .nil))) .nil))))
def bodyPL : ISs := .cons (.asg 4 (.bi .tuple (.cons cPL .nil))) (.cons (.app 2 tPL) .nil)
def eP (bs : List Int) (m : Int) (found : Slot) (num x4 x5 : Slot) : AP.Env := [.lent (.lst (bagD bs)), .dat (.int m), found, num, x4, x5, .no]
theorem cPL_ev (n : Nat) (bs : List Int) (m : Int) (f : M) (num : Nat) (hn : num ≤ 5) (x4 x5 : Slot) : ∃ (ws bs' : List Int), evO (FN (n + 1)) cPL (eP bs m (.own f) (.dat (.int num)) x4 x5) = .ok (.own (.lst (bagD ws))) (eP bs' m (.own f) (.dat (.int num)) x4 x5) ∧
    ws.length ≤ num ∧ (∀ i ∈ ws, 0 ≤ i ∧ i < num) ∧ incB ws = true := by
  have hr : range62 num = true := by unfold range62; simp only [Bool.and_eq_true, decide_eq_true_eq]; omega
  have hI : evI (FN (n + 1)) (.range1 (.var 3)) (eP bs m (.own f) (.dat (.int num)) x4 x5) = .ok (rangeD 0 1 num) (eP bs m (.own f) (.dat (.int num)) x4 x5) := by
    unfold eP
    repeat' (first
    | with_reducible (apply pid; assumption)
    | with_reducible (first | apply i_range1N)
    | with_reducible (first | apply vd_dat | apply vd_own | apply r_cst | apply za_nil | apply l_nil | apply p_none | apply g_val | apply set_0 | apply set_s | apply pb_nil | apply pb_lent | apply pb_own | apply f_val | apply r_bin | apply r_neg | apply r_not | apply r_and | apply r_or | apply r_cmp | apply r_chain | apply r_call | apply r_len | apply r_bi | apply r_isi | apply r_tup | apply r_lst | apply r_idx | apply p_some | apply r_sl | apply r_rev | apply l_cons | apply a_e | apply za_lent | apply i_seq | apply i_range1 | apply i_range2 | apply i_range3 | apply i_zip | apply i_enum | apply tg_nm | apply tg_tup | apply tgs_nil | apply tgs_cons | apply b_add | apply b_sub | apply w_asg | apply w_asgO | apply w_asgT | apply w_par | apply w_par3 | apply w_appO | apply w_setO | apply w_expr | apply w_ifs | apply w_retV | apply w_raise | apply w_retN | apply w_nil | apply w_app_cons | apply w_app_nil | apply c_lt | apply c_le | apply c_gt | apply c_ge | apply zc_eq | apply zc_ne | apply zc_in | apply c_nin | apply eqD_i | apply bi_all | apply bi_any)
    | (with_reducible apply o_val rfl) | (with_reducible apply w_ret rfl)
    | ((with_reducible apply dom_any); rfl)
    | ((with_reducible apply r_var); rfl) | ((with_reducible apply o_var); rfl) | ((with_reducible apply o_own); rfl) | ((with_reducible apply o_lent); rfl) | ((with_reducible apply g_own); rfl) | ((with_reducible apply g_lent); rfl) | ((with_reducible apply r_varO); rfl)
    | (with_reducible apply b_mod; first | with_reducible assumption | decide | omega) | (with_reducible apply b_mul_r; first | with_reducible assumption | (with_reducible decide) | with_reducible (first | apply i_range1N)) | (with_reducible apply b_mul_l; first | with_reducible assumption | (with_reducible decide) | with_reducible (first | apply i_range1N))
    | with_reducible (first | exact ty_int_int | exact ty_int_bool | exact ty_int_tuple | exact ty_int_list | exact ty_int_str | exact ty_bl_int | exact ty_bl_bool | exact ty_bl_tuple | exact ty_bl_list | exact ty_bl_str | exact ty_non_int | exact ty_non_bool | exact ty_non_tuple | exact ty_non_list | exact ty_non_str | exact ty_str_int | exact ty_str_bool | exact ty_str_tuple | exact ty_str_list | exact ty_str_str | exact ty_tup_int | exact ty_tup_bool | exact ty_tup_tuple | exact ty_tup_list | exact ty_tup_str | exact ty_lst_int | exact ty_lst_bool | exact ty_lst_tuple | exact ty_lst_list | exact ty_lst_str)
    | exact lt_len rfl | exact le_len rfl | rfl | (intro _))
  obtain ⟨outs, ρ', k1, ⟨bs', rfl⟩, k2⟩ := r_comp_sel (own := [6]) (tg := .nm 6) (elt := .var 6) (cond := .cmp .lt (.call 15 (.lent 0 (.e (.cst (.int 5)) .nil))) (.cst (.int 2))) (I := fun ρ => ∃ bs', ρ = eP bs' m (.own f) (.dat (.int num)) x4 x5) (Q := fun d x => x = d) hI rfl (by rw [rangeD_len]; unfold line; omega) ⟨bs, rfl⟩ (fun d hd ρ ⟨b, e⟩ => by
      subst e
      obtain ⟨i, b', i1, i2, ev⟩ := take_exc n b 5 (by decide) [.dat (.int m), .own f, .dat (.int num), x4, x5, .dat d]
      have ev2 : evO (FN (n + 1)) (.cmp .lt (.call 15 (.lent 0 (.e (.cst (.int 5)) .nil))) (.cst (.int 2))) [.lent (.lst (bagD b)), .dat (.int m), .own f, .dat (.int num), x4, x5, .dat d] = .ok (.dat (.bl (decide (i < 2)))) [.lent (.lst (bagD b')), .dat (.int m), .own f, .dat (.int num), x4, x5, .dat d] := by
        repeat' (first
    | with_reducible (apply pid; assumption)
    | with_reducible (first | exact ev)
    | with_reducible (first | apply vd_dat | apply vd_own | apply r_cst | apply za_nil | apply l_nil | apply p_none | apply g_val | apply set_0 | apply set_s | apply pb_nil | apply pb_lent | apply pb_own | apply f_val | apply r_bin | apply r_neg | apply r_not | apply r_and | apply r_or | apply r_cmp | apply r_chain | apply r_call | apply r_len | apply r_bi | apply r_isi | apply r_tup | apply r_lst | apply r_idx | apply p_some | apply r_sl | apply r_rev | apply l_cons | apply a_e | apply za_lent | apply i_seq | apply i_range1 | apply i_range2 | apply i_range3 | apply i_zip | apply i_enum | apply tg_nm | apply tg_tup | apply tgs_nil | apply tgs_cons | apply b_add | apply b_sub | apply w_asg | apply w_asgO | apply w_asgT | apply w_par | apply w_par3 | apply w_appO | apply w_setO | apply w_expr | apply w_ifs | apply w_retV | apply w_raise | apply w_retN | apply w_nil | apply w_app_cons | apply w_app_nil | apply c_lt | apply c_le | apply c_gt | apply c_ge | apply zc_eq | apply zc_ne | apply zc_in | apply c_nin | apply eqD_i | apply bi_all | apply bi_any)
    | (with_reducible apply o_val rfl) | (with_reducible apply w_ret rfl)
    | ((with_reducible apply dom_any); rfl)
    | ((with_reducible apply r_var); rfl) | ((with_reducible apply o_var); rfl) | ((with_reducible apply o_own); rfl) | ((with_reducible apply o_lent); rfl) | ((with_reducible apply g_own); rfl) | ((with_reducible apply g_lent); rfl) | ((with_reducible apply r_varO); rfl)
    | (with_reducible apply b_mod; first | with_reducible assumption | decide | omega) | (with_reducible apply b_mul_r; first | with_reducible assumption | (with_reducible decide) | with_reducible (first | exact ev)) | (with_reducible apply b_mul_l; first | with_reducible assumption | (with_reducible decide) | with_reducible (first | exact ev))
    | with_reducible (first | exact ty_int_int | exact ty_int_bool | exact ty_int_tuple | exact ty_int_list | exact ty_int_str | exact ty_bl_int | exact ty_bl_bool | exact ty_bl_tuple | exact ty_bl_list | exact ty_bl_str | exact ty_non_int | exact ty_non_bool | exact ty_non_tuple | exact ty_non_list | exact ty_non_str | exact ty_str_int | exact ty_str_bool | exact ty_str_tuple | exact ty_str_list | exact ty_str_str | exact ty_tup_int | exact ty_tup_bool | exact ty_tup_tuple | exact ty_tup_list | exact ty_tup_str | exact ty_lst_int | exact ty_lst_bool | exact ty_lst_tuple | exact ty_lst_list | exact ty_lst_str)
    | exact lt_len rfl | exact le_len rfl | rfl | (intro _))
      by_cases h2 : i < 2
      · rw [decide_eq_true h2] at ev2
        exact ⟨some d, _, compB_some (ρ1 := [.lent (.lst (bagD b)), .dat (.int m), .own f, .dat (.int num), x4, x5, .dat d]) rfl ev2 (f_val (r_var rfl) rfl), ⟨b', rfl⟩, fun x hx => (Option.some.inj hx).symm⟩
      · rw [decide_eq_false h2] at ev2
        exact ⟨none, _, compB_none (ρ1 := [.lent (.lst (bagD b)), .dat (.int m), .own f, .dat (.int num), x4, x5, .dat d]) rfl ev2, ⟨b', rfl⟩, fun x hx => by cases hx⟩)
  obtain ⟨ws, rfl, w1, w2, w3⟩ := sel_range k2
  exact ⟨ws, bs', k1, w1, fun i hi => by have := w2 i hi; omega, w3⟩
theorem tPL_ev (n : Nat) (bs : List Int) (m : Int) (f : M) (num : Nat) (ws : List Int) (x5 : Slot) : ∃ (t : Tk) (bs' : List Int), t.ws = ws ∧ TkSm t ∧ evO (FN (n + 2)) tPL (eP bs m (.own f) (.dat (.int num)) (.dat (.tup (bagD ws))) x5) = .ok (.dat (tkD t)) (eP bs' m (.own f) (.dat (.int num)) (.dat (.tup (bagD ws))) x5) := by
  obtain ⟨a, b1, a1, a2, e1⟩ := take_exc (n + 1) bs 4 (by decide) [.dat (.int m), .own f, .dat (.int num), .dat (.tup (bagD ws)), x5, .no]
  obtain ⟨b, b2, c1, c2, e2⟩ := take_exc (n + 1) b1 4 (by decide) [.dat (.int m), .own f, .dat (.int num), .dat (.tup (bagD ws)), x5, .no]
  obtain ⟨d, b3, hd, e3⟩ := choice_ex n b2 [.int 0, .int 0, .int 1, .int 2, .int 5, .int 9] (by simp) [.dat (.int m), .own f, .dat (.int num), .dat (.tup (bagD ws)), x5, .no] c6 (by unfold c6; repeat' (first
    | with_reducible (apply pid; assumption)
    
    | with_reducible (first | apply vd_dat | apply vd_own | apply r_cst | apply za_nil | apply l_nil | apply p_none | apply g_val | apply set_0 | apply set_s | apply pb_nil | apply pb_lent | apply pb_own | apply f_val | apply r_bin | apply r_neg | apply r_not | apply r_and | apply r_or | apply r_cmp | apply r_chain | apply r_call | apply r_len | apply r_bi | apply r_isi | apply r_tup | apply r_lst | apply r_idx | apply p_some | apply r_sl | apply r_rev | apply l_cons | apply a_e | apply za_lent | apply i_seq | apply i_range1 | apply i_range2 | apply i_range3 | apply i_zip | apply i_enum | apply tg_nm | apply tg_tup | apply tgs_nil | apply tgs_cons | apply b_add | apply b_sub | apply w_asg | apply w_asgO | apply w_asgT | apply w_par | apply w_par3 | apply w_appO | apply w_setO | apply w_expr | apply w_ifs | apply w_retV | apply w_raise | apply w_retN | apply w_nil | apply w_app_cons | apply w_app_nil | apply c_lt | apply c_le | apply c_gt | apply c_ge | apply zc_eq | apply zc_ne | apply zc_in | apply c_nin | apply eqD_i | apply bi_all | apply bi_any)
    | (with_reducible apply o_val rfl) | (with_reducible apply w_ret rfl)
    | ((with_reducible apply dom_any); rfl)
    | ((with_reducible apply r_var); rfl) | ((with_reducible apply o_var); rfl) | ((with_reducible apply o_own); rfl) | ((with_reducible apply o_lent); rfl) | ((with_reducible apply g_own); rfl) | ((with_reducible apply g_lent); rfl) | ((with_reducible apply r_varO); rfl)
    | (with_reducible apply b_mod; first | with_reducible assumption | decide | omega) | (with_reducible apply b_mul_r; first | with_reducible assumption | (with_reducible decide) ) | (with_reducible apply b_mul_l; first | with_reducible assumption | (with_reducible decide) )
    | with_reducible (first | exact ty_int_int | exact ty_int_bool | exact ty_int_tuple | exact ty_int_list | exact ty_int_str | exact ty_bl_int | exact ty_bl_bool | exact ty_bl_tuple | exact ty_bl_list | exact ty_bl_str | exact ty_non_int | exact ty_non_bool | exact ty_non_tuple | exact ty_non_list | exact ty_non_str | exact ty_str_int | exact ty_str_bool | exact ty_str_tuple | exact ty_str_list | exact ty_str_str | exact ty_tup_int | exact ty_tup_bool | exact ty_tup_tuple | exact ty_tup_list | exact ty_tup_str | exact ty_lst_int | exact ty_lst_bool | exact ty_lst_tuple | exact ty_lst_list | exact ty_lst_str)
    | exact lt_len rfl | exact le_len rfl | rfl | (intro _)))
  have hc : ∃ c : Int, d = .int c ∧ 0 ≤ c ∧ c ≤ 9 := by
    simp only [List.mem_cons, List.not_mem_nil, or_false] at hd
    rcases hd with rfl | rfl | rfl | rfl | rfl | rfl <;> exact ⟨_, rfl, by decide, by decide⟩
  obtain ⟨c, rfl, c3, c4⟩ := hc
  refine ⟨⟨ws, a, b, c⟩, b3, rfl, ⟨⟨a1, by show a ≤ 3; omega⟩, ⟨c1, by show b ≤ 3; omega⟩, ⟨c3, c4⟩⟩, ?_⟩
  unfold tPL eP
  change evO _ _ _ = .ok (.dat (.tup [.tup (bagD ws), .int a, .int b, .int c])) _
  repeat' (first
    | with_reducible (apply pid; assumption)
    | with_reducible (first | exact e1 | exact e2 | exact e3)
    | with_reducible (first | apply vd_dat | apply vd_own | apply r_cst | apply za_nil | apply l_nil | apply p_none | apply g_val | apply set_0 | apply set_s | apply pb_nil | apply pb_lent | apply pb_own | apply f_val | apply r_bin | apply r_neg | apply r_not | apply r_and | apply r_or | apply r_cmp | apply r_chain | apply r_call | apply r_len | apply r_bi | apply r_isi | apply r_tup | apply r_lst | apply r_idx | apply p_some | apply r_sl | apply r_rev | apply l_cons | apply a_e | apply za_lent | apply i_seq | apply i_range1 | apply i_range2 | apply i_range3 | apply i_zip | apply i_enum | apply tg_nm | apply tg_tup | apply tgs_nil | apply tgs_cons | apply b_add | apply b_sub | apply w_asg | apply w_asgO | apply w_asgT | apply w_par | apply w_par3 | apply w_appO | apply w_setO | apply w_expr | apply w_ifs | apply w_retV | apply w_raise | apply w_retN | apply w_nil | apply w_app_cons | apply w_app_nil | apply c_lt | apply c_le | apply c_gt | apply c_ge | apply zc_eq | apply zc_ne | apply zc_in | apply c_nin | apply eqD_i | apply bi_all | apply bi_any)
    | (with_reducible apply o_val rfl) | (with_reducible apply w_ret rfl)
    | ((with_reducible apply dom_any); rfl)
    | ((with_reducible apply r_var); rfl) | ((with_reducible apply o_var); rfl) | ((with_reducible apply o_own); rfl) | ((with_reducible apply o_lent); rfl) | ((with_reducible apply g_own); rfl) | ((with_reducible apply g_lent); rfl) | ((with_reducible apply r_varO); rfl)
    | (with_reducible apply b_mod; first | with_reducible assumption | decide | omega) | (with_reducible apply b_mul_r; first | with_reducible assumption | (with_reducible decide) | with_reducible (first | exact e1 | exact e2 | exact e3)) | (with_reducible apply b_mul_l; first | with_reducible assumption | (with_reducible decide) | with_reducible (first | exact e1 | exact e2 | exact e3))
    | with_reducible (first | exact ty_int_int | exact ty_int_bool | exact ty_int_tuple | exact ty_int_list | exact ty_int_str | exact ty_bl_int | exact ty_bl_bool | exact ty_bl_tuple | exact ty_bl_list | exact ty_bl_str | exact ty_non_int | exact ty_non_bool | exact ty_non_tuple | exact ty_non_list | exact ty_non_str | exact ty_str_int | exact ty_str_bool | exact ty_str_tuple | exact ty_str_list | exact ty_str_str | exact ty_tup_int | exact ty_tup_bool | exact ty_tup_tuple | exact ty_tup_list | exact ty_tup_str | exact ty_lst_int | exact ty_lst_bool | exact ty_lst_tuple | exact ty_lst_list | exact ty_lst_str)
    | exact lt_len rfl | exact le_len rfl | rfl | (intro _))
end K15
end
section
namespace K15
open PySem AP
theorem bodyPL_ev (n : Nat) (bs : List Int) (m : Int) (ts : List Tk) (k : Nat) (hk : ts.length = k) (hn : k ≤ 5) (x4 x5 : Slot) : Wp (FN (n + 2)) FU bodyPL (eP bs m (.own (.lst (ts.map tkD))) (.dat (.int k)) x4 x5) fun q => ∃ (t : Tk) (bs' : List Int) (x : Slot), TkSm t ∧ (t.ws.length ≤ k ∧ (∀ i ∈ t.ws, 0 ≤ i ∧ i < k) ∧ incB t.ws = true) ∧ q = .next (eP bs' m (.own (.lst ((ts ++ [t]).map tkD))) (.dat (.int k)) x x5) := by
  obtain ⟨ws, b1, e1, w⟩ := cPL_ev (n + 1) bs m (.lst (ts.map tkD)) k hn x4 x5
  obtain ⟨t, b2, rfl, ht, e2⟩ := tPL_ev n b1 m (.lst (ts.map tkD)) k ws x5
  unfold bodyPL
  refine w_asg (d := .tup (bagD t.ws)) (ρ1 := eP b1 m (.own (.lst (ts.map tkD))) (.dat (.int k)) x4 x5) (f_val (r_bi (l_cons (f_val e1 rfl) l_nil) rfl) rfl) (lt_len rfl) rfl ?_
  refine w_app (d := tkD t) (ds := ts.map tkD) rfl (f_val e2 rfl) rfl (by rw [List.length_map]; unfold line; omega) rfl (w_nil ⟨t, b2, .dat (.tup (bagD t.ws)), ht, w, ?_⟩)
  rw [List.map_append]; rfl
theorem tkOk_of {t : Tk} {k : Nat} (hk : k ≤ 5) (h : TkSm t) (w : t.ws.length ≤ k ∧ (∀ i ∈ t.ws, 0 ≤ i ∧ i < k) ∧ incB t.ws = true) : tkOk k t = true := by
  obtain ⟨⟨a1, a2⟩, ⟨b1, b2⟩, c1, c2⟩ := h
  obtain ⟨w1, w2, w3⟩ := w
  unfold tkOk
  have e : (t.ws.all fun i => decide (0 ≤ i) && decide (i ≤ (k : Int) - 1)) = true := List.all_eq_true.mpr fun i hi => by
    have := w2 i hi
    rw [Bool.and_eq_true, decide_eq_true_eq, decide_eq_true_eq]; omega
  rw [e, w3, Bool.true_and, Bool.true_and]
  simp only [Bool.and_eq_true, decide_eq_true_eq]
  omega
def bndL : List (Int × Int) := [(0, 10), (0, 4), (2, 5), (3, 3), (1, 2)]
def prD (q : Int × Int) : D := .tup [.int q.1, .int q.2]
theorem bnd_ok : ∀ q ∈ bndL, 0 ≤ q.1 ∧ q.1 ≤ q.2 ∧ q.2 ≤ 10 := by decide
theorem plan_spec (n : Nat) (bs : List Int) (m : Int) (hm : 1 ≤ m ∧ m ≤ 6) : ∃ (p : Pl) (bs' : List Int), (PlOk p ∧ PlSm p ∧ (p.ts.length : Int) ≤ m ∧ (p.l1, p.h1) ∈ bndL ∧ (p.l2, p.h2) ∈ bndL) ∧ (FN (n + 3)).fn 17 [.lent (.lst (bagD bs)), .dat (.int m)] = .ret (.dat (plD p)) [.lst (bagD bs')] := by
  rw [fn_at (d := d_law_plan) rfl]
  obtain ⟨i, b1, i0, i1, ev⟩ := take_ex (n + 1) bs m (by omega) [.dat (.int m), .own (.lst []), .no, .no, .no, .no] (.var 1) (r_var rfl)
  refine run_wp (out := fun x => ∃ (p : Pl) (bs' : List Int), (PlOk p ∧ PlSm p ∧ (p.ts.length : Int) ≤ m ∧ (p.l1, p.h1) ∈ bndL ∧ (p.l2, p.h2) ∈ bndL) ∧ x = .ret (.dat (plD p)) [.lst (bagD bs')]) rfl (by decide) ?_
  show Wp (FN (n + 2)) FU (.cons (.asgO 2 (.lst .nil)) (.cons (.forS (.nm 3) (.range1 (.bin .add (.cst (.int 1)) (.call 15 (.lent 0 (.e (.var 1) .nil))))) bodyPL) (.cons (.asg 5 (.lst (.cons (.tup (.cons (.cst (.int 0)) (.cons (.cst (.int 10)) .nil))) (.cons (.tup (.cons (.cst (.int 0)) (.cons (.cst (.int 4)) .nil))) (.cons (.tup (.cons (.cst (.int 2)) (.cons (.cst (.int 5)) .nil))) (.cons (.tup (.cons (.cst (.int 3)) (.cons (.cst (.int 3)) .nil))) (.cons (.tup (.cons (.cst (.int 1)) (.cons (.cst (.int 2)) .nil))) .nil))))))) (.cons (.ret (.tup (.cons (.bi .tuple (.cons (.var 2) .nil)) (.cons (.call 16 (.lent 0 (.e (.var 5) .nil))) (.cons (.call 16 (.lent 0 (.e (.var 5) .nil))) .nil))))) .nil)))) (eP bs m .no .no .no .no) _
  refine w_asgO (v := .own (.lst [])) (ρ1 := eP bs m .no .no .no .no) (r_lst l_nil (le_len rfl)) (lt_len rfl) rfl ?_
  have hr : range62 (1 + i) = true := by unfold range62; simp only [Bool.and_eq_true, decide_eq_true_eq]; omega
  have hI : evI (FN (n + 2)) (.range1 (.bin .add (.cst (.int 1)) (.call 15 (.lent 0 (.e (.var 1) .nil))))) (eP bs m (.own (.lst [])) .no .no .no) = .ok (rangeD 0 1 (1 + i).toNat) (eP b1 m (.own (.lst [])) .no .no .no) := by
    unfold eP
    repeat' (first
    | with_reducible (apply pid; assumption)
    | with_reducible (first | exact ev)
    | with_reducible (first | apply vd_dat | apply vd_own | apply r_cst | apply za_nil | apply l_nil | apply p_none | apply g_val | apply set_0 | apply set_s | apply pb_nil | apply pb_lent | apply pb_own | apply f_val | apply r_bin | apply r_neg | apply r_not | apply r_and | apply r_or | apply r_cmp | apply r_chain | apply r_call | apply r_len | apply r_bi | apply r_isi | apply r_tup | apply r_lst | apply r_idx | apply p_some | apply r_sl | apply r_rev | apply l_cons | apply a_e | apply za_lent | apply i_seq | apply i_range1 | apply i_range2 | apply i_range3 | apply i_zip | apply i_enum | apply tg_nm | apply tg_tup | apply tgs_nil | apply tgs_cons | apply b_add | apply b_sub | apply w_asg | apply w_asgO | apply w_asgT | apply w_par | apply w_par3 | apply w_appO | apply w_setO | apply w_expr | apply w_ifs | apply w_retV | apply w_raise | apply w_retN | apply w_nil | apply w_app_cons | apply w_app_nil | apply c_lt | apply c_le | apply c_gt | apply c_ge | apply zc_eq | apply zc_ne | apply zc_in | apply c_nin | apply eqD_i | apply bi_all | apply bi_any)
    | (with_reducible apply o_val rfl) | (with_reducible apply w_ret rfl)
    | ((with_reducible apply dom_any); rfl)
    | ((with_reducible apply r_var); rfl) | ((with_reducible apply o_var); rfl) | ((with_reducible apply o_own); rfl) | ((with_reducible apply o_lent); rfl) | ((with_reducible apply g_own); rfl) | ((with_reducible apply g_lent); rfl) | ((with_reducible apply r_varO); rfl)
    | (with_reducible apply b_mod; first | with_reducible assumption | decide | omega) | (with_reducible apply b_mul_r; first | with_reducible assumption | (with_reducible decide) | with_reducible (first | exact ev)) | (with_reducible apply b_mul_l; first | with_reducible assumption | (with_reducible decide) | with_reducible (first | exact ev))
    | with_reducible (first | exact ty_int_int | exact ty_int_bool | exact ty_int_tuple | exact ty_int_list | exact ty_int_str | exact ty_bl_int | exact ty_bl_bool | exact ty_bl_tuple | exact ty_bl_list | exact ty_bl_str | exact ty_non_int | exact ty_non_bool | exact ty_non_tuple | exact ty_non_list | exact ty_non_str | exact ty_str_int | exact ty_str_bool | exact ty_str_tuple | exact ty_str_list | exact ty_str_str | exact ty_tup_int | exact ty_tup_bool | exact ty_tup_tuple | exact ty_tup_list | exact ty_tup_str | exact ty_lst_int | exact ty_lst_bool | exact ty_lst_tuple | exact ty_lst_list | exact ty_lst_str)
    | exact lt_len rfl | exact le_len rfl | rfl | (intro _))
  refine w_for_inv (I := fun k ρ => ∃ (bs : List Int) (ts : List Tk) (x3 x4 : Slot), ts.length = k ∧ tksOk 0 ts = true ∧ (∀ t ∈ ts, TkSm t) ∧ ρ = eP bs m (.own (.lst (ts.map tkD))) x3 x4 .no) (ds := rangeD 0 1 (1 + i).toNat) hI ⟨b1, [], .no, .no, rfl, rfl, fun _ h => by (cases h), rfl⟩ (fun k d ρ hd ⟨bs, ts, x3, x4, h1, h2, h3, e⟩ => ?_) (fun ρ ⟨bs, ts, x3, x4, h1, h2, h3, e⟩ => ?_)
  · obtain ⟨hi, rfl⟩ := rangeD_get hd
    subst e
    refine ⟨eP bs m (.own (.lst (ts.map tkD))) (.dat (.int k)) x4 .no, by show some (eP bs m (.own (.lst (ts.map tkD))) (.dat (.int (0 + k * 1))) x4 .no) = _; rw [Int.mul_one, Int.zero_add], ?_⟩
    refine (bodyPL_ev n bs m ts k h1 (by omega) x4 .no).mono fun q ⟨t, b2, x, ht, w, e⟩ => ⟨_, .inl e, b2, ts ++ [t], _, _, by simp [h1], ?_, fun u hu => ?_, rfl⟩
    · rw [tksOk_snoc, h2, h1, Nat.zero_add, tkOk_of (by omega) ht w]; rfl
    · rcases List.mem_append.mp hu with hu | hu
      · exact h3 u hu
      · rw [List.mem_singleton.mp hu]; exact ht
  · subst e
    rw [rangeD_len] at h1
    refine w_asg (d := .lst (bndL.map prD)) (ρ1 := eP bs m (.own (.lst (ts.map tkD))) x3 x4 .no) (by unfold eP; repeat' (first
    | with_reducible (apply pid; assumption)
    
    | with_reducible (first | apply vd_dat | apply vd_own | apply r_cst | apply za_nil | apply l_nil | apply p_none | apply g_val | apply set_0 | apply set_s | apply pb_nil | apply pb_lent | apply pb_own | apply f_val | apply r_bin | apply r_neg | apply r_not | apply r_and | apply r_or | apply r_cmp | apply r_chain | apply r_call | apply r_len | apply r_bi | apply r_isi | apply r_tup | apply r_lst | apply r_idx | apply p_some | apply r_sl | apply r_rev | apply l_cons | apply a_e | apply za_lent | apply i_seq | apply i_range1 | apply i_range2 | apply i_range3 | apply i_zip | apply i_enum | apply tg_nm | apply tg_tup | apply tgs_nil | apply tgs_cons | apply b_add | apply b_sub | apply w_asg | apply w_asgO | apply w_asgT | apply w_par | apply w_par3 | apply w_appO | apply w_setO | apply w_expr | apply w_ifs | apply w_retV | apply w_raise | apply w_retN | apply w_nil | apply w_app_cons | apply w_app_nil | apply c_lt | apply c_le | apply c_gt | apply c_ge | apply zc_eq | apply zc_ne | apply zc_in | apply c_nin | apply eqD_i | apply bi_all | apply bi_any)
    | (with_reducible apply o_val rfl) | (with_reducible apply w_ret rfl)
    | ((with_reducible apply dom_any); rfl)
    | ((with_reducible apply r_var); rfl) | ((with_reducible apply o_var); rfl) | ((with_reducible apply o_own); rfl) | ((with_reducible apply o_lent); rfl) | ((with_reducible apply g_own); rfl) | ((with_reducible apply g_lent); rfl) | ((with_reducible apply r_varO); rfl)
    | (with_reducible apply b_mod; first | with_reducible assumption | decide | omega) | (with_reducible apply b_mul_r; first | with_reducible assumption | (with_reducible decide) ) | (with_reducible apply b_mul_l; first | with_reducible assumption | (with_reducible decide) )
    | with_reducible (first | exact ty_int_int | exact ty_int_bool | exact ty_int_tuple | exact ty_int_list | exact ty_int_str | exact ty_bl_int | exact ty_bl_bool | exact ty_bl_tuple | exact ty_bl_list | exact ty_bl_str | exact ty_non_int | exact ty_non_bool | exact ty_non_tuple | exact ty_non_list | exact ty_non_str | exact ty_str_int | exact ty_str_bool | exact ty_str_tuple | exact ty_str_list | exact ty_str_str | exact ty_tup_int | exact ty_tup_bool | exact ty_tup_tuple | exact ty_tup_list | exact ty_tup_str | exact ty_lst_int | exact ty_lst_bool | exact ty_lst_tuple | exact ty_lst_list | exact ty_lst_str)
    | exact lt_len rfl | exact le_len rfl | rfl | (intro _))) (lt_len rfl) rfl ?_
    obtain ⟨d1, c1, hd1, e1⟩ := choice_ex n bs (bndL.map prD) (by decide) [.dat (.int m), .dat (.lst (ts.map tkD)), x3, x4, .dat (.lst (bndL.map prD)), .no] (.var 5) (f_val (r_var rfl) rfl)
    obtain ⟨d2, c2, hd2, e2⟩ := choice_ex n c1 (bndL.map prD) (by decide) [.dat (.int m), .dat (.lst (ts.map tkD)), x3, x4, .dat (.lst (bndL.map prD)), .no] (.var 5) (f_val (r_var rfl) rfl)
    obtain ⟨q1, m1, rfl⟩ := List.mem_map.mp hd1
    obtain ⟨q2, m2, rfl⟩ := List.mem_map.mp hd2
    have o1 := bnd_ok q1 m1
    have o2 := bnd_ok q2 m2
    refine w_ret (v := .dat (.tup [.tup (ts.map tkD), prD q1, prD q2])) (ρ1 := [.lent (.lst (bagD c2)), .dat (.int m), .dat (.lst (ts.map tkD)), x3, x4, .dat (.lst (bndL.map prD)), .no]) rfl ?_ ⟨⟨ts, q1.1, q1.2, q2.1, q2.2⟩, c2, ⟨⟨by show 1 ≤ ts.length; omega, by show ts.length ≤ 6; omega, ⟨o1.1, o1.2.1, by show q1.2 ≤ 20; omega⟩, ⟨o2.1, o2.2.1, by show q2.2 ≤ 20; omega⟩, h2⟩, ⟨h3, o1.2.2, o2.2.2⟩, by show (ts.length : Int) ≤ m; omega, m1, m2⟩, fin_ret rfl⟩
    refine r_tup (l_cons (f_val (r_bi (l_cons (f_val (r_varO rfl) rfl) l_nil) rfl) rfl) (l_cons (f_val e1 rfl) (l_cons (f_val e2 rfl) l_nil))) (le_len rfl)
end K15
end
section
namespace K15
open PySem AP
/-! texts, plainly -/
abbrev cs (x : Str) : List Nat := x.cps.toList
theorem cs_len (x : Str) : x.length = (cs x).length := TL.len_tl x
theorem cs_ext {x y : Str} (h : cs x = cs y) : x = y := TL.ext_tl h
theorem cs_app (x y : Str) : cs (x ++ y) = cs x ++ cs y := TL.tl_append x y
/-- the separators -/
structure Sep (y : Str) (c : Nat) : Prop where
  cs : cs y = [c]
  lt : c < 128
theorem sep_sp : Sep (" " : Str) 32 := ⟨by decide +kernel, by decide⟩
theorem sep_nl : Sep ("\n" : Str) 10 := ⟨by decide +kernel, by decide⟩
theorem sep_cm : Sep ("," : Str) 44 := ⟨by decide +kernel, by decide⟩
theorem Sep.split_join {y : Str} {c : Nat} (h : Sep y c) {parts : List Str} (hne : parts ≠ []) (hp : ∀ p ∈ parts, c ∉ K15.cs p) : Txt.split (Txt.join y parts) y = parts := by
  refine TL.split_join h.cs ?_ hne hp
  rw [← Array.all_toList]
  show (List.all (K15.cs y) _) = true
  rw [h.cs]
  have := h.lt
  simp; omega
theorem join_split (x y : Str) : Txt.join y (Txt.split x y) = x := by rw [TL.join_eq]; exact StrLaws.join_split x y
theorem cs_join (y : Str) (parts : List Str) : cs (Txt.join y parts) = TL.joinL (cs y) (parts.map cs) := by rw [TL.join_eq]; exact TL.tl_join y parts
theorem mem_joinL {S : List Nat} : ∀ {ps : List (List Nat)} {p : List Nat} {c : Nat}, p ∈ ps → c ∈ p → c ∈ TL.joinL S ps
  | [q], p, c, h, hc => by
    rw [List.mem_singleton.mp h] at hc; exact hc
  | q :: r :: s, p, c, h, hc => by
    show c ∈ q ++ (S ++ TL.joinL S (r :: s))
    rcases List.mem_cons.mp h with rfl | h
    · exact List.mem_append_left _ hc
    · exact List.mem_append_right _ (List.mem_append_right _ (mem_joinL h hc))
theorem joinL_mem {S : List Nat} : ∀ {ps : List (List Nat)} {c : Nat}, c ∈ TL.joinL S ps → c ∈ S ∨ ∃ p ∈ ps, c ∈ p
  | [], c, h => by cases h
  | [q], c, h => .inr ⟨q, List.mem_singleton.mpr rfl, h⟩
  | q :: r :: s, c, h => by
    have h : c ∈ q ++ (S ++ TL.joinL S (r :: s)) := h
    rcases List.mem_append.mp h with h | h
    · exact .inr ⟨q, List.mem_cons_self, h⟩
    · rcases List.mem_append.mp h with h | h
      · exact .inl h
      · rcases joinL_mem h with h | ⟨p, hp, hc⟩
        · exact .inl h
        · exact .inr ⟨p, List.mem_cons_of_mem _ hp, hc⟩
theorem len_joinL {S : List Nat} : ∀ {ps : List (List Nat)} {p : List Nat}, p ∈ ps → p.length ≤ (TL.joinL S ps).length
  | [q], p, h => by rw [List.mem_singleton.mp h]; exact Nat.le_refl _
  | q :: r :: s, p, h => by
    show _ ≤ (q ++ (S ++ TL.joinL S (r :: s))).length
    rw [List.length_append, List.length_append]
    rcases List.mem_cons.mp h with rfl | h
    · omega
    · have := len_joinL (S := S) h; omega
theorem joinL_len {S : List Nat} {m : Nat} : ∀ {ps : List (List Nat)}, (∀ p ∈ ps, p.length ≤ m) → (TL.joinL S ps).length ≤ ps.length * (m + S.length)
  | [], _ => Nat.zero_le _
  | [q], h => by
    have := h q (List.mem_singleton.mpr rfl)
    show q.length ≤ _
    rw [List.length_singleton]; omega
  | q :: r :: s, h => by
    have h1 := h q List.mem_cons_self
    have h2 := joinL_len (S := S) (m := m) (ps := r :: s) fun p hp => h p (List.mem_cons_of_mem _ hp)
    show (q ++ (S ++ TL.joinL S (r :: s))).length ≤ _
    rw [List.length_append, List.length_append, List.length_cons, Nat.add_mul]
    omega
theorem split_mem {x y p : Str} (hp : p ∈ Txt.split x y) : (∀ c ∈ cs p, c ∈ cs x) ∧ p.length ≤ x.length := by
  have e := cs_join y (Txt.split x y)
  rw [join_split] at e
  have hm : cs p ∈ (Txt.split x y).map cs := List.mem_map.mpr ⟨p, hp, rfl⟩
  refine ⟨fun c hc => by rw [e]; exact mem_joinL hm hc, ?_⟩
  rw [cs_len, cs_len x, e]
  exact len_joinL hm
theorem split_pos (x y : Str) : 1 ≤ (Txt.split x y).length := (PyProof.Rows.fact_split x y).1
theorem split_cnt (x y : Str) : (Txt.split x y).length ≤ x.length + 2 := (PyProof.Rows.fact_split x y).2
/-- a short text of plain signs -/
structure Pln (k : Nat) (x : Str) : Prop where
  len : x.length ≤ k
  lt : ∀ c ∈ cs x, c < 128
theorem Pln.up {k m : Nat} {x : Str} (h : Pln k x) (hk : k ≤ m) : Pln m x := ⟨Nat.le_trans h.len hk, h.lt⟩
theorem Pln.split {k : Nat} {x y p : Str} (h : Pln k x) (hp : p ∈ Txt.split x y) : Pln k p :=
  ⟨Nat.le_trans (split_mem hp).2 h.len, fun c hc => h.lt c ((split_mem hp).1 c hc)⟩
theorem Pln.ok {k : Nat} {x : Str} (h : Pln k x) : PyData.strOk x = true := by
  unfold PyData.strOk
  rw [← Array.all_toList]
  exact List.all_eq_true.mpr fun c hc => decide_eq_true (by have := h.lt c hc; omega)
theorem Pln.app {k m : Nat} {x y : Str} (h : Pln k x) (h2 : Pln m y) : Pln (k + m) (x ++ y) := by
  refine ⟨?_, fun c hc => ?_⟩
  · rw [cs_len, cs_app, List.length_append, ← cs_len, ← cs_len]
    have := h.len; have := h2.len; omega
  · rw [cs_app] at hc
    rcases List.mem_append.mp hc with hc | hc
    · exact h.lt c hc
    · exact h2.lt c hc
theorem Pln.join {k c n : Nat} {y : Str} {ps : List Str} (hy : Sep y c) (h : ∀ p ∈ ps, Pln k p) (hn : ps.length ≤ n) : Pln (n * (k + 1)) (Txt.join y ps) := by
  refine ⟨?_, fun d hd => ?_⟩
  · rw [cs_len, cs_join, hy.cs]
    have := joinL_len (S := [c]) (m := k) (ps := ps.map cs) fun p hp => by
      obtain ⟨q, hq, rfl⟩ := List.mem_map.mp hp
      rw [← cs_len]; exact (h q hq).len
    rw [List.length_map] at this
    exact Nat.le_trans this (Nat.mul_le_mul_right _ hn)
  · rw [cs_join, hy.cs] at hd
    rcases joinL_mem hd with hd | ⟨p, hp, hd⟩
    · rw [List.mem_singleton.mp hd]; exact hy.lt
    · obtain ⟨q, hq, rfl⟩ := List.mem_map.mp hp
      exact (h q hq).lt d hd
/-! numbers -/
theorem numS_nat (n : Nat) : cs (numS (n : Int)) = TL.numL n := TL.tl_num n
theorem numS_dig (n : Nat) : ∀ c ∈ cs (numS (n : Int)), 48 ≤ c ∧ c ≤ 57 := fun c hc => by
  rw [numS_nat] at hc; exact TL.numL_digits n c hc
theorem numS_ne (n : Nat) : cs (numS (n : Int)) ≠ [] := by rw [numS_nat]; exact TL.numL_ne n
theorem numS_len {n : Nat} (h : n < 100) : (numS (n : Int)).length ≤ 2 := by
  rw [cs_len, numS_nat]; exact TL.numL_len (by decide) h
theorem numS_pln {n : Nat} (h : n < 100) : Pln 2 (numS (n : Int)) := ⟨numS_len h, fun c hc => by have := numS_dig n c hc; omega⟩
theorem numS_free {n s : Nat} (h : s < 48 ∨ 57 < s) : s ∉ cs (numS (n : Int)) := fun hc => by have := numS_dig n s hc; omega
def digs (w : Str) : Bool := (cs w).all fun c => decide (48 ≤ c) && decide (c ≤ 57)
def valS (w : Str) : Int := (NumText.digitsVal (cs w) : Nat)
theorem numS_digs (n : Nat) : digs (numS (n : Int)) = true := List.all_eq_true.mpr fun c hc => by
  have := numS_dig n c hc
  rw [Bool.and_eq_true, decide_eq_true_eq, decide_eq_true_eq]; exact this
theorem numS_val (n : Nat) : valS (numS (n : Int)) = n := by
  unfold valS
  rw [numS_nat, TL.numL_val]
/-- the program's reading of a number, the law's -/
def numIn (w : Str) : Int := if (decide (1 ≤ w.length) && decide (w.length ≤ 2)) && digs w then valS w else -1
def lawInt (w : Str) : D := if w = "" ∨ 2 < w.length ∨ digs w = false then .non else if numS (valS w) = w then .int (valS w) else .non
theorem numIn_num {n : Nat} (h : n < 100) : numIn (numS (n : Int)) = n := by
  unfold numIn
  have h1 : 1 ≤ (numS (n : Int)).length := by
    rw [cs_len]; exact List.length_pos_iff.mpr (numS_ne n)
  rw [decide_eq_true h1, decide_eq_true (numS_len h), numS_digs, numS_val]; rfl
theorem empty_cs : cs ("" : Str) = [] := by decide +kernel
theorem lawInt_num {n : Nat} (h : n < 100) : lawInt (numS (n : Int)) = .int n := by
  unfold lawInt
  have h1 : ¬ (numS (n : Int) = "" ∨ 2 < (numS (n : Int)).length ∨ digs (numS (n : Int)) = false) := by
    intro z
    rcases z with z | z | z
    · have := congrArg cs z
      rw [empty_cs] at this
      exact numS_ne n this
    · have := numS_len h; omega
    · rw [numS_digs] at z; cases z
  rw [if_neg h1, numS_val, if_pos rfl]
theorem lawInt_inv {w : Str} {i : Int} (h : lawInt w = .int i) : w = numS i := by
  unfold lawInt at h
  split at h
  · cases h
  · split at h
    · rename_i e
      cases h; exact e.symm
    · cases h
/-! plans as texts -/
def waitsS (ws : List Int) : Str := if ws = [] then "-" else Txt.join "," (ws.map numS)
def lineS (t : Tk) : Str := Txt.join " " [("task" : Str), waitsS t.ws, numS t.a, numS t.b, numS t.c]
def headS (k : Str) (l h : Int) : Str := Txt.join " " [k, numS l, numS h]
def linesS (p : Pl) : List Str := headS "first" p.l1 p.h1 :: headS "second" p.l2 p.h2 :: p.ts.map lineS
def textS (p : Pl) : Str := Txt.join "\n" (linesS p)
theorem toNat_of {i : Int} (h : 0 ≤ i ∧ i < 100) : ∃ n : Nat, i = n ∧ n < 100 := ⟨i.toNat, by omega, by omega⟩
/-- what a written number is like -/
structure Nu (i : Int) : Prop where
  a : 0 ≤ i
  b : i < 100
theorem Nu.free {i : Int} (h : Nu i) {s : Nat} (hs : s < 48 ∨ 57 < s) : s ∉ cs (numS i) := by
  obtain ⟨n, rfl, _⟩ := toNat_of ⟨h.a, h.b⟩; exact numS_free hs
theorem Nu.pln {i : Int} (h : Nu i) : Pln 2 (numS i) := by
  obtain ⟨n, rfl, hn⟩ := toNat_of ⟨h.a, h.b⟩; exact numS_pln hn
theorem Nu.numIn {i : Int} (h : Nu i) : numIn (numS i) = i := by
  obtain ⟨n, rfl, hn⟩ := toNat_of ⟨h.a, h.b⟩; exact numIn_num hn
theorem Nu.lawInt {i : Int} (h : Nu i) : lawInt (numS i) = .int i := by
  obtain ⟨n, rfl, hn⟩ := toNat_of ⟨h.a, h.b⟩; exact lawInt_num hn
structure TkNu (t : Tk) : Prop where
  ws : ∀ w ∈ t.ws, Nu w
  wl : t.ws.length ≤ 5
  a : Nu t.a
  b : Nu t.b
  c : Nu t.c
theorem dash_cs : cs ("-" : Str) = [45] := by decide +kernel
theorem task_cs : cs ("task" : Str) = [116, 97, 115, 107] := by decide +kernel
theorem first_cs : cs ("first" : Str) = [102, 105, 114, 115, 116] := by decide +kernel
theorem second_cs : cs ("second" : Str) = [115, 101, 99, 111, 110, 100] := by decide +kernel
theorem waits_mem {ws : List Int} (h : ∀ w ∈ ws, Nu w) {c : Nat} (hc : c ∈ cs (waitsS ws)) : c = 45 ∨ c = 44 ∨ (48 ≤ c ∧ c ≤ 57) := by
  unfold waitsS at hc
  split at hc
  · rw [dash_cs] at hc; exact .inl (List.mem_singleton.mp hc)
  · rw [cs_join, sep_cm.cs] at hc
    rcases joinL_mem hc with hc | ⟨p, hp, hc⟩
    · exact .inr (.inl (List.mem_singleton.mp hc))
    · obtain ⟨q, hq, rfl⟩ := List.mem_map.mp hp
      obtain ⟨w, hw, rfl⟩ := List.mem_map.mp hq
      refine .inr (.inr ?_)
      by_cases z : c < 48 ∨ 57 < c
      · exact absurd hc ((h w hw).free z)
      · omega
theorem waits_dash {ws : List Int} (h : ∀ w ∈ ws, Nu w) (hn : ws ≠ []) : waitsS ws ≠ "-" := fun e => by
  unfold waitsS at e
  rw [if_neg hn] at e
  have e2 := congrArg cs e
  rw [cs_join, dash_cs, sep_cm.cs] at e2
  have hm : 45 ∈ TL.joinL [44] ((ws.map numS).map cs) := by rw [e2]; exact List.mem_singleton.mpr rfl
  rcases joinL_mem hm with hc | ⟨p, hp, hc⟩
  · simp at hc
  · obtain ⟨q, hq, rfl⟩ := List.mem_map.mp hp
    obtain ⟨w, hw, rfl⟩ := List.mem_map.mp hq
    exact (h w hw).free (by decide) hc
theorem waits_split {ws : List Int} (h : ∀ w ∈ ws, Nu w) (hn : ws ≠ []) : Txt.split (waitsS ws) "," = ws.map numS := by
  unfold waitsS
  rw [if_neg hn]
  refine sep_cm.split_join (by simpa using hn) fun p hp => ?_
  obtain ⟨w, hw, rfl⟩ := List.mem_map.mp hp
  exact (h w hw).free (by decide)
theorem waits_pln {ws : List Int} (h : ∀ w ∈ ws, Nu w) (hl : ws.length ≤ 5) : Pln 15 (waitsS ws) := by
  unfold waitsS
  split
  · refine ⟨?_, fun c hc => ?_⟩
    · rw [cs_len, dash_cs]; decide
    · rw [dash_cs] at hc; rw [List.mem_singleton.mp hc]; decide
  · refine Pln.join (k := 2) (n := 5) sep_cm (fun p hp => ?_) (by rw [List.length_map]; exact hl)
    obtain ⟨w, hw, rfl⟩ := List.mem_map.mp hp
    exact (h w hw).pln
theorem pln_of {x : Str} {l : List Nat} {k : Nat} (h : cs x = l) (hl : l.length ≤ k) (hc : ∀ c ∈ l, c < 128) : Pln k x := ⟨by rw [cs_len, h]; exact hl, fun c hx => hc c (by rw [← h]; exact hx)⟩
theorem line_parts {t : Tk} (h : TkNu t) : ∀ p ∈ [("task" : Str), waitsS t.ws, numS t.a, numS t.b, numS t.c], Pln 15 p ∧ 32 ∉ cs p ∧ 10 ∉ cs p := fun p hp => by
  simp only [List.mem_cons, List.not_mem_nil, or_false] at hp
  rcases hp with rfl | rfl | rfl | rfl | rfl
  · exact ⟨pln_of task_cs (by decide) (by decide), by rw [task_cs]; decide, by rw [task_cs]; decide⟩
  · refine ⟨waits_pln h.ws h.wl, fun hc => ?_, fun hc => ?_⟩
    · have := waits_mem h.ws hc; omega
    · have := waits_mem h.ws hc; omega
  · exact ⟨h.a.pln.up (by decide), h.a.free (by decide), h.a.free (by decide)⟩
  · exact ⟨h.b.pln.up (by decide), h.b.free (by decide), h.b.free (by decide)⟩
  · exact ⟨h.c.pln.up (by decide), h.c.free (by decide), h.c.free (by decide)⟩
theorem line_split {t : Tk} (h : TkNu t) : Txt.split (lineS t) " " = [("task" : Str), waitsS t.ws, numS t.a, numS t.b, numS t.c] :=
  sep_sp.split_join (by simp) fun p hp => (line_parts h p hp).2.1
theorem join_free {y : Str} {s : Nat} (hy : Sep y s) {c : Nat} (hs : c ≠ s) {ps : List Str} (h : ∀ p ∈ ps, c ∉ cs p) : c ∉ cs (Txt.join y ps) := fun hc => by
  rw [cs_join, hy.cs] at hc
  rcases joinL_mem hc with hc | ⟨p, hp, hc⟩
  · exact hs (List.mem_singleton.mp hc)
  · obtain ⟨q, hq, rfl⟩ := List.mem_map.mp hp
    exact h q hq hc
theorem line_ok {t : Tk} (h : TkNu t) : Pln 80 (lineS t) ∧ 10 ∉ cs (lineS t) :=
  ⟨Pln.join (k := 15) (n := 5) sep_sp (fun p hp => (line_parts h p hp).1) (by simp), join_free sep_sp (by decide) fun p hp => (line_parts h p hp).2.2⟩
theorem head_parts {k : Str} {K : List Nat} (hk : cs k = K) (hK : K.length ≤ 15 ∧ (∀ c ∈ K, c < 128) ∧ 32 ∉ K ∧ 10 ∉ K) {l u : Int} (hl : Nu l) (hu : Nu u) : ∀ p ∈ [k, numS l, numS u], Pln 15 p ∧ 32 ∉ cs p ∧ 10 ∉ cs p := fun p hp => by
  simp only [List.mem_cons, List.not_mem_nil, or_false] at hp
  rcases hp with rfl | rfl | rfl
  · exact ⟨pln_of hk hK.1 hK.2.1, by rw [hk]; exact hK.2.2.1, by rw [hk]; exact hK.2.2.2⟩
  · exact ⟨hl.pln.up (by decide), hl.free (by decide), hl.free (by decide)⟩
  · exact ⟨hu.pln.up (by decide), hu.free (by decide), hu.free (by decide)⟩
theorem first_K : [102, 105, 114, 115, 116].length ≤ 15 ∧ (∀ c ∈ [102, 105, 114, 115, 116], c < 128) ∧ 32 ∉ [102, 105, 114, 115, 116] ∧ 10 ∉ [102, 105, 114, 115, 116] := by decide
theorem second_K : [115, 101, 99, 111, 110, 100].length ≤ 15 ∧ (∀ c ∈ [115, 101, 99, 111, 110, 100], c < 128) ∧ 32 ∉ [115, 101, 99, 111, 110, 100] ∧ 10 ∉ [115, 101, 99, 111, 110, 100] := by decide
theorem head_split {k : Str} {K : List Nat} (hk : cs k = K) (hK : K.length ≤ 15 ∧ (∀ c ∈ K, c < 128) ∧ 32 ∉ K ∧ 10 ∉ K) {l u : Int} (hl : Nu l) (hu : Nu u) : Txt.split (headS k l u) " " = [k, numS l, numS u] :=
  sep_sp.split_join (by simp) fun p hp => (head_parts hk hK hl hu p hp).2.1
theorem head_ok {k : Str} {K : List Nat} (hk : cs k = K) (hK : K.length ≤ 15 ∧ (∀ c ∈ K, c < 128) ∧ 32 ∉ K ∧ 10 ∉ K) {l u : Int} (hl : Nu l) (hu : Nu u) : Pln 80 (headS k l u) ∧ 10 ∉ cs (headS k l u) :=
  ⟨(Pln.join (k := 15) (n := 3) sep_sp (fun p hp => (head_parts hk hK hl hu p hp).1) (by simp)).up (by decide), join_free sep_sp (by decide) fun p hp => (head_parts hk hK hl hu p hp).2.2⟩
structure PlNu (p : Pl) : Prop where
  ts : ∀ t ∈ p.ts, TkNu t
  l1 : Nu p.l1
  h1 : Nu p.h1
  l2 : Nu p.l2
  h2 : Nu p.h2
  len1 : 1 ≤ p.ts.length
  len : p.ts.length ≤ 6
theorem lines_ok {p : Pl} (h : PlNu p) : ∀ l ∈ linesS p, Pln 80 l ∧ 10 ∉ cs l := fun l hl => by
  unfold linesS at hl
  rcases List.mem_cons.mp hl with rfl | hl
  · exact head_ok first_cs first_K h.l1 h.h1
  · rcases List.mem_cons.mp hl with rfl | hl
    · exact head_ok second_cs second_K h.l2 h.h2
    · obtain ⟨t, ht, rfl⟩ := List.mem_map.mp hl
      exact line_ok (h.ts t ht)
theorem text_split {p : Pl} (h : PlNu p) : Txt.split (textS p) "\n" = linesS p := sep_nl.split_join (by unfold linesS; simp) fun l hl => (lines_ok h l hl).2
theorem text_pln {p : Pl} (h : PlNu p) : Pln 648 (textS p) := Pln.join (k := 80) (n := 8) sep_nl (fun l hl => (lines_ok h l hl).1) (by unfold linesS; simp; have := h.len; omega)
end K15
end
section
namespace K15
open PySem AP
/-! what texts are read as -/
theorem tkOk_facts {k : Int} {t : Tk} (h : tkOk k t = true) : t.ws.length ≤ 5 ∧ (∀ o ∈ t.ws, 0 ≤ o ∧ o < k) ∧ incB t.ws = true ∧ (0 ≤ t.a ∧ t.a ≤ 9) ∧ (0 ≤ t.b ∧ t.b ≤ 9) ∧ (0 ≤ t.c ∧ t.c ≤ 60) := by
  unfold tkOk at h
  simp only [Bool.and_eq_true, decide_eq_true_eq, List.all_eq_true] at h
  obtain ⟨h1, h2, h3, h4, h5, h6⟩ := h
  exact ⟨h1, fun o ho => by have := h2 o ho; omega, h3, h4, h5, h6⟩
theorem tksOk_mem : ∀ {ts : List Tk} {n : Nat}, tksOk n ts = true → ∀ t ∈ ts, ∃ k : Nat, k < n + ts.length ∧ tkOk k t = true
  | [], _, _, t, ht => by cases ht
  | s :: r, n, h, t, ht => by
    rw [tksOk, Bool.and_eq_true] at h
    rcases List.mem_cons.mp ht with rfl | ht
    · exact ⟨n, by rw [List.length_cons]; omega, h.1⟩
    · obtain ⟨k, hk, e⟩ := tksOk_mem h.2 t ht
      exact ⟨k, by rw [List.length_cons]; omega, e⟩
theorem PlOk.nu {p : Pl} (h : PlOk p) : PlNu p := by
  have l6 := h.len6
  refine ⟨fun t ht => ?_, ?_, ?_, ?_, ?_, h.len1, l6⟩
  · obtain ⟨k, hk, e⟩ := tksOk_mem h.tk t ht
    obtain ⟨f1, f2, _, f4, f5, f6⟩ := tkOk_facts e
    exact ⟨fun w hw => by have := f2 w hw; exact ⟨this.1, by omega⟩, f1, ⟨f4.1, by omega⟩, ⟨f5.1, by omega⟩, ⟨f6.1, by omega⟩⟩
  · exact ⟨h.b1.1, by have := h.b1; omega⟩
  · exact ⟨by have := h.b1; omega, by have := h.b1; omega⟩
  · exact ⟨h.b2.1, by have := h.b2; omega⟩
  · exact ⟨by have := h.b2; omega, by have := h.b2; omega⟩
/-! plans, typed again -/
theorem taskB_inv {num : Int} {v : D} (h : taskB num v = true) : ∃ t, v = tkD t ∧ tkOk num t = true := by
  unfold taskB at h
  split at h
  · rename_i ws a b c
    have h0 := h
    simp only [Bool.and_eq_true, decide_eq_true_eq] at h
    obtain ⟨h1, h2, h3, h4, h5, h6⟩ := h
    obtain ⟨is, rfl⟩ := whole_all ws h2
    obtain ⟨i, rfl, _⟩ := wholeB_known h4
    obtain ⟨j, rfl, _⟩ := wholeB_known h5
    obtain ⟨k, rfl, _⟩ := wholeB_known h6
    refine ⟨⟨is, i, j, k⟩, rfl, ?_⟩
    rw [← taskB_tkD]
    exact h0
  · cases h
theorem tasksB_inv : ∀ {ts : List D} {n : Nat}, (tasksB n ts).all id = true → ∃ us : List Tk, ts = us.map tkD ∧ tksOk n us = true
  | [], _, _ => ⟨[], rfl, rfl⟩
  | d :: r, n, h => by
    rw [tasksB, List.all_cons, Bool.and_eq_true] at h
    obtain ⟨t, rfl, e⟩ := taskB_inv h.1
    obtain ⟨us, rfl, e2⟩ := tasksB_inv h.2
    exact ⟨t :: us, rfl, by rw [tksOk, e, e2]; rfl⟩
theorem boundsB_inv {v : D} (h : boundsB v = true) : ∃ a b : Int, v = .tup [.int a, .int b] ∧ 0 ≤ a ∧ a ≤ b ∧ b ≤ 20 := by
  unfold boundsB at h
  split at h
  · rename_i a b
    simp only [Bool.and_eq_true, decide_eq_true_eq] at h
    exact ⟨a, b, rfl, h.1.1, h.1.2, h.2⟩
  · cases h
theorem planB_inv {v : D} (h : planB v = true) : ∃ p, v = plD p ∧ PlOk p := by
  unfold planB at h
  split at h
  · rename_i ts a b
    simp only [Bool.and_eq_true, decide_eq_true_eq] at h
    obtain ⟨h1, h2, h3, h4, h5⟩ := h
    obtain ⟨l1, u1, rfl, e1⟩ := boundsB_inv h3
    obtain ⟨l2, u2, rfl, e2⟩ := boundsB_inv h4
    obtain ⟨us, rfl, e3⟩ := tasksB_inv h5
    rw [List.length_map] at h1 h2
    exact ⟨⟨us, l1, u1, l2, u2⟩, rfl, ⟨h1, h2, e1, e2, e3⟩⟩
  · cases h
/-! the program's reading -/
def progTask (line : Str) : D := .tup (.tup ((if 1 < (Txt.split line " ").length ∧ (Txt.split line " ").getD 1 "" ≠ "-" then Txt.split ((Txt.split line " ").getD 1 "") "," else []).map fun w => .int (numIn w)) :: ((Txt.split line " ").drop 2).map fun w => .int (numIn w))
def progHead (line : Str) : D := .tup (((Txt.split line " ").drop 1).map fun w => .int (numIn w))
def progD (x : Str) : D := .tup (.tup (((Txt.split x "\n").drop 2).map progTask) :: ((Txt.split x "\n").take 2).map progHead)
theorem map_num {ws : List Int} (h : ∀ w ∈ ws, Nu w) : (ws.map numS).map (fun w => D.int (numIn w)) = bagD ws := by
  rw [List.map_map]
  refine List.map_congr_left fun w hw => ?_
  show D.int (numIn (numS w)) = _
  rw [(h w hw).numIn]
theorem prog_task {t : Tk} (h : TkNu t) : progTask (lineS t) = tkD t := by
  unfold progTask tkD
  rw [line_split h]
  have e : (if 1 < [("task" : Str), waitsS t.ws, numS t.a, numS t.b, numS t.c].length ∧ [("task" : Str), waitsS t.ws, numS t.a, numS t.b, numS t.c].getD 1 "" ≠ "-" then Txt.split ([("task" : Str), waitsS t.ws, numS t.a, numS t.b, numS t.c].getD 1 "") "," else []) = t.ws.map numS := by
    by_cases hn : t.ws = []
    · exact (if_neg (fun z => z.2 (show waitsS t.ws = "-" by rw [hn]; rfl))).trans (by rw [hn]; rfl)
    · exact (if_pos ⟨show 1 < 5 by decide, waits_dash h.ws hn⟩).trans (waits_split h.ws hn)
  rw [e, map_num h.ws]
  show D.tup [.tup (bagD t.ws), .int (numIn (numS t.a)), .int (numIn (numS t.b)), .int (numIn (numS t.c))] = _
  rw [h.a.numIn, h.b.numIn, h.c.numIn]
theorem prog_head {k : Str} {K : List Nat} (hk : cs k = K) (hK : K.length ≤ 15 ∧ (∀ c ∈ K, c < 128) ∧ 32 ∉ K ∧ 10 ∉ K) {l u : Int} (hl : Nu l) (hu : Nu u) : progHead (headS k l u) = .tup [.int l, .int u] := by
  unfold progHead
  rw [head_split hk hK hl hu]
  show D.tup [.int (numIn (numS l)), .int (numIn (numS u))] = _
  rw [hl.numIn, hu.numIn]
theorem prog_text {p : Pl} (h : PlNu p) : progD (textS p) = plD p := by
  unfold progD plD
  rw [text_split h]
  show D.tup (.tup ((p.ts.map lineS).map progTask) :: [progHead (headS "first" p.l1 p.h1), progHead (headS "second" p.l2 p.h2)]) = _
  rw [prog_head first_cs first_K h.l1 h.h1, prog_head second_cs second_K h.l2 h.h2, List.map_map]
  congr 3
  refine List.map_congr_left fun t ht => prog_task (h.ts t ht)
/-! the law's reading -/
def lawTask (ws : List Str) : D := .tup (.tup (if ws.getD 1 "" = "-" then [] else (Txt.split (ws.getD 1 "") ",").map lawInt) :: (ws.drop 2).map lawInt)
def lawHead (ws : List Str) : D := .tup ((ws.drop 1).map lawInt)
def rowsS (x : Str) : List (List Str) := (Txt.split x "\n").map fun l => Txt.split l " "
def headsT (n : Nat) : List Str := [("first" : Str), ("second" : Str)] ++ List.replicate n ("task" : Str)
def lawV (rows : List (List Str)) : D := .tup [.tup ((rows.drop 2).map lawTask), lawHead (rows.getD 0 []), lawHead (rows.getD 1 [])]
def lawD (x : Str) : D := if (rowsS x).length < 3 ∨ (rowsS x).map (fun r => r.getD 0 "") ≠ headsT ((rowsS x).length - 2) then .non
  else if ((rowsS x).drop 2).all (fun r => decide (r.length = 5)) = false then .non
  else if planB (lawV (rowsS x)) = true then lawV (rowsS x) else .non
theorem lawInt_map {ws : List Int} (h : ∀ w ∈ ws, Nu w) : (ws.map numS).map lawInt = bagD ws := by
  rw [List.map_map]
  refine List.map_congr_left fun w hw => ?_
  exact (h w hw).lawInt
theorem law_task {t : Tk} (h : TkNu t) : lawTask [("task" : Str), waitsS t.ws, numS t.a, numS t.b, numS t.c] = tkD t := by
  unfold lawTask tkD
  have e : (if [("task" : Str), waitsS t.ws, numS t.a, numS t.b, numS t.c].getD 1 "" = "-" then [] else (Txt.split ([("task" : Str), waitsS t.ws, numS t.a, numS t.b, numS t.c].getD 1 "") ",").map lawInt) = bagD t.ws := by
    by_cases hn : t.ws = []
    · exact (if_pos (show waitsS t.ws = "-" by rw [hn]; rfl)).trans (by rw [hn]; rfl)
    · refine (if_neg (show ¬ waitsS t.ws = "-" from waits_dash h.ws hn)).trans ?_
      show (Txt.split (waitsS t.ws) ",").map lawInt = _
      rw [waits_split h.ws hn, lawInt_map h.ws]
  rw [e]
  show D.tup [.tup (bagD t.ws), lawInt (numS t.a), lawInt (numS t.b), lawInt (numS t.c)] = _
  rw [h.a.lawInt, h.b.lawInt, h.c.lawInt]
theorem rows_text {p : Pl} (h : PlNu p) : rowsS (textS p) = [("first" : Str), numS p.l1, numS p.h1] :: [("second" : Str), numS p.l2, numS p.h2] :: p.ts.map fun t => [("task" : Str), waitsS t.ws, numS t.a, numS t.b, numS t.c] := by
  unfold rowsS
  rw [text_split h]
  unfold linesS
  rw [List.map_cons, List.map_cons, head_split first_cs first_K h.l1 h.h1, head_split second_cs second_K h.l2 h.h2, List.map_map]
  congr 2
  exact List.map_congr_left fun t ht => line_split (h.ts t ht)
theorem map_const {α β : Type} (l : List α) (b : β) (f : α → β) (h : ∀ a ∈ l, f a = b) : l.map f = List.replicate l.length b := by
  induction l with
  | nil => rfl
  | cons a r ih =>
    rw [List.map_cons, h a List.mem_cons_self, ih fun x hx => h x (List.mem_cons_of_mem _ hx), List.length_cons, List.replicate_succ]
theorem law_text {p : Pl} (hp : PlOk p) : lawD (textS p) = plD p := by
  have h := hp.nu
  have e := rows_text h
  have l1 := h.len1
  unfold lawD
  rw [e]
  have c1 : ¬ (([("first" : Str), numS p.l1, numS p.h1] :: [("second" : Str), numS p.l2, numS p.h2] :: p.ts.map fun t => [("task" : Str), waitsS t.ws, numS t.a, numS t.b, numS t.c]).length < 3 ∨ ([("first" : Str), numS p.l1, numS p.h1] :: [("second" : Str), numS p.l2, numS p.h2] :: p.ts.map fun t => [("task" : Str), waitsS t.ws, numS t.a, numS t.b, numS t.c]).map (fun r => r.getD 0 "") ≠ headsT (([("first" : Str), numS p.l1, numS p.h1] :: [("second" : Str), numS p.l2, numS p.h2] :: p.ts.map fun t => [("task" : Str), waitsS t.ws, numS t.a, numS t.b, numS t.c]).length - 2)) := by
    intro z
    rcases z with z | z
    · simp at z; omega
    · refine z ?_
      unfold headsT
      rw [List.map_cons, List.map_cons, List.map_map, List.length_cons, List.length_cons, List.length_map, show p.ts.length + 1 + 1 - 2 = p.ts.length by omega]
      have := map_const p.ts ("task" : Str) ((fun r : List Str => r.getD 0 "") ∘ fun t => [("task" : Str), waitsS t.ws, numS t.a, numS t.b, numS t.c]) fun t _ => rfl
      rw [this]
      rfl
  rw [if_neg c1]
  have c2 : ¬ ((([("first" : Str), numS p.l1, numS p.h1] :: [("second" : Str), numS p.l2, numS p.h2] :: p.ts.map fun t => [("task" : Str), waitsS t.ws, numS t.a, numS t.b, numS t.c]).drop 2).all (fun r => decide (r.length = 5)) = false) := by
    rw [Bool.not_eq_false]
    refine List.all_eq_true.mpr fun r hr => ?_
    obtain ⟨t, _, rfl⟩ := List.mem_map.mp (show r ∈ p.ts.map _ from hr)
    rfl
  rw [if_neg c2]
  have c3 : lawV ([("first" : Str), numS p.l1, numS p.h1] :: [("second" : Str), numS p.l2, numS p.h2] :: p.ts.map fun t => [("task" : Str), waitsS t.ws, numS t.a, numS t.b, numS t.c]) = plD p := by
    unfold lawV plD
    show D.tup [.tup ((p.ts.map _).map lawTask), .tup [lawInt (numS p.l1), lawInt (numS p.h1)], .tup [lawInt (numS p.l2), lawInt (numS p.h2)]] = _
    rw [h.l1.lawInt, h.h1.lawInt, h.l2.lawInt, h.h2.lawInt, List.map_map]
    congr 3
    exact List.map_congr_left fun t ht => law_task (h.ts t ht)
  rw [c3, if_pos (planB_plD hp)]
theorem bag_inv {ws : List Str} {is : List Int} (h : ws.map lawInt = bagD is) : ws = is.map numS := by
  induction ws generalizing is with
  | nil =>
    cases is with
    | nil => rfl
    | cons i r => simp [bagD] at h
  | cons w r ih =>
    cases is with
    | nil => simp [bagD] at h
    | cons i s =>
      simp only [bagD, List.map_cons, List.cons.injEq] at h
      rw [List.map_cons, lawInt_inv h.1, ih h.2]
theorem five {r : List Str} (h : r.length = 5) : ∃ a b c d e, r = [a, b, c, d, e] := by
  match r, h with
  | [a, b, c, d, e], _ => exact ⟨a, b, c, d, e, rfl⟩
theorem task_inv {r : List Str} {t : Tk} (h5 : r.length = 5) (h0 : r.getD 0 "" = "task") (h : lawTask r = tkD t) : Txt.join " " r = lineS t := by
  obtain ⟨k, w, a, b, c, rfl⟩ := five h5
  have h0 : k = "task" := h0
  subst h0
  have h : D.tup (.tup (if w = "-" then [] else (Txt.split w ",").map lawInt) :: [lawInt a, lawInt b, lawInt c]) = D.tup [.tup (bagD t.ws), .int t.a, .int t.b, .int t.c] := h
  simp only [D.tup.injEq, List.cons.injEq, and_true] at h
  obtain ⟨h1, h2, h3, h4⟩ := h
  unfold lineS
  rw [lawInt_inv h2, lawInt_inv h3, lawInt_inv h4]
  have hw : w = waitsS t.ws := by
    by_cases hd : w = "-"
    · rw [if_pos hd] at h1
      have hn : t.ws = [] := by
        cases ht : t.ws with
        | nil => rfl
        | cons i r => rw [ht] at h1; simp [bagD] at h1
      rw [hn, hd]; rfl
    · rw [if_neg hd] at h1
      have e := bag_inv h1
      have hn : t.ws ≠ [] := fun z => by
        rw [z] at e
        have := split_pos w ","
        rw [e] at this
        simp at this
      unfold waitsS
      rw [if_neg hn, ← e, join_split]
  rw [hw]
theorem head_inv {r : List Str} {k : Str} {a b : Int} (h0 : r.getD 0 "" = k) (hk : k ≠ "") (h : lawHead r = .tup [.int a, .int b]) : Txt.join " " r = headS k a b := by
  cases r with
  | nil => exact absurd h0.symm hk
  | cons x s =>
    have h0 : x = k := h0
    subst h0
    have h : D.tup (s.map lawInt) = D.tup [.int a, .int b] := h
    simp only [D.tup.injEq] at h
    have e := bag_inv (is := [a, b]) h
    rw [e]; rfl
theorem lines_inv : ∀ (rs : List (List Str)) (ts : List Tk), rs.all (fun r => decide (r.length = 5)) = true → rs.map (fun r => r.getD 0 "") = List.replicate rs.length ("task" : Str) → rs.map lawTask = ts.map tkD → rs.map (fun r => Txt.join " " r) = ts.map lineS
  | [], [], _, _, _ => rfl
  | [], t :: s, _, _, e => by simp at e
  | r :: s, [], _, _, e => by simp at e
  | r :: s, t :: u, c2, g3, e1 => by
    simp only [List.map_cons, List.cons.injEq] at e1
    rw [List.all_cons, Bool.and_eq_true] at c2
    rw [List.map_cons, List.length_cons, List.replicate_succ, List.cons.injEq] at g3
    rw [List.map_cons, List.map_cons, task_inv (of_decide_eq_true c2.1) g3.1 e1.1, lines_inv s u c2.2 g3.2 e1.2]
theorem law_inv (x : Str) : lawD x = .non ∨ ∃ p, PlOk p ∧ lawD x = plD p ∧ x = textS p := by
  unfold lawD
  split
  · exact .inl rfl
  · rename_i c1
    split
    · exact .inl rfl
    · rename_i c2
      split
      · rename_i c3
        right
        obtain ⟨p, e, hp⟩ := planB_inv c3
        refine ⟨p, hp, e, ?_⟩
        have c1a : 3 ≤ (rowsS x).length := by
          apply Classical.byContradiction
          intro z
          exact c1 (.inl (by omega))
        have c1b : (rowsS x).map (fun r => r.getD 0 "") = headsT ((rowsS x).length - 2) := by
          apply Classical.byContradiction
          intro z
          exact c1 (.inr z)
        rw [Bool.not_eq_false] at c2
        have hx : x = Txt.join "\n" ((rowsS x).map fun r => Txt.join " " r) := by
          unfold rowsS
          rw [List.map_map]
          have : (fun r => Txt.join " " r) ∘ (fun l => Txt.split l " ") = id := by
            funext l
            exact join_split l " "
          rw [this, List.map_id, join_split]
        rw [hx]
        unfold textS linesS
        congr 1
        generalize rowsS x = rows at *
        match rows, c1a with
        | r0 :: r1 :: rs, _ =>
          have e : D.tup [.tup (rs.map lawTask), lawHead r0, lawHead r1] = D.tup [.tup (p.ts.map tkD), .tup [.int p.l1, .int p.h1], .tup [.int p.l2, .int p.h2]] := e
          simp only [D.tup.injEq, List.cons.injEq, and_true] at e
          obtain ⟨e1, e2, e3⟩ := e
          have c1b : r0.getD 0 "" :: r1.getD 0 "" :: rs.map (fun r => r.getD 0 "") = ("first" : Str) :: "second" :: List.replicate rs.length "task" := c1b
          simp only [List.cons.injEq] at c1b
          obtain ⟨g1, g2, g3⟩ := c1b
          rw [List.map_cons, List.map_cons, head_inv g1 (by decide +kernel) e2, head_inv g2 (by decide +kernel) e3]
          congr 2
          exact lines_inv rs p.ts c2 g3 e1
      · exact .inl rfl
end K15
end
section
namespace K15
open PySem AP
/-! rules for texts -/
section
variable {ft : FT}
theorem r_join {a b : IE} {ρ ρ1 ρ2 : AP.Env} {s : Str} {d : D} {v : Val} (ha : frz (evO ft a ρ) = .ok (.str s) ρ1) (hb : frz (evO ft b ρ1) = .ok d ρ2) (h : joinD s d = some v) : evO ft (.join a b) ρ = .ok v ρ2 := by
  rw [evO, ha]; simp only [ERes.bind, hb, h, ofO]
theorem r_split {a b : IE} {ρ ρ1 ρ2 : AP.Env} {s : Str} {d : D} {v : Val} (ha : frz (evO ft a ρ) = .ok (.str s) ρ1) (hb : frz (evO ft b ρ1) = .ok d ρ2) (h : splitD s d = some v) : evO ft (.split a b) ρ = .ok v ρ2 := by
  rw [evO, ha]; simp only [ERes.bind, hb, h, ofO]
theorem r_fstr {es : IEs} {ρ ρ1 : AP.Env} {z : Str} (h : evF ft es Str.empty ρ = .ok z ρ1) : evO ft (.fstr es) ρ = .ok (.dat (.str z)) ρ1 := by
  rw [evO, h]; rfl
theorem r_slr {a : IE} {e : Int} {ρ ρ1 : AP.Env} {d : D} {v : Val} (ha : frz (evO ft a ρ) = .ok d ρ1) (h : slrD d e = some v) : evO ft (.slr a e) ρ = .ok v ρ1 := by
  rw [evO, ha]; simp only [ERes.bind, h, ofO]
theorem ff_nil {acc : Str} {ρ : AP.Env} : evF ft .nil acc ρ = .ok acc ρ := by rw [evF]
theorem ff_str {e : IE} {r : IEs} {acc y z : Str} {ρ ρ1 ρ2 : AP.Env} {k m : Nat} (h : frz (evO ft e ρ) = .ok (.str y) ρ1) (ha : Pln k acc) (hy : Pln m y) (hk : k + m ≤ 1000) (hr : Pln (k + m) (acc ++ y) → evF ft r (acc ++ y) ρ1 = .ok z ρ2) : evF ft (.cons e r) acc ρ = .ok z ρ2 := by
  have h2 := ha.app hy
  rw [evF, h]
  simp only [ERes.bind, txtD]
  rw [if_pos (show y.length ≤ line by have := hy.len; unfold line; omega)]
  simp only
  rw [if_pos (show (acc ++ y).length ≤ line by have := h2.len; unfold line; omega)]
  exact hr h2
theorem log2_nu {i : Int} (h : Nu i) : i.natAbs.log2 < 1920 := by
  by_cases h0 : i.natAbs = 0
  · rw [h0]; decide
  · have := h.a
    have := h.b
    have e : (2 : Nat) ^ 7 = 128 := by decide
    exact Nat.lt_trans ((Nat.log2_lt h0).mpr (show i.natAbs < 2 ^ 7 by omega)) (by decide)
theorem ff_int {e : IE} {r : IEs} {acc z : Str} {ρ ρ1 ρ2 : AP.Env} {k : Nat} {i : Int} (h : frz (evO ft e ρ) = .ok (.int i) ρ1) (ha : Pln k acc) (hi : Nu i) (hk : k + 2 ≤ 1000) (hr : Pln (k + 2) (acc ++ numS i) → evF ft r (acc ++ numS i) ρ1 = .ok z ρ2) : evF ft (.cons e r) acc ρ = .ok z ρ2 := by
  have h2 := ha.app hi.pln
  rw [evF, h]
  simp only [ERes.bind, txtD]
  rw [if_pos (log2_nu hi)]
  simp only
  rw [if_pos (show (acc ++ numS i).length ≤ line by have := h2.len; unfold line; omega)]
  exact hr h2
end
theorem strsOf_map : ∀ ys : List Str, strsOf (ys.map D.str) = some ys
  | [] => rfl
  | y :: r => by
    show (strsOf (r.map D.str)).map (y :: ·) = _
    rw [strsOf_map r]; rfl
theorem sum_len {k : Nat} : ∀ {ys : List Str}, (∀ p ∈ ys, Pln k p) → (ys.map (·.length)).sum ≤ ys.length * k
  | [], _ => Nat.zero_le _
  | y :: r, h => by
    have h1 := (h y List.mem_cons_self).len
    have h2 := sum_len (ys := r) fun p hp => h p (List.mem_cons_of_mem _ hp)
    rw [List.map_cons, List.sum_cons, List.length_cons, Nat.succ_mul]
    omega
theorem joinD_ok {y : Str} {c k n : Nat} (hy : Sep y c) {ys : List Str} (h : ∀ p ∈ ys, Pln k p) (hn : ys.length ≤ n) (hb : n * (k + 1) ≤ 16777216) : joinD y (.lst (ys.map D.str)) = some (.dat (.str (Txt.join y ys))) := by
  show ((strsOf (ys.map D.str)).bind fun ys => if (ys.map (·.length)).sum + ys.length * y.length ≤ 16777216 then some (Val.dat (.str (Txt.join y ys))) else none) = _
  rw [strsOf_map]
  show (if (ys.map (·.length)).sum + ys.length * y.length ≤ 16777216 then _ else _) = _
  have hl : y.length = 1 := by rw [cs_len, hy.cs]; rfl
  have := sum_len h
  rw [if_pos]
  rw [hl]
  have h2 : ys.length * (k + 1) ≤ n * (k + 1) := Nat.mul_le_mul_right _ hn
  rw [Nat.mul_add] at h2
  omega
theorem splitD_ok {y : Str} {c k : Nat} (hy : Sep y c) {x : Str} (h : Pln k x) (hk : k ≤ 10000) : splitD x (.str y) = some (.own (.lst ((Txt.split x y).map D.str))) := by
  show (if (y.length == 0) = false ∧ x.length + 2 ≤ line then _ else _) = _
  have hl : y.length = 1 := by rw [cs_len, hy.cs]; rfl
  rw [if_pos ⟨by rw [hl]; rfl, by have := h.len; unfold line; omega⟩]
theorem eqD_str {a b : Str} (h1 : PyData.strOk a = true) (h2 : PyData.strOk b = true) : eqD (.str a) (.str b) = some (decide (a = b)) := by
  unfold eqD
  have e : eqOk (.str a) (.str b) = true := by
    show ((PyData.strOk a && PyData.strOk b) && decide (min 0 0 ≤ 60)) = true
    rw [h1, h2]; rfl
  rw [if_pos e, D.eqv]
  rw [show (a == b) = decide (a = b) by rw [Bool.eq_iff_iff, beq_iff_eq, decide_eq_true_eq]]
theorem sIx_nat (n d k : Nat) : sIx n d (some (k : Int)) = min k n := by
  unfold sIx
  simp only
  rw [if_neg (by omega), Int.toNat_natCast]
theorem cut_drop {α : Type} (xs : List α) (k : Nat) : cutL xs (some (k : Int)) none = xs.drop k := by
  unfold cutL
  rw [sIx_nat]
  show (xs.drop (min k xs.length)).take (xs.length - min k xs.length) = _
  rw [List.take_of_length_le (by rw [List.length_drop]; exact Nat.le_refl _)]
  by_cases h : k ≤ xs.length
  · rw [Nat.min_eq_left h]
  · rw [Nat.min_eq_right (by omega), List.drop_length, List.drop_of_length_le (by omega)]
theorem cut_take {α : Type} (xs : List α) (k : Nat) : cutL xs none (some (k : Int)) = xs.take k := by
  unfold cutL
  rw [sIx_nat]
  show (xs.drop 0).take (min k xs.length - 0) = _
  rw [List.drop_zero, Nat.sub_zero]
  by_cases h : k ≤ xs.length
  · rw [Nat.min_eq_left h]
  · rw [Nat.min_eq_right (by omega), List.take_length, List.take_of_length_le (by omega)]
theorem sl_drop (xs : List D) (k : Nat) : slD (.lst xs) (some (k : Int)) none = some (.own (.lst (xs.drop k))) := by
  show some (Val.own (.lst (cutL xs (some (k : Int)) none))) = _
  rw [cut_drop]
theorem sl_take (xs : List D) (k : Nat) : slD (.lst xs) none (some (k : Int)) = some (.own (.lst (xs.take k))) := by
  show some (Val.own (.lst (cutL xs none (some (k : Int))))) = _
  rw [cut_take]
theorem ix_strs (ws : List Str) (k : Nat) (h : k < ws.length) : ixD (.lst (ws.map D.str)) (.int k) = some (.str (ws.getD k "")) := by
  show (ixN (ws.map D.str).length k).bind _ = _
  rw [show ixN (ws.map D.str).length (k : Int) = some k by unfold ixN; rw [List.length_map, if_pos (by omega), if_pos (by omega)]; rfl]
  simp [h]
/-! signs -/
def sgn (c : Nat) : D := .str ⟨#[c]⟩
def digC (c : Nat) : Bool := decide (48 ≤ c) && decide (c ≤ 57)
theorem digits_cs : ("0123456789" : Str).cps.toList = [48, 49, 50, 51, 52, 53, 54, 55, 56, 57] := by decide +kernel
theorem in_digits (c : Nat) : inD (sgn c) (.str "0123456789") = some (digC c) := by
  show some (occurs ⟨#[c]⟩ "0123456789") = _
  unfold occurs
  rw [StrLaws.found_one, digits_cs]
  congr 1
  rw [Bool.eq_iff_iff]
  unfold digC
  simp
  omega
theorem seq_str (w : Str) : seqOf (.str w) = some ((cs w).map sgn) := rfl
theorem len_str {w : Str} {k : Nat} (h : Pln k w) (hk : k ≤ 10000) : lenD (.str w) = some (.dat (.int w.length)) := by
  show (if w.length ≤ line then _ else _) = _
  rw [if_pos (by have := h.len; unfold line; omega)]
theorem int_str {w : Str} {k : Nat} (h : Pln k w) (hk : k ≤ 600) (hd : digs w = true) (hn : 1 ≤ w.length) : biD .int [.str w] = some (.dat (.int (valS w))) := by
  show (if w.length ≤ 640 then (PySem.intText? w).map fun n => Val.dat (.int n) else none) = _
  rw [if_pos (by have := h.len; omega)]
  have e := PySem.intText_digits (x := w) (fun c hc => by
    have := List.all_eq_true.mp hd c hc
    rw [Bool.and_eq_true, decide_eq_true_eq, decide_eq_true_eq] at this
    exact this) (fun z => by rw [cs_len] at hn; unfold cs at hn; rw [z] at hn; simp at hn) (by have := h.len; omega)
  rw [e]; rfl
/-! the program's words -/
def cNI : IE := .comp (.cmp .isin (.var 1) (.cst (.str "0123456789"))) (.nm 1) (.seq (.var 0)) (.cst (.bl true)) [1]
def gDig (d : D) : D := match inD d (.str "0123456789") with | some b => .bl b | none => .non
theorem cNI_ev (ft : FT) (w : Str) (k : Nat) (h : Pln k w) (hk : k ≤ 10000) : evO ft cNI [.dat (.str w), .no] = .ok (.own (.lst (((cs w).map digC).map D.bl))) [.dat (.str w), .no] := by
  have e : ((cs w).map digC).map D.bl = ((cs w).map sgn).map gDig := by
    rw [List.map_map, List.map_map]
    refine List.map_congr_left fun c _ => ?_
    show D.bl (digC c) = gDig (sgn c)
    unfold gDig
    rw [in_digits]
  rw [e]
  unfold cNI
  refine r_map (ρ1 := [.dat (.str w), .no]) gDig (i_seq (f_val (r_var rfl) vd_dat) (seq_str w)) rfl (by rw [List.length_map, ← cs_len]; have := h.len; unfold line; omega) (fun d hd => ?_)
  obtain ⟨c, _, rfl⟩ := List.mem_map.mp hd
  refine ⟨[.dat (.str w), .dat (sgn c)], [.dat (.str w), .dat (sgn c)], rfl, ?_, rfl⟩
  unfold gDig
  rw [in_digits]
  exact f_val (r_cmp (o_var rfl) (o_val rfl (f_val r_cst vd_dat)) g_val g_val (zc_in (in_digits c))) vd_dat
theorem number_in_spec (n : Nat) (w : Str) (k : Nat) (h : Pln k w) (hk : k ≤ 10000) : (FN (n + 1)).fn 9 [.dat (.str w)] = .ret (.dat (.int (numIn w))) [] := by
  rw [fn_at (d := d_number_in) rfl]
  refine run_wp (fd := d_number_in) (out := fun x => x = .ret (.dat (.int (numIn w))) []) rfl (by decide) ?_
  show Wp (FN n) FU (.cons (.ifs (.or (.not (.chain .le .le (.cst (.int 1)) (.len (.var 0)) (.cst (.int 2)))) (.not (.bi .all (.cons cNI .nil)))) (.cons (.ret (.neg (.cst (.int 1)))) .nil) .nil) (.cons (.ret (.bi .int (.cons (.var 0) .nil))) .nil)) [.dat (.str w), .no] _
  have hd : ((cs w).map digC).all id = digs w := by
    unfold digs
    rw [List.all_map]; rfl
  have ha : biD .all [.lst (((cs w).map digC).map D.bl)] = some (.dat (.bl (digs w))) := by rw [bi_all, hd]
  refine w_ifs (k := !(decide ((1 : Int) ≤ (w.length : Int)) && decide ((w.length : Int) ≤ 2)) || !digs w) (ρ1 := [.dat (.str w), .no]) (r_or (r_not (r_chain (f_val r_cst vd_dat) (f_val (r_len (o_var rfl) g_val (len_str h hk)) vd_dat) c_le (fun _ => f_val r_cst vd_dat) c_le)) fun _ => r_not (r_bi (l_cons (f_val (cNI_ev (FN n) w k h hk) vd_own) l_nil) ha)) (fun hc => ?_) (fun hc => ?_)
  · refine w_app_cons (w_ret rfl (r_neg (f_val r_cst vd_dat)) ?_)
    have e : numIn w = -1 := by
      unfold numIn
      rw [if_neg]
      intro z
      rw [Bool.and_eq_true, Bool.and_eq_true, decide_eq_true_eq, decide_eq_true_eq] at z
      rw [z.2, decide_eq_true (show (1 : Int) ≤ (w.length : Int) by omega), decide_eq_true (show (w.length : Int) ≤ 2 by omega)] at hc
      cases hc
    rw [e]; rfl
  · rw [Bool.or_eq_false_iff, Bool.not_eq_false', Bool.not_eq_false', Bool.and_eq_true, decide_eq_true_eq, decide_eq_true_eq] at hc
    have hw : Pln 2 w := ⟨by omega, h.lt⟩
    refine w_app_nil (w_ret rfl (r_bi (l_cons (f_val (r_var rfl) vd_dat) l_nil) (int_str hw (by decide) hc.2 (by omega))) ?_)
    have e : numIn w = valS w := by
      unfold numIn
      rw [if_pos]
      rw [Bool.and_eq_true, Bool.and_eq_true, decide_eq_true_eq, decide_eq_true_eq]
      exact ⟨⟨by omega, by omega⟩, hc.2⟩
    rw [e]; rfl
def gNum (d : D) : D := match d with | .str w => .int (numIn w) | _ => .non
theorem gNum_map (ws : List Str) : (ws.map D.str).map gNum = ws.map fun w => .int (numIn w) := by
  rw [List.map_map]; rfl
end K15
end
section
namespace K15
open PySem AP
/-! the program's texts -/
def gStr (d : D) : D := match d with | .int i => .str (numS i) | _ => .non
theorem gStr_map (ws : List Int) : (bagD ws).map gStr = (ws.map numS).map D.str := by
  rw [List.map_map, List.map_map]; rfl
theorem str_num {i : Int} (h : Nu i) : biD .str [.int i] = some (.dat (.str (numS i))) := by
  show (if i.natAbs.log2 < 1920 then _ else _) = _
  rw [if_pos (log2_nu h)]
theorem nums_pln {ws : List Int} (h : ∀ w ∈ ws, Nu w) : ∀ p ∈ ws.map numS, Pln 2 p := fun p hp => by
  obtain ⟨w, hw, rfl⟩ := List.mem_map.mp hp
  exact (h w hw).pln
def cTL : IE := .comp (.bi .str (.cons (.var 2) .nil)) (.nm 2) (.seq (.idx (.var 0) (.cst (.int 0)))) (.cst (.bl true)) [2]
theorem cTL_ev (ft : FT) (t : Tk) (h : TkNu t) (x1 : Slot) : evO ft cTL [.dat (tkD t), x1, .no] = .ok (.own (.lst ((t.ws.map numS).map D.str))) [.dat (tkD t), x1, .no] := by
  rw [← gStr_map]
  have i0 : ixD (tkD t) (.int 0) = some (.tup (bagD t.ws)) := rfl
  have wl := h.wl
  unfold cTL
  refine r_map (ρ1 := [.dat (tkD t), x1, .no]) gStr (i_seq (f_val (r_idx (o_var rfl) (f_val r_cst vd_dat) g_val i0) vd_dat) rfl) rfl (by rw [List.length_map]; unfold line; omega) (fun d hd => ?_)
  obtain ⟨w, hw, rfl⟩ := List.mem_map.mp hd
  exact ⟨[.dat (tkD t), x1, .dat (.int w)], [.dat (tkD t), x1, .dat (.int w)], rfl, f_val (r_bi (l_cons (f_val (r_var rfl) vd_dat) l_nil) (str_num (h.ws w hw))) vd_dat, rfl⟩
theorem waits_join {ws : List Int} (h : ∀ w ∈ ws, Nu w) (hl : ws.length ≤ 5) : joinD "," (.lst ((ws.map numS).map D.str)) = some (.dat (.str (Txt.join "," (ws.map numS)))) :=
  joinD_ok (n := 5) sep_cm (nums_pln h) (by rw [List.length_map]; exact hl) (by decide)
theorem lineS_cat (t : Tk) : ((((((((Str.empty ++ ("task " : Str)) ++ waitsS t.ws) ++ (" " : Str)) ++ numS t.a) ++ (" " : Str)) ++ numS t.b) ++ (" " : Str)) ++ numS t.c) = lineS t := by
  refine cs_ext ?_
  have e1 : cs ("task " : Str) = [116, 97, 115, 107, 32] := by decide +kernel
  have e0 : cs Str.empty = [] := rfl
  unfold lineS
  simp only [cs_app, cs_join, sep_sp.cs, List.map_cons, List.map_nil, TL.joinL, e1, e0, task_cs, List.nil_append, List.append_assoc, List.cons_append]
theorem headS_cat {k kk : Str} {K : List Nat} (hk : cs k = K) (hkk : cs kk = K ++ [32]) (l u : Int) : ((((Str.empty ++ kk) ++ numS l) ++ (" " : Str)) ++ numS u) = headS k l u := by
  refine cs_ext ?_
  have e0 : cs Str.empty = [] := rfl
  unfold headS
  simp only [cs_app, cs_join, sep_sp.cs, List.map_cons, List.map_nil, TL.joinL, hk, hkk, e0, List.nil_append, List.append_assoc, List.cons_append]
theorem sp_pln : Pln 1 (" " : Str) := pln_of sep_sp.cs (by decide) (by decide)
theorem emp_pln : Pln 0 Str.empty := pln_of (l := []) rfl (by decide) (by decide)
theorem task_pln : Pln 5 ("task " : Str) := pln_of (l := [116, 97, 115, 107, 32]) (by decide +kernel) (by decide) (by decide)
theorem first_pln : Pln 7 ("first " : Str) := pln_of (l := [102, 105, 114, 115, 116, 32]) (by decide +kernel) (by decide) (by decide)
theorem second_pln : Pln 7 ("second " : Str) := pln_of (l := [115, 101, 99, 111, 110, 100, 32]) (by decide +kernel) (by decide) (by decide)
def fTL : IEs := (.cons (.cst (.str "task ")) (.cons (.var 1) (.cons (.cst (.str " ")) (.cons (.idx (.var 0) (.cst (.int 1))) (.cons (.cst (.str " ")) (.cons (.idx (.var 0) (.cst (.int 2))) (.cons (.cst (.str " ")) (.cons (.idx (.var 0) (.cst (.int 3))) .nil))))))))
theorem fTL_ev (ft : FT) (t : Tk) (h : TkNu t) : evF ft fTL Str.empty [.dat (tkD t), .dat (.str (waitsS t.ws)), .no] = .ok (lineS t) [.dat (tkD t), .dat (.str (waitsS t.ws)), .no] := by
  have i1 : ixD (tkD t) (.int 1) = some (.int t.a) := rfl
  have i2 : ixD (tkD t) (.int 2) = some (.int t.b) := rfl
  have i3 : ixD (tkD t) (.int 3) = some (.int t.c) := rfl
  rw [← lineS_cat]
  unfold fTL
  refine ff_str (f_val r_cst vd_dat) emp_pln task_pln (by decide) fun p1 => ?_
  refine ff_str (f_val (r_var rfl) vd_dat) p1 (waits_pln h.ws h.wl) (by decide) fun p2 => ?_
  refine ff_str (f_val r_cst vd_dat) p2 sp_pln (by decide) fun p3 => ?_
  refine ff_int (f_val (r_idx (o_var rfl) (f_val r_cst vd_dat) g_val i1) vd_dat) p3 h.a (by decide) fun p4 => ?_
  refine ff_str (f_val r_cst vd_dat) p4 sp_pln (by decide) fun p5 => ?_
  refine ff_int (f_val (r_idx (o_var rfl) (f_val r_cst vd_dat) g_val i2) vd_dat) p5 h.b (by decide) fun p6 => ?_
  refine ff_str (f_val r_cst vd_dat) p6 sp_pln (by decide) fun p7 => ?_
  refine ff_int (f_val (r_idx (o_var rfl) (f_val r_cst vd_dat) g_val i3) vd_dat) p7 h.c (by decide) fun p8 => ff_nil
theorem task_line_spec (n : Nat) (t : Tk) (h : TkNu t) : (FN (n + 1)).fn 6 [.dat (tkD t)] = .ret (.dat (.str (lineS t))) [] := by
  rw [fn_at (d := d_task_line) rfl]
  refine run_wp (fd := d_task_line) (out := fun x => x = .ret (.dat (.str (lineS t))) []) rfl (by decide) ?_
  show Wp (FN n) FU (.cons (.asg 1 (.ite (.cmp .ne (.idx (.var 0) (.cst (.int 0))) (.tup .nil)) (.join (.cst (.str ",")) cTL) (.cst (.str "-")))) (.cons (.ret (.fstr fTL)) .nil)) [.dat (tkD t), .no, .no] _
  have i0 : ixD (tkD t) (.int 0) = some (.tup (bagD t.ws)) := rfl
  refine w_asg (d := .str (waitsS t.ws)) (ρ1 := [.dat (tkD t), .no, .no]) (f_val (v := .dat (.str (waitsS t.ws))) (r_ite (k := !decide (t.ws = [])) (r_cmp (o_val rfl (f_val (r_idx (o_var rfl) (f_val r_cst vd_dat) g_val i0) vd_dat)) (o_val rfl (f_val (r_tup l_nil (le_len rfl)) vd_dat)) g_val g_val (zc_ne (tup_nil t.ws))) (fun hc => ?_) (fun hc => ?_)) vd_dat) (lt_len rfl) rfl (w_ret rfl (r_fstr (fTL_ev (FN n) t h)) rfl)
  · have hn : t.ws ≠ [] := by simpa using hc
    unfold waitsS
    rw [if_neg hn]
    exact r_join (f_val r_cst vd_dat) (f_val (cTL_ev (FN n) t h .no) vd_own) (waits_join h.ws h.wl)
  · have hn : t.ws = [] := by simpa using hc
    unfold waitsS
    rw [if_pos hn]; exact r_cst
def f1AT : IEs := (.cons (.cst (.str "first ")) (.cons (.idx (.var 2) (.cst (.int 0))) (.cons (.cst (.str " ")) (.cons (.idx (.var 2) (.cst (.int 1))) .nil))))
def f2AT : IEs := (.cons (.cst (.str "second ")) (.cons (.idx (.var 3) (.cst (.int 0))) (.cons (.cst (.str " ")) (.cons (.idx (.var 3) (.cst (.int 1))) .nil))))
theorem f1AT_ev (ft : FT) (x0 x1 x3 x4 x5 : Slot) (l u : Int) (hl : Nu l) (hu : Nu u) : evF ft f1AT Str.empty [x0, x1, .dat (.tup [.int l, .int u]), x3, x4, x5] = .ok (headS "first" l u) [x0, x1, .dat (.tup [.int l, .int u]), x3, x4, x5] := by
  rw [← headS_cat first_cs (kk := "first ") (by decide +kernel)]
  unfold f1AT
  refine ff_str (f_val r_cst vd_dat) emp_pln first_pln (by decide) fun p1 => ?_
  refine ff_int (f_val (r_idx (o_var rfl) (f_val r_cst vd_dat) g_val rfl) vd_dat) p1 hl (by decide) fun p2 => ?_
  refine ff_str (f_val r_cst vd_dat) p2 sp_pln (by decide) fun p3 => ?_
  exact ff_int (f_val (r_idx (o_var rfl) (f_val r_cst vd_dat) g_val rfl) vd_dat) p3 hu (by decide) fun p4 => ff_nil
theorem f2AT_ev (ft : FT) (x0 x1 x2 x4 x5 : Slot) (l u : Int) (hl : Nu l) (hu : Nu u) : evF ft f2AT Str.empty [x0, x1, x2, .dat (.tup [.int l, .int u]), x4, x5] = .ok (headS "second" l u) [x0, x1, x2, .dat (.tup [.int l, .int u]), x4, x5] := by
  rw [← headS_cat second_cs (kk := "second ") (by decide +kernel)]
  unfold f2AT
  refine ff_str (f_val r_cst vd_dat) emp_pln second_pln (by decide) fun p1 => ?_
  refine ff_int (f_val (r_idx (o_var rfl) (f_val r_cst vd_dat) g_val rfl) vd_dat) p1 hl (by decide) fun p2 => ?_
  refine ff_str (f_val r_cst vd_dat) p2 sp_pln (by decide) fun p3 => ?_
  exact ff_int (f_val (r_idx (o_var rfl) (f_val r_cst vd_dat) g_val rfl) vd_dat) p3 hu (by decide) fun p4 => ff_nil
def cAT : IE := .comp (.call 6 (.e (.var 5) .nil)) (.nm 5) (.seq (.var 1)) (.cst (.bl true)) [5]
theorem as_text_spec (n : Nat) (p : Pl) (h : PlNu p) : (FN (n + 2)).fn 7 [.dat (plD p)] = .ret (.dat (.str (textS p))) [] := by
  rw [fn_at (d := d_as_text) rfl]
  refine run_wp (fd := d_as_text) (out := fun x => x = .ret (.dat (.str (textS p))) []) rfl (by decide) ?_
  show Wp (FN (n + 1)) FU (.cons (.asgT (.tup (.cons (.nm 1) (.cons (.nm 2) (.cons (.nm 3) .nil)))) (.var 0)) (.cons (.asg 4 (.lst (.cons (.fstr f1AT) (.cons (.fstr f2AT) .nil)))) (.cons (.ret (.join (.cst (.str "\n")) (.bin .add (.var 4) cAT))) .nil))) [.dat (plD p), .no, .no, .no, .no, .no] _
  refine w_asgT (d := plD p) (ρ1 := [.dat (plD p), .no, .no, .no, .no, .no]) (ρ2 := [.dat (plD p), .dat (.tup (p.ts.map tkD)), .dat (.tup [.int p.l1, .int p.h1]), .dat (.tup [.int p.l2, .int p.h2]), .no, .no]) (f_val (r_var rfl) vd_dat) rfl ?_
  refine w_asg (d := .lst ([headS "first" p.l1 p.h1, headS "second" p.l2 p.h2].map D.str)) (ρ1 := [.dat (plD p), .dat (.tup (p.ts.map tkD)), .dat (.tup [.int p.l1, .int p.h1]), .dat (.tup [.int p.l2, .int p.h2]), .no, .no]) (ρ2 := [.dat (plD p), .dat (.tup (p.ts.map tkD)), .dat (.tup [.int p.l1, .int p.h1]), .dat (.tup [.int p.l2, .int p.h2]), .dat (.lst ([headS "first" p.l1 p.h1, headS "second" p.l2 p.h2].map D.str)), .no]) (f_val (r_lst (l_cons (f_val (r_fstr (f1AT_ev (FN (n + 1)) _ _ _ _ _ _ _ h.l1 h.h1)) vd_dat) (l_cons (f_val (r_fstr (f2AT_ev (FN (n + 1)) _ _ _ _ _ _ _ h.l2 h.h2)) vd_dat) l_nil)) (le_len rfl)) vd_own) (lt_len rfl) rfl ?_
  have l6 := h.len
  have ec : evO (FN (n + 1)) cAT [.dat (plD p), .dat (.tup (p.ts.map tkD)), .dat (.tup [.int p.l1, .int p.h1]), .dat (.tup [.int p.l2, .int p.h2]), .dat (.lst ([headS "first" p.l1 p.h1, headS "second" p.l2 p.h2].map D.str)), .no] = .ok (.own (.lst ((p.ts.map lineS).map D.str))) [.dat (plD p), .dat (.tup (p.ts.map tkD)), .dat (.tup [.int p.l1, .int p.h1]), .dat (.tup [.int p.l2, .int p.h2]), .dat (.lst ([headS "first" p.l1 p.h1, headS "second" p.l2 p.h2].map D.str)), .no] := by
    have hi : evI (FN (n + 1)) (.seq (.var 1)) [.dat (plD p), .dat (.tup (p.ts.map tkD)), .dat (.tup [.int p.l1, .int p.h1]), .dat (.tup [.int p.l2, .int p.h2]), .dat (.lst ([headS "first" p.l1 p.h1, headS "second" p.l2 p.h2].map D.str)), .no] = .ok (p.ts.map tkD) [.dat (plD p), .dat (.tup (p.ts.map tkD)), .dat (.tup [.int p.l1, .int p.h1]), .dat (.tup [.int p.l2, .int p.h2]), .dat (.lst ([headS "first" p.l1 p.h1, headS "second" p.l2 p.h2].map D.str)), .no] := i_seq (f_val (r_var rfl) vd_dat) rfl
    have r := r_comp (elt := .call 6 (.e (.var 5) .nil)) (cond := .cst (.bl true)) (tg := .nm 5) (own := [5]) (l := (p.ts.map lineS).map D.str) (ρ2 := [.dat (plD p), .dat (.tup (p.ts.map tkD)), .dat (.tup [.int p.l1, .int p.h1]), .dat (.tup [.int p.l2, .int p.h2]), .dat (.lst ([headS "first" p.l1 p.h1, headS "second" p.l2 p.h2].map D.str)), .no]) hi rfl ?_ (by rw [List.length_map, List.length_map]; unfold line; omega)
    · exact r
    · show compF _ (p.ts.map tkD) [.dat (plD p), .dat (.tup (p.ts.map tkD)), .dat (.tup [.int p.l1, .int p.h1]), .dat (.tup [.int p.l2, .int p.h2]), .dat (.lst ([headS "first" p.l1 p.h1, headS "second" p.l2 p.h2].map D.str)), .no] = _
      have key : ∀ (ts : List Tk) (ρ : AP.Env), (∀ t ∈ ts, zcompB (FN (n + 1)) (.nm 5) (.cst (.bl true)) (.call 6 (.e (.var 5) .nil)) [5] (tkD t) ρ = .ok (some (.str (lineS t))) ρ) → compF (zcompB (FN (n + 1)) (.nm 5) (.cst (.bl true)) (.call 6 (.e (.var 5) .nil)) [5]) (ts.map tkD) ρ = .ok ((ts.map lineS).map D.str) ρ := fun ts ρ hz => by
        induction ts with
        | nil => rfl
        | cons t r ih =>
          rw [List.map_cons, compF, hz t List.mem_cons_self]
          simp only [ERes.bind]
          rw [ih fun x hx => hz x (List.mem_cons_of_mem _ hx)]; rfl
      refine key p.ts _ fun t ht => ?_
      rw [compB_some (ρ1 := [.dat (plD p), .dat (.tup (p.ts.map tkD)), .dat (.tup [.int p.l1, .int p.h1]), .dat (.tup [.int p.l2, .int p.h2]), .dat (.lst ([headS "first" p.l1 p.h1, headS "second" p.l2 p.h2].map D.str)), .dat (tkD t)]) rfl r_cst (f_val (r_call (dom_any rfl) (a_e (f_val (r_var rfl) vd_dat) za_nil) rfl (le_len rfl) (task_line_spec n t (h.ts t ht)) pb_nil) vd_dat)]
      rfl
  have ea : opBin .add (.lst ([headS "first" p.l1 p.h1, headS "second" p.l2 p.h2].map D.str)) (.lst ((p.ts.map lineS).map D.str)) = some (.own (.lst ((linesS p).map D.str))) := b_addL (by rw [List.length_map, List.length_map, List.length_map]; unfold line; simp; omega)
  have ej : joinD "\n" (.lst ((linesS p).map D.str)) = some (.dat (.str (textS p))) := joinD_ok (k := 80) (n := 8) sep_nl (fun l hl => (lines_ok h l hl).1) (by unfold linesS; simp; omega) (by decide)
  exact w_ret rfl (r_join (f_val r_cst vd_dat) (f_val (r_bin (f_val (r_var rfl) vd_dat) (f_val ec vd_own) ea) vd_own) ej) rfl
theorem plan_text_ok (n : Nat) (p : Pl) (hp : PlOk p) : (FN (n + 5)).fn 8 [.dat (plD p)] = .ret (.dat (.str (textS p))) [] := by
  rw [fn_at (d := d_plan_text) rfl]
  have k1 := need_plan_spec n (plD p) (dat_pl p)
  rw [planB_plD hp, if_pos rfl] at k1
  have k2 := as_text_spec (n + 2) p hp.nu
  refine run_wp (fd := d_plan_text) (out := fun x => x = .ret (.dat (.str (textS p))) []) rfl (by decide) ?_
  show Wp (FN (n + 4)) FU b_plan_text [.dat (plD p)] _
  unfold b_plan_text
  repeat' (first
    | with_reducible (apply pid; assumption)
    | with_reducible (first | exact k1 | exact k2)
    | with_reducible (first | apply vd_dat | apply vd_own | apply r_cst | apply za_nil | apply l_nil | apply p_none | apply g_val | apply set_0 | apply set_s | apply pb_nil | apply pb_lent | apply pb_own | apply f_val | apply r_bin | apply r_neg | apply r_not | apply r_and | apply r_or | apply r_cmp | apply r_chain | apply r_call | apply r_len | apply r_bi | apply r_isi | apply r_tup | apply r_lst | apply r_idx | apply p_some | apply r_sl | apply r_rev | apply l_cons | apply a_e | apply za_lent | apply i_seq | apply i_range1 | apply i_range2 | apply i_range3 | apply i_zip | apply i_enum | apply tg_nm | apply tg_tup | apply tgs_nil | apply tgs_cons | apply b_add | apply b_sub | apply w_asg | apply w_asgO | apply w_asgT | apply w_par | apply w_par3 | apply w_appO | apply w_setO | apply w_expr | apply w_ifs | apply w_retV | apply w_raise | apply w_retN | apply w_nil | apply w_app_cons | apply w_app_nil | apply c_lt | apply c_le | apply c_gt | apply c_ge | apply zc_eq | apply zc_ne | apply zc_in | apply c_nin | apply eqD_i | apply bi_all | apply bi_any)
    | (with_reducible apply o_val rfl) | (with_reducible apply w_ret rfl)
    | ((with_reducible apply dom_any); rfl)
    | ((with_reducible apply r_var); rfl) | ((with_reducible apply o_var); rfl) | ((with_reducible apply o_own); rfl) | ((with_reducible apply o_lent); rfl) | ((with_reducible apply g_own); rfl) | ((with_reducible apply g_lent); rfl) | ((with_reducible apply r_varO); rfl)
    | (with_reducible apply b_mod; first | with_reducible assumption | decide | omega) | (with_reducible apply b_mul_r; first | with_reducible assumption | (with_reducible decide) | with_reducible (first | exact k1 | exact k2)) | (with_reducible apply b_mul_l; first | with_reducible assumption | (with_reducible decide) | with_reducible (first | exact k1 | exact k2))
    | with_reducible (first | exact ty_int_int | exact ty_int_bool | exact ty_int_tuple | exact ty_int_list | exact ty_int_str | exact ty_bl_int | exact ty_bl_bool | exact ty_bl_tuple | exact ty_bl_list | exact ty_bl_str | exact ty_non_int | exact ty_non_bool | exact ty_non_tuple | exact ty_non_list | exact ty_non_str | exact ty_str_int | exact ty_str_bool | exact ty_str_tuple | exact ty_str_list | exact ty_str_str | exact ty_tup_int | exact ty_tup_bool | exact ty_tup_tuple | exact ty_tup_list | exact ty_tup_str | exact ty_lst_int | exact ty_lst_bool | exact ty_lst_tuple | exact ty_lst_list | exact ty_lst_str)
    | exact lt_len rfl | exact le_len rfl | rfl | (intro _))
theorem plan_text_bad (n : Nat) (w : D) (hw : Dat w) (hp : planB w = false) : (FN (n + 5)).fn 8 [.dat w] = .exc 26 [] := by
  rw [fn_at (d := d_plan_text) rfl]
  have k1 := need_plan_spec n w hw
  rw [hp, if_neg (by decide)] at k1
  simp [runFn, evSs, evS, evO, evL, evA, evI, evP, startE, Arg.slot, tst, readVar, frz, ERes.bind, ERes.st, ofO, Val.d, isiD, D.tyN, isiT, opCmp, ordD, SRes.seq, fin, lentsAt, opd, isMut, Opd.get, lenD, callRes, argsOf, PArg.arg, lentIx, back, putBack, d_plan_text, b_plan_text, dom_need_plan, k1]
end K15
end
section
namespace K15
open PySem AP
theorem r_mapF {ft : FT} {α : Type} {elt : IE} {tg : Tg} {it : IIt} {own : List Nat} {ρ ρ1 : AP.Env} {l : List α} (f G : α → D) (hi : evI ft it ρ = .ok (l.map f) ρ1) (hm : (own.all fun i => !isMut ρ1[i]?) = true) (hl : l.length < line)
    (h : ∀ a ∈ l, ∃ ρ2 ρ4, asgTg tg (f a) (wipeE ρ1 own) = some ρ2 ∧ frz (evO ft elt ρ2) = .ok (G a) ρ4 ∧ wipeE ρ4 own = wipeE ρ1 own) :
    evO ft (.comp elt tg it (.cst (.bl true)) own) ρ = .ok (.own (.lst (l.map G))) (unwipe ρ1 (wipeE ρ1 own) own) := by
  refine r_comp hi hm ?_ (by rw [List.length_map]; exact hl)
  clear hi hl
  induction l with
  | nil => rfl
  | cons a r ih =>
    obtain ⟨ρ2, ρ4, h1, h2, h3⟩ := h a List.mem_cons_self
    rw [List.map_cons, compF, compB_some h1 r_cst h2]
    simp only [ERes.bind]
    rw [h3, ih fun x hx => h x (List.mem_cons_of_mem _ hx)]; rfl
/-! the program's reading -/
def waitsW (W : List Str) : List Str := if 1 < W.length ∧ W.getD 1 "" ≠ "-" then Txt.split (W.getD 1 "") "," else []
def numsD (ws : List Str) : List D := ws.map fun w => .int (numIn w)
theorem getD_memS {ws : List Str} {k : Nat} (h : k < ws.length) : ws.getD k "" ∈ ws := by
  rw [List.getD_eq_getElem?_getD, List.getElem?_eq_getElem h]; exact List.getElem_mem h
theorem dash_ok : PyData.strOk ("-" : Str) = true := by decide +kernel
theorem task_in_spec (n : Nat) (x : Str) (k : Nat) (h : Pln k x) (hk : k ≤ 9000) : (FN (n + 2)).fn 10 [.dat (.str x)] = .ret (.dat (progTask x)) [] := by
  rw [fn_at (d := d_task_in) rfl]
  have pw : ∀ p ∈ Txt.split x " ", Pln k p := fun p hp => h.split hp
  have cnt := split_cnt x " "
  have hl := h.len
  have sp := splitD_ok sep_sp h (by omega)
  refine run_wp (fd := d_task_in) (out := fun y => y = .ret (.dat (progTask x)) []) rfl (by decide) ?_
  show Wp (FN (n + 1)) FU b_task_in [.dat (.str x), .no, .no, .no, .no] _
  unfold progTask
  generalize Txt.split x " " = W at *
  unfold b_task_in
  refine w_asg (d := .lst (W.map D.str)) (ρ1 := [.dat (.str x), .no, .no, .no, .no]) (f_val (r_split (f_val (r_var rfl) vd_dat) (f_val r_cst vd_dat) sp) vd_own) (lt_len rfl) rfl ?_
  have hlen : lenD (.lst (W.map D.str)) = some (.dat (.int W.length)) := by simp [lenD]
  have e2 : evO (FN (n + 1)) (.ite (.and (.cmp .gt (.len (.var 1)) (.cst (.int 1))) (.cmp .ne (.idx (.var 1) (.cst (.int 1))) (.cst (.str "-")))) (.split (.idx (.var 1) (.cst (.int 1))) (.cst (.str ","))) (.lst .nil)) [.dat (.str x), .dat (.lst (W.map D.str)), .no, .no, .no] = .ok (.own (.lst ((waitsW W).map D.str))) [.dat (.str x), .dat (.lst (W.map D.str)), .no, .no, .no] := by
    by_cases h1 : 1 < W.length
    · have ix := ix_strs W 1 h1
      have pm := pw _ (getD_memS h1)
      have cc : evO (FN (n + 1)) (.and (.cmp .gt (.len (.var 1)) (.cst (.int 1))) (.cmp .ne (.idx (.var 1) (.cst (.int 1))) (.cst (.str "-")))) [.dat (.str x), .dat (.lst (W.map D.str)), .no, .no, .no] = .ok (.dat (.bl (decide ((1 : Int) < (W.length : Int)) && !decide (W.getD 1 "" = "-")))) [.dat (.str x), .dat (.lst (W.map D.str)), .no, .no, .no] :=
        r_and (r_cmp (o_val rfl (f_val (r_len (o_var rfl) g_val hlen) vd_dat)) (o_val rfl (f_val r_cst vd_dat)) g_val g_val c_gt) fun _ => r_cmp (o_val rfl (f_val (r_idx (o_var rfl) (f_val r_cst vd_dat) g_val ix) vd_dat)) (o_val rfl (f_val r_cst vd_dat)) g_val g_val (zc_ne (eqD_str pm.ok dash_ok))
      rw [decide_eq_true (show (1 : Int) < (W.length : Int) by omega), Bool.true_and] at cc
      unfold waitsW
      by_cases hd : W.getD 1 "" = "-"
      · rw [if_neg (fun z => z.2 hd)]
        exact r_ite_f cc (by rw [hd]; rfl) (r_lst l_nil (le_len rfl))
      · rw [if_pos ⟨h1, hd⟩]
        exact r_ite_t cc (by rw [decide_eq_false hd]; rfl) (r_split (f_val (r_idx (o_var rfl) (f_val r_cst vd_dat) g_val ix) vd_dat) (f_val r_cst vd_dat) (splitD_ok sep_cm pm (by omega)))
    · have cc : evO (FN (n + 1)) (.and (.cmp .gt (.len (.var 1)) (.cst (.int 1))) (.cmp .ne (.idx (.var 1) (.cst (.int 1))) (.cst (.str "-")))) [.dat (.str x), .dat (.lst (W.map D.str)), .no, .no, .no] = .ok (.dat (.bl false)) [.dat (.str x), .dat (.lst (W.map D.str)), .no, .no, .no] := by
        refine r_and_f ?_
        have c := r_cmp (ft := FN (n + 1)) (ρ := [.dat (.str x), .dat (.lst (W.map D.str)), .no, .no, .no]) (o := .gt) (a := .len (.var 1)) (b := .cst (.int 1)) (o_val rfl (f_val (r_len (o_var rfl) g_val hlen) vd_dat)) (o_val rfl (f_val r_cst vd_dat)) g_val g_val c_gt
        rw [decide_eq_false (show ¬ (1 : Int) < (W.length : Int) by omega)] at c
        exact c
      unfold waitsW
      rw [if_neg (fun z => h1 z.1)]
      exact r_ite_f cc rfl (r_lst l_nil (le_len rfl))
  refine w_asg (d := .lst ((waitsW W).map D.str)) (ρ1 := [.dat (.str x), .dat (.lst (W.map D.str)), .no, .no, .no]) (f_val e2 vd_own) (lt_len rfl) rfl ?_
  have pv : ∀ p ∈ waitsW W, Pln k p := fun p hp => by
    unfold waitsW at hp
    split at hp
    · rename_i hc
      exact (pw _ (getD_memS hc.1)).split hp
    · cases hp
  have vc : (waitsW W).length ≤ k + 2 := by
    unfold waitsW
    split
    · rename_i hc
      have := split_cnt (W.getD 1 "") ","
      have := (pw _ (getD_memS hc.1)).len
      omega
    · simp
  have wd : ∀ p ∈ W.drop 2, Pln k p := fun p hp => pw p (List.mem_of_mem_drop hp)
  have c1 : evO (FN (n + 1)) (.comp (.call 9 (.e (.var 3) .nil)) (.nm 3) (.seq (.var 2)) (.cst (.bl true)) [3]) [.dat (.str x), .dat (.lst (W.map D.str)), .dat (.lst ((waitsW W).map D.str)), .no, .no] = .ok (.own (.lst (numsD (waitsW W)))) [.dat (.str x), .dat (.lst (W.map D.str)), .dat (.lst ((waitsW W).map D.str)), .no, .no] :=
    r_mapF (ρ1 := [.dat (.str x), .dat (.lst (W.map D.str)), .dat (.lst ((waitsW W).map D.str)), .no, .no]) D.str (fun w => .int (numIn w)) (i_seq (f_val (r_var rfl) vd_dat) rfl) rfl (by unfold line; omega) fun w hw =>
      ⟨[.dat (.str x), .dat (.lst (W.map D.str)), .dat (.lst ((waitsW W).map D.str)), .dat (.str w), .no], [.dat (.str x), .dat (.lst (W.map D.str)), .dat (.lst ((waitsW W).map D.str)), .dat (.str w), .no], rfl, f_val (r_call (dom_any rfl) (a_e (f_val (r_var rfl) vd_dat) za_nil) rfl (le_len rfl) (number_in_spec n w k (pv w hw) (by omega)) pb_nil) vd_dat, rfl⟩
  have sd : slD (.lst (W.map D.str)) (some 2) none = some (.own (.lst ((W.drop 2).map D.str))) := by
    have := sl_drop (W.map D.str) 2
    rw [← List.map_drop] at this; exact this
  have c2 : evO (FN (n + 1)) (.comp (.call 9 (.e (.var 4) .nil)) (.nm 4) (.seq (.sl (.var 1) (.some (.cst (.int 2))) .none)) (.cst (.bl true)) [4]) [.dat (.str x), .dat (.lst (W.map D.str)), .dat (.lst ((waitsW W).map D.str)), .no, .no] = .ok (.own (.lst (numsD (W.drop 2)))) [.dat (.str x), .dat (.lst (W.map D.str)), .dat (.lst ((waitsW W).map D.str)), .no, .no] :=
    r_mapF (ρ1 := [.dat (.str x), .dat (.lst (W.map D.str)), .dat (.lst ((waitsW W).map D.str)), .no, .no]) D.str (fun w => .int (numIn w)) (i_seq (f_val (r_sl (f_val (r_var rfl) vd_dat) (p_some (f_val r_cst vd_dat)) p_none sd) vd_own) rfl) rfl (by rw [List.length_drop]; unfold line; omega) fun w hw =>
      ⟨[.dat (.str x), .dat (.lst (W.map D.str)), .dat (.lst ((waitsW W).map D.str)), .no, .dat (.str w)], [.dat (.str x), .dat (.lst (W.map D.str)), .dat (.lst ((waitsW W).map D.str)), .no, .dat (.str w)], rfl, f_val (r_call (dom_any rfl) (a_e (f_val (r_var rfl) vd_dat) za_nil) rfl (le_len rfl) (number_in_spec n w k (wd w hw) (by omega)) pb_nil) vd_dat, rfl⟩
  have ea : opBin .add (.tup [.tup (numsD (waitsW W))]) (.tup (numsD (W.drop 2))) = some (.dat (.tup ([.tup (numsD (waitsW W))] ++ numsD (W.drop 2)))) := b_addT (by unfold numsD; rw [List.length_map, List.length_drop]; unfold line; simp; omega)
  exact w_ret rfl (r_bin (f_val (r_tup (l_cons (f_val (r_bi (l_cons (f_val c1 vd_own) l_nil) rfl) vd_dat) l_nil) (le_len rfl)) vd_dat) (f_val (r_bi (l_cons (f_val c2 vd_own) l_nil) rfl) vd_dat) ea) rfl
theorem dat_nums (ws : List Str) : ∀ d ∈ numsD ws, Dat d := fun d h => by
  obtain ⟨w, _, rfl⟩ := List.mem_map.mp h
  exact .int _
theorem dat_prog (x : Str) : Dat (progD x) := by
  refine .tup fun d h => ?_
  rcases List.mem_cons.mp h with rfl | h
  · refine .tup fun d h => ?_
    obtain ⟨l, _, rfl⟩ := List.mem_map.mp h
    refine .tup fun d h => ?_
    rcases List.mem_cons.mp h with rfl | h
    · exact .tup (dat_nums _)
    · exact dat_nums _ d h
  · obtain ⟨l, _, rfl⟩ := List.mem_map.mp h
    exact .tup (dat_nums _)
theorem text_ok {p : Pl} (h : PlNu p) : PyData.strOk (textS p) = true := (text_pln h).ok
def cRPi : IE := .comp (.call 9 (.e (.var 5) .nil)) (.nm 5) (.seq (.sl (.split (.var 4) (.cst (.str " "))) (.some (.cst (.int 1))) .none)) (.cst (.bl true)) [5]
def cRPb : IE := .comp (.bi .tuple (.cons cRPi .nil)) (.nm 4) (.seq (.sl (.var 1) .none (.some (.cst (.int 2))))) (.cst (.bl true)) [4]
def cRPt : IE := .comp (.call 10 (.e (.var 4) .nil)) (.nm 4) (.seq (.sl (.var 1) (.some (.cst (.int 2))) .none)) (.cst (.bl true)) [4]
theorem cRPi_ev (n : Nat) (x0 x1 x2 x3 : Slot) (w : Str) (k : Nat) (h : Pln k w) (hk : k ≤ 9000) : evO (FN (n + 1)) cRPi [x0, x1, x2, x3, .dat (.str w), .no] = .ok (.own (.lst (numsD ((Txt.split w " ").drop 1)))) [x0, x1, x2, x3, .dat (.str w), .no] := by
  have sp := splitD_ok sep_sp h (by omega)
  have cnt := split_cnt w " "
  have hl := h.len
  have sd : slD (.lst ((Txt.split w " ").map D.str)) (some 1) none = some (.own (.lst (((Txt.split w " ").drop 1).map D.str))) := by
    have := sl_drop ((Txt.split w " ").map D.str) 1
    rw [← List.map_drop] at this; exact this
  unfold cRPi
  exact r_mapF (ρ1 := [x0, x1, x2, x3, .dat (.str w), .no]) D.str (fun w => .int (numIn w)) (i_seq (f_val (r_sl (f_val (r_split (f_val (r_var rfl) vd_dat) (f_val r_cst vd_dat) sp) vd_own) (p_some (f_val r_cst vd_dat)) p_none sd) vd_own) rfl) rfl (by rw [List.length_drop]; unfold line; omega) fun v hv =>
      ⟨[x0, x1, x2, x3, .dat (.str w), .dat (.str v)], [x0, x1, x2, x3, .dat (.str w), .dat (.str v)], rfl, f_val (r_call (dom_any rfl) (a_e (f_val (r_var rfl) vd_dat) za_nil) rfl (le_len rfl) (number_in_spec n v k (h.split (List.mem_of_mem_drop hv)) (by omega)) pb_nil) vd_dat, rfl⟩
theorem read_head (n : Nat) (x : Str) (k : Nat) (h : Pln k x) (hk : k ≤ 9000) (Q : SRes → Prop) (rest : ISs)
    (hq : Wp (FN (n + 4)) FU rest [.dat (.str x), .dat (.lst ((Txt.split x "\n").map D.str)), .dat (.tup (((Txt.split x "\n").take 2).map progHead)), .dat (progD x), .no, .no] Q) :
    Wp (FN (n + 4)) FU (.cons (.ifs (.not (.isi (.var 0) (.ty "str"))) (.cons (.raise 34) .nil) .nil) (.cons (.asg 1 (.split (.var 0) (.cst (.str "\n")))) (.cons (.asg 2 (.bi .tuple (.cons cRPb .nil))) (.cons (.asg 3 (.bin .add (.tup (.cons (.bi .tuple (.cons cRPt .nil)) .nil)) (.var 2))) rest)))) [.dat (.str x), .no, .no, .no, .no, .no] Q := by
  have pl : ∀ p ∈ Txt.split x "\n", Pln k p := fun p hp => h.split hp
  have cnt := split_cnt x "\n"
  have hl := h.len
  have sp := splitD_ok sep_nl h (by omega)
  have pd : progD x = .tup ([.tup (((Txt.split x "\n").drop 2).map progTask)] ++ ((Txt.split x "\n").take 2).map progHead) := rfl
  rw [pd] at hq
  generalize Txt.split x "\n" = L at *
  refine w_ifs_f (k := !true) (ρ1 := [.dat (.str x), .no, .no, .no, .no, .no]) (r_not (r_isi (f_val (r_var rfl) vd_dat) ty_str_str)) rfl (w_app_nil ?_)
  refine w_asg (d := .lst (L.map D.str)) (ρ1 := [.dat (.str x), .no, .no, .no, .no, .no]) (f_val (r_split (f_val (r_var rfl) vd_dat) (f_val r_cst vd_dat) sp) vd_own) (lt_len rfl) rfl ?_
  have st : slD (.lst (L.map D.str)) none (some 2) = some (.own (.lst ((L.take 2).map D.str))) := by
    have := sl_take (L.map D.str) 2
    rw [← List.map_take] at this; exact this
  have sd : slD (.lst (L.map D.str)) (some 2) none = some (.own (.lst ((L.drop 2).map D.str))) := by
    have := sl_drop (L.map D.str) 2
    rw [← List.map_drop] at this; exact this
  have e1 : evO (FN (n + 4)) cRPb [.dat (.str x), .dat (.lst (L.map D.str)), .no, .no, .no, .no] = .ok (.own (.lst ((L.take 2).map progHead))) [.dat (.str x), .dat (.lst (L.map D.str)), .no, .no, .no, .no] :=
    r_mapF (ρ1 := [.dat (.str x), .dat (.lst (L.map D.str)), .no, .no, .no, .no]) D.str progHead (i_seq (f_val (r_sl (f_val (r_var rfl) vd_dat) p_none (p_some (f_val r_cst vd_dat)) st) vd_own) rfl) rfl (by rw [List.length_take]; unfold line; omega) fun w hw =>
      ⟨[.dat (.str x), .dat (.lst (L.map D.str)), .no, .no, .dat (.str w), .no], [.dat (.str x), .dat (.lst (L.map D.str)), .no, .no, .dat (.str w), .no], rfl, f_val (r_bi (l_cons (f_val (cRPi_ev (n + 3) _ _ _ _ w k (pl w (List.mem_of_mem_take hw)) hk) vd_own) l_nil) rfl) vd_dat, rfl⟩
  refine w_asg (d := .tup ((L.take 2).map progHead)) (ρ1 := [.dat (.str x), .dat (.lst (L.map D.str)), .no, .no, .no, .no]) (f_val (r_bi (l_cons (f_val e1 vd_own) l_nil) rfl) vd_dat) (lt_len rfl) rfl ?_
  have e2 : evO (FN (n + 4)) cRPt [.dat (.str x), .dat (.lst (L.map D.str)), .dat (.tup ((L.take 2).map progHead)), .no, .no, .no] = .ok (.own (.lst ((L.drop 2).map progTask))) [.dat (.str x), .dat (.lst (L.map D.str)), .dat (.tup ((L.take 2).map progHead)), .no, .no, .no] :=
    r_mapF (ρ1 := [.dat (.str x), .dat (.lst (L.map D.str)), .dat (.tup ((L.take 2).map progHead)), .no, .no, .no]) D.str progTask (i_seq (f_val (r_sl (f_val (r_var rfl) vd_dat) (p_some (f_val r_cst vd_dat)) p_none sd) vd_own) rfl) rfl (by rw [List.length_drop]; unfold line; omega) fun w hw =>
      ⟨[.dat (.str x), .dat (.lst (L.map D.str)), .dat (.tup ((L.take 2).map progHead)), .no, .dat (.str w), .no], [.dat (.str x), .dat (.lst (L.map D.str)), .dat (.tup ((L.take 2).map progHead)), .no, .dat (.str w), .no], rfl, f_val (r_call (dom_any rfl) (a_e (f_val (r_var rfl) vd_dat) za_nil) rfl (le_len rfl) (task_in_spec (n + 2) w k (pl w (List.mem_of_mem_drop hw)) hk) pb_nil) vd_dat, rfl⟩
  have ea : opBin .add (.tup [.tup ((L.drop 2).map progTask)]) (.tup ((L.take 2).map progHead)) = some (.dat (.tup ([.tup ((L.drop 2).map progTask)] ++ (L.take 2).map progHead))) := b_addT (by rw [List.length_map, List.length_take]; unfold line; simp; omega)
  refine w_asg (d := .tup ([.tup ((L.drop 2).map progTask)] ++ (L.take 2).map progHead)) (ρ1 := [.dat (.str x), .dat (.lst (L.map D.str)), .dat (.tup ((L.take 2).map progHead)), .no, .no, .no]) (ρ2 := [.dat (.str x), .dat (.lst (L.map D.str)), .dat (.tup ((L.take 2).map progHead)), .dat (.tup ([.tup ((L.drop 2).map progTask)] ++ (L.take 2).map progHead)), .no, .no]) ?_ (lt_len rfl) rfl hq
  exact f_val (r_bin (f_val (r_tup (l_cons (f_val (r_bi (l_cons (f_val e2 vd_own) l_nil) rfl) vd_dat) l_nil) (le_len rfl)) vd_dat) (f_val (r_var rfl) vd_dat) ea) vd_dat
def tRP : ISs := .cons (.ifs (.or (.not (.call 4 (.e (.var 3) .nil))) (.cmp .ne (.call 7 (.e (.var 3) .nil)) (.var 0))) (.cons (.raise 34) .nil) .nil) (.cons (.ret (.var 3)) .nil)
theorem read_ok (n : Nat) (p : Pl) (hp : PlOk p) : (FN (n + 5)).fn 11 [.dat (.str (textS p))] = .ret (.dat (plD p)) [] := by
  rw [fn_at (d := d_read_plan) rfl]
  have h := hp.nu
  refine run_wp (fd := d_read_plan) (out := fun y => y = .ret (.dat (plD p)) []) rfl (by decide) ?_
  refine read_head n (textS p) 648 (text_pln h) (by decide) _ tRP ?_
  rw [prog_text h]
  have k1 := is_plan_spec (n + 1) (plD p) (dat_pl p)
  rw [planB_plD hp] at k1
  have k2 := as_text_spec (n + 2) p h
  have q := zc_ne (eqD_str (text_ok h) (text_ok h))
  rw [decide_eq_true rfl] at q
  generalize D.lst ((Txt.split (textS p) "\n").map D.str) = L
  generalize D.tup (((Txt.split (textS p) "\n").take 2).map progHead) = B
  unfold tRP
  refine w_ifs_f (k := !true || !true) (ρ1 := [.dat (.str (textS p)), .dat L, .dat B, .dat (plD p), .no, .no]) (r_or (r_not (r_call (dom_any rfl) (a_e (f_val (r_var rfl) vd_dat) za_nil) rfl (le_len rfl) k1 pb_nil)) fun _ => r_cmp (o_val rfl (f_val (r_call (dom_any rfl) (a_e (f_val (r_var rfl) vd_dat) za_nil) rfl (le_len rfl) k2 pb_nil) vd_dat)) (o_var rfl) g_val g_val q) rfl (w_app_nil (w_retV rfl rfl))
theorem read_bad (n : Nat) (x : Str) (k : Nat) (h : Pln k x) (hk : k ≤ 9000) (hx : ∀ p, PlOk p → x ≠ textS p) : (FN (n + 5)).fn 11 [.dat (.str x)] = .exc 34 [] := by
  rw [fn_at (d := d_read_plan) rfl]
  refine run_wp (fd := d_read_plan) (out := fun y => y = .exc 34 []) rfl (by decide) ?_
  refine read_head n x k h hk _ tRP ?_
  have k1 := is_plan_spec (n + 1) (progD x) (dat_prog x)
  generalize D.lst ((Txt.split x "\n").map D.str) = L
  generalize D.tup (((Txt.split x "\n").take 2).map progHead) = B
  unfold tRP
  cases hb : planB (progD x) with
  | false =>
    rw [hb] at k1
    exact w_ifs_t (k := true) (ρ1 := [.dat (.str x), .dat L, .dat B, .dat (progD x), .no, .no]) (r_or_t (r_not (r_call (dom_any rfl) (a_e (f_val (r_var rfl) vd_dat) za_nil) rfl (le_len rfl) k1 pb_nil))) rfl (w_app_cons (w_raise rfl))
  | true =>
    rw [hb] at k1
    obtain ⟨p, e, hp⟩ := planB_inv hb
    rw [e] at k1 ⊢
    have k2 := as_text_spec (n + 2) p hp.nu
    have q := zc_ne (eqD_str (text_ok hp.nu) h.ok)
    rw [decide_eq_false (fun z => hx p hp z.symm)] at q
    exact w_ifs_t (k := !true || !false) (ρ1 := [.dat (.str x), .dat L, .dat B, .dat (plD p), .no, .no]) (r_or (r_not (r_call (dom_any rfl) (a_e (f_val (r_var rfl) vd_dat) za_nil) rfl (le_len rfl) k1 pb_nil)) fun _ => r_cmp (o_val rfl (f_val (r_call (dom_any rfl) (a_e (f_val (r_var rfl) vd_dat) za_nil) rfl (le_len rfl) k2 pb_nil) vd_dat)) (o_var rfl) g_val g_val q) rfl (w_app_cons (w_raise rfl))
theorem read_non (n : Nat) (v : D) (hv : isiD v (.ty "str") = some false) : (FN (n + 5)).fn 11 [.dat v] = .exc 34 [] := by
  rw [fn_at (d := d_read_plan) rfl]
  refine run_wp (fd := d_read_plan) (out := fun y => y = .exc 34 []) rfl (by decide) ?_
  show Wp (FN (n + 4)) FU b_read_plan [.dat v, .no, .no, .no, .no, .no] _
  unfold b_read_plan
  exact w_ifs_t (k := !false) (ρ1 := [.dat v, .no, .no, .no, .no, .no]) (r_not (r_isi (f_val (r_var rfl) vd_dat) hv)) rfl (w_app_cons (w_raise rfl))
end K15
end
section
namespace K15
open PySem AP
/-! the law's own text, its own reading of numbers -/
theorem b_addS {k m : Nat} {a b : Str} (ha : Pln k a) (hb : Pln m b) (h : k + m ≤ 10000) : opBin .add (.str a) (.str b) = some (.dat (.str (a ++ b))) := by
  show (if a.length + b.length ≤ line then _ else _) = _
  rw [if_pos (by have := ha.len; have := hb.len; unfold line; omega)]
theorem headS_cat2 {k kk : Str} {K : List Nat} (hk : cs k = K) (hkk : cs kk = K ++ [32]) (l u : Int) : (((kk ++ numS l) ++ (" " : Str)) ++ numS u) = headS k l u := by
  refine cs_ext ?_
  unfold headS
  simp only [cs_app, cs_join, sep_sp.cs, List.map_cons, List.map_nil, TL.joinL, hk, hkk, List.nil_append, List.append_assoc, List.cons_append]
theorem head_ev {ft : FT} {ρ : AP.Env} {k kk : Str} {K : List Nat} (hk : cs k = K) (hkk : cs kk = K ++ [32]) (pk : Pln 7 kk) {i j : Nat} {l u : Int} (hl : Nu l) (hu : Nu u) (h1 : ρ[i]? = some (.dat (.int l))) (h2 : ρ[j]? = some (.dat (.int u))) :
    frz (evO ft (.bin .add (.bin .add (.bin .add (.cst (.str kk)) (.bi .str (.cons (.var i) .nil))) (.cst (.str " "))) (.bi .str (.cons (.var j) .nil))) ρ) = .ok (.str (headS k l u)) ρ := by
  rw [← headS_cat2 hk hkk]
  have p1 := pk.app hl.pln
  have p2 := p1.app sp_pln
  exact f_val (r_bin (f_val (r_bin (f_val (r_bin (f_val r_cst vd_dat) (f_val (r_bi (l_cons (f_val (r_var h1) vd_dat) l_nil) (str_num hl)) vd_dat) (b_addS pk hl.pln (by decide))) vd_dat) (f_val r_cst vd_dat) (b_addS p1 sp_pln (by decide))) vd_dat) (f_val (r_bi (l_cons (f_val (r_var h2) vd_dat) l_nil) (str_num hu)) vd_dat) (b_addS p2 hu.pln (by decide))) vd_dat
def cLT : IE := .comp (.bi .str (.cons (.var 12) .nil)) (.nm 12) (.seq (.var 7)) (.cst (.bl true)) [12]
def bodyLT : ISs := .cons (.asg 11 (.ite (.cmp .eq (.var 7) (.tup .nil)) (.cst (.str "-")) (.join (.cst (.str ",")) cLT))) (.cons (.app 6 (.join (.cst (.str " ")) (.lst (.cons (.cst (.str "task")) (.cons (.var 11) (.cons (.bi .str (.cons (.var 8) .nil)) (.cons (.bi .str (.cons (.var 9) .nil)) (.cons (.bi .str (.cons (.var 10) .nil)) .nil)))))))) .nil)
def eLT (x0 x1 x2 x3 x4 x5 : Slot) (ls : List Str) (t : Tk) (x11 : Slot) : AP.Env := [x0, x1, x2, x3, x4, x5, .own (.lst (ls.map D.str)), .dat (.tup (bagD t.ws)), .dat (.int t.a), .dat (.int t.b), .dat (.int t.c), x11, .no]
theorem bodyLT_ev (ft : FT) (x0 x1 x2 x3 x4 x5 : Slot) (ls : List Str) (hl : ls.length ≤ 1000) (t : Tk) (h : TkNu t) (x11 : Slot) : Wp ft FU bodyLT (eLT x0 x1 x2 x3 x4 x5 ls t x11) fun r => ∃ x11, r = .next (eLT x0 x1 x2 x3 x4 x5 (ls ++ [lineS t]) t x11) := by
  have ec : evO ft cLT (eLT x0 x1 x2 x3 x4 x5 ls t x11) = .ok (.own (.lst ((t.ws.map numS).map D.str))) (eLT x0 x1 x2 x3 x4 x5 ls t x11) := by
    rw [← gStr_map]
    have wl := h.wl
    unfold cLT eLT
    refine r_map (ρ1 := [x0, x1, x2, x3, x4, x5, .own (.lst (ls.map D.str)), .dat (.tup (bagD t.ws)), .dat (.int t.a), .dat (.int t.b), .dat (.int t.c), x11, .no]) gStr (i_seq (f_val (r_var rfl) vd_dat) rfl) rfl (by rw [List.length_map]; unfold line; omega) (fun d hd => ?_)
    obtain ⟨w, hw, rfl⟩ := List.mem_map.mp hd
    exact ⟨[x0, x1, x2, x3, x4, x5, .own (.lst (ls.map D.str)), .dat (.tup (bagD t.ws)), .dat (.int t.a), .dat (.int t.b), .dat (.int t.c), x11, .dat (.int w)], [x0, x1, x2, x3, x4, x5, .own (.lst (ls.map D.str)), .dat (.tup (bagD t.ws)), .dat (.int t.a), .dat (.int t.b), .dat (.int t.c), x11, .dat (.int w)], rfl, f_val (r_bi (l_cons (f_val (r_var rfl) vd_dat) l_nil) (str_num (h.ws w hw))) vd_dat, rfl⟩
  have ll : (ls.map D.str).length < line := by rw [List.length_map]; unfold line; omega
  unfold bodyLT
  refine w_asg (d := .str (waitsS t.ws)) (ρ1 := eLT x0 x1 x2 x3 x4 x5 ls t x11) (ρ2 := eLT x0 x1 x2 x3 x4 x5 ls t (.dat (.str (waitsS t.ws)))) (f_val (v := .dat (.str (waitsS t.ws))) (r_ite (k := decide (t.ws = [])) (r_cmp (o_var rfl) (o_val rfl (f_val (r_tup l_nil (le_len rfl)) vd_dat)) g_val g_val (zc_eq (tup_nil t.ws))) (fun hc => ?_) (fun hc => ?_)) vd_dat) (lt_len rfl) rfl ?_
  · unfold waitsS
    rw [if_pos (of_decide_eq_true hc)]; exact r_cst
  · unfold waitsS
    rw [if_neg (of_decide_eq_false hc)]
    exact r_join (f_val r_cst vd_dat) (f_val ec vd_own) (waits_join h.ws h.wl)
  · have ej : joinD " " (.lst ([("task" : Str), waitsS t.ws, numS t.a, numS t.b, numS t.c].map D.str)) = some (.dat (.str (lineS t))) := joinD_ok (k := 15) (n := 5) sep_sp (fun q hq => (line_parts h q hq).1) (by simp) (by decide)
    refine w_app (d := .str (lineS t)) (ds := ls.map D.str) (ρ1 := eLT x0 x1 x2 x3 x4 x5 ls t (.dat (.str (waitsS t.ws)))) (ρ2 := eLT x0 x1 x2 x3 x4 x5 (ls ++ [lineS t]) t (.dat (.str (waitsS t.ws)))) rfl (f_val (r_join (f_val r_cst vd_dat) (f_val (r_lst (l_cons (f_val r_cst vd_dat) (l_cons (f_val (r_var rfl) vd_dat) (l_cons (f_val (r_bi (l_cons (f_val (r_var rfl) vd_dat) l_nil) (str_num h.a)) vd_dat) (l_cons (f_val (r_bi (l_cons (f_val (r_var rfl) vd_dat) l_nil) (str_num h.b)) vd_dat) (l_cons (f_val (r_bi (l_cons (f_val (r_var rfl) vd_dat) l_nil) (str_num h.c)) vd_dat) l_nil))))) (le_len rfl)) vd_own) ej) vd_dat) rfl ll ?_ (w_nil ⟨_, rfl⟩)
    unfold eLT
    rw [List.map_append]; rfl
theorem law_text_spec (n : Nat) (p : Pl) (h : PlNu p) : (FN (n + 1)).fn 20 [.dat (plD p)] = .ret (.dat (.str (textS p))) [] := by
  rw [fn_at (d := d_law_text) rfl]
  refine run_wp (fd := d_law_text) (out := fun x => x = .ret (.dat (.str (textS p))) []) rfl (by decide) ?_
  show Wp (FN n) FU (.cons (.asgT (.tup (.cons (.nm 1) (.cons (.tup (.cons (.nm 2) (.cons (.nm 3) .nil))) (.cons (.tup (.cons (.nm 4) (.cons (.nm 5) .nil))) .nil)))) (.var 0)) (.cons (.asgO 6 (.lst (.cons (.bin .add (.bin .add (.bin .add (.cst (.str "first ")) (.bi .str (.cons (.var 2) .nil))) (.cst (.str " "))) (.bi .str (.cons (.var 3) .nil))) (.cons (.bin .add (.bin .add (.bin .add (.cst (.str "second ")) (.bi .str (.cons (.var 4) .nil))) (.cst (.str " "))) (.bi .str (.cons (.var 5) .nil))) .nil)))) (.cons (.forS (.tup (.cons (.nm 7) (.cons (.nm 8) (.cons (.nm 9) (.cons (.nm 10) .nil))))) (.seq (.var 1)) bodyLT) (.cons (.ret (.join (.cst (.str "\n")) (.var 6))) .nil)))) [.dat (plD p), .no, .no, .no, .no, .no, .no, .no, .no, .no, .no, .no, .no] _
  refine w_asgT (d := plD p) (ρ1 := [.dat (plD p), .no, .no, .no, .no, .no, .no, .no, .no, .no, .no, .no, .no]) (ρ2 := [.dat (plD p), .dat (.tup (p.ts.map tkD)), .dat (.int p.l1), .dat (.int p.h1), .dat (.int p.l2), .dat (.int p.h2), .no, .no, .no, .no, .no, .no, .no]) (f_val (r_var rfl) vd_dat) rfl ?_
  refine w_asgO (v := .own (.lst ([headS "first" p.l1 p.h1, headS "second" p.l2 p.h2].map D.str))) (ρ1 := [.dat (plD p), .dat (.tup (p.ts.map tkD)), .dat (.int p.l1), .dat (.int p.h1), .dat (.int p.l2), .dat (.int p.h2), .no, .no, .no, .no, .no, .no, .no]) (r_lst (l_cons (head_ev first_cs (by decide +kernel) first_pln h.l1 h.h1 rfl rfl) (l_cons (head_ev second_cs (by decide +kernel) second_pln h.l2 h.h2 rfl rfl) l_nil)) (le_len rfl)) (lt_len rfl) rfl ?_
  have l6 := h.len
  refine w_for_inv (I := fun k ρ => ∃ x7 x8 x9 x10 x11, ρ = [.dat (plD p), .dat (.tup (p.ts.map tkD)), .dat (.int p.l1), .dat (.int p.h1), .dat (.int p.l2), .dat (.int p.h2), .own (.lst (([headS "first" p.l1 p.h1, headS "second" p.l2 p.h2] ++ (p.ts.take k).map lineS).map D.str)), x7, x8, x9, x10, x11, .no]) (ds := p.ts.map tkD) (ρ1 := [.dat (plD p), .dat (.tup (p.ts.map tkD)), .dat (.int p.l1), .dat (.int p.h1), .dat (.int p.l2), .dat (.int p.h2), .own (.lst ([headS "first" p.l1 p.h1, headS "second" p.l2 p.h2].map D.str)), .no, .no, .no, .no, .no, .no]) (i_seq (f_val (r_var rfl) vd_dat) rfl) ⟨_, _, _, _, _, rfl⟩ (fun k d ρ hd ⟨x7, x8, x9, x10, x11, e⟩ => ?_) (fun ρ ⟨x7, x8, x9, x10, x11, e⟩ => ?_)
  · subst e
    rw [List.getElem?_map] at hd
    obtain ⟨t, ht, rfl⟩ := Option.map_eq_some_iff.mp hd
    refine ⟨eLT (.dat (plD p)) (.dat (.tup (p.ts.map tkD))) (.dat (.int p.l1)) (.dat (.int p.h1)) (.dat (.int p.l2)) (.dat (.int p.h2)) ([headS "first" p.l1 p.h1, headS "second" p.l2 p.h2] ++ (p.ts.take k).map lineS) t x11, rfl, ?_⟩
    refine (bodyLT_ev (FN n) _ _ _ _ _ _ _ (by rw [List.length_append, List.length_map, List.length_take]; simp; omega) t (h.ts t (List.mem_of_getElem? ht)) x11).mono fun r ⟨y11, e⟩ => ⟨_, .inl e, .dat (.tup (bagD t.ws)), .dat (.int t.a), .dat (.int t.b), .dat (.int t.c), y11, ?_⟩
    have e2 : p.ts.take (k + 1) = p.ts.take k ++ [t] := by rw [List.take_add_one, ht]; rfl
    have e3 : [headS "first" p.l1 p.h1, headS "second" p.l2 p.h2] ++ (p.ts.take k ++ [t]).map lineS = ([headS "first" p.l1 p.h1, headS "second" p.l2 p.h2] ++ (p.ts.take k).map lineS) ++ [lineS t] := by
      rw [List.map_append, ← List.append_assoc]; rfl
    rw [e2, e3]; rfl
  · subst e
    rw [List.length_map, List.take_length]
    have ej : joinD "\n" (.lst ((linesS p).map D.str)) = some (.dat (.str (textS p))) := joinD_ok (k := 80) (n := 8) sep_nl (fun l hl => (lines_ok h l hl).1) (by unfold linesS; simp; omega) (by decide)
    exact w_ret rfl (r_join (f_val r_cst vd_dat) (f_val (r_varO rfl) vd_dat) ej) rfl
/-! numbers -/
theorem val_two {w : Str} (h : digs w = true) (hl : w.length ≤ 2) : ∃ n : Nat, valS w = n ∧ n < 100 := by
  unfold valS digs at *
  rw [cs_len] at hl
  refine ⟨_, rfl, ?_⟩
  generalize cs w = l at *
  match l, hl with
  | [], _ => decide
  | [a], _ =>
    simp at h
    show 0 * 10 + (a - 48) < 100
    omega
  | [a, b], _ =>
    simp at h
    show (0 * 10 + (a - 48)) * 10 + (b - 48) < 100
    omega
def qDig (d : D) : Bool := match inD d (.str "0123456789") with | some b => !b | none => false
theorem lst_nil {ds : List D} (h : D.plainL ds = true) : eqD (.lst ds) (.lst []) = some (decide (ds = [])) := by
  unfold eqD
  have h4 : min (D.lst ds).dep (D.lst []).dep ≤ 60 := Nat.le_trans (Nat.min_le_right _ _) (by decide)
  have e : eqOk (.lst ds) (.lst []) = true := by
    unfold eqOk
    rw [show (D.lst ds).plain = true from h, decide_eq_true h4]; rfl
  rw [if_pos e]
  cases ds <;> rfl
theorem plain_all : ∀ {ds : List D}, (∀ d ∈ ds, d.plain = true) → D.plainL ds = true
  | [], _ => rfl
  | d :: r, h => by
    show (d.plain && D.plainL r) = true
    rw [h d List.mem_cons_self, plain_all fun x hx => h x (List.mem_cons_of_mem _ hx)]; rfl
theorem empty_ok : PyData.strOk ("" : Str) = true := by decide +kernel
theorem law_integer_spec (n : Nat) (w : Str) (k : Nat) (h : Pln k w) (hk : k ≤ 9000) : (FN (n + 1)).fn 21 [.dat (.str w)] = .ret (.dat (lawInt w)) [] := by
  rw [fn_at (d := d_law_integer) rfl]
  refine run_wp (fd := d_law_integer) (out := fun x => x = .ret (.dat (lawInt w)) []) rfl (by decide) ?_
  show Wp (FN n) FU (.cons (.ifs (.or (.cmp .eq (.var 0) (.cst (.str ""))) (.or (.cmp .gt (.len (.var 0)) (.cst (.int 2))) (.cmp .ne (.comp (.var 1) (.nm 1) (.seq (.var 0)) (.cmp .notin (.var 1) (.cst (.str "0123456789"))) [1]) (.lst .nil)))) (.cons (.ret (.cst .non)) .nil) .nil) (.cons (.ret (.ite (.cmp .eq (.bi .str (.cons (.bi .int (.cons (.var 0) .nil)) .nil)) (.var 0)) (.bi .int (.cons (.var 0) .nil)) (.cst .non))) .nil)) [.dat (.str w), .no] _
  have ec : evO (FN n) (.comp (.var 1) (.nm 1) (.seq (.var 0)) (.cmp .notin (.var 1) (.cst (.str "0123456789"))) [1]) [.dat (.str w), .no] = .ok (.own (.lst ((((cs w).map sgn).filter qDig).map id))) [.dat (.str w), .no] := by
    refine r_filter (ρ1 := [.dat (.str w), .no]) id qDig (i_seq (f_val (r_var rfl) vd_dat) (seq_str w)) rfl (by rw [List.length_map, ← cs_len]; have := h.len; unfold line; omega) (fun d hd => ?_)
    obtain ⟨c, _, rfl⟩ := List.mem_map.mp hd
    refine ⟨[.dat (.str w), .dat (sgn c)], [.dat (.str w), .dat (sgn c)], rfl, ?_, rfl, fun _ => ⟨[.dat (.str w), .dat (sgn c)], f_val (r_var rfl) vd_dat, rfl⟩⟩
    unfold qDig
    rw [in_digits]
    exact r_cmp (o_var rfl) (o_val rfl (f_val r_cst vd_dat)) g_val g_val (c_nin (in_digits c))
  have hpl : D.plainL ((((cs w).map sgn).filter qDig).map id) = true := plain_all fun d hd => by
    rw [List.map_id] at hd
    obtain ⟨c, hc, rfl⟩ := List.mem_map.mp (List.mem_filter.mp hd).1
    show PyData.strOk ⟨#[c]⟩ = true
    unfold PyData.strOk
    have := h.lt c hc
    simp; omega
  have hn : ((((cs w).map sgn).filter qDig).map id = []) ↔ digs w = true := by
    rw [List.map_id, List.filter_eq_nil_iff]
    unfold digs
    rw [List.all_eq_true]
    constructor
    · intro z c hc
      have := z (sgn c) (List.mem_map.mpr ⟨c, hc, rfl⟩)
      unfold qDig at this
      rw [in_digits] at this
      simpa [digC] using this
    · intro z d hd
      obtain ⟨c, hc, rfl⟩ := List.mem_map.mp hd
      unfold qDig
      rw [in_digits]
      have := z c hc
      simpa [digC] using this
  refine w_ifs (k := decide (w = "") || (decide ((2 : Int) < (w.length : Int)) || !decide (((((cs w).map sgn).filter qDig).map id) = []))) (ρ1 := [.dat (.str w), .no]) (r_or (r_cmp (o_var rfl) (o_val rfl (f_val r_cst vd_dat)) g_val g_val (zc_eq (eqD_str h.ok empty_ok))) fun _ => r_or (r_cmp (o_val rfl (f_val (r_len (o_var rfl) g_val (len_str h (by omega))) vd_dat)) (o_val rfl (f_val r_cst vd_dat)) g_val g_val c_gt) fun _ => r_cmp (o_val rfl (f_val ec vd_own)) (o_val rfl (f_val (r_lst l_nil (le_len rfl)) vd_own)) g_val g_val (zc_ne (lst_nil hpl))) (fun hc => ?_) (fun hc => ?_)
  · refine w_app_cons (w_ret rfl r_cst ?_)
    have e : lawInt w = .non := by
      unfold lawInt
      rw [if_pos]
      rw [Bool.or_eq_true, Bool.or_eq_true, decide_eq_true_eq, decide_eq_true_eq, Bool.not_eq_true', decide_eq_false_iff_not] at hc
      rcases hc with hc | hc | hc
      · exact .inl hc
      · exact .inr (.inl (by omega))
      · refine .inr (.inr ?_)
        rw [hn] at hc
        simpa using hc
    rw [e]; rfl
  · rw [Bool.or_eq_false_iff, Bool.or_eq_false_iff, decide_eq_false_iff_not, decide_eq_false_iff_not, Bool.not_eq_false', decide_eq_true_eq, hn] at hc
    obtain ⟨h1, h2, h3⟩ := hc
    have hw : Pln 2 w := ⟨by omega, h.lt⟩
    have hne : 1 ≤ w.length := by
      rw [cs_len]
      refine List.length_pos_iff.mpr fun z => h1 (cs_ext ?_)
      rw [z, empty_cs]
    obtain ⟨m, hm, hm2⟩ := val_two h3 hw.len
    have nu : Nu (valS w) := ⟨by omega, by omega⟩
    have ei : evO (FN n) (.bi .int (.cons (.var 0) .nil)) [.dat (.str w), .no] = .ok (.dat (.int (valS w))) [.dat (.str w), .no] := r_bi (l_cons (f_val (r_var rfl) vd_dat) l_nil) (int_str hw (by decide) h3 hne)
    have e : lawInt w = if numS (valS w) = w then .int (valS w) else .non := by
      unfold lawInt
      rw [if_neg]
      rintro (z | z | z)
      · exact h1 z
      · omega
      · rw [h3] at z; cases z
    rw [e]
    have cc := r_cmp (ft := FN n) (ρ := [.dat (.str w), .no]) (o := .eq) (a := .bi .str (.cons (.bi .int (.cons (.var 0) .nil)) .nil)) (b := .var 0) (o_val rfl (f_val (r_bi (l_cons (f_val ei vd_dat) l_nil) (str_num nu)) vd_dat)) (o_var rfl) g_val g_val (zc_eq (eqD_str nu.pln.ok h.ok))
    by_cases z : numS (valS w) = w
    · rw [if_pos z]
      exact w_app_nil (w_ret rfl (r_ite_t cc (decide_eq_true z) ei) rfl)
    · rw [if_neg z]
      exact w_app_nil (w_ret rfl (r_ite_f cc (decide_eq_false z) r_cst) rfl)
end K15
end
section
namespace K15
open PySem AP
/-! the law's reading of texts -/
def rowD (r : List Str) : D := .lst (r.map D.str)
theorem strs_eqv (xs ys : List Str) : D.eqvL (xs.map D.str) (ys.map D.str) = decide (xs = ys) := by
  induction xs generalizing ys with
  | nil => cases ys <;> simp [D.eqvL]
  | cons x r ih =>
    cases ys with
    | nil => simp [D.eqvL]
    | cons y s =>
      simp only [List.map_cons, D.eqvL, ih, D.eqv]
      rw [Bool.eq_iff_iff]; simp
theorem strs_dep : ∀ xs : List Str, D.depL (xs.map D.str) = 0
  | [] => rfl
  | x :: r => by
    show max 0 (D.depL (r.map D.str)) = 0
    rw [strs_dep r]; rfl
theorem eqD_strs {xs ys : List Str} (hx : ∀ x ∈ xs, PyData.strOk x = true) (hy : ∀ y ∈ ys, PyData.strOk y = true) : eqD (.lst (xs.map D.str)) (.lst (ys.map D.str)) = some (decide (xs = ys)) := by
  unfold eqD
  have pl : ∀ zs : List Str, (∀ z ∈ zs, PyData.strOk z = true) → D.plainL (zs.map D.str) = true := fun zs h => plain_all fun d hd => by
    obtain ⟨z, hz, rfl⟩ := List.mem_map.mp hd
    exact h z hz
  have e : eqOk (.lst (xs.map D.str)) (.lst (ys.map D.str)) = true := by
    unfold eqOk
    rw [show (D.lst (xs.map D.str)).plain = true from pl xs hx, show (D.lst (ys.map D.str)).plain = true from pl ys hy]
    show (true && decide (min (D.depL (xs.map D.str) + 1) (D.depL (ys.map D.str) + 1) ≤ 60)) = true
    rw [strs_dep, strs_dep]; rfl
  rw [if_pos e]
  show some (D.eqvL _ _) = _
  rw [strs_eqv]
theorem rep_one (d : D) : ∀ n : Nat, (List.replicate n [d]).flatten = List.replicate n d
  | 0 => rfl
  | n + 1 => by rw [List.replicate_succ, List.flatten_cons, rep_one d n]; rfl
theorem mul_strs (s : Str) (k : Nat) (hk : k ≤ 1000) : opBin .mul (.lst [.str s]) (.int k) = some (.own (.lst ((List.replicate k s).map D.str))) := by
  have e : (List.replicate k [D.str s]).flatten = (List.replicate k s).map D.str := by rw [rep_one, List.map_replicate]
  show (if (decide ((0 : Int) ≤ (k : Int)) && decide ((k : Int) ≤ 1000) && decide ([D.str s].length * ((k : Int)).toNat ≤ line)) = true then some (Val.own (M.lst (List.replicate ((k : Int)).toNat [D.str s]).flatten)) else none) = _
  rw [Int.toNat_natCast, e, decide_eq_true (by omega), decide_eq_true (by omega), decide_eq_true (by unfold line; simp; omega)]; rfl
def cR0 : IE := .comp (.split (.var 1) (.cst (.str " "))) (.nm 1) (.seq (.split (.var 0) (.cst (.str "\n")))) (.cst (.bl true)) [1]
def cRh : IE := .comp (.idx (.var 1) (.cst (.int 0))) (.nm 1) (.seq (.var 2)) (.cst (.bl true)) [1]
def cR5 : IE := .comp (.cst (.int 1)) (.nm 1) (.seq (.sl (.var 2) (.some (.cst (.int 2))) .none)) (.cmp .ne (.len (.var 1)) (.cst (.int 5))) [1]
def cRi : IE := .comp (.call 21 (.e (.var 6) .nil)) (.nm 6) (.seq (.sl (.var 1) (.some (.cst (.int 1))) .none)) (.cst (.bl true)) [6]
def cRb : IE := .comp (.bi .tuple (.cons cRi .nil)) (.nm 1) (.seq (.sl (.var 2) .none (.some (.cst (.int 2))))) (.cst (.bl true)) [1]
def cRw : IE := .comp (.call 21 (.e (.var 6) .nil)) (.nm 6) (.seq (.split (.idx (.var 1) (.cst (.int 1))) (.cst (.str ",")))) (.cst (.bl true)) [6]
def cR2 : IE := .comp (.call 21 (.e (.var 6) .nil)) (.nm 6) (.seq (.sl (.var 1) (.some (.cst (.int 2))) .none)) (.cst (.bl true)) [6]
def bodyLR : ISs := .cons (.asg 5 (.ite (.cmp .eq (.idx (.var 1) (.cst (.int 1))) (.cst (.str "-"))) (.tup .nil) (.bi .tuple (.cons cRw .nil)))) (.cons (.asg 4 (.bin .add (.var 4) (.tup (.cons (.bin .add (.tup (.cons (.var 5) .nil)) (.bi .tuple (.cons cR2 .nil))) .nil)))) .nil)
def rfR : ISs := .cons (.ret (.cst .non)) .nil
theorem sl_dropS (r : List Str) (k : Nat) : slD (rowD r) (some (k : Int)) none = some (.own (.lst ((r.drop k).map D.str))) := by
  have := sl_drop (r.map D.str) k
  rw [← List.map_drop] at this; exact this
theorem drop_ev (n : Nat) (x0 x2 x3 x4 x5 : Slot) (r : List Str) (k j : Nat) (hr : ∀ w ∈ r, Pln k w) (hk : k ≤ 9000) (hl : r.length ≤ 9100) {e : IE} (he : e = .comp (.call 21 (.e (.var 6) .nil)) (.nm 6) (.seq (.sl (.var 1) (.some (.cst (.int j))) .none)) (.cst (.bl true)) [6]) :
    evO (FN (n + 1)) e [x0, .dat (rowD r), x2, x3, x4, x5, .no] = .ok (.own (.lst ((r.drop j).map lawInt))) [x0, .dat (rowD r), x2, x3, x4, x5, .no] := by
  subst he
  exact r_mapF (ρ1 := [x0, .dat (rowD r), x2, x3, x4, x5, .no]) D.str lawInt (i_seq (f_val (r_sl (f_val (r_var rfl) vd_dat) (p_some (f_val r_cst vd_dat)) p_none (sl_dropS r j)) vd_own) rfl) rfl (by rw [List.length_drop]; unfold line; omega) fun w hw =>
      ⟨[x0, .dat (rowD r), x2, x3, x4, x5, .dat (.str w)], [x0, .dat (rowD r), x2, x3, x4, x5, .dat (.str w)], rfl, f_val (r_call (dom_any rfl) (a_e (f_val (r_var rfl) vd_dat) za_nil) rfl (le_len rfl) (law_integer_spec n w k (hr w (List.mem_of_mem_drop hw)) hk) pb_nil) vd_dat, rfl⟩
theorem bodyLR_ev (n : Nat) (x0 x2 x3 : Slot) (r : List Str) (k : Nat) (hr : ∀ w ∈ r, Pln k w) (hk : k ≤ 9000) (h5 : r.length = 5) (F : List D) (hF : F.length ≤ 9100) (x5 : Slot) : Wp (FN (n + 1)) FU bodyLR [x0, .dat (rowD r), x2, x3, .dat (.tup F), x5, .no] fun q => ∃ x5, q = .next [x0, .dat (rowD r), x2, x3, .dat (.tup (F ++ [lawTask r])), x5, .no] := by
  have ix : ixD (rowD r) (.int 1) = some (.str (r.getD 1 "")) := ix_strs r 1 (by omega)
  have pm := hr _ (getD_memS (show 1 < r.length by omega))
  have cc := r_cmp (ft := FN (n + 1)) (ρ := [x0, .dat (rowD r), x2, x3, .dat (.tup F), x5, .no]) (o := .eq) (a := .idx (.var 1) (.cst (.int 1))) (b := .cst (.str "-")) (o_val rfl (f_val (r_idx (o_var rfl) (f_val r_cst vd_dat) g_val ix) vd_dat)) (o_val rfl (f_val r_cst vd_dat)) g_val g_val (zc_eq (eqD_str pm.ok dash_ok))
  have e5 : evO (FN (n + 1)) (.ite (.cmp .eq (.idx (.var 1) (.cst (.int 1))) (.cst (.str "-"))) (.tup .nil) (.bi .tuple (.cons cRw .nil))) [x0, .dat (rowD r), x2, x3, .dat (.tup F), x5, .no] = .ok (.dat (.tup (if r.getD 1 "" = "-" then [] else (Txt.split (r.getD 1 "") ",").map lawInt))) [x0, .dat (rowD r), x2, x3, .dat (.tup F), x5, .no] := by
    by_cases hd : r.getD 1 "" = "-"
    · rw [if_pos hd]
      exact r_ite_t cc (decide_eq_true hd) (r_tup l_nil (le_len rfl))
    · rw [if_neg hd]
      have cnt := split_cnt (r.getD 1 "") ","
      have pl := pm.len
      have ec : evO (FN (n + 1)) cRw [x0, .dat (rowD r), x2, x3, .dat (.tup F), x5, .no] = .ok (.own (.lst ((Txt.split (r.getD 1 "") ",").map lawInt))) [x0, .dat (rowD r), x2, x3, .dat (.tup F), x5, .no] :=
        r_mapF (ρ1 := [x0, .dat (rowD r), x2, x3, .dat (.tup F), x5, .no]) D.str lawInt (i_seq (f_val (r_split (f_val (r_idx (o_var rfl) (f_val r_cst vd_dat) g_val ix) vd_dat) (f_val r_cst vd_dat) (splitD_ok sep_cm pm (by omega))) vd_own) rfl) rfl (by unfold line; omega) fun w hw =>
          ⟨[x0, .dat (rowD r), x2, x3, .dat (.tup F), x5, .dat (.str w)], [x0, .dat (rowD r), x2, x3, .dat (.tup F), x5, .dat (.str w)], rfl, f_val (r_call (dom_any rfl) (a_e (f_val (r_var rfl) vd_dat) za_nil) rfl (le_len rfl) (law_integer_spec n w k (pm.split hw) hk) pb_nil) vd_dat, rfl⟩
      exact r_ite_f cc (decide_eq_false hd) (r_bi (l_cons (f_val ec vd_own) l_nil) rfl)
  unfold bodyLR
  refine w_asg (d := .tup (if r.getD 1 "" = "-" then [] else (Txt.split (r.getD 1 "") ",").map lawInt)) (ρ1 := [x0, .dat (rowD r), x2, x3, .dat (.tup F), x5, .no]) (f_val e5 vd_dat) (lt_len rfl) rfl ?_
  have e6 := drop_ev n x0 x2 x3 (.dat (.tup F)) (.dat (.tup (if r.getD 1 "" = "-" then [] else (Txt.split (r.getD 1 "") ",").map lawInt))) r k 2 hr hk (by omega) (e := cR2) rfl
  have ea : opBin .add (.tup [.tup (if r.getD 1 "" = "-" then [] else (Txt.split (r.getD 1 "") ",").map lawInt)]) (.tup ((r.drop 2).map lawInt)) = some (.dat (lawTask r)) := b_addT (by rw [List.length_map, List.length_drop]; unfold line; simp; omega)
  have eb : opBin .add (.tup F) (.tup [lawTask r]) = some (.dat (.tup (F ++ [lawTask r]))) := b_addT (by unfold line; simp; omega)
  exact w_asg (d := .tup (F ++ [lawTask r])) (ρ1 := [x0, .dat (rowD r), x2, x3, .dat (.tup F), .dat (.tup (if r.getD 1 "" = "-" then [] else (Txt.split (r.getD 1 "") ",").map lawInt)), .no]) (ρ2 := [x0, .dat (rowD r), x2, x3, .dat (.tup (F ++ [lawTask r])), .dat (.tup (if r.getD 1 "" = "-" then [] else (Txt.split (r.getD 1 "") ",").map lawInt)), .no]) (f_val (r_bin (f_val (r_var rfl) vd_dat) (f_val (r_tup (l_cons (f_val (r_bin (f_val (r_tup (l_cons (f_val (r_var rfl) vd_dat) l_nil) (le_len rfl)) vd_dat) (f_val (r_bi (l_cons (f_val e6 vd_own) l_nil) rfl) vd_dat) ea) vd_dat) l_nil) (le_len rfl)) vd_dat) eb) vd_dat) (lt_len rfl) rfl (w_nil ⟨_, rfl⟩)
theorem dat_lawInt (w : Str) : Dat (lawInt w) := by
  unfold lawInt
  split
  · exact .non
  · split
    · exact .int _
    · exact .non
theorem dat_laws (ws : List Str) : ∀ d ∈ ws.map lawInt, Dat d := fun d h => by
  obtain ⟨w, _, rfl⟩ := List.mem_map.mp h
  exact dat_lawInt w
theorem dat_lawTask (r : List Str) : Dat (lawTask r) := .tup fun d h => by
  rcases List.mem_cons.mp h with rfl | h
  · refine .tup fun d h => ?_
    split at h
    · cases h
    · exact dat_laws _ d h
  · exact dat_laws _ d h
theorem dat_lawV (rows : List (List Str)) : Dat (lawV rows) := .tup fun d h => by
  simp only [List.mem_cons, List.not_mem_nil, or_false] at h
  rcases h with rfl | rfl | rfl
  · refine .tup fun d h => ?_
    obtain ⟨r, _, rfl⟩ := List.mem_map.mp h
    exact dat_lawTask r
  · exact .tup (dat_laws _)
  · exact .tup (dat_laws _)
def qFive (d : D) : Bool := match d with | .lst ds => !decide ((ds.length : Int) = 5) | _ => false
def retLR : ISs := .cons (.ret (.ite (.call 4 (.e (.tup (.cons (.var 4) (.cons (.idx (.var 3) (.cst (.int 0))) (.cons (.idx (.var 3) (.cst (.int 1))) .nil)))) .nil)) (.tup (.cons (.var 4) (.cons (.idx (.var 3) (.cst (.int 0))) (.cons (.idx (.var 3) (.cst (.int 1))) .nil)))) (.cst .non))) .nil
def bodyR4 : ISs := .cons (.asgO 3 cRb) (.cons (.asg 4 (.tup .nil)) (.cons (.forS (.nm 1) (.seq (.sl (.var 2) (.some (.cst (.int 2))) .none)) bodyLR) retLR))
theorem bodyR4_ev (n : Nat) (x : Str) (k : Nat) (hk : k ≤ 900) (r0 r1 : List Str) (rs : List (List Str)) (hw : ∀ r ∈ r0 :: r1 :: rs, (∀ w ∈ r, Pln k w) ∧ r.length ≤ k + 2) (hn : rs.length ≤ k + 2) (h5 : rs.all (fun r => decide (r.length = 5)) = true) (x1 : Slot) :
    Wp (FN (n + 3)) FU bodyR4 [.dat (.str x), .no, .dat (.lst ((r0 :: r1 :: rs).map rowD)), .no, .no, .no, .no] fun q => q = .ret (.dat (if planB (lawV (r0 :: r1 :: rs)) = true then lawV (r0 :: r1 :: rs) else .non)) [] ∨ ∃ ρ, q = .ret (.dat (if planB (lawV (r0 :: r1 :: rs)) = true then lawV (r0 :: r1 :: rs) else .non)) ρ := by
  have st : slD (.lst ((r0 :: r1 :: rs).map rowD)) none (some 2) = some (.own (.lst ([r0, r1].map rowD))) := by
    have := sl_take ((r0 :: r1 :: rs).map rowD) 2
    rw [← List.map_take] at this; exact this
  have sd : slD (.lst ((r0 :: r1 :: rs).map rowD)) (some 2) none = some (.own (.lst (rs.map rowD))) := by
    have := sl_drop ((r0 :: r1 :: rs).map rowD) 2
    rw [← List.map_drop] at this; exact this
  have e1 : evO (FN (n + 3)) cRb [.dat (.str x), .no, .dat (.lst ((r0 :: r1 :: rs).map rowD)), .no, .no, .no, .no] = .ok (.own (.lst ([r0, r1].map lawHead))) [.dat (.str x), .no, .dat (.lst ((r0 :: r1 :: rs).map rowD)), .no, .no, .no, .no] :=
    r_mapF (ρ1 := [.dat (.str x), .no, .dat (.lst ((r0 :: r1 :: rs).map rowD)), .no, .no, .no, .no]) rowD lawHead (i_seq (f_val (r_sl (f_val (r_var rfl) vd_dat) p_none (p_some (f_val r_cst vd_dat)) st) vd_own) rfl) rfl (by show 2 < 16777216; decide) fun r hr => by
      have hm : r ∈ r0 :: r1 :: rs := by
        simp only [List.mem_cons, List.not_mem_nil, or_false] at hr ⊢
        rcases hr with rfl | rfl <;> simp
      have e := drop_ev (n + 2) (.dat (.str x)) (.dat (.lst ((r0 :: r1 :: rs).map rowD))) .no .no .no r k 1 (hw r hm).1 (by omega) (by have := (hw r hm).2; omega) (e := cRi) rfl
      exact ⟨[.dat (.str x), .dat (rowD r), .dat (.lst ((r0 :: r1 :: rs).map rowD)), .no, .no, .no, .no], [.dat (.str x), .dat (rowD r), .dat (.lst ((r0 :: r1 :: rs).map rowD)), .no, .no, .no, .no], rfl, f_val (r_bi (l_cons (f_val e vd_own) l_nil) rfl) vd_dat, rfl⟩
  unfold bodyR4
  refine w_asgO (v := .own (.lst ([r0, r1].map lawHead))) (ρ1 := [.dat (.str x), .no, .dat (.lst ((r0 :: r1 :: rs).map rowD)), .no, .no, .no, .no]) e1 (lt_len rfl) rfl ?_
  refine w_asg (d := .tup []) (ρ1 := [.dat (.str x), .no, .dat (.lst ((r0 :: r1 :: rs).map rowD)), .own (.lst ([r0, r1].map lawHead)), .no, .no, .no]) (f_val (r_tup l_nil (le_len rfl)) vd_dat) (lt_len rfl) rfl ?_
  refine w_for_inv (I := fun i ρ => ∃ y1 y5, ρ = [.dat (.str x), y1, .dat (.lst ((r0 :: r1 :: rs).map rowD)), .own (.lst ([r0, r1].map lawHead)), .dat (.tup ((rs.take i).map lawTask)), y5, .no]) (ds := rs.map rowD) (ρ1 := [.dat (.str x), .no, .dat (.lst ((r0 :: r1 :: rs).map rowD)), .own (.lst ([r0, r1].map lawHead)), .dat (.tup []), .no, .no]) (i_seq (f_val (r_sl (f_val (r_var rfl) vd_dat) (p_some (f_val r_cst vd_dat)) p_none sd) vd_own) rfl) ⟨_, _, rfl⟩ (fun i d ρ hd ⟨y1, y5, e⟩ => ?_) (fun ρ ⟨y1, y5, e⟩ => ?_)
  · subst e
    rw [List.getElem?_map] at hd
    obtain ⟨r, hr, rfl⟩ := Option.map_eq_some_iff.mp hd
    have hm := List.mem_of_getElem? hr
    have hi := (List.getElem?_eq_some_iff.mp hr).1
    have l5 : r.length = 5 := of_decide_eq_true (List.all_eq_true.mp h5 r hm)
    refine ⟨[.dat (.str x), .dat (rowD r), .dat (.lst ((r0 :: r1 :: rs).map rowD)), .own (.lst ([r0, r1].map lawHead)), .dat (.tup ((rs.take i).map lawTask)), y5, .no], rfl, ?_⟩
    refine (bodyLR_ev (n + 2) _ _ _ r k (hw r (List.mem_cons_of_mem _ (List.mem_cons_of_mem _ hm))).1 (by omega) l5 ((rs.take i).map lawTask) (by rw [List.length_map, List.length_take]; omega) y5).mono fun q ⟨z5, e⟩ => ⟨_, .inl e, .dat (rowD r), z5, ?_⟩
    have e2 : rs.take (i + 1) = rs.take i ++ [r] := by rw [List.take_add_one, hr]; rfl
    rw [e2, List.map_append]; rfl
  · subst e
    rw [List.length_map, List.take_length]
    have k1 := is_plan_spec n (lawV (r0 :: r1 :: rs)) (dat_lawV _)
    have ev : frz (evO (FN (n + 3)) (.tup (.cons (.var 4) (.cons (.idx (.var 3) (.cst (.int 0))) (.cons (.idx (.var 3) (.cst (.int 1))) .nil)))) [.dat (.str x), y1, .dat (.lst ((r0 :: r1 :: rs).map rowD)), .own (.lst ([r0, r1].map lawHead)), .dat (.tup (rs.map lawTask)), y5, .no]) = .ok (lawV (r0 :: r1 :: rs)) [.dat (.str x), y1, .dat (.lst ((r0 :: r1 :: rs).map rowD)), .own (.lst ([r0, r1].map lawHead)), .dat (.tup (rs.map lawTask)), y5, .no] :=
      f_val (r_tup (l_cons (f_val (r_var rfl) vd_dat) (l_cons (f_val (r_idx (r := lawHead r0) (o_own rfl) (f_val r_cst vd_dat) (g_own rfl) rfl) vd_dat) (l_cons (f_val (r_idx (r := lawHead r1) (o_own rfl) (f_val r_cst vd_dat) (g_own rfl) rfl) vd_dat) l_nil))) (le_len rfl)) rfl
    have ev2 : evO (FN (n + 3)) (.tup (.cons (.var 4) (.cons (.idx (.var 3) (.cst (.int 0))) (.cons (.idx (.var 3) (.cst (.int 1))) .nil)))) [.dat (.str x), y1, .dat (.lst ((r0 :: r1 :: rs).map rowD)), .own (.lst ([r0, r1].map lawHead)), .dat (.tup (rs.map lawTask)), y5, .no] = .ok (.dat (lawV (r0 :: r1 :: rs))) [.dat (.str x), y1, .dat (.lst ((r0 :: r1 :: rs).map rowD)), .own (.lst ([r0, r1].map lawHead)), .dat (.tup (rs.map lawTask)), y5, .no] :=
      r_tup (l_cons (f_val (r_var rfl) vd_dat) (l_cons (f_val (r_idx (r := lawHead r0) (o_own rfl) (f_val r_cst vd_dat) (g_own rfl) rfl) vd_dat) (l_cons (f_val (r_idx (r := lawHead r1) (o_own rfl) (f_val r_cst vd_dat) (g_own rfl) rfl) vd_dat) l_nil))) (le_len rfl)
    have cc := r_call (ft := FN (n + 3)) (f := 4) (dom_any rfl) (a_e ev za_nil) rfl (le_len rfl) k1 pb_nil
    unfold retLR
    cases hb : planB (lawV (r0 :: r1 :: rs)) with
    | true =>
      rw [hb] at cc
      exact w_ret rfl (r_ite_t cc rfl ev2) (.inr ⟨_, rfl⟩)
    | false =>
      rw [hb] at cc
      exact w_ret rfl (r_ite_f cc rfl r_cst) (.inr ⟨_, rfl⟩)
theorem law_read_spec (n : Nat) (x : Str) (k : Nat) (h : Pln k x) (hk : k ≤ 900) : (FN (n + 4)).fn 22 [.dat (.str x)] = .ret (.dat (lawD x)) [] := by
  rw [fn_at (d := d_law_read) rfl]
  have hl := h.len
  refine run_wp (fd := d_law_read) (out := fun y => y = .ret (.dat (lawD x)) []) rfl (by decide) ?_
  show Wp (FN (n + 3)) FU (.cons (.asgO 2 cR0) (.cons (.ifs (.or (.cmp .lt (.len (.var 2)) (.cst (.int 3))) (.cmp .ne cRh (.bin .add (.lst (.cons (.cst (.str "first")) (.cons (.cst (.str "second")) .nil))) (.bin .mul (.lst (.cons (.cst (.str "task")) .nil)) (.bin .sub (.len (.var 2)) (.cst (.int 2))))))) rfR .nil) (.cons (.ifs (.cmp .ne cR5 (.lst .nil)) rfR .nil) bodyR4))) [.dat (.str x), .no, .no, .no, .no, .no, .no] _
  have rowsP : ∀ r ∈ rowsS x, ((∀ w ∈ r, Pln k w) ∧ r.length ≤ k + 2) ∧ 1 ≤ r.length := fun r hr => by
    obtain ⟨l, hl2, rfl⟩ := List.mem_map.mp hr
    have pl := h.split hl2
    have := split_cnt l " "
    have := pl.len
    exact ⟨⟨fun w hw => pl.split hw, by omega⟩, split_pos l " "⟩
  have rowsN : (rowsS x).length ≤ k + 2 := by
    unfold rowsS
    rw [List.length_map]
    have := split_cnt x "\n"
    omega
  have e0 : evO (FN (n + 3)) cR0 [.dat (.str x), .no, .no, .no, .no, .no, .no] = .ok (.own (.lst ((rowsS x).map rowD))) [.dat (.str x), .no, .no, .no, .no, .no, .no] := by
    have em : (rowsS x).map rowD = (Txt.split x "\n").map fun l => rowD (Txt.split l " ") := by unfold rowsS; rw [List.map_map]; rfl
    rw [em]
    have := split_cnt x "\n"
    exact r_mapF (ρ1 := [.dat (.str x), .no, .no, .no, .no, .no, .no]) D.str (fun l => rowD (Txt.split l " ")) (i_seq (f_val (r_split (f_val (r_var rfl) vd_dat) (f_val r_cst vd_dat) (splitD_ok sep_nl h (by omega))) vd_own) rfl) rfl (by unfold line; omega) fun l hl2 =>
      ⟨[.dat (.str x), .dat (.str l), .no, .no, .no, .no, .no], [.dat (.str x), .dat (.str l), .no, .no, .no, .no, .no], rfl, f_val (r_split (f_val (r_var rfl) vd_dat) (f_val r_cst vd_dat) (splitD_ok sep_sp (h.split hl2) (by omega))) vd_own, rfl⟩
  refine w_asgO (v := .own (.lst ((rowsS x).map rowD))) (ρ1 := [.dat (.str x), .no, .no, .no, .no, .no, .no]) e0 (lt_len rfl) rfl ?_
  unfold lawD
  generalize rowsS x = rows at *
  have hlen : lenD (.lst (rows.map rowD)) = some (.dat (.int rows.length)) := by simp [lenD]
  have c0 := r_cmp (ft := FN (n + 3)) (ρ := [.dat (.str x), .no, .own (.lst (rows.map rowD)), .no, .no, .no, .no]) (o := .lt) (a := .len (.var 2)) (b := .cst (.int 3)) (o_val rfl (f_val (r_len (o_own rfl) (g_own rfl) hlen) vd_dat)) (o_val rfl (f_val r_cst vd_dat)) g_val g_val c_lt
  by_cases h3 : rows.length < 3
  · rw [if_pos (.inl h3)]
    rw [decide_eq_true (show (rows.length : Int) < 3 by omega)] at c0
    exact w_ifs_t (r_or_t c0) rfl (w_app_cons (w_ret rfl r_cst rfl))
  · rw [decide_eq_false (show ¬ (rows.length : Int) < 3 by omega)] at c0
    have eh : evO (FN (n + 3)) cRh [.dat (.str x), .no, .own (.lst (rows.map rowD)), .no, .no, .no, .no] = .ok (.own (.lst ((rows.map fun r => r.getD 0 "").map D.str))) [.dat (.str x), .no, .dat (.lst (rows.map rowD)), .no, .no, .no, .no] := by
      have em : (rows.map fun r => r.getD 0 "").map D.str = rows.map fun r => D.str (r.getD 0 "") := by rw [List.map_map]; rfl
      rw [em]
      exact r_mapF (ρ1 := [.dat (.str x), .no, .dat (.lst (rows.map rowD)), .no, .no, .no, .no]) rowD (fun r => D.str (r.getD 0 "")) (i_seq (f_val (r_varO rfl) vd_dat) rfl) rfl (by unfold line; omega) fun r hr =>
        ⟨[.dat (.str x), .dat (rowD r), .dat (.lst (rows.map rowD)), .no, .no, .no, .no], [.dat (.str x), .dat (rowD r), .dat (.lst (rows.map rowD)), .no, .no, .no, .no], rfl, f_val (r_idx (o_var rfl) (f_val r_cst vd_dat) g_val (ix_strs r 0 (by have := (rowsP r hr).2; omega))) vd_dat, rfl⟩
    have em := mul_strs "task" (rows.length - 2) (by omega)
    have es : ((rows.length : Int) - 2) = ((rows.length - 2 : Nat) : Int) := by omega
    have ea : opBin .add (.lst ([("first" : Str), "second"].map D.str)) (.lst ((List.replicate (rows.length - 2) ("task" : Str)).map D.str)) = some (.own (.lst ((headsT (rows.length - 2)).map D.str))) := b_addL (by rw [List.length_map, List.length_map, List.length_replicate]; unfold line; simp; omega)
    have et : frz (evO (FN (n + 3)) (.bin .add (.lst (.cons (.cst (.str "first")) (.cons (.cst (.str "second")) .nil))) (.bin .mul (.lst (.cons (.cst (.str "task")) .nil)) (.bin .sub (.len (.var 2)) (.cst (.int 2))))) [.dat (.str x), .no, .dat (.lst (rows.map rowD)), .no, .no, .no, .no]) = .ok (.lst ((headsT (rows.length - 2)).map D.str)) [.dat (.str x), .no, .dat (.lst (rows.map rowD)), .no, .no, .no, .no] := by
      refine f_val (r_bin (y := .lst ((List.replicate (rows.length - 2) ("task" : Str)).map D.str)) (f_val (r_lst (l_cons (f_val r_cst vd_dat) (l_cons (f_val r_cst vd_dat) l_nil)) (le_len rfl)) vd_own) (f_val (r_bin (y := .int (rows.length - 2 : Nat)) (f_val (r_lst (l_cons (f_val r_cst vd_dat) l_nil) (le_len rfl)) vd_own) ?_ em) vd_own) ea) vd_own
      rw [← es]
      exact f_val (r_bin (f_val (r_len (o_var rfl) g_val hlen) vd_dat) (f_val r_cst vd_dat) b_sub) vd_dat
    have ok1 : ∀ s ∈ rows.map (fun r => r.getD 0 ""), PyData.strOk s = true := fun s hs => by
      obtain ⟨r, hr, rfl⟩ := List.mem_map.mp hs
      exact ((rowsP r hr).1.1 _ (getD_memS (by have := (rowsP r hr).2; omega))).ok
    have ok2 : ∀ s ∈ headsT (rows.length - 2), PyData.strOk s = true := fun s hs => by
      unfold headsT at hs
      rcases List.mem_append.mp hs with hs | hs
      · simp only [List.mem_cons, List.not_mem_nil, or_false] at hs
        rcases hs with rfl | rfl <;> decide +kernel
      · rw [(List.mem_replicate.mp hs).2]; decide +kernel
    have c1 := r_or_f c0 (r_cmp (o_val rfl (f_val eh vd_own)) (o_val rfl et) g_val g_val (zc_ne (eqD_strs ok1 ok2)))
    by_cases hh : rows.map (fun r => r.getD 0 "") = headsT (rows.length - 2)
    · rw [if_neg (by rintro (z | z); exact h3 z; exact z hh)]
      rw [decide_eq_true hh] at c1
      refine w_ifs_f c1 rfl (w_app_nil ?_)
      have sd : slD (.lst (rows.map rowD)) (some 2) none = some (.own (.lst ((rows.drop 2).map rowD))) := by
        have := sl_drop (rows.map rowD) 2
        rw [← List.map_drop] at this; exact this
      have e5 : evO (FN (n + 3)) cR5 [.dat (.str x), .no, .dat (.lst (rows.map rowD)), .no, .no, .no, .no] = .ok (.own (.lst ((((rows.drop 2).map rowD).filter qFive).map fun _ => D.int 1))) [.dat (.str x), .no, .dat (.lst (rows.map rowD)), .no, .no, .no, .no] := by
        refine r_filter (ρ1 := [.dat (.str x), .no, .dat (.lst (rows.map rowD)), .no, .no, .no, .no]) (fun _ => D.int 1) qFive (i_seq (f_val (r_sl (f_val (r_var rfl) vd_dat) (p_some (f_val r_cst vd_dat)) p_none sd) vd_own) rfl) rfl (by rw [List.length_map, List.length_drop]; unfold line; omega) (fun d hd => ?_)
        obtain ⟨r, _, rfl⟩ := List.mem_map.mp hd
        have hr5 : lenD (rowD r) = some (.dat (.int r.length)) := by simp [lenD, rowD]
        refine ⟨[.dat (.str x), .dat (rowD r), .dat (.lst (rows.map rowD)), .no, .no, .no, .no], [.dat (.str x), .dat (rowD r), .dat (.lst (rows.map rowD)), .no, .no, .no, .no], rfl, ?_, rfl, fun _ => ⟨[.dat (.str x), .dat (rowD r), .dat (.lst (rows.map rowD)), .no, .no, .no, .no], f_val r_cst vd_dat, rfl⟩⟩
        have := r_cmp (ft := FN (n + 3)) (ρ := [.dat (.str x), .dat (rowD r), .dat (.lst (rows.map rowD)), .no, .no, .no, .no]) (o := .ne) (a := .len (.var 1)) (b := .cst (.int 5)) (o_val rfl (f_val (r_len (o_var rfl) g_val hr5) vd_dat)) (o_val rfl (f_val r_cst vd_dat)) g_val g_val (zc_ne eqD_i)
        rw [show qFive (rowD r) = !decide ((r.length : Int) = 5) by simp [qFive, rowD]]
        exact this
      have hpl : D.plainL ((((rows.drop 2).map rowD).filter qFive).map fun _ => D.int 1) = true := plain_all fun d hd => by
        obtain ⟨_, _, rfl⟩ := List.mem_map.mp hd; rfl
      have hiff : ((((rows.drop 2).map rowD).filter qFive).map fun _ => D.int 1) = [] ↔ (rows.drop 2).all (fun r => decide (r.length = 5)) = true := by
        rw [List.map_eq_nil_iff, List.filter_eq_nil_iff, List.all_eq_true]
        constructor
        · intro z r hr
          have := z (rowD r) (List.mem_map.mpr ⟨r, hr, rfl⟩)
          simp [qFive, rowD] at this
          rw [decide_eq_true_eq]; omega
        · intro z d hd
          obtain ⟨r, hr, rfl⟩ := List.mem_map.mp hd
          have := of_decide_eq_true (z r hr)
          simp [qFive, rowD]; omega
      have c2 := r_cmp (ft := FN (n + 3)) (ρ := [.dat (.str x), .no, .dat (.lst (rows.map rowD)), .no, .no, .no, .no]) (o := .ne) (a := cR5) (b := .lst .nil) (o_val rfl (f_val e5 vd_own)) (o_val rfl (f_val (r_lst l_nil (le_len rfl)) vd_own)) g_val g_val (zc_ne (lst_nil hpl))
      by_cases h5 : (rows.drop 2).all (fun r => decide (r.length = 5)) = true
      · rw [if_neg (by rw [h5]; decide)]
        rw [decide_eq_true (hiff.mpr h5)] at c2
        refine w_ifs_f c2 rfl (w_app_nil ?_)
        match rows, h3, rowsP, rowsN, h5 with
        | r0 :: r1 :: rs, _, rowsP, rowsN, h5 =>
          refine (bodyR4_ev n x k hk r0 r1 rs (fun r hr => (rowsP r hr).1) (by simp at rowsN; omega) h5 .no).mono fun q e => ?_
          rcases e with e | ⟨ρ, e⟩ <;> rw [e] <;> rfl
        | [r0], h3, _, _, _ => exact absurd (by show 1 < 3; decide) h3
        | [], h3, _, _, _ => exact absurd (by show 0 < 3; decide) h3
      · rw [if_pos (by simpa using h5)]
        rw [decide_eq_false (fun z => h5 (hiff.mp z))] at c2
        exact w_ifs_t c2 rfl (w_app_cons (w_ret rfl r_cst rfl))
    · rw [if_pos (.inr hh)]
      rw [decide_eq_false hh] at c1
      exact w_ifs_t c1 rfl (w_app_cons (w_ret rfl r_cst rfl))
end K15
end
section
namespace K15
open PySem AP
/-! bent texts -/
theorem cut_pln {k : Nat} {x : Str} (h : Pln k x) (lo hi : Option Int) : Pln k (L2.cutS x lo hi) := by
  refine ⟨Nat.le_trans (L2.cutS_length x lo hi) h.len, fun c hc => h.lt c ?_⟩
  have hc : c ∈ ((x.cps.toList.drop (HT.sIx x.length 0 lo)).take (HT.sIx x.length x.length hi - HT.sIx x.length 0 lo)) := by simpa [L2.cutS] using hc
  exact List.mem_of_mem_drop (List.mem_of_mem_take hc)
theorem cut_len2 (x : Str) (a b : Nat) (h : a ≤ b) : (L2.cutS x none (some (a : Int))).length + (L2.cutS x (some (b : Int)) none).length ≤ x.length := by
  have e : ∀ v : Nat, HT.sIx x.length 0 (some (v : Int)) = min v x.length ∧ HT.sIx x.length x.length (some (v : Int)) = min v x.length := fun v => ⟨HT.sIx_nat _ _ _, HT.sIx_nat _ _ _⟩
  have l1 : (L2.cutS x none (some (a : Int))).length ≤ min a x.length := by
    show (((x.cps.toList.drop 0).take (HT.sIx x.length x.length (some (a : Int)) - 0)).toArray).size ≤ _
    rw [List.size_toArray, List.length_take, (e a).2]; omega
  have l2 : (L2.cutS x (some (b : Int)) none).length ≤ x.length - min b x.length := by
    show (((x.cps.toList.drop (HT.sIx x.length 0 (some (b : Int)))).take (x.length - HT.sIx x.length 0 (some (b : Int)))).toArray).size ≤ _
    rw [List.size_toArray, List.length_take, (e b).1]; omega
  omega
theorem app_len (a b : Str) : (a ++ b).length = a.length + b.length := by rw [cs_len, cs_app, List.length_append, ← cs_len, ← cs_len]
theorem sl_str {k : Nat} {x : Str} (h : Pln k x) (hk : k ≤ 10000) (lo hi : Option Int) : slD (.str x) lo hi = some (.dat (.str (L2.cutS x lo hi))) := by
  show (if x.length ≤ line then _ else _) = _
  rw [if_pos (by have := h.len; unfold line; omega)]
def marksL : List Str := [" ", "x", "\n", "1", "0", ",0", "-", "\ntask - 1 1 1", "\nsecond 0 3", ","]
theorem marks_ok : ∀ m ∈ marksL, Pln 13 m := fun m hm => by
  have : (marksL.all fun m => decide (m.length ≤ 13) && m.cps.toList.all fun c => decide (c < 128)) = true := by decide +kernel
  have h := List.all_eq_true.mp this m hm
  rw [Bool.and_eq_true, decide_eq_true_eq, List.all_eq_true] at h
  exact ⟨h.1, fun c hc => of_decide_eq_true (h.2 c hc)⟩
def eB (bs : List Int) (x : Str) (x2 x3 x4 x5 x6 : Slot) : AP.Env := [.lent (.lst (bagD bs)), .dat (.str x), x2, x3, x4, x5, x6]
def m0B : IE := .lst (.cons (.cst (.str " ")) (.cons (.cst (.str "x")) (.cons (.cst (.str "\n")) (.cons (.cst (.str "1")) (.cons (.cst (.str "0")) (.cons (.cst (.str ",0")) (.cons (.cst (.str "-")) (.cons (.cst (.str "\ntask - 1 1 1")) (.cons (.cst (.str "\nsecond 0 3")) (.cons (.cst (.str ",")) .nil))))))))))
theorem bent_join {ft : FT} {ρ ρ1 : AP.Env} {e : IE} {L : List Str} (hL : ∀ l ∈ L, Pln 80 l) (hn : L.length ≤ 9) (he : frz (evO ft e ρ) = .ok (.lst (L.map D.str)) ρ1) : evO ft (.join (.cst (.str "\n")) e) ρ = .ok (.dat (.str (Txt.join "\n" L))) ρ1 ∧ Pln 900 (Txt.join "\n" L) :=
  ⟨r_join (f_val r_cst vd_dat) he (joinD_ok (k := 80) (n := 9) sep_nl hL hn (by decide)), (Pln.join sep_nl hL hn).up (by decide)⟩
theorem add_lists {ft : FT} {ρ : AP.Env} {a b : IE} {A B : List Str} (ha : frz (evO ft a ρ) = .ok (.lst (A.map D.str)) ρ) (hb : frz (evO ft b ρ) = .ok (.lst (B.map D.str)) ρ) (hn : A.length + B.length ≤ 1000) : frz (evO ft (.bin .add a b) ρ) = .ok (.lst ((A ++ B).map D.str)) ρ := by
  have e := b_addL (xs := A.map D.str) (ys := B.map D.str) (by rw [List.length_map, List.length_map]; unfold line; omega)
  rw [← List.map_append] at e
  exact f_val (r_bin ha hb e) vd_own
theorem sl_lo {ft : FT} {ρ : AP.Env} {i : Nat} {e : IE} {L : List Str} {j : Nat} (h : ρ[i]? = some (.dat (.lst (L.map D.str)))) (he : frz (evO ft e ρ) = .ok (.int j) ρ) : frz (evO ft (.sl (.var i) (.some e) .none) ρ) = .ok (.lst ((L.drop j).map D.str)) ρ := by
  have s := sl_drop (L.map D.str) j
  rw [← List.map_drop] at s
  exact f_val (r_sl (f_val (r_var h) vd_dat) (p_some he) p_none s) vd_own
theorem sl_hi {ft : FT} {ρ : AP.Env} {i : Nat} {e : IE} {L : List Str} {j : Nat} (h : ρ[i]? = some (.dat (.lst (L.map D.str)))) (he : frz (evO ft e ρ) = .ok (.int j) ρ) : frz (evO ft (.sl (.var i) .none (.some e)) ρ) = .ok (.lst ((L.take j).map D.str)) ρ := by
  have s := sl_take (L.map D.str) j
  rw [← List.map_take] at s
  exact f_val (r_sl (f_val (r_var h) vd_dat) p_none (p_some he) s) vd_own
theorem bent_spec (n : Nat) (bs : List Int) (x : Str) (hx : Pln 648 x) (hl : (Txt.split x "\n").length ≤ 8 ∧ ∀ l ∈ Txt.split x "\n", Pln 80 l) : ∃ (y : Str) (bs' : List Int), Pln 900 y ∧ (FN (n + 3)).fn 23 [.lent (.lst (bagD bs)), .dat (.str x)] = .ret (.dat (.str y)) [.lst (bagD bs')] := by
  rw [fn_at (d := d_law_bent) rfl]
  refine run_wp (fd := d_law_bent) (out := fun r => ∃ (y : Str) (bs' : List Int), Pln 900 y ∧ r = .ret (.dat (.str y)) [.lst (bagD bs')]) rfl (by decide) ?_
  show Wp (FN (n + 2)) FU b_law_bent (eB bs x .no .no .no .no .no) _
  have hlen := len_str hx (by decide)
  have c0 : ∀ ft : FT, evO ft (.bin .add (.len (.var 1)) (.cst (.int 1))) (eB bs x .no .no .no .no .no) = .ok (.dat (.int ((x.length : Int) + 1))) (eB bs x .no .no .no .no .no) := fun ft => r_bin (f_val (r_len (o_var rfl) g_val hlen) vd_dat) (f_val r_cst vd_dat) b_add
  obtain ⟨i, b1, i0, i1, e1⟩ := take_ex (n + 1) bs ((x.length : Int) + 1) (by omega) [.dat (.str x), .no, .no, .no, .no, .no] _ (c0 _)
  obtain ⟨w, b2, w0, w1, e2⟩ := take_exc (n + 1) b1 6 (by decide) [.dat (.str x), .no, .no, .no, .no, .no]
  unfold b_law_bent
  refine w_par (x := .int i) (y := .dat (.int w)) (ρ1 := eB b1 x .no .no .no .no .no) (ρ2 := eB b2 x .no .no .no .no .no) (ρ3 := eB b2 x (.dat (.int i)) (.dat (.int w)) .no .no .no) (f_val e1 vd_dat) e2 ⟨by decide, lt_len rfl, lt_len rfl⟩ rfl ?_
  have sp := splitD_ok sep_nl hx (by decide)
  obtain ⟨hn, pl⟩ := hl
  have h1 := split_pos x "\n"
  generalize Txt.split x "\n" = L at *
  refine w_asg (d := .lst (L.map D.str)) (ρ1 := eB b2 x (.dat (.int i)) (.dat (.int w)) .no .no .no) (ρ2 := eB b2 x (.dat (.int i)) (.dat (.int w)) (.dat (.lst (L.map D.str))) .no .no) (f_val (r_split (f_val (r_var rfl) vd_dat) (f_val r_cst vd_dat) sp) vd_own) (lt_len rfl) rfl ?_
  have hL : lenD (.lst (L.map D.str)) = some (.dat (.int L.length)) := by simp [lenD]
  obtain ⟨j, b3, j0, j1, e3⟩ := take_ex (n + 1) b2 (L.length : Int) (by omega) [.dat (.str x), .dat (.int i), .dat (.int w), .dat (.lst (L.map D.str)), .no, .no] (.len (.var 4)) (r_len (o_var rfl) g_val hL)
  obtain ⟨ii, rfl⟩ := Int.eq_ofNat_of_zero_le i0
  obtain ⟨jj, rfl⟩ := Int.eq_ofNat_of_zero_le j0
  refine w_asg (d := .int jj) (ρ1 := eB b3 x (.dat (.int ii)) (.dat (.int w)) (.dat (.lst (L.map D.str))) .no .no) (ρ2 := eB b3 x (.dat (.int ii)) (.dat (.int w)) (.dat (.lst (L.map D.str))) (.dat (.int jj)) .no) (f_val e3 vd_dat) (lt_len rfl) rfl ?_
  have cw : ∀ (k : Int) (x6 : Slot), evO (FN (n + 2)) (.cmp .eq (.var 3) (.cst (.int k))) (eB b3 x (.dat (.int ii)) (.dat (.int w)) (.dat (.lst (L.map D.str))) (.dat (.int jj)) x6) = .ok (.dat (.bl (decide (w = k)))) (eB b3 x (.dat (.int ii)) (.dat (.int w)) (.dat (.lst (L.map D.str))) (.dat (.int jj)) x6) := fun k x6 => r_cmp (o_var rfl) (o_val rfl (f_val r_cst vd_dat)) g_val g_val (zc_eq eqD_i)
  have inL : ∀ {p : Str} {k : Nat}, p ∈ L.take k → Pln 80 p := fun h => pl _ (List.mem_of_mem_take h)
  have inD' : ∀ {p : Str} {k : Nat}, p ∈ L.drop k → Pln 80 p := fun h => pl _ (List.mem_of_mem_drop h)
  have vj : ∀ (x6 : Slot), frz (evO (FN (n + 2)) (.var 5) (eB b3 x (.dat (.int ii)) (.dat (.int w)) (.dat (.lst (L.map D.str))) (.dat (.int jj)) x6)) = .ok (.int jj) (eB b3 x (.dat (.int ii)) (.dat (.int w)) (.dat (.lst (L.map D.str))) (.dat (.int jj)) x6) := fun x6 => f_val (r_var rfl) vd_dat
  have vj1 : ∀ (x6 : Slot), frz (evO (FN (n + 2)) (.bin .add (.var 5) (.cst (.int 1))) (eB b3 x (.dat (.int ii)) (.dat (.int w)) (.dat (.lst (L.map D.str))) (.dat (.int jj)) x6)) = .ok (.int (jj + 1 : Nat)) (eB b3 x (.dat (.int ii)) (.dat (.int w)) (.dat (.lst (L.map D.str))) (.dat (.int jj)) x6) := fun x6 => f_val (r_bin (f_val (r_var rfl) vd_dat) (f_val r_cst vd_dat) b_add) vd_dat
  refine w_ifs (cw 0 .no) (fun _ => ?_) (fun _ => w_app_nil ?_)
  · obtain ⟨m, b4, hm, e4⟩ := choice_ex n b3 (marksL.map D.str) (by decide) [.dat (.str x), .dat (.int ii), .dat (.int w), .dat (.lst (L.map D.str)), .dat (.int jj), .no] m0B (f_val (v := .own (.lst (marksL.map D.str))) (by unfold m0B; exact r_lst (l_cons (f_val r_cst vd_dat) (l_cons (f_val r_cst vd_dat) (l_cons (f_val r_cst vd_dat) (l_cons (f_val r_cst vd_dat) (l_cons (f_val r_cst vd_dat) (l_cons (f_val r_cst vd_dat) (l_cons (f_val r_cst vd_dat) (l_cons (f_val r_cst vd_dat) (l_cons (f_val r_cst vd_dat) (l_cons (f_val r_cst vd_dat) l_nil)))))))))) (le_len rfl)) vd_own)
    obtain ⟨mm, hmm, rfl⟩ := List.mem_map.mp hm
    have pm := marks_ok mm hmm
    refine w_app_cons (w_asg (d := .str mm) (ρ1 := eB b4 x (.dat (.int ii)) (.dat (.int w)) (.dat (.lst (L.map D.str))) (.dat (.int jj)) .no) (ρ2 := eB b4 x (.dat (.int ii)) (.dat (.int w)) (.dat (.lst (L.map D.str))) (.dat (.int jj)) (.dat (.str mm))) (f_val e4 vd_dat) (lt_len rfl) rfl (w_app_cons ?_))
    have p1 := cut_pln hx none (some (ii : Int))
    have p2 := cut_pln hx (some (ii : Int)) none
    have p3 := p1.app pm
    exact w_ret rfl (r_bin (f_val (r_bin (f_val (r_sl (f_val (r_var rfl) vd_dat) p_none (p_some (f_val (r_var rfl) vd_dat)) (sl_str hx (by decide) _ _)) vd_dat) (f_val (r_var rfl) vd_dat) (b_addS p1 pm (by decide))) vd_dat) (f_val (r_sl (f_val (r_var rfl) vd_dat) (p_some (f_val (r_var rfl) vd_dat)) p_none (sl_str hx (by decide) _ _)) vd_dat) (b_addS p3 p2 (by decide))) ⟨_, b4, ⟨by rw [app_len, app_len]; have := cut_len2 x ii ii (Nat.le_refl _); have := hx.len; have := pm.len; omega, (p3.app p2).lt⟩, fin_ret rfl⟩
  refine w_ifs (cw 1 .no) (fun _ => ?_) (fun _ => w_app_nil ?_)
  · have p1 := cut_pln hx none (some (ii : Int))
    have p2 := cut_pln hx (some ((ii + 1 : Nat) : Int)) none
    exact w_app_cons (w_ret rfl (r_bin (f_val (r_sl (f_val (r_var rfl) vd_dat) p_none (p_some (f_val (r_var rfl) vd_dat)) (sl_str hx (by decide) _ _)) vd_dat) (f_val (r_sl (f_val (r_var rfl) vd_dat) (p_some (f_val (r_bin (f_val (r_var rfl) vd_dat) (f_val r_cst vd_dat) b_add) vd_dat)) p_none (sl_str hx (by decide) _ _)) vd_dat) (b_addS p1 p2 (by decide))) ⟨_, b3, ⟨by rw [app_len]; have := cut_len2 x ii (ii + 1) (Nat.le_succ _); have := hx.len; omega, (p1.app p2).lt⟩, fin_ret rfl⟩)
  refine w_ifs (cw 2 .no) (fun _ => ?_) (fun _ => w_app_nil ?_)
  · have e := add_lists (sl_hi (ft := FN (n + 2)) (i := 4) rfl (vj .no)) (sl_lo (i := 4) rfl (vj1 .no)) (by rw [List.length_take, List.length_drop]; omega)
    obtain ⟨q1, q2⟩ := bent_join (L := L.take jj ++ L.drop (jj + 1)) (fun l hl => by rcases List.mem_append.mp hl with h | h; exact inL h; exact inD' h) (by rw [List.length_append, List.length_take, List.length_drop]; omega) e
    exact w_app_cons (w_ret rfl q1 ⟨_, b3, q2, fin_ret rfl⟩)
  refine w_ifs (cw 3 .no) (fun _ => ?_) (fun _ => w_app_nil ?_)
  · have e := add_lists (sl_hi (ft := FN (n + 2)) (i := 4) rfl (vj1 .no)) (sl_lo (i := 4) rfl (vj .no)) (by rw [List.length_take, List.length_drop]; omega)
    obtain ⟨q1, q2⟩ := bent_join (L := L.take (jj + 1) ++ L.drop jj) (fun l hl => by rcases List.mem_append.mp hl with h | h; exact inL h; exact inD' h) (by rw [List.length_append, List.length_take, List.length_drop]; omega) e
    exact w_app_cons (w_ret rfl q1 ⟨_, b3, q2, fin_ret rfl⟩)
  refine w_ifs (cw 4 .no) (fun _ => ?_) (fun _ => w_app_nil ?_)
  · have e := add_lists (sl_lo (ft := FN (n + 2)) (i := 4) rfl (vj .no)) (sl_hi (i := 4) rfl (vj .no)) (by rw [List.length_take, List.length_drop]; omega)
    obtain ⟨q1, q2⟩ := bent_join (L := L.drop jj ++ L.take jj) (fun l hl => by rcases List.mem_append.mp hl with h | h; exact inD' h; exact inL h) (by rw [List.length_append, List.length_take, List.length_drop]; omega) e
    exact w_app_cons (w_ret rfl q1 ⟨_, b3, q2, fin_ret rfl⟩)
  · have v2 : frz (evO (FN (n + 2)) (.cst (.int 2)) (eB b3 x (.dat (.int ii)) (.dat (.int w)) (.dat (.lst (L.map D.str))) (.dat (.int jj)) .no)) = .ok (.int (2 : Nat)) (eB b3 x (.dat (.int ii)) (.dat (.int w)) (.dat (.lst (L.map D.str))) (.dat (.int jj)) .no) := f_val r_cst vd_dat
    have sr : slrD (.lst (L.map D.str)) 1 = some (.own (.lst (((L.drop 2).reverse).map D.str))) := by
      show (if (0 : Int) ≤ 1 then some (Val.own (.lst ((L.map D.str).drop 2).reverse)) else none) = _
      rw [if_pos (by decide), ← List.map_drop, ← List.map_reverse]
    have e := add_lists (sl_hi (ft := FN (n + 2)) (i := 4) rfl v2) (B := (L.drop 2).reverse) (b := .slr (.var 4) 1) (f_val (r_slr (f_val (r_var rfl) vd_dat) sr) vd_own) (by rw [List.length_take, List.length_reverse, List.length_drop]; omega)
    obtain ⟨q1, q2⟩ := bent_join (L := L.take 2 ++ (L.drop 2).reverse) (fun l hl => by rcases List.mem_append.mp hl with h | h; exact inL h; exact inD' (List.mem_reverse.mp h)) (by rw [List.length_append, List.length_take, List.length_reverse, List.length_drop]; omega) e
    exact w_ret rfl q1 ⟨_, b3, q2, fin_ret rfl⟩
end K15
end
section
namespace K15
open PySem AP
/-! the law -/
mutual
theorem eqv_refl : (d : D) → d.plain = true → D.eqv d d = true
  | .non, _ => rfl
  | .bl b, _ => by rw [D.eqv]; simp
  | .int i, _ => by rw [D.eqv]; simp
  | .str s, _ => by rw [D.eqv]; simp
  | .tup ds, h => by rw [D.eqv]; exact eqvL_refl ds h
  | .lst ds, h => by rw [D.eqv]; exact eqvL_refl ds h
  | .fn _, h => by cases h
  | .scr _, h => by cases h
theorem eqvL_refl : (ds : List D) → D.plainL ds = true → D.eqvL ds ds = true
  | [], _ => rfl
  | d :: r, h => by
    rw [D.plainL, Bool.and_eq_true] at h
    rw [D.eqvL, eqv_refl d h.1, eqvL_refl r h.2]; rfl
end
theorem eqD_refl {d : D} (h : d.plain = true) (h2 : d.dep ≤ 60) : eqD d d = some true := by
  unfold eqD
  have e : eqOk d d = true := by
    unfold eqOk
    rw [h, Nat.min_self, decide_eq_true h2]; rfl
  rw [if_pos e, eqv_refl d h]
theorem depL_of {m : Nat} : ∀ {ds : List D}, (∀ d ∈ ds, d.dep ≤ m) → D.depL ds ≤ m
  | [], _ => Nat.zero_le _
  | d :: r, h => Nat.max_le.mpr ⟨h d List.mem_cons_self, depL_of fun x hx => h x (List.mem_cons_of_mem _ hx)⟩
theorem pl_plain (p : Pl) : (plD p).plain = true ∧ (plD p).dep ≤ 4 := by
  have tk : ∀ t : Tk, (tkD t).plain = true ∧ (tkD t).dep ≤ 2 := fun t => by
    refine ⟨?_, ?_⟩
    · show (D.plainL (bagD t.ws) && true) = true
      rw [plain_ints]; rfl
    · show D.depL (.tup (bagD t.ws) :: _) + 1 ≤ 2
      have : D.depL [.tup (bagD t.ws), .int t.a, .int t.b, .int t.c] ≤ 1 := depL_of fun d hd => by
        simp only [List.mem_cons, List.not_mem_nil, or_false] at hd
        rcases hd with rfl | rfl | rfl | rfl
        · show D.depL (bagD t.ws) + 1 ≤ 1
          rw [depL_ints]; exact Nat.le_refl _
        all_goals exact Nat.zero_le _
      omega
  refine ⟨?_, ?_⟩
  · show (D.plainL (p.ts.map tkD) && true) = true
    rw [plain_all fun d hd => by
      obtain ⟨t, _, rfl⟩ := List.mem_map.mp hd
      exact (tk t).1]; rfl
  · show D.depL [.tup (p.ts.map tkD), .tup [.int p.l1, .int p.h1], .tup [.int p.l2, .int p.h2]] + 1 ≤ 4
    have : D.depL [.tup (p.ts.map tkD), .tup [.int p.l1, .int p.h1], .tup [.int p.l2, .int p.h2]] ≤ 3 := depL_of fun d hd => by
      simp only [List.mem_cons, List.not_mem_nil, or_false] at hd
      rcases hd with rfl | rfl | rfl
      · show D.depL (p.ts.map tkD) + 1 ≤ 3
        have : D.depL (p.ts.map tkD) ≤ 2 := depL_of fun d hd => by
          obtain ⟨t, _, rfl⟩ := List.mem_map.mp hd
          exact (tk t).2
        omega
      all_goals exact (by decide : 1 ≤ 3)
    omega
theorem eq_pl (p : Pl) : eqD (plD p) (plD p) = some true := eqD_refl (pl_plain p).1 (Nat.le_trans (pl_plain p).2 (by decide))
/-! texts of no plan -/
theorem text_first (p : Pl) : ∃ l, cs (textS p) = 102 :: l := by
  unfold textS linesS
  rw [cs_join]
  show ∃ l, cs (headS "first" p.l1 p.h1) ++ (cs "\n" ++ TL.joinL (cs "\n") _) = 102 :: l
  unfold headS
  rw [cs_join]
  show ∃ l, (cs "first" ++ _) ++ _ = 102 :: l
  rw [first_cs]
  exact ⟨_, rfl⟩
theorem not_text {x : Str} (h : ∀ l, cs x ≠ 102 :: l) : ∀ p, PlOk p → x ≠ textS p := fun p _ e => by
  obtain ⟨l, hl⟩ := text_first p
  exact h l (by rw [e, hl])
theorem not_lines {x : Str} (h : (Txt.split x "\n").length < 3) : ∀ p, PlOk p → x ≠ textS p := fun p hp e => by
  rw [e, text_split hp.nu] at h
  have := hp.len1
  unfold linesS at h
  simp at h; omega
theorem joinL_snoc {S : List Nat} : ∀ {ps : List (List Nat)}, ps ≠ [] → TL.joinL S (ps ++ [[]]) = TL.joinL S ps ++ S
  | [], h => absurd rfl h
  | [p], _ => by
    show p ++ (S ++ []) = p ++ S
    rw [List.append_nil]
  | p :: q :: r, _ => by
    have ih := joinL_snoc (S := S) (ps := q :: r) (by simp)
    show p ++ (S ++ TL.joinL S ((q :: r) ++ [[]])) = (p ++ (S ++ TL.joinL S (q :: r))) ++ S
    rw [ih]; simp
theorem line_ne {p : Pl} : ∀ l ∈ linesS p, l ≠ "" := fun l hl e => by
  have e2 : cs l = [] := by rw [e, empty_cs]
  unfold linesS at hl
  rcases List.mem_cons.mp hl with rfl | hl
  · unfold headS at e2
    rw [cs_join] at e2
    have e2 : cs "first" ++ _ = [] := e2
    rw [first_cs] at e2; cases e2
  · rcases List.mem_cons.mp hl with rfl | hl
    · unfold headS at e2
      rw [cs_join] at e2
      have e2 : cs "second" ++ _ = [] := e2
      rw [second_cs] at e2; cases e2
    · obtain ⟨t, _, rfl⟩ := List.mem_map.mp hl
      unfold lineS at e2
      rw [cs_join] at e2
      have e2 : cs "task" ++ _ = [] := e2
      rw [task_cs] at e2; cases e2
theorem not_more {p : Pl} (hp : PlOk p) : ∀ q, PlOk q → textS p ++ "\n" ≠ textS q := fun q hq e => by
  have e1 : textS p ++ "\n" = Txt.join "\n" (linesS p ++ [("" : Str)]) := by
    refine cs_ext ?_
    rw [cs_app, cs_join, List.map_append, List.map_cons, List.map_nil, empty_cs, joinL_snoc (by unfold linesS; simp)]
    unfold textS
    rw [cs_join]
  have e2 := text_split hq.nu
  rw [← e, e1, sep_nl.split_join (by simp) fun l hl => by
    rcases List.mem_append.mp hl with hl | hl
    · exact (lines_ok hp.nu l hl).2
    · rw [List.mem_singleton.mp hl, empty_cs]; simp] at e2
  have : ("" : Str) ∈ linesS q := by rw [← e2]; simp
  exact line_ne "" this rfl
def rfS : ISs := .cons (.ret (.cst (.bl false))) .nil
def lawR : ISs := match b_law with | .cons _ r => r | _ => .nil
def eLw (ns : List Int) (x1 : Slot) (bs : List Int) (x3 x4 x5 x6 x7 x8 x9 x10 : Slot) : AP.Env := [.dat (.scr ns), x1, .own (.lst (bagD bs)), x3, x4, x5, x6, x7, x8, x9, x10]
def noT (t : Str) : D := .tup [.non, .str t]
theorem eq_noT {t : Str} (h : PyData.strOk t = true) : eqD (noT t) (noT t) = some true := eqD_refl (by show (true && (PyData.strOk t && true)) = true; rw [h]; rfl) (by show 1 ≤ 60; decide)
theorem text_sOk : PyData.strOk ("text" : Str) = true := by decide +kernel
theorem plan_sOk : PyData.strOk ("plan" : Str) = true := by decide +kernel
def dueE : IE := .ite (.cmp .is (.var 4) (.cst .non)) (.tup (.cons (.cst .non) (.cons (.cst (.str "text")) .nil))) (.tup (.cons (.var 4) (.cons (.cst (.str "")) .nil)))
def bodyTu : ISs := .cons (.asg 7 (.call 23 (.lent 2 (.e (.var 10) .nil)))) (.cons (.asg 4 (.call 22 (.e (.var 7) .nil))) (.cons (.ifs (.cmp .ne (.told 19 (.call 11 (.e (.var 7) .nil))) dueE) rfS .nil) .nil))
theorem told_in (d : D) : (FN 29).told 19 (.inl d) = some (.tup [d, .str ""]) := rfl
theorem told_text : (FN 29).told 19 (.inr 34) = some (noT "text") := rfl
theorem told_plan : (FN 29).told 19 (.inr 26) = some (noT "plan") := rfl
theorem bodyTu_ev (ns : List Int) (x1 : Slot) (bs : List Int) (x3 x4 x5 x6 x7 x8 : Slot) (p : Pl) (hp : PlOk p) :
    Wp (FN 29) FU bodyTu (eLw ns x1 bs x3 x4 x5 x6 x7 x8 (.dat (plD p)) (.dat (.str (textS p)))) fun r => ∃ (bs' : List Int) (x4 x7 : Slot), r = .next (eLw ns x1 bs' x3 x4 x5 x6 x7 x8 (.dat (plD p)) (.dat (.str (textS p)))) := by
  have hL : (Txt.split (textS p) "\n").length ≤ 8 ∧ ∀ l ∈ Txt.split (textS p) "\n", Pln 80 l := by
    rw [text_split hp.nu]
    refine ⟨?_, fun l hl => (lines_ok hp.nu l hl).1⟩
    have := hp.len6
    unfold linesS; simp; omega
  obtain ⟨y, b1, hy, e1⟩ := bent_spec 26 bs (textS p) (text_pln hp.nu) hL
  have e2 := law_read_spec 25 y 900 hy (Nat.le_refl _)
  unfold bodyTu
  refine w_asg (d := .str y) (ρ1 := eLw ns x1 b1 x3 x4 x5 x6 x7 x8 (.dat (plD p)) (.dat (.str (textS p)))) (ρ2 := eLw ns x1 b1 x3 x4 x5 x6 (.dat (.str y)) x8 (.dat (plD p)) (.dat (.str (textS p)))) (f_val (r_call (dom_any rfl) (za_lent rfl (a_e (f_val (r_var rfl) vd_dat) za_nil) rfl) rfl (le_len rfl) e1 (pb_own rfl rfl)) vd_dat) (lt_len rfl) rfl ?_
  refine w_asg (d := lawD y) (ρ1 := eLw ns x1 b1 x3 x4 x5 x6 (.dat (.str y)) x8 (.dat (plD p)) (.dat (.str (textS p)))) (ρ2 := eLw ns x1 b1 x3 (.dat (lawD y)) x5 x6 (.dat (.str y)) x8 (.dat (plD p)) (.dat (.str (textS p)))) (f_val (r_call (dom_any rfl) (a_e (f_val (r_var rfl) vd_dat) za_nil) rfl (le_len rfl) e2 pb_nil) vd_dat) (lt_len rfl) rfl ?_
  have is0 : ∀ d : D, opCmp .is d .non = some d.isNon := fun d => by cases d <;> rfl
  have cc := r_cmp (ft := FN 29) (ρ := eLw ns x1 b1 x3 (.dat (lawD y)) x5 x6 (.dat (.str y)) x8 (.dat (plD p)) (.dat (.str (textS p)))) (o := .is) (a := .var 4) (b := .cst .non) (o_var rfl) (o_val rfl (f_val r_cst vd_dat)) g_val g_val (is0 (lawD y))
  have key : ∃ d : D, eqD d d = some true ∧ evO (FN 29) (.told 19 (.call 11 (.e (.var 7) .nil))) (eLw ns x1 b1 x3 (.dat (lawD y)) x5 x6 (.dat (.str y)) x8 (.dat (plD p)) (.dat (.str (textS p)))) = .ok (.dat d) (eLw ns x1 b1 x3 (.dat (lawD y)) x5 x6 (.dat (.str y)) x8 (.dat (plD p)) (.dat (.str (textS p)))) ∧
      evO (FN 29) dueE (eLw ns x1 b1 x3 (.dat (lawD y)) x5 x6 (.dat (.str y)) x8 (.dat (plD p)) (.dat (.str (textS p)))) = .ok (.dat d) (eLw ns x1 b1 x3 (.dat (lawD y)) x5 x6 (.dat (.str y)) x8 (.dat (plD p)) (.dat (.str (textS p)))) := by
    rcases law_inv y with h | ⟨q, hq, h, hx⟩
    · have bad := read_bad 24 y 900 hy (by decide) fun q hq e => by
        have := law_text hq
        rw [← e, h] at this; cases this
      rw [h] at cc ⊢
      exact ⟨noT "text", eq_noT text_sOk, r_told_exc (f_exc (r_call_exc (dom_any rfl) (a_e (f_val (r_var rfl) vd_dat) za_nil) rfl (le_len rfl) bad pb_nil)) told_text, r_ite_t cc rfl (r_tup (l_cons (f_val r_cst vd_dat) (l_cons (f_val r_cst vd_dat) l_nil)) (le_len rfl))⟩
    · have good := read_ok 24 q hq
      rw [← hx] at good
      rw [h] at cc ⊢
      refine ⟨.tup [plD q, .str ""], eqD_refl ?_ ?_, r_told_ok (f_val (r_call (dom_any rfl) (a_e (f_val (r_var rfl) vd_dat) za_nil) rfl (le_len rfl) good pb_nil) vd_dat) (told_in _), r_ite_f cc rfl (r_tup (l_cons (f_val (r_var rfl) vd_dat) (l_cons (f_val r_cst vd_dat) l_nil)) (le_len rfl))⟩
      · show ((plD q).plain && (PyData.strOk "" && true)) = true
        rw [(pl_plain q).1, empty_ok]; rfl
      · show D.depL [plD q, .str ""] + 1 ≤ 60
        have : D.depL [plD q, .str ""] ≤ 4 := depL_of fun d hd => by
          simp only [List.mem_cons, List.not_mem_nil, or_false] at hd
          rcases hd with rfl | rfl
          · exact (pl_plain q).2
          · exact Nat.zero_le _
        omega
  obtain ⟨d, k1, k2, k3⟩ := key
  exact w_ifs_f (k := !true) (r_cmp (o_val rfl (f_val k2 vd_dat)) (o_val rfl (f_val k3 vd_dat)) g_val g_val (zc_ne k1)) rfl (w_app_nil (w_nil ⟨b1, _, _, rfl⟩))
def bodyOd : ISs := .cons (.ifs (.cmp .ne (.told 19 (.call 11 (.e (.var 8) .nil))) (.tup (.cons (.cst .non) (.cons (.cst (.str "text")) .nil)))) rfS .nil) .nil
theorem bodyOd_ev (ns : List Int) (x1 : Slot) (bs : List Int) (x3 x4 x5 x6 x7 x9 x10 : Slot) (v : D) (hv : (FN 29).fn 11 [.dat v] = .exc 34 []) :
    Wp (FN 29) FU bodyOd (eLw ns x1 bs x3 x4 x5 x6 x7 (.dat v) x9 x10) fun r => r = .next (eLw ns x1 bs x3 x4 x5 x6 x7 (.dat v) x9 x10) :=
  w_ifs_f (k := !true) (r_cmp (o_val rfl (f_val (r_told_exc (f_exc (r_call_exc (dom_any rfl) (a_e (f_val (r_var rfl) vd_dat) za_nil) rfl (le_len rfl) hv pb_nil)) told_text) vd_dat)) (o_val rfl (f_val (v := .dat (noT "text")) (r_tup (l_cons (f_val r_cst vd_dat) (l_cons (f_val r_cst vd_dat) l_nil)) (le_len rfl)) vd_dat)) g_val g_val (zc_ne (eq_noT text_sOk))) rfl (w_app_nil (w_nil rfl))
def oddsE : IE := .lst (.cons (.cst .non) (.cons (.cst (.int 5)) (.cons (.cst (.str "")) (.cons (.cst (.str "first 0 1")) (.cons (.cst (.str "first 0 1\nsecond 0 1")) (.cons (.tup (.cons (.var 10) .nil)) (.cons (.bin .add (.var 10) (.cst (.str "\n"))) (.cons (.bin .add (.cst (.str "\n")) (.var 10)) (.cons (.bin .add (.cst (.str " ")) (.var 10)) .nil)))))))))
def oddsL (p : Pl) : List D := [.non, .int 5, .str "", .str "first 0 1", .str "first 0 1\nsecond 0 1", .tup [.str (textS p)], .str (textS p ++ "\n"), .str ("\n" ++ textS p), .str (" " ++ textS p)]
theorem nl_pln : Pln 1 ("\n" : Str) := pln_of sep_nl.cs (by decide) (by decide)
theorem odds_ev (ns : List Int) (x1 : Slot) (bs : List Int) (x3 x4 x5 x6 x7 x8 x9 : Slot) (p : Pl) (hp : PlOk p) : evO (FN 29) oddsE (eLw ns x1 bs x3 x4 x5 x6 x7 x8 x9 (.dat (.str (textS p)))) = .ok (.own (.lst (oddsL p))) (eLw ns x1 bs x3 x4 x5 x6 x7 x8 x9 (.dat (.str (textS p)))) := by
  have pt := text_pln hp.nu
  unfold oddsE oddsL
  exact r_lst (l_cons (f_val r_cst vd_dat) (l_cons (f_val r_cst vd_dat) (l_cons (f_val r_cst vd_dat) (l_cons (f_val r_cst vd_dat) (l_cons (f_val r_cst vd_dat) (l_cons (f_val (r_tup (l_cons (f_val (r_var rfl) vd_dat) l_nil) (le_len rfl)) vd_dat) (l_cons (f_val (r_bin (f_val (r_var rfl) vd_dat) (f_val r_cst vd_dat) (b_addS pt nl_pln (by decide))) vd_dat) (l_cons (f_val (r_bin (f_val r_cst vd_dat) (f_val (r_var rfl) vd_dat) (b_addS nl_pln pt (by decide))) vd_dat) (l_cons (f_val (r_bin (f_val r_cst vd_dat) (f_val (r_var rfl) vd_dat) (b_addS sp_pln pt (by decide))) vd_dat) l_nil))))))))) (le_len rfl)
theorem odds_bad (p : Pl) (hp : PlOk p) : ∀ v ∈ oddsL p, (FN 29).fn 11 [.dat v] = .exc 34 [] := fun v hv => by
  have pt := text_pln hp.nu
  simp only [oddsL, List.mem_cons, List.not_mem_nil, or_false] at hv
  rcases hv with rfl | rfl | rfl | rfl | rfl | rfl | rfl | rfl | rfl
  · exact read_non 24 _ ty_non_str
  · exact read_non 24 _ ty_int_str
  · exact read_bad 24 _ 0 (pln_of empty_cs (by decide) (by decide)) (by decide) (not_text fun l e => by rw [empty_cs] at e; cases e)
  · exact read_bad 24 _ 30 (pln_of (l := [102, 105, 114, 115, 116, 32, 48, 32, 49]) (by decide +kernel) (by decide) (by decide)) (by decide) (not_lines (by decide +kernel))
  · exact read_bad 24 _ 30 (pln_of (l := [102, 105, 114, 115, 116, 32, 48, 32, 49, 10, 115, 101, 99, 111, 110, 100, 32, 48, 32, 49]) (by decide +kernel) (by decide) (by decide)) (by decide) (not_lines (by decide +kernel))
  · exact read_non 24 _ ty_tup_str
  · exact read_bad 24 _ _ (pt.app nl_pln) (by decide) (not_more hp)
  · exact read_bad 24 _ _ (nl_pln.app pt) (by decide) (not_text fun l e => by rw [cs_app, sep_nl.cs] at e; cases e)
  · exact read_bad 24 _ _ (sp_pln.app pt) (by decide) (not_text fun l e => by rw [cs_app, sep_sp.cs] at e; cases e)
def lastK : ISs := .cons (.ifs (.cmp .ne (.told 19 (.call 8 (.e (.bi .list (.cons (.var 9) .nil)) .nil))) (.tup (.cons (.cst .non) (.cons (.cst (.str "plan")) .nil)))) rfS .nil) .nil
def bodyK : ISs := .cons (.asgO 2 (.call 14 (.e (.var 0) (.e (.var 1) .nil)))) (.cons (.asg 9 (.call 17 (.lent 2 (.e (.cst (.int 5)) .nil)))) (.cons (.asg 10 (.call 20 (.e (.var 9) .nil))) (.cons (.ifs (.or (.cmp .ne (.call 8 (.e (.var 9) .nil)) (.var 10)) (.cmp .ne (.call 11 (.e (.var 10) .nil)) (.var 9))) rfS .nil) (.cons (.forS (.nm 3) (.range1 (.cst (.int 14))) bodyTu) (.cons (.forS (.nm 8) (.seq oddsE) bodyOd) lastK)))))
theorem bodyK_ev (ns : List Int) (hl : ns.length ≤ 63) (k : Nat) (hk : k < 8) (x2 x3 x4 x5 x6 x7 x8 x9 x10 : Slot) : Wp (FN 29) FU bodyK [.dat (.scr ns), .dat (.int k), x2, x3, x4, x5, x6, x7, x8, x9, x10] fun q => ∃ x2 x3 x4 x7 x8 x9 x10, q = .next [.dat (.scr ns), .dat (.int k), x2, x3, x4, x5, x6, x7, x8, x9, x10] := by
  obtain ⟨bs, e1⟩ := bag_spec 26 ns k (by omega) (by omega)
  obtain ⟨p, b1, ⟨hp, -⟩, e2⟩ := plan_spec 26 bs 5 (by decide)
  have e3 := law_text_spec 28 p hp.nu
  have e4 := plan_text_ok 24 p hp
  have e5 := read_ok 24 p hp
  have tok := (text_pln hp.nu).ok
  have q1 := zc_ne (eqD_str tok tok)
  rw [decide_eq_true rfl] at q1
  unfold bodyK
  refine w_asgO (v := .own (.lst (bagD bs))) (ρ1 := [.dat (.scr ns), .dat (.int k), x2, x3, x4, x5, x6, x7, x8, x9, x10]) (r_call (dom_any rfl) (a_e (f_val (r_var rfl) vd_dat) (a_e (f_val (r_var rfl) vd_dat) za_nil)) rfl (le_len rfl) e1 pb_nil) (lt_len rfl) rfl ?_
  refine w_asg (d := plD p) (ρ1 := eLw ns (.dat (.int k)) b1 x3 x4 x5 x6 x7 x8 x9 x10) (ρ2 := eLw ns (.dat (.int k)) b1 x3 x4 x5 x6 x7 x8 (.dat (plD p)) x10) (f_val (r_call (dom_any rfl) (za_lent rfl (a_e (f_val r_cst vd_dat) za_nil) rfl) rfl (le_len rfl) e2 (pb_own rfl rfl)) vd_dat) (lt_len rfl) rfl ?_
  refine w_asg (d := .str (textS p)) (ρ1 := eLw ns (.dat (.int k)) b1 x3 x4 x5 x6 x7 x8 (.dat (plD p)) x10) (ρ2 := eLw ns (.dat (.int k)) b1 x3 x4 x5 x6 x7 x8 (.dat (plD p)) (.dat (.str (textS p)))) (f_val (r_call (dom_any rfl) (a_e (f_val (r_var rfl) vd_dat) za_nil) rfl (le_len rfl) e3 pb_nil) vd_dat) (lt_len rfl) rfl ?_
  refine w_ifs_f (k := !true || !true) (ρ1 := eLw ns (.dat (.int k)) b1 x3 x4 x5 x6 x7 x8 (.dat (plD p)) (.dat (.str (textS p)))) (r_or (r_cmp (o_val rfl (f_val (r_call (dom_any rfl) (a_e (f_val (r_var rfl) vd_dat) za_nil) rfl (le_len rfl) e4 pb_nil) vd_dat)) (o_var rfl) g_val g_val q1) fun _ => r_cmp (o_val rfl (f_val (r_call (dom_any rfl) (a_e (f_val (r_var rfl) vd_dat) za_nil) rfl (le_len rfl) e5 pb_nil) vd_dat)) (o_var rfl) g_val g_val (zc_ne (eq_pl p))) rfl (w_app_nil ?_)
  refine w_for_inv (I := fun i ρ => ∃ (bs : List Int) (x3 x4 x7 : Slot), ρ = eLw ns (.dat (.int k)) bs x3 x4 x5 x6 x7 x8 (.dat (plD p)) (.dat (.str (textS p)))) (ds := rangeD 0 1 14) (ρ1 := eLw ns (.dat (.int k)) b1 x3 x4 x5 x6 x7 x8 (.dat (plD p)) (.dat (.str (textS p)))) (i_range1 (f_val r_cst vd_dat) rfl) ⟨b1, x3, x4, x7, rfl⟩ (fun i d ρ hd ⟨bs, y3, y4, y7, e⟩ => ?_) (fun ρ ⟨bs, y3, y4, y7, e⟩ => ?_)
  · subst e
    refine ⟨eLw ns (.dat (.int k)) bs (.dat d) y4 x5 x6 y7 x8 (.dat (plD p)) (.dat (.str (textS p))), rfl, ?_⟩
    exact (bodyTu_ev ns _ bs _ y4 x5 x6 y7 x8 p hp).mono fun r ⟨b', z4, z7, e⟩ => ⟨_, .inl e, b', _, z4, z7, rfl⟩
  · subst e
    refine w_for_inv (I := fun i ρ => ∃ (x8 : Slot), ρ = eLw ns (.dat (.int k)) bs y3 y4 x5 x6 y7 x8 (.dat (plD p)) (.dat (.str (textS p)))) (ds := oddsL p) (ρ1 := eLw ns (.dat (.int k)) bs y3 y4 x5 x6 y7 x8 (.dat (plD p)) (.dat (.str (textS p)))) (i_seq (f_val (odds_ev ns _ bs y3 y4 x5 x6 y7 x8 _ p hp) vd_own) rfl) ⟨x8, rfl⟩ (fun i d ρ hd ⟨y8, e⟩ => ?_) (fun ρ ⟨y8, e⟩ => ?_)
    · subst e
      refine ⟨eLw ns (.dat (.int k)) bs y3 y4 x5 x6 y7 (.dat d) (.dat (plD p)) (.dat (.str (textS p))), rfl, ?_⟩
      exact (bodyOd_ev ns _ bs y3 y4 x5 x6 y7 _ _ d (odds_bad p hp d (List.mem_of_getElem? hd))).mono fun r e => ⟨_, .inl e, _, rfl⟩
    · subst e
      have hd : Dat (.lst [.tup (p.ts.map tkD), .tup [.int p.l1, .int p.h1], .tup [.int p.l2, .int p.h2]]) := .lst fun d h => dat_tup (dat_pl p) d h
      have bad := plan_text_bad 24 _ hd rfl
      have l0 : biD .list [plD p] = some (.own (.lst [.tup (p.ts.map tkD), .tup [.int p.l1, .int p.h1], .tup [.int p.l2, .int p.h2]])) := rfl
      unfold lastK
      exact w_ifs_f (k := !true) (r_cmp (o_val rfl (f_val (r_told_exc (f_exc (r_call_exc (dom_any rfl) (a_e (f_val (r_bi (l_cons (f_val (r_var rfl) vd_dat) l_nil) l0) vd_own) za_nil) rfl (le_len rfl) bad pb_nil)) told_plan) vd_dat)) (o_val rfl (f_val (v := .dat (noT "plan")) (r_tup (l_cons (f_val r_cst vd_dat) (l_cons (f_val r_cst vd_dat) l_nil)) (le_len rfl)) vd_dat)) g_val g_val (zc_ne (eq_noT plan_sOk))) rfl (w_app_nil (w_nil ⟨_, _, _, _, _, _, _, rfl⟩))
end K15
end
section
namespace K15
open PySem AP
theorem lawR_ok (x0 x1 x2 x3 x4 x5 x6 x7 x8 x9 x10 : Slot) (ns : List Int) : fin [.dat (.scr ns)] (evSs (FN 29) FU lawR [x0, x1, x2, x3, x4, x5, x6, x7, x8, x9, x10]) = .ret (.dat (.bl true)) [] := by kernel_rfl
theorem pure_law : PureLaw := fun ns hl => by
  show (FN 30).fn 24 _ = _
  rw [show (30 : Nat) = 29 + 1 from rfl, fn_at (d := d_law) rfl]
  refine run_wp (fd := d_law) (out := fun x => x = .ret (.dat (.bl true)) []) rfl (by decide) ?_
  show Wp (FN 29) FU (.cons (.forS (.nm 1) (.range1 (.cst (.int 8))) bodyK) lawR) [.dat (.scr ns), .no, .no, .no, .no, .no, .no, .no, .no, .no, .no] _
  refine w_for_inv (I := fun i ρ => ∃ x1 x2 x3 x4 x7 x8 x9 x10, ρ = [.dat (.scr ns), x1, x2, x3, x4, .no, .no, x7, x8, x9, x10]) (ds := rangeD 0 1 8) (i_range1 (f_val r_cst vd_dat) rfl) ⟨_, _, _, _, _, _, _, _, rfl⟩ (fun i d ρ hd ⟨x1, x2, x3, x4, x7, x8, x9, x10, e⟩ => ?_) (fun ρ ⟨x1, x2, x3, x4, x7, x8, x9, x10, e⟩ => ?_)
  · obtain ⟨hi, rfl⟩ := rangeD_get hd
    rw [show (0 + (i : Int) * 1) = i by omega]
    subst e
    refine ⟨[.dat (.scr ns), .dat (.int i), x2, x3, x4, .no, .no, x7, x8, x9, x10], rfl, ?_⟩
    exact (bodyK_ev ns hl i (by omega) x2 x3 x4 .no .no x7 x8 x9 x10).mono fun q ⟨y2, y3, y4, y7, y8, y9, y10, e⟩ => ⟨_, .inl e, _, _, _, _, _, _, _, _, rfl⟩
  · subst e
    exact Wp.mk (lawR_ok _ _ _ _ _ _ _ _ _ _ _ ns)
end K15
end
section
set_option maxHeartbeats 0
namespace K15
open PySem PySem.Spec PyProof.Rows L2 L2H LamX AP
def top (i : Nat) : Stmt := PySem.Challenge.pw_anyplans_k15_texts_of_plans.main.body.getD i (.Pass ⟨0, 0, 0, 0⟩)
def Bl : List Str := (["len", "isinstance", "int", "bool", "tuple", "list", "str", "abs", "all", "any", "sum", "min", "max", "range", "zip", "enumerate", "sorted", "ValueError"] : List String).map Str.ofString
def GI : List (Str × Int) := []
def GT : List (Str × List Int) := []
def clsL : List Str := (["InvalidPlan", "InvalidCase", "InvalidWord", "InvalidTask", "InvalidMoment", "InvalidPaper", "InvalidFacts", "InvalidDeed", "InvalidText", "Unlike", "NothingToUndo"] : List String).map Str.ofString
def EX : List Nat := [26, 27, 28, 29, 30, 31, 32, 33, 34, 35, 36]
def ck (N : List Str) (st : Stmt) (TL : List Nat) (LV : Bool) : Ck := ⟨N, L2.defScope st, G, Bl, GI, TL, EX, GT, LV⟩
def fscB (N P : List Str) (sc : Scope) : Bool := decide (sc.kind = .function) && !sc.isCoroutine && !sc.isGenerator && decide N.Nodup && decide (N.take P.length = P) && P.all (fun x => decide (sc.names.lookup x = some .local) || decide (sc.names.lookup x = some .cell)) && sc.names.all fun y => !decide (y.2 = .free)
theorem fsc_of {N P : List Str} {sc : Scope} (h : fscB N P sc = true) : FnScope N P sc := by
  unfold fscB at h
  simp only [Bool.and_eq_true, decide_eq_true_eq, Bool.not_eq_true', List.all_eq_true, Bool.or_eq_true, decide_eq_false_iff_not] at h
  obtain ⟨⟨⟨⟨⟨⟨h1, h2⟩, h3⟩, h4⟩, h5⟩, h6⟩, h7⟩ := h
  exact ⟨h1, h2, h3, h4, h5, h6, h7⟩
theorem c_is_whole : okSs (ck N_is_whole (top 14) [] false) b_is_whole (L2.defBody (top 14)) = true := by decide +kernel
theorem s_is_whole : FnScope N_is_whole (N_is_whole.take 3) (L2.defScope (top 14)) := fsc_of (by decide +kernel)
theorem c_is_row : okSs (ck N_is_row (top 15) [] false) b_is_row (L2.defBody (top 15)) = true := by decide +kernel
theorem s_is_row : FnScope N_is_row (N_is_row.take 3) (L2.defScope (top 15)) := fsc_of (by decide +kernel)
theorem c_is_bounds : okSs (ck N_is_bounds (top 16) [] false) b_is_bounds (L2.defBody (top 16)) = true := by decide +kernel
theorem s_is_bounds : FnScope N_is_bounds (N_is_bounds.take 1) (L2.defScope (top 16)) := fsc_of (by decide +kernel)
theorem c_is_task : okSs (ck N_is_task (top 17) [] false) b_is_task (L2.defBody (top 17)) = true := by decide +kernel
theorem s_is_task : FnScope N_is_task (N_is_task.take 2) (L2.defScope (top 17)) := fsc_of (by decide +kernel)
theorem c_is_plan : okSs (ck N_is_plan (top 18) [] false) b_is_plan (L2.defBody (top 18)) = true := by decide +kernel
theorem s_is_plan : FnScope N_is_plan (N_is_plan.take 1) (L2.defScope (top 18)) := fsc_of (by decide +kernel)
theorem c_need_plan : okSs (ck N_need_plan (top 19) [] false) b_need_plan (L2.defBody (top 19)) = true := by decide +kernel
theorem s_need_plan : FnScope N_need_plan (N_need_plan.take 1) (L2.defScope (top 19)) := fsc_of (by decide +kernel)
theorem c_task_line : okSs (ck N_task_line (top 21) [] false) b_task_line (L2.defBody (top 21)) = true := by decide +kernel
theorem s_task_line : FnScope N_task_line (N_task_line.take 1) (L2.defScope (top 21)) := fsc_of (by decide +kernel)
theorem c_as_text : okSs (ck N_as_text (top 22) [] false) b_as_text (L2.defBody (top 22)) = true := by decide +kernel
theorem s_as_text : FnScope N_as_text (N_as_text.take 1) (L2.defScope (top 22)) := fsc_of (by decide +kernel)
theorem c_plan_text : okSs (ck N_plan_text (top 23) [] false) b_plan_text (L2.defBody (top 23)) = true := by decide +kernel
theorem s_plan_text : FnScope N_plan_text (N_plan_text.take 1) (L2.defScope (top 23)) := fsc_of (by decide +kernel)
theorem c_number_in : okSs (ck N_number_in (top 24) [] false) b_number_in (L2.defBody (top 24)) = true := by decide +kernel
theorem s_number_in : FnScope N_number_in (N_number_in.take 1) (L2.defScope (top 24)) := fsc_of (by decide +kernel)
theorem c_task_in : okSs (ck N_task_in (top 25) [] false) b_task_in (L2.defBody (top 25)) = true := by decide +kernel
theorem s_task_in : FnScope N_task_in (N_task_in.take 1) (L2.defScope (top 25)) := fsc_of (by decide +kernel)
theorem c_read_plan : okSs (ck N_read_plan (top 26) [] false) b_read_plan (L2.defBody (top 26)) = true := by decide +kernel
theorem s_read_plan : FnScope N_read_plan (N_read_plan.take 1) (L2.defScope (top 26)) := fsc_of (by decide +kernel)
theorem c_law_cell : okSs (ck N_law_cell (top 28) [] false) b_law_cell (L2.defBody (top 28)) = true := by decide +kernel
theorem s_law_cell : FnScope N_law_cell (N_law_cell.take 2) (L2.defScope (top 28)) := fsc_of (by decide +kernel)
theorem c_law_draws : okSs (ck N_law_draws (top 29) [] false) b_law_draws (L2.defBody (top 29)) = true := by decide +kernel
theorem s_law_draws : FnScope N_law_draws (N_law_draws.take 4) (L2.defScope (top 29)) := fsc_of (by decide +kernel)
theorem c_law_bag : okSs (ck N_law_bag (top 30) [] false) b_law_bag (L2.defBody (top 30)) = true := by decide +kernel
theorem s_law_bag : FnScope N_law_bag (N_law_bag.take 2) (L2.defScope (top 30)) := fsc_of (by decide +kernel)
theorem c_law_take : okSs (ck N_law_take (top 31) [] false) b_law_take (L2.defBody (top 31)) = true := by decide +kernel
theorem s_law_take : FnScope N_law_take (N_law_take.take 2) (L2.defScope (top 31)) := fsc_of (by decide +kernel)
theorem c_law_choice : okSs (ck N_law_choice (top 32) [] false) b_law_choice (L2.defBody (top 32)) = true := by decide +kernel
theorem s_law_choice : FnScope N_law_choice (N_law_choice.take 2) (L2.defScope (top 32)) := fsc_of (by decide +kernel)
theorem c_law_plan : okSs (ck N_law_plan (top 33) [] false) b_law_plan (L2.defBody (top 33)) = true := by decide +kernel
theorem s_law_plan : FnScope N_law_plan (N_law_plan.take 2) (L2.defScope (top 33)) := fsc_of (by decide +kernel)
theorem c_law_text : okSs (ck N_law_text (top 36) [] false) b_law_text (L2.defBody (top 36)) = true := by decide +kernel
theorem s_law_text : FnScope N_law_text (N_law_text.take 1) (L2.defScope (top 36)) := fsc_of (by decide +kernel)
theorem c_law_integer : okSs (ck N_law_integer (top 37) [] false) b_law_integer (L2.defBody (top 37)) = true := by decide +kernel
theorem s_law_integer : FnScope N_law_integer (N_law_integer.take 1) (L2.defScope (top 37)) := fsc_of (by decide +kernel)
theorem c_law_read : okSs (ck N_law_read (top 38) [] false) b_law_read (L2.defBody (top 38)) = true := by decide +kernel
theorem s_law_read : FnScope N_law_read (N_law_read.take 1) (L2.defScope (top 38)) := fsc_of (by decide +kernel)
theorem c_law_bent : okSs (ck N_law_bent (top 39) [] false) b_law_bent (L2.defBody (top 39)) = true := by decide +kernel
theorem s_law_bent : FnScope N_law_bent (N_law_bent.take 2) (L2.defScope (top 39)) := fsc_of (by decide +kernel)
theorem c_law : okSs (ck N_law (top 40) [19] true) b_law (L2.defBody (top 40)) = true := by decide +kernel
theorem s_law : FnScope N_law (N_law.take 1) (L2.defScope (top 40)) := fsc_of (by decide +kernel)
def dd (n : Str) (i : Nat) : He.DefD := ⟨(n, none), n, n, L2.defArgs (top i), L2.defBody (top i), L2.defScope (top i), [], []⟩
def fn : List He.DefD := [dd "is_whole" 14, dd "is_row" 15, dd "is_bounds" 16, dd "is_task" 17, dd "is_plan" 18, dd "need_plan" 19, dd "task_line" 21, dd "as_text" 22, dd "plan_text" 23, dd "number_in" 24, dd "task_in" 25, dd "read_plan" 26, dd "_law_cell" 28, dd "_law_draws" 29, dd "_law_bag" 30, dd "_law_take" 31, dd "_law_choice" 32, dd "_law_plan" 33, dd "_law_named_error" 34, dd "_law_told_so" 35, dd "_law_text" 36, dd "_law_integer" 37, dd "_law_read" 38, dd "_law_bent" 39, dd "law" 40]
def faX : List He.Fa := [.exm "InvalidPlan" "PlanError" true, .exm "InvalidText" "PlanError" true] ++ GT.map fun q => .glo q.1
def HGT (K : PySem.W.Frag) (mg : Str → Option Value) : Prop := ∀ x is, (x, is) ∈ GT → mg x = some (.ref (He.ga K x)) ∧ tupB K x is = true
def fa : List He.Fa := facts0 G Bl GI clsL ++ faX
def excCB (K : PySem.W.Frag) (D : Addr) : Bool :=
  decide (PySem.W.findIn K (.ref D) "__getattribute__" = some (some (.builtin "BaseException.__getattribute__"))) && decide (PySem.W.findIn K (.ref D) "__getattr__" = some none) && decide (PySem.W.subIn K (.ref D) (.type "BaseException") = some true) &&
  PySem.W.hasDictIn K D && decide (PySem.W.findIn K (.ref D) "__class__" = some (some (.builtin "object.__class__"))) && decide (PySem.W.specialIn K (.builtin "object.__class__") "__get__" = some (some (.builtin "getset_descriptor.__get__"))) &&
  decide (PySem.W.takesIn K (.builtin "object.__class__") = some true) && decide (PySem.W.mroIn K D (.type "object") = some true)
theorem excCB_ok {K : PySem.W.Frag} {D : Addr} (h : excCB K D = true) : ExcC K D := by
  unfold excCB at h
  simp only [Bool.and_eq_true, decide_eq_true_eq] at h
  obtain ⟨⟨⟨⟨⟨⟨⟨h1, h2⟩, h3⟩, h4⟩, h5⟩, h6⟩, h7⟩, h8⟩ := h
  exact ⟨h1, h2, h3, h4, h5, h6, h7, h8⟩
def excL : List Str := (["InvalidPlan", "InvalidText"] : List String).map Str.ofString
def ex (K : PySem.W.Frag) : Bool := (GT.all fun q => tupB K q.1 q.2) && excL.all fun x => excCB K (He.ga K x) && decide (PySem.W.kitOne K (.ref (He.ga K x)) (.type "ValueError") = some true) && clsL.all fun y => decide (PySem.W.kitOne K (.ref (He.ga K x)) (.ref (He.ga K y)) = some (decide (x = y)))
abbrev R : PySem.W.OpenRow := PySem.W.OpenLaw.row PySem.Challenge.rw_anyplans_k15_texts_of_plans
def tf : List He.Defn := [("law", none)]
abbrev hk : PySem.W.Hook := He.hookX 4 fa fn [] tf ex
def ob (s : PySem.W.SharedT) : He.AlX := He.obsX 4 fa fn [] tf ex (HandSHeadRun.getT s)
theorem ob_eq (s : PySem.W.SharedT) : ob s = hk.obs s.abs := He.obsX_eq (HandSHeadRun.getT_eq s)
def loose1 : List Str := (["PlanError", "InvalidPlan", "InvalidCase", "InvalidWord", "InvalidTask", "InvalidMoment", "InvalidPaper", "InvalidFacts", "InvalidDeed", "InvalidText", "Unlike", "NothingToUndo", "is_whole", "is_row", "is_bounds", "is_task", "is_plan", "need_plan", "task_line", "as_text", "plan_text", "number_in", "task_in", "read_plan", "_law_cell", "_law_draws", "_law_bag", "_law_take", "_law_choice", "_law_plan", "_law_named_error", "_law_told_so", "_law_text", "_law_integer", "_law_read", "_law_bent"] : List String).map Str.ofString
section
variable {P : Program} {w : World} {K : PySem.W.Frag} {h base : Heap} {mg : Str → Option Value} {fuel : Nat} {T : List (Addr × Str)}
theorem glb (H : HeadFs K mg G Bl GI clsL) (HT : HGT K mg) (N : List Str) (st : Stmt) (TL : List Nat) (LV : Bool) : GlbOk (pa K mg G T) K mg (ck N st TL LV) := glbOk H (by decide +kernel) N (L2.defScope st) HT
theorem k_is_whole (H : HeadFs K mg G Bl GI clsL) (HT : HGT K mg) (c : He.SaysD fa fn K) : DefOk (pa K mg G T) P w K mg base fns told fuel 0 d_is_whole := by
  obtain ⟨fd, F⟩ := c.def_ 0 (d := dd "is_whole" 14)
  have hg : G[0]? = some (dd "is_whole" 14).at_.1 := by decide +kernel
  exact mkDef (c := ck N_is_whole (top 14) [] false) (ps := N_is_whole.take 3) hg (H.gl _ (List.mem_of_getElem? hg)) F (F.bindsN fun _ _ _ _ _ _ us hl => match us, hl with | [_, _, _], _ => rfl) s_is_whole rfl rfl rfl (glb H HT N_is_whole (top 14) [] false) c_is_whole rfl rfl
theorem k_is_row (H : HeadFs K mg G Bl GI clsL) (HT : HGT K mg) (c : He.SaysD fa fn K) : DefOk (pa K mg G T) P w K mg base fns told fuel 1 d_is_row := by
  obtain ⟨fd, F⟩ := c.def_ 1 (d := dd "is_row" 15)
  have hg : G[1]? = some (dd "is_row" 15).at_.1 := by decide +kernel
  exact mkDef (c := ck N_is_row (top 15) [] false) (ps := N_is_row.take 3) hg (H.gl _ (List.mem_of_getElem? hg)) F (F.bindsN fun _ _ _ _ _ _ us hl => match us, hl with | [_, _, _], _ => rfl) s_is_row rfl rfl rfl (glb H HT N_is_row (top 15) [] false) c_is_row rfl rfl
theorem k_is_bounds (H : HeadFs K mg G Bl GI clsL) (HT : HGT K mg) (c : He.SaysD fa fn K) : DefOk (pa K mg G T) P w K mg base fns told fuel 2 d_is_bounds := by
  obtain ⟨fd, F⟩ := c.def_ 2 (d := dd "is_bounds" 16)
  have hg : G[2]? = some (dd "is_bounds" 16).at_.1 := by decide +kernel
  exact mkDef (c := ck N_is_bounds (top 16) [] false) (ps := N_is_bounds.take 1) hg (H.gl _ (List.mem_of_getElem? hg)) F (F.bindsN fun _ _ _ _ _ _ us hl => match us, hl with | [_], _ => rfl) s_is_bounds rfl rfl rfl (glb H HT N_is_bounds (top 16) [] false) c_is_bounds rfl rfl
theorem k_is_task (H : HeadFs K mg G Bl GI clsL) (HT : HGT K mg) (c : He.SaysD fa fn K) : DefOk (pa K mg G T) P w K mg base fns told fuel 3 d_is_task := by
  obtain ⟨fd, F⟩ := c.def_ 3 (d := dd "is_task" 17)
  have hg : G[3]? = some (dd "is_task" 17).at_.1 := by decide +kernel
  exact mkDef (c := ck N_is_task (top 17) [] false) (ps := N_is_task.take 2) hg (H.gl _ (List.mem_of_getElem? hg)) F (F.bindsN fun _ _ _ _ _ _ us hl => match us, hl with | [_, _], _ => rfl) s_is_task rfl rfl rfl (glb H HT N_is_task (top 17) [] false) c_is_task rfl rfl
theorem k_is_plan (H : HeadFs K mg G Bl GI clsL) (HT : HGT K mg) (c : He.SaysD fa fn K) : DefOk (pa K mg G T) P w K mg base fns told fuel 4 d_is_plan := by
  obtain ⟨fd, F⟩ := c.def_ 4 (d := dd "is_plan" 18)
  have hg : G[4]? = some (dd "is_plan" 18).at_.1 := by decide +kernel
  exact mkDef (c := ck N_is_plan (top 18) [] false) (ps := N_is_plan.take 1) hg (H.gl _ (List.mem_of_getElem? hg)) F (F.bindsN fun _ _ _ _ _ _ us hl => match us, hl with | [_], _ => rfl) s_is_plan rfl rfl rfl (glb H HT N_is_plan (top 18) [] false) c_is_plan rfl rfl
theorem k_need_plan (H : HeadFs K mg G Bl GI clsL) (HT : HGT K mg) (c : He.SaysD fa fn K) : DefOk (pa K mg G T) P w K mg base fns told fuel 5 d_need_plan := by
  obtain ⟨fd, F⟩ := c.def_ 5 (d := dd "need_plan" 19)
  have hg : G[5]? = some (dd "need_plan" 19).at_.1 := by decide +kernel
  exact mkDef (c := ck N_need_plan (top 19) [] false) (ps := N_need_plan.take 1) hg (H.gl _ (List.mem_of_getElem? hg)) F (F.bindsN fun _ _ _ _ _ _ us hl => match us, hl with | [_], _ => rfl) s_need_plan rfl rfl rfl (glb H HT N_need_plan (top 19) [] false) c_need_plan rfl rfl
theorem k_task_line (H : HeadFs K mg G Bl GI clsL) (HT : HGT K mg) (c : He.SaysD fa fn K) : DefOk (pa K mg G T) P w K mg base fns told fuel 6 d_task_line := by
  obtain ⟨fd, F⟩ := c.def_ 6 (d := dd "task_line" 21)
  have hg : G[6]? = some (dd "task_line" 21).at_.1 := by decide +kernel
  exact mkDef (c := ck N_task_line (top 21) [] false) (ps := N_task_line.take 1) hg (H.gl _ (List.mem_of_getElem? hg)) F (F.bindsN fun _ _ _ _ _ _ us hl => match us, hl with | [_], _ => rfl) s_task_line rfl rfl rfl (glb H HT N_task_line (top 21) [] false) c_task_line rfl rfl
theorem k_as_text (H : HeadFs K mg G Bl GI clsL) (HT : HGT K mg) (c : He.SaysD fa fn K) : DefOk (pa K mg G T) P w K mg base fns told fuel 7 d_as_text := by
  obtain ⟨fd, F⟩ := c.def_ 7 (d := dd "as_text" 22)
  have hg : G[7]? = some (dd "as_text" 22).at_.1 := by decide +kernel
  exact mkDef (c := ck N_as_text (top 22) [] false) (ps := N_as_text.take 1) hg (H.gl _ (List.mem_of_getElem? hg)) F (F.bindsN fun _ _ _ _ _ _ us hl => match us, hl with | [_], _ => rfl) s_as_text rfl rfl rfl (glb H HT N_as_text (top 22) [] false) c_as_text rfl rfl
theorem k_plan_text (H : HeadFs K mg G Bl GI clsL) (HT : HGT K mg) (c : He.SaysD fa fn K) : DefOk (pa K mg G T) P w K mg base fns told fuel 8 d_plan_text := by
  obtain ⟨fd, F⟩ := c.def_ 8 (d := dd "plan_text" 23)
  have hg : G[8]? = some (dd "plan_text" 23).at_.1 := by decide +kernel
  exact mkDef (c := ck N_plan_text (top 23) [] false) (ps := N_plan_text.take 1) hg (H.gl _ (List.mem_of_getElem? hg)) F (F.bindsN fun _ _ _ _ _ _ us hl => match us, hl with | [_], _ => rfl) s_plan_text rfl rfl rfl (glb H HT N_plan_text (top 23) [] false) c_plan_text rfl rfl
theorem k_number_in (H : HeadFs K mg G Bl GI clsL) (HT : HGT K mg) (c : He.SaysD fa fn K) : DefOk (pa K mg G T) P w K mg base fns told fuel 9 d_number_in := by
  obtain ⟨fd, F⟩ := c.def_ 9 (d := dd "number_in" 24)
  have hg : G[9]? = some (dd "number_in" 24).at_.1 := by decide +kernel
  exact mkDef (c := ck N_number_in (top 24) [] false) (ps := N_number_in.take 1) hg (H.gl _ (List.mem_of_getElem? hg)) F (F.bindsN fun _ _ _ _ _ _ us hl => match us, hl with | [_], _ => rfl) s_number_in rfl rfl rfl (glb H HT N_number_in (top 24) [] false) c_number_in rfl rfl
theorem k_task_in (H : HeadFs K mg G Bl GI clsL) (HT : HGT K mg) (c : He.SaysD fa fn K) : DefOk (pa K mg G T) P w K mg base fns told fuel 10 d_task_in := by
  obtain ⟨fd, F⟩ := c.def_ 10 (d := dd "task_in" 25)
  have hg : G[10]? = some (dd "task_in" 25).at_.1 := by decide +kernel
  exact mkDef (c := ck N_task_in (top 25) [] false) (ps := N_task_in.take 1) hg (H.gl _ (List.mem_of_getElem? hg)) F (F.bindsN fun _ _ _ _ _ _ us hl => match us, hl with | [_], _ => rfl) s_task_in rfl rfl rfl (glb H HT N_task_in (top 25) [] false) c_task_in rfl rfl
theorem k_read_plan (H : HeadFs K mg G Bl GI clsL) (HT : HGT K mg) (c : He.SaysD fa fn K) : DefOk (pa K mg G T) P w K mg base fns told fuel 11 d_read_plan := by
  obtain ⟨fd, F⟩ := c.def_ 11 (d := dd "read_plan" 26)
  have hg : G[11]? = some (dd "read_plan" 26).at_.1 := by decide +kernel
  exact mkDef (c := ck N_read_plan (top 26) [] false) (ps := N_read_plan.take 1) hg (H.gl _ (List.mem_of_getElem? hg)) F (F.bindsN fun _ _ _ _ _ _ us hl => match us, hl with | [_], _ => rfl) s_read_plan rfl rfl rfl (glb H HT N_read_plan (top 26) [] false) c_read_plan rfl rfl
theorem k_law_cell (H : HeadFs K mg G Bl GI clsL) (HT : HGT K mg) (c : He.SaysD fa fn K) : DefOk (pa K mg G T) P w K mg base fns told fuel 12 d_law_cell := by
  obtain ⟨fd, F⟩ := c.def_ 12 (d := dd "_law_cell" 28)
  have hg : G[12]? = some (dd "_law_cell" 28).at_.1 := by decide +kernel
  exact mkDef (c := ck N_law_cell (top 28) [] false) (ps := N_law_cell.take 2) hg (H.gl _ (List.mem_of_getElem? hg)) F (F.bindsN fun _ _ _ _ _ _ us hl => match us, hl with | [_, _], _ => rfl) s_law_cell rfl rfl rfl (glb H HT N_law_cell (top 28) [] false) c_law_cell rfl rfl
theorem k_law_draws (H : HeadFs K mg G Bl GI clsL) (HT : HGT K mg) (c : He.SaysD fa fn K) : DefOk (pa K mg G T) P w K mg base fns told fuel 13 d_law_draws := by
  obtain ⟨fd, F⟩ := c.def_ 13 (d := dd "_law_draws" 29)
  have hg : G[13]? = some (dd "_law_draws" 29).at_.1 := by decide +kernel
  exact mkDef (c := ck N_law_draws (top 29) [] false) (ps := N_law_draws.take 4) hg (H.gl _ (List.mem_of_getElem? hg)) F (F.bindsN fun _ _ _ _ _ _ us hl => match us, hl with | [_, _, _, _], _ => rfl) s_law_draws rfl rfl rfl (glb H HT N_law_draws (top 29) [] false) c_law_draws rfl rfl
theorem k_law_bag (H : HeadFs K mg G Bl GI clsL) (HT : HGT K mg) (c : He.SaysD fa fn K) : DefOk (pa K mg G T) P w K mg base fns told fuel 14 d_law_bag := by
  obtain ⟨fd, F⟩ := c.def_ 14 (d := dd "_law_bag" 30)
  have hg : G[14]? = some (dd "_law_bag" 30).at_.1 := by decide +kernel
  exact mkDef (c := ck N_law_bag (top 30) [] false) (ps := N_law_bag.take 2) hg (H.gl _ (List.mem_of_getElem? hg)) F (F.bindsN fun _ _ _ _ _ _ us hl => match us, hl with | [_, _], _ => rfl) s_law_bag rfl rfl rfl (glb H HT N_law_bag (top 30) [] false) c_law_bag rfl rfl
theorem k_law_take (H : HeadFs K mg G Bl GI clsL) (HT : HGT K mg) (c : He.SaysD fa fn K) : DefOk (pa K mg G T) P w K mg base fns told fuel 15 d_law_take := by
  obtain ⟨fd, F⟩ := c.def_ 15 (d := dd "_law_take" 31)
  have hg : G[15]? = some (dd "_law_take" 31).at_.1 := by decide +kernel
  exact mkDef (c := ck N_law_take (top 31) [] false) (ps := N_law_take.take 2) hg (H.gl _ (List.mem_of_getElem? hg)) F (F.bindsN fun _ _ _ _ _ _ us hl => match us, hl with | [_, _], _ => rfl) s_law_take rfl rfl rfl (glb H HT N_law_take (top 31) [] false) c_law_take rfl rfl
theorem k_law_choice (H : HeadFs K mg G Bl GI clsL) (HT : HGT K mg) (c : He.SaysD fa fn K) : DefOk (pa K mg G T) P w K mg base fns told fuel 16 d_law_choice := by
  obtain ⟨fd, F⟩ := c.def_ 16 (d := dd "_law_choice" 32)
  have hg : G[16]? = some (dd "_law_choice" 32).at_.1 := by decide +kernel
  exact mkDef (c := ck N_law_choice (top 32) [] false) (ps := N_law_choice.take 2) hg (H.gl _ (List.mem_of_getElem? hg)) F (F.bindsN fun _ _ _ _ _ _ us hl => match us, hl with | [_, _], _ => rfl) s_law_choice rfl rfl rfl (glb H HT N_law_choice (top 32) [] false) c_law_choice rfl rfl
theorem k_law_plan (H : HeadFs K mg G Bl GI clsL) (HT : HGT K mg) (c : He.SaysD fa fn K) : DefOk (pa K mg G T) P w K mg base fns told fuel 17 d_law_plan := by
  obtain ⟨fd, F⟩ := c.def_ 17 (d := dd "_law_plan" 33)
  have hg : G[17]? = some (dd "_law_plan" 33).at_.1 := by decide +kernel
  exact mkDef (c := ck N_law_plan (top 33) [] false) (ps := N_law_plan.take 2) hg (H.gl _ (List.mem_of_getElem? hg)) F (F.bindsN fun _ _ _ _ _ _ us hl => match us, hl with | [_, _], _ => rfl) s_law_plan rfl rfl rfl (glb H HT N_law_plan (top 33) [] false) c_law_plan rfl rfl
theorem k_law_text (H : HeadFs K mg G Bl GI clsL) (HT : HGT K mg) (c : He.SaysD fa fn K) : DefOk (pa K mg G T) P w K mg base fns told fuel 20 d_law_text := by
  obtain ⟨fd, F⟩ := c.def_ 20 (d := dd "_law_text" 36)
  have hg : G[20]? = some (dd "_law_text" 36).at_.1 := by decide +kernel
  exact mkDef (c := ck N_law_text (top 36) [] false) (ps := N_law_text.take 1) hg (H.gl _ (List.mem_of_getElem? hg)) F (F.bindsN fun _ _ _ _ _ _ us hl => match us, hl with | [_], _ => rfl) s_law_text rfl rfl rfl (glb H HT N_law_text (top 36) [] false) c_law_text rfl rfl
theorem k_law_integer (H : HeadFs K mg G Bl GI clsL) (HT : HGT K mg) (c : He.SaysD fa fn K) : DefOk (pa K mg G T) P w K mg base fns told fuel 21 d_law_integer := by
  obtain ⟨fd, F⟩ := c.def_ 21 (d := dd "_law_integer" 37)
  have hg : G[21]? = some (dd "_law_integer" 37).at_.1 := by decide +kernel
  exact mkDef (c := ck N_law_integer (top 37) [] false) (ps := N_law_integer.take 1) hg (H.gl _ (List.mem_of_getElem? hg)) F (F.bindsN fun _ _ _ _ _ _ us hl => match us, hl with | [_], _ => rfl) s_law_integer rfl rfl rfl (glb H HT N_law_integer (top 37) [] false) c_law_integer rfl rfl
theorem k_law_read (H : HeadFs K mg G Bl GI clsL) (HT : HGT K mg) (c : He.SaysD fa fn K) : DefOk (pa K mg G T) P w K mg base fns told fuel 22 d_law_read := by
  obtain ⟨fd, F⟩ := c.def_ 22 (d := dd "_law_read" 38)
  have hg : G[22]? = some (dd "_law_read" 38).at_.1 := by decide +kernel
  exact mkDef (c := ck N_law_read (top 38) [] false) (ps := N_law_read.take 1) hg (H.gl _ (List.mem_of_getElem? hg)) F (F.bindsN fun _ _ _ _ _ _ us hl => match us, hl with | [_], _ => rfl) s_law_read rfl rfl rfl (glb H HT N_law_read (top 38) [] false) c_law_read rfl rfl
theorem k_law_bent (H : HeadFs K mg G Bl GI clsL) (HT : HGT K mg) (c : He.SaysD fa fn K) : DefOk (pa K mg G T) P w K mg base fns told fuel 23 d_law_bent := by
  obtain ⟨fd, F⟩ := c.def_ 23 (d := dd "_law_bent" 39)
  have hg : G[23]? = some (dd "_law_bent" 39).at_.1 := by decide +kernel
  exact mkDef (c := ck N_law_bent (top 39) [] false) (ps := N_law_bent.take 2) hg (H.gl _ (List.mem_of_getElem? hg)) F (F.bindsN fun _ _ _ _ _ _ us hl => match us, hl with | [_, _], _ => rfl) s_law_bent rfl rfl rfl (glb H HT N_law_bent (top 39) [] false) c_law_bent rfl rfl
end
end K15
end
section
set_option maxHeartbeats 0
namespace K15
open PySem PySem.Spec PyProof.Rows L2 L2H LamX AP
def S_ (l : List String) : List Str := l.map Str.ofString
def NN : List Str := S_ ["e", "some", "labels", "label", "good"]
def NE : List Str := S_ ["call", "e"]
theorem sN : FnScope NN (S_ ["e"]) (L2.defScope (top 34)) := fsc_of (by decide +kernel)
theorem sE : FnScope NE (S_ ["call"]) (L2.defScope (top 35)) := fsc_of (by decide +kernel)
def k1 : List Str := S_ ["InvalidPlan", "InvalidCase", "InvalidWord"]
def k2 : List Str := S_ ["InvalidTask", "InvalidMoment", "InvalidPaper"]
def k3 : List Str := S_ ["InvalidFacts", "InvalidDeed", "InvalidText"]
def k4 : List Str := S_ ["Unlike", "NothingToUndo"]
def LB : Str := "plan case word task moment paper facts deed text unlike undo"
def rN : Stmt := (L2.defBody (top 34)).getD 5 (.Pass ⟨0, 0, 0, 0⟩)
theorem nm1 : named NN (L2.defScope (top 34)) (L2.defBody (top 34)) = some (k1, k2, k3, k4, LB) := by decide +kernel
theorem nm2 : namedEnd (L2.defBody (top 34)) = some rN := by kernel_rfl
theorem nm3 : namedRet NN (L2.defScope (top 34)) rN = true := by decide +kernel
theorem er1 : soText NE (L2.defScope (top 35)) (L2.defBody (top 35)) = some (("PlanError" : Str), ("_law_named_error" : Str)) := by decide +kernel
section
variable {P : Program} {w : World} {K : PySem.W.Frag} {h base : Heap} {mg : Str → Option Value} {fuel : Nat} {T : List (Addr × Str)}
theorem inG {x : Str} (i : Nat) (h : G[i]? = some x) : x ∈ G := List.mem_of_getElem? h
theorem exs (hex : ex K = true) (x : Str) (hx : x ∈ excL) : ExcC K (He.ga K x) ∧ PySem.W.kitOne K (.ref (He.ga K x)) (.type "ValueError") = some true ∧ ∀ y ∈ clsL, PySem.W.kitOne K (.ref (He.ga K x)) (.ref (He.ga K y)) = some (decide (x = y)) := by
  unfold ex at hex
  rw [Bool.and_eq_true] at hex
  have h1 := List.all_eq_true.mp hex.2 x hx
  simp only [Bool.and_eq_true, decide_eq_true_eq, List.all_eq_true] at h1
  exact ⟨excCB_ok h1.1.1, h1.1.2, h1.2⟩
def labX (x : Str) : Str := Txt.join (" " : Str) (pick (Txt.split LB (" " : Str)) ((((k1 ++ k2) ++ k3) ++ k4).map fun y => decide (x = y)))
def okD (K : PySem.W.Frag) (D : Addr) : Prop := ∃ x ∈ excL, D = He.ga K x
/-- the label by the address -/
def labD (K : PySem.W.Frag) (D : Addr) : Str := match excL.find? fun x => decide (He.ga K x = D) with
  | some x => labX x
  | none => ""
theorem excl_cls : ∀ x ∈ excL, x ∈ clsL := by decide +kernel
theorem labD_eq (hex : ex K = true) {x : Str} (hx : x ∈ excL) : labD K (He.ga K x) = labX x := by
  unfold labD
  cases h : excL.find? fun z => decide (He.ga K z = He.ga K x) with
  | none =>
    have := List.find?_eq_none.mp h x hx
    simp at this
  | some z =>
    have h1 := List.find?_some h
    have h2 := List.mem_of_find?_eq_some h
    have e : He.ga K z = He.ga K x := by simpa using h1
    obtain ⟨_, _, e1⟩ := exs hex z h2
    have a := e1 z (excl_cls z h2)
    have b := e1 x (excl_cls x hx)
    rw [← e, a] at b
    have : z = x := by simpa using b
    rw [this]
theorem lens_ok : ∀ x ∈ excL, (pick (Txt.split LB (" " : Str)) ((((k1 ++ k2) ++ k3) ++ k4).map fun y => decide (x = y)) |>.map (·.length)).sum + (pick (Txt.split LB (" " : Str)) ((((k1 ++ k2) ++ k3) ++ k4).map fun y => decide (x = y))).length * (" " : Str).length ≤ 16777216 := by decide +kernel
theorem named_ok (H : HeadFs K mg G Bl GI clsL) (c : He.SaysD fa fn K) (hex : ex K = true) : NamedOk P w K mg base "_law_named_error" (okD K) (labD K) := by
  obtain ⟨fd, F⟩ := c.def_ 18 (d := dd "_law_named_error" 34)
  have hg : G[18]? = some (dd "_law_named_error" 34).at_.1 := by decide +kernel
  have bN : L2.Binds K fd (S_ ["e"]) [] := F.bindsN fun _ _ _ _ _ _ us hl => match us, hl with | [_], _ => rfl
  have kp := F.kp
  obtain ⟨oc, od, dV, kV, doc, pm, an, cdv, ct, osl, rfl, lk, hcd, _, _⟩ := F.ex
  refine ⟨_, _, _, H.gl _ (List.mem_of_getElem? hg), kp, bN, fun D hD a oe hz hf => ?_⟩
  obtain ⟨x, hx, rfl⟩ := hD
  obtain ⟨e1, e2, e3⟩ := exs hex x hx
  rw [labD_eq hex hx]
  exact named_fnHp (cl := He.ga K) (ky := fun y => decide (x = y)) lk hcd sN rfl e1 (H.bl _ (by decide +kernel)) (H.bl _ (by decide +kernel)) nm1 nm2 nm3
    (fun y hy => ⟨H.gl y ((by decide +kernel : ∀ y ∈ ((k1 ++ k2) ++ k3) ++ k4, y ∈ G) y hy), e3 y ((by decide +kernel : ∀ y ∈ ((k1 ++ k2) ++ k3) ++ k4, y ∈ clsL) y hy)⟩) (by decide +kernel) (by decide +kernel) (by decide +kernel) (lens_ok x hx) rfl a oe hz hf
def TT (K : PySem.W.Frag) : List (Addr × Str) := [((He.cT K ("law", none)).2, lamQ "law" (L2.defScope (top 40)))]
theorem told_lab (H : HeadFs K mg G Bl GI clsL) (hex : ex K = true) {cid : Nat} {d : D} {C : Addr} (h1 : told 19 (.inr cid) = some d) (h2 : ClsAt ⟨K, mg, G⟩ cid C) : okD K C ∧ d = .tup [.non, .str (labD K C)] := by
  have key : ∀ (x : Str) (t : Str), x ∈ excL → G[cid]? = some x → labX x = t → d = .tup [.non, .str t] → okD K C ∧ d = .tup [.non, .str (labD K C)] := fun x t hx hG hl hd => by
    obtain ⟨n, hn, hC⟩ := h2
    have hn : G[cid]? = some n := hn
    rw [hG] at hn
    cases hn
    have := H.gl x (List.mem_of_getElem? hG)
    rw [show mg x = some (.ref C) from hC] at this
    cases this
    exact ⟨⟨x, hx, rfl⟩, by rw [labD_eq hex hx, hl]; exact hd⟩
  simp only [told, if_true] at h1
  split at h1
  · rename_i q; subst q; cases h1
    exact key "InvalidPlan" "plan" (by decide +kernel) (by decide +kernel) (by decide +kernel) rfl
  · split at h1
    · rename_i q; subst q; cases h1
      exact key "InvalidText" "text" (by decide +kernel) (by decide +kernel) (by decide +kernel) rfl
    · cases h1
theorem law_td (H : HeadFs K mg G Bl GI clsL) (c : He.SaysD fa fn K) (hex : ex K = true) {nm : Str} {i : Nat} {N : List Str} {LV : Bool} (hmT : ((He.cT K (nm, none)).2, lamQ nm (L2.defScope (top i))) ∈ TT K) (hu : ∀ q ∈ TT K, q.1 = (He.cT K (nm, none)).2 → q.2 = lamQ nm (L2.defScope (top i))) (TB : TabB base mg (He.cT K (nm, none)).1 (He.cT K (nm, none)).2) :
    ∀ (F0 : Hp) (n : Nat) (A : Around) (outer : List PySem.Env) (s : Shared) (Hh : Hp) (E : XK), Room (Lv n + 2) (A.deeper (envOfC nm (L2.defScope (top i)) s.heap.objs.size (He.fAd K (nm, none)) (.ref (He.codeOf K (nm, none))))) →
      XOk { pa K mg G (TT K) with F0 := F0 } (ck N (top i) [19] LV) (ftAt fns told fuel n) (Lv n) (fun cls d _ H => E cls d H) (cxOf (L2N.CX P w) P w K mg base N nm (L2.defScope (top i)) (He.fAd K (nm, none)) (.ref (He.codeOf K (nm, none))) A outer s Hh E) →
      ToldAll { pa K mg G (TT K) with F0 := F0 } (ck N (top i) [19] LV) (ftAt fns told fuel n) (Lv n) (cxOf (L2N.CX P w) P w K mg base N nm (L2.defScope (top i)) (He.fAd K (nm, none)) (.ref (He.codeOf K (nm, none))) A outer s Hh E) := by
  obtain ⟨fd, F⟩ := c.def_ 19 (d := dd "_law_told_so" 35)
  have hg : G[19]? = some (dd "_law_told_so" 35).at_.1 := by decide +kernel
  have hp : ∀ x ∈ excL, (He.Fa.exm x "PlanError" true).ok K = true := fun x hx => by
    have hx : x ∈ (["InvalidPlan", "InvalidText"] : List Str) := hx
    rcases List.mem_cons.mp hx with rfl | hx
    · exact c.facts (List.mem_append_right _ (List.mem_append_left _ List.mem_cons_self))
    · rw [List.mem_singleton.mp hx]
      exact c.facts (List.mem_append_right _ (List.mem_append_left _ (List.mem_cons_of_mem _ List.mem_cons_self)))
  exact lawTdS (p := pa K mg G (TT K)) (P := P) (w := w) (fns := fns) (told := told) (fuel := fuel) (d0 := dd nm i) (c := ck N (top i) [19] LV) rfl rfl (x := "_law_told_so") (a := "call") (Ng := NE) (ok := okD K) (lab := labD K) rfl rfl hmT hu hg (H.gl _ (List.mem_of_getElem? hg)) F
    (F.bindsN fun _ _ _ _ _ _ us hl => match us, hl with | [_], _ => rfl) sE rfl (.inl (by decide +kernel)) (by decide +kernel) (by decide +kernel) er1 (H.gl _ (inG 25 (by decide +kernel)))
    (fun D hD => by obtain ⟨x, hx, rfl⟩ := hD; obtain ⟨e1, e2, _⟩ := exs hex x hx; exact ⟨e1, He.exm_ok (hp x hx)⟩) (named_ok H c hex) TB (fun d => rfl) (fun cid d C h1 h2 => told_lab H hex h1 h2)
end
end K15
end
section
set_option maxHeartbeats 0
namespace K15
open PySem PySem.Spec PyProof.Rows L2 L2H LamX AP
theorem run (w : World) : HandSHeadRun.RunEq R (PySem.W.view R.prog [40]) hk ob 5000 loose1 w := by
  intro os
  kernel_rfl
end K15
end
section
set_option maxHeartbeats 0
namespace K15
open PySem PySem.Spec PyProof.Rows L2 L2H LamX AP
theorem law_at (hv : PureLaw) {w : World} {K : PySem.W.Frag} {h : Heap} {mg : Str → Option Value} {fL : Addr} (X : K.In h) (Gm : h.Ns mainGlobals mg) (c : He.SaysX fa fn [] tf ex w h K) (hfa : mg "law" = some (.ref fL)) : LawAtS PySem.Challenge.rw_anyplans_k15_texts_of_plans w K (L2N.CX PySem.Challenge.rw_anyplans_k15_texts_of_plans.prog w) (Lv 30) 63 "script" mg fL h := by
  have H : HeadFs K mg G Bl GI clsL := headFs X Gm c.t.d
  have HT : HGT K mg := fun x is hx => absurd hx List.not_mem_nil
  obtain ⟨fdL, FL⟩ := c.t.d.def_ 24 (d := dd "law" 40)
  have hg : G[24]? = some (dd "law" 40).at_.1 := by decide +kernel
  have e := H.gl _ (List.mem_of_getElem? hg)
  have e2 : mg (dd "law" 40).at_.1 = some (.ref fL) := hfa
  rw [e2] at e
  cases e
  have hb : L2.Binds K fdL (N_law.take 1) [] := FL.bindsN fun _ _ _ _ _ _ us hl => match us, hl with | [_], _ => rfl
  have hbA := FunD.bindsA (ps := N_law.take 1) FL fun _ _ _ _ _ _ us hl => match us, hl with | [_], _ => rfl
  have tq : ∀ q ∈ [He.cT K ("law", none)], ∃ d ∈ tf, q = He.cT K d := fun q hq => by
    rw [List.mem_singleton.mp hq]; exact ⟨_, List.mem_cons_self, rfl⟩
  refine ⟨fdL, [He.cT K ("law", none)], spF (pa K mg G (TT K)) 1 ((ftAt fns told FU 30).fn 24), fun q hq => ?_, fun q hq => ?_, fun q hq => ?_, fun s u => hbA s [u] rfl, fun Hh a ns hl hbits hH hS => ?_, fun base hK hns hTB => ?_⟩
  · obtain ⟨d, hd, rfl⟩ := tq q hq; exact c.empty _ hd
  · obtain ⟨d, hd, rfl⟩ := tq q hq; exact c.out _ hd
  · obtain ⟨d, hd, rfl⟩ := tq q hq; exact PySem.W.codeHd_of_K X (c.hd _ hd)
  · refine law_sp (p := pa K mg G (TT K)) (K := K) (n := 63) (fun q hq => ?_) rfl hS (hv ns hl)
    rw [List.mem_singleton.mp hq]; exact TabS.nil (hH _ List.mem_cons_self)
  · have td := law_td (P := PySem.Challenge.rw_anyplans_k15_texts_of_plans.prog) (w := w) (fuel := FU) (nm := "law") (i := 40) (N := N_law) (LV := true) H c.t.d c.more List.mem_cons_self (fun q hq e => by rw [List.mem_singleton.mp hq]) (hTB _ List.mem_cons_self)
    have kl : DefOk (pa K mg G (TT K)) PySem.Challenge.rw_anyplans_k15_texts_of_plans.prog w K mg base fns told FU 24 d_law := ⟨dd "law" 40, fdL, N_law.take 1, ck N_law (top 40) [19] true, hg, H.gl _ (List.mem_of_getElem? hg), FL, hb, s_law, rfl, rfl, rfl, glb H HT N_law (top 40) [19] true, c_law, td⟩
    have all : ∀ f d, fns f = some d → DefOk (pa K mg G (TT K)) PySem.Challenge.rw_anyplans_k15_texts_of_plans.prog w K mg base fns told FU f d := fun f d hf => by
      have h2 : tab[f]? = some (some d) := by
        unfold fns at hf
        split at hf
        · rename_i hx; cases hf; exact hx
        · cases hf
      have h3 := all_tab (Q := fun f d => DefOk (pa K mg G (TT K)) PySem.Challenge.rw_anyplans_k15_texts_of_plans.prog w K mg base fns told FU f d) tab 0 (And.intro (k_is_whole H HT c.t.d) (And.intro (k_is_row H HT c.t.d) (And.intro (k_is_bounds H HT c.t.d) (And.intro (k_is_task H HT c.t.d) (And.intro (k_is_plan H HT c.t.d) (And.intro (k_need_plan H HT c.t.d) (And.intro (k_task_line H HT c.t.d) (And.intro (k_as_text H HT c.t.d) (And.intro (k_plan_text H HT c.t.d) (And.intro (k_number_in H HT c.t.d) (And.intro (k_task_in H HT c.t.d) (And.intro (k_read_plan H HT c.t.d) (And.intro (k_law_cell H HT c.t.d) (And.intro (k_law_draws H HT c.t.d) (And.intro (k_law_bag H HT c.t.d) (And.intro (k_law_take H HT c.t.d) (And.intro (k_law_choice H HT c.t.d) (And.intro (k_law_plan H HT c.t.d) (And.intro (k_law_text H HT c.t.d) (And.intro (k_law_integer H HT c.t.d) (And.intro (k_law_read H HT c.t.d) (And.intro (k_law_bent H HT c.t.d) (And.intro (kl) trivial))))))))))))))))))))))) f d h2
      rw [Nat.zero_add] at h3
      exact h3
    exact law_fn (n := 29) (d := d_law) (c := ck N_law (top 40) [19] true) (ps := N_law.take 1) all (fun _ _ _ h => h) rfl FL s_law rfl rfl rfl (glb H HT N_law (top 40) [19] true) c_law td
end K15
open PySem PySem.W PySem.Calls PyProof.Rows
theorem K15.holds_of (hv : K15.PureLaw) : PySem.Challenge.rw_anyplans_k15_texts_of_plans.Holds := by
  w_on; o_law
  refine HandSHeadRun.head_any (r := OpenLaw.row PySem.Challenge.rw_anyplans_k15_texts_of_plans) (q := view (OpenLaw.row PySem.Challenge.rw_anyplans_k15_texts_of_plans).prog [40]) (H := K15.hk) (ob := K15.ob) (M := 5000) (loose := K15.loose1) (d := HandSHeadRun.topDef (OpenLaw.row PySem.Challenge.rw_anyplans_k15_texts_of_plans).prog 40) (kwd := []) K15.ob_eq
    (by kernel_rfl) (fun s => by kernel_rfl) K15.run (by kernel_rfl) (by kernel_rfl) (by kernel_rfl) (by rfl) (by first | assumption | decide +kernel) (by decide +kernel) ⟨rfl, rfl, rfl, rfl, rfl, by decide +kernel⟩ ?hw ?hc
  case hw => w_witness2
  case hc =>
    refine LamX.walk_ofTsE (l := PySem.Challenge.rw_anyplans_k15_texts_of_plans) (n := 63) (k := AP.Lv 30) (x := "script") (CX := fun w => L2N.CX PySem.Challenge.rw_anyplans_k15_texts_of_plans.prog w) rfl (by decide) (by kernel_rfl) ⟨rfl, by decide, by decide⟩ ?F (fun _ _ _ _ _ z => ?_)
    · intro w mg fa h Y Gm hmg0
      obtain ⟨K, KX, c⟩ := Y
      have hmg : mg ("law" : PySem.Str) = some (.ref fa) := by
        have e : (HandSHeadRun.topDef (OpenLaw.row PySem.Challenge.rw_anyplans_k15_texts_of_plans).prog 40).name = ("law" : PySem.Str) := by kernel_rfl
        rw [← e]
        exact hmg0
      exact ⟨K, KX, K15.law_at hv KX Gm c hmg⟩
    · obtain ⟨_, _, _, _, _, _, _, _, _, _, _, _, q⟩ := z
      exact q
end
open PySem PySem.W PyProof.Rows
set_option maxHeartbeats 0 in
theorem PySem.Challenge.cw_anyplans_k15_texts_of_plans_holds : PySem.Challenge.rw_anyplans_k15_texts_of_plans.Holds := by
  exact K15.holds_of K15.pure_law
