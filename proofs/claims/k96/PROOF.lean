import PyProof.Rows.All
import Wide.All
import OpenK.AllK
import Wide.FinOn
import HandS.ForMost
import HandS.ForExc
import HandS.ExcInit
import HandS.ExcField
import HandS.ExcIs
import HandS.IsInst
import HandS.Lambda
import HandS.Nested
import HandS.EndTab
import HandS.Wide
import KE.KExcIs
import PyProof.ReprRoads
import HandS.RevTup
import KE.KDictZip
import KE.IntTextLaws
import HandS.Walk
import KE.KIntText
import HandS.Style
import PySem.Challenge.RW_secondvoice_k96_whole_first_wrong_words
set_option Elab.async false
set_option linter.all false
set_option maxRecDepth 100000
set_option maxHeartbeats 4000000
/-! Part A: lambdas as values: their objects told in the abstract heap, the cells that they captured frozen while others run. -/
namespace SV
open PySem PySem.Spec PyProof.Rows L2 LamX NdefX

/-! ### frozen cells -/
/-- a cell that stands as the object ob while it is so -/
def cellZ (ob : Obj) : HO := .frz ob (.own 0)
/-- the addresses of some cells -/
def CS (cl : List (Str × Addr)) (b : Addr) : Prop := ∃ y, cl.lookup y = some b
open Classical in
/-- these untold -/
noncomputable def hideC (C : Addr → Prop) (H : Hp) : Hp := fun b => if C b then none else H b
open Classical in
/-- these told as in G -/
noncomputable def restC (C : Addr → Prop) (G H : Hp) : Hp := fun b => if C b then G b else H b
theorem hideC_in {C : Addr → Prop} {H : Hp} {b : Addr} (h : C b) : hideC C H b = none := if_pos h
theorem hideC_out {C : Addr → Prop} {H : Hp} {b : Addr} (h : ¬ C b) : hideC C H b = H b := if_neg h
theorem restC_in {C : Addr → Prop} {G H : Hp} {b : Addr} (h : C b) : restC C G H b = G b := if_pos h
theorem restC_out {C : Addr → Prop} {G H : Hp} {b : Addr} (h : ¬ C b) : restC C G H b = H b := if_neg h
/-- G tells each cell of C, frozen -/
def Frozen (C : Addr → Prop) (G : Hp) : Prop := ∀ b, C b → ∃ ob v, G b = some (cellZ ob) ∧ ob.data = .cell v

section
variable {P : Program} {w : World} {C : Addr → Prop} {G H H' : Hp} {h h' B : Heap} {fs : List Addr}
theorem frozen_at (fz : Frozen C G) (hok : HOk P w G h) {b : Addr} (hb : C b) : ∃ ob v, G b = some (cellZ ob) ∧ ob.data = .cell v ∧ h.get? b = some ob := by
  obtain ⟨ob, v, e, d⟩ := fz b hb
  exact ⟨ob, v, e, d, (hok b _ e).1⟩
theorem frozen_no (fz : Frozen C G) {b : Addr} {o : HO} (e : G b = some o) (n : ∀ ob, o ≠ cellZ ob) : ¬ C b := fun hb => by
  obtain ⟨ob, v, e2, _⟩ := fz b hb
  rw [e] at e2
  exact n ob (Option.some.inj e2)
theorem own_cellZ {x : Addr} (ob : Obj) : HO.own x ≠ cellZ ob := fun z => by unfold cellZ at z; cases z
theorem tup_cellZ {xs : List V} (ob : Obj) : HO.tup xs ≠ cellZ ob := fun z => by unfold cellZ at z; cases z
theorem tbl_cellZ {ps : Array Value} (ob : Obj) : HO.tbl ps ≠ cellZ ob := fun z => by unfold cellZ at z; cases z
/-- what is told of the others leans on none of them -/
theorem hok_hide (fz : Frozen C G) (hok : HOk P w G h) : HOk P w (hideC C G) h := fun b o e => by
  have hb : ¬ C b := fun z => by rw [hideC_in z] at e; cases e
  rw [hideC_out hb] at e
  exact (hok b o e).stay (fun _ _ _ q => q) (fun c q => (hideC_out (frozen_no fz q own_cellZ)).trans q) fun c xs q => (hideC_out (frozen_no fz q tup_cellZ)).trans q
/-- behind what ran with them untold: they are told again -/
theorem un_rest (fz : Frozen C G) (hok : HOk P w G h) (nf : ∀ b ∈ fs, ¬ C b) (un : Un fs [] (hideC C G) H' h h') : Un fs [] G (restC C G H') h h' where
  keep := fun b o e n hf hx => un.keep b o e (by
    by_cases hb : C b
    · exact hideC_in hb
    · rw [hideC_out hb]; exact n) hf hx
  slot := fun b o e n hf hx => un.slot b o e (by rw [hideC_out (nf b hf)]; exact n) hf hx
  free := fun b o e n hx => by
    by_cases hb : C b
    · rw [restC_in hb]; exact n
    · rw [restC_out hb]; exact un.free b o e (by rw [hideC_out hb]; exact n) hx
  there := un.there
  tups := fun b xs e => by
    have hb := frozen_no fz e tup_cellZ
    rw [restC_out hb]; exact un.tups b xs (by rw [hideC_out hb]; exact e)
  frzs := fun b o u e => by
    by_cases hb : C b
    · rw [restC_in hb]; exact e
    · rw [restC_out hb]; exact un.frzs b o u (by rw [hideC_out hb]; exact e)
  tbls := fun b ps e => by
    have hb := frozen_no fz e tbl_cellZ
    rw [restC_out hb]; exact un.tbls b ps (by rw [hideC_out hb]; exact e)
theorem hok_rest (fz : Frozen C G) (hcell : ∀ b, C b → H' b = none) (hk : ∀ b ob, C b → G b = some (cellZ ob) → B.get? b = some ob) (hok : HOk P w H' B) : HOk P w (restC C G H') B := fun b o e => by
  by_cases hb : C b
  · rw [restC_in hb] at e
    obtain ⟨ob, v, e2, _⟩ := fz b hb
    rw [e] at e2
    cases e2
    exact ⟨hk b ob hb e, ob, hk b ob hb e⟩
  · rw [restC_out hb] at e
    exact (hok b o e).stay (fun _ _ _ q => q) (fun c q => (restC_out (fun z => by rw [hcell c z] at q; cases q)).trans q) fun c xs q => (restC_out (fun z => by rw [hcell c z] at q; cases q)).trans q
end
section
variable {P : Program} {w : World} {C : Addr → Prop} {G H' : Hp} {s s' : Shared} {outer : List Env} {Q : VK} {E : XK} {u e : Value}
theorem ce_rest (fz : Frozen C G) (hok : HOk P w G s.heap) (nf : ∀ b ∈ frs outer, ¬ C b) (x : CE outer P w (hideC C G) s (fun v H' => Q v (restC C G H')) u s') : CE outer P w G s Q u s' := by
  obtain ⟨v, H', os, bare, un, hok', rv, q⟩ := x
  refine ⟨v, restC C G H', os, bare, un_rest fz hok nf un, hok_rest fz (fun b hb => ?_) (fun b ob hb e => ?_) hok', rv, q⟩
  · obtain ⟨ob, _, _, _, hg⟩ := frozen_at fz hok hb
    exact un.free b ob hg (hideC_in hb) (by simp)
  · exact un.keep b ob (hok b _ e).1 (hideC_in hb) (fun z => nf b z hb) (by simp)
/-- what leaves as an exception may be told so too -/
def Hides (P : Program) (w : World) (CX : CXT) : Prop := ∀ (C : Addr → Prop) (G : Hp) (s : Shared) (outer : List Env) (E : XK) (e : Value) (s' : Shared), Frozen C G → HOk P w G s.heap → (∀ b ∈ frs outer, ¬ C b) →
  CX outer (hideC C G) s (fun cls d H' => (∀ b, C b → H' b = none) → E cls d (restC C G H')) e s' → CX outer G s E e s'
theorem hides0 {P : Program} {w : World} : Hides P w CX0 := fun _ _ _ _ _ _ _ _ _ _ z => z.elim
theorem hidesX {P : Program} {w : World} : Hides P w (L2.CX P w) := fun C G s outer E e s' fz hok nf x => by
  obtain ⟨a, B, H', cls, d, rfl, fl, hokB, ub, na, os, bare, q⟩ := x
  have kp : ∀ b ob, C b → G b = some (cellZ ob) → B.get? b = some ob := fun b ob hb e => ub.keep b ob (hok b _ e).1 (hideC_in hb) fun z => nf b z hb
  have hcell : ∀ b, C b → H' b = none := fun b hb => by
    obtain ⟨ob, _, _, _, hg⟩ := frozen_at fz hok hb
    exact ub.free b ob hg (hideC_in hb)
  have nca : ¬ C a := fun hb => by
    obtain ⟨ob, _, e1, _, _⟩ := frozen_at fz hok hb
    have z := kp a ob hb e1
    rw [fl.2.1] at z
    cases z
  refine ⟨a, B, restC C G H', cls, d, rfl, fl, hok_rest fz hcell kp hokB, ⟨fun b o e n hf => ?_, ub.slot, fun b o e n => ?_, ub.there, fun b xs e => ?_, fun b o xs e => ?_, fun b ps e => ?_⟩, ?_, os, bare, q hcell⟩
  · refine ub.keep b o e ?_ hf
    by_cases hb : C b
    · exact hideC_in hb
    · rw [hideC_out hb]; exact n
  · by_cases hb : C b
    · rw [restC_in hb]; exact n
    · rw [restC_out hb]; exact ub.free b o e (by rw [hideC_out hb]; exact n)
  · have hb := frozen_no fz e tup_cellZ
    rw [restC_out hb]; exact ub.tups b xs (by rw [hideC_out hb]; exact e)
  · by_cases hb : C b
    · rw [restC_in hb]; exact e
    · rw [restC_out hb]; exact ub.frzs b o xs (by rw [hideC_out hb]; exact e)
  · have hb := frozen_no fz e tbl_cellZ
    rw [restC_out hb]; exact ub.tbls b ps (by rw [hideC_out hb]; exact e)
  · rw [restC_out nca]; exact na
end

/-! ### a lambda's object -/
structure LF where
  qual : Str
  params : Arguments
  body : Expr
  scope : Scope
  cl : List (Str × Addr)
  c : Addr
abbrev LF.nf (F : LF) : NF := ⟨"<lambda>", F.qual, F.params, [], F.scope, F.cl, F.c⟩
abbrev LF.fd (F : LF) (pm ctv : Value) : FuncData := PySem.W.kla_fn "<lambda>" F.qual F.params F.body F.scope F.cl pm (.ref F.c) ctv
/-- the object at f is the lambda F -/
def LamO (f : Addr) (F : LF) : HO := .ext fun h => ∃ pm ctv : Value, h.get? f = some (PySem.W.kla_obj "<lambda>" F.qual F.params F.body F.scope F.cl pm F.c ctv)
theorem lamO_at {P : Program} {w : World} {H : Hp} {h : Heap} {f : Addr} {F : LF} (hok : HOk P w H h) (e : H f = some (LamO f F)) :
    ∃ pm ctv : Value, h.get? f = some (PySem.W.kla_obj "<lambda>" F.qual F.params F.body F.scope F.cl pm F.c ctv) := (hok f _ e).1
theorem lam_track {X : Cx} {pins : List (Addr × Obj)} {σ : L2.St} {H : Hp} {s : Shared} {F : LF} {tk : Nat} {pm ctv : Value} (I : Inv X pins σ H s) :
    Inv X pins σ (upd H s.heap.objs.size (LamO s.heap.objs.size F)) { s with heap := s.heap.push (PySem.W.kla_obj "<lambda>" F.qual F.params F.body F.scope F.cl pm F.c ctv), toks := tk } :=
  I.laid (a := s.heap.objs.size) (fun b u e => Heap.get?_push_of_some _ e) (Nat.le_refl _)
    ⟨⟨pm, ctv, Heap.get?_push_size _ rfl⟩, ⟨_, Heap.get?_push_size _ rfl⟩, fun h1 h2 ⟨p, q, z⟩ st => ⟨p, q, st _ z⟩⟩
/-- the words of a lambda that a frame makes -/
abbrev mkLF (X : Cx) (params : Arguments) (body : Expr) (scope : Scope) (c' : Addr) : LF := ⟨X.env.qual ++ "<lambda>", params, body, scope, cloFrom X.env.cells scope.names [], c'⟩
/-- lambda ..: body, as a value: its object is new; but for tables all stays -/
def tLamE (T : List (Addr × Str)) (X : Cx) (params : Arguments) (body : Expr) (scope : Scope) : TE := fun _ H Q => Tabs T H ∧
  ∀ (f c' : Addr) (H1 : Hp), ExtN H H1 → Tabs T H1 → H f = none → H1 f = some (LamO f (mkLF X params body scope c')) → H1 c' = some (CodeO c' (X.env.qual ++ "<lambda>")) → Q (.ref f) H1
theorem pe_lam {X : Cx} {T : List (Addr × Str)} {c P : Addr} {params : Arguments} {body : Expr} {scope : Scope} {pos : Pos} (TB : TabB X.base X.mg c P) (hcode : X.env.code = .ref c) (hm : (P, X.env.qual ++ "<lambda>") ∈ T)
    (hu : ∀ p ∈ T, p.1 = P → p.2 = X.env.qual ++ "<lambda>") (hfree : ∀ y ∈ scope.names, y.2 = .free → X.env.scope.names.lookup y.1 = some .cell ∨ X.env.scope.names.lookup y.1 = some .free) (hdef : defaultsOf params X.env = ([], []) := by rfl) :
    PE X (.Lambda params body scope pos) (tLamE T X params body scope) := by
  refine ⟨fun pins s σ H Q I hh => ?_⟩
  obtain ⟨hT, hq⟩ := hh
  have hfr : ∀ y ∈ scope.names, y.2 = .free → ∃ c, X.env.cells.lookup y.1 = some c := fun y hy e => (hfree y hy e).elim (fun z => I.ok.has _ (.inl z)) fun z => I.ok.has _ (.inr z)
  obtain ⟨ps, hP, ht, ha⟩ := (show TabS H P (X.env.qual ++ "<lambda>") from hT _ hm)
  have bP := TB.bm.keeps I.bk
  have hP2 : s.heap.get? P = some { cls := .none, data := .fields ps } := I.hok P _ hP
  have glob := I.mod.glob.keeps I.bk
  have cod := TB.code.keeps I.bk
  refine PySem.W.kla_eval hdef ?_
  cases hc : codeAmong pos ps.toList with
  | some cv =>
    obtain ⟨c', e, hco⟩ := ha pos cv hc
    subst e
    refine PySem.W.kla_makeFunctionHit (mg := X.mg) (closure_ok hfr) I.ok.glob glob hcode cod hP2 ht hc bP fun ctv h1 tk hx hsz => ?_
    have I1 : Inv X pins σ H { s with heap := h1, toks := tk } := I.kept hx
    have n1 : H h1.objs.size = none := I1.hok.fresh (Nat.le_refl _)
    have I2 := lam_track (F := mkLF X params body scope c') (tk := tk) (pm := (X.mg "__name__").getD .none) (ctv := ctv) I1
    exact ⟨.ref h1.objs.size, _, I2, rfl, hq h1.objs.size c' _ (ExtN.of fun b o e => (upd_ne (ne_of_none e n1)).trans e) (hT.ext fun b o e => (upd_ne (ne_of_none e n1)).trans e) n1 upd_same ((upd_ne (ne_of_none hco n1)).trans hco)⟩
  | none =>
    refine PySem.W.kla_makeFunction (mg := X.mg) (closure_ok hfr) I.ok.glob glob hcode cod hP2 ht hc TB.gP bP fun c' ctv h1 tk hx hge hlt hrec htb => ?_
    obtain ⟨c2, oc, vs, t, e2, hoc, hd, hv⟩ := hrec
    cases e2
    have nC : H c' = none := I.hok.fresh hge
    have I1 := inv_table (q := X.env.qual ++ "<lambda>") (t' := tk) (more := #[rawInt pos.line, rawInt pos.col, .ref c']) (h' := h1) I hP hx htb hge ⟨oc, vs, t, hoc, hd, hv⟩
    have hE : ExtN H (upd (upd H P (.tbl (ps ++ #[rawInt pos.line, rawInt pos.col, .ref c']))) c' (CodeO c' (X.env.qual ++ "<lambda>"))) := fun b o e n => by
      rw [upd_ne (ne_of_none e nC), upd_ne (fun z => n ps (Option.some.inj (e.symm.trans (by rw [z]; exact hP))))]
      exact e
    have eL : (ps ++ #[rawInt pos.line, rawInt pos.col, .ref c']).toList = ps.toList ++ [rawInt pos.line, rawInt pos.col, .ref c'] := by simp
    have T1 : Tabs T (upd (upd H P (.tbl (ps ++ #[rawInt pos.line, rawInt pos.col, .ref c']))) c' (CodeO c' (X.env.qual ++ "<lambda>"))) := fun p hp => by
      by_cases hb : p.1 = P
      · rw [hu p hp hb, hb]
        refine ⟨_, by rw [upd_ne (ne_of_none hP nC), upd_same], by rw [eL]; exact PySem.TriplesOk_snoc _ _ _ _ ht, fun p2 cv hcv => ?_⟩
        rw [eL] at hcv
        rcases among_app _ ht hcv with z | z
        · obtain ⟨c0, e1, e3⟩ := ha p2 cv z
          exact ⟨c0, e1, hE _ _ e3 codeO_ne⟩
        · exact ⟨c', z, upd_same⟩
      · obtain ⟨ps2, a1, a2, a3⟩ := hT p hp
        refine ⟨ps2, by rw [upd_ne (ne_of_none a1 nC), upd_ne hb]; exact a1, a2, fun p2 cv hcv => ?_⟩
        obtain ⟨c0, e1, e3⟩ := a3 p2 cv hcv
        exact ⟨c0, e1, hE _ _ e3 codeO_ne⟩
    have n1 := I1.hok.fresh (Nat.le_refl _)
    have n0 : H h1.objs.size = none := I.hok.fresh (Nat.le_trans hge (Nat.le_of_lt hlt))
    have I2 := lam_track (F := mkLF X params body scope c') (tk := tk) (pm := (X.mg "__name__").getD .none) (ctv := ctv) I1
    exact ⟨.ref h1.objs.size, _, I2, rfl, hq h1.objs.size c' _ (fun b o e n => (upd_ne (ne_of_none e n0)).trans (hE b o e n)) (T1.ext fun b o e => (upd_ne (ne_of_none e n1)).trans e) n0 upd_same ((upd_ne (Nat.ne_of_lt hlt)).trans upd_same)⟩

/-! ### what a lambda promises -/
/-- the captured names' values: each in its frozen cell -/
structure CellsZ (cl : List (Str × Addr)) (fr : List Str) (ws : List (Option V)) (H : Hp) : Prop where
  len : ws.length = fr.length
  inj : ∀ x y c, cl.lookup x = some c → cl.lookup y = some c → x = y
  all : Frozen (CS cl) H
  has : ∀ (i : Nat) (y : Str), fr[i]? = some y → ∃ c, cl.lookup y = some c ∧ ∀ v, ws[i]? = some (some v) → ∃ ob u, H c = some (cellZ ob) ∧ ob.data = .cell (some u) ∧ RelV v u
structure LOk (P : Program) (w : World) (K : PySem.W.Frag) (mg : Str → Option Value) (base : Heap) (CX : CXT) (k : Nat) (f : Addr) (F : LF) (n : Nat) (sp : Sp) : Prop where
  len : ∀ vs H Q E, sp vs H Q E → vs.length = n
  run : ∀ (A : Around) (outer : List Env) (s : Shared) (H : Hp) (us : List Value) (vs : List V) (Q : VK) (E : XK), Room k A → Env0 P w K mg base A outer s H → H f = some (LamO f F) → H F.c = some (CodeO F.c F.qual) →
    Vals vs us → sp vs H Q E → codeAny (model P w) A (.call (.ref f) ⟨us, []⟩) (CR CX outer P w H s Q E) s
section
variable {CX : CXT} {P : Program} {w : World} {K : PySem.W.Frag} {mg : Str → Option Value} {base : Heap} {N ps fr : List Str} {F : LF} {f : Addr} {k j : Nat} {sp sp' : Sp}
theorem LOk.mono {n : Nat} (o : LOk P w K mg base CX j f F n sp) (h : j ≤ k) : LOk P w K mg base CX k f F n sp := ⟨o.len, fun A outer s H us vs Q E hr => o.run A outer s H us vs Q E (hr.mono h)⟩
/-- THE RULE: a lambda by its body. ws: what its captured names hold -/
theorem lok_of (hcx : Hides P w CX) (S : NScope N ps fr F.scope) (hb : ∀ (pm ctv : Value) (us : List Value), us.length = ps.length → bindArgs (F.fd pm ctv) ⟨us, []⟩ = pure (ps.zip us)) (len : ∀ vs H Q E, sp vs H Q E → vs.length = ps.length)
    (hbody : ∀ (A : Around) (outer : List Env) (s : Shared) (H : Hp) (vs : List V) (Q : VK) (E : XK), Room k (A.deeper (envF F.nf f s.heap.objs.size)) → H f = some (LamO f F) → H F.c = some (CodeO F.c F.qual) → sp vs H Q E →
      ∃ ws t, CellsZ F.cl fr ws H ∧ PE (ncx CX P w K mg base N F.nf f A outer s (hideC (CS F.cl) H) (fun cls d H' => (∀ b, CS F.cl b → H' b = none) → E cls d (restC (CS F.cl) H H'))) F.body t ∧
        t (startF N vs ws) (hideC (CS F.cl) H) (fun v H' => (∀ b, CS F.cl b → H' b = none) → Q v (restC (CS F.cl) H H'))) :
    LOk P w K mg base CX (k + 1) f F ps.length sp := by
  refine ⟨len, fun A outer s H us vs Q E hr e0 hf hc r hsp => ?_⟩
  have hl := len _ _ _ _ hsp
  have lim : s.heap.NoLimit := e0.mod.nolimit.keeps fun b o e => (e0.bs b o e).1
  obtain ⟨pm, ctv, ho⟩ := lamO_at e0.hok hf
  refine PySem.W.kla_callFunE hr.depth ho rfl S.co S.gen rfl (codeO_at e0.hok hc) ?_
  rw [hb pm ctv us (by rw [← r.length]; exact hl)]
  refine wpAny_pure (wpAny_newFunctionEnv S.nocell (fun ⟨n, _⟩ hy => S.par n (List.of_mem_zip hy).1) (fun h₁ hns hsb => ⟨lim.fresh _ hsb, ?_⟩) S.kind)
  show codeAny _ _ (.expr F.body (envF F.nf f s.heap.objs.size)) _ _
  have kp : ∀ b o, s.heap.get? b = some o → h₁.get? b = some o := fun b o e => hsb.extBut b o (Nat.ne_of_lt (Heap.lt_size e)) (Heap.get?_push_of_some _ e)
  obtain ⟨ws, t, cz, ht, hq⟩ := hbody A outer s H vs Q E (hr.deeper _) hf hc hsp
  have nf : ∀ b ∈ frs outer, ¬ CS F.cl b := fun b hb z => by
    obtain ⟨ob, v, e, _⟩ := cz.all b z
    rw [e0.frf b hb] at e
    cases e
  have e1 : Env0 P w K mg base A outer s (hideC (CS F.cl) H) := ⟨e0.frames, e0.mod, fun b o e => ⟨(e0.bs b o e).1, by
    by_cases hb : CS F.cl b
    · exact hideC_in hb
    · rw [hideC_out hb]; exact (e0.bs b o e).2⟩, e0.bsz, e0.funs, fun b hb => by rw [hideC_out (nf b hb)]; exact e0.frf b hb, hok_hide cz.all e0.hok, e0.bare⟩
  have C1 : CellsAt F.cl fr ws s.heap (hideC (CS F.cl) H) := ⟨cz.len, fun y c e => by
      obtain ⟨ob, v, e1, d, g⟩ := frozen_at cz.all e0.hok (b := c) ⟨y, e⟩
      exact ⟨hideC_in ⟨y, e⟩, v, ob, g, d⟩, cz.inj, fun i y e => by
      obtain ⟨c, e1, hv⟩ := cz.has i y e
      refine ⟨c, e1, fun v ev => ?_⟩
      obtain ⟨ob, u, e2, d, rv⟩ := hv v ev
      exact ⟨u, rv, ob, (e0.hok c _ e2).1, d⟩⟩
  have I : Inv (ncx CX P w K mg base N F.nf f A outer s (hideC (CS F.cl) H) (fun cls d H' => (∀ b, CS F.cl b → H' b = none) → E cls d (restC (CS F.cl) H H'))) [] (startF N vs ws) (hideC (CS F.cl) H) { s with heap := h₁, toks := s.toks + (ps.zip us).length } := inv_startN S hr.hd e1 hl r C1 hns kp
  refine PySem.W.kla_codeExpr (wpAny_mono (ht.run [] _ _ _ _ I hq) (fun u s' hh => ?_) fun e s' hh => ?_)
  · obtain ⟨v, H', J, rv, q⟩ := hh
    refine ce_rest (P := P) (w := w) (Q := Q) cz.all e0.hok nf ⟨v, H', J.os, J.bare, J.base, J.hok, rv, q fun b hb => ?_⟩
    obtain ⟨ob, _, _, _, g⟩ := frozen_at cz.all e0.hok hb
    exact J.base.free b ob g (hideC_in hb) (fun z => nomatch (show b ∈ ([] : List Addr) from z))
  · exact wpAny_mono hh (fun _ s2 z => hcx _ _ _ _ _ _ _ cz.all e0.hok nf z) fun e2 s2 z => hcx _ _ _ _ _ _ _ cz.all e0.hok nf z
end

/-! ### a local name that holds a lambda is called -/
/-- f(..), f the name at slot i -/
def tCallV (i : Nat) (Y : Hp → Addr → LF → Sp → Prop) (E : XK) (t : TA) : TE := fun σ H Q => ∃ f F sp, σ[i]? = some (some (.ref f)) ∧ H f = some (LamO f F) ∧
  t σ H fun vs H1 => Y H1 f F sp ∧ H1 f = some (LamO f F) ∧ H1 F.c = some (CodeO F.c F.qual) ∧ sp vs H1 Q E
theorem lam_isFn {X : Cx} {pins : List (Addr × Obj)} {σ : L2.St} {H : Hp} {s : Shared} {f : Addr} {F : LF} (I : Inv X pins σ H s) (e : H f = some (LamO f F)) : PySem.W.FnAt f s.heap := by
  obtain ⟨pm, ctv, ho⟩ := lamO_at I.hok e
  exact ⟨_, _, _, _, ho⟩
section
variable {X : Cx} {CX : CXT} {i j k : Nat} {x : Str} {Y : Hp → Addr → LF → Sp → Prop} {E : XK} {t : TA} {e : Expr} {es : List Expr} {p pos : Pos}
theorem run_lam {pins : List (Addr × Obj)} {σ : L2.St} {H : Hp} {s : Shared} {Q : VK} {f : Addr} {F : LF} {n : Nat} {sp : Sp} {us : List Value} {vs : List V} (L : LOk X.prog X.w X.K X.mg X.base CX k f F n sp) (hr : Room j X.A) (hk : k ≤ j) (hx : Passes CX X E)
    (I : Inv X pins σ H s) (hf : H f = some (LamO f F)) (hc : H F.c = some (CodeO F.c F.qual)) (r : Vals vs us) (q : sp vs H Q E) : wpAny (model X.prog X.w) X.A (call (.ref f) us) (EP X pins σ Q) X.xe s := by
  refine wpAny_call (codeAny_mono (L.run X.A X.stack s H us vs Q E (hr.mono hk) I.env0 hf hc r q) fun r s' hq => ?_)
  cases r with
  | error er => exact hx pins σ H s er s' I hq
  | ok fl =>
    cases fl with
    | ret u => exact I.after hq
    | next => exact False.elim hq
    | brk => exact False.elim hq
    | cont => exact False.elim hq
theorem pe_callv (L : ∀ H f F sp, Y H f F sp → ∃ n, LOk X.prog X.w X.K X.mg X.base CX k f F n sp) (hr : Room j X.A) (hk : k ≤ j) (hx : Passes CX X E) (hN : X.N[i]? = some x) (hv : Vis X.env.scope x) (ha : PA X (e :: es) t)
    (hd : (x == ("__debug__" : Str)) = false := by decide) (hcd : (x == ("__classdict__" : Str)) = false := by decide)
    (he : starEach (e :: es) X.env = (false, eval e X.env) :: starEach es X.env := by rfl) (hpl : (backTo pos (starEach es X.env)).any (·.1) = false := by rfl) :
    PE X (.Call (.Name x p) (e :: es) [] pos) (tCallV i Y E t) := by
  refine ⟨fun pins s σ H Q I hh => ?_⟩
  obtain ⟨f, F, sp, hs, hf, ht⟩ := hh
  refine wpAny_Call_Name_kw (thn ((pe_var (pos := p) hN hv hd hcd).run pins s σ H (fun v H1 => v = .ref f ∧ H1 = H) I ⟨.ref f, hs, rfl, rfl⟩) fun u s1 ⟨v, H1, I1, r1, q1⟩ => ?_)
  obtain ⟨rfl, rfl⟩ := q1
  obtain rfl : u = Value.ref f := r1
  refine PySem.W.callWith_F (first := []) (lam_isFn I1 hf) (thn (ha.run pos pins s1 σ H1 _ I1 ht) fun us s2 ⟨vs, H2, I2, r, hY, h1, h2, q⟩ => ⟨lam_isFn I2 h1, ?_⟩) he hpl
  show wpAny _ _ (call (.ref f) us) _ _ _
  obtain ⟨n, L1⟩ := L _ _ _ _ hY
  exact run_lam L1 hr hk hx I2 h1 h2 r q
theorem pe_callv0 (L : ∀ H f F sp, Y H f F sp → ∃ n, LOk X.prog X.w X.K X.mg X.base CX k f F n sp) (hr : Room j X.A) (hk : k ≤ j) (hx : Passes CX X E) (hN : X.N[i]? = some x) (hv : Vis X.env.scope x)
    (hd : (x == ("__debug__" : Str)) = false := by decide) (hcd : (x == ("__classdict__" : Str)) = false := by decide) : PE X (.Call (.Name x p) [] [] pos) (tCallV i Y E tNil) := by
  refine ⟨fun pins s σ H Q I hh => ?_⟩
  obtain ⟨f, F, sp, hs, hf, hY, h1, h2, q⟩ := hh
  refine wpAny_Call_Name_kw (thn ((pe_var (pos := p) hN hv hd hcd).run pins s σ H (fun v H1 => v = .ref f ∧ H1 = H) I ⟨.ref f, hs, rfl, rfl⟩) fun u s1 ⟨v, H1, I1, r1, q1⟩ => ?_)
  obtain ⟨rfl, rfl⟩ := q1
  obtain rfl : u = Value.ref f := r1
  refine PySem.W.callWith_F0 (first := []) (lam_isFn I1 hf) ?_
  show wpAny _ _ (call (.ref f) []) _ _ _
  obtain ⟨n, L1⟩ := L _ _ _ _ hY
  exact run_lam L1 hr hk hx I1 h1 h2 .nil q
end
end SV
/-! Part B: calls with the own cells frozen; promises under a condition on what runs around; small rules. -/
namespace SV
open PySem PySem.Spec PyProof.Rows L2 LamX NdefX

/-! ### promises where what runs around is known -/
structure FnP (PA : Around → Prop) (P : Program) (w : World) (K : PySem.W.Frag) (mg : Str → Option Value) (base : Heap) (CX : CXT) (k : Nat) (f : Addr) (fd : FuncData) (ps : List Str) (sp : Sp) : Prop where
  len : ∀ vs H Q E, sp vs H Q E → vs.length = ps.length
  run : ∀ (A : Around) (outer : List Env) (s : Shared) (H : Hp) (args : Args) (us : List Value) (vs : List V) (Q : VK) (E : XK), PA A → Room k A → Env0 P w K mg base A outer s H → BindsTo s fd args (ps.zip us) → Vals vs us → sp vs H Q E →
    codeAny (model P w) A (.call (.ref f) args) (CR CX outer P w H s Q E) s
def anyA : Around → Prop := fun _ => True
/-- no repr is under way -/
def noG : Around → Prop := fun A => A.guards = some []
theorem noG_deeper {A : Around} {env : Env} (h : noG A) : noG (A.deeper env) := h
theorem FnP.ofOk {PA : Around → Prop} {P : Program} {w : World} {K : PySem.W.Frag} {mg : Str → Option Value} {base : Heap} {CX : CXT} {k : Nat} {f : Addr} {fd : FuncData} {ps : List Str} {sp : Sp} (F : FnOk P w K mg base CX k f fd ps sp) : FnP PA P w K mg base CX k f fd ps sp :=
  ⟨F.len, fun A outer s H args us vs Q E _ => F.run A outer s H args us vs Q E⟩
/-- a def of the text whose code object is the one at c -/
structure FunC (K : PySem.W.Frag) (x qual : Str) (st : Stmt) (f : Addr) (fd : FuncData) (c : Addr) : Prop where
  ex : ∃ (oc : Value) (od : Option Addr) (kV doc pm : Value) (an : Option Addr) (ct : Value) (osl : Array (Option Value)),
    fd = PySem.W.fnOf x qual (defArgs st) (defBody st) (defScope st) .none kV doc pm an (.ref c) ct ∧ K.lookup f = some ⟨oc, od, .func fd, osl⟩ ∧ PySem.W.codeIn K (.ref c) qual = true
  kp : PySem.W.keepIn K (.ref f) = true
theorem FunC.fun {K : PySem.W.Frag} {x qual : Str} {st : Stmt} {f : Addr} {fd : FuncData} {c : Addr} (F : FunC K x qual st f fd c) : Fun K x qual st f fd := by
  obtain ⟨⟨oc, od, kV, doc, pm, an, ct, osl, h1, h2, h3⟩, h4⟩ := F
  exact ⟨⟨oc, od, kV, doc, pm, an, .ref c, ct, osl, h1, h2, h3⟩, h4⟩
section
variable {PA : Around → Prop} {P : Program} {w : World} {K : PySem.W.Frag} {mg : Str → Option Value} {base : Heap}
/-- THE RULE for a def that makes lambdas, or one under PA -/
theorem FunC.ok {CX : CXT} {x qual : Str} {st : Stmt} {f c : Addr} {fd : FuncData} {N ps : List Str} {k : Nat} {sp : Sp} (F : FunC K x qual st f fd c) (S : FnScope N ps (defScope st)) (len : ∀ vs H Q E, sp vs H Q E → vs.length = ps.length)
    (hbody : ∀ (A : Around) (outer : List Env) (s : Shared) (H : Hp) (vs : List V) (Q : VK) (E : XK), PA A → Room k (A.deeper (envOfC qual (defScope st) s.heap.objs.size f (.ref c))) → sp vs H Q E →
      ∃ t, PSs (cxOf CX P w K mg base N qual (defScope st) f (.ref c) A outer s H E) (defBody st) t ∧ t { nx := fun _ H' => Q .non H', rt := Q } (L2.start N vs) H) : FnP PA P w K mg base CX (k + 1) f fd ps sp := by
  obtain ⟨oc, od, kV, doc, pm, an, ct, osl, rfl, lk, hcd⟩ := F.ex
  exact ⟨len, fun A outer s H args us vs Q E hA hr e0 hb r hsp => run_ofS lk hcd S hr e0 hb r (len _ _ _ _ hsp) fun hr' => hbody A outer s H vs Q E hA hr' hsp⟩
/-- as above, for a def of the text of any code object -/
theorem Fun.okP {CX : CXT} {x qual : Str} {st : Stmt} {f : Addr} {fd : FuncData} {N ps : List Str} {k : Nat} {sp : Sp} (F : Fun K x qual st f fd) (S : FnScope N ps (defScope st)) (len : ∀ vs H Q E, sp vs H Q E → vs.length = ps.length)
    (hbody : ∀ (cdv : Value) (A : Around) (outer : List Env) (s : Shared) (H : Hp) (vs : List V) (Q : VK) (E : XK), PA A → Room k (A.deeper (envOfC qual (defScope st) s.heap.objs.size f cdv)) → sp vs H Q E →
      ∃ t, PSs (cxOf CX P w K mg base N qual (defScope st) f cdv A outer s H E) (defBody st) t ∧ t { nx := fun _ H' => Q .non H', rt := Q } (L2.start N vs) H) : FnP PA P w K mg base CX (k + 1) f fd ps sp := by
  obtain ⟨oc, od, kV, doc, pm, an, cdv, ct, osl, rfl, lk, hcd⟩ := F.ex
  exact ⟨len, fun A outer s H args us vs Q E hA hr e0 hb r hsp => run_ofS lk hcd S hr e0 hb r (len _ _ _ _ hsp) fun hr' => hbody cdv A outer s H vs Q E hA hr' hsp⟩
end
theorem fnP_ok {P : Program} {w : World} {K : PySem.W.Frag} {mg : Str → Option Value} {base : Heap} {CX : CXT} {k : Nat} {f : Addr} {fd : FuncData} {ps : List Str} {sp : Sp} (F : FnP anyA P w K mg base CX k f fd ps sp) : FnOk P w K mg base CX k f fd ps sp :=
  ⟨F.len, fun A outer s H args us vs Q E => F.run A outer s H args us vs Q E trivial⟩

/-! ### the own cells frozen -/
/-- the frame's own cells, each told frozen in G, else as in H -/
structure FrzX (X : Cx) (σ : L2.St) (H G : Hp) : Prop where
  ok : X.Ok
  out : ∀ b, ¬ CS X.env.cells b → G b = H b
  non : ∀ b, CS X.env.cells b → H b = none
  fz : Frozen (CS X.env.cells) G
  val : ∀ (i : Nat) (y : Str) (v : V), X.N[i]? = some y → σ[i]? = some (some v) → X.env.kindOf y = some .cell ∨ X.env.kindOf y = some .free → ∃ c ob u, X.env.cells.lookup y = some c ∧ G c = some (cellZ ob) ∧ ob.data = .cell (some u) ∧ RelV v u
/-- what leaves as an exception while they were frozen -/
def Thaws (P : Program) (w : World) (CX : CXT) : Prop := ∀ (C : Addr → Prop) (H G : Hp) (s : Shared) (outer : List Env) (E : XK) (e : Value) (s' : Shared), (∀ b, ¬ C b → G b = H b) → (∀ b, C b → H b = none) → Frozen C G → HOk P w G s.heap → (∀ b ∈ frs outer, ¬ C b) →
  CX outer G s (fun cls d H' => E cls d (hideC C H')) e s' → CX outer H s E e s'
theorem thaws0 {P : Program} {w : World} : Thaws P w CX0 := fun _ _ _ _ _ _ _ _ _ _ _ _ _ z => z.elim
section
variable {P : Program} {w : World} {C : Addr → Prop} {G H H' : Hp} {h h' B : Heap} {fs : List Addr}
theorem frozen_frz (fz : Frozen C G) (k : ∀ b o u, G b = some (.frz o u) → H' b = some (.frz o u)) : Frozen C H' := fun b hb => by
  obtain ⟨ob, v, e, d⟩ := fz b hb
  exact ⟨ob, v, k b ob _ e, d⟩
theorem un_thaw (out : ∀ b, ¬ C b → G b = H b) (non : ∀ b, C b → H b = none) (fz : Frozen C G) (hok : HOk P w G h) (nf : ∀ b ∈ fs, ¬ C b) (un : Un fs [] G H' h h') (hok' : HOk P w H' h') : Un fs [] H (hideC C H') h h' where
  keep := fun b o e n hf hx => by
    by_cases hb : C b
    · obtain ⟨ob, v, e1, d, g⟩ := frozen_at fz hok hb
      rw [e] at g
      cases g
      exact (hok' b _ (un.frzs b _ _ e1)).1
    · exact un.keep b o e ((out b hb).trans n) hf hx
  slot := fun b o e n hf hx => un.slot b o e ((out b (nf b hf)).trans n) hf hx
  free := fun b o e n hx => by
    by_cases hb : C b
    · exact hideC_in hb
    · rw [hideC_out hb]; exact un.free b o e ((out b hb).trans n) hx
  there := un.there
  tups := fun b xs e => by
    have hb : ¬ C b := fun z => by rw [non b z] at e; cases e
    rw [hideC_out hb]; exact un.tups b xs ((out b hb).trans e)
  frzs := fun b o u e => by
    have hb : ¬ C b := fun z => by rw [non b z] at e; cases e
    rw [hideC_out hb]; exact un.frzs b o u ((out b hb).trans e)
  tbls := fun b ps e => by
    have hb : ¬ C b := fun z => by rw [non b z] at e; cases e
    rw [hideC_out hb]; exact un.tbls b ps ((out b hb).trans e)
end
theorem thawsX {P : Program} {w : World} : Thaws P w (L2.CX P w) := fun C H G s outer E e s' out non fz hok nf x => by
  obtain ⟨a, B, H', cls, d, rfl, fl, hokB, ub, na, os, bare, q⟩ := x
  refine ⟨a, B, hideC C H', cls, d, rfl, fl, hok_hide (frozen_frz fz fun b o u => ub.frzs b o u) hokB, ⟨fun b o e n hf => ?_, ub.slot, fun b o e n => ?_, ub.there, fun b xs e => ?_, fun b o xs e => ?_, fun b ps e => ?_⟩, ?_, os, bare, q⟩
  · by_cases hb : C b
    · obtain ⟨ob, v, e1, dd, g⟩ := frozen_at fz hok hb
      rw [e] at g
      cases g
      exact (hokB b _ (ub.frzs b _ _ e1)).1
    · exact ub.keep b o e ((out b hb).trans n) hf
  · by_cases hb : C b
    · exact hideC_in hb
    · rw [hideC_out hb]; exact ub.free b o e ((out b hb).trans n)
  · have hb : ¬ C b := fun z => by rw [non b z] at e; cases e
    rw [hideC_out hb]; exact ub.tups b xs ((out b hb).trans e)
  · have hb : ¬ C b := fun z => by rw [non b z] at e; cases e
    rw [hideC_out hb]; exact ub.frzs b o xs ((out b hb).trans e)
  · have hb : ¬ C b := fun z => by rw [non b z] at e; cases e
    rw [hideC_out hb]; exact ub.tbls b ps ((out b hb).trans e)
  · by_cases hb : C a
    · exact hideC_in hb
    · rw [hideC_out hb]; exact na
/-- f(.., ..), the own cells frozen while f runs -/
def tCallZ (X : Cx) (sp : Sp) (E : XK) (t : TA) : TE := fun σ H Q => t σ H fun vs H1 => ∀ G, FrzX X σ H1 G → sp vs G (fun v H' => Q v (hideC (CS X.env.cells) H')) (fun cls d H' => E cls d (hideC (CS X.env.cells) H'))
section
variable {X : Cx} {CX : CXT} {PA : Around → Prop} {k : Nat} {f : Addr} {fd : FuncData} {ps : List Str} {sp : Sp} {E : XK} {x : Str} {p pos : Pos} {e : Expr} {es : List Expr} {t : TA}
open Classical in
theorem frz_mk {pins : List (Addr × Obj)} {σ : L2.St} {H : Hp} {s : Shared} (I : Inv X pins σ H s) : ∃ G, FrzX X σ H G ∧ HOk X.prog X.w G s.heap := by
  have cell : ∀ b, CS X.env.cells b → ∃ ob v, s.heap.get? b = some ob ∧ ob.data = .cell v := fun b ⟨y, e⟩ => by
    obtain ⟨v, ob, h1, h2⟩ := I.cell y b e
    exact ⟨ob, v, h1, h2⟩
  have non : ∀ b, CS X.env.cells b → H b = none := fun b ⟨y, e⟩ => I.freeC y b e
  refine ⟨fun b => if CS X.env.cells b then (s.heap.get? b).map cellZ else H b, ⟨I.ok, fun b hb => if_neg hb, non, fun b hb => ?_, fun i y v h1 h2 h3 => ?_⟩, fun b o eo => ?_⟩
  · obtain ⟨ob, v, h1, h2⟩ := cell b hb
    exact ⟨ob, v, by rw [if_pos hb, h1]; rfl, h2⟩
  · obtain ⟨m, hn, hl⟩ := I.loc
    have hv : Vis X.env.scope y := by
      rcases h3 with z | z
      · exact .inr (.inl z)
      · exact .inr (.inr z)
    obtain ⟨u, ru, l⟩ := hl i y v h1 h2 hv
    rcases l with ⟨z, _⟩ | ⟨_, c, hc, ob, g, d⟩
    · rcases h3 with q | q <;> rw [z] at q <;> cases q
    · exact ⟨c, ob, u, hc, by rw [if_pos ⟨y, hc⟩, g]; rfl, d, ru⟩
  · by_cases hb : CS X.env.cells b
    · obtain ⟨ob, v, h1, h2⟩ := cell b hb
      have eo' : (if CS X.env.cells b then (s.heap.get? b).map cellZ else H b) = some o := eo
      rw [if_pos hb, h1] at eo'
      cases eo'
      exact ⟨h1, ob, h1⟩
    · have eo' : (if CS X.env.cells b then (s.heap.get? b).map cellZ else H b) = some o := eo
      rw [if_neg hb] at eo'
      exact (I.hok b o eo').stay (fun _ _ _ q => q) (fun c q => (if_neg (fun z => by rw [non c z] at q; cases q)).trans q) fun c xs q => (if_neg (fun z => by rw [non c z] at q; cases q)).trans q
theorem run_z {pins : List (Addr × Obj)} {σ : L2.St} {H : Hp} {s : Shared} {Q : VK} {us : List Value} {vs : List V} (hA : PA X.A) (F : FnP PA X.prog X.w X.K X.mg X.base CX k f fd ps sp) (hr : Room k X.A) (hb : Binds X.K fd ps []) (hx : Passes CX X E) (hth : Thaws X.prog X.w CX) (hfn : ∀ y, X.fn y = true)
    (I : Inv X pins σ H s) (r : Vals vs us) (h : ∀ G, FrzX X σ H G → sp vs G (fun v H' => Q v (hideC (CS X.env.cells) H')) (fun cls d H' => E cls d (hideC (CS X.env.cells) H'))) : wpAny (model X.prog X.w) X.A (call (.ref f) us) (EP X pins σ Q) X.xe s := by
  obtain ⟨G, fx, hok⟩ := frz_mk I
  have hq := h G fx
  have old : ∀ b, CS X.env.cells b → X.s_0.heap.objs.size ≤ b := fun b ⟨y, e⟩ => I.ok.cab y b (hfn y) e
  have nf : ∀ b ∈ frs X.stack, ¬ CS X.env.cells b := fun b hb z => by
    rcases List.mem_cons.mp (I.stkSub b hb) with e | hb'
    · obtain ⟨y, ey⟩ := z
      exact I.cne y b ey e
    · obtain ⟨_, o, ho, _⟩ := I.ok.funs.mem hb'
      exact Nat.lt_irrefl _ (Nat.lt_of_lt_of_le (Heap.lt_size ho) (old b z))
  have e0 := I.env0
  have eG : Env0 X.prog X.w X.K X.mg X.base X.A X.stack s G := ⟨e0.frames, e0.mod, fun b o e => ⟨(e0.bs b o e).1, (fx.out b fun z => Nat.lt_irrefl _ (Nat.lt_of_lt_of_le (Nat.lt_of_lt_of_le (Heap.lt_size e) I.ok.bsz) (old b z))).trans (e0.bs b o e).2⟩, e0.bsz, e0.funs, fun b hb => (fx.out b (nf b hb)).trans (e0.frf b hb), hok, e0.bare⟩
  have hl : (us ++ []).length = ps.length := by rw [List.append_nil, ← r.length]; exact F.len _ _ _ _ hq
  have hbd := hb s us I.kIn hl
  rw [List.append_nil] at hbd
  refine wpAny_call (codeAny_mono (F.run X.A X.stack s G ⟨us, []⟩ us vs _ _ hA hr eG hbd r hq) fun rr s' hh => ?_)
  cases rr with
  | error e => exact hx pins σ H s e s' I (hth _ H G s X.stack E e s' fx.out fx.non fx.fz hok nf hh)
  | ok fl =>
    cases fl with
    | next => exact False.elim hh
    | brk => exact False.elim hh
    | cont => exact False.elim hh
    | ret u =>
      obtain ⟨v, H', os, bare, un, hok', rv, q⟩ := hh
      exact ⟨v, _, I.call' (ch := []) os (un_thaw fx.out fx.non fx.fz hok nf un hok') (hok_hide (frozen_frz fx.fz fun b o u => un.frzs b o u) hok') bare (fun b z => absurd z (by simp)), rv, q⟩
theorem pe_callZ (hA : PA X.A) (F : FnP PA X.prog X.w X.K X.mg X.base CX k f fd ps sp) (hr : Room k X.A) (hg : Gl X x) (hm : X.mg x = some (.ref f)) (hk : PySem.W.keepIn X.K (.ref f) = true) (hb : Binds X.K fd ps []) (hx : Passes CX X E) (hth : Thaws X.prog X.w CX) (hfn : ∀ y, X.fn y = true) (ha : L2.PA X (e :: es) t)
    (hdb : (x == ("__debug__" : Str)) = false := by decide) (he : starEach (e :: es) X.env = (false, eval e X.env) :: starEach es X.env := by rfl) (hpl : (backTo pos (starEach es X.env)).any (·.1) = false := by rfl) :
    PE X (.Call (.Name x p) (e :: es) [] pos) (tCallZ X sp E t) := by
  refine ⟨fun pins s σ H Q I hh => ?_⟩
  refine wpAny_Call_Name_kw (ld_glob I hg hm ?_ hdb)
  exact PySem.W.callWith_K (h₀ := X.base) I.ok.mod.kin hk (thn (ha.run pos pins s σ H _ I hh) fun us s1 ⟨vs, H1, I1, r, q⟩ => ⟨I1.kIn, run_z hA F hr hb hx hth hfn I1 r q⟩) he hpl
end
/-- f(..) of a promise under PA -/
theorem pe_callP {X : Cx} {CX : CXT} {PA : Around → Prop} {k : Nat} {f : Addr} {fd : FuncData} {ps : List Str} {sp : Sp} {E : XK} {x : Str} {p pos : Pos} {e : Expr} {es : List Expr} {t : TA} (hA : PA X.A) (F : FnP PA X.prog X.w X.K X.mg X.base CX k f fd ps sp) (hr : Room k X.A) (hg : Gl X x) (hm : X.mg x = some (.ref f)) (hk : PySem.W.keepIn X.K (.ref f) = true)
    (hb : Binds X.K fd ps []) (hx : Passes CX X E) (ha : L2.PA X (e :: es) t) (hdb : (x == ("__debug__" : Str)) = false := by decide) (he : starEach (e :: es) X.env = (false, eval e X.env) :: starEach es X.env := by rfl) (hpl : (backTo pos (starEach es X.env)).any (·.1) = false := by rfl) :
    PE X (.Call (.Name x p) (e :: es) [] pos) (tCall sp [] E t) := by
  refine ⟨fun pins s σ H Q I hh => ?_⟩
  refine wpAny_Call_Name_kw (ld_glob I hg hm ?_ hdb)
  refine PySem.W.callWith_K (h₀ := X.base) I.ok.mod.kin hk (thn (ha.run pos pins s σ H _ I hh) fun us s1 ⟨vs, H1, I1, r, q⟩ => ⟨I1.kIn, ?_⟩) he hpl
  replace q : sp (vs ++ []) H1 Q E := q
  rw [List.append_nil] at q
  have hl : (us ++ []).length = ps.length := by rw [List.append_nil, ← r.length]; exact F.len _ _ _ _ q
  have hbd := hb s1 us I1.kIn hl
  rw [List.append_nil] at hbd
  refine wpAny_call (codeAny_mono (F.run X.A X.stack s1 H1 ⟨us, []⟩ us vs Q E hA hr I1.env0 hbd r q) fun rr s' hh => ?_)
  cases rr with
  | error er => exact hx pins σ H1 s1 er s' I1 hh
  | ok fl =>
    cases fl with
    | ret u => exact I1.after hh
    | next => exact False.elim hh
    | brk => exact False.elim hh
    | cont => exact False.elim hh

/-! ### small rules -/
section
variable {X : Cx}
/-- x is True, x is False: the right side a bool -/
theorem op_isB (b : Bool) : OpR X (compareOp .Is) (fun x y H Q => y = .bl b ∧ Q (.bl (decide (x = .bl b))) H) := by
  intro pins s σ H x y v u Q I rx ry h
  obtain ⟨rfl, q⟩ := h
  cases (show u = Value.bool b from ry)
  have fin : ∀ k, k = decide (x = .bl b) → EP X pins σ Q (.bool k) s := fun k e => ⟨.bl k, H, I, rfl, by rw [e]; exact q⟩
  cases x with
  | bl c =>
    cases (show v = Value.bool c from rx)
    by_cases e : c = b
    · subst e
      exact wpAny_is_self rfl (fin true (by simp))
    · exact wpAny_is_other rfl (fun z => e (Value.bool.inj z)) (fin false (by simp [e]))
  | non => cases (show v = Value.none from rx); exact wpAny_is_other rfl (fun z => by cases z) (fin false (by simp))
  | int i => obtain ⟨t, rfl⟩ := rx; exact wpAny_is_other rfl (fun z => by cases z) (fin false (by simp))
  | str i => obtain ⟨t, rfl⟩ := rx; exact wpAny_is_other rfl (fun z => by cases z) (fin false (by simp))
  | byt i => obtain ⟨t, rfl⟩ := rx; exact wpAny_is_other rfl (fun z => by cases z) (fin false (by simp))
  | flt i => obtain ⟨t, rfl⟩ := rx; exact wpAny_is_other rfl (fun z => by cases z) (fin false (by simp))
  | ref a => cases (show v = Value.ref a from rx); exact wpAny_is_other rfl (fun z => by cases z) (fin false (by simp))
  | ty n => cases (show v = Value.type n from rx); exact wpAny_is_other rfl (fun z => by cases z) (fin false (by simp))
/-- repr of plain data -/
theorem call_repr (hg : noG X.A) (hu : X.A.units + 70 < cLine) : CallR X (.builtin "repr") (fun xs H Q => ∃ v d, xs = [v] ∧ Dp X.K H v d ∧ d.showable = true ∧ d.hasDict = false ∧ d.depth ≤ 60 ∧ d.shown.length ≤ sizeLine ∧ Q (.str d.shown) H) := by
  intro pins s σ H xs us Q I r h
  obtain ⟨v, d, rfl, hd, hs, hn, hde, hl, q⟩ := h
  obtain ⟨u, rfl, ru⟩ := vals1 r
  obtain ⟨as, rd⟩ := Dp.reads I d v u hd ru
  cases hd with
  | non =>
    cases ru
    exact PySem.P.repr_of_none ⟨.str _, H, I.tok _, ⟨_, rfl⟩, by simpa only [PyData.shown] using q⟩
  | bl b =>
    cases ru
    exact PySem.P.repr_of_bool ⟨.str _, H, I.tok _, ⟨_, rfl⟩, by simpa only [PyData.shown] using q⟩
  | int i =>
    obtain ⟨t, rfl⟩ := ru
    exact PySem.P.repr_of_int (by simpa only [PyData.showable, decide_eq_true_eq] using hs) ⟨.str _, H, I.tok _, ⟨_, rfl⟩, by simpa only [PyData.shown] using q⟩
  | str z =>
    obtain ⟨t, rfl⟩ := ru
    exact PySem.P.repr_of_str ⟨.str _, H, I.tok _, ⟨_, rfl⟩, by simpa only [PyData.shown] using q⟩ (by simpa only [PyData.shown] using hl)
  | lst a b =>
    cases ru
    exact repr_of_reads' rd hs (PyData.noDict_hsm hn) hg (by omega) (fun _ _ e => e) (fun h' u tk hk => ⟨.str _, H, I.kept (t' := tk) hk, ⟨_, rfl⟩, q⟩) hl
  | tup a b =>
    cases ru
    exact repr_of_reads' rd hs (PyData.noDict_hsm hn) hg (by omega) (fun _ _ e => e) (fun h' u tk hk => ⟨.str _, H, I.kept (t' := tk) hk, ⟨_, rfl⟩, q⟩) hl
end
end SV
/-! Part C: an own base's __init__, isinstance of a caught exception with fields, tuple(zip(..)). -/
namespace SV
open PySem PySem.Spec PyProof.Rows L2 LamX NdefX

/-! ### B.__init__(self, ..), B an own class that has ValueError's -/
structure OwnB (K : PySem.W.Frag) (D : Addr) : Prop where
  hg : PySem.W.specialIn K (.ref D) "__getattribute__" = some (some (.builtin "type.__getattribute__"))
  hm : PySem.W.typeIn K (.ref D) = some (.type "type")
  hr : PySem.W.readsIn K D (.type "type") = true
  he : PySem.W.findCls K (.ref D) (.type "type") "__init__" = some (.val (.builtin "ValueError.__init__"))
theorem pe_ownInit {X : Cx} {x : Str} {D : Addr} {e : Expr} {es : List Expr} {ta : TA} {p1 p2 pos : Pos} {pl : Sem Bool} (T : OwnB X.K D) (hg : Gl X x) (hm : X.mg x = some (.ref D)) (ha : L2.PA X (e :: es) ta) (hdb : (x == ("__debug__" : Str)) = false := by decide)
    (hc : eval (.Call (.Attribute (.Name x p1) "__init__" p2) (e :: es) [] pos) X.env = (do
      let ov ← eval (.Name x p1) X.env
      standAt p2.atName
      let (f, first) ← holding [ov] (getMethod ov "__init__" pl)
      callWith pos f first (backTo pos (starEach (e :: es) X.env)) (backToKw pos (keywordEach [] X.env))) := by rfl)
    (he : starEach (e :: es) X.env = (false, eval e X.env) :: starEach es X.env := by rfl) (hpl : (backTo pos (starEach es X.env)).any (·.1) = false := by rfl) :
    PE X (.Call (.Attribute (.Name x p1) "__init__" p2) (e :: es) [] pos) (tVeI X.K ta) := by
  refine ⟨fun pins s σ H Q I hh => ?_⟩
  refine PySem.W.methodCall_KW (ld_glob I hg hm ?_ hdb) hc
  obtain ⟨m, fr⟩ := I.fr
  refine PySem.W.method_of_cls fr I.ok.mod.kin T.hg (PySem.W.cls_val fr I.ok.mod.kin T.hm T.hr T.he (by rfl) ?_)
  show wpAny _ _ (callWith pos (Value.builtin "ValueError.__init__") [] (backTo pos (starEach (e :: es) X.env)) []) _ _ _
  refine PyProof.Rows.callWith_method1 (thn (ha.run pos pins _ σ H _ (I.tok _) hh) fun us s1 ⟨vs, H1, I1, r1, a, C, ws, ev, hl, T, ea, q⟩ => ?_) he hpl
  subst ev
  cases r1 with
  | @cons _ u0 _ ur ra rw' =>
    obtain rfl : u0 = Value.ref a := ra
    have hlen : ur.length ≤ sizeLine := by
      rw [← Paired.length rw', sizeLine_eq]
      omega
    exact oinit_ok T I1 ea hlen fun s' J => ⟨.non, H1, J, rfl, q⟩

/-! ### isinstance of a caught exception that has fields -/
def rIsX (K : PySem.W.Frag) (D a : Addr) (d : Option Addr) : List V → Hp → VK → Prop := fun xs H Q => ∃ (c : V) (cv : Value) (b : Bool) (dd : Addr) (fs : List (Str × V)), xs = [.ref a, c] ∧ (∀ u, RelV c u → u = cv) ∧ PySem.W.kitOne K (.ref D) cv = some b ∧
  d = some dd ∧ H dd = some (.xd fs) ∧ Q (.bl b) H
theorem call_isX {X : Cx} {a D : Addr} {d : Option Addr} {oe : Obj} {pn : List (Addr × Obj)} (C : ExcC X.K D) (hz : Zc (.ref D) d oe) (hf : ∃ vs, oe.data = .fields vs) : CallR (X.suite a ((a, oe) :: pn)) (.builtin "isinstance") (rIsX X.K D a d) := by
  intro pins s σ H xs us Q I r h
  obtain ⟨c, cv, b, dd, fs, rfl, hcv, e, rfl, hd, q⟩ := h
  cases r with
  | cons rx rr =>
    cases rr with
    | cons rt rr =>
      cases rr
      cases rx
      have ec := hcv _ rt
      subst ec
      obtain ⟨hget, _⟩ := I.pin (a, oe) (List.mem_append.mpr (.inl List.mem_cons_self))
      obtain ⟨vs, hv⟩ := hf
      have hx : ObjOk X.prog X.w H s.heap dd (.xd fs) := I.hok dd _ hd
      obtain ⟨mA, hns, _⟩ := hx
      obtain ⟨od, ho, _⟩ := lookIn_ns hns
      have J : PySem.W.InstAt s.heap a oe D (some od) := ⟨hget, hz.1, by unfold PySem.W.notCls; rw [hv] <;> rfl, by rw [hz.2]; exact ho⟩
      obtain ⟨cd, hcd, _⟩ := PySem.W.any_some C.hd
      have hcl : (PySem.W.clsIn X.K D).isSome = true := by rw [hcd]; rfl
      exact PySem.W.kia_one (PySem.W.kitx_exc hcl C.hg C.hk C.hs C.ha C.hn C.ht C.hm) I.kIn J e (fun z => nomatch z) fun tk => ⟨.bl b, H, I.kept (t' := tk) fun _ _ z => z, rfl, q⟩

/-! ### several new objects told at once -/
theorem laidMany {X : Cx} {pins : List (Addr × Obj)} {σ : L2.St} {H H1 : Hp} {s : Shared} {h' : Heap} {t' : Nat} (I : Inv X pins σ H s) (k : ∀ b u, s.heap.get? b = some u → h'.get? b = some u)
    (hn : ∀ b o, H1 b = some o → H b = some o ∨ (s.heap.objs.size ≤ b ∧ ObjOk X.prog X.w H1 h' b o)) (ho : Same H H1) : Inv X pins σ H1 { s with heap := h', toks := t' } := by
  have old : ∀ b, b < s.heap.objs.size → H1 b = H b := fun b hb => by
    cases e : H b with
    | some o => exact ho b o e
    | none =>
      cases e1 : H1 b with
      | none => rfl
      | some o =>
        rcases hn b o e1 with z | ⟨z, _⟩
        · rw [e] at z; cases z
        · exact absurd (Nat.lt_of_lt_of_le hb z) (Nat.lt_irrefl _)
  refine I.un ⟨fun b o e _ _ _ => k b o e, fun b o e _ _ _ => ⟨o.slots, k b o e⟩, fun b o e n _ => by rw [old b (Heap.lt_size e)]; exact n, fun b o e _ => ⟨o, k b o e⟩, fun b xs e => ho b _ e, fun b o xs e => ho b _ e, fun b ps e => ⟨#[], by rw [ho b _ e]; simp⟩⟩ fun b o e => ?_
  rcases hn b o e with z | ⟨_, z⟩
  · exact (I.hok b o z).stay (fun c u _ q => k c u q) (fun c q => ho c _ q) fun c xs q => ho c _ q
  · exact z

/-! ### tuple(zip(xs, ys)) -/
namespace ZT
theorem nolen_zip : typeLookup (.type "zip") "__len__" = pure none := by rw [typeLookup_type, builtinLookup_eq_fast]; kernel_rfl
theorem nohint_zip : typeLookup (.type "zip") "__length_hint__" = pure none := by rw [typeLookup_type, builtinLookup_eq_fast]; kernel_rfl
open PySem.W
section
variable {prog : Program} {w : World} {A : Around} {E : Value → Shared → Prop} {R : Result → Shared → Prop} {s : Shared} {z TI TO i1 i2 l1 l2 S : Addr} {xs ys : Array Value}
/-- the zip and what it leans on, behind i turns -/
structure ZSt (h : Heap) (z TI TO i1 i2 l1 l2 : Addr) (xs ys : Array Value) (i : Nat) : Prop where
  pTI : IsPair h TI (.ref i1) (.ref i2)
  h1 : h.IsListIter i1 l1 i
  h2 : h.IsListIter i2 l2 i
  l1 : h.IsList l1 xs
  l2 : h.IsList l2 ys
  hz : (IsZip h z TI TO .none ∧ ∃ a b, IsPair h TO a b) ∨ ∃ T f oT, IsZipHeld h z TI TO T f ∧ h.get? T = some oT ∧ T ≠ z ∧ T ≠ i1 ∧ T ≠ i2 ∧ T ≠ S
theorem ZSt.keep {h h' : Heap} {i : Nat} (st : ZSt (S := S) h z TI TO i1 i2 l1 l2 xs ys i) (ns : S ∉ [z, TI, TO, i1, i2, l1, l2]) (k : ∀ b o, b ≠ S → h.get? b = some o → h'.get? b = some o) : ZSt (S := S) h' z TI TO i1 i2 l1 l2 xs ys i := by
  simp only [List.mem_cons, List.not_mem_nil, or_false, not_or] at ns
  obtain ⟨dz, dTI, dTO, di1, di2, dl1, dl2⟩ := ns
  refine ⟨k _ _ (Ne.symm dTI) st.pTI, st.h1.at fun o e => k _ o (Ne.symm di1) e, st.h2.at fun o e => k _ o (Ne.symm di2) e, st.l1.at fun o e => k _ o (Ne.symm dl1) e, st.l2.at fun o e => k _ o (Ne.symm dl2) e, ?_⟩
  rcases st.hz with ⟨hz, a, b, hTO⟩ | ⟨T, f, oT, hz, hT, r1, r2, r3, r4⟩
  · exact .inl ⟨k _ _ (Ne.symm dz) hz, a, b, k _ _ (Ne.symm dTO) hTO⟩
  · exact .inr ⟨T, f, oT, k _ _ (Ne.symm dz) hz, k _ _ r4 hT, r1, r2, r3, r4⟩
/-- what the turns have made -/
structure Made (n0 : Nat) (S : Addr) (h : Heap) (xs ys : Array Value) (Ts : List Addr) : Prop where
  lo : ∀ T ∈ Ts, n0 ≤ T ∧ T < h.objs.size ∧ T ≠ S
  nd : Ts.Nodup
  pr : ∀ (j : Nat) (T : Addr), Ts[j]? = some T → ∃ x y, xs[j]? = some x ∧ ys[j]? = some y ∧ IsPair h T x y
theorem loop (D : ZipApart z TI TO i1 i2 l1 l2) (hh : A.handled = none) (ns : S ∉ [z, TI, TO, i1, i2, l1, l2]) {n0 n : Nat} (hn : n = min xs.size ys.size) (hsz : n ≤ sizeLine) (res : Value) (hlo : ∀ c ∈ [z, TO, i1, i2], c < n0) :
    ∀ (k i : Nat) (s : Shared) (acc : Array Value) (c : Nat) (Ts : List Addr), n - i = k → i ≤ n → ZSt (S := S) s.heap z TI TO i1 i2 l1 l2 xs ys i → S < s.heap.objs.size → n0 ≤ s.heap.objs.size →
      s.heap.get? S = some { cls := .type "list", dict := none, data := .seq acc c, slots := #[] } → acc = (Ts.map Value.ref).toArray → Ts.length = i → Made n0 S s.heap xs ys Ts →
      (∀ h' tk Ts' c', h'.get? S = some { cls := .type "list", dict := none, data := .seq (Ts'.map Value.ref).toArray c', slots := #[] } → Ts'.length = n → Made n0 S h' xs ys Ts' →
        (∀ b o, b ≠ S → b ∉ [z, TO, i1, i2] → s.heap.get? b = some o → h'.get? b = some o) → R (.ok (.ret res)) { s with heap := h', toks := tk }) →
      codeAny (model prog w) A (.builtin "list.extend.loop" ⟨[.ref S, .ref z, res], []⟩) R s := by
  intro k
  induction k with
  | zero =>
    intro i s acc c Ts hk hi st hS hn0 hSo hacc hlen mk hR
    have hin : i = n := by omega
    refine codeAny_builtin F.entry_extend_loop ?_
    rw [Around.under_plainId F.plain_extend_loop _]
    show wpAny _ A.in1 (pyNext (.ref z) >>= _) _ _ s
    have hend : xs[i]? = none ∨ ys[i]? = none := by
      rcases Nat.le_total xs.size ys.size with h | h
      · exact .inl (Array.getElem?_eq_none (by rw [hin, hn, Nat.min_eq_left h]; exact Nat.le_refl _))
      · exact .inr (Array.getElem?_eq_none (by rw [hin, hn, Nat.min_eq_right h]; exact Nat.le_refl _))
    have fin : ∀ h' : Heap, (∀ c o, c ≠ z → c ≠ TO → c ≠ i1 → c ≠ i2 → s.heap.get? c = some o → h'.get? c = some o) → R (.ok (.ret res)) { s with heap := h' } := fun h' hk' => by
      have nS : S ≠ z ∧ S ≠ TO ∧ S ≠ i1 ∧ S ≠ i2 := by
        simp only [List.mem_cons, List.not_mem_nil, or_false, not_or] at ns
        exact ⟨ns.1, ns.2.2.1, ns.2.2.2.1, ns.2.2.2.2.1⟩
      have kp : ∀ b o, b ∉ [z, TO, i1, i2] → s.heap.get? b = some o → h'.get? b = some o := fun b o hb e => hk' b o (fun q => hb (by simp [q])) (fun q => hb (by simp [q])) (fun q => hb (by simp [q])) (fun q => hb (by simp [q])) e
      have lt' : ∀ {T o}, h'.get? T = some o → T < h'.objs.size := fun e => Heap.lt_size e
      have prs : ∀ (j : Nat) (T : Addr), Ts[j]? = some T → ∃ x y, xs[j]? = some x ∧ ys[j]? = some y ∧ IsPair h' T x y := fun j T e => by
        obtain ⟨x, y, e1, e2, p⟩ := mk.pr j T e
        refine ⟨x, y, e1, e2, kp T _ (fun q => ?_) p⟩
        exact absurd (Nat.lt_of_lt_of_le (hlo T q) (mk.lo T (List.mem_of_getElem? e)).1) (Nat.lt_irrefl _)
      refine hR h' s.toks Ts c (hacc ▸ hk' S _ nS.1 nS.2.1 nS.2.2.1 nS.2.2.2 hSo) (hlen.trans hin) ⟨fun T hT => ⟨(mk.lo T hT).1, ?_, (mk.lo T hT).2.2⟩, mk.nd, prs⟩ fun b o _ hb e => kp b o hb e
      obtain ⟨j, e⟩ := List.mem_iff_getElem?.mp hT
      obtain ⟨x, y, _, _, p⟩ := prs j T e
      exact lt' p
    rcases st.hz with ⟨hz, a, b, hTO⟩ | ⟨T, f, oT, hz, hT, r1, r2, r3, r4⟩
    · exact wpAny_bind (wpAny_pyNext_zip_end hh D hz st.pTI hTO st.h1 st.h2 st.l1 st.l2 hend fun h' hk' => wpAny_pure (fin h' hk'))
    · exact wpAny_bind (wpAny_pyNext_zip_end_held hh D hz hT st.pTI st.h1 st.h2 st.l1 st.l2 hend fun h' hk' => wpAny_pure (fin h' fun c o q1 q2 q3 q4 => hk' c o q1 q3 q4))
  | succ k ih =>
    intro i s acc c Ts hk hi st hS hn0 hSo hacc hlen mk hR
    have hlt : i < n := by omega
    have hix : i < xs.size := by have := Nat.min_le_left xs.size ys.size; omega
    have hiy : i < ys.size := by have := Nat.min_le_right xs.size ys.size; omega
    have ex := Array.getElem?_eq_getElem hix
    have ey := Array.getElem?_eq_getElem hiy
    have nS : S ≠ z ∧ S ≠ TO ∧ S ≠ i1 ∧ S ≠ i2 := by
      simp only [List.mem_cons, List.not_mem_nil, or_false, not_or] at ns
      exact ⟨ns.1, ns.2.2.1, ns.2.2.2.1, ns.2.2.2.2.1⟩
    have lt : ∀ {c o}, s.heap.get? c = some o → s.heap.objs.size ≠ c := fun e => Nat.ne_of_gt (Heap.lt_size e)
    refine codeAny_builtin F.entry_extend_loop ?_
    rw [Around.under_plainId F.plain_extend_loop _]
    show wpAny _ A.in1 (pyNext (.ref z) >>= _) _ _ s
    -- behind the turn: the new pair at the heap's end is put behind the list
    have go : ∀ h' : Heap, ZSt (S := S) h' z TI TO i1 i2 l1 l2 xs ys (i + 1) → IsPair h' s.heap.objs.size xs[i] ys[i] → h'.objs.size = s.heap.objs.size + 1 → (∀ c o, c ≠ z → c ≠ TO → c ≠ i1 → c ≠ i2 → s.heap.get? c = some o → h'.get? c = some o) →
        wpAny (model prog w) A.in1 (updateSeq S (·.push (.ref s.heap.objs.size)) >>= fun _ => again (.builtin "list.extend.loop" ⟨[.ref S, .ref z, res], []⟩))
          (fun fin s' => match fin with | .done f => R (.ok f) s' | .again c' => c'.quiet = true ∧ codeAny (model prog w) A c' R s') (fun e s' => R (.error e) s') { s with heap := h' } := fun h' st' pr hsz' hk' => by
      have hS' := hk' S _ nS.1 nS.2.1 nS.2.2.1 nS.2.2.2 hSo
      have kp : ∀ b o, b ∉ [z, TO, i1, i2] → s.heap.get? b = some o → h'.get? b = some o := fun b o hb e => hk' b o (fun q => hb (by simp [q])) (fun q => hb (by simp [q])) (fun q => hb (by simp [q])) (fun q => hb (by simp [q])) e
      have szA : acc.size = i := by rw [hacc]; simp [hlen]
      refine wpAny_bind (wpAny_updateSeq (s := { s with heap := h' }) hS' rfl (wpAny_pure ⟨plainId_quiet F.plain_extend_loop _, ?_⟩) (by rw [szA]; omega) (by show (acc.push _).size ≤ sizeLine + 1; rw [Array.size_push, szA]; omega))
      have oth : ∀ b o, b ≠ S → h'.get? b = some o → (h'.update S (Obj.mapSeq (·.push (.ref s.heap.objs.size)))).get? b = some o := fun b o hb e => (Heap.get?_update_other _ _ (Ne.symm hb)).trans e
      have zz : (h'.update S (Obj.mapSeq (·.push (.ref s.heap.objs.size)))).objs.size = s.heap.objs.size + 1 := by rw [Heap.size_update]; exact hsz'
      have nNS : s.heap.objs.size ≠ S := lt hSo
      have eA : acc.push (.ref s.heap.objs.size) = ((Ts ++ [s.heap.objs.size]).map Value.ref).toArray := by rw [hacc]; simp
      refine ih (i + 1) _ (acc.push (.ref s.heap.objs.size)) _ (Ts ++ [s.heap.objs.size]) (by omega) hlt (st'.keep ns fun b o hb e => oth b o hb e) (zz ▸ Nat.lt_succ_of_lt hS) (zz ▸ Nat.le_succ_of_le hn0) (Heap.get?_update_self _ hS' rfl) eA (by rw [List.length_append, hlen]; rfl) ⟨fun T hT => ?_, ?_, fun j T e => ?_⟩ fun h2 tk Ts' c' a1 a2 a3 a4 => ?_
      · rcases List.mem_append.mp hT with q | q
        · obtain ⟨q1, q2, q3⟩ := mk.lo T q
          exact ⟨q1, zz ▸ Nat.lt_succ_of_lt q2, q3⟩
        · have q' : T = s.heap.objs.size := List.mem_singleton.mp q
          rw [q']
          exact ⟨hn0, zz ▸ Nat.lt_succ_self _, nNS⟩
      · refine List.nodup_append.mpr ⟨mk.nd, by simp, fun a ha b hb => ?_⟩
        have hb' : b = s.heap.objs.size := List.mem_singleton.mp hb
        rw [hb']
        exact Nat.ne_of_lt (mk.lo a ha).2.1
      · by_cases hj : j < Ts.length
        · rw [List.getElem?_append_left hj] at e
          obtain ⟨x, y, e1, e2, p⟩ := mk.pr j T e
          obtain ⟨q1, q2, q3⟩ := mk.lo T (List.mem_of_getElem? e)
          refine ⟨x, y, e1, e2, oth T _ q3 (kp T _ (fun q => ?_) p)⟩
          exact absurd (Nat.lt_of_lt_of_le (hlo T q) q1) (Nat.lt_irrefl _)
        · rw [List.getElem?_append_right (by omega)] at e
          have hj0 : j - Ts.length = 0 := by
            cases hq : j - Ts.length with
            | zero => rfl
            | succ m => rw [hq] at e; simp at e
          rw [hj0] at e
          have eT : s.heap.objs.size = T := by simpa using e
          have ej : j = i := by omega
          subst ej
          rw [← eT]
          exact ⟨xs[j], ys[j], ex, ey, oth _ _ nNS pr⟩
      · exact hR h2 tk Ts' c' a1 a2 a3 fun b o hb hb' e => a4 b o hb hb' (oth b o hb (kp b o hb' e))
    rcases st.hz with ⟨hz, a, b, hTO⟩ | ⟨T, f, oT, hz, hT, r1, r2, r3, r4⟩
    · refine wpAny_bind (wpAny_pyNext_zip_item D hz st.pTI hTO st.h1 st.h2 st.l1 st.l2 ex ey fun h' a1 a2 a3 a4 a5 a6 hk' => ?_)
      have n1 : s.heap.objs.size ≠ i1 := let ⟨_, e, _⟩ := st.h1; lt e
      have n2 : s.heap.objs.size ≠ i2 := let ⟨_, e, _⟩ := st.h2; lt e
      exact go h' ⟨hk' _ _ D.TIz D.TITO D.TIi1 D.TIi2 st.pTI, a3, a4, st.l1.at fun o e => hk' _ o D.l1z D.l1TO D.l1i1 D.l1i2 e, st.l2.at fun o e => hk' _ o D.l2z D.l2TO D.l2i1 D.l2i2 e,
        .inr ⟨s.heap.objs.size, false, _, a1, a5, lt hz, n1, n2, lt hSo⟩⟩ a5 a6 hk'
    · refine wpAny_bind (wpAny_pyNext_zip_item_held D hz hT st.pTI st.h1 st.h2 st.l1 st.l2 ex ey fun h' a1 a3 a4 a5 a6 hk' => ?_)
      exact go h' ⟨hk' _ _ D.TIz D.TIi1 D.TIi2 st.pTI, a3, a4, st.l1.at fun o e => hk' _ o D.l1z D.l1i1 D.l1i2 e, st.l2.at fun o e => hk' _ o D.l2z D.l2i1 D.l2i2 e,
        .inr ⟨T, true, oT, a1, hk' _ _ r1 r2 r3 hT, r1, r2, r3, r4⟩⟩ a5 a6 fun c o q1 q2 q3 q4 => hk' c o q1 q3 q4
end
end ZT
end SV
/-! Part D: tuple(zip(xs, ys)) as a rule. -/
namespace SV
open PySem PySem.Spec PyProof.Rows L2 LamX NdefX
namespace ZT
open PySem.W
section
variable {prog : Program} {w : World} {A : Around} {E : Value → Shared → Prop} {s : Shared} {z TI TO i1 i2 l1 l2 : Addr} {xs ys : Array Value}
theorem collect_zip {n0 : Nat} {Q : List Value → Shared → Prop} (hh : A.handled = none) (D : ZipApart z TI TO i1 i2 l1 l2) (hsz : min xs.size ys.size ≤ sizeLine) (hn0 : n0 ≤ s.heap.objs.size) (hlo : ∀ c ∈ [z, TO, i1, i2], c < n0)
    (hz : IsZip s.heap z TI TO .none) (hTI : IsPair s.heap TI (.ref i1) (.ref i2)) (hTO : ∃ a b, IsPair s.heap TO a b) (h1 : s.heap.IsListIter i1 l1 0) (h2 : s.heap.IsListIter i2 l2 0) (k1 : s.heap.IsList l1 xs) (k2 : s.heap.IsList l2 ys)
    (hQ : ∀ h' tk Ts, Ts.length = min xs.size ys.size → Made n0 s.heap.objs.size h' xs ys Ts → (∀ b o, b ∉ [z, TO, i1, i2] → s.heap.get? b = some o → h'.get? b = some o) → Q (Ts.map Value.ref) { s with heap := h', toks := tk }) :
    wpAny (model prog w) A (collect (.ref z)) Q E s := by
  have lt : ∀ {c o}, s.heap.get? c = some o → s.heap.objs.size ≠ c := fun e => Nat.ne_of_gt (Heap.lt_size e)
  have nz := lt hz
  have nTI := lt hTI
  have nTO : s.heap.objs.size ≠ TO := by
    obtain ⟨a, b, p⟩ := hTO
    exact lt p
  have n1 : s.heap.objs.size ≠ i1 := let ⟨_, e, _⟩ := h1; lt e
  have n2 : s.heap.objs.size ≠ i2 := let ⟨_, e, _⟩ := h2; lt e
  have m1 : s.heap.objs.size ≠ l1 := let ⟨_, e, _⟩ := k1; lt e
  have m2 : s.heap.objs.size ≠ l2 := let ⟨_, e, _⟩ := k2; lt e
  have ns : s.heap.objs.size ∉ [z, TI, TO, i1, i2, l1, l2] := by
    simp only [List.mem_cons, List.not_mem_nil, or_false, not_or]
    exact ⟨nz, nTI, nTO, n1, n2, m1, m2⟩
  have st0 : ZSt (S := s.heap.objs.size) s.heap z TI TO i1 i2 l1 l2 xs ys 0 := ⟨hTI, h1, h2, k1, k2, .inl ⟨hz, hTO⟩⟩
  unfold collect
  refine wpAny_bind (wpAny_runValue (codeAny_builtin F.entry_proto_collect ?_))
  rw [Around.under_plainId F.plain_proto_collect _]
  show wpAny _ A.in1 (newList [] >>= fun l => again (.builtin "list.__iadd__" ⟨[l, .ref z], []⟩)) _ _ s
  refine wpAny_bind (wpAny_newObj_type ?_)
  refine wpAny_pure ⟨plainId_quiet F.plain_list_iadd _, codeAny_builtin F.entry_list_iadd ?_⟩
  rw [Around.under_plainId F.plain_list_iadd _]
  have kp0 : ∀ b o, b ≠ s.heap.objs.size → s.heap.get? b = some o → (s.heap.push { cls := .type "list", data := .seq ([] : List Value).toArray }).get? b = some o := fun b o _ e => Heap.get?_push_of_some _ e
  have st1 := st0.keep ns kp0
  have hT : ({ s with heap := s.heap.push { cls := .type "list", data := .seq ([] : List Value).toArray } } : Shared).TypeIs (.ref z) "zip" := ⟨_, Heap.get?_push_of_some _ hz, rfl⟩
  show wpAny _ A.in1 (Builtin.List.listExtendWith (.ref s.heap.objs.size) (.ref z) (.ref s.heap.objs.size)) _ _ _
  unfold Builtin.List.listExtendWith
  refine wpAny_bind (wpAny_typeOf hT ?_)
  have e1 : Builtin.List.listSameRef (.ref s.heap.objs.size) (.ref z) = false := by simp [Builtin.List.listSameRef, nz]
  have e2 : (Value.type "zip" == Value.type "list") = false := by decide
  have e3 : (Value.type "zip" == Value.type "tuple") = false := by decide
  simp only [e1, e2, e3, Bool.or_false, Bool.false_eq_true, if_false]
  refine wpAny_bind (wpAny_pyIter_zip (s := { s with heap := s.heap.push { cls := .type "list", data := .seq ([] : List Value).toArray } }) (Heap.get?_push_of_some _ hz) ?_)
  refine wpAny_bind (wpAny_holding ?_)
  unfold Builtin.List.listLengthHint
  refine wpAny_bind (wpAny_specialOf hT nolen_zip ?_)
  show wpAny _ A.in1 (specialOf (Value.ref z) (Str.ofString "__length_hint__") >>= _) _ _ _
  refine wpAny_bind (wpAny_specialOf hT nohint_zip ?_)
  refine wpAny_pure ?_
  show wpAny _ A.in1 (rule "list.extend.makes-room" >>= fun _ => Builtin.List.listTouch (.ref s.heap.objs.size) >>= fun _ =>
    again (.builtin "list.extend.loop" ⟨[.ref s.heap.objs.size, .ref z, .ref s.heap.objs.size], []⟩)) _ _ _
  refine wpAny_bind (wpAny_rule ?_)
  have hS1 : (s.heap.push { cls := .type "list", data := .seq ([] : List Value).toArray }).get? s.heap.objs.size = some { cls := .type "list", data := .seq ([] : List Value).toArray } := Heap.get?_push_size _ rfl
  refine wpAny_bind ?_
  show wpAny _ A.in1 (updateSeq s.heap.objs.size (·.push .none) >>= fun _ => updateSeq s.heap.objs.size (·.pop)) _ _ _
  refine wpAny_bind (wpAny_updateSeq hS1 rfl ?_)
  have hS2 := Heap.get?_update_self (Obj.mapSeq (·.push Value.none)) hS1 rfl
  refine wpAny_updateSeq hS2 rfl ?_
  have hS3 := Heap.get?_update_self (Obj.mapSeq (·.pop)) hS2 rfl
  have oth : ∀ b o, b ≠ s.heap.objs.size → (s.heap.push { cls := .type "list", data := .seq ([] : List Value).toArray }).get? b = some o →
      (((s.heap.push { cls := .type "list", data := .seq ([] : List Value).toArray }).update s.heap.objs.size (Obj.mapSeq (·.push Value.none))).update s.heap.objs.size (Obj.mapSeq (·.pop))).get? b = some o :=
    fun b o hb e => (Heap.get?_update_other _ _ (Ne.symm hb)).trans ((Heap.get?_update_other _ _ (Ne.symm hb)).trans e)
  have zz : (((s.heap.push { cls := .type "list", data := .seq ([] : List Value).toArray }).update s.heap.objs.size (Obj.mapSeq (·.push Value.none))).update s.heap.objs.size (Obj.mapSeq (·.pop))).objs.size = s.heap.objs.size + 1 := by
    rw [Heap.size_update, Heap.size_update, Heap.size_push]
  refine wpAny_pure ⟨plainId_quiet F.plain_extend_loop _, loop (S := s.heap.objs.size) (n0 := n0) (n := min xs.size ys.size) D hh ns rfl hsz _ hlo _ 0 _ _ _ [] rfl (Nat.zero_le _) (st1.keep ns oth) (zz ▸ Nat.lt_succ_self _) (zz ▸ Nat.le_succ_of_le hn0) hS3 rfl rfl
    ⟨fun T hT => by simp at hT, List.nodup_nil, fun j T e => by simp at e⟩ fun h' tk Ts c' a1 a2 a3 a4 => ?_⟩
  show wpAny _ A (load s.heap.objs.size >>= _) _ _ _
  refine wpAny_bind (wpAny_load (s := { s with heap := h', toks := tk }) a1 ?_)
  refine wpAny_pure ?_
  exact hQ h' tk Ts a2 a3 fun b o hb e => a4 b o (Nat.ne_of_lt (Heap.lt_size e)) hb (oth b o (Nat.ne_of_lt (Heap.lt_size e)) (Heap.get?_push_of_some _ e))
theorem code_tuple_new_zip {n0 : Nat} {Q1 : Value → Shared → Prop} (hh : A.handled = none) (D : ZipApart z TI TO i1 i2 l1 l2) (hsz : min xs.size ys.size ≤ sizeLine) (hn0 : n0 ≤ s.heap.objs.size) (hlo : ∀ c ∈ [z, TO, i1, i2], c < n0)
    (hz : IsZip s.heap z TI TO .none) (hTI : IsPair s.heap TI (.ref i1) (.ref i2)) (hTO : ∃ a b, IsPair s.heap TO a b) (h1 : s.heap.IsListIter i1 l1 0) (h2 : s.heap.IsListIter i2 l2 0) (k1 : s.heap.IsList l1 xs) (k2 : s.heap.IsList l2 ys)
    (hQ : ∀ h' tk Ts, Ts.length = min xs.size ys.size → Made n0 s.heap.objs.size h' xs ys Ts → (∀ b o, b ∉ [z, TO, i1, i2] → s.heap.get? b = some o → h'.get? b = some o) → Q1 (.ref h'.objs.size) { s with heap := h'.push { cls := .type "tuple", data := .seq (Ts.map Value.ref).toArray }, toks := tk }) :
    codeAny (model prog w) A (.call (.builtin "tuple.__new__") ⟨[.type "tuple", .ref z], []⟩) (wants Q1 E) s := by
  refine codeAny_of_tree ?_
  show wpAny _ A.in1 (do checkBuiltinCall "tuple.__new__" ⟨[.type "tuple", .ref z], []⟩; again (.builtin "tuple.__new__" ⟨[.type "tuple", .ref z], []⟩)) _ _ s
  refine wpAny_bind (wpAny_of_eq (F.newCall_tuple_1 _) (wpAny_pure ⟨plainId_quiet F.plain_tuple_new _, codeAny_builtin F.entry_tuple_new ?_⟩))
  rw [Around.under_plainId F.plain_tuple_new _]
  have hsub := sub_tuple_self
  have hinit := init_tuple_lookup
  have hmh := madeHere_tuple
  have hTZ : s.TypeIs (.ref z) "zip" := ⟨_, hz, rfl⟩
  have hh1 : A.in1.handled = none := hh
  wp_walk using wpAny_typeOf hTZ, collect_zip (A := A.in1) (n0 := n0) hh1 D hsz hn0 hlo hz hTI hTO h1 h2 k1 k2
  intro h' tk Ts hl hm hk
  show wpAny _ _ (Builtin.Tuple.tupleExact (Ts.map Value.ref).toArray >>= fun v => ret v) _ _ _
  unfold Builtin.Tuple.tupleExact
  refine wpAny_bind (wpAny_newObj_type ?_ (by show (Ts.map Value.ref).toArray.size ≤ sizeLine; simp [hl]; omega))
  exact wpAny_pure (hQ h' tk Ts hl hm hk)
theorem call_tuple_zip {n0 : Nat} {Q : Value → Shared → Prop} (hh : A.handled = none) (D : ZipApart z TI TO i1 i2 l1 l2) (hsz : min xs.size ys.size ≤ sizeLine) (hn0 : n0 ≤ s.heap.objs.size) (hlo : ∀ c ∈ [z, TO, i1, i2], c < n0)
    (hz : IsZip s.heap z TI TO .none) (hTI : IsPair s.heap TI (.ref i1) (.ref i2)) (hTO : ∃ a b, IsPair s.heap TO a b) (h1 : s.heap.IsListIter i1 l1 0) (h2 : s.heap.IsListIter i2 l2 0) (k1 : s.heap.IsList l1 xs) (k2 : s.heap.IsList l2 ys)
    (hQ : ∀ h' tk Ts, Ts.length = min xs.size ys.size → Made n0 s.heap.objs.size h' xs ys Ts → (∀ b o, b ∉ [z, TO, i1, i2] → s.heap.get? b = some o → h'.get? b = some o) → Q (.ref h'.objs.size) { s with heap := h'.push { cls := .type "tuple", data := .seq (Ts.map Value.ref).toArray }, toks := tk }) :
    wpAny (model prog w) A (call (.type "tuple") [.ref z]) Q E s := by
  refine callType_codes (Q₁ := fun obj s₁ => s₁.TypeIs obj "tuple" ∧ Q obj s₁) F.called_tuple (F.typeCall_tuple_1 _) F.entry_object_init
    (code_tuple_new_zip (A := A.in1) (n0 := n0) hh D hsz hn0 hlo hz hTI hTO h1 h2 k1 k2 fun h' tk Ts hl hm hk => ⟨⟨_, Heap.get?_push_size _ rfl, rfl⟩, hQ h' tk Ts hl hm hk⟩) fun obj s₁ h₁ => ?_
  exact ⟨h₁.1, F.args_object_init_2 obj _, object_init_meets F.called_tuple.init.lookup F.called_tuple.made (by decide) prog w A.in1 _ s₁ ⟨h₁.1, rfl, h₁.2⟩⟩
end
end ZT
/-- tuple(zip(xs, ys)) of two lists: new pairs at Ts, the new tuple of them -/
def tTupZip (K : PySem.W.Frag) (ta : TA) : TE := fun σ H Q => ta σ H fun vs H1 => ∃ (a b : Addr) (xs ys : List V), vs = [.ref a, .ref b] ∧ SqL K H1 a xs ∧ SqL K H1 b ys ∧
  ∀ (Ts : List Addr) (H2 : Hp) (r : Addr), Ts.length = min xs.length ys.length → (∀ (j : Nat) (T : Addr), Ts[j]? = some T → ∃ x y, xs[j]? = some x ∧ ys[j]? = some y ∧ H2 T = some (.tup [x, y]) ∧ H1 T = none) → Same H1 H2 → H2 r = none →
    Q (.ref r) (upd H2 r (.tup (Ts.map V.ref)))
open Classical in
theorem pe_tupZip {X : Cx} {e e2 : Expr} {ta : TA} {p p1 q1 q2 : Pos} (hc : X.calm = true) (hg : Gl X "tuple") (hm : X.mg "tuple" = none) (hgz : Gl X "zip") (hmz : X.mg "zip" = none) (ha : L2.PA X [e, e2] ta)
    (hs1 : starEach [.Call (.Name "zip" p1) [e, e2] [] q1] X.env = (false, eval (.Call (.Name "zip" p1) [e, e2] [] q1) X.env) :: starEach [] X.env := by rfl) (hpl1 : (backTo q2 (starEach [] X.env)).any (·.1) = false := by rfl)
    (hs : starEach [e, e2] X.env = (false, eval e X.env) :: starEach [e2] X.env := by rfl) (hpl : (backTo q1 (starEach [e2] X.env)).any (·.1) = false := by rfl) :
    PE X (.Call (.Name "tuple" p) [.Call (.Name "zip" p1) [e, e2] [] q1] [] q2) (tTupZip X.K ta) := by
  refine ⟨fun pins s σ H Q I hh => ?_⟩
  refine wpAny_Call_Name_kw (ld_blt I hg hm PyProof.Rows.boot_tuple ?_ (by decide) (by decide))
  refine PyProof.Rows.callWith_type1 ?_ hs1 hpl1
  rw [hs1]
  show wpAny _ _ (spliced ((false, eval (.Call (.Name "zip" p1) [e, e2] [] q1) X.env) :: backTo q2 (starEach [] X.env))) _ _ s
  refine Calls.spliced_cons ?_
  refine wpAny_Call_Name_kw (ld_blt I hgz hmz PyProof.Rows.boot_zip ?_ (by decide) (by decide))
  refine PyProof.Rows.callWith_type1 (thn (ha.run q1 pins s σ H _ I hh) fun us s1 ⟨vs, H1, I1, r1, qq⟩ => ?_) hs hpl
  obtain ⟨a, b, xs, ys, ex, hqx, hqy, q⟩ := qq
  subst ex
  cases r1 with
  | cons r rr =>
    cases rr with
    | cons r' rr =>
      cases rr
      cases r
      cases r'
      obtain ⟨its, rv, pl1, lz1⟩ := I1.list hqx
      obtain ⟨its2, rv2, pl2, lz2⟩ := I1.list hqy
      have la : a < s1.heap.objs.size := pl1.lt
      have lb : b < s1.heap.objs.size := pl2.lt
      refine call_zip_2 pl1.isList pl2.isList fun h' hz hTI hTO h1 h2 hsz hk => ?_
      refine Calls.spliced_nil ?_
      have len1 := rv.length
      have len2 := rv2.length
      have hmin : min its.toArray.size its2.toArray.size = min xs.length ys.length := by
        rw [List.size_toArray, List.size_toArray, len1, len2]
      have hle : min its.toArray.size its2.toArray.size ≤ sizeLine := by
        rw [hmin]
        have z := Nat.min_le_left xs.length ys.length
        have zz : xs.length ≤ sizeLine := by first | exact lz1 | (rw [len1]; exact lz1)
        omega
      refine ZT.call_tuple_zip (n0 := s1.heap.objs.size + 5) (I.ok.hd hc) (PySem.W.ktu_apart s1.heap.objs.size a b la lb) hle (Nat.le_of_eq hsz.symm) (fun c hcm => ?_) hz hTI ⟨_, _, hTO⟩ h1 h2 (pl1.isList.at fun o e => hk _ o e) (pl2.isList.at fun o e => hk _ o e) fun h2' tk Ts hl hm2 hk2 => ?_
      · have e' : c = s1.heap.objs.size + 4 ∨ c = s1.heap.objs.size + 3 ∨ c = s1.heap.objs.size ∨ c = s1.heap.objs.size + 1 := by simpa using hcm
        show c < s1.heap.objs.size + 5
        rcases e' with z | z | z | z <;> rw [z] <;> first | exact Nat.add_lt_add_left (by decide) _ | exact Nat.lt_add_of_pos_right (by decide)
      · have kAll : ∀ c o, s1.heap.get? c = some o → h2'.get? c = some o := fun c o e => hk2 c o (fun hcm => by
          have e' : c = s1.heap.objs.size + 4 ∨ c = s1.heap.objs.size + 3 ∨ c = s1.heap.objs.size ∨ c = s1.heap.objs.size + 1 := by simpa using hcm
          have l := Heap.lt_size e
          rcases e' with z | z | z | z <;> rw [z] at l <;> exact absurd l (by first | exact Nat.not_lt.mpr (Nat.le_add_right _ _) | exact Nat.lt_irrefl _)) (hk c o e)
        have lo : ∀ T ∈ Ts, s1.heap.objs.size ≤ T := fun T hT => Nat.le_trans (Nat.le_add_right _ 5) (hm2.lo T hT).1
        have hN : ∀ T ∈ Ts, H1 T = none := fun T hT => I1.hok.fresh (lo T hT)
        have ix : ∀ {T : Addr}, T ∈ Ts → ∃ j, Ts[j]? = some T := fun {T} hT => List.mem_iff_getElem?.mp hT
        obtain ⟨pr, hpr⟩ : ∃ pr : Addr → List V, ∀ (j : Nat) (T : Addr), Ts[j]? = some T → ∃ x y, xs[j]? = some x ∧ ys[j]? = some y ∧ pr T = [x, y] := by
          refine ⟨fun T => match xs[Ts.idxOf T]?, ys[Ts.idxOf T]? with | some x, some y => [x, y] | _, _ => [], fun j T e => ?_⟩
          have hj : j < Ts.length := (List.getElem?_eq_some_iff.mp e).1
          have eT : Ts[j] = T := (List.getElem?_eq_some_iff.mp e).2
          have ej : Ts.idxOf T = j := by rw [← eT]; exact hm2.nd.idxOf_getElem j hj
          have hjx : j < xs.length := by have := Nat.min_le_left xs.length ys.length; omega
          have hjy : j < ys.length := by have := Nat.min_le_right xs.length ys.length; omega
          refine ⟨xs[j], ys[j], List.getElem?_eq_getElem hjx, List.getElem?_eq_getElem hjy, ?_⟩
          show (match xs[Ts.idxOf T]?, ys[Ts.idxOf T]? with | some x, some y => [x, y] | _, _ => []) = _
          rw [ej, List.getElem?_eq_getElem hjx, List.getElem?_eq_getElem hjy]
        obtain ⟨H2, eH2⟩ : ∃ H2 : Hp, H2 = fun c => if c ∈ Ts then some (.tup (pr c)) else H1 c := ⟨_, rfl⟩
        have at1 : ∀ c, c ∈ Ts → H2 c = some (.tup (pr c)) := fun c h => by rw [eH2]; exact if_pos h
        have at2 : ∀ c, c ∉ Ts → H2 c = H1 c := fun c h => by rw [eH2]; exact if_neg h
        have sm : Same H1 H2 := fun c o e => (at2 c fun hc => by rw [hN c hc] at e; cases e).trans e
        have hR : s1.heap.objs.size ≤ h2'.objs.size := Nat.le_of_lt (Nat.lt_of_le_of_lt (Nat.le_add_right _ 2) (Heap.lt_size (hk2 (s1.heap.objs.size + 2) _ (by simp) hTI)))
        have nR : H2 h2'.objs.size = none := (at2 _ fun hc => Nat.lt_irrefl _ (hm2.lo _ hc).2.1).trans (I1.hok.fresh hR)
        have I3 : Inv X pins σ (upd H2 h2'.objs.size (.tup (Ts.map V.ref))) { s1 with heap := h2'.push { cls := .type "tuple", data := .seq (Ts.map Value.ref).toArray }, toks := tk } := by
          refine laidMany I1 (fun c o e => Heap.get?_push_of_some _ (kAll c o e)) (fun c o e => ?_) fun c o e => (upd_ne (ne_of_none (sm c o e) nR)).trans (sm c o e)
          by_cases hcR : c = h2'.objs.size
          · subst hcR
            rw [upd_same] at e
            cases e
            refine .inr ⟨hR, ?_, Ts.map Value.ref, ?_, ⟨_, Heap.get?_push_size _ rfl, rfl, _, rfl⟩⟩
            · rw [List.length_map, hl]
              exact hle
            · clear hl hm2 hpr lo hN ix I1 at1 at2 nR sm eH2
              induction Ts with
              | nil => exact .nil
              | cons T r ih => exact .cons rfl ih
          · rw [upd_ne hcR] at e
            by_cases hc : c ∈ Ts
            · rw [at1 c hc] at e
              cases e
              obtain ⟨j, ej⟩ := ix hc
              obtain ⟨x, y, e1, e2, ep⟩ := hpr j c ej
              obtain ⟨u, u2, f1, f2, f3⟩ := hm2.pr j c ej
              obtain ⟨u', g1, ru⟩ := rv.get e1
              obtain ⟨u2', g2, ru2⟩ := rv2.get e2
              have q1 : u = u' := by
                have z : its[j]? = some u := by simpa using f1
                rw [g1] at z
                exact (Option.some.inj z).symm
              have q2 : u2 = u2' := by
                have z : its2[j]? = some u2 := by simpa using f2
                rw [g2] at z
                exact (Option.some.inj z).symm
              subst q1 q2
              refine .inr ⟨lo c hc, ?_⟩
              rw [ep]
              exact ⟨by show 2 ≤ sizeLine; decide, [u, u2], .cons ru (.cons ru2 .nil), ⟨_, Heap.get?_push_of_some _ f3, rfl, _, rfl⟩⟩
            · rw [at2 c hc] at e
              exact .inl e
        refine ⟨.ref h2'.objs.size, _, I3, rfl, q Ts H2 _ (hl.trans hmin) (fun j T e => ?_) sm nR⟩
        obtain ⟨x, y, e1, e2, ep⟩ := hpr j T e
        exact ⟨x, y, e1, e2, by rw [at1 T (List.mem_of_getElem? e), ep], hN T (List.mem_of_getElem? e)⟩
end SV
/-! Part E: the end of a law row whose def is known where no repr is under way. -/
namespace SV
open PySem PySem.Spec PyProof.Rows L2 LamX NdefX
section
variable {P : Program} {w : World} {K : PySem.W.Frag} {mg mb : Str → Option Value} {s₁ : Shared} {a : Addr} {cs : List (Addr × Addr)} {vs : List Value} {ns : List Int}
/-- the heap at the law's entry: the empty tables, the script (unless it is written) -/
def entryH (K : PySem.W.Frag) (tb : List Addr) (a : Addr) (vs : List Value) (ns : List Int) : Hp := fun b =>
  if b ∈ tb then some (.tbl #[]) else if b = a ∧ K.lookup a = none then some (.frz { cls := .type "list", data := .seq vs.toArray } (.lst (ns.map V.int))) else none
theorem entry_tb {tb : List Addr} {b : Addr} (h : b ∈ tb) : entryH K tb a vs ns b = some (.tbl #[]) := if_pos h
theorem entry_a {tb : List Addr} (h : a ∉ tb) (hk : K.lookup a = none) : entryH K tb a vs ns a = some (.frz { cls := .type "list", data := .seq vs.toArray } (.lst (ns.map V.int))) := (if_neg h).trans (if_pos ⟨rfl, hk⟩)
theorem entry_no {tb : List Addr} {b : Addr} (h : b ∉ tb) (h2 : b = a → K.lookup a ≠ none) : entryH K tb a vs ns b = none := (if_neg h).trans (if_neg fun z => h2 z.1 z.2)
theorem law_callG {CX : CXT} {k : Nat} {fa : Addr} {fd : FuncData} {x : Str} {sp : Sp}
    (KX : K.In s₁.heap) (hns : s₁.heap.Ns mainGlobals mg) (hb : s₁.heap.Ns builtinsNs mb) (hbb : ∀ x : Str, x ≠ "__name__" → mb x = bootBuiltins x) (hlim : s₁.heap.NoLimit) (hg : s₁.gens = #[])
    (hT : ∀ p ∈ cs, s₁.heap.get? p.2 = some { cls := .none, data := .fields #[] }) (nT : ∀ p ∈ cs, K.lookup p.2 = none) (C : ∀ p ∈ cs, PySem.W.CodeHd s₁.heap p.1 p.2)
    (hbm : ∃ (bm : Addr) (ob : Obj), mg "__builtins__" = some (.ref bm) ∧ bm ≠ builtinsNs ∧ s₁.heap.get? bm = some ob ∧ ob.cls = .type "module" ∧ ob.dict = some builtinsNs ∧ ob.data = .plain)
    (ha : s₁.heap.get? a = some { cls := .type "list", data := .seq vs.toArray }) (hi : IntsAre vs ns) (hl : ns.length ≤ sizeLine) (hr : Room k callerA)
    (F : ∀ base : Heap, K.In base → base.Ns mainGlobals mg → (∀ p ∈ cs, TabB base mg p.1 p.2) → FnP noG P w K mg base CX k fa fd [x] sp) (hbind : ∀ (s : Shared) (u : Value), BindsTo s fd ⟨[u], []⟩ [(x, u)])
    (hsp : ∀ H : Hp, (∀ p ∈ cs, H p.2 = some (.tbl #[])) → SqL K H a (ns.map V.int) → sp [.ref a] H (fun v _ => v = .bl true) fun _ _ _ => False)
    (hCX : ∀ H e s', CX [] H s₁ (fun _ _ _ => False) e s' → False) :
    codeAny (model P w) callerA (.call (.ref fa) ⟨[.ref a], []⟩) (fun r s' => r = .ok (.ret (.bool true)) ∧ OldK s₁.heap s'.heap ∧ s'.os = s₁.os ∧ AllBare s'.gens) s₁ := by
  have rv := vals_ints hi
  have lenV := hi.length
  obtain ⟨tb, etb⟩ : ∃ tb, tb = cs.map (·.2) := ⟨_, rfl⟩
  have inT : ∀ p ∈ cs, p.2 ∈ tb := fun p hp => by rw [etb]; exact List.mem_map.mpr ⟨p, hp, rfl⟩
  have isT : ∀ b ∈ tb, s₁.heap.get? b = some { cls := .none, data := .fields #[] } ∧ K.lookup b = none := fun b hm => by
    rw [etb] at hm
    obtain ⟨p, hp, e⟩ := List.mem_map.mp hm
    rw [← e]
    exact ⟨hT p hp, nT p hp⟩
  have aT : a ∉ tb := fun z => by
    have q := (isT a z).1
    rw [ha] at q
    cases q
  obtain ⟨H, eH⟩ : ∃ H, H = entryH K tb a vs ns := ⟨_, rfl⟩
  have Htb : ∀ b ∈ tb, H b = some (.tbl #[]) := fun b hm => by rw [eH]; exact entry_tb hm
  have Hcase : ∀ b o, H b = some o → (b ∈ tb ∧ o = .tbl #[]) ∨ (b = a ∧ K.lookup a = none ∧ o = .frz { cls := .type "list", data := .seq vs.toArray } (.lst (ns.map V.int))) := fun b o e => by
    by_cases hm : b ∈ tb
    · rw [Htb b hm] at e
      cases e
      exact .inl ⟨hm, rfl⟩
    · by_cases hb : b = a ∧ K.lookup a = none
      · obtain ⟨rfl, hk⟩ := hb
        rw [eH, entry_a hm hk] at e
        cases e
        exact .inr ⟨rfl, hk, rfl⟩
      · rw [eH, entry_no hm fun h1 h2 => hb ⟨h1, h2⟩] at e
        cases e
  have hok : HOk P w H s₁.heap := fun b o e => by
    rcases Hcase b o e with ⟨hm, rfl⟩ | ⟨rfl, _, rfl⟩
    · exact (isT b hm).1
    · exact ⟨ha, by rw [List.length_map]; exact hl, vs, _, rv, ha⟩
  have hS : SqL K H a (ns.map V.int) := by
    cases hk : K.lookup a with
    | none => exact .inl (.inr ⟨_, by rw [eH]; exact entry_a aT hk⟩)
    | some o =>
      have e := KX a o hk
      rw [ha] at e
      cases e
      exact .inr ⟨_, vs.toArray, _, hk, rfl, rfl, rfl, by rw [List.size_toArray, lenV]; exact hl, by simpa using rv⟩
  -- what is neither a list nor an empty table isn't tracked
  have out : ∀ {b : Addr} {o : Obj}, s₁.heap.get? b = some o → (∀ ys n, o.data ≠ .seq ys n) → o.data ≠ .fields #[] → H b = none := fun {b o} e h1 h2 => by
    cases q : H b with
    | none => rfl
    | some u =>
      rcases Hcase b u q with ⟨hm, _⟩ | ⟨rfl, _, _⟩
      · rw [(isT b hm).1] at e
        cases e
        exact (h2 rfl).elim
      · rw [ha] at e
        cases e
        exact (h1 _ _ rfl).elim
  have stay : ∀ {b : Addr} {o : Obj}, s₁.heap.get? b = some o → H b = none → (hidT s₁.heap H).get? b = some o := fun e n => hidT_get e n
  have nsK : ∀ {b : Addr} {m : Str → Option Value}, s₁.heap.Ns b m → (hidT s₁.heap H).Ns b m := fun {b m} ⟨o, es, ep, e, d, r⟩ =>
    ⟨o, es, ep, stay e (out e (fun ys n z => by rw [d] at z; cases z) fun z => by rw [d] at z; cases z), d, r⟩
  have hKb : K.In (hidT s₁.heap H) := fun b o e => stay (KX b o e) (by
    cases q : H b with
    | none => rfl
    | some u =>
      rcases Hcase b u q with ⟨hm, _⟩ | ⟨rfl, hk, _⟩
      · rw [(isT b hm).2] at e; cases e
      · rw [hk] at e; cases e)
  have hM : L2.Mod K mg (hidT s₁.heap H) := ⟨hKb, nsK hns, ⟨mb, nsK hb, hbb⟩, let ⟨mc, h1, h2⟩ := hlim; ⟨mc, nsK h1, h2⟩⟩
  have TB : ∀ p ∈ cs, TabB (hidT s₁.heap H) mg p.1 p.2 := fun p hp => by
    refine ⟨?_, ?_, fun z => ?_⟩
    · obtain ⟨o, us, file, tf, flags, tg, inF, text, tt, e1, r1, r2, r3, rest⟩ := C p hp
      exact ⟨o, us, file, tf, flags, tg, inF, text, tt, stay e1 (out e1 (fun ys n z => by rw [r2] at z; cases z) fun z => by rw [r2] at z; cases z; simp at r3), r1, r2, r3, rest⟩
    · obtain ⟨bm, ob, b1, b2, b3, b4, b5, b6⟩ := hbm
      refine ⟨bm, ob, b1, b2, fun q => ?_, fun q => ?_, stay b3 (out b3 (fun ys n z => by rw [b6] at z; cases z) fun z => by rw [b6] at z; cases z), b4, b5, b6⟩
      · obtain ⟨o, es, ep, e, hd, _⟩ := hns
        rw [q, e] at b3
        cases b3
        rw [hd] at b6
        cases b6
      · rw [q, hT p hp] at b3
        cases b3
        cases b6
    · obtain ⟨o, es, ep, e, hd, _⟩ := hns
      rw [z, hT p hp] at e
      cases e
      cases hd
  have e0 : Env0 P w K mg (hidT s₁.heap H) callerA [] s₁ H := ⟨rfl, hM, fun b o e => of_hidT e, Nat.le_of_eq (hidT_size _ _), trivial, fun b hm => absurd (show b ∈ ([] : List Addr) from hm) (by simp), hok, .of_eq hg⟩
  refine codeAny_mono ((F _ hKb (nsK hns) TB).run callerA [] s₁ H ⟨[.ref a], []⟩ [.ref a] [.ref a] _ _ rfl hr e0 (hbind s₁ (.ref a)) (.cons rfl .nil) (hsp H (fun p hp => Htb _ (inT p hp)) hS)) fun r s' h => ?_
  cases r with
  | error e => exact (hCX H e s' h).elim
  | ok fl =>
    cases fl with
    | next => exact False.elim h
    | brk => exact False.elim h
    | cont => exact False.elim h
    | ret u =>
      obtain ⟨v, H', os, bare, un, hok', r', rfl⟩ := h
      obtain rfl : u = Value.bool true := r'
      have kept : ∀ b o, b ∉ tb → s₁.heap.get? b = some o → s'.heap.get? b = some o := fun b o nb e => by
        cases q : H b with
        | none => exact un.keep b o e q (fun z => absurd (show b ∈ ([] : List Addr) from z) (by simp)) (by simp)
        | some u =>
          rcases Hcase b u q with ⟨hm, _⟩ | ⟨rfl, _, rfl⟩
          · exact absurd hm nb
          · have e1 := (hok b _ q).1
            rw [e] at e1
            cases e1
            exact (hok' b _ (un.frzs b _ _ q)).1
      have grown : ∀ b ∈ tb, ∃ more : Array Value, s'.heap.get? b = some { cls := .none, data := .fields more } := fun b hm => by
        obtain ⟨more, z⟩ := un.tbls b #[] (Htb b hm)
        exact ⟨_, hok' b _ z⟩
      refine ⟨rfl, ⟨fun b o e => ?_, fun b o e => ?_⟩, os, bare⟩
      · by_cases hm : b ∈ tb
        · obtain ⟨more, hmo⟩ := grown b hm
          rw [(isT b hm).1] at e
          cases e
          rw [etb] at hm
          obtain ⟨p, hp, ep⟩ := List.mem_map.mp hm
          rw [← ep] at hmo ⊢
          exact .inr (.inl ⟨((C p hp).tab (hT p hp)).isCodeTable, rfl, #[], more, rfl, by rw [Array.empty_append]; exact hmo⟩)
        · exact .inl (kept b o hm e)
      · by_cases hm : b ∈ tb
        · obtain ⟨more, hmo⟩ := grown b hm
          exact ⟨_, hmo⟩
        · exact ⟨o, kept b o hm e⟩
end
/-- what is known of the law's promise at the head's heap -/
def LawAtG (l : PySem.W.OpenLaw) (w : World) (K : PySem.W.Frag) (CX : CXT) (k n : Nat) (x : Str) (mg : Str → Option Value) (fa : Addr) (h : Heap) : Prop :=
  ∃ (fd : FuncData) (cs : List (Addr × Addr)) (sp : Sp), (∀ p ∈ cs, h.get? p.2 = some { cls := .none, data := .fields #[] }) ∧ (∀ p ∈ cs, K.lookup p.2 = none) ∧ (∀ p ∈ cs, PySem.W.CodeHd h p.1 p.2) ∧ (∀ (s : Shared) (u : Value), BindsTo s fd ⟨[u], []⟩ [(x, u)]) ∧
    (∀ (H : Hp) (a : Addr) (ns : List Int), ns.length ≤ n → (∀ z ∈ ns, Builtin.Int.intBits z ≤ 1048576) → (∀ p ∈ cs, H p.2 = some (.tbl #[])) → SqL K H a (ns.map V.int) → sp [.ref a] H (fun v _ => v = .bl true) fun _ _ _ => False) ∧
    ∀ base : Heap, K.In base → base.Ns mainGlobals mg → (∀ p ∈ cs, TabB base mg p.1 p.2) → FnP noG l.prog w K mg base CX k fa fd [x] sp
theorem walkG {l : PySem.W.OpenLaw} {n k : Nat} {q : Program} {loose : List Str} {XP : (Str → Option Value) → Heap → Prop} {YP : World → Heap → Prop} {d : DefRec} {K : Params → PySem.W.Frag} {CX : World → CXT} {x : Str}
    (hn : l.most = some n) (hn2 : n ≤ sizeLine) (hdf : d.params.defaults = []) (hr : Room k callerA) (hY : ∀ (w : World) (h : Heap), YP w h → (K w.params).In h)
    (F : ∀ (w : World) (mg : Str → Option Value) (fa : Addr) (h : Heap), YP w h → (K w.params).In h → h.Ns mainGlobals mg → mg d.name = some (.ref fa) → LawAtG l w (K w.params) (CX w) k n x mg fa h)
    (hCX : ∀ (w : World) (H : Hp) (s : Shared) (e : Value) (s' : Shared), CX w [] H s (fun _ _ _ => False) e s' → False) :
    PySem.W.WalkO q loose XP YP l.row.toRowW d [] (fun f vs => PySem.call f vs) := by
  refine Att.attach_callB hn hdf fun w s₀ s₁ mg mb fa o pm cd doc a vs ns G Y ho hd hcd hmg hobj hints hlen hbits hg => ?_
  have KX := hY w _ Y
  obtain ⟨fd, cs, sp, hT, nT, C, hb, hsp, hF⟩ := F w mg fa _ Y KX G.T.g hmg
  exact law_callG KX G.T.g G.T.b G.T.builtins G.T.nolimit hg hT nT C G.T.bmain hobj hints (Nat.le_trans hlen hn2) hr hF hb (fun H hH hS => hsp H a ns hlen hbits hH hS) fun H e s' => hCX w H s₁ e s'
end SV
/-! Part F: what stays of a heap. -/
namespace SV
open PySem PySem.Spec PyProof.Rows L2 LamX NdefX
/-- no table of code objects -/
def noTbl (o : HO) : Prop := ∀ ps, o ≠ .tbl ps
/-- all but M and the tables stays; the tables stay tables -/
structure Kp (Tb : List (Addr × Str)) (M : List Addr) (H H' : Hp) : Prop where
  k : ∀ b o, H b = some o → b ∉ M → noTbl o → H' b = some o
  t : Tabs Tb H → Tabs Tb H'
theorem noTbl_lst {xs : List V} : noTbl (.lst xs) := fun _ z => by cases z
theorem noTbl_tup {xs : List V} : noTbl (.tup xs) := fun _ z => by cases z
theorem noTbl_dK {xs : List (Key × V)} : noTbl (.dK xs) := fun _ z => by cases z
theorem noTbl_ins {C dx : Addr} {fs : List (Str × V)} : noTbl (.ins C dx fs) := fun _ z => by cases z
theorem noTbl_own {x : Addr} : noTbl (.own x) := fun _ z => by cases z
theorem noTbl_xd {fs : List (Str × V)} : noTbl (.xd fs) := fun _ z => by cases z
theorem noTbl_frz {o : Obj} {u : HO} : noTbl (.frz o u) := fun _ z => by cases z
theorem noTbl_ext {φ : Heap → Prop} : noTbl (.ext φ) := fun _ z => by cases z
section
variable {Tb : List (Addr × Str)} {M M' : List Addr} {H H1 H2 : Hp} {a b p : Addr} {o u : HO}
theorem Kp.refl (Tb : List (Addr × Str)) (M : List Addr) (H : Hp) : Kp Tb M H H := ⟨fun _ _ e _ _ => e, id⟩
theorem Kp.trans (x : Kp Tb M H H1) (y : Kp Tb M H1 H2) : Kp Tb M H H2 := ⟨fun b o e n t => y.k b o (x.k b o e n t) n t, fun h => y.t (x.t h)⟩
theorem Kp.mono (x : Kp Tb M H H1) (h : ∀ b ∈ M, b ∈ M') : Kp Tb M' H H1 := ⟨fun b o e n t => x.k b o e (fun z => n (h b z)) t, x.t⟩
theorem Kp.nil (x : Kp Tb [] H H1) : Kp Tb M H H1 := x.mono fun _ z => nomatch z
theorem Kp.same (s : Same H H1) : Kp Tb M H H1 := ⟨fun b o e _ _ => s b o e, fun h => h.ext s⟩
theorem same_upd (h : H p = none) : Same H (upd H p o) := fun b u e => (upd_ne (ne_of_none e h)).trans e
theorem Kp.new (h : H p = none) : Kp Tb M H (upd H p o) := .same (same_upd h)
/-- a tracked thing of M that is neither a table nor a code object is written -/
theorem Kp.put (h : H a = some o) (hM : a ∈ M) (ht : noTbl o) (hx : ∀ φ, o ≠ .ext φ) : Kp Tb M H (upd H a u) := ⟨fun b v e n _ => (upd_ne fun z => n (by rw [z]; exact hM)).trans e, fun hT q hq => by
  obtain ⟨ps, h1, h2, h3⟩ := hT q hq
  refine ⟨ps, (upd_ne fun z => ht ps (Option.some.inj (h.symm.trans (by rw [← z]; exact h1)))).trans h1, h2, fun pos cv hc => ?_⟩
  obtain ⟨c, e1, e2⟩ := h3 pos cv hc
  exact ⟨c, e1, (upd_ne fun z => hx _ (Option.some.inj (h.symm.trans (by rw [← z]; exact e2)))).trans e2⟩⟩
theorem Kp.seqL {K : PySem.W.Frag} {xs : List V} (x : Kp Tb M H H1) (n : a ∉ M) (h : SqL K H a xs) : SqL K H1 a xs := by
  rcases h with (h | ⟨o, h⟩) | h
  · exact .inl (.inl (x.k _ _ h n noTbl_lst))
  · exact .inl (.inr ⟨o, x.k _ _ h n noTbl_frz⟩)
  · exact .inr h
theorem Kp.seqT {K : PySem.W.Frag} {xs : List V} (x : Kp Tb M H H1) (n : a ∉ M) (h : SqT K H a xs) : SqT K H1 a xs := by
  rcases h with (h | ⟨o, h⟩) | h
  · exact .inl (.inl (x.k _ _ h n noTbl_tup))
  · exact .inl (.inr ⟨o, x.k _ _ h n noTbl_frz⟩)
  · exact .inr h
theorem Kp.ext {φ : Heap → Prop} (x : Kp Tb M H H1) (n : a ∉ M) (h : H a = some (.ext φ)) : H1 a = some (.ext φ) := x.k _ _ h n noTbl_ext
theorem Kp.non (x : Kp Tb M H H1) (n : a ∉ M) (h : H1 a = none) : H a = none ∨ ∃ ps, H a = some (.tbl ps) := by
  cases e : H a with
  | none => exact .inl rfl
  | some o =>
    by_cases ht : ∃ ps, o = .tbl ps
    · obtain ⟨ps, rfl⟩ := ht
      exact .inr ⟨ps, rfl⟩
    · have z := x.k a o e n fun ps q => ht ⟨ps, q⟩
      rw [h] at z
      cases z
mutual
theorem Kp.dp {K : PySem.W.Frag} (x : Kp Tb M H H1) (hM : ∀ b ∈ M, ∀ xs, ¬ SqL K H b xs ∧ ¬ SqT K H b xs) : ∀ (d : PyData) (v : V), Dp K H v d → Dp K H1 v d
  | .none, _, h => by cases h; exact .non
  | .bool _, _, h => by cases h; exact .bl _
  | .int _, _, h => by cases h; exact .int _
  | .str _, _, h => by cases h; exact .str _
  | .list ds, _, h => by
    cases h with
    | lst hs ha => exact .lst (x.seqL (fun z => (hM _ z _).1 hs) hs) (Kp.dpAll x hM ds _ ha)
  | .tuple ds, _, h => by
    cases h with
    | tup hs ha => exact .tup (x.seqT (fun z => (hM _ z _).2 hs) hs) (Kp.dpAll x hM ds _ ha)
  | .dict _, _, h => by cases h
theorem Kp.dpAll {K : PySem.W.Frag} (x : Kp Tb M H H1) (hM : ∀ b ∈ M, ∀ xs, ¬ SqL K H b xs ∧ ¬ SqT K H b xs) : ∀ (ds : List PyData) (vs : List V), DpAll K H vs ds → DpAll K H1 vs ds
  | [], _, h => by cases h; exact .nil
  | d :: ds, _, h => by
    cases h with
    | cons h1 h2 => exact .cons (Kp.dp x hM d _ h1) (Kp.dpAll x hM ds _ h2)
end
theorem Kp.dp0 {K : PySem.W.Frag} (x : Kp Tb [] H H1) {d : PyData} {v : V} (h : Dp K H v d) : Dp K H1 v d := Kp.dp x (fun _ z => nomatch z) d v h
end
/-- a lambda's making -/
theorem Kp.lam {Tb : List (Addr × Str)} {M : List Addr} {H H1 : Hp} (e : ExtN H H1) (t : Tabs Tb H1) : Kp Tb M H H1 := ⟨fun b o h _ n => e b o h n, fun _ => t⟩
section
variable {X : Cx} {σ : L2.St} {Tb : List (Addr × Str)} {M : List Addr} {H H1 G H' : Hp}
theorem FrzX.kp (fx : FrzX X σ H G) : Kp Tb M H G := .same fun b o e => (fx.out b fun z => by rw [fx.non b z] at e; cases e).trans e
/-- through a call with the own cells frozen -/
theorem Kp.thaw (fx : FrzX X σ H G) (hM : ∀ b ∈ M, H b ≠ none) (y : Kp Tb M G H') : Kp Tb M H (hideC (CS X.env.cells) H') := by
  have cell : ∀ b, CS X.env.cells b → ∃ ob, H' b = some (cellZ ob) := fun b hb => by
    obtain ⟨ob, v, e, _⟩ := fx.fz b hb
    exact ⟨ob, y.k b _ e (fun z => hM b z (fx.non b hb)) noTbl_frz⟩
  refine ⟨fun b o e n t => ?_, fun hT => ?_⟩
  · have hb : ¬ CS X.env.cells b := fun z => by rw [fx.non b z] at e; cases e
    rw [hideC_out hb]
    exact y.k b o ((fx.out b hb).trans e) n t
  · have hT' := y.t ((FrzX.kp (M := M) fx).t hT)
    intro q hq
    obtain ⟨ps, h1, h2, h3⟩ := hT' q hq
    refine ⟨ps, (hideC_out fun z => ?_).trans h1, h2, fun pos cv hc => ?_⟩
    · obtain ⟨ob, e⟩ := cell _ z
      rw [h1] at e
      cases e
    · obtain ⟨c, e1, e2⟩ := h3 pos cv hc
      refine ⟨c, e1, (hideC_out fun z => ?_).trans e2⟩
      obtain ⟨ob, e⟩ := cell _ z
      rw [e2] at e
      cases e
theorem thaw_at (fx : FrzX X σ H G) (y : Kp Tb M G H') (hM : ∀ b ∈ M, H b ≠ none) {b : Addr} {o : HO} (e : H' b = some o) (n : ∀ ob, o ≠ cellZ ob) : hideC (CS X.env.cells) H' b = some o :=
  (hideC_out fun hb => by
    obtain ⟨ob, v, e1, _⟩ := fx.fz b hb
    have z := y.k b _ e1 (fun z => hM b z (fx.non b hb)) noTbl_frz
    rw [e] at z
    exact n ob (Option.some.inj z)).trans e
/-- the captured names of a lambda that the running frame has made, frozen -/
theorem cellsZ_of {scope : Scope} {fr : List Str} {js : List Nat} (ok : X.Ok) (fx : FrzX X σ H G) (hfree : ∀ y ∈ scope.names, y.2 = .free → X.env.scope.names.lookup y.1 = some .cell ∨ X.env.scope.names.lookup y.1 = some .free)
    (hfr : ∀ y ∈ fr, (y, NameKind.free) ∈ scope.names) (hjs : js.map (fun j => X.N[j]?) = fr.map some) : CellsZ (cloFrom X.env.cells scope.names []) fr (js.map (slotAt σ)) G := by
  have hf : ∀ y ∈ scope.names, y.2 = .free → ∃ c, X.env.cells.lookup y.1 = some c := fun y hy e => (hfree y hy e).elim (fun z => ok.has _ (.inl z)) fun z => ok.has _ (.inr z)
  refine ⟨?_, fun x y c e1 e2 => ok.inj x y c (clo_cm hf e1) (clo_cm hf e2), fun b ⟨y, e⟩ => fx.fz b ⟨y, clo_cm hf e⟩, fun i y e => ?_⟩
  · have q := congrArg List.length hjs
    rw [List.length_map, List.length_map] at q
    rw [List.length_map]
    exact q
  · have hy := hfr y (List.mem_of_getElem? e)
    obtain ⟨c, hc⟩ := hf (y, .free) hy rfl
    refine ⟨c, clo_has hf hy hc, fun v ev => ?_⟩
    have e2 : (js.map fun j => X.N[j]?)[i]? = some (some y) := by
      rw [hjs, List.getElem?_map, e] <;> rfl
    rw [List.getElem?_map] at e2 ev
    cases ej : js[i]? with
    | none => rw [ej] at e2; cases e2
    | some j =>
      rw [ej] at e2 ev
      have hj : X.N[j]? = some y := Option.some.inj (show some (X.N[j]?) = some (some y) from e2)
      have hs : σ[j]? = some (some v) := slotAt_some (Option.some.inj (show some (slotAt σ j) = some (some v) from ev))
      obtain ⟨c2, ob, u, h1, h2, h3, h4⟩ := fx.val j y v hj hs (hfree (y, .free) hy rfl)
      have hc' : X.env.cells.lookup y = some c := hc
      rw [h1] at hc'
      cases hc'
      exact ⟨ob, u, h2, h3, h4⟩
theorem CellsZ.kp {cl : List (Str × Addr)} {fr : List Str} {ws : List (Option V)} (c : CellsZ cl fr ws H) (k : Kp Tb M H H1) (hM : ∀ b ∈ M, ∀ ob, H b ≠ some (cellZ ob)) : CellsZ cl fr ws H1 :=
  ⟨c.len, c.inj, fun b hb => by
    obtain ⟨ob, v, e, d⟩ := c.all b hb
    exact ⟨ob, v, k.k b _ e (fun z => hM b z ob e) noTbl_frz, d⟩, fun i y e => by
    obtain ⟨a, e1, hv⟩ := c.has i y e
    refine ⟨a, e1, fun v ev => ?_⟩
    obtain ⟨ob, u, e2, d, r⟩ := hv v ev
    exact ⟨ob, u, k.k a _ e2 (fun z => hM a z ob e2) noTbl_frz, d, r⟩⟩
/-- within a lambda, its captured cells untold: what was told of the others -/
theorem hide_at {cl : List (Str × Addr)} {fr : List Str} {ws : List (Option V)} (c : CellsZ cl fr ws H) {b : Addr} {o : HO} (e : H b = some o) (n : ∀ ob, o ≠ cellZ ob) : hideC (CS cl) H b = some o := (hideC_out (frozen_no c.all e n)).trans e
theorem Kp.rest {cl : List (Str × Addr)} {fr : List Str} {ws : List (Option V)} (c : CellsZ cl fr ws H) (hn : ∀ b, CS cl b → H' b = none) (y : Kp Tb [] (hideC (CS cl) H) H') : Kp Tb [] H (restC (CS cl) H H') := by
  refine ⟨fun b o e n t => ?_, fun hT => ?_⟩
  · by_cases hb : CS cl b
    · rw [restC_in hb]; exact e
    · rw [restC_out hb]; exact y.k b o ((hideC_out hb).trans e) n t
  · have hT1 : Tabs Tb (hideC (CS cl) H) := fun q hq => by
      obtain ⟨ps, h1, h2, h3⟩ := hT q hq
      refine ⟨ps, hide_at c h1 tbl_cellZ, h2, fun pos cv hc => ?_⟩
      obtain ⟨c0, e1, e2⟩ := h3 pos cv hc
      exact ⟨c0, e1, hide_at c e2 fun ob z => by cases z⟩
    intro q hq
    obtain ⟨ps0, g1, _, _⟩ := hT q hq
    obtain ⟨ps, h1, h2, h3⟩ := y.t hT1 q hq
    refine ⟨ps, (restC_out (frozen_no c.all g1 tbl_cellZ)).trans h1, h2, fun pos cv hc => ?_⟩
    obtain ⟨c0, e1, e2⟩ := h3 pos cv hc
    refine ⟨c0, e1, ?_⟩
    by_cases hb : CS cl c0
    · rw [hn c0 hb] at e2; cases e2
    · exact (restC_out hb).trans e2
end
end SV
/-! Part G: a def's promise with all that a call of it asks. -/
namespace SV
open PySem PySem.Spec PyProof.Rows L2 LamX NdefX
/-- the def at f keeps sp; how it is bound; that it stands -/
def FnD (PA : Around → Prop) (P : Program) (w : World) (K : PySem.W.Frag) (mg : Str → Option Value) (base : Heap) (CX : CXT) (k : Nat) (f : Addr) (ps : List Str) (sp : Sp) : Prop :=
  ∃ fd, FnP PA P w K mg base CX k f fd ps sp ∧ Binds K fd ps [] ∧ PySem.W.keepIn K (.ref f) = true
/-- a def of the text as it stands, its arguments bound plainly -/
def DefT (K : PySem.W.Frag) (x qual : Str) (st : Stmt) (ps : List Str) (f : Addr) : Prop := ∃ fd, Fun K x qual st f fd ∧ Binds K fd ps []
/-- .. its code object at c -/
def DefC (K : PySem.W.Frag) (x qual : Str) (st : Stmt) (ps : List Str) (f c : Addr) : Prop := ∃ fd, FunC K x qual st f fd c ∧ Binds K fd ps []
/-- a method of the class at C -/
def MethT (K : PySem.W.Frag) (C : Addr) (m qual : Str) (st : Stmt) (ps : List Str) (f : Addr) : Prop := DefT K m qual st ps f ∧ Meth K C m f
theorem defT_mk {K : PySem.W.Frag} {x qual : Str} {st : Stmt} {ps : List Str} {f : Addr} {oc : Value} {od an : Option Addr} {osl : Array (Option Value)} {kV doc pm cdv ct : Value} (l : K.lookup f = some ⟨oc, od, .func (PySem.W.fnOf x qual (defArgs st) (defBody st) (defScope st) .none kV doc pm an cdv ct), osl⟩)
    (c : PySem.W.codeIn K cdv qual = true) (k : PySem.W.keepIn K (.ref f) = true)
    (b : ∀ (kV doc pm : Value) (an : Option Addr) (cdv ct : Value) (us : List Value), us.length = ps.length → bindArgs (PySem.W.fnOf x qual (defArgs st) (defBody st) (defScope st) .none kV doc pm an cdv ct) ⟨us, []⟩ = pure (ps.zip us)) : DefT K x qual st ps f :=
  ⟨_, fun_mk l c k, (fun_mk l c k).binds b⟩
theorem defC_mk {K : PySem.W.Frag} {x qual : Str} {st : Stmt} {ps : List Str} {f c : Addr} {oc : Value} {od an : Option Addr} {osl : Array (Option Value)} {kV doc pm ct : Value} (l : K.lookup f = some ⟨oc, od, .func (PySem.W.fnOf x qual (defArgs st) (defBody st) (defScope st) .none kV doc pm an (.ref c) ct), osl⟩)
    (hc : PySem.W.codeIn K (.ref c) qual = true) (k : PySem.W.keepIn K (.ref f) = true)
    (b : ∀ (kV doc pm : Value) (an : Option Addr) (cdv ct : Value) (us : List Value), us.length = ps.length → bindArgs (PySem.W.fnOf x qual (defArgs st) (defBody st) (defScope st) .none kV doc pm an cdv ct) ⟨us, []⟩ = pure (ps.zip us)) : DefC K x qual st ps f c :=
  ⟨_, ⟨⟨oc, od, kV, doc, pm, an, ct, osl, rfl, l, hc⟩, k⟩, (fun_mk l hc k).binds b⟩
section
variable {PA : Around → Prop} {P : Program} {w : World} {K : PySem.W.Frag} {mg : Str → Option Value} {base : Heap} {CX : CXT} {x qual : Str} {st : Stmt} {f c : Addr} {N ps : List Str} {j k : Nat} {sp sp' : Sp}
theorem FnD.mono (F : FnD PA P w K mg base CX j f ps sp) (h : j ≤ k) : FnD PA P w K mg base CX k f ps sp := by
  obtain ⟨fd, F, b, kp⟩ := F
  exact ⟨fd, ⟨F.len, fun A outer s H args us vs Q E hA hr => F.run A outer s H args us vs Q E hA (hr.mono h)⟩, b, kp⟩
theorem FnD.imp (F : FnD PA P w K mg base CX k f ps sp) (h : ∀ vs H Q E, sp' vs H Q E → sp vs H Q E) : FnD PA P w K mg base CX k f ps sp' := by
  obtain ⟨fd, F, b, kp⟩ := F
  exact ⟨fd, ⟨fun vs H Q E q => F.len vs H Q E (h _ _ _ _ q), fun A outer s H args us vs Q E hA hr e0 hb r q => F.run A outer s H args us vs Q E hA hr e0 hb r (h _ _ _ _ q)⟩, b, kp⟩
/-- a def that lets nothing out -/
theorem DefT.ok0 (D : DefT K x qual st ps f) (S : FnScope N ps (defScope st)) (len : ∀ vs H Q E, sp vs H Q E → vs.length = ps.length)
    (hbody : ∀ (cdv : Value) (A : Around) (outer : List Env) (s : Shared) (H : Hp) (vs : List V) (Q : VK) (E : XK), Room k (A.deeper (envOfC qual (defScope st) s.heap.objs.size f cdv)) → sp vs H Q E →
      ∃ t, PSs (cxOf CX0 P w K mg base N qual (defScope st) f cdv A outer s H E).nox (defBody st) t ∧ t { nx := fun _ H' => Q .non H', rt := Q } (L2.start N vs) H) : FnD anyA P w K mg base CX0 (k + 1) f ps sp := by
  obtain ⟨fd, F, b⟩ := D
  exact ⟨fd, .ofOk (F.ok S len hbody), b, F.kp⟩
/-- a def that may raise; or one under PA -/
theorem DefT.okX (D : DefT K x qual st ps f) (S : FnScope N ps (defScope st)) (len : ∀ vs H Q E, sp vs H Q E → vs.length = ps.length)
    (hbody : ∀ (cdv : Value) (A : Around) (outer : List Env) (s : Shared) (H : Hp) (vs : List V) (Q : VK) (E : XK), PA A → Room k (A.deeper (envOfC qual (defScope st) s.heap.objs.size f cdv)) → sp vs H Q E →
      ∃ t, PSs (cxOf (L2.CX P w) P w K mg base N qual (defScope st) f cdv A outer s H E) (defBody st) t ∧ t { nx := fun _ H' => Q .non H', rt := Q } (L2.start N vs) H) : FnD PA P w K mg base (L2.CX P w) (k + 1) f ps sp := by
  obtain ⟨fd, F, b⟩ := D
  exact ⟨fd, Fun.okP F S len hbody, b, F.kp⟩
/-- a def that makes lambdas -/
theorem DefC.okX (D : DefC K x qual st ps f c) (S : FnScope N ps (defScope st)) (len : ∀ vs H Q E, sp vs H Q E → vs.length = ps.length)
    (hbody : ∀ (A : Around) (outer : List Env) (s : Shared) (H : Hp) (vs : List V) (Q : VK) (E : XK), PA A → Room k (A.deeper (envOfC qual (defScope st) s.heap.objs.size f (.ref c))) → sp vs H Q E →
      ∃ t, PSs (cxOf (L2.CX P w) P w K mg base N qual (defScope st) f (.ref c) A outer s H E) (defBody st) t ∧ t { nx := fun _ H' => Q .non H', rt := Q } (L2.start N vs) H) : FnD PA P w K mg base (L2.CX P w) (k + 1) f ps sp := by
  obtain ⟨fd, F, b⟩ := D
  exact ⟨fd, FunC.ok F S len hbody, b, F.kp⟩
end
section
variable {X : Cx} {CX : CXT} {j k : Nat} {f C : Addr} {ps : List Str} {sp : Sp} {E : XK} {x m : Str} {p pos apos : Pos} {e o : Expr} {es : List Expr} {ta : TE} {t : TA}
abbrev FnX (X : Cx) (CX : CXT) (k : Nat) (f : Addr) (ps : List Str) (sp : Sp) : Prop := FnD anyA X.prog X.w X.K X.mg X.base CX k f ps sp
/-- f(..) -/
theorem pe_callD (hx : Passes CX X E) (F : FnX X CX k f ps sp) (hr : Room j X.A) (hk : k ≤ j) (hg : Gl X x) (hm : X.mg x = some (.ref f)) (ha : L2.PA X (e :: es) t) (hdb : (x == ("__debug__" : Str)) = false := by decide)
    (he : starEach (e :: es) X.env = (false, eval e X.env) :: starEach es X.env := by rfl) (hpl : (backTo pos (starEach es X.env)).any (·.1) = false := by rfl) : PE X (.Call (.Name x p) (e :: es) [] pos) (tCall sp [] E t) := by
  obtain ⟨fd, F, b, kp⟩ := F
  exact pe_call (fnP_ok F) (hr.mono hk) hg hm kp b .nil hx ha hdb he hpl
/-- f(..) within a try -/
theorem pe_callDT {E : L2.St → XK} (hx : ∀ σ, PassesAt CX X σ (E σ)) (F : FnX X CX k f ps sp) (hr : Room j X.A) (hk : k ≤ j) (hg : Gl X x) (hm : X.mg x = some (.ref f)) (ha : L2.PA X (e :: es) t) (hdb : (x == ("__debug__" : Str)) = false := by decide)
    (he : starEach (e :: es) X.env = (false, eval e X.env) :: starEach es X.env := by rfl) (hpl : (backTo pos (starEach es X.env)).any (·.1) = false := by rfl) : PE X (.Call (.Name x p) (e :: es) [] pos) (tCallS sp E t) := by
  obtain ⟨fd, F, b, kp⟩ := F
  exact pe_callS (fnP_ok F) (hr.mono hk) hg hm kp b hx ha hdb he hpl
/-- f(.., lambda ..), the own cells frozen -/
theorem pe_callDZ {PA : Around → Prop} (hx : Passes CX X E) (hth : Thaws X.prog X.w CX) (hA : PA X.A) (F : FnD PA X.prog X.w X.K X.mg X.base CX k f ps sp) (hr : Room j X.A) (hk : k ≤ j) (hfn : ∀ y, X.fn y = true) (hg : Gl X x) (hm : X.mg x = some (.ref f)) (ha : L2.PA X (e :: es) t) (hdb : (x == ("__debug__" : Str)) = false := by decide)
    (he : starEach (e :: es) X.env = (false, eval e X.env) :: starEach es X.env := by rfl) (hpl : (backTo pos (starEach es X.env)).any (·.1) = false := by rfl) : PE X (.Call (.Name x p) (e :: es) [] pos) (tCallZ X sp E t) := by
  obtain ⟨fd, F, b, kp⟩ := F
  exact pe_callZ hA F (hr.mono hk) hg hm kp b hx hth hfn ha hdb he hpl
/-- o.m(), o.m(..) -/
theorem pe_methD0 {pl : Sem Bool} (hx : Passes CX X E) (he : PE X o ta) (c : Cls X.K C) (hm : Meth X.K C m f) (F : FnX X CX k f ps sp) (hr : Room j X.A) (hk : k ≤ j)
    (ht : eval (.Call (.Attribute o m apos) [] [] pos) X.env = (do
      let ov ← eval o X.env
      standAt apos.atName
      let (f, first) ← holding [ov] (getMethod ov m pl)
      callWith pos f first (backTo pos (starEach [] X.env)) (backToKw pos (keywordEach [] X.env))) := by rfl) : PE X (.Call (.Attribute o m apos) [] [] pos) (tMeth C m sp [] E ta tNil) := by
  obtain ⟨fd, F, b, kp⟩ := F
  exact pe_meth0 he c hm (fnP_ok F) (hr.mono hk) b .nil hx ht
/-- C(..) of an own class -/
theorem pe_makeD (hx : Passes CX X E) (M : Mk X.K C f) (F : FnX X CX k f ps sp) (hr : Room j X.A) (hk : k + 1 ≤ j) (hg : Gl X x) (hm : X.mg x = some (.ref C)) (ha : L2.PA X (e :: es) t) (hdb : (x == ("__debug__" : Str)) = false := by decide)
    (he : starEach (e :: es) X.env = (false, eval e X.env) :: starEach es X.env := by rfl) (hpl : (backTo pos (starEach es X.env)).any (·.1) = false := by rfl) : PE X (.Call (.Name x p) (e :: es) [] pos) (tMake C sp [] E t) := by
  obtain ⟨fd, F, b, kp⟩ := F
  exact pe_make M (fnP_ok F) (hr.mono hk) hg hm b .nil hx ha hdb he hpl
/-- an own exception class with an own __init__, as raise asks it -/
structure ExcM (K : PySem.W.Frag) (C fI : Addr) : Prop where
  o : OexC K C
  i : PySem.W.findIn K (.ref C) "__init__" = some (some (.ref fI))
  t : PySem.W.typeIn K (.ref fI) = some (.type "function")
theorem pmk_D {fI : Addr} (M : ExcM X.K C fI) (F : FnX X CX0 k fI ps sp) (hr : Room j X.A) (hk : k + 1 ≤ j) (hg : Gl X x) (hm : X.mg x = some (.ref C)) (ha : L2.PA X (e :: es) t) (hdb : (x == ("__debug__" : Str)) = false := by decide)
    (he : starEach (e :: es) X.env = (false, eval e X.env) :: starEach es X.env := by rfl) (hpl : (backTo pos (starEach es X.env)).any (·.1) = false := by rfl) : PMk X (.Call (.Name x p) (e :: es) [] pos) (tMkO C sp [] t) := by
  obtain ⟨fd, F, b, kp⟩ := F
  exact pmk_oex M.o M.i M.t (fnP_ok F) (hr.mono hk) b .nil (fun _ _ _ _ _ _ _ z => z.elim) hg hm ha hdb he hpl
end
/-- what a callee lets out goes on as this def's own -/
theorem passE {P : Program} {w : World} {K : PySem.W.Frag} {mg : Str → Option Value} {base : Heap} {N : List Str} {qual : Str} {scope : Scope} {f : Addr} {cd : Value} {A : Around} {outer : List Env} {s : Shared} {H : Hp} {E : XK} :
    Passes (L2.CX P w) (cxOf (L2.CX P w) P w K mg base N qual scope f cd A outer s H E) E := passes_call (takes_of rfl rfl rfl rfl) fun _ _ _ _ h => h
theorem takeE {P : Program} {w : World} {K : PySem.W.Frag} {mg : Str → Option Value} {base : Heap} {N : List Str} {qual : Str} {scope : Scope} {f : Addr} {cd : Value} {A : Around} {outer : List Env} {s : Shared} {H : Hp} {E : XK} :
    Takes (cxOf (L2.CX P w) P w K mg base N qual scope f cd A outer s H E) (fun cls d _ H => E cls d H) := takes_of rfl rfl rfl rfl
/-! ### texts -/
/-- a text from its codes -/
abbrev S (l : List Nat) : Str := ⟨l.toArray⟩
abbrev cs (x : Str) : List Nat := x.cps.toList
theorem S_cs (x : Str) : S (cs x) = x := by cases x; simp [S, cs]
theorem cs_S (l : List Nat) : cs (S l) = l := by simp [S, cs]
theorem S_inj {a b : List Nat} (h : S a = S b) : a = b := by rw [← cs_S a, h, cs_S]
theorem S_len (l : List Nat) : (S l).length = l.length := by show l.toArray.size = _; simp
theorem S_app (a b : List Nat) : S a ++ S b = S (a ++ b) := by
  show (⟨a.toArray ++ b.toArray⟩ : Str) = _
  simp [S]
/-- for ints and texts -/
theorem ints_at {K : PySem.W.Frag} {ns : List Int} {i : Nat} {y : V} (h : (ns.map V.int)[i]? = some y) : ∃ z, ns[i]? = some z ∧ y = .int z := by
  rw [List.getElem?_map] at h
  cases e : ns[i]? with
  | none => rw [e] at h; cases h
  | some z => rw [e] at h; exact ⟨z, rfl, (Option.some.inj h).symm⟩
theorem map_at {α : Type} {g : α → V} {ns : List α} {i : Nat} {y : V} (h : (ns.map g)[i]? = some y) : ∃ z, ns[i]? = some z ∧ y = g z := by
  rw [List.getElem?_map] at h
  cases e : ns[i]? with
  | none => rw [e] at h; cases h
  | some z => rw [e] at h; exact ⟨z, rfl, (Option.some.inj h).symm⟩
theorem take_more {α : Type} {l : List α} {i : Nat} {x : α} (h : l[i]? = some x) : l.take (i + 1) = l.take i ++ [x] := by
  rw [List.take_add_one, h]; rfl
end SV
/-! Part M: texts as lists of codes: words, lines, NUMBERs. -/
namespace SV
open PySem PySem.Spec PyProof.Rows L2 TL
theorem len_S (l : List Nat) : (S l).length = l.length := S_len l
/-- the signs of a NUMBER behind its minus -/
def dg (l : List Nat) : List Nat := if l.head? = some 45 then l.drop 1 else l
def isDg (c : Nat) : Bool := decide (48 ≤ c) && decide (c ≤ 57)
def isNum (l : List Nat) : Bool := (decide (1 ≤ (dg l).length) && decide ((dg l).length ≤ 4)) && ((dg l).all isDg && (if (dg l).head? = some 48 then decide (l = [48]) else true))
def numV (l : List Nat) : Int := if l.head? = some 45 then -((NumText.digitsVal (l.drop 1) : Nat) : Int) else ((NumText.digitsVal l : Nat) : Int)
theorem isNum_len {l : List Nat} (h : isNum l = true) : l.length ≤ 5 := by
  unfold isNum dg at h
  simp only [Bool.and_eq_true, decide_eq_true_eq] at h
  obtain ⟨⟨h1, h2⟩, _⟩ := h
  split at h2
  · rw [List.length_drop] at h2; omega
  · omega
theorem allDg {l : List Nat} (h : l.all isDg = true) : NumText.AllDigits l := fun c hc => by
  have z := List.all_eq_true.mp h c hc
  unfold isDg at z
  simp only [Bool.and_eq_true, decide_eq_true_eq] at z
  exact z
theorem isNum_int {l : List Nat} (h : isNum l = true) : intText? (S l) = some (numV l) := by
  have hl := isNum_len h
  unfold isNum dg at h
  simp only [Bool.and_eq_true, decide_eq_true_eq] at h
  obtain ⟨⟨h1, h2⟩, h3, h4⟩ := h
  unfold numV
  by_cases hm : l.head? = some 45
  · rw [if_pos hm] at h1 h2 h3 ⊢
    obtain ⟨r, rfl⟩ : ∃ r, l = 45 :: r := by
      cases l with
      | nil => cases hm
      | cons c r => exact ⟨r, by rw [Option.some.inj hm]⟩
    exact intText_neg (cs := r) (by simp [S]) (allDg h3) (fun z => by rw [z] at h1; simp at h1) (by rw [S_len]; omega)
  · rw [if_neg hm] at h1 h2 h3 ⊢
    have e : (S l).cps.toList = l := cs_S l
    have z := intText_digits (x := S l) (by rw [e]; exact allDg h3) (by rw [e]; intro q; rw [q] at h1; simp at h1) (by rw [S_len]; omega)
    rw [e] at z
    exact z
/-- a text cut at a sign -/
abbrev cut (c : Nat) (l : List Nat) : List (List Nat) := spl [c] 0 [] l
theorem split_S {c : Nat} (hc : c < 256) (l : List Nat) : Txt.split (S l) (S [c]) = (cut c l).map S := by
  have e := split_spl (S l) (S [c]) (by show (S [c]).cps.toList ≠ []; simp [S]) (kind_ok (by simp [S, hc]))
  have e1 : tl (S [c]) = [c] := cs_S _
  have e2 : tl (S l) = l := cs_S _
  rw [e1, e2] at e
  show _ = (spl [c] 0 [] l).map S
  rw [← e, List.map_map]
  have : (S ∘ tl : Str → Str) = id := by funext x; exact S_cs x
  rw [this, List.map_id]
theorem cut_ne (c : Nat) (l acc : List Nat) : spl [c] 0 acc l ≠ [] := by
  induction l generalizing acc with
  | nil => simp [spl]
  | cons a r ih =>
    unfold spl
    split
    · simp
    · exact ih _
theorem cut_len (c : Nat) (l acc : List Nat) : (spl [c] 0 acc l).length ≤ l.length + 1 := by
  induction l generalizing acc with
  | nil => simp [spl]
  | cons a r ih =>
    unfold spl
    split
    · have := ih []
      simp only [List.length_cons, List.length_nil]
      show (spl [c] 0 [] r).length + 1 ≤ _
      omega
    · have := ih (acc ++ [a])
      simp only [List.length_cons]
      omega
theorem cut_sum (c : Nat) (l acc : List Nat) : ∀ w ∈ spl [c] 0 acc l, w.length ≤ acc.length + l.length := by
  induction l generalizing acc with
  | nil => intro w hw; simp [spl] at hw; subst hw; simp
  | cons a r ih =>
    intro w hw
    unfold spl at hw
    split at hw
    · rcases List.mem_cons.mp hw with e | e
      · subst e; simp
      · have := ih [] w e
        simp at this ⊢
        omega
    · have := ih (acc ++ [a]) w hw
      simp at this ⊢
      omega
def wordsL (l : List Nat) : List (List Nat) := (cut 32 l).filter fun w => decide (w ≠ [])
theorem words_len (l : List Nat) : (wordsL l).length ≤ l.length + 1 := Nat.le_trans (List.length_filter_le _ _) (cut_len 32 l [])
theorem words_each (l : List Nat) : ∀ w ∈ wordsL l, w.length ≤ l.length := fun w hw => by
  have := cut_sum 32 l [] w (List.mem_filter.mp hw).1
  simpa using this
/-- all lines, numbered, with their words -/
def toldL (t : List Nat) : List (Nat × List (List Nat)) := (cut 10 t).mapIdx fun i l => (i + 1, wordsL l)
def rowsL (t : List Nat) : List (Nat × List (List Nat)) := (toldL t).filter fun r => decide (r.2 ≠ [])
theorem starts45 (l : List Nat) : Txt.startswith (S l) (S [45]) = decide (l.head? = some 45) := by
  rw [Bool.eq_iff_iff, decide_eq_true_eq]
  have e := at_iff (x := S l) (y := S [45]) (by show (S [45]).cps.toList ≠ []; simp [S]) 0
  have e1 : tl (S [45]) = [45] := cs_S _
  have e2 : tl (S l) = l := cs_S _
  rw [e1, e2, List.drop_zero] at e
  have e3 : Txt.startswith (S l) (S [45]) = true ↔ StrLaws.At (S l) (S [45]) (S l).length 0 := by
    unfold Txt.startswith StrLaws.At
    simp only [Bool.and_eq_true, decide_eq_true_eq]
  rw [e3]
  refine e.trans ?_
  unfold pre
  cases l with
  | nil => simp
  | cons a r => simp
theorem slice1 (l : List Nat) : cutS (S l) (some 1) none = S (l.drop 1) := by
  unfold cutS
  have e : (S l).cps.toList = l := cs_S l
  rw [e, S_len, HT.sIx_none, show (1 : Int) = ((1 : Nat) : Int) from rfl, HT.sIx_nat]
  congr 1
  cases l with
  | nil => simp
  | cons a r =>
    have : min 1 (a :: r).length = 1 := by simp
    rw [this]
    simp
theorem sliceLast (l : List Nat) : cutS (S l) none (some (-1)) = S (l.take (l.length - 1)) := by
  unfold cutS
  have e : (S l).cps.toList = l := cs_S l
  rw [e, S_len, HT.sIx_none]
  have e2 : HT.sIx l.length l.length (some (-1)) = l.length - 1 := by
    show (if (-1 : Int) < 0 then ((-1 : Int) + (l.length : Int)).toNat else min (-1 : Int).toNat l.length) = _
    rw [if_pos (by decide)]
    omega
  rw [e2]
  simp
end SV
namespace SV
open PySem L2
/-! The program's defs by their places, their names by slots. -/
def top (i : Nat) : Stmt := PySem.Challenge.pw_secondvoice_k96_whole_first_wrong_words.main.body.getD i (.Pass ⟨0, 0, 0, 0⟩)
abbrev s_BadText_init : Stmt := inClass (top 2) 0
theorem sc_BadText_init : FnScope ["self", "line", "word"] ["self", "line", "word"] (defScope s_BadText_init) := ⟨rfl, rfl, rfl, by decide +kernel, rfl, by decide +kernel, by decide +kernel⟩
abbrev s_BadName_init : Stmt := inClass (top 3) 0
theorem sc_BadName_init : FnScope ["self", "name"] ["self", "name"] (defScope s_BadName_init) := ⟨rfl, rfl, rfl, by decide +kernel, rfl, by decide +kernel, by decide +kernel⟩
abbrev s_BadNumber_init : Stmt := inClass (top 4) 0
theorem sc_BadNumber_init : FnScope ["self", "what", "number"] ["self", "what", "number"] (defScope s_BadNumber_init) := ⟨rfl, rfl, rfl, by decide +kernel, rfl, by decide +kernel, by decide +kernel⟩
abbrev s_BadRow_init : Stmt := inClass (top 5) 0
theorem sc_BadRow_init : FnScope ["self", "what", "row"] ["self", "what", "row"] (defScope s_BadRow_init) := ⟨rfl, rfl, rfl, by decide +kernel, rfl, by decide +kernel, by decide +kernel⟩
abbrev s_TakenName_init : Stmt := inClass (top 6) 0
theorem sc_TakenName_init : FnScope ["self", "name"] ["self", "name"] (defScope s_TakenName_init) := ⟨rfl, rfl, rfl, by decide +kernel, rfl, by decide +kernel, by decide +kernel⟩
abbrev s_Unlike_init : Stmt := inClass (top 7) 0
theorem sc_Unlike_init : FnScope ["self", "what"] ["self", "what"] (defScope s_Unlike_init) := ⟨rfl, rfl, rfl, by decide +kernel, rfl, by decide +kernel, by decide +kernel⟩
abbrev s_TooMany_init : Stmt := inClass (top 8) 0
theorem sc_TooMany_init : FnScope ["self", "what", "many", "limit"] ["self", "what", "many", "limit"] (defScope s_TooMany_init) := ⟨rfl, rfl, rfl, by decide +kernel, rfl, by decide +kernel, by decide +kernel⟩
abbrev s_NothingToUndo_init : Stmt := inClass (top 9) 0
theorem sc_NothingToUndo_init : FnScope ["self"] ["self"] (defScope s_NothingToUndo_init) := ⟨rfl, rfl, rfl, by decide +kernel, rfl, by decide +kernel, by decide +kernel⟩
abbrev s_NothingToRedo_init : Stmt := inClass (top 10) 0
theorem sc_NothingToRedo_init : FnScope ["self"] ["self"] (defScope s_NothingToRedo_init) := ⟨rfl, rfl, rfl, by decide +kernel, rfl, by decide +kernel, by decide +kernel⟩
abbrev s_is_number_word : Stmt := top 14
theorem sc_is_number_word : FnScope ["word", "digits", "sign"] ["word"] (defScope s_is_number_word) := ⟨rfl, rfl, rfl, by decide +kernel, rfl, by decide +kernel, by decide +kernel⟩
abbrev s_split_words : Stmt := top 15
theorem sc_split_words : FnScope ["line", "word"] ["line"] (defScope s_split_words) := ⟨rfl, rfl, rfl, by decide +kernel, rfl, by decide +kernel, by decide +kernel⟩
abbrev s_lines_of : Stmt := top 16
theorem sc_lines_of : FnScope ["text", "told", "at", "line", "row"] ["text"] (defScope s_lines_of) := ⟨rfl, rfl, rfl, by decide +kernel, rfl, by decide +kernel, by decide +kernel⟩
abbrev s_Line_init : Stmt := inClass (top 17) 0
theorem sc_Line_init : FnScope ["self", "number", "words"] ["self", "number", "words"] (defScope s_Line_init) := ⟨rfl, rfl, rfl, by decide +kernel, rfl, by decide +kernel, by decide +kernel⟩
abbrev s_Line_is_end : Stmt := inClass (top 17) 1
theorem sc_Line_is_end : FnScope ["self"] ["self"] (defScope s_Line_is_end) := ⟨rfl, rfl, rfl, by decide +kernel, rfl, by decide +kernel, by decide +kernel⟩
abbrev s_Line_seen : Stmt := inClass (top 17) 2
theorem sc_Line_seen : FnScope ["self"] ["self"] (defScope s_Line_seen) := ⟨rfl, rfl, rfl, by decide +kernel, rfl, by decide +kernel, by decide +kernel⟩
abbrev s_Line_skip : Stmt := inClass (top 17) 3
theorem sc_Line_skip : FnScope ["self"] ["self"] (defScope s_Line_skip) := ⟨rfl, rfl, rfl, by decide +kernel, rfl, by decide +kernel, by decide +kernel⟩
abbrev s_Rows_init : Stmt := inClass (top 18) 0
theorem sc_Rows_init : FnScope ["self", "rows"] ["self", "rows"] (defScope s_Rows_init) := ⟨rfl, rfl, rfl, by decide +kernel, rfl, by decide +kernel, by decide +kernel⟩
abbrev s_Rows_is_end : Stmt := inClass (top 18) 1
theorem sc_Rows_is_end : FnScope ["self"] ["self"] (defScope s_Rows_is_end) := ⟨rfl, rfl, rfl, by decide +kernel, rfl, by decide +kernel, by decide +kernel⟩
abbrev s_Rows_next_line : Stmt := inClass (top 18) 2
theorem sc_Rows_next_line : FnScope ["self", "number", "words"] ["self"] (defScope s_Rows_next_line) := ⟨rfl, rfl, rfl, by decide +kernel, rfl, by decide +kernel, by decide +kernel⟩
abbrev s_need_word : Stmt := top 19
theorem sc_need_word : FnScope ["line", "tell", "word"] ["line", "tell"] (defScope s_need_word) := ⟨rfl, rfl, rfl, by decide +kernel, rfl, by decide +kernel, by decide +kernel⟩
abbrev s_need_one : Stmt := top 20
theorem sc_need_one : FnScope ["line", "some"] ["line", "some"] (defScope s_need_one) := ⟨rfl, rfl, rfl, by decide +kernel, rfl, by decide +kernel, by decide +kernel⟩
abbrev s_need_number : Stmt := top 21
theorem sc_need_number : FnScope ["line", "tell"] ["line", "tell"] (defScope s_need_number) := ⟨rfl, rfl, rfl, by decide +kernel, rfl, by decide +kernel, by decide +kernel⟩
abbrev s_need_end : Stmt := top 22
theorem sc_need_end : FnScope ["line"] ["line"] (defScope s_need_end) := ⟨rfl, rfl, rfl, by decide +kernel, rfl, by decide +kernel, by decide +kernel⟩
abbrev s_read_notes : Stmt := top 24
theorem sc_read_notes : FnScope ["line", "word", "many", "found"] ["line", "word", "many"] (defScope s_read_notes) := ⟨rfl, rfl, rfl, by decide +kernel, rfl, by decide +kernel, by decide +kernel⟩
abbrev s_piece_of_text : Stmt := top 25
theorem sc_piece_of_text : FnScope ["text", "rows", "melody", "voice"] ["text"] (defScope s_piece_of_text) := ⟨rfl, rfl, rfl, by decide +kernel, rfl, by decide +kernel, by decide +kernel⟩
abbrev s_law_split : Stmt := top 27
theorem sc_law_split : FnScope ["line", "word"] ["line"] (defScope s_law_split) := ⟨rfl, rfl, rfl, by decide +kernel, rfl, by decide +kernel, by decide +kernel⟩
abbrev s_law_is_number : Stmt := top 28
theorem sc_law_is_number : FnScope ["word", "digits", "sign"] ["word"] (defScope s_law_is_number) := ⟨rfl, rfl, rfl, by decide +kernel, rfl, by decide +kernel, by decide +kernel⟩
abbrev s_law_text_lines : Stmt := top 29
theorem sc_law_text_lines : FnScope ["text", "lines", "at"] ["text"] (defScope s_law_text_lines) := ⟨rfl, rfl, rfl, by decide +kernel, rfl, by decide +kernel, by decide +kernel⟩
abbrev s_law_text : Stmt := top 30
theorem sc_law_text : FnScope ["lines", "words"] ["lines"] (defScope s_law_text) := ⟨rfl, rfl, rfl, by decide +kernel, rfl, by decide +kernel, by decide +kernel⟩
abbrev s_law_loose : Stmt := top 31
theorem sc_law_loose : FnScope ["pen", "text", "lines", "line", "gap"] ["pen", "text"] (defScope s_law_loose) := ⟨rfl, rfl, rfl, by decide +kernel, rfl, by decide +kernel, by decide +kernel⟩
abbrev s_law_bent_words : Stmt := top 32
theorem sc_law_bent_words : FnScope ["pen", "words", "odds", "at", "way", "odd"] ["pen", "words", "odds"] (defScope s_law_bent_words) := ⟨rfl, rfl, rfl, by decide +kernel, rfl, by decide +kernel, by decide +kernel⟩
abbrev s_law_pen : Stmt := top 33
theorem sc_law_pen : FnScope ["script", "fold", "cell"] ["script"] (defScope s_law_pen) := ⟨rfl, rfl, rfl, by decide +kernel, rfl, by decide +kernel, by decide +kernel⟩
abbrev s_law_draw : Stmt := top 34
theorem sc_law_draw : FnScope ["pen", "many", "cell", "digit", "blend"] ["pen", "many"] (defScope s_law_draw) := ⟨rfl, rfl, rfl, by decide +kernel, rfl, by decide +kernel, by decide +kernel⟩
abbrev s_law_pick : Stmt := top 35
theorem sc_law_pick : FnScope ["pen", "some"] ["pen", "some"] (defScope s_law_pick) := ⟨rfl, rfl, rfl, by decide +kernel, rfl, by decide +kernel, by decide +kernel⟩
abbrev s_law_is : Stmt := top 36
theorem sc_law_is : FnScope ["told", "due", "at"] ["told", "due"] (defScope s_law_is) := ⟨rfl, rfl, rfl, by decide +kernel, rfl, by decide +kernel, by decide +kernel⟩
abbrev s_law_caught : Stmt := top 37
theorem sc_law_caught : FnScope ["action", "e", "found"] ["action"] (defScope s_law_caught) := ⟨rfl, rfl, rfl, by decide +kernel, rfl, by decide +kernel, by decide +kernel⟩
abbrev s_law_read_piece : Stmt := top 38
theorem sc_law_read_piece : FnScope ["text", "lines", "rows", "at", "number", "words", "many", "place", "word"] ["text"] (defScope s_law_read_piece) := ⟨rfl, rfl, rfl, by decide +kernel, rfl, by decide +kernel, by decide +kernel⟩
abbrev s_law_right : Stmt := top 39
theorem sc_law_right : FnScope ["text", "due", "piece"] ["text"] (defScope s_law_right) := ⟨rfl, rfl, rfl, by decide +kernel, rfl, by decide +kernel, by decide +kernel⟩
abbrev s_law : Stmt := top 40
theorem sc_law : FnScope ["script", "pen", "lap", "many", "lines", "at", "way", "text", "value", "beat", "words"] ["script"] (defScope s_law) := ⟨rfl, rfl, rfl, by decide +kernel, rfl, by decide +kernel, by decide +kernel⟩
end SV
namespace SV
open PySem PySem.Spec PyProof.Rows L2 TL LamX NdefX
/-- where the defs and classes stand -/
structure Ad where
  (VE BT BTi BR BRi NU NR BN TN BNu UL TM : Addr)
  (is_number_word split_words lines_of Line Linei Line_is_end Line_seen Line_skip Rows Rowsi Rows_is_end Rows_next_line : Addr)
  (need_word need_one need_number need_end read_notes piece_of_text law_split law_is_number law_text_lines law_text law_loose law_bent_words law_pen law_draw law_pick law_is law_caught law_read_piece law_right law : Addr)
  (c_need_one c_need_number c_read_notes c_law_right c_law t_need_one t_need_number t_read_notes t_law_right t_law : Addr)
/-- what the top has written -/
structure Txt (K : PySem.W.Frag) (mg : Str → Option Value) (A : Ad) : Prop where
  n_len : mg "len" = none
  n_isinstance : mg "isinstance" = none
  n_int : mg "int" = none
  n_bool : mg "bool" = none
  n_tuple : mg "tuple" = none
  n_list : mg "list" = none
  n_str : mg "str" = none
  n_all : mg "all" = none
  n_enumerate : mg "enumerate" = none
  n_zip : mg "zip" = none
  n_range : mg "range" = none
  n_max : mg "max" = none
  m_DIGITS : ∃ t, mg "DIGITS" = some (.str "0123456789" t)
  m_MOST : ∃ t, mg "MOST_DIGITS" = some (.int 4 t)
  m_VE : mg "VoicesError" = some (.ref A.VE)
  o_VE : OwnB K A.VE
  m_BT : mg "BadText" = some (.ref A.BT)
  e_BT : ExcM K A.BT A.BTi
  f_BT1 : PySem.W.findIn K (.ref A.BT) "line" = some none
  f_BT2 : PySem.W.findIn K (.ref A.BT) "word" = some none
  d_BTi : DefT K "__init__" "BadText.__init__" s_BadText_init ["self", "line", "word"] A.BTi
  m_BR : mg "BadRow" = some (.ref A.BR)
  e_BR : ExcM K A.BR A.BRi
  f_BR1 : PySem.W.findIn K (.ref A.BR) "what" = some none
  f_BR2 : PySem.W.findIn K (.ref A.BR) "row" = some none
  d_BRi : DefT K "__init__" "BadRow.__init__" s_BadRow_init ["self", "what", "row"] A.BRi
  m_is_number_word : mg "is_number_word" = some (.ref A.is_number_word)
  d_is_number_word : DefT K "is_number_word" "is_number_word" s_is_number_word ["word"] A.is_number_word
  m_split_words : mg "split_words" = some (.ref A.split_words)
  d_split_words : DefT K "split_words" "split_words" s_split_words ["line"] A.split_words
  m_lines_of : mg "lines_of" = some (.ref A.lines_of)
  d_lines_of : DefT K "lines_of" "lines_of" s_lines_of ["text"] A.lines_of
  m_Line : mg "Line" = some (.ref A.Line)
  c_Line : Cls K A.Line
  k_Line : Mk K A.Line A.Linei
  a_Line1 : NoAttr K A.Line "number"
  a_Line2 : NoAttr K A.Line "words"
  a_Line3 : NoAttr K A.Line "at"
  d_Linei : DefT K "__init__" "Line.__init__" s_Line_init ["self", "number", "words"] A.Linei
  d_Line_is_end : DefT K "is_end" "Line.is_end" s_Line_is_end ["self"] A.Line_is_end
  t_Line_is_end : Meth K A.Line "is_end" A.Line_is_end
  d_Line_seen : DefT K "seen" "Line.seen" s_Line_seen ["self"] A.Line_seen
  t_Line_seen : Meth K A.Line "seen" A.Line_seen
  d_Line_skip : DefT K "skip" "Line.skip" s_Line_skip ["self"] A.Line_skip
  t_Line_skip : Meth K A.Line "skip" A.Line_skip
  m_Rows : mg "Rows" = some (.ref A.Rows)
  c_Rows : Cls K A.Rows
  k_Rows : Mk K A.Rows A.Rowsi
  a_Rows1 : NoAttr K A.Rows "rows"
  a_Rows2 : NoAttr K A.Rows "at"
  d_Rowsi : DefT K "__init__" "Rows.__init__" s_Rows_init ["self", "rows"] A.Rowsi
  d_Rows_is_end : DefT K "is_end" "Rows.is_end" s_Rows_is_end ["self"] A.Rows_is_end
  t_Rows_is_end : Meth K A.Rows "is_end" A.Rows_is_end
  d_Rows_next_line : DefT K "next_line" "Rows.next_line" s_Rows_next_line ["self"] A.Rows_next_line
  t_Rows_next_line : Meth K A.Rows "next_line" A.Rows_next_line
  m_need_word : mg "need_word" = some (.ref A.need_word)
  d_need_word : DefT K "need_word" "need_word" s_need_word ["line", "tell"] A.need_word
  m_need_one : mg "need_one" = some (.ref A.need_one)
  d_need_one : DefC K "need_one" "need_one" s_need_one ["line", "some"] A.need_one A.c_need_one
  m_need_number : mg "need_number" = some (.ref A.need_number)
  d_need_number : DefC K "need_number" "need_number" s_need_number ["line", "tell"] A.need_number A.c_need_number
  m_need_end : mg "need_end" = some (.ref A.need_end)
  d_need_end : DefT K "need_end" "need_end" s_need_end ["line"] A.need_end
  m_read_notes : mg "read_notes" = some (.ref A.read_notes)
  d_read_notes : DefC K "read_notes" "read_notes" s_read_notes ["line", "word", "many"] A.read_notes A.c_read_notes
  m_piece_of_text : mg "piece_of_text" = some (.ref A.piece_of_text)
  d_piece_of_text : DefT K "piece_of_text" "piece_of_text" s_piece_of_text ["text"] A.piece_of_text
  m_law_text : mg "_law_text" = some (.ref A.law_text)
  d_law_text : DefT K "_law_text" "_law_text" s_law_text ["lines"] A.law_text
  m_law_loose : mg "_law_loose" = some (.ref A.law_loose)
  d_law_loose : DefT K "_law_loose" "_law_loose" s_law_loose ["pen", "text"] A.law_loose
  m_law_pen : mg "_law_pen" = some (.ref A.law_pen)
  d_law_pen : DefT K "_law_pen" "_law_pen" s_law_pen ["script"] A.law_pen
  m_law_draw : mg "_law_draw" = some (.ref A.law_draw)
  d_law_draw : DefT K "_law_draw" "_law_draw" s_law_draw ["pen", "many"] A.law_draw
  m_law_pick : mg "_law_pick" = some (.ref A.law_pick)
  d_law_pick : DefT K "_law_pick" "_law_pick" s_law_pick ["pen", "some"] A.law_pick
  m_law_is : mg "_law_is" = some (.ref A.law_is)
  d_law_is : DefT K "_law_is" "_law_is" s_law_is ["told", "due"] A.law_is
  m_law_split : mg "_law_split" = some (.ref A.law_split)
  d_law_split : DefT K "_law_split" "_law_split" s_law_split ["line"] A.law_split
  m_law_is_number : mg "_law_is_number" = some (.ref A.law_is_number)
  d_law_is_number : DefT K "_law_is_number" "_law_is_number" s_law_is_number ["word"] A.law_is_number
  m_law_text_lines : mg "_law_text_lines" = some (.ref A.law_text_lines)
  d_law_text_lines : DefT K "_law_text_lines" "_law_text_lines" s_law_text_lines ["text"] A.law_text_lines
  m_law_bent_words : mg "_law_bent_words" = some (.ref A.law_bent_words)
  d_law_bent_words : DefT K "_law_bent_words" "_law_bent_words" s_law_bent_words ["pen", "words", "odds"] A.law_bent_words
  m_law_caught : mg "_law_caught" = some (.ref A.law_caught)
  d_law_caught : DefT K "_law_caught" "_law_caught" s_law_caught ["action"] A.law_caught
  m_law_read_piece : mg "_law_read_piece" = some (.ref A.law_read_piece)
  d_law_read_piece : DefT K "_law_read_piece" "_law_read_piece" s_law_read_piece ["text"] A.law_read_piece
  m_law_right : mg "_law_right" = some (.ref A.law_right)
  d_law_right : DefC K "_law_right" "_law_right" s_law_right ["text"] A.law_right A.c_law_right
theorem pe_globS {X : Cx} {x : Str} {z : Str} {pos : Pos} (hg : Gl X x) (hm : ∃ t, X.mg x = some (.str z t)) (hd : (x == ("__debug__" : Str)) = false := by decide) : PE X (.Name x pos) (tC (.str z)) := by
  obtain ⟨t, hm⟩ := hm
  exact pe_glob hg hm ⟨t, rfl⟩ hd
theorem pe_globI {X : Cx} {x : Str} {z : Int} {pos : Pos} (hg : Gl X x) (hm : ∃ t, X.mg x = some (.int z t)) (hd : (x == ("__debug__" : Str)) = false := by decide) : PE X (.Name x pos) (tC (.int z)) := by
  obtain ⟨t, hm⟩ := hm
  exact pe_glob hg hm ⟨t, rfl⟩ hd
section
variable {P : Program} {w : World} {K : PySem.W.Frag} {mg : Str → Option Value} {base : Heap} {A : Ad}
theorem e_minus : (Str.ofString "-") = S [45] := by decide +kernel
theorem e_zero : (Str.ofString "0") = S [48] := by decide +kernel
theorem e_digits : cs (Str.ofString "0123456789") = [48, 49, 50, 51, 52, 53, 54, 55, 56, 57] := by decide +kernel
theorem in_digits (c : Nat) : decide (c ∈ cs (Str.ofString "0123456789")) = isDg c := by
  rw [e_digits, Bool.eq_iff_iff]
  unfold isDg
  simp
  omega

theorem join2 {c : Bool} {F : V → Hp → Prop} {H : Hp} {p q : (V → Hp → Prop) → Prop} {a b : V} (hp : ∀ G : V → Hp → Prop, G a H → p G) (hq : ∀ G : V → Hp → Prop, G b H → q G) (h : F (if c = true then a else b) H) : if c = true then p F else q F := by
  cases c with
  | true => rw [if_pos rfl] at h ⊢; exact hp F h
  | false => rw [if_neg (by decide)] at h ⊢; exact hq F h
theorem ifT {b : Bool} {p q : Prop} (h : b = true) (hp : p) : if b = true then p else q := by rw [if_pos h]; exact hp
theorem ifF {b : Bool} {p q : Prop} (h : b = false) (hq : q) : if b = true then p else q := by rw [if_neg (by rw [h]; decide)]; exact hq
theorem acc_step {H1 : Hp} {D : Addr} {a b : List V} {y : V} (e : b = a ++ [y]) (hl : a.length < sizeLine) :
    ∃ acc, (upd H1 D (.lst a)) D = some (.lst acc) ∧ acc.length < sizeLine ∧ upd (upd H1 D (.lst a)) D (.lst (acc ++ [y])) = upd H1 D (.lst b) :=
  ⟨a, upd_same, hl, by rw [upd_upd, e]⟩
end
end SV
namespace SV
open PySem PySem.Spec PyProof.Rows L2 TL LamX NdefX
section
variable {P : Program} {w : World} {K : PySem.W.Frag} {mg : Str → Option Value} {base : Heap} {A : Ad}
def spIsNum : Sp := fun vs H Q _ => ∃ l : List Nat, vs = [.str (S l)] ∧ l.length ≤ sizeLine ∧ ∀ H', Same H H' → Q (.bl (isNum l)) H'
theorem ok_is_number_word (T : Txt K mg A) : FnD anyA P w K mg base CX0 1 A.is_number_word ["word"] spIsNum := by
  refine T.d_is_number_word.ok0 sc_is_number_word (fun vs H Q E h => ?_) (fun cdv A' outer s H vs Q E hr h => ?_)
  · obtain ⟨l, rfl, _⟩ := h
    rfl
  · obtain ⟨l, rfl, hl, k⟩ := h
    refine ⟨_, (pss_cons (ps_set (i := 1) sc_is_number_word.nd rfl (.inl rfl) (pe_ifExp (pt_val (pe_m1 PySem.F.slot_str_startswith PySem.F.type_str_startswith mt_startswith (pv 0) pe_str)) (pe_slice sl_str (pv 0) (po_some pe_int) po_none) (pv 0)))
      (pss_cons (ps_if (PW.pt (pw_or (pt_not (pt_chain op_le op_le pe_int (pe_callB call_len_str (by rfl) T.n_len (by decide +kernel) (pa_cons (pv 1) pa_nil)) (pe_globI rfl T.m_MOST))) (pw_or1 (pt_not (pt_val (pe_callB (cr_all rfl) (by rfl) T.n_all (by decide +kernel) (pa_cons (pe_lc (own := [("sign", 2)]) rfl sc_is_number_word.nd (pi_str (pv 1)) (blkOk_by (own := [("sign", 2)]) (N := ["word", "digits", "sign"]) (sc := defScope s_is_number_word) (by decide +kernel)) (fun _ _ _ _ _ => (pg_name (i := 2) sc_is_number_word.nd rfl (.inl rfl))) (fun _ _ _ _ _ => pts_nil) (fun _ _ _ _ _ => (pe_cmpR op_in_sign (pv 2) (pe_globS rfl T.m_DIGITS) (by rfl)))) pa_nil)))))))
      (pss_one (ps_ret pe_bl))
      pss_nil)
      (pss_cons (ps_if (pt_cmpR op_eq (pe_ix ix_str (pv 1) pe_int (fun _ _ => rfl)) pe_str (nomark _))
      (pss_one (ps_ret (pe_cmpR op_eq (pv 0) pe_str (nomark _))))
      pss_nil)
      (pss_one (ps_ret pe_bl))))), ?_⟩
    refine ⟨_, rfl, ⟨_, rfl⟩, S l, _, rfl, rfl, _, rfl, ?_⟩
    refine join2 (H := H) (a := .str (S (l.drop 1))) (b := .str (S l)) (p := tSl _ _ _ _ _ _) (q := tVar _ _ _) (fun G g => ?_) (fun G g => ?_) ?_
    · refine ⟨_, rfl, _, rfl, S l, rfl, by rw [S_len]; exact hl, ?_⟩
      rw [slice1]
      exact g
    · exact ⟨_, rfl, g⟩
    rw [e_minus, starts45]
    have ex : (if decide (l.head? = some 45) = true then V.str (S (l.drop 1)) else .str (S l)) = V.str (S (dg l)) := by
      unfold dg
      by_cases h : l.head? = some 45 <;> simp [h]
    rw [ex]
    have hd : (dg l).length ≤ l.length := by
      unfold dg
      split
      · rw [List.length_drop]; omega
      · exact Nat.le_refl _
    have kF : isNum l = false → ∀ H', Same H H' → Q (.bl false) H' := fun e H' z => e ▸ k H' z
    have kT : isNum l = true → ∀ H', Same H H' → Q (.bl true) H' := fun e H' z => e ▸ k H' z
    refine ⟨_, rfl, S (dg l), rfl, by rw [S_len]; omega, 1, _, rfl, rfl, _, rfl, ?_⟩
    rw [S_len]
    by_cases h1 : 1 ≤ (dg l).length
    rotate_left
    · refine ifF (by simp only [Bool.not_eq_true', Bool.not_eq_false', decide_eq_true_eq, decide_eq_false_iff_not]; omega) ?_
      exact ⟨_, rfl, kF (by unfold isNum; simp [h1]) H (fun _ _ e => e)⟩
    refine ifT (by simp only [Bool.not_eq_true', Bool.not_eq_false', decide_eq_true_eq, decide_eq_false_iff_not]; omega) ?_
    refine ⟨_, _, rfl, rfl, _, rfl, ?_⟩
    by_cases h2 : (dg l).length ≤ 4
    rotate_left
    · refine ifT (by simp only [Bool.not_eq_true', Bool.not_eq_false', decide_eq_true_eq, decide_eq_false_iff_not]; omega) ?_
      exact kF (by unfold isNum; simp [h2]) H (fun _ _ e => e)
    refine ifF (by simp only [Bool.not_eq_true', Bool.not_eq_false', decide_eq_true_eq, decide_eq_false_iff_not]; omega) ?_
    refine ⟨_, rfl, _, rfl, fun D hD => ?_⟩
    refine lc_it walk_str (fun i H' => H' = upd H D (.lst (((dg l).take i).map fun c => V.bl (isDg c)))) (by simp) (fun _ _ _ _ => trivial) ?_ ?_
    · rintro i x _ _ hi rfl ⟨rfl, c, hc, rfl⟩
      refine ⟨rfl, ⟨_, rfl, c, _, rfl, rfl, ?_⟩⟩
      rw [in_digits]
      have hc' : (dg l)[i]? = some c := by simpa [S] using hc
      exact acc_step (by rw [take_more hc', List.map_append]; rfl) (by
        have := List.length_take_le i (dg l)
        rw [List.length_map, List.length_take]
        have := sizeLine_eq
        omega)
    · rintro H' rfl
      have en : (S (dg l)).cps.size = (dg l).length := S_len _
      rw [en, List.take_length]
      refine ⟨D, (dg l).map isDg, rfl, .inl (.inl (by rw [upd_same, List.map_map]; rfl)), _, rfl, ?_⟩
      have ea : ((dg l).map isDg).all id = (dg l).all isDg := by rw [List.all_map]; rfl
      rw [ea]
      by_cases h3 : (dg l).all isDg = true
      rotate_left
      · refine ifT (by simpa using h3) ?_
        exact kF (by unfold isNum; simp [h3]) _ (same_upd hD)
      refine ifF (by simpa using h3) ?_
      obtain ⟨c, r, ec⟩ : ∃ c r, dg l = c :: r := by
        cases e : dg l with
        | nil => rw [e] at h1; simp at h1
        | cons c r => exact ⟨c, r, rfl⟩
      refine ⟨_, rfl, S (dg l), 0, c, rfl, rfl, by rw [S_len]; omega, by show atI (dg l) ((0 : Nat) : Int) = some c; rw [ec]; exact atI_nat (by rfl), rfl, _, rfl, ?_⟩
      have en0 : isNum l = (if c = 48 then decide (l = [48]) else true) := by
        unfold isNum
        rw [decide_eq_true h1, decide_eq_true h2, h3, ec]
        simp only [Bool.and_self, Bool.true_and, List.head?_cons, Option.some.injEq]
      have e0 : decide (V.str ⟨#[c]⟩ = V.str (Str.ofString "0")) = decide (c = 48) := by
        rw [e_zero]
        simp [S]
      rw [e0]
      by_cases h4 : c = 48
      · refine ifT (by simpa using h4) ?_
        refine ⟨_, rfl, rfl, ?_⟩
        rw [e_zero]
        have e1 : decide (V.str (S l) = V.str (S [48])) = isNum l := by
          rw [en0, if_pos h4]
          simp [S]
        rw [e1]
        exact k _ (same_upd hD)
      · refine ifF (by simpa using h4) ?_
        exact kT (by rw [en0, if_neg h4]) _ (same_upd hD)
end
end SV
namespace SV
open PySem PySem.Spec PyProof.Rows L2 TL LamX NdefX
/-! ### lists told item by item -/
inductive All2 {α β : Type} (R : α → β → Prop) : List α → List β → Prop where
  | nil : All2 R [] []
  | cons {a : α} {b : β} {as : List α} {bs : List β} (h : R a b) (t : All2 R as bs) : All2 R (a :: as) (b :: bs)
section
variable {α β : Type} {R R' : α → β → Prop} {as : List α} {bs : List β}
theorem All2.len (h : All2 R as bs) : as.length = bs.length := by induction h <;> simp [*]
theorem All2.mono (h : All2 R as bs) (f : ∀ a b, R a b → R' a b) : All2 R' as bs := by
  induction h with
  | nil => exact .nil
  | cons h _ ih => exact .cons (f _ _ h) ih
theorem All2.snoc {a : α} {b : β} (h : All2 R as bs) (r : R a b) : All2 R (as ++ [a]) (bs ++ [b]) := by
  induction h with
  | nil => exact .cons r .nil
  | cons h _ ih => exact .cons h ih
theorem All2.at (h : All2 R as bs) {i : Nat} {a : α} (e : as[i]? = some a) : ∃ b, bs[i]? = some b ∧ R a b := by
  induction h generalizing i with
  | nil => cases e
  | cons h _ ih =>
    cases i with
    | zero => cases e; exact ⟨_, rfl, h⟩
    | succ i => exact ih e
theorem All2.at' (h : All2 R as bs) {i : Nat} {b : β} (e : bs[i]? = some b) : ∃ a, as[i]? = some a ∧ R a b := by
  induction h generalizing i with
  | nil => cases e
  | cons h _ ih =>
    cases i with
    | zero => cases e; exact ⟨_, rfl, h⟩
    | succ i => exact ih e
end
theorem map_atG {α β : Type} {g : α → β} {ns : List α} {i : Nat} {y : β} (h : (ns.map g)[i]? = some y) : ∃ z, ns[i]? = some z ∧ y = g z := by
  rw [List.getElem?_map] at h
  cases e : ns[i]? with
  | none => rw [e] at h; cases h
  | some z => rw [e] at h; exact ⟨z, rfl, (Option.some.inj h).symm⟩
/-- a word as a value -/
abbrev wV (l : List Nat) : V := .str (S l)
/-- a row: a pair of its number and its words -/
def RowAt (H : Hp) (v : V) (r : Nat × List (List Nat)) : Prop := ∃ t p, v = .ref t ∧ H t = some (.tup [.int r.1, .ref p]) ∧ H p = some (.lst (r.2.map wV))
theorem RowAt.same {H H' : Hp} {v : V} {r : Nat × List (List Nat)} (s : Same H H') (h : RowAt H v r) : RowAt H' v r := by
  obtain ⟨t, p, e, h1, h2⟩ := h
  exact ⟨t, p, e, s _ _ h1, s _ _ h2⟩
theorem del_upd {H : Hp} {a : Addr} {o : HO} : del (upd H a o) a = del H a := by
  funext b
  unfold del upd
  by_cases h : b = a <;> simp [h]
theorem del_none {H : Hp} {a : Addr} (h : H a = none) : del H a = H := by
  funext b
  unfold del
  by_cases e : b = a
  · simp [e, h]
  · simp [e]
theorem same_del {H : Hp} {a : Addr} : Same (del H a) H := fun b o e => by
  unfold del at e
  by_cases h : b = a
  · simp [h] at e
  · simpa [h] using e
theorem del_new {H : Hp} {a p : Addr} {o : HO} (n : H p = none) (ne : p ≠ a) : Same (del H a) (del (upd H p o) a) := fun b u e => by
  by_cases h : b = a
  · rw [h, del_same] at e; cases e
  · rw [del_ne h] at e ⊢
    exact (upd_ne fun z => by rw [z, n] at e; cases e).trans e
theorem same_trans {H H1 H2 : Hp} (a : Same H H1) (b : Same H1 H2) : Same H H2 := fun x o e => b x o (a x o e)
theorem del_mono {H H1 : Hp} {a : Addr} (s : Same H H1) : Same (del H a) (del H1 a) := fun b o e => by
  by_cases h : b = a
  · rw [h, del_same] at e; cases e
  · rw [del_ne h] at e ⊢; exact s b o e
/-! ### the exceptions' __init__ -/
def spX2 (C : Addr) (f1 f2 : Str) : Sp := fun vs H Q _ => ∃ a x y, vs = [.ref a, x, y] ∧ H a = some (exo a C none) ∧ ∀ d, H d = none → d ≠ a → Q .non (upd (upd H a (exo a C (some d))) d (exd d [(f2, y), (f1, x)]))
section
variable {P : Program} {w : World} {K : PySem.W.Frag} {mg : Str → Option Value} {base : Heap} {A : Ad}
theorem fin_X2 {C : Addr} {f1 f2 : Str} {x y : V} {H1 : Hp} {Q : XK} (h : ∀ d, H1 d = none → Q (.ref C) (some d) (upd H1 d (.xd [(f2, y), (f1, x)]))) :
    ([x, y] : List V).length ≤ 1000 ∧ ∀ a, H1 a = none → spX2 C f1 f2 (.ref a :: ([x, y] ++ [])) (upd H1 a (exo a C none))
      (fun v H2 => v = .non ∧ ∃ (d : Addr) (fs : List (Str × V)), H2 a = some (exo a C (some d)) ∧ H2 d = some (exd d fs) ∧ H1 d = none ∧ Q (.ref C) (some d) (upd (del H2 a) d (.xd fs))) (fun _ _ _ => False) := by
  refine ⟨by simp, fun a ha => ⟨a, x, y, rfl, upd_same, fun d hd ne => ⟨rfl, d, _, (upd_ne (Ne.symm ne)).trans upd_same, upd_same, ?_, ?_⟩⟩⟩
  · rw [upd_ne ne] at hd
    exact hd
  · rw [upd_ne ne] at hd
    have e : upd (del (upd (upd (upd H1 a (exo a C none)) a (exo a C (some d))) d (exd d [(f2, y), (f1, x)])) a) d (.xd [(f2, y), (f1, x)]) = upd H1 d (.xd [(f2, y), (f1, x)]) := by
      funext b
      by_cases e1 : b = d
      · subst e1; rw [upd_same, upd_same]
      · rw [upd_ne e1, upd_ne e1]
        by_cases e2 : b = a
        · subst e2; rw [del_same, ha]
        · rw [del_ne e2, upd_ne e1, upd_ne e2, upd_ne e2]
    rw [e]
    exact h d hd
theorem ok_X2 {x qual : Str} {st : Stmt} {C fI : Addr} {f1 f2 : Str} {N : List Str} (hne : f1 ≠ f2) (O : OexC K C) (h1 : PySem.W.findIn K (.ref C) f1 = some none) (h2 : PySem.W.findIn K (.ref C) f2 = some none) (D : DefT K x qual st N fI) (sc : FnScope N N (defScope st)) (hN : N.length = 3)
    (hb : ∀ (cdv : Value) (A : Around) (outer : List Env) (s : Shared) (H : Hp) (E : XK), ∃ z : Str, PSs (cxOf CX0 P w K mg base N qual (defScope st) fI cdv A outer s H E).nox (defBody st) (tSeq (tDrop (tVeI K (tCons (tVar 0) (tCons (tC (.str z)) tNil)))) (tSeq (tOst K f1 (tVar 0) (tVar 1)) (tSeq (tOst K f2 (tVar 0) (tVar 2)) tNext)))) :
    FnD anyA P w K mg base CX0 1 fI N (spX2 C f1 f2) := by
  refine D.ok0 sc (fun vs H Q E h => ?_) (fun cdv A' outer s H vs Q E hr h => ?_)
  · obtain ⟨a, x, y, rfl, _⟩ := h
    exact hN.symm
  · obtain ⟨a, x, y, rfl, ha, k⟩ := h
    obtain ⟨z, hp⟩ := hb cdv A' outer s H E
    refine ⟨_, hp, ?_⟩
    have g0 : (L2.start N [.ref a, x, y])[0]? = some (some (.ref a)) := by unfold L2.start; simp
    have g1 : (L2.start N [.ref a, x, y])[1]? = some (some x) := by unfold L2.start; simp
    have g2 : (L2.start N [.ref a, x, y])[2]? = some (some y) := by unfold L2.start; simp
    refine ⟨_, g0, a, C, [.str z], rfl, by simp, O, ha, ?_⟩
    refine ⟨_, g1, _, g0, a, C, rfl, O, h1, .inl ⟨ha, fun d hd ne => ?_⟩⟩
    refine ⟨_, g2, _, g0, a, C, rfl, O, h2, .inr ⟨d, _, upd_same, (upd_ne ne).trans upd_same, by simp, ?_⟩⟩
    have e : upd (upd (upd H d (exd d [(f1, x)])) a (exo a C (some d))) d (exd d [(f2, y), (f1, x)]) = upd (upd H a (exo a C (some d))) d (exd d [(f2, y), (f1, x)]) := by
      funext b
      by_cases e1 : b = d
      · subst e1; rw [upd_same, upd_same]
      · rw [upd_ne e1, upd_ne e1]
        by_cases e2 : b = a
        · subst e2; rw [upd_same, upd_same]
        · rw [upd_ne e2, upd_ne e2, upd_ne e1]
    show Q .non _
    rw [e]
    exact k d hd ne
theorem ok_BTi (T : Txt K mg A) : FnD anyA P w K mg base CX0 1 A.BTi ["self", "line", "word"] (spX2 A.BT "line" "word") :=
  ok_X2 (by decide) T.e_BT.o T.f_BT1 T.f_BT2 T.d_BTi sc_BadText_init rfl fun cdv A' outer s H E => ⟨_, pss_cons (ps_expr (pe_ownInit T.o_VE rfl T.m_VE (pa_cons (pv 0) (pa_cons pe_str pa_nil)))) (pss_cons (ps_ost (pv 0) (pv 1)) (pss_cons (ps_ost (pv 0) (pv 2)) pss_nil))⟩
theorem ok_BRi (T : Txt K mg A) : FnD anyA P w K mg base CX0 1 A.BRi ["self", "what", "row"] (spX2 A.BR "what" "row") :=
  ok_X2 (by decide) T.e_BR.o T.f_BR1 T.f_BR2 T.d_BRi sc_BadRow_init rfl fun cdv A' outer s H E => ⟨_, pss_cons (ps_expr (pe_ownInit T.o_VE rfl T.m_VE (pa_cons (pv 0) (pa_cons pe_str pa_nil)))) (pss_cons (ps_ost (pv 0) (pv 1)) (pss_cons (ps_ost (pv 0) (pv 2)) pss_nil))⟩
abbrev EN : XK := fun _ _ _ => False
theorem pass00 {X : Cx} : Passes CX0 X EN := fun _ _ _ _ _ _ _ z => z.elim
theorem pg_tupK {X : Cx} {K : PySem.W.Frag} {es : List Expr} {k : Nat} {t : TGs} {n : Nat} {pos : Pos} (e : X.K = K) (hc : X.calm = true) (h : PGs X es t)
    (hn : (assignEach es X.env).length = n := by rfl) (hst : (assignEach es X.env).findIdx? (·.1) = none := by rfl) : PG X (.Tuple es k pos) (gTup K n t) := by
  subst e
  exact pg_tup hc h hn hst
def tTrK (K : PySem.W.Frag) (ta : TE) : TT := fun σ H Q => ta σ H fun x H' => ∃ k, TruV K x H' k ∧ Q k H'
theorem pt_truthK {X : Cx} {K : PySem.W.Frag} {a : Expr} {ta : TE} (e : X.K = K) (ha : PE X a ta) (he : ∀ whole, isTrue a X.env whole = (do let v ← whole; standAt a.pos; holding [v] (truthy v))) :
    PT X a (tTrK K ta) := by
  subst e
  exact pt_truth ha he
/-! ### words of a line -/
def spSplit : Sp := fun vs H Q _ => ∃ l : List Nat, vs = [.str (S l)] ∧ l.length ≤ 100000 ∧ ∀ p H', H p = none → Same H H' → H' p = some (.lst ((wordsL l).map wV)) → Q (.ref p) H'
theorem e_sp : (Str.ofString " ") = S [32] := by decide +kernel
theorem e_nl : (Str.ofString "\n") = S [10] := by decide +kernel
theorem e_em : (Str.ofString "") = S [] := by decide +kernel
theorem big : 100003 ≤ sizeLine := by rw [sizeLine_eq]; decide
theorem ok_split_words (T : Txt K mg A) : FnD anyA P w K mg base CX0 1 A.split_words ["line"] spSplit := by
  refine T.d_split_words.ok0 sc_split_words (fun vs H Q E h => ?_) (fun cdv A' outer s H vs Q E hr h => ?_)
  · obtain ⟨l, rfl, _⟩ := h
    rfl
  · obtain ⟨l, rfl, hl, k⟩ := h
    have hb := big
    refine ⟨_, (pss_one (ps_ret (pe_lc (own := [("word", 1)]) rfl sc_split_words.nd (pi_list (pe_split (pv 0) pe_str)) (blkOk_by (own := [("word", 1)]) (N := ["line", "word"]) (sc := defScope s_split_words) (by decide +kernel)) (fun _ _ _ _ _ => (pg_name (i := 1) sc_split_words.nd rfl (.inl rfl))) (fun _ _ _ _ _ => (pts_one (pt_cmpR op_ne (pv 1) pe_str (nomark _)))) (fun _ _ _ _ _ => (pv 1))))), ?_⟩
    refine ⟨_, rfl, ⟨_, rfl⟩, S l, _, rfl, rfl, by decide +kernel, by rw [S_len]; omega, fun p hp => ?_⟩
    rw [e_sp, split_S (by decide)]
    refine ⟨p, rfl, ⟨_, .inl (.inl upd_same)⟩, fun D hD => ?_⟩
    have ne : D ≠ p := fun z => by rw [z, upd_same] at hD; cases hD
    refine lc_it (walk_list (xs := ((cut 32 l).map S).map V.str)) (fun i H' => H' = upd (upd H p (.lst (((cut 32 l).map S).map V.str))) D (.lst ((((cut 32 l).take i).filter fun w => decide (w ≠ [])).map wV))) (by simp) (fun i H' _ e => by rw [e]; exact .inl (.inl ((upd_ne (Ne.symm ne)).trans upd_same))) ?_ ?_
    · rintro i x _ _ hi rfl ⟨rfl, hx⟩
      obtain ⟨z, hz1, rfl⟩ := map_atG hx
      obtain ⟨z, hz, rfl⟩ := map_atG hz1
      refine ⟨rfl, ⟨_, rfl, rfl, _, rfl, ?_⟩⟩
      rw [e_em]
      have ed : (!decide (V.str (S z) = V.str (S []))) = decide (z ≠ []) := by
        by_cases q : z = []
        · simp [q]
        · have : ¬ V.str (S z) = V.str (S []) := fun e => q (S_inj (V.str.inj e))
          simp [q, this]
      rw [ed]
      have hsz : ((((cut 32 l).take i).filter fun w => decide (w ≠ [])).map wV).length < sizeLine := by
        have h1 := List.length_filter_le (fun w => decide (w ≠ [])) ((cut 32 l).take i)
        have h2 : (cut 32 l).length ≤ l.length + 1 := cut_len 32 l []
        rw [List.length_take] at h1
        rw [List.length_map]
        omega
      by_cases q : z = []
      · refine ifF (by simpa using q) ?_
        rw [take_more hz, List.filter_append]
        simp [q]
      · refine ifT (by simpa using q) ?_
        refine ⟨_, rfl, acc_step ?_ hsz⟩
        rw [take_more hz, List.filter_append]
        simp [q]
    · rintro H' rfl
      have el : (((cut 32 l).map S).map V.str).length = (cut 32 l).length := by simp
      rw [el, List.take_length]
      refine k D _ (by rw [upd_ne ne] at hD; exact hD) (fun b o e => ?_) upd_same
      rw [upd_ne, upd_ne]
      · exact e
      · intro z; rw [z, hp] at e; cases e
      · intro z
        rw [upd_ne ne] at hD
        rw [z, hD] at e
        cases e
end
end SV
namespace SV
open PySem PySem.Spec PyProof.Rows L2 TL LamX NdefX
section
variable {P : Program} {w : World} {K : PySem.W.Frag} {mg : Str → Option Value} {base : Heap} {A : Ad}
/-- the BadText that is raised at H -/
def exT (BT : Addr) (H : Hp) (E : XK) (n k : Int) : Prop := ∀ d, H d = none → E (.ref BT) (some d) (upd H d (.xd [("word", .int k), ("line", .int n)]))
def spLines (K : PySem.W.Frag) (BT : Addr) : Sp := fun vs H Q E => (∃ l : List Nat, vs = [.str (S l)] ∧ l.length ≤ 90000 ∧ ∀ p xs H', H p = none → Same H H' → H' p = some (.lst xs) → All2 (RowAt H') xs (rowsL l) → Q (.ref p) H') ∨
  ∃ v t, vs = [v] ∧ TyX K H v t ∧ PySem.W.kitOne K t (.type "str") = some false ∧ exT BT H E 0 0
theorem told_at {l : List Nat} {i : Nat} {z : List Nat} (h : (cut 10 l)[i]? = some z) : (toldL l)[i]? = some (i + 1, wordsL z) := by
  unfold toldL
  rw [List.getElem?_mapIdx, h]
  rfl
theorem told_len (l : List Nat) : (toldL l).length = (cut 10 l).length := by unfold toldL; simp
theorem ok_lines_of (T : Txt K mg A) : FnD anyA P w K mg base (L2.CX P w) 4 A.lines_of ["text"] (spLines K A.BT) := by
  refine T.d_lines_of.okX sc_lines_of (fun vs H Q E h => ?_) (fun cdv A' outer s H vs Q E hA hr h => ?_)
  · rcases h with ⟨l, rfl, _⟩ | ⟨v, t, rfl, _⟩ <;> rfl
  · have hb := big
    refine ⟨_, (pss_cons (ps_if (pt_not (pt_val (pe_callB call_isi (by rfl) T.n_isinstance (by decide +kernel) (pa_cons (pv 0) (pa_cons (pe_bltn (v := .ty "str") (u := .type "str") (by rfl) T.n_str (by decide +kernel) rfl) pa_nil)))))
      (pss_one (ps_raise rfl takeE (pmk_D T.e_BT (ok_BTi T) hr (by decide) rfl T.m_BT (pa_cons pe_int (pa_cons pe_int pa_nil)))))
      pss_nil)
      (pss_cons (ps_setLc (i := 1) rfl sc_lines_of.nd rfl rfl (sw_true rfl rfl rfl (by decide +kernel)) (pi_enum (by rfl) T.n_enumerate (pa_cons (pe_split (pv 0) pe_str) pa_nil)) (blkOk_by (own := [("at", 2), ("line", 3)]) (N := ["text", "told", "at", "line", "row"]) (sc := defScope s_lines_of) (by decide +kernel)) (fun _ _ _ _ _ => (pg_tupK (K := K) (n := 2) rfl (by rfl) (pgs_cons (pg_name (i := 2) sc_lines_of.nd rfl (.inl rfl)) (pgs_cons (pg_name (i := 3) sc_lines_of.nd rfl (.inl rfl)) pgs_nil)))) (fun _ _ _ _ _ => pts_nil) (fun _ _ _ _ _ => (pe_tup (pa_cons (pe_op op_add (pv 2) pe_int) (pa_cons (pe_callD pass00 (ok_split_words T) hr (by decide) rfl T.m_split_words (pa_cons (pv 3) pa_nil)) pa_nil)))))
      (pss_one (ps_ret (pe_lc (own := [("row", 4)]) rfl sc_lines_of.nd (pi_list (pv 1)) (blkOk_by (own := [("row", 4)]) (N := ["text", "told", "at", "line", "row"]) (sc := defScope s_lines_of) (by decide +kernel)) (fun _ _ _ _ _ => (pg_name (i := 4) sc_lines_of.nd rfl (.inl rfl))) (fun _ _ _ _ _ => (pts_one (pt_truthK (K := K) rfl (pe_ix (r := rIxT K) ix_tup (pv 4) pe_int (fun _ _ => rfl)) (by intro _; rfl)))) (fun _ _ _ _ _ => (pv 4))))))), ?_⟩
    rcases h with ⟨l, rfl, hl, k⟩ | ⟨v, t, rfl, ty, hk, hx⟩
    rotate_left
    · refine ⟨_, rfl, _, _, _, _, false, rfl, .ty _, ty, hk, _, rfl, ?_⟩
      refine ifT rfl ?_
      exact fin_X2 fun d hd => hx d hd
    refine ⟨_, rfl, _, _, _, _, true, rfl, .ty _, .base (.str _), kit_ty (by decide +kernel), _, rfl, ?_⟩
    refine ifF rfl ?_
    refine ⟨_, rfl, ⟨_, rfl⟩, S l, _, rfl, rfl, by decide +kernel, by rw [S_len]; omega, fun p hp => ?_⟩
    rw [e_nl, split_S (by decide)]
    generalize eHl : upd H p (.lst (((cut 10 l).map S).map V.str)) = Hl
    have hHl : Hl p = some (.lst (((cut 10 l).map S).map V.str)) := by rw [← eHl]; exact upd_same
    have sHl : Same H Hl := by rw [← eHl]; exact same_upd hp
    refine ⟨p, _, rfl, .inl (.inl hHl), fun D hD => ?_⟩
    have hcl : (cut 10 l).length ≤ l.length + 1 := cut_len 10 l []
    refine lc_it (walk_enum (xs := ((cut 10 l).map S).map V.str)) (fun i H' => Same Hl (del H' D) ∧ ∃ acc, H' D = some (.lst acc) ∧ All2 (RowAt (del H' D)) acc ((toldL l).take i)) ⟨by rw [del_upd, del_none hD]; exact fun _ _ e => e, [], upd_same, .nil⟩ (fun i H' _ e => .inl (.inl (same_del _ _ (e.1 _ _ hHl)))) ?_ ?_
    · rintro i x H' _ hi ⟨hs, acc, hacc, hal⟩ ⟨Tp, x1, x2, rfl, hTp, rfl, e1, e2⟩
      cases e1
      obtain ⟨z, hz1, rfl⟩ := map_atG e2
      obtain ⟨z, hz, rfl⟩ := map_atG hz1
      refine ⟨Tp, _, rfl, .inl (.inl upd_same), rfl, _, _, rfl, _, _, rfl, rfl, rfl, ?_⟩
      have d1 : upd H' Tp (.tup [.int (i : Nat), .str (S z)]) D = some (.lst acc) := same_upd hTp _ _ hacc
      have s1 := del_new (o := .tup [.int (i : Nat), .str (S z)]) hTp (ne_of_none hacc hTp).symm
      refine ⟨_, rfl, _, _, rfl, rfl, _, rfl, z, rfl, ?_, fun q H2 hq sq hq2 => ?_⟩
      · have := cut_sum 10 l [] z (List.mem_of_getElem? hz)
        simp at this
        omega
      have d2 := sq _ _ d1
      have nqD : q ≠ D := fun e => by rw [e, d1] at hq; cases hq
      refine ⟨by simp; omega, fun t ht => ⟨acc, ?_, ?_, ?_, _, upd_same, ?_⟩⟩
      · exact same_upd ht _ _ d2
      · have := hal.len
        rw [List.length_take, told_len] at this
        omega
      all_goals rw [del_upd]
      · exact same_trans (same_trans hs s1) (same_trans (del_mono sq) (del_new ht (ne_of_none d2 ht).symm))
      · have s2 : Same (del H' D) (del (upd H2 t (.tup [.int ((i : Nat) + 1), .ref q])) D) := same_trans s1 (same_trans (del_mono sq) (del_new ht (ne_of_none d2 ht).symm))
        rw [take_more (told_at hz)]
        refine (hal.mono fun a b r => r.same s2).snoc ⟨t, q, rfl, ?_, ?_⟩
        · rw [del_ne (ne_of_none d2 ht).symm, upd_same]
          rfl
        · rw [del_ne nqD]
          exact same_upd ht _ _ hq2
    · rintro H' ⟨hs, acc, hacc, hal⟩
      have el : (((cut 10 l).map S).map V.str).length = (toldL l).length := by rw [told_len]; simp
      rw [el, List.take_length] at hal
      have nDp : D ≠ p := fun e => by rw [e, hHl] at hD; cases hD
      have sH : Same H H' := same_trans sHl (same_trans hs same_del)
      have nD : H D = none := by
        cases e : H D with
        | none => rfl
        | some o => rw [sHl _ _ e] at hD; cases hD
      refine ⟨_, rfl, D, rfl, ⟨_, .inl (.inl hacc)⟩, fun D2 hD2 => ?_⟩
      have hal' := hal.mono fun a b r => r.same (same_del (H := H') (a := D))
      have ne : D2 ≠ D := fun e => by rw [e, hacc] at hD2; cases hD2
      refine lc_it (walk_list (xs := acc)) (fun i G => ∃ ac, G = upd H' D2 (.lst ac) ∧ ac.length ≤ i ∧ All2 (RowAt H') ac (((toldL l).take i).filter fun r => decide (r.2 ≠ []))) ⟨[], rfl, Nat.le_refl _, .nil⟩ (fun i G _ e => ?_) ?_ ?_
      · obtain ⟨ac, rfl, _⟩ := e
        exact .inl (.inl ((upd_ne (Ne.symm ne)).trans hacc))
      · rintro i x _ _ hi ⟨ac, rfl, hle, hac⟩ ⟨rfl, hx⟩
        obtain ⟨r, hr2, t, q, rfl, ht, hq⟩ := hal'.at hx
        have sU := same_upd (o := .lst ac) hD2
        refine ⟨rfl, ⟨_, rfl, t, _, 1, _, rfl, rfl, .inl (.inl (sU _ _ ht)), rfl, ?_⟩⟩
        refine ⟨!(r.2.map wV).isEmpty, .inl ⟨_, .inl (.inl (sU _ _ hq)), rfl⟩, ?_⟩
        have hlen := hal'.len
        rw [told_len] at hlen
        by_cases e : r.2 = []
        · refine ifF (by simp [e]) ⟨ac, rfl, by omega, ?_⟩
          rw [take_more hr2, List.filter_append]
          simpa [e] using hac
        · refine ifT (by simp [e]) ⟨_, rfl, ac, upd_same, by omega, ac ++ [.ref t], by rw [upd_upd], by simp; omega, ?_⟩
          have ef : [r].filter (fun r => decide (r.2 ≠ [])) = [r] := by simp [e]
          rw [take_more hr2, List.filter_append, ef]
          exact hac.snoc ⟨t, q, rfl, ht, hq⟩
      · rintro G ⟨ac, rfl, _, hac⟩
        have el2 := hal'.len
        rw [el2, List.take_length] at hac
        have sU := same_upd (o := .lst ac) hD2
        refine k D2 ac _ ?_ (same_trans sH sU) upd_same (hac.mono fun a b r => r.same sU)
        cases e : H D2 with
        | none => rfl
        | some o => rw [sH _ _ e] at hD2; cases hD2
end
end SV
namespace SV
open PySem PySem.Spec PyProof.Rows L2 TL LamX NdefX
/-! ### Line and Rows -/
abbrev LineO (A : Ad) (dx p : Addr) (n : Int) (k : Nat) : HO := .ins A.Line dx [("number", .int n), ("words", .ref p), ("at", .int (k : Nat))]
abbrev RowsO (A : Ad) (dx p : Addr) (k : Nat) : HO := .ins A.Rows dx [("rows", .ref p), ("at", .int (k : Nat))]
structure LnAt (A : Ad) (H : Hp) (a dx p : Addr) (n : Int) (ws : List (List Nat)) (k : Nat) : Prop where
  o : H a = some (LineO A dx p n k)
  w : H p = some (.lst (ws.map wV))
structure RsAt (A : Ad) (H : Hp) (a dx p : Addr) (xs : List V) (rs : List (Nat × List (List Nat))) (k : Nat) : Prop where
  o : H a = some (RowsO A dx p k)
  w : H p = some (.lst xs)
  r : All2 (RowAt H) xs rs
  c : k ≤ rs.length
def spLInit (A : Ad) : Sp := fun vs H Q _ => ∃ a dx n p, vs = [.ref a, .int n, .ref p] ∧ H a = some (.ins A.Line dx []) ∧ Q .non (upd H a (LineO A dx p n 0))
def spLEnd (A : Ad) : Sp := fun vs H Q _ => ∃ a dx p n ws k, vs = [.ref a] ∧ LnAt A H a dx p n ws k ∧ Q (.bl (decide (k = ws.length))) H
def seenV (ws : List (List Nat)) (k : Nat) : V := match ws[k]? with
  | none => .non
  | some l => wV l
def spLSeen (A : Ad) : Sp := fun vs H Q _ => ∃ a dx p n ws k, vs = [.ref a] ∧ LnAt A H a dx p n ws k ∧ k ≤ ws.length ∧ Q (seenV ws k) H
def spLSkip (A : Ad) : Sp := fun vs H Q _ => ∃ a dx p n k, vs = [.ref a] ∧ H a = some (LineO A dx p n k) ∧ Q .non (upd H a (LineO A dx p n (k + 1)))
def spRInit (A : Ad) : Sp := fun vs H Q _ => ∃ a dx p, vs = [.ref a, .ref p] ∧ H a = some (.ins A.Rows dx []) ∧ Q .non (upd H a (RowsO A dx p 0))
def spREnd (A : Ad) : Sp := fun vs H Q _ => ∃ a dx p xs k, vs = [.ref a] ∧ H a = some (RowsO A dx p k) ∧ H p = some (.lst xs) ∧ Q (.bl (decide (k = xs.length))) H
def endNo (rs : List (Nat × List (List Nat))) : Int := match rs.getLast? with
  | none => 1
  | some r => (r.1 : Int) + 1
def spNext (A : Ad) : Sp := fun vs H Q E => ∃ a dx p xs rs k, vs = [.ref a] ∧ RsAt A H a dx p xs rs k ∧ (rs[k]? = none → exT A.BT H E (endNo rs) 1) ∧
  ∀ r, rs[k]? = some r → ∀ l dl q H', H l = none → H dl = none → H' = upd (upd (upd H a (RowsO A dx p (k + 1))) dl (.own l)) l (LineO A dl q r.1 0) → LnAt A H' l dl q r.1 r.2 0 → RsAt A H' a dx p xs rs (k + 1) → Q (.ref l) H'
def spNEnd (A : Ad) : Sp := fun vs H Q E => ∃ a dx p n ws k, vs = [.ref a] ∧ LnAt A H a dx p n ws k ∧ (k = ws.length → Q .non H) ∧ (k ≠ ws.length → exT A.BT H E n ((k : Int) + 1))
section
variable {P : Program} {w : World} {K : PySem.W.Frag} {mg : Str → Option Value} {base : Heap} {A : Ad}
theorem ok_Linei (T : Txt K mg A) : FnD anyA P w K mg base CX0 1 A.Linei ["self", "number", "words"] (spLInit A) := by
  refine T.d_Linei.ok0 sc_Line_init (fun vs H Q E h => ?_) (fun cdv A' outer s H vs Q E hr h => ?_)
  · obtain ⟨a, dx, n, p, rfl, _⟩ := h; rfl
  · obtain ⟨a, dx, n, p, rfl, ha, q⟩ := h
    refine ⟨_, (pss_cons (ps_fld (pv 0) (pv 1) rfl) (pss_cons (ps_fld (pv 0) (pv 2) rfl) (pss_one (ps_fld (pv 0) pe_int rfl)))), ?_⟩
    refine ⟨_, rfl, _, rfl, a, A.Line, dx, _, rfl, ha, T.c_Line, T.a_Line1, by decide, ?_⟩
    refine ⟨_, rfl, _, rfl, a, A.Line, dx, _, rfl, upd_same, T.c_Line, T.a_Line2, (by decide : (1 : Nat) < 1000), ?_⟩
    refine ⟨_, rfl, a, A.Line, dx, _, rfl, upd_same, T.c_Line, T.a_Line3, (by decide : (2 : Nat) < 1000), ?_⟩
    rw [upd_upd, upd_upd]
    exact q
theorem ok_Rowsi (T : Txt K mg A) : FnD anyA P w K mg base CX0 1 A.Rowsi ["self", "rows"] (spRInit A) := by
  refine T.d_Rowsi.ok0 sc_Rows_init (fun vs H Q E h => ?_) (fun cdv A' outer s H vs Q E hr h => ?_)
  · obtain ⟨a, dx, p, rfl, _⟩ := h; rfl
  · obtain ⟨a, dx, p, rfl, ha, q⟩ := h
    refine ⟨_, (pss_cons (ps_fld (pv 0) (pv 1) rfl) (pss_one (ps_fld (pv 0) pe_int rfl))), ?_⟩
    refine ⟨_, rfl, _, rfl, a, A.Rows, dx, _, rfl, ha, T.c_Rows, T.a_Rows1, by decide, ?_⟩
    refine ⟨_, rfl, a, A.Rows, dx, _, rfl, upd_same, T.c_Rows, T.a_Rows2, (by decide : (1 : Nat) < 1000), ?_⟩
    rw [upd_upd]
    exact q
theorem dec_len {k m : Nat} : decide (V.int (k : Nat) = V.int ((m : Nat) : Int)) = decide (k = m) := by
  rw [decide_eq_decide]
  constructor
  · intro e; exact Int.ofNat.inj (V.int.inj e)
  · rintro rfl; rfl
theorem ok_Line_is_end (T : Txt K mg A) : FnD anyA P w K mg base CX0 1 A.Line_is_end ["self"] (spLEnd A) := by
  refine T.d_Line_is_end.ok0 sc_Line_is_end (fun vs H Q E h => ?_) (fun cdv A' outer s H vs Q E hr h => ?_)
  · obtain ⟨a, dx, p, n, ws, k, rfl, _⟩ := h; rfl
  · obtain ⟨a, dx, p, n, ws, k, rfl, L, q⟩ := h
    refine ⟨_, (pss_one (ps_ret (pe_cmpR op_eq (pe_fld (pv 0) rfl) (pe_callB call_len_seq (by rfl) T.n_len (by decide +kernel) (pa_cons (pe_fld (pv 0) rfl) pa_nil)) (nomark _)))), ?_⟩
    refine ⟨_, rfl, a, A.Line, dx, _, _, rfl, L.o, T.c_Line, T.a_Line3, rfl, ?_⟩
    refine ⟨_, rfl, a, A.Line, dx, _, _, rfl, L.o, T.c_Line, T.a_Line2, rfl, ?_⟩
    refine ⟨p, _, rfl, .inl (.inl (.inl L.w)), rfl, ?_⟩
    rw [dec_len, List.length_map]
    exact q
theorem ok_Rows_is_end (T : Txt K mg A) : FnD anyA P w K mg base CX0 1 A.Rows_is_end ["self"] (spREnd A) := by
  refine T.d_Rows_is_end.ok0 sc_Rows_is_end (fun vs H Q E h => ?_) (fun cdv A' outer s H vs Q E hr h => ?_)
  · obtain ⟨a, dx, p, xs, k, rfl, _⟩ := h; rfl
  · obtain ⟨a, dx, p, xs, k, rfl, L, hp, q⟩ := h
    refine ⟨_, (pss_one (ps_ret (pe_cmpR op_eq (pe_fld (pv 0) rfl) (pe_callB call_len_seq (by rfl) T.n_len (by decide +kernel) (pa_cons (pe_fld (pv 0) rfl) pa_nil)) (nomark _)))), ?_⟩
    refine ⟨_, rfl, a, A.Rows, dx, _, _, rfl, L, T.c_Rows, T.a_Rows2, rfl, ?_⟩
    refine ⟨_, rfl, a, A.Rows, dx, _, _, rfl, L, T.c_Rows, T.a_Rows1, rfl, ?_⟩
    refine ⟨p, _, rfl, .inl (.inl (.inl hp)), rfl, ?_⟩
    rw [dec_len]
    exact q
theorem ok_Line_seen (T : Txt K mg A) : FnD anyA P w K mg base CX0 3 A.Line_seen ["self"] (spLSeen A) := by
  refine T.d_Line_seen.ok0 sc_Line_seen (fun vs H Q E h => ?_) (fun cdv A' outer s H vs Q E hr h => ?_)
  · obtain ⟨a, dx, p, n, ws, k, rfl, _⟩ := h; rfl
  · obtain ⟨a, dx, p, n, ws, k, rfl, L, hk, q⟩ := h
    refine ⟨_, (pss_one (ps_ret (pe_ifExp (pt_val (pe_methD0 pass00 (pv 0) T.c_Line T.t_Line_is_end (ok_Line_is_end T) hr (by decide))) pe_non (pe_ix ix_list (pe_fld (pv 0) rfl) (pe_fld (pv 0) rfl) (fun _ _ => rfl))))), ?_⟩
    refine ⟨_, rfl, a, dx, _, rfl, L.o, rfl, a, dx, p, n, ws, k, rfl, L, _, rfl, ?_⟩
    by_cases e : k = ws.length
    · refine ifT (by simpa using e) ?_
      have z : seenV ws k = .non := by unfold seenV; rw [e]; simp
      rw [z] at q
      exact q
    · refine ifF (by simpa using e) ?_
      have hlt : k < ws.length := by omega
      have ew : ws[k]? = some ws[k] := by simp [hlt]
      refine ⟨_, rfl, a, A.Line, dx, _, _, rfl, L.o, T.c_Line, T.a_Line2, rfl, ?_⟩
      refine ⟨_, rfl, a, A.Line, dx, _, _, rfl, L.o, T.c_Line, T.a_Line3, rfl, ?_⟩
      refine ⟨p, _, _, wV ws[k], rfl, rfl, .inl (.inl L.w), atI_nat (by rw [List.getElem?_map, ew]; rfl), ?_⟩
      have z : seenV ws k = wV ws[k] := by unfold seenV; rw [ew]
      rw [z] at q
      exact q
theorem ok_Line_skip (T : Txt K mg A) : FnD anyA P w K mg base CX0 1 A.Line_skip ["self"] (spLSkip A) := by
  refine T.d_Line_skip.ok0 sc_Line_skip (fun vs H Q E h => ?_) (fun cdv A' outer s H vs Q E hr h => ?_)
  · obtain ⟨a, dx, p, n, k, rfl, _⟩ := h; rfl
  · obtain ⟨a, dx, p, n, k, rfl, L, q⟩ := h
    refine ⟨_, (pss_one (ps_fld (pv 0) (pe_op op_add (pe_fld (pv 0) rfl) pe_int) rfl)), ?_⟩
    refine ⟨_, rfl, a, A.Line, dx, _, _, rfl, L, T.c_Line, T.a_Line3, rfl, _, _, rfl, rfl, ?_⟩
    exact ⟨_, rfl, a, A.Line, dx, _, rfl, L, T.c_Line, T.a_Line3, (by decide : (3 : Nat) < 1000), q⟩
theorem ok_need_end (T : Txt K mg A) : FnD anyA P w K mg base (L2.CX P w) 4 A.need_end ["line"] (spNEnd A) := by
  refine T.d_need_end.okX sc_need_end (fun vs H Q E h => ?_) (fun cdv A' outer s H vs Q E hA hr h => ?_)
  · obtain ⟨a, dx, p, n, ws, k, rfl, _⟩ := h; rfl
  · obtain ⟨a, dx, p, n, ws, k, rfl, L, q1, q2⟩ := h
    refine ⟨_, (pss_one (ps_if (pt_not (pt_val (pe_methD0 pass00 (pv 0) T.c_Line T.t_Line_is_end (ok_Line_is_end T) hr (by decide))))
      (pss_one (ps_raise rfl takeE (pmk_D T.e_BT (ok_BTi T) hr (by decide) rfl T.m_BT (pa_cons (pe_fld (pv 0) rfl) (pa_cons (pe_op op_add (pe_fld (pv 0) rfl) pe_int) pa_nil)))))
      pss_nil)), ?_⟩
    refine ⟨_, rfl, a, dx, _, rfl, L.o, rfl, a, dx, p, n, ws, k, rfl, L, _, rfl, ?_⟩
    by_cases e : k = ws.length
    · refine ifF (by simpa using e) ?_
      exact q1 e
    · refine ifT (by simpa using e) ?_
      refine ⟨_, rfl, a, A.Line, dx, _, _, rfl, L.o, T.c_Line, T.a_Line1, rfl, ?_⟩
      refine ⟨_, rfl, a, A.Line, dx, _, _, rfl, L.o, T.c_Line, T.a_Line3, rfl, _, _, rfl, rfl, ?_⟩
      exact fin_X2 fun d hd => q2 e d hd
theorem ok_next_line (T : Txt K mg A) : FnD anyA P w K mg base (L2.CX P w) 4 A.Rows_next_line ["self"] (spNext A) := by
  refine T.d_Rows_next_line.okX sc_Rows_next_line (fun vs H Q E h => ?_) (fun cdv A' outer s H vs Q E hA hr h => ?_)
  · obtain ⟨a, dx, p, xs, rs, k, rfl, _⟩ := h; rfl
  · obtain ⟨a, dx, p, xs, rs, k, rfl, R, qe, q⟩ := h
    refine ⟨_, (pss_cons (ps_if (pt_val (pe_methD0 pass00 (pv 0) T.c_Rows T.t_Rows_is_end (ok_Rows_is_end T) hr (by decide)))
      (pss_one (ps_raise rfl takeE (pmk_D T.e_BT (ok_BTi T) hr (by decide) rfl T.m_BT (pa_cons (pe_ifExp (pt_truth (pe_fld (pv 0) rfl) (by intro _; rfl)) (pe_op op_add (pe_ix ix_tup (pe_ix ix_list (pe_fld (pv 0) rfl) (pe_un un_neg pe_int) (fun _ _ => rfl)) pe_int (fun _ _ => rfl)) pe_int) pe_int) (pa_cons pe_int pa_nil)))))
      pss_nil)
      (pss_cons (ps_asg (pe_ix ix_list (pe_fld (pv 0) rfl) (pe_fld (pv 0) rfl) (fun _ _ => rfl)) (pg_tup (by rfl) (pgs_cons (pg_name (i := 1) sc_Rows_next_line.nd rfl (.inl rfl)) (pgs_cons (pg_name (i := 2) sc_Rows_next_line.nd rfl (.inl rfl)) pgs_nil))))
      (pss_cons (ps_fld (pv 0) (pe_op op_add (pe_fld (pv 0) rfl) pe_int) rfl)
      (pss_one (ps_ret (pe_makeD pass00 T.k_Line (ok_Linei T) hr (by decide) rfl T.m_Line (pa_cons (pv 1) (pa_cons (pv 2) pa_nil)))))))), ?_⟩
    have hl := R.r.len
    refine ⟨_, rfl, a, dx, _, rfl, R.o, rfl, a, dx, p, xs, k, rfl, R.o, R.w, _, rfl, ?_⟩
    by_cases e : k = xs.length
    · refine ifT (by simpa using e) ?_
      have qe := qe (by rw [List.getElem?_eq_none (by omega)])
      refine ⟨_, rfl, a, A.Rows, dx, _, _, rfl, R.o, T.c_Rows, T.a_Rows1, rfl, !xs.isEmpty, .inl ⟨xs, .inl (.inl R.w), rfl⟩, ?_⟩
      cases hx : xs with
      | nil =>
        refine ifF (by simp) ?_
        have er : rs = [] := by
          rw [hx] at hl
          exact List.eq_nil_of_length_eq_zero hl.symm
        refine fin_X2 fun d hd => ?_
        have := qe d hd
        rw [er] at this
        exact this
      | cons x0 xr =>
        refine ifT (by simp) ?_
        have ne : rs ≠ [] := fun z => by rw [z, hx] at hl; simp at hl
        have eL : rs[xs.length - 1]? = some (rs.getLast ne) := by rw [hl, List.getLast_eq_getElem]; simp
        obtain ⟨v, hv, t, pw, rfl, ht, hpw⟩ := R.r.at' eL
        refine ⟨_, rfl, a, A.Rows, dx, _, _, rfl, R.o, T.c_Rows, T.a_Rows1, rfl, 1, rfl, ?_⟩
        have ea : atI xs (-1) = some (.ref t) := by
          have : xs = xs.dropLast ++ [.ref t] := by
            have h0 : xs ≠ [] := by rw [hx]; simp
            have h1 := List.dropLast_concat_getLast h0
            have h2 : xs.getLast h0 = .ref t := by
              rw [List.getLast_eq_getElem]
              have := List.getElem?_eq_some_iff.mp hv
              exact this.2
            rw [h2] at h1
            exact h1.symm
          rw [this]
          exact atI_last _ _
        refine ⟨p, xs, _, _, rfl, rfl, .inl (.inl R.w), ea, ?_⟩
        refine ⟨t, _, 0, _, rfl, rfl, .inl (.inl ht), rfl, _, _, rfl, rfl, ?_⟩
        refine fin_X2 fun d hd => ?_
        have := qe d hd
        unfold endNo at this
        rw [List.getLast?_eq_some_getLast ne] at this
        exact this
    · refine ifF (by simpa using e) ?_
      have hlt : k < rs.length := by have := R.c; omega
      have er : rs[k]? = some rs[k] := by simp [hlt]
      obtain ⟨v, hv, t, pw, rfl, ht, hpw⟩ := R.r.at' er
      refine ⟨_, rfl, a, A.Rows, dx, _, _, rfl, R.o, T.c_Rows, T.a_Rows1, rfl, ?_⟩
      refine ⟨_, rfl, a, A.Rows, dx, _, _, rfl, R.o, T.c_Rows, T.a_Rows2, rfl, ?_⟩
      refine ⟨p, xs, _, _, rfl, rfl, .inl (.inl R.w), atI_nat hv, ?_⟩
      refine ⟨t, _, rfl, .inl (.inl ht), rfl, _, _, rfl, _, _, rfl, rfl, ?_⟩
      refine ⟨_, rfl, a, A.Rows, dx, _, _, rfl, R.o, T.c_Rows, T.a_Rows2, rfl, _, _, rfl, rfl, ?_⟩
      refine ⟨_, rfl, a, A.Rows, dx, _, rfl, R.o, T.c_Rows, T.a_Rows2, (by decide : (2 : Nat) < 1000), ?_⟩
      refine ⟨_, rfl, _, rfl, fun l dl hl' hdl ne => ?_⟩
      refine ⟨l, dl, _, pw, rfl, upd_same, rfl, ?_⟩
      rw [upd_upd]
      have sb : ∀ b o, H b = some o → b ≠ a → upd (upd (upd H a (RowsO A dx p (k + 1))) dl (.own l)) l (LineO A dl pw (rs[k].1 : Nat) 0) b = some o := fun b o e ne => by
        have h1 : upd H a (RowsO A dx p (k + 1)) b = some o := (upd_ne ne).trans e
        rw [upd_ne (ne_of_none h1 hl'), upd_ne (ne_of_none h1 hdl)]
        exact h1
      have na : ∀ {b : Addr} {o : HO}, H b = some o → (∀ C d fs, o ≠ .ins C d fs) → b ≠ a := fun {b o} e n z => by
        rw [z, R.o] at e
        exact n _ _ _ (Option.some.inj e).symm
      refine q rs[k] er l dl pw _ ?_ ?_ rfl ⟨upd_same, sb _ _ hpw (na hpw fun _ _ _ z => by cases z)⟩ ⟨?_, sb _ _ R.w (na R.w fun _ _ _ z => by cases z), R.r.mono fun x r hr => ?_, by omega⟩
      · by_cases z : l = a
        · subst z; rw [upd_same] at hl'; cases hl'
        · rw [upd_ne z] at hl'; exact hl'
      · by_cases z : dl = a
        · subst z; rw [upd_same] at hdl; cases hdl
        · rw [upd_ne z] at hdl; exact hdl
      · have h1 : upd H a (RowsO A dx p (k + 1)) a = some (RowsO A dx p (k + 1)) := upd_same
        rw [upd_ne (ne_of_none h1 hl'), upd_ne (ne_of_none h1 hdl)]
        exact h1
      · obtain ⟨t2, p2, e2, h1, h2⟩ := hr
        exact ⟨t2, p2, e2, sb _ _ h1 (na h1 fun _ _ _ z => by cases z), sb _ _ h2 (na h2 fun _ _ _ z => by cases z)⟩
end
end SV
namespace SV
open PySem PySem.Spec PyProof.Rows L2 TL LamX NdefX
/-! ### need_word and the lambdas -/
section
variable {P : Program} {w : World} {K : PySem.W.Frag} {mg : Str → Option Value} {base : Heap} {A : Ad}
/-- the lambda at f tells of v: tv; it is run in G -/
def TellV (P : Program) (w : World) (K : PySem.W.Frag) (mg : Str → Option Value) (base : Heap) (kk : Nat) (G : Hp) (f : Addr) (v : V) (b : Bool) : Prop :=
  ∃ F sp, G f = some (LamO f F) ∧ G F.c = some (CodeO F.c F.qual) ∧ LOk P w K mg base CX0 kk f F 1 sp ∧ ∀ R, (∀ H1, Same G H1 → R (.bl b) H1) → sp [v] G R EN
def spNW (P : Program) (w : World) (K : PySem.W.Frag) (mg : Str → Option Value) (base : Heap) (kk : Nat) (A : Ad) : Sp := fun vs H Q E => ∃ a dx p n ws k f, ∃ tell : List Nat → Bool, vs = [.ref a, .ref f] ∧ LnAt A H a dx p n ws k ∧ k ≤ ws.length ∧
  (∃ F, H f = some (LamO f F)) ∧ (∀ wd ∈ ws, TellV P w K mg base kk H f (wV wd) (tell wd)) ∧ (∀ wd H1, ws[k]? = some wd → tell wd = true → Same H H1 → Q (wV wd) (upd H1 a (LineO A dx p n (k + 1)))) ∧
  ((∀ wd, ws[k]? = some wd → tell wd = false) → ∀ H1, Same H H1 → exT A.BT H1 E n ((k : Int) + 1))
theorem ok_need_word (T : Txt K mg A) : FnD anyA P w K mg base (L2.CX P w) 12 A.need_word ["line", "tell"] (spNW P w K mg base 8 A) := by
  refine T.d_need_word.okX sc_need_word (fun vs H Q E h => ?_) (fun cdv A' outer s H vs Q E hA hr h => ?_)
  · obtain ⟨a, dx, p, n, ws, k, f, tell, rfl, _⟩ := h; rfl
  · obtain ⟨a, dx, p, n, ws, k, f, tell, rfl, L, hk, ⟨F0, hF0⟩, ht, q1, q2⟩ := h
    refine ⟨_, (pss_cons (ps_set (i := 2) sc_need_word.nd rfl (.inl rfl) (pe_methD0 pass00 (pv 0) T.c_Line T.t_Line_seen (ok_Line_seen T) hr (by decide)))
      (pss_cons (ps_if (PW.pt (pw_or (pt_cmpR op_isN (pv 2) pe_non (nomark _)) (pw_or1 (pt_not (pt_val (pe_callv (i := 1) (Y := fun _ f F sp => LOk P w K mg base CX0 8 f F 1 sp) (fun _ _ _ _ h => ⟨1, h⟩) hr (by decide) pass00 rfl (.inl rfl) (pa_cons (pv 2) pa_nil)))))))
      (pss_one (ps_raise rfl takeE (pmk_D T.e_BT (ok_BTi T) hr (by decide) rfl T.m_BT (pa_cons (pe_fld (pv 0) rfl) (pa_cons (pe_op op_add (pe_fld (pv 0) rfl) pe_int) pa_nil)))))
      pss_nil)
      (pss_cons (ps_expr (pe_methD0 pass00 (pv 0) T.c_Line T.t_Line_skip (ok_Line_skip T) hr (by decide)))
      (pss_one (ps_ret (pv 2)))))), ?_⟩
    refine ⟨_, rfl, a, dx, _, rfl, L.o, rfl, a, dx, p, n, ws, k, rfl, L, hk, ?_⟩
    refine ⟨_, rfl, rfl, _, rfl, ?_⟩
    have ra : ∀ H1, Same H H1 → (∀ wd, ws[k]? = some wd → tell wd = false) → tFld K (tVar 0) "number" ((L2.start ["line", "tell", "word"] [V.ref a, V.ref f]).set 2 (some (seenV ws k))) H1 (fun v H2 => v = .int n ∧ H2 = H1) := fun H1 s1 _ => ⟨_, rfl, a, A.Line, dx, _, _, rfl, s1 _ _ L.o, T.c_Line, T.a_Line1, rfl, rfl, rfl⟩
    cases ew : ws[k]? with
    | none =>
      have z : seenV ws k = .non := by unfold seenV; rw [ew]
      rw [z]
      refine ifT (by decide) ?_
      refine ⟨_, rfl, a, A.Line, dx, _, _, rfl, L.o, T.c_Line, T.a_Line1, rfl, ?_⟩
      refine ⟨_, rfl, a, A.Line, dx, _, _, rfl, L.o, T.c_Line, T.a_Line3, rfl, _, _, rfl, rfl, ?_⟩
      exact fin_X2 fun d hd => q2 (fun wd e => by rw [ew] at e; cases e) H (fun _ _ e => e) d hd
    | some wd =>
      have z : seenV ws k = wV wd := by unfold seenV; rw [ew]
      rw [z]
      refine ifF rfl ?_
      obtain ⟨F, sp, hf, hc, hl, hsp⟩ := ht wd (List.mem_of_getElem? ew)
      refine ⟨f, F, sp, rfl, hf, _, rfl, hl, hf, hc, hsp _ fun H1 s1 => ⟨_, rfl, ?_⟩⟩
      cases eb : tell wd with
      | true =>
        refine ifF rfl ?_
        refine ⟨_, rfl, a, dx, _, rfl, s1 _ _ L.o, rfl, a, dx, p, n, k, rfl, s1 _ _ L.o, ?_⟩
        exact ⟨_, rfl, q1 wd H1 ew eb s1⟩
      | false =>
        refine ifT rfl ?_
        refine ⟨_, rfl, a, A.Line, dx, _, _, rfl, s1 _ _ L.o, T.c_Line, T.a_Line1, rfl, ?_⟩
        refine ⟨_, rfl, a, A.Line, dx, _, _, rfl, s1 _ _ L.o, T.c_Line, T.a_Line3, rfl, _, _, rfl, rfl, ?_⟩
        exact fin_X2 fun d hd => q2 (fun wd2 e => by rw [ew] at e; cases e; exact eb) H1 s1 d hd
/-- the tables of code objects, with the names of what they make -/
abbrev TbA (A : Ad) : List (Addr × Str) := [(A.t_need_one, "need_one.<locals>.<lambda>"), (A.t_need_number, "need_number.<locals>.<lambda>"), (A.t_read_notes, "read_notes.<locals>.<lambda>"), (A.t_law_right, "_law_right.<locals>.<lambda>"), (A.t_law, "law.<locals>.<lambda>")]
/-- what is known of the tables -/
structure TbOk (base : Heap) (mg : Str → Option Value) (A : Ad) : Prop where
  one : TabB base mg A.c_need_one A.t_need_one
  num : TabB base mg A.c_need_number A.t_need_number
  rd : TabB base mg A.c_read_notes A.t_read_notes
  rt : TabB base mg A.c_law_right A.t_law_right
  lw : TabB base mg A.c_law A.t_law
  nd : [A.t_need_one, A.t_need_number, A.t_read_notes, A.t_law_right, A.t_law].Nodup
theorem same_hr {cl : List (Str × Addr)} {H H' : Hp} (s : Same (hideC (CS cl) H) H') : Same H (restC (CS cl) H H') := fun b o e => by
  by_cases hb : CS cl b
  · rw [restC_in hb]; exact e
  · rw [restC_out hb]; exact s b o ((hideC_out hb).trans e)
/-- a line that may be read on: at H, told of the tables -/
abbrev exK (A : Ad) (M : List Addr) (H : Hp) (E : XK) (n k : Int) : Prop := ∀ d H', Kp (TbA A) M H H' → H' d = some (.xd [("word", .int k), ("line", .int n)]) → E (.ref A.BT) (some d) H'
def freeB (o n : List (Str × NameKind)) : Bool := n.all fun y => !decide (y.2 = .free) || (decide (o.lookup y.1 = some .cell) || decide (o.lookup y.1 = some .free))
theorem free_by {o n : List (Str × NameKind)} (h : freeB o n = true) : ∀ y ∈ n, y.2 = .free → o.lookup y.1 = some .cell ∨ o.lookup y.1 = some .free := fun y hy e => by
  have z := List.all_eq_true.mp h y hy
  simp only [Bool.or_eq_true, Bool.not_eq_true', decide_eq_true_eq, decide_eq_false_iff_not] at z
  rcases z with z | z
  · exact (z e).elim
  · exact z
def frB (fr : List Str) (n : List (Str × NameKind)) : Bool := fr.all fun y => decide ((y, NameKind.free) ∈ n)
theorem cz_lam {X : Cx} {σ : L2.St} {H1 G : Hp} {f c' : Addr} {params : Arguments} {body : Expr} {scope : Scope} {fr : List Str} {js : List Nat} (o : List (Str × NameKind)) (_ : H1 f = some (LamO f (mkLF X params body scope c'))) (fx : FrzX X σ H1 G) (eo : X.env.scope.names = o) (h1 : freeB o scope.names = true) (h2 : frB fr scope.names = true) (hjs : js.map (fun j => X.N[j]?) = fr.map some) :
    CellsZ (mkLF X params body scope c').cl fr (js.map (slotAt σ)) G := by
  subst eo
  exact cellsZ_of fx.ok fx (free_by h1) (fun y hy => by simpa using List.all_eq_true.mp h2 y hy) hjs
theorem tb_1 {base : Heap} {mg : Str → Option Value} {A : Ad} (TB : TbOk base mg A) : ∀ p ∈ TbA A, p.1 = A.t_need_one → p.2 = (Str.ofString "need_one.<locals>.<lambda>") := by
  intro q hq e
  have nd := TB.nd
  simp only [List.nodup_cons, List.mem_cons, List.not_mem_nil, or_false, not_or] at nd
  rcases hq with _ | ⟨_, _ | ⟨_, _ | ⟨_, _ | ⟨_, _ | ⟨_, hq⟩⟩⟩⟩⟩
  · rfl
  · exact (nd.1.1 e.symm).elim
  · exact (nd.1.2.1 e.symm).elim
  · exact (nd.1.2.2.1 e.symm).elim
  · exact (nd.1.2.2.2 e.symm).elim
  · cases hq
theorem tb_2 {base : Heap} {mg : Str → Option Value} {A : Ad} (TB : TbOk base mg A) : ∀ p ∈ TbA A, p.1 = A.t_need_number → p.2 = (Str.ofString "need_number.<locals>.<lambda>") := by
  intro q hq e
  have nd := TB.nd
  simp only [List.nodup_cons, List.mem_cons, List.not_mem_nil, or_false, not_or] at nd
  rcases hq with _ | ⟨_, _ | ⟨_, _ | ⟨_, _ | ⟨_, _ | ⟨_, hq⟩⟩⟩⟩⟩
  · exact (nd.1.1 e).elim
  · rfl
  · exact (nd.2.1.1 e.symm).elim
  · exact (nd.2.1.2.1 e.symm).elim
  · exact (nd.2.1.2.2 e.symm).elim
  · cases hq
theorem tb_3 {base : Heap} {mg : Str → Option Value} {A : Ad} (TB : TbOk base mg A) : ∀ p ∈ TbA A, p.1 = A.t_read_notes → p.2 = (Str.ofString "read_notes.<locals>.<lambda>") := by
  intro q hq e
  have nd := TB.nd
  simp only [List.nodup_cons, List.mem_cons, List.not_mem_nil, or_false, not_or] at nd
  rcases hq with _ | ⟨_, _ | ⟨_, _ | ⟨_, _ | ⟨_, _ | ⟨_, hq⟩⟩⟩⟩⟩
  · exact (nd.1.2.1 e).elim
  · exact (nd.2.1.1 e).elim
  · rfl
  · exact (nd.2.2.1.1 e.symm).elim
  · exact (nd.2.2.1.2 e.symm).elim
  · cases hq
theorem tb_4 {base : Heap} {mg : Str → Option Value} {A : Ad} (TB : TbOk base mg A) : ∀ p ∈ TbA A, p.1 = A.t_law_right → p.2 = (Str.ofString "_law_right.<locals>.<lambda>") := by
  intro q hq e
  have nd := TB.nd
  simp only [List.nodup_cons, List.mem_cons, List.not_mem_nil, or_false, not_or] at nd
  rcases hq with _ | ⟨_, _ | ⟨_, _ | ⟨_, _ | ⟨_, _ | ⟨_, hq⟩⟩⟩⟩⟩
  · exact (nd.1.2.2.1 e).elim
  · exact (nd.2.1.2.1 e).elim
  · exact (nd.2.2.1.1 e).elim
  · rfl
  · exact (nd.2.2.2.1 e.symm).elim
  · cases hq
theorem tb_5 {base : Heap} {mg : Str → Option Value} {A : Ad} (TB : TbOk base mg A) : ∀ p ∈ TbA A, p.1 = A.t_law → p.2 = (Str.ofString "law.<locals>.<lambda>") := by
  intro q hq e
  have nd := TB.nd
  simp only [List.nodup_cons, List.mem_cons, List.not_mem_nil, or_false, not_or] at nd
  rcases hq with _ | ⟨_, _ | ⟨_, _ | ⟨_, _ | ⟨_, _ | ⟨_, hq⟩⟩⟩⟩⟩
  · exact (nd.1.2.2.2 e).elim
  · exact (nd.2.1.2.2 e).elim
  · exact (nd.2.2.1.2 e).elim
  · exact (nd.2.2.2.1 e).elim
  · rfl
  · cases hq
theorem hide_seqT {cl : List (Str × Addr)} {fr : List Str} {ws : List (Option V)} {H : Hp} {a : Addr} {xs : List V} (c : CellsZ cl fr ws H) (h : SqT K H a xs) : SqT K (hideC (CS cl) H) a xs := by
  rcases h with (h | ⟨o, h⟩) | h
  · exact .inl (.inl (hide_at c h tup_cellZ))
  · exact .inl (.inr ⟨o, hide_at c h fun ob z => by unfold cellZ at z; cases z⟩)
  · exact .inr h
theorem ext_cellZ {φ : Heap → Prop} (ob : Obj) : HO.ext φ ≠ cellZ ob := fun z => by unfold cellZ at z; cases z
theorem ins_cellZ {C dx : Addr} {fs : List (Str × V)} (ob : Obj) : HO.ins C dx fs ≠ cellZ ob := fun z => by unfold cellZ at z; cases z
theorem xd_cellZ {fs : List (Str × V)} (ob : Obj) : HO.xd fs ≠ cellZ ob := fun z => by unfold cellZ at z; cases z
theorem lst_cellZ {fs : List V} (ob : Obj) : HO.lst fs ≠ cellZ ob := fun z => by unfold cellZ at z; cases z
/-- lambda word: word in some -/
def spL1 (K : PySem.W.Frag) (cl : List (Str × Addr)) (t : Addr) (word : List Nat) : Sp := fun vs H Q _ => ∃ wd, vs = [wV wd] ∧ CellsZ cl ["some"] [some (.ref t)] H ∧ SqT K H t [wV word] ∧ ∀ H1, Same H H1 → Q (.bl (decide (wd = word))) H1
/-- lambda number: True -/
def spL3 : Sp := fun vs H Q _ => ∃ v, vs = [v] ∧ ∀ H1, Same H H1 → Q (.bl true) H1
def TrueL (P : Program) (w : World) (K : PySem.W.Frag) (mg : Str → Option Value) (base : Heap) (G : Hp) (g : Addr) : Prop := ∃ F, G g = some (LamO g F) ∧ G F.c = some (CodeO F.c F.qual) ∧ LOk P w K mg base CX0 1 g F 1 spL3
theorem TrueL.kp {Tb : List (Addr × Str)} {M : List Addr} {G G' : Hp} {g : Addr} (h : TrueL P w K mg base G g) (k : Kp Tb M G G') (hM : ∀ b ∈ M, ∀ φ, G b ≠ some (.ext φ)) : TrueL P w K mg base G' g := by
  obtain ⟨F, h1, h2, h3⟩ := h
  exact ⟨F, k.ext (fun z => hM _ z _ h1) h1, k.ext (fun z => hM _ z _ h2) h2, h3⟩
/-- lambda word: is_number_word(word) and tell(int(word)) -/
def spL2 (P : Program) (w : World) (K : PySem.W.Frag) (mg : Str → Option Value) (base : Heap) (cl : List (Str × Addr)) (g : Addr) : Sp := fun vs H Q _ => ∃ wd, vs = [wV wd] ∧ wd.length ≤ 90000 ∧ CellsZ cl ["tell"] [some (.ref g)] H ∧ TrueL P w K mg base H g ∧ ∀ H1, Same H H1 → Q (.bl (isNum wd)) H1
def spN1 (K : PySem.W.Frag) (A : Ad) : Sp := fun vs H Q E => ∃ a dx p n ws k t word, vs = [.ref a, .ref t] ∧ LnAt A H a dx p n ws k ∧ k ≤ ws.length ∧ SqT K H t [wV word] ∧ Tabs (TbA A) H ∧
  (ws[k]? = some word → ∀ v H', Kp (TbA A) [a] H H' → H' a = some (LineO A dx p n (k + 1)) → Q v H') ∧ (ws[k]? ≠ some word → exK A [] H E n ((k : Int) + 1))
theorem inj_wV {a b : List Nat} (h : wV a = wV b) : a = b := S_inj (V.str.inj h)
theorem e_in1 {a b : List Nat} : inV (wV a) [wV b] = decide (a = b) := by
  show ((S b == S a) || false) = _
  rw [Bool.or_false, Bool.eq_iff_iff, beq_iff_eq, decide_eq_true_eq]
  exact ⟨fun e => (S_inj e).symm, fun e => by rw [e]⟩
def spN2 (P : Program) (w : World) (K : PySem.W.Frag) (mg : Str → Option Value) (base : Heap) (A : Ad) : Sp := fun vs H Q E => ∃ a dx p n ws k g, vs = [.ref a, .ref g] ∧ LnAt A H a dx p n ws k ∧ k ≤ ws.length ∧ TrueL P w K mg base H g ∧ (∀ wd ∈ ws, wd.length ≤ 90000) ∧ Tabs (TbA A) H ∧
  (∀ wd, ws[k]? = some wd → isNum wd = true → ∀ H', Kp (TbA A) [a] H H' → H' a = some (LineO A dx p n (k + 1)) → Q (.int (numV wd)) H') ∧ ((∀ wd, ws[k]? = some wd → isNum wd = false) → exK A [] H E n ((k : Int) + 1))
/-- through the thaw -/
theorem thaw_line {X : Cx} {σ : L2.St} {H H1 G G1 : Hp} {a dx p : Addr} {n : Int} {ws : List (List Nat)} {k : Nat} (L : LnAt A H a dx p n ws k) (kH : Kp (TbA A) [] H H1) (fx : FrzX X σ H1 G) (s1 : Same G G1) :
    Kp (TbA A) [a] H (hideC (CS X.env.cells) (upd G1 a (LineO A dx p n (k + 1)))) ∧ hideC (CS X.env.cells) (upd G1 a (LineO A dx p n (k + 1))) a = some (LineO A dx p n (k + 1)) := by
  have hG : G a = some (LineO A dx p n k) := (FrzX.kp (Tb := TbA A) (M := []) fx).k _ _ (kH.k _ _ L.o (by simp) noTbl_ins) (by simp) noTbl_ins
  have y : Kp (TbA A) [a] G (upd G1 a (LineO A dx p n (k + 1))) := (Kp.same s1).trans (Kp.put (s1 _ _ hG) (by simp) noTbl_ins (fun φ z => by cases z))
  have hM : ∀ b ∈ [a], H1 b ≠ none := fun b hb z => by
    rw [List.mem_singleton.mp hb, kH.k _ _ L.o (by simp) noTbl_ins] at z
    cases z
  exact ⟨(kH.mono (by simp)).trans (Kp.thaw fx hM y), thaw_at fx y hM upd_same ins_cellZ⟩
theorem thaw_exc {X : Cx} {σ : L2.St} {H H1 G G1 : Hp} {E : XK} {n k : Int} (h : exK A [] H E n k) (kH : Kp (TbA A) [] H H1) (fx : FrzX X σ H1 G) (s1 : Same G G1) : exT A.BT G1 (fun cls d H' => E cls d (hideC (CS X.env.cells) H')) n k := fun d hd => by
  have y : Kp (TbA A) [] G (upd G1 d (.xd [("word", .int k), ("line", .int n)])) := (Kp.same s1).trans (Kp.new hd)
  exact h d _ (kH.trans (Kp.thaw fx (fun b hb => by cases hb) y)) (thaw_at fx y (fun b hb => by cases hb) upd_same xd_cellZ)
theorem ok_need_one (T : Txt K mg A) (TB : TbOk base mg A) : FnD anyA P w K mg base (L2.CX P w) 14 A.need_one ["line", "some"] (spN1 K A) := by
  refine T.d_need_one.okX sc_need_one (fun vs H Q E h => ?_) (fun A' outer s H vs Q E hA hr h => ?_)
  · obtain ⟨a, dx, p, n, ws, k, t, word, rfl, _⟩ := h; rfl
  · obtain ⟨a, dx, p, n, ws, k, t, word, rfl, L, hk, hT, hTb, q1, q2⟩ := h
    refine ⟨_, (pss_one (ps_ret (pe_callDZ passE thawsX trivial (ok_need_word T) hr (by decide) (fun _ => rfl) rfl T.m_need_word (pa_cons (pv 0) (pa_cons (pe_lam (T := TbA A) TB.one rfl (.head _) (tb_1 TB) (free_by (o := (defScope s_need_one).names) (by decide +kernel))) pa_nil))))), ?_⟩
    refine ⟨_, rfl, hTb, fun f c' H1 eH hT1 nf hf hc G fx => ?_⟩
    have kH : Kp (TbA A) [] H H1 := Kp.lam eH hT1
    have kG : Kp (TbA A) [] H G := kH.trans (FrzX.kp fx)
    have eG : ∀ b o, H1 b = some o → noTbl o → G b = some o := fun b o e n => (FrzX.kp (Tb := TbA A) (M := []) fx).k b o e (by simp) n
    have hfG := eG _ _ hf noTbl_ext
    have hcG := eG _ _ hc noTbl_ext
    have LG : LnAt A G a dx p n ws k := ⟨kG.k _ _ L.o (by simp) noTbl_ins, kG.k _ _ L.w (by simp) noTbl_lst⟩
    have tG : SqT K G t [wV word] := kG.seqT (by simp) hT
    have cz := cz_lam (js := [1]) (fr := ["some"]) (defScope s_need_one).names hf fx rfl (by decide +kernel) (by decide +kernel) rfl
    refine ⟨a, dx, p, n, ws, k, f, fun wd => decide (wd = word), rfl, LG, hk, ⟨_, hfG⟩, fun wd hw => ⟨_, spL1 K _ t word, hfG, hcG, (lok_of (k := 0) (N := ["word", "some"]) (ps := ["word"]) (fr := ["some"]) hides0 (nscope_by (by show nscB _ _ _ ⟨.function, [("word", .local), ("some", .free)], false, false, []⟩ = true; decide +kernel)) (fun pm ctv us hu => ?_) (fun vs H Q E h => ?_) (fun A1 outer1 s1 H2 vs Q1 E1 hr1 hf1 hc1 h1 => ?_)).mono (by decide), fun R hR => ⟨wd, rfl, cz, tG, hR⟩⟩, fun wd H2 e1 e2 s2 => ?_, fun e1 H2 s2 => ?_⟩
    · obtain ⟨u, rfl⟩ : ∃ u, us = [u] := by
        cases us with
        | nil => cases hu
        | cons u r => cases r with
          | nil => exact ⟨u, rfl⟩
          | cons _ _ => cases hu
      rfl
    · obtain ⟨wd, rfl, _⟩ := h; rfl
    · obtain ⟨wd, rfl, cz2, t2, k2⟩ := h1
      refine ⟨_, _, cz2, (pe_cmpR op_in_seq (pv 0) (pv 1) (by rfl)), ?_⟩
      refine ⟨_, rfl, _, rfl, t, _, rfl, .inr (hide_seqT cz2 t2), rfl, rfl, fun hn => ?_⟩
      show Q1 (.bl (inV (wV wd) [wV word])) _
      rw [e_in1]
      exact k2 _ (same_hr fun _ _ e => e)
    · have ew : wd = word := by simpa using e2
      subst ew
      obtain ⟨z1, z2⟩ := thaw_line L kH fx s2
      exact q1 e1 _ _ z1 z2
    · exact thaw_exc (q2 fun z => by have := e1 word z; simp at this) kH fx s2
theorem ok_need_number (T : Txt K mg A) (TB : TbOk base mg A) : FnD anyA P w K mg base (L2.CX P w) 14 A.need_number ["line", "tell"] (spN2 P w K mg base A) := by
  refine T.d_need_number.okX sc_need_number (fun vs H Q E h => ?_) (fun A' outer s H vs Q E hA hr h => ?_)
  · obtain ⟨a, dx, p, n, ws, k, g, rfl, _⟩ := h; rfl
  · obtain ⟨a, dx, p, n, ws, k, g, rfl, L, hk, hg, hsz, hTb, q1, q2⟩ := h
    refine ⟨_, (pss_one (ps_ret (pe_callTy call_int_str (by rfl) T.n_int (by decide +kernel) (pa_cons (pe_callDZ passE thawsX trivial (ok_need_word T) hr (by decide) (fun _ => rfl) rfl T.m_need_word (pa_cons (pv 0) (pa_cons (pe_lam (T := TbA A) TB.num rfl (.tail _ (.head _)) (tb_2 TB) (free_by (o := (defScope s_need_number).names) (by decide +kernel))) pa_nil))) pa_nil)))), ?_⟩
    refine ⟨_, rfl, hTb, fun f c' H1 eH hT1 nf hf hc G fx => ?_⟩
    have kH : Kp (TbA A) [] H H1 := Kp.lam eH hT1
    have kG : Kp (TbA A) [] H G := kH.trans (FrzX.kp fx)
    have eG : ∀ b o, H1 b = some o → noTbl o → G b = some o := fun b o e n => (FrzX.kp (Tb := TbA A) (M := []) fx).k b o e (by simp) n
    have hfG := eG _ _ hf noTbl_ext
    have hcG := eG _ _ hc noTbl_ext
    have LG : LnAt A G a dx p n ws k := ⟨kG.k _ _ L.o (by simp) noTbl_ins, kG.k _ _ L.w (by simp) noTbl_lst⟩
    have gG : TrueL P w K mg base G g := hg.kp kG (by simp)
    have cz := cz_lam (js := [1]) (fr := ["tell"]) (defScope s_need_number).names hf fx rfl (by decide +kernel) (by decide +kernel) rfl
    refine ⟨a, dx, p, n, ws, k, f, isNum, rfl, LG, hk, ⟨_, hfG⟩, fun wd hw => ⟨_, spL2 P w K mg base _ g, hfG, hcG, (lok_of (k := 3) (N := ["word", "tell"]) (ps := ["word"]) (fr := ["tell"]) hides0 (nscope_by (by show nscB _ _ _ ⟨.function, [("word", .local), ("tell", .free), ("is_number_word", .globalImplicit), ("int", .globalImplicit)], false, false, []⟩ = true; decide +kernel)) (fun pm ctv us hu => ?_) (fun vs H Q E h => ?_) (fun A1 outer1 s1 H2 vs Q1 E1 hr1 hf1 hc1 h1 => ?_)).mono (by decide), fun R hR => ⟨wd, rfl, hsz wd hw, cz, gG, hR⟩⟩, fun wd H2 e1 e2 s2 => ?_, fun e1 H2 s2 => ?_⟩
    · obtain ⟨u, rfl⟩ : ∃ u, us = [u] := by
        cases us with
        | nil => cases hu
        | cons u r => cases r with
          | nil => exact ⟨u, rfl⟩
          | cons _ _ => cases hu
      rfl
    · obtain ⟨wd, rfl, _⟩ := h; rfl
    · obtain ⟨wd, rfl, hwl, cz2, ⟨F3, f3, c3, l3⟩, k2⟩ := h1
      refine ⟨_, _, cz2, (pe_and (pe_callD pass00 (ok_is_number_word T) hr1 (by decide) rfl T.m_is_number_word (pa_cons (pv 0) pa_nil)) (pe_one (pe_callv (i := 1) (Y := fun _ f F sp => LOk P w K mg base CX0 1 f F 1 sp) (fun _ _ _ _ h => ⟨1, h⟩) hr1 (by decide) pass00 rfl (.inr (.inr rfl)) (pa_cons (pe_callTy call_int_str (by rfl) T.n_int (by decide +kernel) (pa_cons (pv 0) pa_nil)) pa_nil)))), ?_⟩
      have hb := big
      refine ⟨_, rfl, wd, rfl, by omega, fun H3 s3 => ?_⟩
      cases eb : isNum wd with
      | false =>
        refine ⟨_, rfl, ifF rfl fun hn => ?_⟩
        have := k2 _ (same_hr s3)
        rw [eb] at this
        exact this
      | true =>
        refine ⟨_, rfl, ifT rfl ?_⟩
        have f3' := s3 _ _ (hide_at cz2 f3 ext_cellZ)
        have c3' := s3 _ _ (hide_at cz2 c3 ext_cellZ)
        refine ⟨g, F3, spL3, rfl, f3', _, rfl, S wd, numV wd, rfl, isNum_int eb, ?_, l3, f3', c3', _, rfl, fun H4 s4 hn => ?_⟩
        · have := isNum_len eb
          rw [S_len]
          omega
        · have := k2 _ (same_hr (same_trans s3 s4))
          rw [eb] at this
          exact this
    · obtain ⟨z1, z2⟩ := thaw_line L kH fx s2
      refine ⟨S wd, numV wd, rfl, isNum_int e2, ?_, q1 wd e1 e2 _ z1 z2⟩
      have := isNum_len e2
      rw [S_len]
      omega
    · exact thaw_exc (q2 e1) kH fx s2
end
end SV
namespace SV
open PySem PySem.Spec PyProof.Rows L2 TL LamX NdefX
section
variable {P : Program} {w : World} {K : PySem.W.Frag} {mg : Str → Option Value} {base : Heap} {A : Ad}
theorem Kp.drop {Tb : List (Addr × Str)} {M : List Addr} {H H1 H' : Hp} {q : Addr} (x : Kp Tb M H H1) (n : H1 q = none) (y : Kp Tb (q :: M) H H') : Kp Tb M H H' := ⟨fun b o e hb t => by
  by_cases z : b = q
  · have := x.k b o e hb t
    rw [z, n] at this
    cases this
  · exact y.k b o e (fun h => by rcases List.mem_cons.mp h with h | h
                                 · exact z h
                                 · exact hb h) t, y.t⟩
theorem trueL_of {H1 : Hp} {f : Addr} {F : LF} {kk : Nat} {pos : Pos} (h1 : H1 f = some (LamO f F)) (h2 : H1 F.c = some (CodeO F.c F.qual)) (eb : F.body = .Constant (.bool true) kk pos) (hs : NScope ["number"] ["number"] [] F.scope) (hcl : F.cl = [])
    (hb : ∀ (pm ctv : Value) (us : List Value), us.length = (["number"] : List Str).length → bindArgs (F.fd pm ctv) ⟨us, []⟩ = pure ((["number"] : List Str).zip us)) : TrueL P w K mg base H1 f := by
  refine ⟨F, h1, h2, lok_of (k := 0) (N := ["number"]) (ps := ["number"]) (fr := []) hides0 hs hb (fun vs H Q E h => ?_) (fun A1 outer1 s1 H2 vs Q1 E1 hr1 hf1 hc1 h => ?_)⟩
  · obtain ⟨v, rfl, _⟩ := h; rfl
  · obtain ⟨v, rfl, k⟩ := h
    have cz : CellsZ F.cl [] [] H2 := by
      rw [hcl]
      refine ⟨rfl, fun x y c e _ => ?_, fun b hb => ?_, fun i y e => ?_⟩
      · cases e
      · obtain ⟨y, e⟩ := hb
        cases e
      · rw [List.getElem?_nil] at e
        cases e
    refine ⟨[], _, cz, eb ▸ pe_bl, fun hn => k _ (same_hr fun _ _ e => e)⟩
/-- how many numbers are asked -/
def needN (m : Option Nat) (ws : List (List Nat)) : Nat := match m with
  | none => max (ws.length - 1) 1
  | some m => m
def goodAt (ws : List (List Nat)) (j : Nat) : Prop := ∃ wd, ws[j + 1]? = some wd ∧ isNum wd = true
def badAt (ws : List (List Nat)) (j : Nat) : Prop := ∀ wd, ws[j + 1]? = some wd → isNum wd = false
abbrev manyV (m : Option Nat) : V := match m with
  | none => .non
  | some m => .int (m : Nat)
abbrev numsV (ws : List (List Nat)) (c : Nat) : List V := ((ws.drop 1).take c).map fun wd => V.int (numV wd)
def spRead (A : Ad) : Sp := fun vs H Q E => ∃ a dx p n ws word m, vs = [.ref a, wV word, manyV m] ∧ LnAt A H a dx p n ws 0 ∧ (∀ wd ∈ ws, wd.length ≤ 90000) ∧ ws.length ≤ 90000 ∧ Tabs (TbA A) H ∧ 1 ≤ needN m ws ∧
  (ws[0]? ≠ some word → exK A [a] H E n 1) ∧
  (ws[0]? = some word → ∀ j, j < needN m ws → (∀ i, i < j → goodAt ws i) → badAt ws j → exK A [a] H E n ((j : Int) + 2)) ∧
  (ws[0]? = some word → (∀ i, i < needN m ws → goodAt ws i) → ws.length ≠ needN m ws + 1 → exK A [a] H E n ((needN m ws : Int) + 2)) ∧
  (ws[0]? = some word → (∀ i, i < needN m ws → goodAt ws i) → ws.length = needN m ws + 1 → ∀ q H', Kp (TbA A) [a] H H' → H' q = some (.lst (numsV ws (needN m ws))) → Q (.ref q) H')
theorem nums_more {ws : List (List Nat)} {c : Nat} {wd : List Nat} (h : ws[c + 1]? = some wd) : numsV ws (c + 1) = numsV ws c ++ [.int (numV wd)] := by
  unfold numsV
  have e : (ws.drop 1)[c]? = some wd := by rw [List.getElem?_drop, Nat.add_comm]; exact h
  rw [take_more e, List.map_append]
  rfl
theorem nums_len (ws : List (List Nat)) (c : Nat) (h : c + 1 ≤ ws.length) : (numsV ws c).length = c := by
  unfold numsV
  rw [List.length_map, List.length_take, List.length_drop]
  omega
theorem join_and {c b : Bool} {F : Bool → Hp → Prop} {H : Hp} {p : (Bool → Hp → Prop) → Prop} (hp : ∀ G : Bool → Hp → Prop, G b H → p G) (h : F (c && b) H) : if c = true then p F else F false H := by
  cases c with
  | true => exact ifT rfl (hp F h)
  | false => exact ifF rfl h
/-- the state of the reading: c numbers are read -/
structure RdAt (A : Ad) (H H1 H' : Hp) (a dx p q : Addr) (n : Int) (ws : List (List Nat)) (c : Nat) : Prop where
  n1 : H1 q = none
  k1 : Kp (TbA A) [a] H H1
  k : Kp (TbA A) (q :: [a]) H H'
  o : H' a = some (LineO A dx p n (c + 1))
  w : H' p = some (.lst (ws.map wV))
  f : H' q = some (.lst (numsV ws c))
  t : Tabs (TbA A) H'
  le : c + 1 ≤ ws.length
  g : ∀ i, i < c → goodAt ws i
theorem rd_body {X : Cx} {params : Arguments} {kk : Nat} {pos : Pos} {scope : Scope} {σ : L2.St} {D : Ends} {E : XK} {H H1 H' : Hp} {a dx p q : Addr} {n : Int} {ws : List (List Nat)} {c : Nat} (hs : NScope ["number"] ["number"] [] scope) (hcl : cloFrom X.env.cells scope.names [] = [])
    (hb : ∀ (c' : Addr) (pm ctv : Value) (us : List Value), us.length = (["number"] : List Str).length → bindArgs ((mkLF X params (.Constant (.bool true) kk pos) scope c').fd pm ctv) ⟨us, []⟩ = pure ((["number"] : List Str).zip us))
    (h0 : σ[0]? = some (some (.ref a))) (h3 : σ[3]? = some (some (.ref q))) (R : RdAt A H H1 H' a dx p q n ws c) (hsz : ∀ wd ∈ ws, wd.length ≤ 90000) (hsl : ws.length ≤ 90000) (good : goodAt ws c → ∀ H'', RdAt A H H1 H'' a dx p q n ws (c + 1) → D.nx σ H'')
    (bad : badAt ws c → exK A (q :: [a]) H E n ((c : Int) + 2)) : tDrop (tBM K "list" rAppend (tVar 3) (tCons (tCall (spN2 P w K mg base A) [] E (tCons (tVar 0) (tCons (tLamE (TbA A) X params (.Constant (.bool true) kk pos) scope) tNil))) tNil)) D σ H' := by
  have hb2 := big
  refine ⟨_, h3, .inl ⟨rfl, _, .inl (.inl R.f)⟩, _, h0, R.t, fun f c' H2 eH hT2 nf hf hc => ?_⟩
  have kl : Kp (TbA A) [] H' H2 := Kp.lam eH hT2
  refine ⟨a, dx, p, n, ws, c + 1, f, rfl, ⟨kl.k _ _ R.o (by simp) noTbl_ins, kl.k _ _ R.w (by simp) noTbl_lst⟩, R.le, trueL_of hf hc rfl hs hcl (hb c'), hsz, hT2, fun wd e1 e2 H3 k3 h3 => ?_, fun e1 d H3 k2 hd => ?_⟩
  · have fq : H3 q = some (.lst (numsV ws c)) := k3.k _ _ (kl.k _ _ R.f (by simp) noTbl_lst) (fun z => by
      have z := List.mem_singleton.mp z
      have h1 := R.o
      rw [← z, R.f] at h1
      cases h1) noTbl_lst
    have hlt : c + 1 < ws.length := (List.getElem?_eq_some_iff.mp e1).1
    refine ⟨q, _, _, rfl, rfl, fq, by rw [nums_len ws c R.le]; omega, ?_⟩
    have kU : Kp (TbA A) [q] H3 (upd H3 q (.lst (numsV ws c ++ [.int (numV wd)]))) := Kp.put fq (by simp) noTbl_lst (fun φ z => by cases z)
    have kA : Kp (TbA A) (q :: [a]) H' H3 := (kl.mono (by simp)).trans (k3.mono (by simp))
    have qa : a ≠ q := fun z => by
      rw [z, fq] at h3
      cases h3
    refine good ⟨wd, e1, e2⟩ _ ⟨R.n1, R.k1, (R.k.trans kA).trans (kU.mono (by simp)), (upd_ne qa).trans h3, ?_, by rw [upd_same, nums_more e1], (kU.t (kA.t R.t)), by omega, fun i hi => ?_⟩
    · have pa : p ≠ a := fun z => by
        have h1 := R.o
        rw [← z, R.w] at h1
        cases h1
      have pq : p ≠ q ∨ p = q := (Decidable.em (p = q)).symm
      rcases pq with pq | pq
      · exact (upd_ne pq).trans (k3.k _ _ (kl.k _ _ R.w (by simp) noTbl_lst) (by simpa using pa) noTbl_lst)
      · have hL := R.w
        rw [pq, R.f] at hL
        have hn := congrArg (fun o : Option HO => match o with
          | some (.lst xs) => xs.length
          | _ => 0) hL
        simp only at hn
        rw [nums_len ws c R.le, List.length_map] at hn
        omega
    · by_cases e : i = c
      · rw [e]; exact ⟨wd, e1, e2⟩
      · exact R.g i (by omega)
  · have := bad e1 d H3 (R.k.trans ((kl.mono (by simp)).trans (k2.mono (by simp))))
    have ec : ((c + 1 : Nat) : Int) + 1 = (c : Int) + 2 := by omega
    rw [ec] at hd
    exact this hd
theorem ok_read_notes (T : Txt K mg A) (TB : TbOk base mg A) : FnD anyA P w K mg base (L2.CX P w) 16 A.read_notes ["line", "word", "many"] (spRead A) := by
  refine T.d_read_notes.okX sc_read_notes (fun vs H Q E h => ?_) (fun A' outer s H vs Q E hA hr h => ?_)
  · obtain ⟨a, dx, p, n, ws, word, m, rfl, _⟩ := h; rfl
  · obtain ⟨a, dx, p, n, ws, word, m, rfl, L, hsz, hsl, hTb, hm1, x1, x2, x3, q1⟩ := h
    have hb := big
    refine ⟨_, (pss_cons (ps_expr (pe_callD passE (ok_need_one T TB) hr (by decide) rfl T.m_need_one (pa_cons (pv 0) (pa_cons (pe_tup (pa_cons (pv 1) pa_nil)) pa_nil))))
      (pss_cons (ps_set (i := 3) sc_read_notes.nd rfl (.inl rfl) (pe_lst (pa_cons (pe_callD passE (ok_need_number T TB) hr (by decide) rfl T.m_need_number (pa_cons (pv 0) (pa_cons (pe_lam (T := TbA A) TB.rd rfl (.tail _ (.tail _ (.head _))) (tb_3 TB) (free_by (o := (defScope s_read_notes).names) (by decide +kernel))) pa_nil))) pa_nil)))
      (pss_cons (ps_while (passes_of rfl) (PW.pt (pw_and (pt_not (pt_val (pe_methD0 pass00 (pv 0) T.c_Line T.t_Line_is_end (ok_Line_is_end T) hr (by decide)))) (pw_and1 (pt_cmpR op_ne (pe_callB call_len_seq (by rfl) T.n_len (by decide +kernel) (pa_cons (pv 3) pa_nil)) (pv 2) (nomark _)))))
      (pss_one (ps_expr (pe_bm PySem.F.plainAttrs_list PySem.F.slot_list_append PySem.F.type_list_append mt_append (pv 3) (pa_cons (pe_callD passE (ok_need_number T TB) hr (by decide) rfl T.m_need_number (pa_cons (pv 0) (pa_cons (pe_lam (T := TbA A) TB.rd rfl (.tail _ (.tail _ (.head _))) (tb_3 TB) (free_by (o := (defScope s_read_notes).names) (by decide +kernel))) pa_nil))) pa_nil)))))
      (pss_cons (ps_while (passes_of rfl) (PW.pt (pw_and (pt_cmpR op_notN (pv 2) pe_non (nomark _)) (pw_and1 (pt_cmpR op_lt (pe_callB call_len_seq (by rfl) T.n_len (by decide +kernel) (pa_cons (pv 3) pa_nil)) (pv 2) (nomark _)))))
      (pss_one (ps_expr (pe_bm PySem.F.plainAttrs_list PySem.F.slot_list_append PySem.F.type_list_append mt_append (pv 3) (pa_cons (pe_callD passE (ok_need_number T TB) hr (by decide) rfl T.m_need_number (pa_cons (pv 0) (pa_cons (pe_lam (T := TbA A) TB.rd rfl (.tail _ (.tail _ (.head _))) (tb_3 TB) (free_by (o := (defScope s_read_notes).names) (by decide +kernel))) pa_nil))) pa_nil)))))
      (pss_cons (ps_expr (pe_callD passE (ok_need_end T) hr (by decide) rfl T.m_need_end (pa_cons (pv 0) pa_nil)))
      (pss_one (ps_ret (pv 3)))))))), ?_⟩
    refine ⟨_, rfl, _, rfl, by simp; omega, fun tt htt => ?_⟩
    have sT := same_upd (o := .tup [wV word]) htt
    have kT : Kp (TbA A) [] H (upd H tt (.tup [wV word])) := .same sT
    refine ⟨a, dx, p, n, ws, 0, tt, word, rfl, ⟨sT _ _ L.o, sT _ _ L.w⟩, Nat.zero_le _, .inl (.inl upd_same), kT.t hTb, fun e0 v H1 k1 h1 => ?_, fun e0 d H' k2 hd => x1 e0 d H' ((kT.mono (by simp)).trans (k2.mono (by simp))) hd⟩
    have kH1 : Kp (TbA A) [a] H H1 := (kT.mono (by simp)).trans k1
    have hl1 : 1 ≤ ws.length := by
      cases ws with
      | nil => cases e0
      | cons _ _ => simp
    have pa : p ≠ a := fun z => by
      have h1 := L.o
      rw [← z, L.w] at h1
      cases h1
    have w1 := kH1.k _ _ L.w (by simpa using pa) noTbl_lst
    have t1 := kH1.t hTb
    refine ⟨_, rfl, t1, fun f c' H2 eH hT2 nf hf hc => ?_⟩
    have kl : Kp (TbA A) [] H1 H2 := Kp.lam eH hT2
    refine ⟨a, dx, p, n, ws, 1, f, rfl, ⟨kl.k _ _ h1 (by simp) noTbl_ins, kl.k _ _ w1 (by simp) noTbl_lst⟩, hl1, trueL_of hf hc rfl (nscope_by (by show nscB _ _ _ ⟨.function, [("number", .local)], false, false, []⟩ = true; decide +kernel)) rfl (fun pm ctv us hu => ?_), hsz, hT2, fun wd e1 e2 H3 k3 h3 => ?_, fun e1 d H' k2 hd => ?_⟩
    · obtain ⟨u, rfl⟩ : ∃ u, us = [u] := by
        cases us with
        | nil => cases hu
        | cons u r => cases r with
          | nil => exact ⟨u, rfl⟩
          | cons _ _ => cases hu
      rfl
    rotate_left
    · exact x2 e0 0 hm1 (fun i hi => by omega) e1 d H' (kH1.trans ((kl.trans k2).mono (by simp))) hd
    refine ⟨by simp; omega, fun q hq => ?_⟩
    have kH3 : Kp (TbA A) [a] H H3 := kH1.trans ((kl.mono (by simp)).trans k3)
    obtain ⟨σ, eσ⟩ : ∃ σ, σ = (L2.start ["line", "word", "many", "found"] [V.ref a, wV word, manyV m]).set 3 (some (.ref q)) := ⟨_, rfl⟩
    have s0 : σ[0]? = some (some (.ref a)) := by rw [eσ]; rfl
    have s2 : σ[2]? = some (some (manyV m)) := by rw [eσ]; rfl
    have s3 : σ[3]? = some (some (.ref q)) := by rw [eσ]; rfl
    have hlt1 : 1 < ws.length := (List.getElem?_eq_some_iff.mp e1).1
    have qa : a ≠ q := fun z => by rw [← z, h3] at hq; cases hq
    have pq : p ≠ q := fun z => by
      have := kH3.k _ _ L.w (by simpa using pa) noTbl_lst
      rw [z, hq] at this
      cases this
    have R1 : RdAt A H H3 (upd H3 q (.lst [.int (numV wd)])) a dx p q n ws 1 := by
      have kq : Kp (TbA A) (q :: [a]) H (upd H3 q (.lst [.int (numV wd)])) := (kH3.mono (by simp)).trans (Kp.new hq)
      refine ⟨hq, kH3, kq, (upd_ne qa).trans h3, (upd_ne pq).trans (kH3.k _ _ L.w (by simpa using pa) noTbl_lst), ?_, kq.t hTb, by omega, fun i hi => ⟨wd, ?_, e2⟩⟩
      · rw [upd_same]
        have := nums_more (ws := ws) (c := 0) e1
        rw [this]
        rfl
      · have : i = 0 := by omega
        rw [this]; exact e1
    have bad : ∀ c H', RdAt A H H3 H' a dx p q n ws c → c < needN m ws → badAt ws c → exK A (q :: [a]) H E n ((c : Int) + 2) := fun c H' R hc hbd d H2 k2 hd => x2 e0 c hc R.g hbd d H2 (kH3.drop hq k2) hd
    show tSeq _ _ _ ((L2.start ["line", "word", "many", "found"] [V.ref a, wV word, manyV m]).set 3 (some (.ref q))) _
    rw [← eσ]
    refine ⟨fun mm σ' H' => ∃ c, mm = ws.length - c ∧ σ' = σ ∧ RdAt A H H3 H' a dx p q n ws c ∧ c ≤ needN m ws, ⟨_, 1, rfl, rfl, R1, hm1⟩, ?_⟩
    rintro mm σ' H' ⟨c, rfl, rfl, R, hc⟩
    have hcl := nums_len ws c R.le
    have hbl : ∀ (qual : Str) (cl : List (Str × Addr)), True := fun _ _ => trivial
    refine ⟨_, s0, a, dx, _, rfl, R.o, rfl, a, dx, p, n, ws, c + 1, rfl, ⟨R.o, R.w⟩, _, rfl, ?_⟩
    refine join_and (H := H') (b := !decide (V.int (c : Nat) = manyV m)) (p := tTest _ _ _) (fun G g => ?_) ?_
    · refine ⟨_, s3, q, _, rfl, .inl (.inl (.inl R.f)), _, s2, by cases m <;> rfl, ?_⟩
      rw [hcl]
      exact ⟨_, rfl, g⟩
    by_cases hT : c + 1 ≠ ws.length ∧ m ≠ some c
    · refine ifT ?_ ⟨fun σ2 H2 => ∃ c2, c2 = c + 1 ∧ σ2 = σ' ∧ RdAt A H H3 H2 a dx p q n ws c2 ∧ c2 ≤ needN m ws, fun σ2 H2 h2 => ?_, ?_⟩
      · have h2 := hT.2
        rw [Bool.and_eq_true]
        refine ⟨by simpa using hT.1, ?_⟩
        cases m with
        | none => rfl
        | some mm => simp; intro z; exact h2 (by rw [Int.ofNat.inj z])
      · obtain ⟨c2, rfl, rfl, R2, hc2⟩ := h2
        exact ⟨_, by have := R2.le; omega, c + 1, rfl, rfl, R2, hc2⟩
      · have hlt : c < needN m ws := by
          cases m with
          | none => show c < max (ws.length - 1) 1; have := R.le; have := hT.1; omega
          | some mm =>
            have h2 := hT.2
            show c < mm
            have : c ≤ mm := hc
            have : c ≠ mm := fun z => h2 (by rw [z])
            omega
        exact rd_body (nscope_by (by show nscB _ _ _ ⟨.function, [("number", .local)], false, false, []⟩ = true; decide +kernel)) rfl (fun c' pm ctv us hu => by
          obtain ⟨u, rfl⟩ : ∃ u, us = [u] := by
            cases us with
            | nil => cases hu
            | cons u r => cases r with
              | nil => exact ⟨u, rfl⟩
              | cons _ _ => cases hu
          rfl) s0 s3 R hsz hsl (fun _ H'' R2 => ⟨c + 1, rfl, rfl, R2, by omega⟩) (bad c H' R hlt)
    · refine ifF ?_ ?_
      · by_cases z : c + 1 = ws.length
        · simp [z]
        · have z2 : m = some c := Decidable.byContradiction fun y => hT ⟨z, y⟩
          subst z2
          simp
      · have hex : m = none → c + 1 = ws.length := fun z => Decidable.byContradiction fun y => hT ⟨y, by rw [z]; exact fun q => by cases q⟩
        clear hT
        refine ⟨fun mm σ2 H' => ∃ c, mm = ws.length - c ∧ σ2 = σ' ∧ RdAt A H H3 H' a dx p q n ws c ∧ c ≤ needN m ws ∧ (m = none → c + 1 = ws.length), ⟨_, c, rfl, rfl, R, hc, hex⟩, ?_⟩
        clear R hcl hex hc
        rintro mm σ2 H' ⟨c, rfl, rfl, R, hc, hex⟩
        have hcl := nums_len ws c R.le
        refine ⟨_, s2, rfl, _, rfl, ?_⟩
        have fin : (∀ i, i < needN m ws → goodAt ws i) → c = needN m ws → tSeq (tDrop (tCall (spNEnd A) [] E (tCons (tVar 0) tNil))) (tRet (tVar 3)) { nx := fun _ H' => Q .non H', rt := Q } σ2 H' := fun hg ec => by
          refine ⟨_, s0, a, dx, p, n, ws, c + 1, rfl, ⟨R.o, R.w⟩, fun e => ⟨_, s3, ?_⟩, fun e d hd => ?_⟩
          · refine q1 e0 hg (by omega) q _ (kH3.drop hq R.k) ?_
            rw [← ec]; exact R.f
          · have := x3 e0 hg (by omega) d (upd H' d (.xd [("word", .int ((needN m ws : Int) + 2)), ("line", .int n)])) (kH3.drop hq (R.k.trans (Kp.new hd))) upd_same
            have ec2 : ((c + 1 : Nat) : Int) + 1 = (needN m ws : Int) + 2 := by omega
            rw [ec2]
            exact this
        cases m with
        | none =>
          have ec : c = needN none ws := by
            show c = max (ws.length - 1) 1
            have := hex rfl
            have h1 : 1 < ws.length := hlt1
            omega
          refine ifF rfl (ifF rfl ?_)
          exact fin (fun i hi => R.g i (by omega)) ec
        | some mm =>
          refine ifT rfl ?_
          refine ⟨_, s3, q, _, rfl, .inl (.inl (.inl R.f)), _, s2, _, _, rfl, rfl, _, rfl, ?_⟩
          rw [hcl]
          have hcm : c ≤ mm := hc
          by_cases hlt : c < mm
          · refine ifT (by rw [decide_eq_true_eq]; omega) ⟨fun σ3 H2 => ∃ c2, c2 = c + 1 ∧ σ3 = σ2 ∧ RdAt A H H3 H2 a dx p q n ws c2 ∧ c2 ≤ mm, fun σ3 H2 h2 => ?_, ?_⟩
            · obtain ⟨c2, rfl, rfl, R2, hc2⟩ := h2
              exact ⟨_, by have := R2.le; omega, c + 1, rfl, rfl, R2, hc2, fun z => by cases z⟩
            · exact rd_body (nscope_by (by show nscB _ _ _ ⟨.function, [("number", .local)], false, false, []⟩ = true; decide +kernel)) rfl (fun c' pm ctv us hu => by
                obtain ⟨u, rfl⟩ : ∃ u, us = [u] := by
                  cases us with
                  | nil => cases hu
                  | cons u r => cases r with
                    | nil => exact ⟨u, rfl⟩
                    | cons _ _ => cases hu
                rfl) s0 s3 R hsz hsl (fun _ H'' R2 => ⟨c + 1, rfl, rfl, R2, by omega⟩) (bad c H' R hlt)
          · refine ifF (by rw [decide_eq_false_iff_not]; omega) ?_
            have ec : c = needN (some mm) ws := by show c = mm; omega
            exact fin (fun i hi => R.g i (by omega)) ec
end
end SV
namespace SV
open PySem PySem.Spec PyProof.Rows L2 TL LamX NdefX
/-! ### what a text of a piece tells -/
def goodB (ws : List (List Nat)) (j : Nat) : Bool := match ws[j + 1]? with
  | some wd => isNum wd
  | none => false
theorem good_iff {ws : List (List Nat)} {j : Nat} : goodAt ws j ↔ goodB ws j = true := by
  unfold goodAt goodB
  cases e : ws[j + 1]? with
  | none => simp
  | some wd => simp
theorem bad_iff {ws : List (List Nat)} {j : Nat} : badAt ws j ↔ goodB ws j = false := by
  unfold badAt goodB
  cases e : ws[j + 1]? with
  | none => simp
  | some wd => simp
def rdOut (word : List Nat) (m : Option Nat) (ws : List (List Nat)) : Except Nat (List Int) :=
  if ws[0]? = some word then
    match (List.range (needN m ws)).find? (fun j => !goodB ws j) with
    | some j => .error (j + 2)
    | none => if ws.length = needN m ws + 1 then .ok ((ws.drop 1).map numV) else .error (needN m ws + 2)
  else .error 1
def wMel : List Nat := [109, 101, 108, 111, 100, 121]
def wVoi : List Nat := [118, 111, 105, 99, 101]
def pieceOut (l : List Nat) : Except (Int × Int) (List (Int × Int)) :=
  match (rowsL l)[0]? with
  | none => .error (endNo (rowsL l), 1)
  | some r0 => match rdOut wMel none r0.2 with
    | .error k => .error ((r0.1 : Int), (k : Int))
    | .ok xs => match (rowsL l)[1]? with
      | none => .error (endNo (rowsL l), 1)
      | some r1 => match rdOut wVoi (some xs.length) r1.2 with
        | .error k => .error ((r1.1 : Int), (k : Int))
        | .ok ys => match (rowsL l)[2]? with
          | none => .ok (xs.zip ys)
          | some r2 => .error ((r2.1 : Int), 1)
theorem rd_len {word : List Nat} {m : Option Nat} {ws : List (List Nat)} {ys : List Int} (h : rdOut word m ws = .ok ys) : ys.length = needN m ws := by
  unfold rdOut at h
  split at h
  · split at h
    · cases h
    · split at h
      · rename_i e
        injection h with h
        rw [← h, List.length_map, List.length_drop]
        omega
      · cases h
  · cases h
def spRead2 (A : Ad) : Sp := fun vs H Q E => ∃ a dx p n ws word m, vs = [.ref a, wV word, manyV m] ∧ LnAt A H a dx p n ws 0 ∧ (∀ wd ∈ ws, wd.length ≤ 90000) ∧ ws.length ≤ 90000 ∧ Tabs (TbA A) H ∧ 1 ≤ needN m ws ∧
  (∀ k, rdOut word m ws = .error k → exK A [a] H E n k) ∧ (∀ ys, rdOut word m ws = .ok ys → ∀ q H', Kp (TbA A) [a] H H' → H' q = some (.lst (ys.map V.int)) → Q (.ref q) H')
theorem read2 {A : Ad} (vs : List V) (H : Hp) (Q : VK) (E : XK) (h : spRead2 A vs H Q E) : spRead A vs H Q E := by
  obtain ⟨a, dx, p, n, ws, word, m, e, L, h1, h2, h3, h4, x, q⟩ := h
  have nf : (∀ i, i < needN m ws → goodAt ws i) → (List.range (needN m ws)).find? (fun j => !goodB ws j) = none := fun hg => by
    rw [List.find?_eq_none]
    intro i hi
    have := good_iff.mp (hg i (List.mem_range.mp hi))
    simp [this]
  refine ⟨a, dx, p, n, ws, word, m, e, L, h1, h2, h3, h4, fun e0 => x 1 (by unfold rdOut; rw [if_neg e0]), fun e0 j hj hg hb => ?_, fun e0 hg hl => ?_, fun e0 hg hl q2 H' hk hq => ?_⟩
  · refine x (j + 2) ?_
    unfold rdOut
    rw [if_pos e0]
    have : (List.range (needN m ws)).find? (fun j => !goodB ws j) = some j := by
      rw [List.find?_range_eq_some]
      refine ⟨by simp [bad_iff.mp hb], List.mem_range.mpr hj, fun i hi => ?_⟩
      simp [good_iff.mp (hg i hi)]
    rw [this]
  · refine x (needN m ws + 2) ?_
    unfold rdOut
    rw [if_pos e0, nf hg]
    simp only
    rw [if_neg hl]
  · refine q ((ws.drop 1).map numV) ?_ q2 H' hk ?_
    · unfold rdOut
      rw [if_pos e0, nf hg]
      simp only
      rw [if_pos hl]
    · rw [hq]
      unfold numsV
      rw [List.take_of_length_le (by rw [List.length_drop]; omega), List.map_map]
      rfl
/-- a piece as a tuple of pairs -/
def PrAt (H : Hp) (v : V) (x : Int × Int) : Prop := ∃ t, v = .ref t ∧ H t = some (.tup [.int x.1, .int x.2])
def PsAt (H : Hp) (v : V) (ps : List (Int × Int)) : Prop := ∃ t xs, v = .ref t ∧ H t = some (.tup xs) ∧ All2 (PrAt H) xs ps
theorem PrAt.kp {Tb : List (Addr × Str)} {M : List Addr} {H H' : Hp} {v : V} {x : Int × Int} (k : Kp Tb M H H') (hM : ∀ b ∈ M, ∀ xs, H b ≠ some (.tup xs)) (h : PrAt H v x) : PrAt H' v x := by
  obtain ⟨t, e, h⟩ := h
  exact ⟨t, e, k.k _ _ h (fun z => hM _ z _ h) noTbl_tup⟩
theorem PsAt.kp {Tb : List (Addr × Str)} {M : List Addr} {H H' : Hp} {v : V} {ps : List (Int × Int)} (k : Kp Tb M H H') (hM : ∀ b ∈ M, ∀ xs, H b ≠ some (.tup xs)) (h : PsAt H v ps) : PsAt H' v ps := by
  obtain ⟨t, xs, e, h, a⟩ := h
  exact ⟨t, xs, e, k.k _ _ h (fun z => hM _ z _ h) noTbl_tup, a.mono fun _ _ r => r.kp k hM⟩
def spPiece (K : PySem.W.Frag) (A : Ad) : Sp := fun vs H Q E => (∃ l : List Nat, vs = [.str (S l)] ∧ l.length ≤ 80000 ∧ Tabs (TbA A) H ∧ (∀ e, pieceOut l = .error e → exK A [] H E e.1 e.2) ∧ (∀ ps, pieceOut l = .ok ps → ∀ v H', Kp (TbA A) [] H H' → PsAt H' v ps → Q v H')) ∨
  ∃ v t, vs = [v] ∧ TyX K H v t ∧ PySem.W.kitOne K t (.type "str") = some false ∧ exK A [] H E 0 0
theorem cut_all (c : Nat) (l acc : List Nat) : ∀ w ∈ spl [c] 0 acc l, w.length ≤ acc.length + l.length := cut_sum c l acc
theorem rows_facts {l : List Nat} {r : Nat × List (List Nat)} (h : r ∈ rowsL l) : r.2 ≠ [] ∧ r.2.length ≤ l.length + 1 ∧ ∀ wd ∈ r.2, wd.length ≤ l.length := by
  unfold rowsL at h
  obtain ⟨h1, h2⟩ := List.mem_filter.mp h
  refine ⟨by simpa using h2, ?_⟩
  unfold toldL at h1
  obtain ⟨i, hi⟩ := List.getElem?_of_mem h1
  rw [List.getElem?_mapIdx] at hi
  cases e : (cut 10 l)[i]? with
  | none => rw [e] at hi; cases hi
  | some z =>
    rw [e] at hi
    cases hi
    have hz : z.length ≤ l.length := by
      have := cut_sum 10 l [] z (List.mem_of_getElem? e)
      simpa using this
    refine ⟨Nat.le_trans (words_len z) (by omega), fun wd hw => Nat.le_trans (words_each z wd hw) hz⟩
theorem kp_next {Tb : List (Addr × Str)} {H : Hp} {a l dl C dx : Addr} {fs : List (Str × V)} {u o1 o2 : HO} (h : H a = some (.ins C dx fs)) (hl : H l = none) (hdl : H dl = none) : Kp Tb [a] H (upd (upd (upd H a u) dl o1) l o2) := by
  refine (Kp.put h (by simp) noTbl_ins (fun φ z => by cases z) : Kp Tb [a] H (upd H a u)).trans (.same fun b o e => ?_)
  have nb : ∀ {c}, H c = none → b ≠ c := fun {c} hc z => by
    by_cases q : b = a
    · rw [← z, q, h] at hc; cases hc
    · rw [upd_ne q] at e; rw [z, hc] at e; cases e
  rw [upd_ne (nb hl), upd_ne (nb hdl)]
  exact e
theorem RsAt.kp {A : Ad} {Tb : List (Addr × Str)} {M : List Addr} {H H' : Hp} {a dx p : Addr} {xs : List V} {rs : List (Nat × List (List Nat))} {k : Nat} (R : RsAt A H a dx p xs rs k) (kp : Kp Tb M H H') (ha : a ∉ M) (hM : ∀ b ∈ M, ∃ C dx fs, H b = some (.ins C dx fs)) : RsAt A H' a dx p xs rs k := by
  have nt : ∀ {b o}, H b = some o → (∀ C dx fs, o ≠ .ins C dx fs) → b ∉ M := fun {b o} e n z => by
    obtain ⟨C, dx, fs, h⟩ := hM b z
    rw [e] at h
    exact n _ _ _ (Option.some.inj h)
  refine ⟨kp.k _ _ R.o ha noTbl_ins, kp.k _ _ R.w (nt R.w fun _ _ _ z => by cases z) noTbl_lst, R.r.mono fun x r h => ?_, R.c⟩
  obtain ⟨t, q, e, h1, h2⟩ := h
  exact ⟨t, q, e, kp.k _ _ h1 (nt h1 fun _ _ _ z => by cases z) noTbl_tup, kp.k _ _ h2 (nt h2 fun _ _ _ z => by cases z) noTbl_lst⟩
theorem All2.of {α β : Type} {R : α → β → Prop} : ∀ {as : List α} {bs : List β}, as.length = bs.length → (∀ (i : Nat) (a : α) (b : β), as[i]? = some a → bs[i]? = some b → R a b) → All2 R as bs
  | [], [], _, _ => .nil
  | _ :: _, _ :: _, h, f => .cons (f 0 _ _ rfl rfl) (All2.of (Nat.succ.inj h) fun i a b e1 e2 => f (i + 1) a b e1 e2)
  | [], _ :: _, h, _ => by cases h
  | _ :: _, [], h, _ => by cases h
theorem e_mel : (Str.ofString "melody") = S wMel := by decide +kernel
theorem e_voi : (Str.ofString "voice") = S wVoi := by decide +kernel
section
variable {P : Program} {w : World} {K : PySem.W.Frag} {mg : Str → Option Value} {base : Heap} {A : Ad}
theorem ok_read2 (T : Txt K mg A) (TB : TbOk base mg A) : FnD anyA P w K mg base (L2.CX P w) 16 A.read_notes ["line", "word", "many"] (spRead2 A) := (ok_read_notes T TB).imp read2
theorem exT_K {H H1 : Hp} {E : XK} {n k : Int} (h : exK A [] H E n k) (kp : Kp (TbA A) [] H H1) : exT A.BT H1 E n k := fun d hd => h d _ (kp.trans (Kp.new hd)) upd_same
theorem ok_piece_of_text (T : Txt K mg A) (TB : TbOk base mg A) : FnD anyA P w K mg base (L2.CX P w) 20 A.piece_of_text ["text"] (spPiece K A) := by
  refine T.d_piece_of_text.okX sc_piece_of_text (fun vs H Q E h => ?_) (fun cdv A' outer s H vs Q E hA hr h => ?_)
  · rcases h with ⟨l, rfl, _⟩ | ⟨v, t, rfl, _⟩ <;> rfl
  · have hb := big
    refine ⟨_, (pss_cons (ps_set (i := 1) sc_piece_of_text.nd rfl (.inl rfl) (pe_makeD pass00 T.k_Rows (ok_Rowsi T) hr (by decide) rfl T.m_Rows (pa_cons (pe_callD passE (ok_lines_of T) hr (by decide) rfl T.m_lines_of (pa_cons (pv 0) pa_nil)) pa_nil)))
      (pss_cons (ps_set (i := 2) sc_piece_of_text.nd rfl (.inl rfl) (pe_callD passE (ok_read2 T TB) hr (by decide) rfl T.m_read_notes (pa_cons (pe_methD0 passE (pv 1) T.c_Rows T.t_Rows_next_line (ok_next_line T) hr (by decide)) (pa_cons pe_str (pa_cons pe_non pa_nil)))))
      (pss_cons (ps_set (i := 3) sc_piece_of_text.nd rfl (.inl rfl) (pe_callD passE (ok_read2 T TB) hr (by decide) rfl T.m_read_notes (pa_cons (pe_methD0 passE (pv 1) T.c_Rows T.t_Rows_next_line (ok_next_line T) hr (by decide)) (pa_cons pe_str (pa_cons (pe_callB call_len_seq (by rfl) T.n_len (by decide +kernel) (pa_cons (pv 2) pa_nil)) pa_nil)))))
      (pss_cons (ps_if (pt_not (pt_val (pe_methD0 pass00 (pv 1) T.c_Rows T.t_Rows_is_end (ok_Rows_is_end T) hr (by decide))))
      (pss_one (ps_expr (pe_callD passE (ok_need_end T) hr (by decide) rfl T.m_need_end (pa_cons (pe_methD0 passE (pv 1) T.c_Rows T.t_Rows_next_line (ok_next_line T) hr (by decide)) pa_nil))))
      pss_nil)
      (pss_one (ps_ret (pe_tupZip rfl (by rfl) T.n_tuple (by rfl) T.n_zip (pa_cons (pv 2) (pa_cons (pv 3) pa_nil))))))))), ?_⟩
    rcases h with ⟨l, rfl, hl, hTb, hx, hq⟩ | ⟨v, t, rfl, ty, hk, hx⟩
    rotate_left
    · exact ⟨_, rfl, .inr ⟨v, t, rfl, ty, hk, exT_K hx (Kp.refl _ _ _)⟩⟩
    refine ⟨_, rfl, .inl ⟨l, rfl, by omega, fun p xs H1 hp s1 hp1 hr2 => ?_⟩⟩
    refine fun x dx hxn hdn ne => ⟨x, dx, p, rfl, upd_same, rfl, ?_⟩
    rw [upd_upd]
    generalize eH2 : upd (upd H1 dx (.own x)) x (RowsO A dx p 0) = H2
    have s2 : Same H1 H2 := fun b o e => by
      rw [← eH2, upd_ne (ne_of_none e hxn), upd_ne (ne_of_none e hdn)]
      exact e
    have k1 : Kp (TbA A) [] H H1 := .same s1
    have k2 : Kp (TbA A) [] H H2 := k1.trans (.same s2)
    have R2 : RsAt A H2 x dx p xs (rowsL l) 0 := ⟨by rw [← eH2]; exact upd_same, s2 _ _ hp1, hr2.mono fun _ _ r => r.same s2, Nat.zero_le _⟩
    -- the melody's row
    refine ⟨_, rfl, x, dx, _, rfl, R2.o, rfl, x, dx, p, xs, rowsL l, 0, rfl, R2, fun e0 => ?_, fun r0 e0 l0 dl0 q0 H3 hl0 hdl0 eH3 L3 R3 => ?_⟩
    · refine exT_K (hx (endNo (rowsL l), 1) ?_) k2
      unfold pieceOut
      rw [e0]
    have k3 : Kp (TbA A) [x] H2 H3 := by rw [eH3]; exact kp_next R2.o hl0 hdl0
    have f0 := rows_facts (List.mem_of_getElem? e0)
    have T2 := k2.t hTb
    have T3 := k3.t T2
    have nx0 : x ≠ l0 := fun z => by rw [← z, R2.o] at hl0; cases hl0
    have k3' : Kp (TbA A) [l0, x] H H3 := (k2.mono (by simp)).trans (k3.mono (by simp))
    have dropX : ∀ {H'}, Kp (TbA A) [l0, x] H H' → Kp (TbA A) [] H H' := fun {H'} y => Kp.drop k1 hxn (Kp.drop ((k1.trans (.same s2)).mono (by simp)) hl0 y)
    refine ⟨l0, dl0, q0, _, r0.2, wMel, none, by rw [e_mel]; rfl, L3, fun wd hw => by have := f0.2.2 wd hw; omega, by have := f0.2.1; omega, T3, by show 1 ≤ max _ 1; omega, fun k ek d H' kk hd => ?_, fun ys ey q1 H4 k4 hq1 => ?_⟩
    · refine hx ((r0.1 : Int), (k : Int)) ?_ d H' (dropX (k3'.trans (kk.mono (by simp)))) hd
      unfold pieceOut
      rw [e0]
      simp only
      rw [ek]
    have k34 : Kp (TbA A) [l0, x] H H4 := k3'.trans (k4.mono (by simp))
    have R4 : RsAt A H4 x dx p xs (rowsL l) 1 := R3.kp k4 (by simpa using nx0) (fun b hb => by rw [List.mem_singleton.mp hb]; exact ⟨_, _, _, L3.o⟩)
    have T4 := k4.t T3
    have n1x : q1 ≠ x := fun z => by
      have := R4.o
      rw [← z, hq1] at this
      cases this
    have hys : ys.length = max (r0.2.length - 1) 1 := rd_len ey
    -- the voice's row
    refine ⟨_, rfl, x, dx, _, rfl, R4.o, rfl, x, dx, p, xs, rowsL l, 1, rfl, R4, fun e1 => ?_, fun r1 e1 l1 dl1 q2 H5 hl1 hdl1 eH5 L5 R5 => ?_⟩
    · refine fun d hd => hx (endNo (rowsL l), 1) ?_ d _ (dropX (k34.trans (Kp.new hd))) upd_same
      unfold pieceOut
      rw [e0]
      simp only
      rw [ey]
      simp only
      rw [e1]
    have k5 : Kp (TbA A) [x] H4 H5 := by rw [eH5]; exact kp_next R4.o hl1 hdl1
    have f1 := rows_facts (List.mem_of_getElem? e1)
    have T5 := k5.t T4
    have nx1 : x ≠ l1 := fun z => by rw [← z, R4.o] at hl1; cases hl1
    have k35 : Kp (TbA A) [l1, l0, x] H H5 := (k34.mono (by simp)).trans (k5.mono (by simp))
    have dropY : ∀ {H'}, Kp (TbA A) [l1, l0, x] H H' → Kp (TbA A) [] H H' := fun {H'} y => dropX (Kp.drop k34 hl1 y)
    have hq15 : H5 q1 = some (.lst (ys.map V.int)) := k5.k _ _ hq1 (by simpa using n1x) noTbl_lst
    refine ⟨_, rfl, q1, _, rfl, .inl (.inl (.inl hq15)), ?_⟩
    refine ⟨l1, dl1, q2, _, r1.2, wVoi, some ys.length, by rw [e_voi, List.length_map]; rfl, L5, fun wd hw => by have := f1.2.2 wd hw; omega, by have := f1.2.1; omega, T5, by show 1 ≤ ys.length; omega, fun k ek d H' kk hd => ?_, fun zs ez q3 H6 k6 hq3 => ?_⟩
    · refine hx ((r1.1 : Int), (k : Int)) ?_ d H' (dropY (k35.trans (kk.mono (by simp)))) hd
      unfold pieceOut
      rw [e0]
      simp only
      rw [ey]
      simp only
      rw [e1]
      simp only
      rw [ek]
    have k36 : Kp (TbA A) [l1, l0, x] H H6 := k35.trans (k6.mono (by simp))
    have R6 : RsAt A H6 x dx p xs (rowsL l) 2 := R5.kp k6 (by simpa using nx1) (fun b hb => by rw [List.mem_singleton.mp hb]; exact ⟨_, _, _, L5.o⟩)
    have n1l : q1 ≠ l1 := fun z => by rw [← z, hq1] at hl1; cases hl1
    have hq16 : H6 q1 = some (.lst (ys.map V.int)) := k6.k _ _ hq15 (by simpa using n1l) noTbl_lst
    have hlr := R6.r.len
    refine ⟨_, rfl, x, dx, _, rfl, R6.o, rfl, x, dx, p, xs, 2, rfl, R6.o, R6.w, _, rfl, ?_⟩
    by_cases hend : 2 = xs.length
    · have e2 : (rowsL l)[2]? = none := by rw [List.getElem?_eq_none]; omega
      refine ifF (by simpa using hend) ?_
      refine ⟨_, rfl, _, rfl, q1, q3, _, _, rfl, .inl (.inl hq16), .inl (.inl hq3), fun Ts H8 r hlen hTs s8 hr8 => ?_⟩
      refine hq (ys.zip zs) ?_ _ _ (dropY (k36.trans ((Kp.same s8).trans (Kp.new hr8)))) ⟨r, _, rfl, upd_same, All2.of ?_ fun i v b ev eb => ?_⟩
      · unfold pieceOut
        rw [e0]
        simp only
        rw [ey]
        simp only
        rw [e1]
        simp only
        rw [ez]
        simp only
        rw [e2]
      · rw [List.length_map, hlen, List.length_map, List.length_map, List.length_zip]
      · obtain ⟨T1, hT1, rfl⟩ := map_atG ev
        obtain ⟨y1, y2, g1, g2, g3, _⟩ := hTs i T1 hT1
        obtain ⟨i1, j1, rfl⟩ := map_atG g1
        obtain ⟨i2, j2, rfl⟩ := map_atG g2
        refine ⟨T1, rfl, ?_⟩
        rw [upd_ne (ne_of_none g3 hr8), g3]
        have : (ys.zip zs)[i]? = some (i1, i2) := by
          rw [List.getElem?_zip_eq_some]
          exact ⟨j1, j2⟩
        rw [this] at eb
        cases eb
        rfl
    · refine ifT (by simpa using hend) ?_
      refine ⟨_, rfl, x, dx, _, rfl, R6.o, rfl, x, dx, p, xs, rowsL l, 2, rfl, R6, fun e2 => ?_, fun r2 e2 l2 dl2 q4 H7 hl2 hdl2 eH7 L7 R7 => ?_⟩
      · have := R6.c
        rw [List.getElem?_eq_none_iff] at e2
        omega
      · have k7 : Kp (TbA A) [x] H6 H7 := by rw [eH7]; exact kp_next R6.o hl2 hdl2
        have f2 := rows_facts (List.mem_of_getElem? e2)
        refine ⟨l2, dl2, q4, _, r2.2, 0, rfl, L7, fun z => (f2.1 (List.eq_nil_of_length_eq_zero z.symm)).elim, fun _ d hd => ?_⟩
        refine hx ((r2.1 : Int), 1) ?_ d _ (dropY (k36.trans ((k7.mono (by simp)).trans (Kp.new hd)))) upd_same
        unfold pieceOut
        rw [e0]
        simp only
        rw [ey]
        simp only
        rw [e1]
        simp only
        rw [ez]
        simp only
        rw [e2]
end
end SV
/-! Part N: numbers as texts. -/
namespace SV
open PySem PySem.Spec PyProof.Rows L2 TL
def digL (m : Nat) : List Nat := (Nat.toDigits 10 m).map Char.toNat
def chkD (m : Nat) : Bool := (digL m).all isDg && decide (1 ≤ (digL m).length) && decide ((digL m).length ≤ 4) && decide (NumText.digitsVal (digL m) = m) && (decide (m = 0) || !decide ((digL m).head? = some 48)) && decide (m ≠ 0 ∨ digL m = [48])
theorem chk_all : ∀ a, a < 100 → ∀ b, b < 100 → chkD (100 * a + b) = true := by decide +kernel
abbrev numT (z : Int) : Str := (toString z : String)
abbrev numL (z : Int) : List Nat := cs (numT z)
theorem numL_nat (m : Nat) : numL (m : Int) = digL m := PySem.W.KIN.signs_num m
theorem numL_neg (m : Nat) : numL (-((m + 1 : Nat) : Int)) = 45 :: digL (m + 1) := by
  show (Str.ofString (toString (Int.negSucc m))).cps.toList = _
  rw [signs_ofString]
  show ("-" ++ Nat.repr (m + 1)).toList.map Char.toNat = _
  rw [String.toList_append, List.map_append, Nat.toList_repr]
  rfl
theorem chk_lt {m : Nat} (h : m < 10000) : chkD m = true := by
  have t := chk_all (m / 100) (by omega) (m % 100) (by omega)
  have e : 100 * (m / 100) + m % 100 = m := by omega
  rw [e] at t
  exact t
theorem dig_facts {m : Nat} (h : m < 10000) : (digL m).all isDg = true ∧ 1 ≤ (digL m).length ∧ (digL m).length ≤ 4 ∧ NumText.digitsVal (digL m) = m ∧ (m = 0 ∨ (digL m).head? ≠ some 48) ∧ (m ≠ 0 ∨ digL m = [48]) := by
  have t := chk_lt h
  unfold chkD at t
  simp only [Bool.and_eq_true, Bool.or_eq_true, Bool.not_eq_true', decide_eq_true_eq, decide_eq_false_iff_not] at t
  obtain ⟨⟨⟨⟨⟨t1, t2⟩, t3⟩, t4⟩, t5⟩, t6⟩ := t
  exact ⟨t1, t2, t3, t4, t5, t6⟩
theorem dg_mem {l : List Nat} (h : l.all isDg = true) : ∀ c ∈ l, 48 ≤ c ∧ c ≤ 57 := fun c hc => by
  have := List.all_eq_true.mp h c hc
  unfold isDg at this
  simpa using this
theorem num_facts {z : Int} (h1 : -9999 ≤ z) (h2 : z ≤ 9999) : isNum (numL z) = true ∧ numV (numL z) = z ∧ (numL z).length ≤ 5 ∧ numL z ≠ [] ∧ ∀ c ∈ numL z, c = 45 ∨ (48 ≤ c ∧ c ≤ 57) := by
  by_cases h0 : 0 ≤ z
  · obtain ⟨m, rfl⟩ := Int.eq_ofNat_of_zero_le h0
    obtain ⟨t1, t2, t3, t4, t5, t6⟩ := dig_facts (m := m) (by omega)
    rw [numL_nat]
    have hh : (digL m).head? ≠ some 45 := fun e => by
      have := dg_mem t1 45 (List.mem_of_mem_head? (by rw [e]; rfl))
      omega
    have hd : dg (digL m) = digL m := by unfold dg; rw [if_neg hh]
    refine ⟨?_, ?_, by omega, fun e => by rw [e] at t2; simp at t2, fun c hc => .inr (dg_mem t1 c hc)⟩
    · unfold isNum
      rw [hd, decide_eq_true t2, decide_eq_true t3, t1]
      rcases t5 with e | e
      · rcases t6 with e2 | e2
        · exact (e2 e).elim
        · rw [e2]; rfl
      · rw [if_neg e]; rfl
    · unfold numV
      rw [if_neg hh, t4]
  · obtain ⟨m, rfl⟩ : ∃ m : Nat, z = -((m + 1 : Nat) : Int) := ⟨(-z - 1).toNat, by omega⟩
    obtain ⟨t1, t2, t3, t4, t5, t6⟩ := dig_facts (m := m + 1) (by omega)
    rw [numL_neg]
    have hd : dg (45 :: digL (m + 1)) = digL (m + 1) := by unfold dg; rfl
    refine ⟨?_, ?_, by simp; omega, by simp, fun c hc => ?_⟩
    · unfold isNum
      rw [hd, decide_eq_true t2, decide_eq_true t3, t1]
      rcases t5 with e | e
      · omega
      · rw [if_neg e]; rfl
    · unfold numV
      rw [if_pos (show (45 :: digL (m + 1)).head? = some 45 from rfl)]
      show -((NumText.digitsVal (digL (m + 1)) : Nat) : Int) = _
      rw [t4]
    · rcases List.mem_cons.mp hc with e | e
      · exact .inl e
      · exact .inr (dg_mem t1 c e)
end SV
namespace SV
open PySem PySem.Spec PyProof.Rows L2 TL LamX NdefX
/-! ### the pen -/
abbrev kK (x : Str) : Key := .inr x
def penK (c : Addr) (at_ dg ct fo : Int) : List (Key × V) := [(.inr "cells", .ref c), (.inr "at", .int at_), (.inr "digits", .int dg), (.inr "count", .int ct), (.inr "fold", .int fo)]
section
variable {c : Addr} {at_ dg ct fo z : Int}
theorem ne1 : ¬ (Sum.inr (Str.ofString "cells") : Key) = .inr (Str.ofString "at") := by decide +kernel
theorem g_cells : valV (penK c at_ dg ct fo) (kK "cells") = some (.ref c) := by kernel_rfl
theorem g_at : valV (penK c at_ dg ct fo) (kK "at") = some (.int at_) := by kernel_rfl
theorem g_digits : valV (penK c at_ dg ct fo) (kK "digits") = some (.int dg) := by kernel_rfl
theorem g_count : valV (penK c at_ dg ct fo) (kK "count") = some (.int ct) := by kernel_rfl
theorem g_fold : valV (penK c at_ dg ct fo) (kK "fold") = some (.int fo) := by kernel_rfl
theorem p_at : putK (penK c at_ dg ct fo) (kK "at") (.int z) = penK c z dg ct fo := by kernel_rfl
theorem p_digits : putK (penK c at_ dg ct fo) (kK "digits") (.int z) = penK c at_ z ct fo := by kernel_rfl
theorem p_count : putK (penK c at_ dg ct fo) (kK "count") (.int z) = penK c at_ dg z fo := by kernel_rfl
theorem p_fold : putK (penK c at_ dg ct fo) (kK "fold") (.int z) = penK c at_ dg ct z := by kernel_rfl
end
structure PenAt (H : Hp) (a c : Addr) : Prop where
  ex : ∃ (ns : List Int) (at_ dg ct fo : Int), H a = some (.dK (penK c at_ dg ct fo)) ∧ H c = some (.lst (ns.map V.int)) ∧ 0 ≤ at_ ∧ at_ ≤ (ns.length : Int) ∧ 0 ≤ dg
/-- only a was written -/
def Only (a : Addr) (H H' : Hp) : Prop := ∀ b, b ≠ a → H' b = H b
theorem Only.refl {a : Addr} {H : Hp} : Only a H H := fun _ _ => rfl
theorem Only.upd {a : Addr} {H : Hp} {o : HO} : Only a H (upd H a o) := fun _ h => upd_ne h
theorem Only.trans {a : Addr} {H H1 H2 : Hp} (x : Only a H H1) (y : Only a H1 H2) : Only a H H2 := fun b h => (y b h).trans (x b h)
theorem Only.kp {Tb : List (Addr × Str)} {a : Addr} {H H' : Hp} {o : HO} (x : Only a H H') (e : H a = some o) (h1 : noTbl o) (h2 : ∀ φ, o ≠ .ext φ) : Kp Tb [a] H H' := by
  refine ⟨fun b v eb n _ => (x b (by simpa using n)).trans eb, fun hT q hq => ?_⟩
  obtain ⟨ps, g1, g2, g3⟩ := hT q hq
  refine ⟨ps, (x _ fun z => ?_).trans g1, g2, fun pos cv hc => ?_⟩
  · rw [z, e] at g1
    exact h1 ps (Option.some.inj g1)
  · obtain ⟨c, e1, e2⟩ := g3 pos cv hc
    refine ⟨c, e1, (x _ fun z => ?_).trans e2⟩
    rw [z, e] at e2
    exact h2 _ (Option.some.inj e2)
def spPen (K : PySem.W.Frag) : Sp := fun vs H Q _ => ∃ (a : Addr) (ns : List Int), vs = [.ref a] ∧ SqL K H a (ns.map V.int) ∧ ns.length ≤ 90000 ∧ ∀ r H', Same H H' → H r = none → ∀ c, PenAt H' r c → Q (.ref r) H'
def spDraw : Sp := fun vs H Q _ => ∃ (a c : Addr) (m : Int), vs = [.ref a, .int m] ∧ 0 < m ∧ m < 1000000000 ∧ PenAt H a c ∧ ∀ d H', 0 ≤ d → d < m → Only a H H' → PenAt H' a c → Q (.int d) H'
def spPick (K : PySem.W.Frag) : Sp := fun vs H Q _ => ∃ (a c t : Addr) (xs : List V), vs = [.ref a, .ref t] ∧ xs ≠ [] ∧ xs.length < 1000000000 ∧ t ≠ a ∧ H t = some (.lst xs) ∧ PenAt H a c ∧ ∀ x H', x ∈ xs → Only a H H' → PenAt H' a c → Q x H'
section
variable {P : Program} {w : World} {K : PySem.W.Frag} {mg : Str → Option Value} {base : Heap} {A : Ad}
theorem sqL_same {H H' : Hp} {a : Addr} {xs : List V} (s : Same H H') (h : SqL K H a xs) : SqL K H' a xs := (Kp.same (Tb := []) (M := []) s).seqL (by simp) h
theorem sqT_same {H H' : Hp} {a : Addr} {xs : List V} (s : Same H H') (h : SqT K H a xs) : SqT K H' a xs := (Kp.same (Tb := []) (M := []) s).seqT (by simp) h
theorem PenAt.same {H H' : Hp} {a c : Addr} (s : Same H H') (h : PenAt H a c) : PenAt H' a c := by
  obtain ⟨ns, at0, dg, ct, fo, h1, h2, h3⟩ := h
  exact ⟨ns, at0, dg, ct, fo, s _ _ h1, s _ _ h2, h3⟩
theorem PenAt.told {H : Hp} {a c : Addr} (h : PenAt H a c) : H a ≠ none ∧ H c ≠ none := by
  obtain ⟨ns, at0, dg, ct, fo, h1, h2, h3⟩ := h
  exact ⟨by rw [h1]; simp, by rw [h2]; simp⟩
theorem PenAt.kp {Tb : List (Addr × Str)} {M : List Addr} {H H' : Hp} {a c : Addr} (k : Kp Tb M H H') (ha : a ∉ M) (hc : c ∉ M) (h : PenAt H a c) : PenAt H' a c := by
  obtain ⟨ns, at0, dg, ct, fo, h1, h2, h3⟩ := h
  exact ⟨ns, at0, dg, ct, fo, k.k _ _ h1 ha noTbl_dK, k.k _ _ h2 hc noTbl_lst, h3⟩
theorem PenAt.ne {H : Hp} {a c q : Addr} (h : PenAt H a c) (n : H q = none) : q ≠ a ∧ q ≠ c := ⟨fun z => h.told.1 (by rw [← z]; exact n), fun z => h.told.2 (by rw [← z]; exact n)⟩
theorem PenAt.only {Tb : List (Addr × Str)} {H H' : Hp} {a c : Addr} (h : PenAt H a c) (o : Only a H H') : Kp Tb [a] H H' := by
  obtain ⟨ns, at0, dg, ct, fo, h1, h2, h3⟩ := h
  exact o.kp h1 noTbl_dK (fun φ z => by cases z)
theorem ok_law_pen (T : Txt K mg A) : FnD anyA P w K mg base CX0 1 A.law_pen ["script"] (spPen K) := by
  refine T.d_law_pen.ok0 sc_law_pen (fun vs H Q E h => ?_) (fun cdv A' outer s H vs Q E hr h => ?_)
  · obtain ⟨a, ns, rfl, _⟩ := h; rfl
  · obtain ⟨a, ns, rfl, hs, hl, q⟩ := h
    refine ⟨_, (pss_cons (ps_set (i := 1) sc_law_pen.nd rfl (.inl rfl) pe_int)
      (pss_cons (ps_for PassesOwn.never rfl (pi_list (pv 0)) (pg_name (i := 2) sc_law_pen.nd rfl (.inl rfl))
      (pss_one (ps_set (i := 1) sc_law_pen.nd rfl (.inl rfl) (pe_op op_mod (pe_callTy call_int1 (by rfl) T.n_int (by decide +kernel) (pa_cons (pe_op op_add (pe_op op_mul (pv 1) pe_int) (pv 2)) pa_nil)) pe_int))))
      (pss_one (ps_ret (pe_disp (pps_cons pe_str (pe_callTy call_list_of (by rfl) T.n_list (by decide +kernel) (pa_cons (pv 0) pa_nil)) (pps_cons pe_str pe_int (pps_cons pe_str pe_int (pps_cons pe_str pe_int (pps_cons pe_str (pv 1) pps_nil))))) (by rfl) (by rfl) (fun z => by cases z) (by decide)))))), ?_⟩
    refine ⟨_, rfl, a, rfl, ⟨_, hs⟩, ?_⟩
    refine for_it (walk_list (K := K) (a := a) (xs := ns.map V.int)) (fun i σ H' => H' = H ∧ ∃ f x, σ = [some (.ref a), some (.int f), x]) ⟨rfl, 0, none, rfl⟩ (fun i σ H' _ h => by rw [h.1]; exact hs) ?_ ?_
    · rintro i x σ H1 H2 hi ⟨rfl, f, x1, rfl⟩ ⟨rfl, hx⟩
      obtain ⟨z, hz, rfl⟩ := map_atG hx
      refine ⟨_, rfl, _, _, rfl, rfl, .inr (by decide), _, rfl, _, _, rfl, rfl, .inl ⟨_, rfl, _, _, rfl, rfl, (by decide : (0 : Int) < 1000000007), ?_⟩⟩
      exact ⟨rfl, _, _, rfl⟩
    · rintro σ H1 ⟨rfl, f, x1, rfl⟩
      refine fun p hp => ?_
      have hp2 : upd H1 p (.dK []) p = some (.dK []) := upd_same
      refine ⟨_, rfl, a, ns.map V.int, rfl, .inl (sqL_same (same_upd hp) hs), fun l hl' => ?_⟩
      have nlp : p ≠ l := fun z => by rw [← z, hp2] at hl'; cases hl'
      refine ⟨_, rfl, (upd_ne nlp).trans hp2, [(kK "cells", .ref l), (kK "at", .int 0), (kK "digits", .int 0), (kK "count", .int 0), (kK "fold", .int f)], rfl, by simp, ?_⟩
      have em : mergeK [] [(kK "cells", .ref l), (kK "at", .int 0), (kK "digits", .int 0), (kK "count", .int 0), (kK "fold", .int f)] = penK l 0 0 0 f := by kernel_rfl
      rw [em]
      refine q p _ (fun b o e => ?_) hp l ⟨ns, 0, 0, 0, f, upd_same, (upd_ne (Ne.symm nlp)).trans upd_same, Int.le_refl _, Int.natCast_nonneg _, Int.le_refl _⟩
      have nbp := ne_of_none e hp
      rw [upd_ne nbp, upd_ne (fun z => by rw [← z, upd_ne nbp, e] at hl'; cases hl'), upd_ne nbp]
      exact e
theorem bx (c : Bool) : ∃ b, c = b := ⟨c, rfl⟩
theorem seq_join {t u : TS} {D : Ends} {σ : L2.St} {H : Hp} (R : L2.St → Hp → Prop) (h1 : ∀ D' : Ends, D'.rt = D.rt → (∀ σ' H', R σ' H' → D'.nx σ' H') → t D' σ H) (h2 : ∀ σ' H', R σ' H' → u D σ' H') : tSeq t u D σ H := h1 { D with nx := u D } rfl h2
theorem ok_law_draw (T : Txt K mg A) : FnD anyA P w K mg base CX0 1 A.law_draw ["pen", "many"] spDraw := by
  refine T.d_law_draw.ok0 sc_law_draw (fun vs H Q E h => ?_) (fun cdv A' outer s H vs Q E hr h => ?_)
  · obtain ⟨a, c, m, rfl, _⟩ := h; rfl
  · obtain ⟨a, c, m, rfl, hm, hm2, ⟨ns, at0, dg, ct, fo, ha, hc, ha0, ha1, hdg⟩, q⟩ := h
    have hu : A'.units + 4 < cLine := by have := hr.un; simp only [Around.deeper] at this; omega
    have hs := sizeLine_eq
    refine ⟨_, (pss_cons (ps_dput hu (pv 0) pe_str (pe_op op_add (pe_dget hu (pv 0) pe_str (fun _ _ => rfl)) pe_int) rfl)
      (pss_cons (ps_if (PW.pt (pw_and (pt_cmpR op_eq (pe_dget hu (pv 0) pe_str (fun _ _ => rfl)) pe_int (nomark _)) (pw_and1 (pt_cmpR op_lt (pe_dget hu (pv 0) pe_str (fun _ _ => rfl)) (pe_callB call_len_seq (by rfl) T.n_len (by decide +kernel) (pa_cons (pe_dget hu (pv 0) pe_str (fun _ _ => rfl)) pa_nil)) (nomark _)))))
      (pss_cons (ps_set (i := 2) sc_law_draw.nd rfl (.inl rfl) (pe_ix ix_list (pe_dget hu (pv 0) pe_str (fun _ _ => rfl)) (pe_dget hu (pv 0) pe_str (fun _ _ => rfl)) (fun _ _ => rfl)))
      (pss_cons (ps_dput hu (pv 0) pe_str (pe_op op_add (pe_dget hu (pv 0) pe_str (fun _ _ => rfl)) pe_int) rfl)
      (pss_one (ps_if (pt_cmpR op_ge (pv 2) (pe_op op_pow pe_int pe_int) (nomark _))
      (pss_one (ps_dput hu (pv 0) pe_str (pe_op op_sub (pv 2) (pe_op op_pow pe_int pe_int)) rfl))
      (pss_one (ps_dput hu (pv 0) pe_str (pe_op op_mod (pe_callTy call_int1 (by rfl) T.n_int (by decide +kernel) (pa_cons (pe_op op_add (pe_op op_mul (pe_dget hu (pv 0) pe_str (fun _ _ => rfl)) pe_int) (pv 2)) pa_nil)) pe_int) rfl))))))
      pss_nil)
      (pss_cons (ps_if (pt_cmpR op_gt (pe_dget hu (pv 0) pe_str (fun _ _ => rfl)) pe_int (nomark _))
      (pss_cons (ps_set (i := 3) sc_law_draw.nd rfl (.inl rfl) (pe_op op_mod (pe_callTy call_int1 (by rfl) T.n_int (by decide +kernel) (pa_cons (pe_dget hu (pv 0) pe_str (fun _ _ => rfl)) pa_nil)) (pv 1)))
      (pss_cons (ps_dput hu (pv 0) pe_str (pe_op op_fdiv (pe_dget hu (pv 0) pe_str (fun _ _ => rfl)) (pv 1)) rfl)
      (pss_one (ps_ret (pv 3)))))
      pss_nil)
      (pss_cons (ps_set (i := 4) sc_law_draw.nd rfl (.inl rfl) (pe_op op_mod (pe_callTy call_int1 (by rfl) T.n_int (by decide +kernel) (pa_cons (pe_op op_add (pe_op op_add (pe_op op_mul (pe_dget hu (pv 0) pe_str (fun _ _ => rfl)) pe_int) (pe_op op_mul (pe_dget hu (pv 0) pe_str (fun _ _ => rfl)) pe_int)) pe_int) pa_nil)) pe_int))
      (pss_cons (ps_set (i := 4) sc_law_draw.nd rfl (.inl rfl) (pe_op op_mod (pe_callTy call_int1 (by rfl) T.n_int (by decide +kernel) (pa_cons (pe_op op_add (pe_op op_add (pe_op op_mul (pv 4) (pv 4)) (pe_op op_mul pe_int (pv 4))) (pe_dget hu (pv 0) pe_str (fun _ _ => rfl))) pa_nil)) pe_int))
      (pss_cons (ps_dput hu (pv 0) pe_str (pe_op op_mod (pe_callTy call_int1 (by rfl) T.n_int (by decide +kernel) (pa_cons (pe_op op_add (pe_op op_mul (pv 4) pe_int) pe_int) pa_nil)) pe_int) rfl)
      (pss_one (ps_ret (pe_op op_mod (pe_callTy call_int1 (by rfl) T.n_int (by decide +kernel) (pa_cons (pe_op op_fdiv (pv 4) pe_int) pa_nil)) (pv 1)))))))))), ?_⟩
    have lenK : ∀ (c : Addr) (p q r t : Int), (penK c p q r t).length < sizeLine := fun _ _ _ _ _ => by show (5 : Nat) < sizeLine; omega
    have nca : c ≠ a := fun z => by rw [z, ha] at hc; cases hc
    refine ⟨_, rfl, a, _, rfl, .inl ⟨_, kK "count", .inl ha, rfl, g_count.symm⟩, _, _, rfl, rfl, _, rfl, a, _, rfl, .inl ⟨_, kK "count", ha, rfl, lenK _ _ _ _ _, rfl⟩, ?_⟩
    rw [p_count]
    generalize e1 : upd H a (.dK (penK c at0 dg (ct + 1) fo)) = H1
    have ha1' : H1 a = some (.dK (penK c at0 dg (ct + 1) fo)) := by rw [← e1]; exact upd_same
    have hc1 : H1 c = some (.lst (ns.map V.int)) := by rw [← e1]; exact (upd_ne nca).trans hc
    have o1 : Only a H H1 := by rw [← e1]; exact Only.upd
    dsimp only
    refine seq_join (fun σ' H' => ∃ x2 x3 x4 at2 dg2 ct2 fo2, σ' = [some (.ref a), some (.int m), x2, x3, x4] ∧ H' a = some (.dK (penK c at2 dg2 ct2 fo2)) ∧ H' c = some (.lst (ns.map V.int)) ∧ 0 ≤ at2 ∧ at2 ≤ (ns.length : Int) ∧ 0 ≤ dg2 ∧ Only a H H') (fun D' _ hR => ?_) ?_
    · have start0 : (L2.start ["pen", "many", "cell", "digit", "blend"] [.ref a, .int m]) = [some (.ref a), some (.int m), none, none, none] := rfl
      have cp : CPow 10 18 := ⟨by decide, by decide, by decide⟩
      obtain ⟨b1, eb1⟩ := bx (decide (V.int dg = V.int 0))
      obtain ⟨b2, eb2⟩ := bx (decide (at0 < ((ns.map V.int).length : Int)))
      refine ⟨_, rfl, a, _, rfl, .inl ⟨_, kK "digits", .inl ha1', rfl, g_digits.symm⟩, rfl, b1, congrArg V.bl eb1, ?_⟩
      refine join_and (H := H1) (b := b2) (p := tTest _ _ _) (fun G g => ?_) ?_
      · exact ⟨_, rfl, a, _, rfl, .inl ⟨_, kK "at", .inl ha1', rfl, g_at.symm⟩, _, rfl, a, _, rfl, .inl ⟨_, kK "cells", .inl ha1', rfl, g_cells.symm⟩, c, _, rfl, .inl (.inl (.inl hc1)), _, _, rfl, rfl, b2, congrArg V.bl eb2, g⟩
      · cases eb : (b1 && b2) with
        | false =>
          refine ifF rfl ?_
          exact hR _ _ ⟨none, none, none, at0, dg, ct + 1, fo, rfl, ha1', hc1, ha0, by omega, hdg, o1⟩
        | true =>
          refine ifT rfl ?_
          rw [← eb1, ← eb2, Bool.and_eq_true, decide_eq_true_eq, decide_eq_true_eq, List.length_map] at eb
          obtain ⟨j, ej⟩ : ∃ j : Nat, at0 = (j : Int) := ⟨at0.toNat, by omega⟩
          have hj : j < ns.length := by have := eb.2; omega
          have gj : (ns.map V.int)[j]? = some (.int ns[j]) := by rw [List.getElem?_map]; simp [hj]
          refine ⟨_, rfl, a, _, rfl, .inl ⟨_, kK "cells", .inl ha1', rfl, g_cells.symm⟩, _, rfl, a, _, rfl, .inl ⟨_, kK "at", .inl ha1', rfl, g_at.symm⟩, c, _, at0, _, rfl, rfl, .inl (.inl hc1), by rw [ej]; exact atI_nat gj, ?_⟩
          refine ⟨_, rfl, a, _, rfl, .inl ⟨_, kK "at", .inl ha1', rfl, g_at.symm⟩, _, _, rfl, rfl, _, rfl, a, _, rfl, .inl ⟨_, kK "at", ha1', rfl, lenK _ _ _ _ _, rfl⟩, ?_⟩
          rw [p_at]
          generalize e2 : upd H1 a (.dK (penK c (at0 + 1) dg (ct + 1) fo)) = H2
          have ha2 : H2 a = some (.dK (penK c (at0 + 1) dg (ct + 1) fo)) := by rw [← e2]; exact upd_same
          have hc2 : H2 c = some (.lst (ns.map V.int)) := by rw [← e2]; exact (upd_ne nca).trans hc1
          have o2 : Only a H H2 := by rw [← e2]; exact o1.trans Only.upd
          obtain ⟨b3, eb3⟩ := bx (decide ((10 : Int) ^ (18 : Int).toNat ≤ ns[j]))
          refine ⟨_, rfl, 10, 18, rfl, rfl, cp, _, _, rfl, rfl, b3, congrArg V.bl eb3, ?_⟩
          cases b3 with
          | true =>
            have hge : (10 : Int) ^ (18 : Int).toNat ≤ ns[j] := of_decide_eq_true eb3
            refine ifT rfl ?_
            refine ⟨_, rfl, 10, 18, rfl, rfl, cp, _, _, rfl, rfl, _, rfl, a, _, rfl, .inl ⟨_, kK "digits", ha2, rfl, lenK _ _ _ _ _, rfl⟩, ?_⟩
            rw [p_digits]
            exact hR _ _ ⟨_, _, _, _, _, _, _, rfl, upd_same, (upd_ne nca).trans hc2, by omega, by omega, by omega, o2.trans Only.upd⟩
          | false =>
            refine ifF rfl ?_
            refine ⟨_, rfl, a, _, rfl, .inl ⟨_, kK "fold", .inl ha2, rfl, g_fold.symm⟩, _, _, rfl, rfl, .inr (by decide), _, rfl, _, _, rfl, rfl, .inl ⟨_, rfl, _, _, rfl, rfl, (by decide : (0 : Int) < 2147483587), _, rfl, a, _, rfl, .inl ⟨_, kK "fold", ha2, rfl, lenK _ _ _ _ _, rfl⟩, ?_⟩⟩
            rw [p_fold]
            exact hR _ _ ⟨_, _, _, _, _, _, _, rfl, upd_same, (upd_ne nca).trans hc2, by omega, by omega, hdg, o2.trans Only.upd⟩
    · rintro σ2 H2 ⟨x2, x3, x4, at2, dg2, ct2, fo2, rfl, h2, hc2, z0, z1, z2, o2⟩
      have penO : ∀ {H' : Hp} {d1 c1 f1 : Int}, H' a = some (.dK (penK c at2 d1 c1 f1)) → H' c = some (.lst (ns.map V.int)) → 0 ≤ d1 → PenAt H' a c := fun e1 e2 e3 => ⟨ns, at2, _, _, _, e1, e2, z0, z1, e3⟩
      obtain ⟨b3, eb3⟩ := bx (decide (0 < dg2))
      refine ⟨_, rfl, a, _, rfl, .inl ⟨_, kK "digits", .inl h2, rfl, g_digits.symm⟩, _, _, rfl, rfl, b3, congrArg V.bl eb3, ?_⟩
      cases b3 with
      | true =>
        refine ifT rfl ?_
        refine ⟨_, rfl, a, _, rfl, .inl ⟨_, kK "digits", .inl h2, rfl, g_digits.symm⟩, .inl ⟨_, rfl, _, rfl, _, _, rfl, rfl, hm, ?_⟩⟩
        refine ⟨_, rfl, a, _, rfl, .inl ⟨_, kK "digits", .inl h2, rfl, g_digits.symm⟩, _, rfl, _, _, rfl, rfl, ⟨hm, by omega⟩, _, rfl, a, _, rfl, .inl ⟨_, kK "digits", h2, rfl, lenK _ _ _ _ _, rfl⟩, ?_⟩
        rw [p_digits]
        refine ⟨_, rfl, q _ _ (Int.emod_nonneg _ (by omega)) (Int.emod_lt_of_pos _ hm) (o2.trans Only.upd) (penO upd_same ((upd_ne nca).trans hc2) (Int.ediv_nonneg z2 (by omega)))⟩
      | false =>
        refine ifF rfl ?_
        refine ⟨_, rfl, a, _, rfl, .inl ⟨_, kK "fold", .inl h2, rfl, g_fold.symm⟩, _, _, rfl, rfl, .inr (by decide), _, rfl, a, _, rfl, .inl ⟨_, kK "count", .inl h2, rfl, g_count.symm⟩, _, _, rfl, rfl, .inr (by decide), _, _, rfl, rfl, _, _, rfl, rfl, .inl ⟨_, rfl, _, _, rfl, rfl, (by decide : (0 : Int) < 2147483647), ?_⟩⟩
        have b0 := Int.emod_nonneg (fo2 * 48271 + ct2 * 7919 + 13) (by decide : (2147483647 : Int) ≠ 0)
        have b1 := Int.emod_lt_of_pos (fo2 * 48271 + ct2 * 7919 + 13) (by decide : (0 : Int) < 2147483647)
        generalize (fo2 * 48271 + ct2 * 7919 + 13) % 2147483647 = bl at b0 b1 ⊢
        refine ⟨_, rfl, _, rfl, _, _, rfl, rfl, .inl ⟨by omega, by omega⟩, _, rfl, _, _, rfl, rfl, .inl ⟨by decide, by decide⟩, _, _, rfl, rfl, _, rfl, a, _, rfl, .inl ⟨_, kK "count", .inl h2, rfl, g_count.symm⟩, _, _, rfl, rfl, .inl ⟨_, rfl, _, _, rfl, rfl, (by decide : (0 : Int) < 2147483629), ?_⟩⟩
        generalize (bl * bl + 31 * bl + ct2) % 2147483629 = bm
        refine ⟨_, rfl, _, _, rfl, rfl, .inr ⟨by decide, by decide⟩, _, _, rfl, rfl, .inl ⟨_, rfl, _, _, rfl, rfl, (by decide : (0 : Int) < 2147483647), _, rfl, a, _, rfl, .inl ⟨_, kK "fold", h2, rfl, lenK _ _ _ _ _, rfl⟩, ?_⟩⟩
        rw [p_fold]
        refine ⟨_, rfl, _, _, rfl, rfl, ⟨by decide, by decide⟩, .inl ⟨_, rfl, _, rfl, _, _, rfl, rfl, hm, ?_⟩⟩
        exact q _ _ (Int.emod_nonneg _ (by omega)) (Int.emod_lt_of_pos _ hm) (o2.trans Only.upd) (penO upd_same ((upd_ne nca).trans hc2) z2)
theorem ok_law_pick (T : Txt K mg A) : FnD anyA P w K mg base CX0 3 A.law_pick ["pen", "some"] (spPick K) := by
  refine T.d_law_pick.ok0 sc_law_pick (fun vs H Q E h => ?_) (fun cdv A' outer s H vs Q E hr h => ?_)
  · obtain ⟨a, c, t, xs, rfl, _⟩ := h; rfl
  · obtain ⟨a, c, t, xs, rfl, hne, hl, hta, ht, hp, q⟩ := h
    refine ⟨_, (pss_one (ps_ret (pe_ix ix_list (pv 1) (pe_callD pass00 (ok_law_draw T) hr (by decide) rfl T.m_law_draw (pa_cons (pv 0) (pa_cons (pe_callB call_len_seq (by rfl) T.n_len (by decide +kernel) (pa_cons (pv 1) pa_nil)) pa_nil))) (fun _ _ => rfl)))), ?_⟩
    have hpos := List.length_pos_iff.mpr hne
    refine ⟨_, rfl, _, rfl, _, rfl, t, xs, rfl, .inl (.inl (.inl ht)), a, c, _, rfl, by omega, by omega, hp, fun d H' d0 d1 o2 hp2 => ?_⟩
    obtain ⟨j, ej⟩ : ∃ j : Nat, d = (j : Int) := ⟨d.toNat, by omega⟩
    have hj : j < xs.length := by omega
    refine ⟨t, xs, d, xs[j], rfl, rfl, .inl (.inl ((o2 t hta).trans ht)), by rw [ej]; exact atI_nat (by simp [hj]), ?_⟩
    exact q _ _ (List.getElem_mem hj) o2 hp2
end
end SV
/-! Part N2: words and lines of texts that were put together. -/
namespace SV
open PySem PySem.Spec PyProof.Rows L2 TL
theorem join_S (a : List Nat) (ys : List (List Nat)) : Txt.join (S a) (ys.map S) = S (joinL a ys) := by
  have e := tl_join (S a) (ys.map S)
  have e1 : tl (S a) = a := cs_S _
  have e2 : (ys.map S).map tl = ys := by
    rw [List.map_map]
    have : (tl ∘ S : List Nat → List Nat) = id := by funext x; exact cs_S x
    rw [this, List.map_id]
  rw [e1, e2] at e
  rw [join_eq]
  have e3 : S (tl (Str.join (S a) (ys.map S))) = Str.join (S a) (ys.map S) := S_cs _
  rw [← e3, e]
theorem spl_app (c : Nat) (x y : List Nat) : ∀ acc, spl [c] 0 acc (x ++ c :: y) = spl [c] 0 acc x ++ spl [c] 0 [] y := by
  induction x with
  | nil =>
    intro acc
    show spl [c] 0 acc (c :: y) = [acc] ++ _
    have : pre [c] (c :: y) = true := by unfold pre; simp
    show (if pre [c] (c :: y) = true then acc :: spl [c] ([c].length - 1) [] y else spl [c] 0 (acc ++ [c]) y) = _
    rw [if_pos this]
    rfl
  | cons a r ih =>
    intro acc
    show (if pre [c] (a :: (r ++ c :: y)) = true then acc :: spl [c] ([c].length - 1) [] (r ++ c :: y) else spl [c] 0 (acc ++ [a]) (r ++ c :: y)) = (if pre [c] (a :: r) = true then acc :: spl [c] ([c].length - 1) [] r else spl [c] 0 (acc ++ [a]) r) ++ _
    have e : pre [c] (a :: (r ++ c :: y)) = pre [c] (a :: r) := by unfold pre; simp
    rw [e]
    by_cases h : pre [c] (a :: r) = true
    · rw [if_pos h, if_pos h]
      show acc :: spl [c] 0 [] (r ++ c :: y) = acc :: spl [c] 0 [] r ++ _
      rw [ih]
      rfl
    · rw [if_neg h, if_neg h, ih]
theorem cut_app (c : Nat) (x y : List Nat) : cut c (x ++ c :: y) = cut c x ++ cut c y := spl_app c x y []
theorem cut_one {c : Nat} {x : List Nat} (h : c ∉ x) : cut c x = [x] := by
  have := spl_join (s := c) (S := []) (parts := [x]) (by simp) (by simpa using h)
  exact this
theorem cut_join {c : Nat} {parts : List (List Nat)} (hne : parts ≠ []) (h : ∀ p ∈ parts, c ∉ p) : cut c (joinL [c] parts) = parts := spl_join hne h
theorem words_app (x y : List Nat) : wordsL (x ++ 32 :: y) = wordsL x ++ wordsL y := by
  unfold wordsL
  rw [cut_app, List.filter_append]
theorem words_nil : wordsL [] = [] := by decide
theorem words_sp (y : List Nat) : wordsL (32 :: y) = wordsL y := by
  have := words_app [] y
  rw [words_nil] at this
  simpa using this
theorem words_one {x : List Nat} (h : 32 ∉ x) (hn : x ≠ []) : wordsL x = [x] := by
  unfold wordsL
  rw [cut_one h]
  simp [hn]
/-- only spaces -/
def AllSp (l : List Nat) : Prop := ∀ c ∈ l, c = 32
theorem words_pre {g : List Nat} (h : AllSp g) (y : List Nat) : wordsL (g ++ y) = wordsL y := by
  induction g with
  | nil => rfl
  | cons a r ih =>
    have e : a = 32 := h a (by simp)
    subst e
    show wordsL (32 :: (r ++ y)) = _
    rw [words_sp]
    exact ih fun c hc => h c (by simp [hc])
theorem words_post {g : List Nat} (h : AllSp g) (y : List Nat) : wordsL (y ++ g) = wordsL y := by
  cases g with
  | nil => rw [List.append_nil]
  | cons a r =>
    have e : a = 32 := h a (by simp)
    subst e
    rw [words_app]
    have := words_pre (g := r) (fun c hc => h c (by simp [hc])) []
    rw [List.append_nil, words_nil] at this
    rw [this, List.append_nil]
theorem words_blank {g : List Nat} (h : AllSp g) : wordsL g = [] := by
  have := words_pre h []
  rw [List.append_nil, words_nil] at this
  exact this
/-- the words of a line: not empty, no space, no end of line -/
def WordsOk (ws : List (List Nat)) : Prop := ∀ x ∈ ws, x ≠ [] ∧ 32 ∉ x ∧ 10 ∉ x
theorem words_join {g : List Nat} (hg : AllSp g) (hn : g ≠ []) : ∀ {ws : List (List Nat)}, WordsOk ws → wordsL (joinL g ws) = ws
  | [], _ => words_nil
  | [x], h => words_one (h x (by simp)).2.1 (h x (by simp)).1
  | x :: y :: r, h => by
    show wordsL (x ++ (g ++ joinL g (y :: r))) = _
    obtain ⟨a, g', eg⟩ : ∃ a g', g = a :: g' := by
      cases g with
      | nil => exact (hn rfl).elim
      | cons a g' => exact ⟨a, g', rfl⟩
    have ea : a = 32 := hg a (by rw [eg]; simp)
    have e1 : ∀ J, g ++ J = 32 :: (g' ++ J) := fun J => by rw [eg, ea]; rfl
    rw [e1 (joinL g (y :: r)), words_app, words_one (h x (by simp)).2.1 (h x (by simp)).1, words_pre (fun c hc => hg c (by rw [eg]; simp [hc])), words_join hg hn fun z hz => h z (by simp [hz])]
    rfl
theorem join_mem {g : List Nat} : ∀ {ws : List (List Nat)} {c : Nat}, c ∈ joinL g ws → c ∈ g ∨ ∃ x ∈ ws, c ∈ x
  | [], _, h => by cases h
  | [x], c, h => .inr ⟨x, by simp, h⟩
  | x :: y :: r, c, h => by
    have h' : c ∈ x ++ (g ++ joinL g (y :: r)) := h
    rcases List.mem_append.mp h' with h | h
    · exact .inr ⟨x, by simp, h⟩
    rcases List.mem_append.mp h with h | h
    · exact .inl h
    · rcases join_mem h with h | ⟨z, hz, h⟩
      · exact .inl h
      · exact .inr ⟨z, by simp [hz], h⟩
/-- the rows' words -/
def rowW (l : List Nat) : List (List (List Nat)) := ((cut 10 l).map wordsL).filter fun r => decide (r ≠ [])
theorem rows_W (l : List Nat) : (rowsL l).map Prod.snd = rowW l := by
  unfold rowsL toldL rowW
  have : ∀ (xs : List (List Nat)) (k : Nat), ((xs.mapIdx fun i l => (i + k, wordsL l)).filter fun r => decide (r.2 ≠ [])).map Prod.snd = (xs.map wordsL).filter fun r => decide (r ≠ []) := by
    intro xs
    induction xs with
    | nil => intro k; rfl
    | cons a r ih =>
      intro k
      rw [List.mapIdx_cons, List.map_cons, List.filter_cons, List.filter_cons]
      have e := ih (k + 1)
      have e2 : (r.mapIdx fun i l => (i + 1 + k, wordsL l)) = r.mapIdx fun i l => (i + (k + 1), wordsL l) := by
        congr 1
        funext i l
        rw [Nat.add_assoc, Nat.add_comm 1 k]
      rw [e2]
      by_cases h : wordsL a = []
      · simp only [h, ne_eq, not_true_eq_false, decide_false]
        exact e
      · simp only [h, ne_eq, not_false_eq_true, decide_true, if_true, List.map_cons]
        rw [← e]
  exact this (cut 10 l) 1
theorem wMel_ok : wMel ≠ [] ∧ 32 ∉ wMel ∧ 10 ∉ wMel := by decide
theorem wVoi_ok : wVoi ≠ [] ∧ 32 ∉ wVoi ∧ 10 ∉ wVoi := by decide
/-- the words of a row of numbers -/
def rowWords (w : List Nat) (xs : List Int) : List (List Nat) := w :: xs.map numL
def Small (xs : List Int) : Prop := ∀ x ∈ xs, -9999 ≤ x ∧ x ≤ 9999
theorem rowWords_ok {w : List Nat} (hw : w ≠ [] ∧ 32 ∉ w ∧ 10 ∉ w) {xs : List Int} (h : Small xs) : WordsOk (rowWords w xs) := fun x hx => by
  rcases List.mem_cons.mp hx with e | e
  · rw [e]; exact hw
  · obtain ⟨z, hz, rfl⟩ := List.mem_map.mp e
    obtain ⟨_, _, _, h1, h2⟩ := num_facts (h z hz).1 (h z hz).2
    refine ⟨h1, fun q => ?_, fun q => ?_⟩
    · have := h2 _ q; omega
    · have := h2 _ q; omega
theorem rd_ok {word : List Nat} {m : Option Nat} {xs : List Int} (h : Small xs) (hm : needN m (rowWords word xs) = xs.length) : rdOut word m (rowWords word xs) = .ok xs := by
  unfold rdOut
  rw [if_pos (show (rowWords word xs)[0]? = some word from rfl), hm]
  have e : (List.range xs.length).find? (fun j => !goodB (rowWords word xs) j) = none := by
    rw [List.find?_eq_none]
    intro i hi
    have hi := List.mem_range.mp hi
    have : (rowWords word xs)[i + 1]? = some (numL xs[i]) := by
      show (xs.map numL)[i]? = _
      rw [List.getElem?_map]
      simp [hi]
    unfold goodB
    rw [this]
    have := num_facts (h xs[i] (List.getElem_mem hi)).1 (h xs[i] (List.getElem_mem hi)).2
    simp [this.1]
  rw [e]
  simp only
  rw [if_pos (by simp [rowWords])]
  congr 1
  show (xs.map numL).map numV = xs
  rw [List.map_map]
  conv => rhs; rw [← List.map_id xs]
  apply List.map_congr_left
  intro z hz
  exact (num_facts (h z hz).1 (h z hz).2).2.1
theorem piece_ok {l : List Nat} {xs ys : List Int} (hx : Small xs) (hy : Small ys) (hl : xs.length = ys.length) (h1 : 1 ≤ xs.length) (h : rowW l = [rowWords wMel xs, rowWords wVoi ys]) : pieceOut l = .ok (xs.zip ys) := by
  rw [← rows_W] at h
  obtain ⟨r0, r1, er, e0, e1⟩ : ∃ r0 r1, rowsL l = [r0, r1] ∧ r0.2 = rowWords wMel xs ∧ r1.2 = rowWords wVoi ys := by
    cases hr : rowsL l with
    | nil => rw [hr] at h; have := congrArg List.length h; simp at this
    | cons r0 t => cases t with
      | nil => rw [hr] at h; have := congrArg List.length h; simp at this
      | cons r1 t => cases t with
        | nil =>
          rw [hr] at h
          simp only [List.map_cons, List.map_nil, List.cons.injEq, and_true] at h
          exact ⟨r0, r1, rfl, h.1, h.2⟩
        | cons _ _ => rw [hr] at h; simp at h
  unfold pieceOut
  rw [er]
  simp only [List.getElem?_cons_zero, List.getElem?_cons_succ, List.getElem?_nil]
  rw [e0, rd_ok hx (by show max (((rowWords wMel xs)).length - 1) 1 = _; simp [rowWords]; omega)]
  simp only
  rw [e1, rd_ok hy (by show xs.length = _; exact hl)]
end SV
namespace SV
open PySem PySem.Spec PyProof.Rows L2 TL LamX NdefX
/-! ### texts put together -/
def lineL (ws : List (List Nat)) : List Nat := joinL [32] ws ++ [10]
def textL (wss : List (List (List Nat))) : List Nat := (wss.map lineL).flatten
structure Fit (wss : List (List (List Nat))) : Prop where
  n : wss.length ≤ 10
  e : ∀ ws ∈ wss, ws.length ≤ 100 ∧ ∀ x ∈ ws, x.length ≤ 20
def LnW (H : Hp) (v : V) (ws : List (List Nat)) : Prop := ∃ q, v = .ref q ∧ H q = some (.lst (ws.map wV))
theorem LnW.same {H H' : Hp} {v : V} {ws : List (List Nat)} (s : Same H H') (h : LnW H v ws) : LnW H' v ws := by
  obtain ⟨q, e, h⟩ := h
  exact ⟨q, e, s _ _ h⟩
theorem sum_le {B : Nat} : ∀ {ys : List Str}, (∀ y ∈ ys, y.length ≤ B) → (ys.map (·.length)).sum ≤ ys.length * B
  | [], _ => by simp
  | y :: r, h => by
    rw [List.map_cons, List.sum_cons, List.length_cons, Nat.succ_mul]
    have h1 := h y (by simp)
    have h2 := sum_le (ys := r) fun z hz => h z (by simp [hz])
    omega
theorem join_len {g : List Nat} {B : Nat} : ∀ {ws : List (List Nat)}, (∀ x ∈ ws, x.length ≤ B) → (joinL g ws).length ≤ ws.length * (B + g.length)
  | [], _ => by simp [joinL]
  | [x], h => by
    have := h x (by simp)
    show x.length ≤ 1 * (B + g.length)
    omega
  | x :: y :: r, h => by
    have h1 := h x (by simp)
    have h2 := join_len (g := g) (ws := y :: r) fun z hz => h z (by simp at hz ⊢; exact .inr hz)
    show (x ++ (g ++ joinL g (y :: r))).length ≤ _
    rw [List.length_append, List.length_append, List.length_cons (a := x), Nat.succ_mul]
    omega
theorem line_len {ws : List (List Nat)} (h : ws.length ≤ 100 ∧ ∀ x ∈ ws, x.length ≤ 20) : (lineL ws).length ≤ 2101 := by
  unfold lineL
  have h1 := join_len (g := [32]) h.2
  have h2 : ws.length * (20 + ([32] : List Nat).length) ≤ 100 * 21 := Nat.mul_le_mul h.1 (by simp)
  rw [List.length_append]
  simp only [List.length_cons, List.length_nil] at h1 h2 ⊢
  omega
theorem join_nil : ∀ (ps : List (List Nat)), joinL [] ps = ps.flatten
  | [] => rfl
  | [x] => by simp [joinL]
  | x :: y :: r => by
    show x ++ ([] ++ joinL [] (y :: r)) = _
    rw [join_nil (y :: r)]
    simp
theorem flat_len {B : Nat} : ∀ {ps : List (List Nat)}, (∀ x ∈ ps, x.length ≤ B) → ps.flatten.length ≤ ps.length * B
  | [], _ => by simp
  | x :: r, h => by
    have h1 := h x (by simp)
    have h2 := flat_len (ps := r) fun z hz => h z (by simp [hz])
    rw [List.flatten_cons, List.length_append, List.length_cons, Nat.succ_mul]
    omega
theorem text_len {wss : List (List (List Nat))} (h : Fit wss) : (textL wss).length ≤ 21010 := by
  unfold textL
  have h1 := flat_len (B := 2101) (ps := wss.map lineL) fun x hx => by
    obtain ⟨ws, hw, rfl⟩ := List.mem_map.mp hx
    exact line_len (h.e ws hw)
  rw [List.length_map] at h1
  have := h.n
  have : wss.length * 2101 ≤ 10 * 2101 := Nat.mul_le_mul_right _ this
  omega
theorem w_map (ws : List (List Nat)) : ws.map wV = (ws.map S).map V.str := by rw [List.map_map]; rfl
theorem fit_sum {ws : List (List Nat)} {k : Nat} (h : ws.length ≤ 100 ∧ ∀ x ∈ ws, x.length ≤ 20) (hk : k ≤ 10) : ((ws.map S).map (·.length)).sum + (ws.map S).length * k ≤ 16777216 := by
  have h1 := sum_le (B := 20) (ys := ws.map S) fun y hy => by
    obtain ⟨x, hx, rfl⟩ := List.mem_map.mp hy
    rw [S_len]; exact h.2 x hx
  rw [List.length_map] at h1 ⊢
  have h2 : ws.length * 20 ≤ 100 * 20 := Nat.mul_le_mul_right _ h.1
  have h3 : ws.length * k ≤ 100 * 10 := Nat.mul_le_mul h.1 hk
  omega
theorem lines_sum {wss : List (List (List Nat))} (h : Fit wss) : (((wss.map lineL).map S).map (·.length)).sum + ((wss.map lineL).map S).length * 0 ≤ 16777216 := by
  have h1 := sum_le (B := 2101) (ys := (wss.map lineL).map S) fun y hy => by
    obtain ⟨x, hx, rfl⟩ := List.mem_map.mp hy
    obtain ⟨ws, hw, rfl⟩ := List.mem_map.mp hx
    rw [S_len]; exact line_len (h.e ws hw)
  rw [List.length_map, List.length_map] at h1 ⊢
  have := h.n
  have : wss.length * 2101 ≤ 10 * 2101 := Nat.mul_le_mul_right _ this
  omega
theorem text_join (wss : List (List (List Nat))) : Txt.join (Str.ofString "") ((wss.map lineL).map S) = S (textL wss) := by
  rw [e_em, join_S, join_nil]
  rfl
theorem pe_joinK {X : Cx} {K : PySem.W.Frag} {o e : Expr} {to te : TE} {apos pos : Pos} (ek : X.K = K) (ho : PE X o to) (he : PE X e te) (hs : starEach [e] X.env = [(false, eval e X.env)] := by rfl) (hbase : attributeBase o "join" X.env (eval o X.env) = eval o X.env := by rfl) (hline : (apos.endLine == pos.line) = true := by rfl) :
    PE X (.Call (.Attribute o "join" apos) [e] [] pos) (tM1 (fun x xs H Q => ∃ a p, ∃ ys : List Str, x = .str a ∧ xs = [.ref p] ∧ (SqL K H p (ys.map V.str) ∨ SqT K H p (ys.map V.str)) ∧
      (ys.map (·.length)).sum + ys.length * a.length ≤ 16777216 ∧ Q (.str (Txt.join a ys)) H) to te) := by
  subst ek
  exact pe_join ho he hs hbase hline
def spText : Sp := fun vs H Q _ => ∃ p xs wss, vs = [.ref p] ∧ H p = some (.lst xs) ∧ All2 (LnW H) xs wss ∧ Fit wss ∧ ∀ H', Same H H' → Q (.str (S (textL wss))) H'
section
variable {P : Program} {w : World} {K : PySem.W.Frag} {mg : Str → Option Value} {base : Heap} {A : Ad}
theorem ok_law_text (T : Txt K mg A) : FnD anyA P w K mg base CX0 1 A.law_text ["lines"] spText := by
  refine T.d_law_text.ok0 sc_law_text (fun vs H Q E h => ?_) (fun cdv A' outer s H vs Q E hr h => ?_)
  · obtain ⟨p, xs, wss, rfl, _⟩ := h; rfl
  · obtain ⟨p, xs, wss, rfl, hp, hx, hf, q⟩ := h
    have hb := big
    refine ⟨_, (pss_one (ps_ret (pe_join pe_str (pe_lc (own := [("words", 1)]) rfl sc_law_text.nd (pi_list (pv 0)) (blkOk_by (own := [("words", 1)]) (N := ["lines", "words"]) (sc := defScope s_law_text) (by decide +kernel)) (fun _ _ _ _ _ => (pg_name (i := 1) sc_law_text.nd rfl (.inl rfl))) (fun _ _ _ _ _ => pts_nil) (fun _ _ _ _ _ => (pe_op op_add_str (pe_joinK (K := K) rfl pe_str (pv 1)) pe_str)))))), ?_⟩
    refine ⟨⟨_, rfl⟩, _, rfl, p, rfl, ⟨_, .inl (.inl hp)⟩, fun D hD => ?_⟩
    have ne : p ≠ D := ne_of_none hp hD
    have hlen := hx.len
    refine lc_it (walk_list (K := K) (a := p) (xs := xs)) (fun i H' => H' = upd H D (.lst ((wss.take i).map fun ws => V.str (S (lineL ws))))) (by simp) (fun i H' _ e => by rw [e]; exact .inl (.inl ((upd_ne ne).trans hp))) ?_ ?_
    · rintro i x _ _ hi rfl ⟨rfl, hxi⟩
      obtain ⟨ws, hw, r, rfl, hr2⟩ := hx.at hxi
      have fw := hf.e ws (List.mem_of_getElem? hw)
      refine ⟨rfl, ⟨⟨_, rfl⟩, _, rfl, _, r, ws.map S, rfl, rfl, .inl (.inl (.inl ?_)), ?_, _, _, rfl, rfl, ?_, ?_⟩⟩
      · rw [← w_map]
        exact same_upd hD _ _ hr2
      · rw [e_sp, S_len]
        exact fit_sum fw (by simp)
      · rw [e_sp, e_nl, join_S, S_len, S_len]
        have := line_len fw
        unfold lineL at this
        rw [List.length_append] at this
        omega
      · rw [e_sp, e_nl, join_S, S_app]
        refine acc_step ?_ ?_
        · rw [take_more hw, List.map_append]
          rfl
        · have := hf.n
          rw [List.length_map, List.length_take]
          omega
    · rintro H' rfl
      rw [hlen, List.take_length]
      refine ⟨_, D, (wss.map lineL).map S, rfl, rfl, .inl (.inl (.inl ?_)), ?_, ?_⟩
      · rw [upd_same, List.map_map, List.map_map]; rfl
      · rw [e_em, S_len]
        exact lines_sum hf
      · rw [text_join]
        exact q _ (same_upd hD)
end
end SV
namespace SV
open PySem PySem.Spec PyProof.Rows L2 TL LamX NdefX
/-! ### a text laid loosely -/
/-- no sign beyond the last one -/
abbrev ChOk (l : List Nat) : Prop := ∀ c ∈ l, c < 1114112
structure OutL (out : List (List Nat)) (wss : List (List (List Nat))) (n : Nat) : Prop where
  w : (out.map wordsL).filter (fun r => decide (r ≠ [])) = wss
  n : out.length ≤ n
  b : ∀ o ∈ out, o.length ≤ 3000 ∧ 10 ∉ o ∧ ChOk o
theorem OutL.up {out : List (List Nat)} {wss : List (List (List Nat))} {n m : Nat} (h : OutL out wss n) (e : n ≤ m) : OutL out wss m := ⟨h.w, Nat.le_trans h.n e, h.b⟩
theorem OutL.blank {out : List (List Nat)} {wss : List (List (List Nat))} {n : Nat} {g : List Nat} (h : OutL out wss n) (hg : AllSp g) (hl : g.length ≤ 3) : OutL (out ++ [g]) wss (n + 1) := by
  refine ⟨?_, by rw [List.length_append]; have := h.n; simp; omega, fun o ho => ?_⟩
  · rw [List.map_append, List.filter_append, h.w]
    simp [words_blank hg]
  · rcases List.mem_append.mp ho with z | z
    · exact h.b o z
    · rw [List.mem_singleton.mp z]
      exact ⟨by omega, fun q => by have := hg 10 q; omega, fun c hc => by have := hg c hc; omega⟩
theorem OutL.line {out : List (List Nat)} {wss : List (List (List Nat))} {n : Nat} {p g s : List Nat} {ws : List (List Nat)} (h : OutL out wss n) (hp : AllSp p) (hpl : p.length ≤ 3) (hg : AllSp g) (hgn : g ≠ []) (hgl : g.length ≤ 3) (hs : AllSp s) (hsl : s.length ≤ 3)
    (hw : WordsOk ws) (hne : ws ≠ []) (hch : ∀ x ∈ ws, ChOk x) (hf : ws.length ≤ 100 ∧ ∀ x ∈ ws, x.length ≤ 20) : OutL (out ++ [p ++ joinL g ws ++ s]) (wss ++ [ws]) (n + 1) := by
  refine ⟨?_, by rw [List.length_append]; have := h.n; simp; omega, fun o ho => ?_⟩
  · have e : wordsL (p ++ joinL g ws ++ s) = ws := by rw [words_post hs, words_pre hp, words_join hg hgn hw]
    rw [List.map_append, List.filter_append, h.w, List.map_cons, List.map_nil, e]
    simp [hne]
  · rcases List.mem_append.mp ho with z | z
    · exact h.b o z
    · rw [List.mem_singleton.mp z]
      refine ⟨?_, fun q => ?_, fun q hq => ?_⟩
      · have h1 := join_len (g := g) hf.2
        have h2 : ws.length * (20 + g.length) ≤ 100 * 23 := Nat.mul_le_mul hf.1 (by omega)
        rw [List.length_append, List.length_append]
        omega
      · rcases List.mem_append.mp q with q | q
        · rcases List.mem_append.mp q with q | q
          · have := hp 10 q; omega
          · rcases join_mem q with q | ⟨x, hx, q⟩
            · have := hg 10 q; omega
            · exact (hw x hx).2.2 q
        · have := hs 10 q; omega
      · rcases List.mem_append.mp hq with z | z
        · rcases List.mem_append.mp z with z | z
          · have := hp q z; omega
          · rcases join_mem z with z | ⟨x, hx, z⟩
            · have := hg q z; omega
            · exact hch x hx q z
        · have := hs q z; omega
theorem rowW_app (x y : List Nat) : rowW (x ++ 10 :: y) = rowW x ++ rowW y := by
  unfold rowW
  rw [cut_app, List.map_append, List.filter_append]
theorem OutL.row {out : List (List Nat)} {wss : List (List (List Nat))} {n : Nat} (h : OutL out wss n) : rowW (joinL [10] out) = wss := by
  cases out with
  | nil =>
    rw [← h.w]
    decide
  | cons x r =>
    unfold rowW
    rw [cut_join (by simp) fun p hp => (h.b p hp).2.1]
    exact h.w
theorem OutL.rowT {out : List (List Nat)} {wss : List (List (List Nat))} {n : Nat} {t : List Nat} (h : OutL out wss n) (ht : t = [] ∨ t = [10] ∨ t = [10, 32, 32, 10, 10]) : rowW (joinL [10] out ++ t) = wss := by
  rcases ht with e | e | e
  · rw [e, List.append_nil]; exact h.row
  · have z : rowW [] = [] := by decide
    rw [e, rowW_app, h.row, z, List.append_nil]
  · have z : rowW [32, 32, 10, 10] = [] := by decide
    rw [e, rowW_app, h.row, z, List.append_nil]
theorem cut_text : ∀ {wss : List (List (List Nat))}, (∀ ws ∈ wss, WordsOk ws) → cut 10 (textL wss) = wss.map (joinL [32]) ++ [[]]
  | [], _ => by decide
  | ws :: r, h => by
    have e : textL (ws :: r) = joinL [32] ws ++ 10 :: textL r := by
      unfold textL
      rw [List.map_cons, List.flatten_cons]
      unfold lineL
      simp
    rw [e, cut_app, cut_text fun z hz => h z (by simp [hz]), cut_one]
    · rfl
    · intro q
      rcases join_mem q with q | ⟨x, hx, q⟩
      · simp at q
      · exact (h ws (by simp) x hx).2.2 q
theorem e_2s : (Str.ofString "  ") = S [32, 32] := by decide +kernel
theorem e_3s : (Str.ofString "   ") = S [32, 32, 32] := by decide +kernel
theorem e_nls : (Str.ofString "\n  \n\n") = S [10, 32, 32, 10, 10] := by decide +kernel
def spLoose (A : Ad) : Sp := fun vs H Q _ => ∃ a c wss, vs = [.ref a, .str (S (textL wss))] ∧ PenAt H a c ∧ Fit wss ∧ (∀ ws ∈ wss, WordsOk ws ∧ ws ≠ [] ∧ ∀ x ∈ ws, ChOk x) ∧ ∀ L H', Kp (TbA A) [a] H H' → PenAt H' a c → rowW L = wss → L.length ≤ 80000 → ChOk L → Q (.str (S L)) H'
section
variable {P : Program} {w : World} {K : PySem.W.Frag} {mg : Str → Option Value} {base : Heap} {A : Ad}
theorem pick3 {σ : L2.St} {H : Hp} {Q : VK} {a c : Addr} {v1 v2 v3 : V} (h0 : σ[0]? = some (some (.ref a))) (pen : PenAt H a c) (hq : ∀ x H2, x = v1 ∨ x = v2 ∨ x = v3 → Kp (TbA A) [a] H H2 → PenAt H2 a c → Q x H2) :
    tCall (spPick K) [] EN (tCons (tVar 0) (tCons (tLst (tCons (tC v1) (tCons (tC v2) (tCons (tC v3) tNil)))) tNil)) σ H Q := by
  have hb := big
  refine ⟨_, h0, by simp; omega, fun t ht => ⟨a, c, t, _, rfl, by simp, by simp, (pen.ne ht).1, upd_same, pen.same (same_upd ht), fun x H2 hx o2 pen2 => hq x H2 (by simpa using hx) ((Kp.new ht).trans ((pen.same (same_upd ht)).only o2)) pen2⟩⟩
theorem sp_cases {x : V} (h : x = .str "" ∨ x = .str " " ∨ x = .str "   " ∨ x = .str "  ") : ∃ g, x = wV g ∧ AllSp g ∧ g.length ≤ 3 := by
  rcases h with e | e | e | e
  · exact ⟨[], by rw [e, e_em], (by intro c h; cases h), by simp⟩
  · exact ⟨[32], by rw [e, e_sp], (by intro c h; simpa using h), by simp⟩
  · exact ⟨[32, 32, 32], by rw [e, e_3s], (by intro c h; simpa using h), by simp⟩
  · exact ⟨[32, 32], by rw [e, e_2s], (by intro c h; simpa using h), by simp⟩
theorem ok_law_loose (T : Txt K mg A) : FnD anyA P w K mg base CX0 5 A.law_loose ["pen", "text"] (spLoose A) := by
  refine T.d_law_loose.ok0 sc_law_loose (fun vs H Q E h => ?_) (fun cdv A' outer s H vs Q E hr h => ?_)
  · obtain ⟨a, c, wss, rfl, _⟩ := h; rfl
  · obtain ⟨a, c, wss, rfl, pen, hf, hw, qf⟩ := h
    have hb := big
    refine ⟨_, (pss_cons (ps_set (i := 2) sc_law_loose.nd rfl (.inl rfl) (pe_lst pa_nil))
      (pss_cons (ps_for PassesOwn.never rfl (pi_list (pe_slice sl_list (pe_split (pv 1) pe_str) po_none (po_some (pe_un un_neg pe_int)))) (pg_name (i := 3) sc_law_loose.nd rfl (.inl rfl))
      (pss_cons (ps_if (pt_cmpR op_eq (pe_callD pass00 (ok_law_draw T) hr (by decide) rfl T.m_law_draw (pa_cons (pv 0) (pa_cons pe_int pa_nil))) pe_int (nomark _))
      (pss_one (ps_expr (pe_bm PySem.F.plainAttrs_list PySem.F.slot_list_append PySem.F.type_list_append mt_append (pv 2) (pa_cons (pe_callD pass00 (ok_law_pick T) hr (by decide) rfl T.m_law_pick (pa_cons (pv 0) (pa_cons (pe_lst (pa_cons pe_str (pa_cons pe_str (pa_cons pe_str pa_nil)))) pa_nil))) pa_nil))))
      pss_nil)
      (pss_cons (ps_set (i := 4) sc_law_loose.nd rfl (.inl rfl) (pe_callD pass00 (ok_law_pick T) hr (by decide) rfl T.m_law_pick (pa_cons (pv 0) (pa_cons (pe_lst (pa_cons pe_str (pa_cons pe_str (pa_cons pe_str pa_nil)))) pa_nil))))
      (pss_one (ps_expr (pe_bm PySem.F.plainAttrs_list PySem.F.slot_list_append PySem.F.type_list_append mt_append (pv 2) (pa_cons (pe_op op_add_str (pe_op op_add_str (pe_callD pass00 (ok_law_pick T) hr (by decide) rfl T.m_law_pick (pa_cons (pv 0) (pa_cons (pe_lst (pa_cons pe_str (pa_cons pe_str (pa_cons pe_str pa_nil)))) pa_nil))) (pe_join (pv 4) (pe_split (pv 3) pe_str))) (pe_callD pass00 (ok_law_pick T) hr (by decide) rfl T.m_law_pick (pa_cons (pv 0) (pa_cons (pe_lst (pa_cons pe_str (pa_cons pe_str (pa_cons pe_str pa_nil)))) pa_nil)))) pa_nil)))))))
      (pss_one (ps_ret (pe_op op_add_str (pe_join pe_str (pv 2)) (pe_callD pass00 (ok_law_pick T) hr (by decide) rfl T.m_law_pick (pa_cons (pv 0) (pa_cons (pe_lst (pa_cons pe_str (pa_cons pe_str (pa_cons pe_str pa_nil)))) pa_nil)))))))), ?_⟩
    refine ⟨by simp, fun q hq => ?_⟩
    have htl := text_len hf
    refine ⟨_, rfl, ⟨_, rfl⟩, S (textL wss), _, rfl, rfl, by decide +kernel, by rw [S_len]; omega, fun p hp => ?_⟩
    rw [e_nl, split_S (by decide), cut_text fun ws h => (hw ws h).1]
    refine ⟨1, rfl, _, rfl, p, _, rfl, .inl (.inl upd_same), fun sl hsl => ⟨sl, rfl, ⟨_, .inl (.inl upd_same)⟩, ?_⟩⟩
    have ecut : cutV (((wss.map (joinL [32]) ++ [[]]).map S).map V.str) none (some (-1)) = (wss.map (joinL [32])).map wV := by
      unfold cutV
      rw [HT.sIx_none]
      show (List.drop 0 _).take (HT.sIx _ _ (some (-1)) - 0) = _
      have e2 : HT.sIx (((wss.map (joinL [32]) ++ [[]]).map S).map V.str).length (((wss.map (joinL [32]) ++ [[]]).map S).map V.str).length (some (-1)) = wss.length := by
        show (if (-1 : Int) < 0 then ((-1 : Int) + ((((wss.map (joinL [32]) ++ [[]]).map S).map V.str).length : Int)).toNat else min (-1 : Int).toNat (((wss.map (joinL [32]) ++ [[]]).map S).map V.str).length) = _
        rw [if_pos (by decide)]
        simp
        omega
      rw [e2, List.drop_zero, List.map_map, List.map_append, Nat.sub_zero, List.take_append_of_le_length (by simp)]
      rw [List.take_of_length_le (by simp)]
      rfl
    rw [ecut]
    have sP : Same H (upd H q (.lst [])) := same_upd hq
    have k0 : Kp (TbA A) [q, a] H (upd (upd (upd H q (.lst [])) p (.lst (((wss.map (joinL [32]) ++ [[]]).map S).map V.str))) sl (.lst ((wss.map (joinL [32])).map wV))) := (Kp.same sP).trans ((Kp.new hp).trans (Kp.new hsl))
    have qp : q ≠ p := fun z => by rw [← z, upd_same] at hp; cases hp
    have qsl : q ≠ sl := fun z => by rw [← z, upd_ne qp, upd_same] at hsl; cases hsl
    have hq0 : (upd (upd (upd H q (.lst [])) p (.lst (((wss.map (joinL [32]) ++ [[]]).map S).map V.str))) sl (.lst ((wss.map (joinL [32])).map wV))) q = some (.lst []) := (upd_ne qsl).trans ((upd_ne qp).trans upd_same)
    have pen0 := ((pen.same sP).same (same_upd hp)).same (same_upd (o := .lst ((wss.map (joinL [32])).map wV)) hsl)
    have qac := pen.ne hq
    have slac := ((pen.same sP).same (same_upd hp)).ne hsl
    generalize eG : upd (upd (upd H q (.lst [])) p (.lst (((wss.map (joinL [32]) ++ [[]]).map S).map V.str))) sl (.lst ((wss.map (joinL [32])).map wV)) = G at k0 hq0 pen0 ⊢
    have hsl0 : G sl = some (.lst ((wss.map (joinL [32])).map wV)) := by rw [← eG]; exact upd_same
    -- the state
    let Stt : Nat → Nat → L2.St → Hp → Prop := fun i n σ H' => ∃ x3 x4 out, σ = [some (.ref a), some (.str (S (textL wss))), some (.ref q), x3, x4] ∧ H' q = some (.lst (out.map wV)) ∧ OutL out (wss.take i) n ∧ PenAt H' a c ∧ Kp (TbA A) [q, a] H H' ∧ H' sl = some (.lst ((wss.map (joinL [32])).map wV))
    have hn := hf.n
    refine for_it (walk_list (K := K) (a := sl) (xs := (wss.map (joinL [32])).map wV)) (fun i σ H' => Stt i (2 * i) σ H') ⟨none, none, [], rfl, hq0, ⟨by simp, by simp, by simp⟩, pen0, k0, hsl0⟩ (fun i σ H' _ h => ?_) ?_ ?_
    · obtain ⟨_, _, _, _, _, _, _, _, h⟩ := h
      exact .inl (.inl h)
    · rintro i x σ H1 H2 hi ⟨x3, x4, out, rfl, ho, hout, hpen, hk, hs⟩ ⟨rfl, hx⟩
      obtain ⟨ln, hln, rfl⟩ := map_atG hx
      obtain ⟨ws, hws, rfl⟩ := map_atG hln
      have hi' : i < wss.length := (List.getElem?_eq_some_iff.mp hws).1
      have fw := hf.e ws (List.mem_of_getElem? hws)
      have ww := hw ws (List.mem_of_getElem? hws)
      have stay : ∀ {G1 G2 : Hp}, Kp (TbA A) [a] G1 G2 → ∀ {o}, G1 q = some (.lst o) → G1 sl = some (.lst ((wss.map (joinL [32])).map wV)) → G2 q = some (.lst o) ∧ G2 sl = some (.lst ((wss.map (joinL [32])).map wV)) := by
        intro G1 G2 k o e1 e2
        exact ⟨k.k _ _ e1 (by simpa using qac.1) noTbl_lst, k.k _ _ e2 (by simpa using slac.1) noTbl_lst⟩
      show tSeq _ _ _ [some (V.ref a), some (.str (S (textL wss))), some (.ref q), some (wV (joinL [32] ws)), x4] H2
      refine seq_join (fun σ' H' => ∃ x4, Stt i (2 * i + 1) σ' H' ∧ σ' = [some (V.ref a), some (.str (S (textL wss))), some (.ref q), some (wV (joinL [32] ws)), x4]) (fun D' _ hR => ?_) ?_
      · refine ⟨_, rfl, a, c, 5, rfl, by decide, by decide, hpen, fun d H3 d0 d1 o2 pen2 => ⟨rfl, ?_⟩⟩
        have k2 := hpen.only (Tb := TbA A) o2
        obtain ⟨ho2, hs2⟩ := stay k2 ho hs
        obtain ⟨b1, eb1⟩ := bx (decide (V.int d = V.int 0))
        refine ⟨b1, congrArg V.bl eb1, ?_⟩
        cases b1 with
        | false =>
          refine ifF rfl (hR _ _ ⟨x4, ⟨_, x4, out, rfl, ho2, hout.up (by omega), pen2, hk.trans (k2.mono (by simp)), hs2⟩, rfl⟩)
        | true =>
          refine ifT rfl ?_
          refine ⟨_, rfl, .inl ⟨rfl, _, .inl (.inl ho2)⟩, pick3 (A := A) rfl pen2 fun x H4 hx4 k4 pen4 => ?_⟩
          obtain ⟨ho4, hs4⟩ := stay k4 ho2 hs2
          obtain ⟨g, rfl, hg, hgl⟩ := sp_cases (x := x) (by rcases hx4 with e | e | e <;> simp [e])
          refine ⟨q, _, _, rfl, rfl, ho4, ?_, ?_⟩
          · have := hout.n
            rw [List.length_map]
            omega
          · have kq : Kp (TbA A) [q] H4 (upd H4 q (.lst (out.map wV ++ [wV g]))) := Kp.put ho4 (by simp) noTbl_lst (fun φ z => by cases z)
            refine hR _ _ ⟨x4, ⟨_, x4, out ++ [g], rfl, by rw [upd_same, List.map_append]; rfl, hout.blank hg hgl, pen4.kp kq (by simpa using qac.1.symm) (by simpa using qac.2.symm), hk.trans ((k2.mono (by simp)).trans ((k4.mono (by simp)).trans (kq.mono (by simp)))), (upd_ne qsl.symm).trans hs4⟩, rfl⟩
      · rintro σ H3 ⟨y4, ⟨_, _, out3, e3, ho3, hout3, pen3, hk3, hs3⟩, rfl⟩
        refine pick3 (A := A) rfl pen3 fun x H4 hx4 k4 pen4 => ?_
        obtain ⟨ho4, hs4⟩ := stay k4 ho3 hs3
        obtain ⟨g, rfl, hg, hgl, hgn⟩ : ∃ g, x = wV g ∧ AllSp g ∧ g.length ≤ 3 ∧ g ≠ [] := by
          rcases hx4 with e | e | e
          · exact ⟨[32], by rw [e, e_sp], (by intro c h; simpa using h), by simp, by simp⟩
          · exact ⟨[32], by rw [e, e_sp], (by intro c h; simpa using h), by simp, by simp⟩
          · exact ⟨[32, 32, 32], by rw [e, e_3s], (by intro c h; simpa using h), by simp, by simp⟩
        refine ⟨_, rfl, .inl ⟨rfl, _, .inl (.inl ho4)⟩, pick3 (A := A) rfl pen4 fun x5 H5 hx5 k5 pen5 => ?_⟩
        obtain ⟨ho5, hs5⟩ := stay k5 ho4 hs4
        obtain ⟨g1, rfl, hg1, hg1l⟩ := sp_cases (x := x5) (by rcases hx5 with e | e | e <;> simp [e])
        have hjl : (joinL [32] ws).length ≤ 2100 := by
          have := line_len fw
          unfold lineL at this
          rw [List.length_append] at this
          simp at this
          omega
        refine ⟨_, rfl, ⟨_, rfl⟩, _, rfl, ⟨_, rfl⟩, S (joinL [32] ws), _, rfl, rfl, by decide +kernel, by rw [S_len]; omega, fun p5 hp5 => ?_⟩
        rw [e_sp, split_S (by decide), cut_join ww.2.1 fun z hz => (ww.1 z hz).2.1]
        refine ⟨_, p5, ws.map S, rfl, rfl, .inl (.inl (.inl upd_same)), ?_, ?_⟩
        · rw [S_len]
          exact fit_sum fw (by omega)
        have kp5 : Kp (TbA A) [a] H5 (upd H5 p5 (.lst ((ws.map S).map V.str))) := Kp.new hp5
        have pen6 := pen5.same (same_upd (o := .lst ((ws.map S).map V.str)) hp5)
        obtain ⟨ho6, hs6⟩ := stay kp5 ho5 hs5
        rw [join_S]
        have hjg : (joinL g ws).length ≤ 2300 := by
          have h1 := join_len (g := g) fw.2
          have h2 : ws.length * (20 + g.length) ≤ 100 * 23 := Nat.mul_le_mul fw.1 (by omega)
          omega
        refine ⟨_, _, rfl, rfl, by rw [S_len, S_len]; omega, ?_⟩
        rw [S_app]
        refine pick3 (A := A) rfl pen6 fun x7 H7 hx7 k7 pen7 => ?_
        obtain ⟨ho7, hs7⟩ := stay k7 ho6 hs6
        obtain ⟨g2, rfl, hg2, hg2l⟩ := sp_cases (x := x7) (by rcases hx7 with e | e | e <;> simp [e, e_sp])
        refine ⟨_, _, rfl, rfl, by rw [S_len, S_len, List.length_append]; omega, ?_⟩
        rw [S_app]
        refine ⟨q, _, _, rfl, rfl, ho7, ?_, ?_⟩
        · have := hout3.n
          rw [List.length_map]
          omega
        · have kq : Kp (TbA A) [q] H7 (upd H7 q (.lst (out3.map wV ++ [wV (g1 ++ joinL g ws ++ g2)]))) := Kp.put ho7 (by simp) noTbl_lst (fun φ z => by cases z)
          refine ⟨_, _, out3 ++ [g1 ++ joinL g ws ++ g2], rfl, by rw [upd_same, List.map_append]; rfl, ?_, pen7.kp kq (by simpa using qac.1.symm) (by simpa using qac.2.symm), hk3.trans ((k4.mono (by simp)).trans ((k5.mono (by simp)).trans ((kp5.mono (by simp)).trans ((k7.mono (by simp)).trans (kq.mono (by simp)))))), (upd_ne qsl.symm).trans hs7⟩
          rw [take_more hws]
          exact hout3.line hg1 hg1l hg hgn hgl hg2 hg2l ww.1 ww.2.1 ww.2.2 fw
    · rintro σ H1 ⟨x3, x4, out, rfl, ho, hout, hpen, hk, hs⟩
      have el : ((wss.map (joinL [32])).map wV).length = wss.length := by simp
      rw [el, List.take_length] at hout
      have hon := hout.n
      refine ⟨⟨_, rfl⟩, _, rfl, _, q, out.map S, rfl, rfl, .inl (.inl (.inl ?_)), ?_, ?_⟩
      · rw [← w_map]; exact ho
      · have h1 := sum_le (B := 3000) (ys := out.map S) fun y hy => by
          obtain ⟨x, hx, rfl⟩ := List.mem_map.mp hy
          rw [S_len]; exact (hout.b x hx).1
        rw [List.length_map] at h1 ⊢
        have h2 : out.length * 3000 ≤ 20 * 3000 := Nat.mul_le_mul_right _ (by omega)
        rw [S_len]
        simp only [List.length_cons, List.length_nil]
        omega
      rw [join_S]
      have hjo : (joinL [10] out).length ≤ 60020 := by
        have h1 := join_len (g := [10]) (B := 3000) fun x hx => (hout.b x hx).1
        have h2 : out.length * (3000 + ([10] : List Nat).length) ≤ 20 * 3001 := Nat.mul_le_mul (by omega) (by simp)
        omega
      refine pick3 (A := A) rfl hpen fun x7 H7 hx7 k7 pen7 => ?_
      obtain ⟨t, rfl, ht, htl⟩ : ∃ t, x7 = wV t ∧ (t = [] ∨ t = [10] ∨ t = [10, 32, 32, 10, 10]) ∧ t.length ≤ 5 := by
        rcases hx7 with e | e | e
        · exact ⟨[], by rw [e, e_em], .inl rfl, by simp⟩
        · exact ⟨[10], e, .inr (.inl rfl), by simp⟩
        · exact ⟨[10, 32, 32, 10, 10], by rw [e, e_nls], .inr (.inr rfl), by simp⟩
      refine ⟨_, _, rfl, rfl, by rw [S_len, S_len]; omega, ?_⟩
      rw [S_app]
      refine qf _ _ (Kp.drop (Kp.refl _ _ _) hq (hk.trans (k7.mono (by simp)))) pen7 (hout.rowT ht) ?_ (fun c0 hc0 => ?_)
      · rw [List.length_append]
        omega
      · rcases List.mem_append.mp hc0 with z | z
        · rcases join_mem z with z | ⟨x, hx, z⟩
          · rw [List.mem_singleton.mp z]; decide
          · exact (hout.b x hx).2.2 c0 z
        · rcases ht with e | e | e
          · rw [e] at z; cases z
          · rw [e] at z; rw [List.mem_singleton.mp z]; decide
          · rw [e] at z
            have : c0 = 10 ∨ c0 = 32 ∨ c0 = 10 := by simpa using z
            omega
end
end SV
namespace SV
open PySem PySem.Spec PyProof.Rows L2 TL LamX NdefX
/-! ### data -/
section
variable {P : Program} {w : World} {K : PySem.W.Frag} {mg : Str → Option Value} {base : Heap} {A : Ad} {H H' : Hp} {v : V} {d : PyData}
theorem dpAll_at : ∀ {vs : List V} {ds : List PyData}, DpAll K H vs ds → ∀ {i : Nat} {x : V}, vs[i]? = some x → ∃ d, ds[i]? = some d ∧ Dp K H x d
  | _, _, .nil, _, _, e => by cases e
  | _, _, .cons h t, 0, x, e => by cases e; exact ⟨_, rfl, h⟩
  | _, _, .cons h t, i + 1, x, e => dpAll_at t (i := i) e
theorem dpAll_at' : ∀ {vs : List V} {ds : List PyData}, DpAll K H vs ds → ∀ {i : Nat} {d : PyData}, ds[i]? = some d → ∃ x, vs[i]? = some x ∧ Dp K H x d
  | _, _, .nil, _, _, e => by cases e
  | _, _, .cons h t, 0, x, e => by cases e; exact ⟨_, rfl, h⟩
  | _, _, .cons h t, i + 1, x, e => dpAll_at' t (i := i) e
theorem dpAll_len : ∀ {vs : List V} {ds : List PyData}, DpAll K H vs ds → vs.length = ds.length
  | _, _, .nil => rfl
  | _, _, .cons _ t => by simp [dpAll_len t]
theorem dp_same (s : Same H H') (h : Dp K H v d) : Dp K H' v d := Kp.dp0 (Kp.same (Tb := []) s) h
theorem dpAll_same {vs : List V} {ds : List PyData} (s : Same H H') (h : DpAll K H vs ds) : DpAll K H' vs ds := Kp.dpAll (Kp.same (Tb := []) (M := []) s) (by simp) ds vs h
def tyD : PyData → String
  | .none => "NoneType" | .bool _ => "bool" | .int _ => "int" | .str _ => "str" | .list _ => "list" | .tuple _ => "tuple" | .dict _ => "dict"
theorem sqL_ty {a : Addr} {xs : List V} (h : SqL K H a xs) : TyX K H (.ref a) (.type "list") := by
  rcases h with (h | ⟨o, h⟩) | ⟨o, its, n, h, c, _⟩
  · exact .base (.lst h)
  · exact .base (.frz h)
  · exact .kList h c
theorem sqT_ty {a : Addr} {xs : List V} (h : SqT K H a xs) : TyX K H (.ref a) (.type "tuple") := by
  rcases h with (h | ⟨o, h⟩) | ⟨o, its, n, h, c, _⟩
  · exact .base (.tup h)
  · exact .fTuple h
  · exact .kTuple h c
theorem dp_ty (h : Dp K H v d) : TyX K H v (.type (tyD d)) := by
  cases h with
  | non => exact .base .non
  | bl b => exact .base (.bl b)
  | int i => exact .base (.int i)
  | str x => exact .base (.str x)
  | lst h _ => exact sqL_ty h
  | tup h _ => exact sqT_ty h
/-- isinstance of data with a built-in type -/
def isD (t : String) (d : PyData) : Bool := match d with
  | .none => t == "NoneType" | .bool _ => t == "bool" || t == "int" | .int _ => t == "int" | .str _ => t == "str" | .list _ => t == "list" | .tuple _ => t == "tuple" | .dict _ => t == "dict"
theorem kit_int (d : PyData) : kitB (tyD d) "int" = some (isD "int" d) := by cases d <;> (simp only [tyD, isD]; decide +kernel)
theorem kit_bool (d : PyData) : kitB (tyD d) "bool" = some (isD "bool" d) := by cases d <;> (simp only [tyD, isD]; decide +kernel)
theorem kit_str (d : PyData) : kitB (tyD d) "str" = some (isD "str" d) := by cases d <;> (simp only [tyD, isD]; decide +kernel)
theorem kit_tuple (d : PyData) : kitB (tyD d) "tuple" = some (isD "tuple" d) := by cases d <;> (simp only [tyD, isD]; decide +kernel)
theorem kit_list (d : PyData) : kitB (tyD d) "list" = some (isD "list" d) := by cases d <;> (simp only [tyD, isD]; decide +kernel)
/-- isinstance(x, T): the reading's answer -/
theorem isi_r {t : String} {Q : VK} (h : Dp K H v d) (k : kitB (tyD d) t = some (isD t d)) (q : Q (.bl (isD t d)) H) : rIsi K [v, .ty t] H Q := ⟨v, .ty t, _, _, _, rfl, .ty t, dp_ty h, kit_ty k, q⟩
theorem isi_c {t : String} {Q : VK} {σ : L2.St} {i : Nat} (hv : σ[i]? = some (some v)) (h : Dp K H v d) (k : kitB (tyD d) t = some (isD t d)) (q : Q (.bl (isD t d)) H) : tCB (rIsi K) (tCons (tVar i) (tCons (tC (.ty t)) tNil)) σ H Q := ⟨v, hv, v, .ty t, _, _, _, rfl, .ty t, dp_ty h, kit_ty k, q⟩
theorem and_r {ta tb : TE} {σ : L2.St} {Q : VK} (h : ta σ H fun x H1 => ∃ c, x = .bl c ∧ if c = true then tb σ H1 Q else Q (.bl false) H1) : tAndV ta tb σ H Q := h
theorem notv_r {ta : TE} {σ : L2.St} {Q : VK} (h : ta σ H fun x H1 => ∃ c, x = .bl c ∧ Q (.bl (!c)) H1) : tNotV ta σ H Q := h
theorem ret_r {te : TE} {D : Ends} {σ : L2.St} (h : te σ H D.rt) : tRet te D σ H := h
theorem if_r {c : TT} {t u : TS} {D : Ends} {σ : L2.St} (h : c σ H fun b H1 => if b = true then t D σ H1 else u D σ H1) : tIfS c t u D σ H := h
theorem not_r {t : TT} {σ : L2.St} {Q : Bool → Hp → Prop} (h : t σ H fun c H1 => Q (!c) H1) : tNot t σ H Q := h
theorem b_r {t : TE} {σ : L2.St} {Q : Bool → Hp → Prop} (h : t σ H fun x H1 => ∃ c, x = .bl c ∧ Q c H1) : tB t σ H Q := h
theorem seq_r {t u : TS} {D : Ends} {σ : L2.St} (h : t { D with nx := u D } σ H) : tSeq t u D σ H := h
theorem or_r {t u : TT} {σ : L2.St} {Q : Bool → Hp → Prop} (h : t σ H fun c H1 => if c = true then Q true H1 else u σ H1 Q) : tOr t u σ H Q := h
theorem andt_r {t u : TT} {σ : L2.St} {Q : Bool → Hp → Prop} (h : t σ H fun c H1 => if c = true then u σ H1 Q else Q false H1) : tAnd t u σ H Q := h
/-- the data that the law compares -/
def depB : Nat → PyData → Bool
  | _, .none => true | _, .bool _ => true | _, .int _ => true | _, .str _ => true
  | 0, .tuple _ => false
  | n + 1, .tuple ds => decide (ds.length ≤ 90000) && ds.all (depB n)
  | _, _ => false
def spIs (K : PySem.W.Frag) (n : Nat) : Sp := fun vs H Q _ => ∃ x y d, vs = [x, y] ∧ Dp K H x d ∧ Dp K H y d ∧ depB n d = true ∧ ∀ H', Same H H' → Q (.bl true) H'
def spIsR (K : PySem.W.Frag) : Nat → Sp
  | 0 => fun _ _ _ _ => False
  | n + 1 => spIs K n
theorem never {x qual : Str} {st : Stmt} {f : Addr} {ps : List Str} (D : DefT K x qual st ps f) : FnD anyA P w K mg base CX0 0 f ps (fun _ _ _ _ => False) := by
  obtain ⟨fd, F, b⟩ := D
  exact ⟨fd, ⟨fun _ _ _ _ z => z.elim, fun _ _ _ _ _ _ _ _ _ _ _ _ _ _ z => z.elim⟩, b, F.kp⟩
theorem law_is_step (T : Txt K mg A) (n : Nat) (F : FnD anyA P w K mg base CX0 n A.law_is ["told", "due"] (spIsR K n)) : FnD anyA P w K mg base CX0 (n + 1) A.law_is ["told", "due"] (spIs K n) := by
  refine T.d_law_is.ok0 sc_law_is (fun vs H Q E h => ?_) (fun cdv A' outer s H vs Q E hr h => ?_)
  · obtain ⟨x, y, d, rfl, _⟩ := h; rfl
  · obtain ⟨x, y, d, rfl, hx, hy, hdep, q⟩ := h
    have hb := big
    have hu : A'.units + 67 < cLine := by have := hr.un; simp only [Around.deeper] at this; omega
    refine ⟨_, (pss_cons (ps_if (pt_val (pe_callB call_isi (by rfl) T.n_isinstance (by decide +kernel) (pa_cons (pv 1) (pa_cons (pe_bltn (v := .ty "tuple") (u := .type "tuple") (by rfl) T.n_tuple (by decide +kernel) rfl) pa_nil))))
      (pss_cons (ps_if (PW.pt (pw_or (pt_not (pt_val (pe_callB call_isi (by rfl) T.n_isinstance (by decide +kernel) (pa_cons (pv 0) (pa_cons (pe_bltn (v := .ty "tuple") (u := .type "tuple") (by rfl) T.n_tuple (by decide +kernel) rfl) pa_nil))))) (pw_or1 (pt_cmpR op_ne (pe_callB call_len_seq (by rfl) T.n_len (by decide +kernel) (pa_cons (pv 0) pa_nil)) (pe_callB call_len_seq (by rfl) T.n_len (by decide +kernel) (pa_cons (pv 1) pa_nil)) (nomark _)))))
      (pss_one (ps_ret pe_bl))
      pss_nil)
      (pss_one (ps_ret (pe_cmpR (op_eqD hu) (pe_lc (own := [("at", 2)]) rfl sc_law_is.nd (pi_range1 (by rfl) T.n_range (pa_cons (pe_callB call_len_seq (by rfl) T.n_len (by decide +kernel) (pa_cons (pv 1) pa_nil)) pa_nil)) (blkOk_by (own := [("at", 2)]) (N := ["told", "due", "at"]) (sc := defScope s_law_is) (by decide +kernel)) (fun _ _ _ _ _ => (pg_name (i := 2) sc_law_is.nd rfl (.inl rfl))) (fun _ _ _ _ _ => (pts_one (pt_not (pt_val (pe_callD pass00 F hr (by omega) rfl T.m_law_is (pa_cons (pe_ix (r := rIxT K) ix_tup (pv 0) (pv 2) (fun _ _ => rfl)) (pa_cons (pe_ix (r := rIxT K) ix_tup (pv 1) (pv 2) (fun _ _ => rfl)) pa_nil))))))) (fun _ _ _ _ _ => (pv 2))) (pe_lst pa_nil) (nomark _)))))
      pss_nil)
      (pss_cons (ps_if (pt_cmpR op_isN (pv 1) pe_non (nomark _))
      (pss_one (ps_ret (pe_cmpR op_isN (pv 0) pe_non (nomark _))))
      pss_nil)
      (pss_cons (ps_if (pt_cmpR (op_isB true) (pv 1) pe_bl (nomark _))
      (pss_one (ps_ret (pe_cmpR (op_isB true) (pv 0) pe_bl (nomark _))))
      pss_nil)
      (pss_cons (ps_if (pt_cmpR (op_isB false) (pv 1) pe_bl (nomark _))
      (pss_one (ps_ret (pe_cmpR (op_isB false) (pv 0) pe_bl (nomark _))))
      pss_nil)
      (pss_cons (ps_if (pt_val (pe_callB call_isi (by rfl) T.n_isinstance (by decide +kernel) (pa_cons (pv 1) (pa_cons (pe_bltn (v := .ty "str") (u := .type "str") (by rfl) T.n_str (by decide +kernel) rfl) pa_nil))))
      (pss_one (ps_ret (pe_and (pe_callB call_isi (by rfl) T.n_isinstance (by decide +kernel) (pa_cons (pv 0) (pa_cons (pe_bltn (v := .ty "str") (u := .type "str") (by rfl) T.n_str (by decide +kernel) rfl) pa_nil))) (pe_one (pe_cmpR op_eq (pv 0) (pv 1) (nomark _))))))
      pss_nil)
      (pss_one (ps_ret (pe_and (pe_callB call_isi (by rfl) T.n_isinstance (by decide +kernel) (pa_cons (pv 0) (pa_cons (pe_bltn (v := .ty "int") (u := .type "int") (by rfl) T.n_int (by decide +kernel) rfl) pa_nil))) (pe_and (pe_not (pe_callB call_isi (by rfl) T.n_isinstance (by decide +kernel) (pa_cons (pv 0) (pa_cons (pe_bltn (v := .ty "bool") (u := .type "bool") (by rfl) T.n_bool (by decide +kernel) rfl) pa_nil)))) (pe_one (pe_cmpR op_eq (pv 0) (pv 1) (nomark _)))))))))))), ?_⟩
    have q0 := q H fun _ _ e => e
    refine seq_r (if_r (b_r (isi_c rfl hy (kit_tuple d) ⟨_, rfl, ?_⟩)))
    cases d with
    | tuple ds =>
      obtain ⟨ax, xs, hsx, hax, rfl⟩ : ∃ ax xs, SqT K H ax xs ∧ DpAll K H xs ds ∧ x = .ref ax := by
        cases hx with
        | tup h1 h2 => exact ⟨_, _, h1, h2, rfl⟩
      obtain ⟨ay, ys, hsy, hay, rfl⟩ : ∃ ay ys, SqT K H ay ys ∧ DpAll K H ys ds ∧ y = .ref ay := by
        cases hy with
        | tup h1 h2 => exact ⟨_, _, h1, h2, rfl⟩
      have lx := dpAll_len hax
      have ly := dpAll_len hay
      cases n with
      | zero => cases hdep
      | succ n =>
      have hdep2 : ds.length ≤ 90000 ∧ ∀ d ∈ ds, depB n d = true := by
        have : (decide (ds.length ≤ 90000) && ds.all (depB n)) = true := hdep
        simpa using this
      refine ifT rfl (seq_r (if_r (or_r (not_r (b_r (isi_c rfl hx (kit_tuple _) ⟨_, rfl, ?_⟩))))))
      refine ifF rfl ?_
      refine ⟨_, rfl, ax, xs, rfl, .inr hsx, _, rfl, ay, ys, rfl, .inr hsy, rfl, false, ?_, ?_⟩
      · rw [dec_len, lx, ly]; simp
      refine ifF rfl ?_
      refine ⟨_, rfl, ay, ys, rfl, .inr hsy, _, rfl, by omega, by omega, fun D hD => ?_⟩
      have er : ((ys.length : Nat) : Int).toNat = ds.length := by omega
      rw [er]
      refine lc_it (walk_range (lo := 0) (n := ds.length)) (fun i H' => ∃ G, H' = upd G D (.lst []) ∧ Same H G ∧ G D = none) ⟨H, rfl, fun _ _ e => e, hD⟩ (fun _ _ _ _ => trivial) ?_ ?_
      · rintro i x H1 H2 hi ⟨G, rfl, sG, nG⟩ ⟨rfl, rfl⟩
        have sU : Same H (upd G D (.lst [])) := same_trans sG (same_upd nG)
        obtain ⟨vx, evx, dvx⟩ := dpAll_at' hax (i := i) (d := ds[i]) (by simp [hi])
        obtain ⟨vy, evy, dvy⟩ := dpAll_at' hay (i := i) (d := ds[i]) (by simp [hi])
        have e0 : (0 : Int) + (i : Nat) = ((i : Nat) : Int) := by omega
        refine ⟨rfl, ⟨_, rfl, _, rfl, ax, xs, _, vx, rfl, rfl, sqT_same sU hsx, by rw [e0]; exact atI_nat evx, _, rfl, _, rfl, ay, ys, _, vy, rfl, rfl, sqT_same sU hsy, by rw [e0]; exact atI_nat evy, ?_⟩⟩
        refine ⟨vx, vy, ds[i], rfl, dp_same sU dvx, dp_same sU dvy, hdep2.2 _ (List.getElem_mem hi), fun H3 s3 => ⟨_, rfl, ?_⟩⟩
        refine ifF rfl ⟨fun b => if b = D then none else H3 b, ?_, fun b o e => ?_, if_pos rfl⟩
        · funext b
          by_cases z : b = D
          · rw [z, upd_same]; exact s3 _ _ upd_same
          · rw [upd_ne z, if_neg z]
        · have nb := ne_of_none (sG _ _ e) nG
          show (if b = D then none else H3 b) = some o
          rw [if_neg nb]
          exact s3 _ _ (sU _ _ e)
      · rintro H1 ⟨G, rfl, sG, nG⟩
        refine ⟨by simp, fun p hp => ⟨.list [], .list [], .lst (.inl (.inl ?_)) .nil, .lst (.inl (.inl upd_same)) .nil, rfl, rfl, ?_⟩⟩
        · exact same_upd hp _ _ upd_same
        · exact q _ (same_trans sG (same_trans (same_upd nG) (same_upd hp)))
    | none =>
      cases hx; cases hy
      refine ifF rfl (seq_r ⟨_, rfl, rfl, true, rfl, ifT rfl ⟨_, rfl, rfl, q0⟩⟩)
    | bool b =>
      cases hx; cases hy
      refine ifF rfl (seq_r ⟨_, rfl, rfl, false, rfl, ifF rfl ?_⟩)
      cases b with
      | true => exact seq_r ⟨_, rfl, rfl, true, rfl, ifT rfl ⟨_, rfl, rfl, q0⟩⟩
      | false => exact seq_r ⟨_, rfl, rfl, false, rfl, ifF rfl (seq_r ⟨_, rfl, rfl, true, rfl, ifT rfl ⟨_, rfl, rfl, q0⟩⟩)⟩
    | str z =>
      refine ifF rfl ?_
      cases hx; cases hy
      refine seq_r ⟨_, rfl, rfl, false, rfl, ifF rfl (seq_r ⟨_, rfl, rfl, false, rfl, ifF rfl (seq_r ⟨_, rfl, rfl, false, rfl, ifF rfl ?_⟩)⟩)⟩
      refine seq_r (if_r (b_r (isi_c rfl (.str z) (kit_str _) ⟨_, rfl, ifT rfl ?_⟩)))
      refine ret_r (and_r (isi_c rfl (.str z) (kit_str _) ⟨_, rfl, ifT rfl ⟨_, rfl, _, rfl, rfl, ?_⟩⟩))
      rw [decide_eq_true rfl]
      exact q0
    | int z =>
      refine ifF rfl ?_
      cases hx; cases hy
      refine seq_r ⟨_, rfl, rfl, false, rfl, ifF rfl (seq_r ⟨_, rfl, rfl, false, rfl, ifF rfl (seq_r ⟨_, rfl, rfl, false, rfl, ifF rfl ?_⟩)⟩)⟩
      refine seq_r (if_r (b_r (isi_c rfl (.int z) (kit_str _) ⟨_, rfl, ifF rfl ?_⟩)))
      refine ret_r (and_r (isi_c rfl (.int z) (kit_int _) ⟨_, rfl, ifT rfl (and_r (notv_r (isi_c rfl (.int z) (kit_bool _) ⟨_, rfl, ?_⟩)))⟩))
      refine ⟨_, rfl, ifT rfl ⟨_, rfl, _, rfl, rfl, ?_⟩⟩
      rw [decide_eq_true rfl]
      exact q0
    | list _ => cases n <;> cases hdep
    | dict _ => cases n <;> cases hdep
theorem ok_law_is (T : Txt K mg A) : ∀ n, FnD anyA P w K mg base CX0 (n + 1) A.law_is ["told", "due"] (spIs K n)
  | 0 => law_is_step T 0 (never T.d_law_is)
  | n + 1 => law_is_step T (n + 1) (ok_law_is T n)
end
end SV
namespace SV
open PySem PySem.Spec PyProof.Rows L2 TL LamX NdefX
/-! ### k96: the law's own reading of words -/
section
variable {P : Program} {w : World} {K : PySem.W.Frag} {mg : Str → Option Value} {base : Heap} {A : Ad}
theorem ok_law_split (T : Txt K mg A) : FnD anyA P w K mg base CX0 1 A.law_split ["line"] spSplit := by
  refine T.d_law_split.ok0 sc_law_split (fun vs H Q E h => ?_) (fun cdv A' outer s H vs Q E hr h => ?_)
  · obtain ⟨l, rfl, _⟩ := h
    rfl
  · obtain ⟨l, rfl, hl, k⟩ := h
    have hb := big
    refine ⟨_, (pss_one (ps_ret (pe_lc (own := [("word", 1)]) rfl sc_law_split.nd (pi_list (pe_split (pv 0) pe_str)) (blkOk_by (own := [("word", 1)]) (N := ["line", "word"]) (sc := defScope s_law_split) (by decide +kernel)) (fun _ _ _ _ _ => (pg_name (i := 1) sc_law_split.nd rfl (.inl rfl))) (fun _ _ _ _ _ => (pts_one (pt_cmpR op_ne (pv 1) pe_str (nomark _)))) (fun _ _ _ _ _ => (pv 1))))), ?_⟩
    refine ⟨_, rfl, ⟨_, rfl⟩, S l, _, rfl, rfl, by decide +kernel, by rw [S_len]; omega, fun p hp => ?_⟩
    rw [e_sp, split_S (by decide)]
    refine ⟨p, rfl, ⟨_, .inl (.inl upd_same)⟩, fun D hD => ?_⟩
    have ne : D ≠ p := fun z => by rw [z, upd_same] at hD; cases hD
    refine lc_it (walk_list (xs := ((cut 32 l).map S).map V.str)) (fun i H' => H' = upd (upd H p (.lst (((cut 32 l).map S).map V.str))) D (.lst ((((cut 32 l).take i).filter fun w => decide (w ≠ [])).map wV))) (by simp) (fun i H' _ e => by rw [e]; exact .inl (.inl ((upd_ne (Ne.symm ne)).trans upd_same))) ?_ ?_
    · rintro i x _ _ hi rfl ⟨rfl, hx⟩
      obtain ⟨z, hz1, rfl⟩ := map_atG hx
      obtain ⟨z, hz, rfl⟩ := map_atG hz1
      refine ⟨rfl, ⟨_, rfl, rfl, _, rfl, ?_⟩⟩
      rw [e_em]
      have ed : (!decide (V.str (S z) = V.str (S []))) = decide (z ≠ []) := by
        by_cases q : z = []
        · simp [q]
        · have : ¬ V.str (S z) = V.str (S []) := fun e => q (S_inj (V.str.inj e))
          simp [q, this]
      rw [ed]
      have hsz : ((((cut 32 l).take i).filter fun w => decide (w ≠ [])).map wV).length < sizeLine := by
        have h1 := List.length_filter_le (fun w => decide (w ≠ [])) ((cut 32 l).take i)
        have h2 : (cut 32 l).length ≤ l.length + 1 := cut_len 32 l []
        rw [List.length_take] at h1
        rw [List.length_map]
        omega
      by_cases q : z = []
      · refine ifF (by simpa using q) ?_
        rw [take_more hz, List.filter_append]
        simp [q]
      · refine ifT (by simpa using q) ?_
        refine ⟨_, rfl, acc_step ?_ hsz⟩
        rw [take_more hz, List.filter_append]
        simp [q]
    · rintro H' rfl
      have el : (((cut 32 l).map S).map V.str).length = (cut 32 l).length := by simp
      rw [el, List.take_length]
      refine k D _ (by rw [upd_ne ne] at hD; exact hD) (fun b o e => ?_) upd_same
      rw [upd_ne, upd_ne]
      · exact e
      · intro z; rw [z, hp] at e; cases e
      · intro z
        rw [upd_ne ne] at hD
        rw [z, hD] at e
        cases e

theorem cut1 (l : List Nat) : cutS (S l) none (some 1) = S (l.take 1) := by
  unfold cutS
  have e : (S l).cps.toList = l := cs_S l
  rw [e, S_len, HT.sIx_none, show (1 : Int) = ((1 : Nat) : Int) from rfl, HT.sIx_nat]
  congr 1
  cases l with
  | nil => simp
  | cons a r => simp
theorem take45 (l : List Nat) : decide (V.str (S (l.take 1)) = V.str (S [45])) = decide (l.head? = some 45) := by
  rw [decide_eq_decide]
  cases l with
  | nil => simp [S]
  | cons a r => simp [S]
theorem shaped_strs : ∀ (cs : List Nat), (∀ c ∈ cs, c < 1114112) → PyData.canLayAll0 (cs.map fun c => PyData.str ⟨#[c]⟩) = true ∧ PyData.depthAll (cs.map fun c => PyData.str ⟨#[c]⟩) = 0
  | [], _ => ⟨rfl, rfl⟩
  | c :: r, h => by
    obtain ⟨h1, h2⟩ := shaped_strs r fun x hx => h x (by simp [hx])
    have hc := h c (by simp)
    refine ⟨?_, ?_⟩
    · show (PyData.canLay0 (PyData.str ⟨#[c]⟩) && PyData.canLayAll0 (r.map fun c => PyData.str ⟨#[c]⟩)) = true
      rw [h1, Bool.and_true]
      simp [PyData.canLay0, PyData.strOk, hc]
    · show max (PyData.depth (PyData.str ⟨#[c]⟩)) (PyData.depthAll (r.map fun c => PyData.str ⟨#[c]⟩)) = 0
      rw [h2]
      rfl
theorem dpAll_strs {H : Hp} : ∀ cs : List Nat, DpAll K H (cs.map fun c => V.str ⟨#[c]⟩) (cs.map fun c => PyData.str ⟨#[c]⟩)
  | [] => .nil
  | _ :: r => .cons (.str _) (dpAll_strs r)
theorem eqv_nil (ds : List PyData) : PyData.eqv (.list ds) (.list []) = ds.isEmpty := by
  cases ds <;> simp [PyData.eqv, PyData.eqvAll]
def spIsNum6 : Sp := fun vs H Q _ => ∃ l : List Nat, vs = [.str (S l)] ∧ l.length ≤ sizeLine ∧ (∀ c ∈ l, c < 1114112) ∧ ∀ H', Same H H' → Q (.bl (isNum l)) H'
theorem ok_law_is_number (T : Txt K mg A) : FnD anyA P w K mg base CX0 1 A.law_is_number ["word"] spIsNum6 := by
  refine T.d_law_is_number.ok0 sc_law_is_number (fun vs H Q E h => ?_) (fun cdv A' outer s H vs Q E hr h => ?_)
  · obtain ⟨l, rfl, _⟩ := h
    rfl
  · obtain ⟨l, rfl, hl, hch, k⟩ := h
    have hu : A'.units + 67 < cLine := by have := hr.un; simp only [Around.deeper] at this; omega
    refine ⟨_, (pss_cons (ps_set (i := 1) sc_law_is_number.nd rfl (.inl rfl) (pe_ifExp (pt_cmpR op_eq (pe_slice sl_str (pv 0) po_none (po_some pe_int)) pe_str (nomark _)) (pe_slice sl_str (pv 0) (po_some pe_int) po_none) (pv 0)))
      (pss_cons (ps_if (PW.pt (pw_or (pt_cmpR op_eq (pv 1) pe_str (nomark _)) (pw_or (pt_cmpR op_gt (pe_callB call_len_str (by rfl) T.n_len (by decide +kernel) (pa_cons (pv 1) pa_nil)) pe_int (nomark _)) (pw_or1 (pt_cmpR (op_neD hu) (pe_lc (own := [("sign", 2)]) rfl sc_law_is_number.nd (pi_str (pv 1)) (blkOk_by (own := [("sign", 2)]) (N := ["word", "digits", "sign"]) (sc := defScope s_law_is_number) (by decide +kernel)) (fun _ _ _ _ _ => (pg_name (i := 2) sc_law_is_number.nd rfl (.inl rfl))) (fun _ _ _ _ _ => (pts_one (pt_cmpR op_notIn_sign (pv 2) pe_str (by rfl)))) (fun _ _ _ _ _ => (pv 2))) (pe_lst pa_nil) (nomark _))))))
      (pss_one (ps_ret pe_bl))
      pss_nil)
      (pss_one (ps_ret (pe_ifExp (pt_cmpR op_eq (pe_ix ix_str (pv 1) pe_int (fun _ _ => rfl)) pe_str (nomark _)) (pe_cmpR op_eq (pv 0) pe_str (nomark _)) pe_bl))))), ?_⟩
    obtain ⟨b1, eb1⟩ := bx (decide (V.str (S (l.take 1)) = V.str (Str.ofString "-")))
    refine ⟨_, rfl, 1, rfl, S l, rfl, by rw [S_len]; exact hl, ?_⟩
    rw [cut1]
    refine ⟨rfl, b1, congrArg V.bl eb1, ?_⟩
    rw [e_minus, take45] at eb1
    refine join2 (H := H) (a := .str (S (l.drop 1))) (b := .str (S l)) (p := tSl _ _ _ _ _ _) (q := tVar _ _ _) (fun G g => ?_) (fun G g => ?_) ?_
    · refine ⟨_, rfl, 1, rfl, S l, rfl, by rw [S_len]; exact hl, ?_⟩
      rw [slice1]
      exact g
    · exact ⟨_, rfl, g⟩
    have ex : (if b1 = true then V.str (S (l.drop 1)) else .str (S l)) = V.str (S (dg l)) := by
      unfold dg
      rw [← eb1]
      by_cases h : l.head? = some 45 <;> simp [h]
    rw [ex]
    have hd : (dg l).length ≤ l.length := by
      unfold dg
      split
      · rw [List.length_drop]; omega
      · exact Nat.le_refl _
    have hdc : ∀ c ∈ dg l, c < 1114112 := fun c hc => hch c (by
      unfold dg at hc
      split at hc
      · exact List.mem_of_mem_drop hc
      · exact hc)
    have kF : isNum l = false → ∀ H', Same H H' → Q (.bl false) H' := fun e H' z => e ▸ k H' z
    have kT : isNum l = true → ∀ H', Same H H' → Q (.bl true) H' := fun e H' z => e ▸ k H' z
    -- the test
    obtain ⟨b2, eb2⟩ := bx (decide (V.str (S (dg l)) = V.str (Str.ofString "")))
    dsimp only [gName]
    refine seq_r (if_r (or_r ⟨_, rfl, rfl, b2, congrArg V.bl eb2, ?_⟩))
    have e0 : b2 = decide (dg l = []) := by
      rw [← eb2, e_em, decide_eq_decide]
      exact ⟨fun e => S_inj (V.str.inj e), fun e => by rw [e]⟩
    cases b2 with
    | true =>
      have : dg l = [] := by simpa using e0.symm
      exact ifT rfl (ifT rfl (kF (by unfold isNum; rw [this]; rfl) H fun _ _ e => e))
    | false =>
    have hne : dg l ≠ [] := by simpa using e0.symm
    have h1 : 1 ≤ (dg l).length := List.length_pos_iff.mpr hne
    obtain ⟨b3, eb3⟩ := bx (decide ((4 : Int) < ((S (dg l)).length : Nat)))
    refine ifF rfl (or_r ⟨_, rfl, S (dg l), rfl, by rw [S_len]; omega, _, _, rfl, rfl, b3, congrArg V.bl eb3, ?_⟩)
    rw [S_len] at eb3
    cases b3 with
    | true =>
      have : 4 < (dg l).length := by have := of_decide_eq_true eb3; omega
      exact ifT rfl (ifT rfl (kF (by unfold isNum; rw [decide_eq_false (show ¬ (dg l).length ≤ 4 by omega)]; simp) H fun _ _ e => e))
    | false =>
    have h2 : (dg l).length ≤ 4 := by have := of_decide_eq_false eb3; omega
    refine ifF rfl ⟨_, rfl, _, rfl, fun D hD => ?_⟩
    have e_dig : cs (Str.ofString "0123456789") = [48, 49, 50, 51, 52, 53, 54, 55, 56, 57] := e_digits
    have hs := sizeLine_eq
    refine lc_it walk_str (fun i H' => H' = upd H D (.lst ((((dg l).take i).filter fun c => !isDg c).map fun c => V.str ⟨#[c]⟩))) (by simp) (fun _ _ _ _ => trivial) ?_ ?_
    · rintro i x _ _ hi rfl ⟨rfl, c, hc, rfl⟩
      have hc' : (dg l)[i]? = some c := by simpa [S] using hc
      refine ⟨rfl, ⟨_, rfl, c, _, rfl, rfl, !isDg c, by rw [in_digits], ?_⟩⟩
      cases ec : isDg c with
      | true =>
        refine ifF rfl ?_
        rw [take_more hc', List.filter_append]
        simp [ec]
      | false =>
        refine ifT rfl ⟨_, rfl, acc_step ?_ ?_⟩
        · rw [take_more hc', List.filter_append]
          simp [ec]
        · have h3 := List.length_filter_le (fun c => !isDg c) ((dg l).take i)
          rw [List.length_take] at h3
          rw [List.length_map]
          omega
    · rintro H' rfl
      have en : (S (dg l)).cps.size = (dg l).length := S_len _
      rw [en, List.take_length]
      have hfl : ∀ c ∈ (dg l).filter (fun c => !isDg c), c < 1114112 := fun c hc => hdc c (List.mem_filter.mp hc).1
      obtain ⟨z1, z2⟩ := shaped_strs _ hfl
      have eall : (((dg l).filter fun c => !isDg c).map fun c => PyData.str ⟨#[c]⟩).isEmpty = (dg l).all isDg := by
        rw [Bool.eq_iff_iff, List.isEmpty_iff, List.map_eq_nil_iff, List.filter_eq_nil_iff, List.all_eq_true]
        simp
      refine ⟨by simp, fun p hp => ?_⟩
      have sD := same_upd (o := .lst (((dg l).filter fun c => !isDg c).map fun c => V.str ⟨#[c]⟩)) hD
      have sp := same_upd (o := .lst []) hp
      refine ⟨.list (((dg l).filter fun c => !isDg c).map fun c => PyData.str ⟨#[c]⟩), .list [], .lst (.inl (.inl (sp _ _ upd_same))) (dpAll_strs _), .lst (.inl (.inl upd_same)) .nil, ?_, rfl, !(dg l).all isDg, by rw [eqv_nil, eall], ?_⟩
      · show (PyData.canLayAll0 _ && decide (PyData.depthAll _ + 1 ≤ 64)) = true
        rw [z1, z2]
        rfl
      cases h3 : (dg l).all isDg with
      | false => exact ifT rfl (kF (by unfold isNum; rw [h3]; simp) _ (same_trans sD sp))
      | true =>
      refine ifF rfl ?_
      obtain ⟨c, r, ec⟩ : ∃ c r, dg l = c :: r := by
        cases e : dg l with
        | nil => exact (hne e).elim
        | cons c r => exact ⟨c, r, rfl⟩
      have en0 : isNum l = (if c = 48 then decide (l = [48]) else true) := by
        unfold isNum
        rw [decide_eq_true h1, decide_eq_true h2, h3, ec]
        simp only [Bool.and_self, Bool.true_and, List.head?_cons, Option.some.injEq]
      obtain ⟨b5, eb5⟩ := bx (decide (V.str ⟨#[c]⟩ = V.str (Str.ofString "0")))
      refine ⟨_, rfl, S (dg l), 0, c, rfl, rfl, by rw [S_len]; omega, by show atI (dg l) ((0 : Nat) : Int) = some c; rw [ec]; exact atI_nat (by rfl), rfl, b5, congrArg V.bl eb5, ?_⟩
      have e5 : b5 = decide (c = 48) := by rw [← eb5, e_zero]; simp [S]
      cases b5 with
      | true =>
        have h4 : c = 48 := by simpa using e5.symm
        refine ifT rfl ⟨_, rfl, rfl, ?_⟩
        have e1 : decide (V.str (S l) = V.str (Str.ofString "0")) = isNum l := by
          rw [en0, if_pos h4, e_zero]
          simp [S]
        rw [e1]
        exact k _ (same_trans sD sp)
      | false =>
        have h4 : c ≠ 48 := by simpa using e5.symm
        exact ifF rfl (kT (by rw [en0, if_neg h4]) _ (same_trans sD sp))
end
end SV
namespace SV
open PySem PySem.Spec PyProof.Rows L2 TL LamX NdefX
/-! ### k96: the law's own reading of lines -/
theorem asg_r {te : TE} {g : TG} {D : Ends} {σ : L2.St} {H : Hp} (h : te σ H fun x H1 => g x σ H1 D.nx) : tAsg te g D σ H := h
theorem cut_mem (c : Nat) (l acc : List Nat) : ∀ w ∈ spl [c] 0 acc l, ∀ x ∈ w, x ∈ acc ∨ x ∈ l := by
  induction l generalizing acc with
  | nil => intro w hw x hx; simp [spl] at hw; subst hw; exact .inl hx
  | cons a r ih =>
    intro w hw x hx
    unfold spl at hw
    split at hw
    · rcases List.mem_cons.mp hw with e | e
      · subst e; exact .inl hx
      · rcases ih [] w e x hx with z | z
        · cases z
        · exact .inr (List.mem_cons_of_mem _ z)
    · rcases ih (acc ++ [a]) w hw x hx with z | z
      · rcases List.mem_append.mp z with z | z
        · exact .inl z
        · exact .inr (by rw [List.mem_singleton.mp z]; simp)
      · exact .inr (List.mem_cons_of_mem _ z)
def CharOk (l : List Nat) : Prop := ∀ c ∈ l, c < 1114112
theorem words_ok {l : List Nat} (h : CharOk l) : ∀ w ∈ wordsL l, CharOk w := fun w hw c hc => by
  rcases cut_mem 32 l [] w (List.mem_filter.mp hw).1 c hc with z | z
  · cases z
  · exact h c z
theorem cut_ok {k : Nat} {l : List Nat} (h : CharOk l) : ∀ w ∈ cut k l, CharOk w := fun w hw c hc => by
  rcases cut_mem k l [] w hw c hc with z | z
  · cases z
  · exact h c z
theorem strOk_S {l : List Nat} (h : CharOk l) : PyData.strOk (S l) = true := by
  show (l.toArray.all (· < 0x110000)) = true
  rw [Array.all_eq_true]
  intro i hi
  have := h (l[i]'(by simpa using hi)) (List.getElem_mem _)
  simpa using this
theorem shaped_ws : ∀ (ws : List (List Nat)), (∀ w ∈ ws, CharOk w) → PyData.canLayAll0 (ws.map fun w => PyData.str (S w)) = true ∧ PyData.depthAll (ws.map fun w => PyData.str (S w)) = 0
  | [], _ => ⟨rfl, rfl⟩
  | c :: r, h => by
    obtain ⟨h1, h2⟩ := shaped_ws r fun x hx => h x (by simp [hx])
    have hc := strOk_S (h c (by simp))
    refine ⟨?_, ?_⟩
    · show (PyData.canLay0 (PyData.str (S c)) && PyData.canLayAll0 (r.map fun c => PyData.str (S c))) = true
      rw [h1, Bool.and_true]
      simpa [PyData.canLay0] using hc
    · show max (PyData.depth (PyData.str (S c))) (PyData.depthAll (r.map fun c => PyData.str (S c))) = 0
      rw [h2]
      rfl
theorem shaped_wl {ws : List (List Nat)} (h : ∀ w ∈ ws, CharOk w) : SeqAt.shaped (.list (ws.map fun w => PyData.str (S w))) = true := by
  obtain ⟨h1, h2⟩ := shaped_ws ws h
  show (PyData.canLayAll0 _ && decide (PyData.depthAll _ + 1 ≤ 64)) = true
  rw [h1, h2]
  rfl
section
variable {P : Program} {w : World} {K : PySem.W.Frag} {mg : Str → Option Value} {base : Heap} {A : Ad}
theorem dpAll_ws {H : Hp} : ∀ ws : List (List Nat), DpAll K H (ws.map wV) (ws.map fun w => PyData.str (S w))
  | [] => .nil
  | _ :: r => .cons (.str _) (dpAll_ws r)
def spTextLines : Sp := fun vs H Q _ => ∃ l : List Nat, vs = [.str (S l)] ∧ l.length ≤ 90000 ∧ CharOk l ∧ ∀ p xs H', Same H H' → H' p = some (.lst xs) → All2 (RowAt H') xs (rowsL l) → Q (.ref p) H'
theorem ok_law_text_lines (T : Txt K mg A) : FnD anyA P w K mg base CX0 3 A.law_text_lines ["text"] spTextLines := by
  refine T.d_law_text_lines.ok0 sc_law_text_lines (fun vs H Q E h => ?_) (fun cdv A' outer s H vs Q E hr h => ?_)
  · obtain ⟨l, rfl, _⟩ := h; rfl
  · obtain ⟨l, rfl, hl, hch, k⟩ := h
    have hb := big
    have hu : A'.units + 67 < cLine := by have := hr.un; simp only [Around.deeper] at this; omega
    refine ⟨_, (pss_cons (ps_set (i := 1) sc_law_text_lines.nd rfl (.inr rfl) (pe_split (pv 0) pe_str))
      (pss_one (ps_ret (pe_lc (own := [("at", 2)]) rfl sc_law_text_lines.nd (pi_range1 (by rfl) T.n_range (pa_cons (pe_callB call_len_seq (by rfl) T.n_len (by decide +kernel) (pa_cons (pv 1) pa_nil)) pa_nil)) (blkOk_by (own := [("at", 2)]) (N := ["text", "lines", "at"]) (sc := defScope s_law_text_lines) (by decide +kernel)) (fun _ _ _ _ _ => (pg_name (i := 2) sc_law_text_lines.nd rfl (.inl rfl))) (fun _ _ _ _ _ => (pts_one (pt_cmpR (r := rNeD K) (op_neD hu) (pe_callD pass00 (ok_law_split T) hr (by decide) rfl T.m_law_split (pa_cons (pe_ix (r := rIxL K) ix_list (pv 1) (pv 2) (fun _ _ => rfl)) pa_nil)) (pe_lst pa_nil) (nomark _)))) (fun _ _ _ _ _ => (pe_tup (pa_cons (pe_op op_add (pv 2) pe_int) (pa_cons (pe_callD pass00 (ok_law_split T) hr (by decide) rfl T.m_law_split (pa_cons (pe_ix (r := rIxL K) ix_list (pv 1) (pv 2) (fun _ _ => rfl)) pa_nil)) pa_nil)))))))), ?_⟩
    refine seq_r (asg_r ⟨_, rfl, ⟨_, rfl⟩, S l, _, rfl, rfl, by decide +kernel, by rw [S_len]; omega, fun p hp => ?_⟩)
    dsimp only [gName]
    rw [e_nl, split_S (by decide)]
    generalize eHl : upd H p (.lst (((cut 10 l).map S).map V.str)) = Hl
    have hHl : Hl p = some (.lst (((cut 10 l).map S).map V.str)) := by rw [← eHl]; exact upd_same
    have sHl : Same H Hl := by rw [← eHl]; exact same_upd hp
    have hcl : (cut 10 l).length ≤ l.length + 1 := cut_len 10 l []
    refine ⟨_, rfl, p, _, rfl, .inl (.inl (.inl hHl)), _, rfl, by simp only [List.length_map]; omega, by simp only [List.length_map]; omega, fun D hD => ?_⟩
    have en : (((((cut 10 l).map S).map V.str).length : Nat) : Int).toNat = (cut 10 l).length := by simp
    rw [en]
    refine lc_it (walk_range (lo := 0) (n := (cut 10 l).length)) (fun i H' => Same Hl (del H' D) ∧ ∃ acc, H' D = some (.lst acc) ∧ acc.length ≤ i ∧ All2 (RowAt (del H' D)) acc (((toldL l).take i).filter fun r => decide (r.2 ≠ []))) ⟨by rw [del_upd, del_none hD]; exact fun _ _ e => e, [], upd_same, Nat.le_refl _, .nil⟩ (fun _ _ _ _ => trivial) ?_ ?_
    · rintro i x H0 H' hi ⟨hs, acc, hacc, hle, hal⟩ ⟨rfl, rfl⟩
      have hz : (cut 10 l)[i]? = some (cut 10 l)[i] := by simp [hi]
      generalize (cut 10 l)[i] = z at hz
      have hzl : z.length ≤ 100000 := by
        have := cut_sum 10 l [] z (List.mem_of_getElem? hz)
        simp at this
        omega
      have hzc : CharOk z := cut_ok hch z (List.mem_of_getElem? hz)
      have e0 : (0 : Int) + (i : Nat) = ((i : Nat) : Int) := by omega
      have hix : atI (((cut 10 l).map S).map V.str) ((0 : Int) + (i : Nat)) = some (wV z) := by
        rw [e0]
        refine atI_nat ?_
        rw [List.getElem?_map, List.getElem?_map, hz]
        rfl
      have hp1 : H' p = some (.lst (((cut 10 l).map S).map V.str)) := same_del _ _ (hs _ _ hHl)
      refine ⟨rfl, ⟨_, rfl, _, rfl, p, _, _, _, rfl, rfl, .inl (.inl hp1), hix, z, rfl, hzl, fun q H2 hq sq hq2 => ⟨by simp, fun e he => ?_⟩⟩⟩
      have se := same_upd (o := .lst []) he
      obtain ⟨b, eb⟩ := bx (!(wordsL z).isEmpty)
      have eiv : (!PyData.eqv (.list ((wordsL z).map fun w => PyData.str (S w))) (.list [])) = b := by
        rw [eqv_nil, ← eb]
        cases wordsL z <;> rfl
      refine ⟨.list ((wordsL z).map fun w => PyData.str (S w)), .list [], .lst (.inl (.inl (se _ _ hq2))) (dpAll_ws _), .lst (.inl (.inl upd_same)) .nil, shaped_wl (words_ok hzc), rfl, b, congrArg V.bl eiv, ?_⟩
      have sH3 : Same H' (upd H2 e (.lst [])) := same_trans sq se
      have dD : upd H2 e (.lst []) D = some (.lst acc) := sH3 _ _ hacc
      have hs3 : Same Hl (del (upd H2 e (.lst [])) D) := same_trans hs (del_mono sH3)
      have hal3 := hal.mono fun _ _ r => r.same (del_mono (a := D) sH3)
      have ht := told_at hz
      generalize upd H2 e (.lst []) = H3 at dD hs3 hal3
      cases b with
      | false =>
        have ew : wordsL z = [] := by simpa using eb
        refine ifF rfl ⟨hs3, acc, dD, by omega, ?_⟩
        rw [take_more ht, List.filter_append]
        simpa [ew] using hal3
      | true =>
        have ew : wordsL z ≠ [] := by simpa using eb
        refine ifT rfl ⟨_, rfl, _, _, rfl, rfl, _, rfl, _, rfl, p, _, _, _, rfl, rfl, .inl (.inl (same_del _ _ (hs3 _ _ hHl))), hix, z, rfl, hzl, fun q2 H4 hq4 sq4 hq42 => ⟨by simp; omega, fun t ht2 => ?_⟩⟩
        have d4 : H4 D = some (.lst acc) := sq4 _ _ dD
        have nq : q2 ≠ D := (ne_of_none dD hq4).symm
        have nt : t ≠ D := (ne_of_none d4 ht2).symm
        have s4 : Same (del H3 D) (del (upd H4 t (.tup [.int ((0 : Int) + (i : Nat) + 1), .ref q2])) D) := same_trans (del_mono sq4) (del_new ht2 nt)
        refine ⟨acc, same_upd ht2 _ _ d4, by omega, ?_, acc ++ [.ref t], upd_same, by simp; omega, ?_⟩
        · rw [del_upd]; exact same_trans hs3 s4
        · rw [del_upd]
          have ef : [(i + 1, wordsL z)].filter (fun r => decide (r.2 ≠ [])) = [(i + 1, wordsL z)] := by simp [ew]
          rw [take_more ht, List.filter_append, ef]
          refine (hal3.mono fun _ _ r => r.same s4).snoc ⟨t, q2, rfl, ?_, ?_⟩
          · rw [del_ne nt, upd_same]
            have : (0 : Int) + (i : Nat) + 1 = (((i + 1 : Nat)) : Int) := by omega
            rw [this]
          · rw [del_ne nq]
            exact same_upd ht2 _ _ hq42
    · rintro H' ⟨hs, acc, hacc, hle, hal⟩
      have el : (cut 10 l).length = (toldL l).length := (told_len l).symm
      rw [el, List.take_length] at hal
      exact k D acc H' (same_trans sHl (same_trans hs same_del)) hacc (hal.mono fun _ _ r => r.same same_del)
end
end SV
namespace SV
open PySem PySem.Spec PyProof.Rows L2 TL LamX NdefX
/-! ### k96: what a call's exception tells -/
section
variable {X : Cx} {CX : CXT} {i j k : Nat} {x : Str} {Y : Hp → Addr → LF → Sp → Prop} {E : L2.St → XK} {p pos : Pos}
/-- f(), f the name at slot i, within a try -/
def tCallVS (i : Nat) (Y : Hp → Addr → LF → Sp → Prop) (E : L2.St → XK) : TE := fun σ H Q => ∃ f F sp, σ[i]? = some (some (.ref f)) ∧ Y H f F sp ∧ H f = some (LamO f F) ∧ H F.c = some (CodeO F.c F.qual) ∧ sp [] H Q (E σ)
theorem pe_callvS (L : ∀ H f F sp, Y H f F sp → ∃ n, LOk X.prog X.w X.K X.mg X.base CX k f F n sp) (hr : Room j X.A) (hk : k ≤ j) (hx : ∀ σ, PassesAt CX X σ (E σ)) (hN : X.N[i]? = some x) (hv : Vis X.env.scope x)
    (hd : (x == ("__debug__" : Str)) = false := by decide) (hcd : (x == ("__classdict__" : Str)) = false := by decide) : PE X (.Call (.Name x p) [] [] pos) (tCallVS i Y E) := by
  refine ⟨fun pins s σ H Q I hh => ?_⟩
  obtain ⟨f, F, sp, hs, hY, hf, hc, q⟩ := hh
  refine wpAny_Call_Name_kw (thn ((pe_var (pos := p) hN hv hd hcd).run pins s σ H (fun v H1 => v = .ref f ∧ H1 = H) I ⟨.ref f, hs, rfl, rfl⟩) fun u s1 ⟨v, H1, I1, r1, q1⟩ => ?_)
  obtain ⟨rfl, rfl⟩ := q1
  obtain rfl : u = Value.ref f := r1
  refine PySem.W.callWith_F0 (first := []) (lam_isFn I1 hf) ?_
  show wpAny _ _ (call (.ref f) []) _ _ _
  obtain ⟨n, L1⟩ := L _ _ _ _ hY
  refine wpAny_call (codeAny_mono (L1.run X.A X.stack s1 H1 [] [] Q (E σ) (hr.mono hk) I1.env0 hf hc .nil q) fun r s' hq => ?_)
  cases r with
  | error er => exact hx σ pins H1 s1 er s' I1 hq
  | ok fl =>
    cases fl with
    | ret u => exact I1.after hq
    | next => exact False.elim hq
    | brk => exact False.elim hq
    | cont => exact False.elim hq
end
theorem pe_bmK {X : Cx} {K : PySem.W.Frag} {o e : Expr} {es : List Expr} {to : TE} {t : TA} {name : Str} {apos cpos : Pos} {T id : String} {r : V → List V → Hp → VK → Prop} (ek : X.K = K) (pa : PlainAttrs T) (slot : Slot T name id) (hty : typeOf (.builtin id) = pure (.type "method_descriptor")) (hm : MtR X id r) (ho : PE X o to) (ha : PA X (e :: es) t)
    (hbase : attributeBase o name X.env (eval o X.env) = eval o X.env := by rfl)
    (hfew : ((backTo cpos (starEach (e :: es) X.env)).all (fun x => !x.1) && (backToKw cpos (keywordEach [] X.env)).all (fun x => x.1.isSome)
      && decide ((e :: es).length + ([] : List Keyword).length + (if ([] : List Keyword).isEmpty then 0 else 1) < 30)) = true := by rfl)
    (hline : (apos.endLine == cpos.line) = true := by rfl) (hs : starEach (e :: es) X.env = (false, eval e X.env) :: starEach es X.env := by rfl) (hplain : (backTo cpos (starEach es X.env)).any (·.1) = false := by rfl) :
    PE X (.Call (.Attribute o name apos) (e :: es) [] cpos) (tBM K T r to t) := by
  subst ek
  exact pe_bm pa slot hty hm ho ha hbase hfew hline hs hplain
theorem pss_never {X : Cx} {b : List Stmt} : PSs X b (fun _ _ _ => False) := ⟨fun _ _ _ _ _ _ h => h.elim⟩
structure TxtX (K : PySem.W.Frag) (mg : Str → Option Value) (A : Ad) (cls : Addr) : Prop where
  x : XfC K cls
  c : ExcC K cls
  v : PySem.W.exmOne K (.ref cls) (.ref A.VE) = some true
structure TxtN (K : PySem.W.Frag) (mg : Str → Option Value) (A : Ad) : Prop where
  NU : mg "NothingToUndo" = some (.ref A.NU)
  NR : mg "NothingToRedo" = some (.ref A.NR)
  BN : mg "BadName" = some (.ref A.BN)
  TN : mg "TakenName" = some (.ref A.TN)
  BNu : mg "BadNumber" = some (.ref A.BNu)
  UL : mg "Unlike" = some (.ref A.UL)
  TM : mg "TooMany" = some (.ref A.TM)
/-- .. their answers for BadText -/
structure Kits (K : PySem.W.Frag) (A : Ad) : Prop where
  NU : PySem.W.kitOne K (.ref A.BT) (.ref A.NU) = some false
  NR : PySem.W.kitOne K (.ref A.BT) (.ref A.NR) = some false
  BN : PySem.W.kitOne K (.ref A.BT) (.ref A.BN) = some false
  TN : PySem.W.kitOne K (.ref A.BT) (.ref A.TN) = some false
  BT : PySem.W.kitOne K (.ref A.BT) (.ref A.BT) = some true
  BR : PySem.W.kitOne K (.ref A.BT) (.ref A.BR) = some false
  BNu : PySem.W.kitOne K (.ref A.BT) (.ref A.BNu) = some false
  UL : PySem.W.kitOne K (.ref A.BT) (.ref A.UL) = some false
  TM : PySem.W.kitOne K (.ref A.BT) (.ref A.TM) = some false
section
variable {P : Program} {w : World} {K : PySem.W.Frag} {mg : Str → Option Value} {base : Heap} {A : Ad}
def spCaught (P : Program) (w : World) (K : PySem.W.Frag) (mg : Str → Option Value) (base : Heap) (kk : Nat) (A : Ad) : Sp := fun vs H Q _ => ∃ f F sp, ∃ o : Option (Int × Int), vs = [.ref f] ∧ H f = some (LamO f F) ∧ H F.c = some (CodeO F.c F.qual) ∧ LOk P w K mg base (L2.CX P w) kk f F 0 sp ∧
  (∀ R E', (o = none → ∀ v H', Kp (TbA A) [] H H' → R v H') → (∀ n k, o = some (n, k) → ∀ dd H', Kp (TbA A) [] H H' → H' dd = some (.xd [("word", .int k), ("line", .int n)]) → E' (.ref A.BT) (some dd) H') → sp [] H R E') ∧
  (o = none → ∀ t H', Kp (TbA A) [] H H' → H' t = some (.tup [.str "none"]) → Q (.ref t) H') ∧ (∀ n k, o = some (n, k) → ∀ t H', Kp (TbA A) [] H H' → H' t = some (.tup [.str "text", .int n, .int k]) → Q (.ref t) H')
theorem no_if {σ : L2.St} {H : Hp} {D : Ends} {i : Nat} {a cls Dc : Addr} {d : Option Addr} {b : TS} {dd : Addr} {fs : List (Str × V)} (h2 : σ[i]? = some (some (.ref a))) (hk : PySem.W.kitOne K (.ref cls) (.ref Dc) = some false) (ed : d = some dd) (hd : H dd = some (.xd fs)) (q : D.nx σ H) :
    tIfS (tB (tCB (rIsX K cls a d) (tCons (tVar i) (tCons (tC (.ref Dc)) tNil)))) b tNext D σ H :=
  ⟨_, h2, .ref Dc, .ref Dc, false, dd, fs, rfl, fun u r => r, hk, ed, hd, _, rfl, ifF rfl q⟩
def suiteOf : Stmt → List Stmt
  | .Try _ [.ExceptHandler _ _ b _] _ _ _ => b
  | _ => []
abbrev suT : List Stmt := suiteOf ((defBody s_law_caught).getD 0 (.Pass ⟨0, 0, 0, 0⟩))
open Classical in
theorem ok_law_caught (T : Txt K mg A) (TN : TxtN K mg A) (TX : TxtX K mg A A.BT) (KT : Kits K A) : FnD anyA P w K mg base (L2.CX P w) 24 A.law_caught ["action"] (spCaught P w K mg base 22 A) := by
  refine T.d_law_caught.okX sc_law_caught (fun vs H Q E h => ?_) (fun cdv A' outer s H vs Q E hA hr h => ?_)
  · obtain ⟨f, F, sp, o, rfl, _⟩ := h; rfl
  · obtain ⟨f, F, sp, o, rfl, hf, hc, hl, hsp, q1, q2⟩ := h
    have hb := big
    have SU : ∀ (a : Addr) (d : Option Addr), ∃ t : TS, (∀ (oe : Obj) (pn : List (Addr × Obj)), Zc (.ref A.BT) d oe → (∃ vs, oe.data = .fields vs) → PSs ((cxOf (L2.CX P w) P w K mg base ["action", "e", "found"] "_law_caught" (defScope s_law_caught) A.law_caught cdv A' outer s H E).suite a ((a, oe) :: pn)) suT t) ∧
        ∀ (D : Ends) (H1 : Hp) (x0 x2 : Option V) (dd : Addr) (n k : Int), d = some dd → H1 dd = some (.xd [("word", .int k), ("line", .int n)]) →
          (∀ t' H2, Same H1 H2 → H2 t' = some (.tup [.str "text", .int n, .int k]) → D.rt (.ref t') H2) → t D [x0, some (.ref a), x2] H1 := fun a d => by
      have cL : ∀ (oe : Obj) (pn : List (Addr × Obj)), CallR ((cxOf (L2.CX P w) P w K mg base ["action", "e", "found"] "_law_caught" (defScope s_law_caught) A.law_caught cdv A' outer s H E).suite a ((a, oe) :: pn)) (.builtin "len") (fun xs H Q => ∃ p ys, xs = [.ref p] ∧ (SqL K H p ys ∨ SqT K H p ys) ∧ Q (.int ys.length) H) := fun oe pn => call_len_seq
      refine ⟨_, fun oe pn hz hfl => (pss_cons (ps_set (i := 2) sc_law_caught.nd rfl (.inl rfl) (pe_lst pa_nil))
      (pss_cons (ps_if (pt_val (pe_callB (call_isX TX.c hz hfl) (by rfl) T.n_isinstance (by decide +kernel) (pa_cons (pv 1) (pa_cons (pe_glob (v := .ref A.BN) rfl TN.BN rfl) pa_nil)))) pss_never pss_nil)
      (pss_cons (ps_if (pt_val (pe_callB (call_isX TX.c hz hfl) (by rfl) T.n_isinstance (by decide +kernel) (pa_cons (pv 1) (pa_cons (pe_glob (v := .ref A.BNu) rfl TN.BNu rfl) pa_nil)))) pss_never pss_nil)
      (pss_cons (ps_if (pt_val (pe_callB (call_isX TX.c hz hfl) (by rfl) T.n_isinstance (by decide +kernel) (pa_cons (pv 1) (pa_cons (pe_glob (v := .ref A.BR) rfl T.m_BR rfl) pa_nil)))) pss_never pss_nil)
      (pss_cons (ps_if (pt_val (pe_callB (call_isX TX.c hz hfl) (by rfl) T.n_isinstance (by decide +kernel) (pa_cons (pv 1) (pa_cons (pe_glob (v := .ref A.TN) rfl TN.TN rfl) pa_nil)))) pss_never pss_nil)
      (pss_cons (ps_if (pt_val (pe_callB (call_isX TX.c hz hfl) (by rfl) T.n_isinstance (by decide +kernel) (pa_cons (pv 1) (pa_cons (pe_glob (v := .ref A.TM) rfl TN.TM rfl) pa_nil)))) pss_never pss_nil)
      (pss_cons (ps_if (pt_val (pe_callB (call_isX TX.c hz hfl) (by rfl) T.n_isinstance (by decide +kernel) (pa_cons (pv 1) (pa_cons (pe_glob (v := .ref A.UL) rfl TN.UL rfl) pa_nil)))) pss_never pss_nil)
      (pss_cons (ps_if (pt_val (pe_callB (call_isX TX.c hz hfl) (by rfl) T.n_isinstance (by decide +kernel) (pa_cons (pv 1) (pa_cons (pe_glob (v := .ref A.BT) rfl T.m_BT rfl) pa_nil)))) (pss_one (ps_expr (pe_bmK (K := K) rfl PySem.F.plainAttrs_list PySem.F.slot_list_append PySem.F.type_list_append mt_append (pv 2) (pa_cons (pe_tup (pa_cons pe_str (pa_cons (pe_xf TX.x T.f_BT1 hz hfl (pv 1)) (pa_cons (pe_xf TX.x T.f_BT2 hz hfl (pv 1)) pa_nil)))) pa_nil)))) pss_nil)
      (pss_cons (ps_if (pt_val (pe_callB (call_isX TX.c hz hfl) (by rfl) T.n_isinstance (by decide +kernel) (pa_cons (pv 1) (pa_cons (pe_glob (v := .ref A.NU) rfl TN.NU rfl) pa_nil)))) pss_never pss_nil)
      (pss_cons (ps_if (pt_val (pe_callB (call_isX TX.c hz hfl) (by rfl) T.n_isinstance (by decide +kernel) (pa_cons (pv 1) (pa_cons (pe_glob (v := .ref A.NR) rfl TN.NR rfl) pa_nil)))) pss_never pss_nil)
      (pss_one (ps_ret (pe_ifExp (pt_cmpR op_eq (pe_callB (cL oe pn) (by rfl) T.n_len (by decide +kernel) (pa_cons (pv 2) pa_nil)) pe_int (nomark _)) (pe_ix (r := rIxL K) ix_list (pv 2) pe_int (fun _ _ => rfl)) (pe_tup (pa_cons pe_str pa_nil))))))))))))))), ?_⟩
      intro D H1 x0 x2 dd n k ed hdd fin
      refine seq_r (asg_r ⟨by simp, fun q hq => ?_⟩)
      dsimp only [gName]
      have hdd0 := same_upd (o := .lst []) hq _ _ hdd
      refine seq_r (no_if rfl KT.BN ed hdd0 ?_)
      dsimp only
      refine seq_r (no_if rfl KT.BNu ed hdd0 ?_)
      dsimp only
      refine seq_r (no_if rfl KT.BR ed hdd0 ?_)
      dsimp only
      refine seq_r (no_if rfl KT.TN ed hdd0 ?_)
      dsimp only
      refine seq_r (no_if rfl KT.TM ed hdd0 ?_)
      dsimp only
      refine seq_r (no_if rfl KT.UL ed hdd0 ?_)
      dsimp only
      have hq0 : upd H1 q (.lst []) q = some (.lst []) := upd_same
      refine seq_r ⟨_, rfl, .ref A.BT, .ref A.BT, true, dd, _, rfl, fun u r => r, KT.BT, ed, hdd0, _, rfl, ifT rfl ?_⟩
      refine ⟨_, rfl, .inl ⟨rfl, _, .inl (.inl hq0)⟩, _, rfl, rfl, rfl, dd, _, .int n, ed, hdd0, rfl, _, rfl, rfl, rfl, dd, _, .int k, ed, hdd0, rfl, by simp; omega, fun t' ht' => ?_⟩
      have hq2 := same_upd (o := .tup [.str "text", .int n, .int k]) ht' _ _ hq0
      refine ⟨q, [], _, rfl, rfl, hq2, by simp; omega, ?_⟩
      have nd : dd ≠ q := fun z => by rw [← z, hdd] at hq; cases hq
      have nt : t' ≠ q := fun z => by rw [z, hq0] at ht'; cases ht'
      have hdd2 : upd (upd (upd H1 q (.lst [])) t' (.tup [.str "text", .int n, .int k])) q (.lst ([] ++ [.ref t'])) dd = some (.xd [("word", .int k), ("line", .int n)]) := (upd_ne nd).trans (same_upd ht' _ _ hdd0)
      have sF : Same H1 (upd (upd (upd H1 q (.lst [])) t' (.tup [.str "text", .int n, .int k])) q (.lst ([] ++ [.ref t']))) := fun b o e => (upd_ne (ne_of_none e hq)).trans (same_upd ht' _ _ (same_upd hq _ _ e))
      dsimp only
      refine seq_r (no_if rfl KT.NU ed hdd2 ?_)
      dsimp only
      refine seq_r (no_if rfl KT.NR ed hdd2 ?_)
      dsimp only
      refine ⟨_, rfl, q, _, rfl, .inl (.inl (.inl upd_same)), rfl, true, rfl, ifT rfl ⟨_, rfl, q, _, 0, .ref t', rfl, rfl, .inl (.inl upd_same), rfl, ?_⟩⟩
      exact fin t' _ sF ((upd_ne nt).trans upd_same)
    refine ⟨_, (pss_cons (ps_try_as (i := 1) (c := .ref A.VE) (ts := fun a cls d => if cls = .ref A.BT then (SU a d).choose else fun _ _ _ => False) rfl rfl sc_law_caught.nd rfl rfl ⟨rfl, by decide, .inl T.m_VE⟩ takeE
        (fun W pn xe tk po => pss_one (ps_expr (pe_callvS (i := 0) (Y := fun _ f F sp => LOk P w K mg base (L2.CX P w) 22 f F 0 sp) (fun _ _ _ _ h => ⟨0, h⟩) hr (by decide) (fun σ => passAt tk σ) rfl (.inl rfl))))
        (fun a oe cls d pn hz hfl => by
          by_cases e : cls = .ref A.BT
          · subst e
            rw [if_pos rfl]
            exact (SU a d).choose_spec.1 oe pn hz hfl
          · rw [if_neg e]
            exact pss_never))
      (pss_one (ps_ret (pe_tup (pa_cons pe_str pa_nil))))), ?_⟩
    refine seq_r ⟨f, F, sp, rfl, hl, hf, hc, hsp _ _ (fun eo v H1 k1 => ?_) fun n k eo dd H1 k1 hdd => ⟨true, TX.v, fun _ a ha => ?_, fun z => by cases z⟩⟩
    · refine ⟨by simp; omega, fun t ht => q1 eo t _ (k1.trans (Kp.new ht)) upd_same⟩
    · show (if Value.ref A.BT = Value.ref A.BT then (SU a (some dd)).choose else fun _ _ _ => False) _ [some (V.ref f), some (.ref a), none] _
      rw [if_pos rfl]
      exact (SU a (some dd)).choose_spec.2 _ _ _ _ dd n k rfl hdd fun t' H2 s2 ht' => q2 n k eo t' H2 (k1.trans (Kp.same s2)) ht'
end
end SV
namespace SV
open PySem PySem.Spec PyProof.Rows L2 TL LamX NdefX
/-! ### k96: the law's own reading of a piece -/
section
variable {P : Program} {w : World} {K : PySem.W.Frag} {mg : Str → Option Value} {base : Heap} {A : Ad}
/-- what the law's reading gives for l -/
def OutAt (H : Hp) (v : V) (o : Except (Int × Int) (List (Int × Int))) : Prop := match o with
  | .error e => ∃ t d, v = .ref t ∧ H t = some (.tup [.ref d, .non]) ∧ H d = some (.tup [.str "text", .int e.1, .int e.2])
  | .ok ps => ∃ t p, v = .ref t ∧ H t = some (.tup [.non, p]) ∧ PsAt H p ps
def spReadP : Sp := fun vs H Q _ => ∃ l : List Nat, vs = [.str (S l)] ∧ l.length ≤ 80000 ∧ CharOk l ∧ ∀ v H', Same H H' → OutAt H' v (pieceOut l) → Q v H'
def rowD (r : Nat × List (List Nat)) : PyData := .tuple [.int r.1, .list (r.2.map fun w => PyData.str (S w))]
theorem dp_row {H : Hp} {v : V} {r : Nat × List (List Nat)} (h : RowAt H v r) : Dp K H v (rowD r) := by
  obtain ⟨t, p, rfl, h1, h2⟩ := h
  exact .tup (.inl (.inl h1)) (.cons (.int _) (.cons (.lst (.inl (.inl h2)) (dpAll_ws _)) .nil))
theorem dp_rows {H : Hp} : ∀ {xs : List V} {rs : List (Nat × List (List Nat))}, All2 (RowAt H) xs rs → DpAll K H xs (rs.map rowD)
  | _, _, .nil => .nil
  | _, _, .cons h t => .cons (dp_row h) (dp_rows t)
theorem shaped_rows : ∀ (rs : List (Nat × List (List Nat))), (∀ r ∈ rs, ∀ w ∈ r.2, CharOk w) → PyData.canLayAll0 (rs.map rowD) = true ∧ PyData.depthAll (rs.map rowD) ≤ 2
  | [], _ => ⟨rfl, Nat.zero_le _⟩
  | r :: rs, h => by
    obtain ⟨h1, h2⟩ := shaped_rows rs fun x hx => h x (by simp [hx])
    obtain ⟨z1, z2⟩ := shaped_ws r.2 (h r (by simp))
    refine ⟨?_, ?_⟩
    · show (PyData.canLay0 (rowD r) && PyData.canLayAll0 (rs.map rowD)) = true
      rw [h1, Bool.and_true]
      unfold rowD
      simp [PyData.canLay0, PyData.canLayAll0, z1]
    · show max (PyData.depth (rowD r)) (PyData.depthAll (rs.map rowD)) ≤ 2
      have : PyData.depth (rowD r) ≤ 2 := by
        unfold rowD
        simp [PyData.depth, PyData.depthAll, z2]
      omega
theorem rows_chars {l : List Nat} (h : CharOk l) : ∀ r ∈ rowsL l, ∀ w ∈ r.2, CharOk w := fun r hr w hw => by
  unfold rowsL at hr
  have h1 := (List.mem_filter.mp hr).1
  unfold toldL at h1
  obtain ⟨i, hi⟩ := List.getElem?_of_mem h1
  rw [List.getElem?_mapIdx] at hi
  cases e : (cut 10 l)[i]? with
  | none => rw [e] at hi; cases hi
  | some z =>
    rw [e] at hi
    cases hi
    exact words_ok (cut_ok h z (List.mem_of_getElem? e)) w hw
theorem shaped_rl {l : List Nat} (h : CharOk l) : SeqAt.shaped (.list ((rowsL l).map rowD)) = true := by
  obtain ⟨h1, h2⟩ := shaped_rows (rowsL l) (rows_chars h)
  show (PyData.canLayAll0 _ && decide (PyData.depthAll _ + 1 ≤ 64)) = true
  rw [h1, decide_eq_true (by omega)]
  rfl
theorem rd_bad {word : List Nat} {m : Option Nat} {ws : List (List Nat)} {j : Nat} (h0 : ws[0]? = some word) (hj : j < needN m ws) (hg : ∀ t, t < j → goodB ws t = true) (hb : goodB ws j = false) : rdOut word m ws = .error (j + 2) := by
  unfold rdOut
  rw [if_pos h0]
  have : (List.range (needN m ws)).find? (fun j => !goodB ws j) = some j := by
    rw [List.find?_range_eq_some]
    refine ⟨by simp [hb], List.mem_range.mpr hj, fun i hi => ?_⟩
    simp [hg i hi]
  rw [this]
theorem rd_all {word : List Nat} {m : Option Nat} {ws : List (List Nat)} (h0 : ws[0]? = some word) (hg : ∀ t, t < needN m ws → goodB ws t = true) : rdOut word m ws = if ws.length = needN m ws + 1 then .ok ((ws.drop 1).map numV) else .error (needN m ws + 2) := by
  unfold rdOut
  rw [if_pos h0]
  have : (List.range (needN m ws)).find? (fun j => !goodB ws j) = none := by
    rw [List.find?_eq_none]
    intro i hi
    simp [hg i (List.mem_range.mp hi)]
  rw [this]
def wrdL (i : Nat) : List Nat := if i = 0 then wMel else wVoi
theorem cut_from1 (xs : List V) : cutV xs (some 1) none = xs.drop 1 := by
  unfold cutV
  rw [HT.sIx_none, show (1 : Int) = ((1 : Nat) : Int) from rfl, HT.sIx_nat]
  cases xs with
  | nil => rfl
  | cons a r =>
    have e1 : min 1 (a :: r).length = 1 := by simp
    rw [e1]
    exact List.take_of_length_le (by simp)
theorem fin_err {l : List Nat} {H H3 : Hp} {Q : VK} {n kk : Int} (k : ∀ v H', Same H H' → OutAt H' v (pieceOut l) → Q v H') (s : Same H H3) (eo : pieceOut l = .error (n, kk)) :
    ([.str "text", .int n, .int kk] : List V).length ≤ sizeLine ∧ ∀ d, H3 d = none → (([.ref d, .non] : List V).length ≤ sizeLine ∧ ∀ t, (upd H3 d (.tup [.str "text", .int n, .int kk])) t = none → Q (.ref t) (upd (upd H3 d (.tup [.str "text", .int n, .int kk])) t (.tup [.ref d, .non]))) := by
  have hb := big
  refine ⟨by simp; omega, fun d hd => ⟨by simp; omega, fun t ht => k _ _ (same_trans s (same_trans (same_upd hd) (same_upd ht))) ?_⟩⟩
  rw [eo]
  exact ⟨t, d, rfl, upd_same, same_upd ht _ _ upd_same⟩
theorem ok_law_read_piece (T : Txt K mg A) : FnD anyA P w K mg base CX0 5 A.law_read_piece ["text"] spReadP := by
  refine T.d_law_read_piece.ok0 sc_law_read_piece (fun vs H Q E h => ?_) (fun cdv A' outer s H vs Q E hr h => ?_)
  · obtain ⟨l, rfl, _⟩ := h; rfl
  · obtain ⟨l, rfl, hl, hch, k⟩ := h
    have hb := big
    have hu : A'.units + 67 < cLine := by have := hr.un; simp only [Around.deeper] at this; omega
    refine ⟨_, (pss_cons (ps_asg (pe_tup (pa_cons (pe_callD pass00 (ok_law_text_lines T) hr (by decide) rfl T.m_law_text_lines (pa_cons (pv 0) pa_nil)) (pa_cons (pe_lst pa_nil) pa_nil))) (pg_tup (by rfl) (pgs_cons (pg_name (i := 1) sc_law_read_piece.nd rfl (.inl rfl)) (pgs_cons (pg_name (i := 2) sc_law_read_piece.nd rfl (.inr rfl)) pgs_nil))))
(pss_cons (ps_for PassesOwn.never rfl (pi_range1 (by rfl) T.n_range (pa_cons pe_int pa_nil)) (pg_name (i := 3) sc_law_read_piece.nd rfl (.inl rfl))
(pss_cons (ps_if (pt_cmpR op_ge (pv 3) (pe_callB call_len_seq (by rfl) T.n_len (by decide +kernel) (pa_cons (pv 1) pa_nil)) (nomark _))
(pss_one (ps_ret (pe_tup (pa_cons (pe_tup (pa_cons pe_str (pa_cons (pe_ifExp (pt_cmpR (op_neD hu) (pv 1) (pe_lst pa_nil) (nomark _)) (pe_op op_add (pe_ix ix_tup (pe_ix ix_list (pv 1) (pe_un un_neg pe_int) (fun _ _ => rfl)) pe_int (fun _ _ => rfl)) pe_int) pe_int) (pa_cons pe_int pa_nil)))) (pa_cons pe_non pa_nil)))))
pss_nil)
(pss_cons (ps_asg (pe_ix ix_list (pv 1) (pv 3) (fun _ _ => rfl)) (pg_tup (by rfl) (pgs_cons (pg_name (i := 4) sc_law_read_piece.nd rfl (.inl rfl)) (pgs_cons (pg_name (i := 5) sc_law_read_piece.nd rfl (.inl rfl)) pgs_nil))))
(pss_cons (ps_if (pt_cmpR op_ne (pe_ix ix_list (pv 5) pe_int (fun _ _ => rfl)) (pe_ix ix_list (pe_lst (pa_cons pe_str (pa_cons pe_str pa_nil))) (pv 3) (fun _ _ => rfl)) (nomark _))
(pss_one (ps_ret (pe_tup (pa_cons (pe_tup (pa_cons pe_str (pa_cons (pv 4) (pa_cons pe_int pa_nil)))) (pa_cons pe_non pa_nil)))))
pss_nil)
(pss_cons (ps_set (i := 6) sc_law_read_piece.nd rfl (.inl rfl) (pe_ifExp (pt_cmpR op_eq (pv 3) pe_int (nomark _)) (pe_op op_sub (pe_callB call_len_seq (by rfl) T.n_len (by decide +kernel) (pa_cons (pv 5) pa_nil)) pe_int) (pe_callB call_len_seq (by rfl) T.n_len (by decide +kernel) (pa_cons (pe_ix ix_list (pv 2) pe_int (fun _ _ => rfl)) pa_nil))))
(pss_cons (ps_for PassesOwn.never rfl (pi_range2 (by rfl) T.n_range (pa_cons pe_int (pa_cons (pe_op op_add (pe_callB (call_max2 rfl) (by rfl) T.n_max (by decide +kernel) (pa_cons (pv 6) (pa_cons pe_int pa_nil))) pe_int) pa_nil))) (pg_name (i := 7) sc_law_read_piece.nd rfl (.inl rfl))
(pss_one (ps_if (PW.pt (pw_or (pt_cmpR op_ge (pv 7) (pe_callB call_len_seq (by rfl) T.n_len (by decide +kernel) (pa_cons (pv 5) pa_nil)) (nomark _)) (pw_or1 (pt_not (pt_val (pe_callD pass00 (ok_law_is_number T) hr (by decide) rfl T.m_law_is_number (pa_cons (pe_ix ix_list (pv 5) (pv 7) (fun _ _ => rfl)) pa_nil)))))))
(pss_one (ps_ret (pe_tup (pa_cons (pe_tup (pa_cons pe_str (pa_cons (pv 4) (pa_cons (pe_op op_add (pv 7) pe_int) pa_nil)))) (pa_cons pe_non pa_nil)))))
pss_nil)))
(pss_cons (ps_if (pt_cmpR op_gt (pe_callB call_len_seq (by rfl) T.n_len (by decide +kernel) (pa_cons (pv 5) pa_nil)) (pe_op op_add (pe_callB (call_max2 rfl) (by rfl) T.n_max (by decide +kernel) (pa_cons (pv 6) (pa_cons pe_int pa_nil))) pe_int) (nomark _))
(pss_one (ps_ret (pe_tup (pa_cons (pe_tup (pa_cons pe_str (pa_cons (pv 4) (pa_cons (pe_op op_add (pe_callB (call_max2 rfl) (by rfl) T.n_max (by decide +kernel) (pa_cons (pv 6) (pa_cons pe_int pa_nil))) pe_int) pa_nil)))) (pa_cons pe_non pa_nil)))))
pss_nil)
(pss_one (ps_expr (pe_bm PySem.F.plainAttrs_list PySem.F.slot_list_append PySem.F.type_list_append mt_append (pv 2) (pa_cons (pe_lc (own := [("word", 8)]) rfl sc_law_read_piece.nd (pi_list (pe_slice sl_list (pv 5) (po_some pe_int) po_none)) (blkOk_by (own := [("word", 8)]) (N := ["text", "lines", "rows", "at", "number", "words", "many", "place", "word"]) (sc := defScope s_law_read_piece) (by decide +kernel)) (fun _ _ _ _ _ => (pg_name (i := 8) sc_law_read_piece.nd rfl (.inl rfl))) (fun _ _ _ _ _ => pts_nil) (fun _ _ _ _ _ => (pe_callTy call_int_str (by rfl) T.n_int (by decide +kernel) (pa_cons (pv 8) pa_nil)))) pa_nil)))))))))))
(pss_cons (ps_if (pt_cmpR op_gt (pe_callB call_len_seq (by rfl) T.n_len (by decide +kernel) (pa_cons (pv 1) pa_nil)) pe_int (nomark _))
(pss_one (ps_ret (pe_tup (pa_cons (pe_tup (pa_cons pe_str (pa_cons (pe_ix ix_tup (pe_ix ix_list (pv 1) pe_int (fun _ _ => rfl)) pe_int (fun _ _ => rfl)) (pa_cons pe_int pa_nil)))) (pa_cons pe_non pa_nil)))))
pss_nil)
(pss_one (ps_ret (pe_tup (pa_cons pe_non (pa_cons (pe_callTy call_tuple_of (by rfl) T.n_tuple (by decide +kernel) (pa_cons (pe_lc (own := [("at", 3)]) rfl sc_law_read_piece.nd (pi_range1 (by rfl) T.n_range (pa_cons (pe_callB call_len_seq (by rfl) T.n_len (by decide +kernel) (pa_cons (pe_ix ix_list (pv 2) pe_int (fun _ _ => rfl)) pa_nil)) pa_nil)) (blkOk_by (own := [("at", 3)]) (N := ["text", "lines", "rows", "at", "number", "words", "many", "place", "word"]) (sc := defScope s_law_read_piece) (by decide +kernel)) (fun _ _ _ _ _ => (pg_name (i := 3) sc_law_read_piece.nd rfl (.inl rfl))) (fun _ _ _ _ _ => pts_nil) (fun _ _ _ _ _ => (pe_tup (pa_cons (pe_ix (r := rIxL K) ix_list (pe_ix (r := rIxL K) ix_list (pv 2) pe_int (fun _ _ => rfl)) (pv 3) (fun _ _ => rfl)) (pa_cons (pe_ix (r := rIxL K) ix_list (pe_ix (r := rIxL K) ix_list (pv 2) pe_int (fun _ _ => rfl)) (pv 3) (fun _ _ => rfl)) pa_nil))))) pa_nil)) pa_nil)))))))), ?_⟩
    refine seq_r (asg_r ⟨_, rfl, l, rfl, by omega, hch, fun p xs H1 s1 hp hxs => ⟨by simp, fun q hq => ⟨by simp; omega, fun tt htt => ?_⟩⟩⟩)
    have sq := same_upd (o := .lst []) hq
    have stt := same_upd (o := .tup [.ref p, .ref q]) htt
    refine ⟨tt, _, rfl, .inl (.inl upd_same), rfl, _, _, rfl, _, _, rfl, rfl, ?_⟩
    dsimp only [gName]
    have s2 : Same H (upd (upd H1 q (.lst [])) tt (.tup [.ref p, .ref q])) := same_trans s1 (same_trans sq stt)
    have npq : p ≠ q := ne_of_none hp hq
    have hq2 : upd (upd H1 q (.lst [])) tt (.tup [.ref p, .ref q]) q = some (.lst []) := stt _ _ upd_same
    have hp2 : upd (upd H1 q (.lst [])) tt (.tup [.ref p, .ref q]) p = some (.lst xs) := stt _ _ (sq _ _ hp)
    have sdel : Same H1 (del (upd (upd H1 q (.lst [])) tt (.tup [.ref p, .ref q])) q) := fun b o e => by
      rw [del_ne (ne_of_none e hq)]
      exact stt _ _ (sq _ _ e)
    have hx2 := hxs.mono fun _ _ r => r.same sdel
    generalize upd (upd H1 q (.lst [])) tt (.tup [.ref p, .ref q]) = H2 at s2 hq2 hp2 sdel hx2 ⊢
    have hlen := hxs.len
    refine seq_r ⟨2, rfl, by decide, by decide, ?_⟩
    -- what was read so far
    refine for_it (walk_range (lo := 0) (n := 2)) (fun i σ H' => (∃ x3 x4 x5 x6 x7 x8, σ = [some (.str (S l)), some (.ref p), some (.ref q), x3, x4, x5, x6, x7, x8]) ∧ Same H1 (del H' q) ∧
      ((i = 0 ∧ H' q = some (.lst [])) ∨ (i = 1 ∧ ∃ r0 ys a0, (rowsL l)[0]? = some r0 ∧ rdOut wMel none r0.2 = .ok ys ∧ H' q = some (.lst [.ref a0]) ∧ a0 ≠ q ∧ H' a0 = some (.lst (ys.map V.int))) ∨
       (i = 2 ∧ ∃ r0 r1 ys zs a0 a1, (rowsL l)[0]? = some r0 ∧ rdOut wMel none r0.2 = .ok ys ∧ (rowsL l)[1]? = some r1 ∧ rdOut wVoi (some ys.length) r1.2 = .ok zs ∧ H' q = some (.lst [.ref a0, .ref a1]) ∧ H' a0 = some (.lst (ys.map V.int)) ∧ H' a1 = some (.lst (zs.map V.int))))) ⟨⟨none, none, none, none, none, none, rfl⟩, sdel, .inl ⟨rfl, hq2⟩⟩ (fun _ _ _ _ _ => trivial) ?_ ?_
    · rintro i x σ H3 H4 hi ⟨⟨x3, x4, x5, x6, x7, x8, rfl⟩, s3, hst⟩ ⟨rfl, rfl⟩
      dsimp only [gName]
      have s13 := same_trans s3 (same_del (H := H4) (a := q))
      have sH3 := same_trans s1 s13
      have hp3 := s13 _ _ hp
      have hx3 := hxs.mono fun _ _ r => r.same s13
      have e0 : (0 : Int) + (i : Nat) = ((i : Nat) : Int) := by omega
      obtain ⟨b1, eb1⟩ := bx (decide (((xs.length : Nat) : Int) ≤ (0 : Int) + (i : Nat)))
      refine seq_r (if_r ⟨_, rfl, _, rfl, p, xs, rfl, .inl (.inl (.inl hp3)), _, _, rfl, rfl, b1, congrArg V.bl eb1, ?_⟩)
      cases b1 with
      | true =>
        have hle : xs.length ≤ i := by have := of_decide_eq_true eb1; omega
        have er : (rowsL l)[i]? = none := by rw [List.getElem?_eq_none]; omega
        have eo : pieceOut l = .error (endNo (rowsL l), 1) := by
          unfold pieceOut
          rcases hst with ⟨rfl, _⟩ | ⟨rfl, r0, ys, a0, g0, g1, _⟩ | ⟨rfl, _⟩
          · rw [er]
          · rw [g0]; simp only
            rw [g1]; simp only
            rw [er]
          · omega
        refine ifT rfl (ret_r ⟨_, rfl, by simp, fun e he => ?_⟩)
        have se := same_upd (o := .lst []) he
        obtain ⟨b2, eb2⟩ := bx (!(rowsL l).isEmpty)
        refine ⟨.list ((rowsL l).map rowD), .list [], .lst (.inl (.inl (se _ _ hp3))) (dp_rows (hx3.mono fun _ _ r => r.same se)), .lst (.inl (.inl upd_same)) .nil, shaped_rl hch, rfl, b2, ?_, ?_⟩
        · rw [eqv_nil, ← eb2]
          cases rowsL l <;> rfl
        cases b2 with
        | false =>
          have ez : rowsL l = [] := by simpa using eb2
          refine ifF rfl ?_
          rw [ez] at eo
          exact fin_err k (same_trans sH3 se) eo
        | true =>
          have ne : rowsL l ≠ [] := by simpa using eb2
          refine ifT rfl ?_
          have hlp := List.length_pos_iff.mpr ne
          have eL : (rowsL l)[xs.length - 1]? = some ((rowsL l).getLast ne) := by rw [hlen, List.getLast_eq_getElem]; simp
          obtain ⟨v, hv, t, pw, rfl, ht, hpw⟩ := hx3.at' eL
          have ea : atI xs (-1) = some (.ref t) := by
            have h0 : xs ≠ [] := fun z => by rw [z] at hlen; simp at hlen; omega
            have h1 := List.dropLast_concat_getLast h0
            have h2 : xs.getLast h0 = .ref t := by
              rw [List.getLast_eq_getElem]
              exact (List.getElem?_eq_some_iff.mp hv).2
            rw [h2] at h1
            rw [← h1]
            exact atI_last _ _
          refine ⟨_, rfl, 1, rfl, p, xs, _, _, rfl, rfl, .inl (.inl (se _ _ hp3)), ea, t, _, 0, _, rfl, rfl, .inl (.inl (se _ _ ht)), rfl, _, _, rfl, rfl, ?_⟩
          have en : endNo (rowsL l) = (((rowsL l).getLast ne).1 : Int) + 1 := by unfold endNo; rw [List.getLast?_eq_some_getLast ne]
          rw [en] at eo
          exact fin_err k (same_trans sH3 se) eo
      | false =>
        have hlt : i < (rowsL l).length := by have := of_decide_eq_false eb1; omega
        refine ifF rfl ?_
        dsimp only [tNext]
        obtain ⟨r, er⟩ : ∃ r, (rowsL l)[i]? = some r := ⟨(rowsL l)[i], by simp [hlt]⟩
        have fr := rows_facts (List.mem_of_getElem? er)
        have frc := rows_chars hch r (List.mem_of_getElem? er)
        obtain ⟨v, hv, t, pw, rfl, ht, hpw⟩ := hx3.at' er
        have hix : atI xs ((0 : Int) + (i : Nat)) = some (.ref t) := by rw [e0]; exact atI_nat hv
        obtain ⟨w0, wt, ew⟩ : ∃ w0 wt, r.2 = w0 :: wt := by
          cases h : r.2 with
          | nil => exact (fr.1 h).elim
          | cons a b => exact ⟨a, b, rfl⟩
        have ew0 : r.2[0]? = some w0 := by rw [ew]; rfl
        -- how many, and what an error tells
        obtain ⟨m, hm1, hout⟩ : ∃ m : Option Nat, ((i = 0 ∧ m = none ∧ H4 q = some (.lst [])) ∨ (i = 1 ∧ ∃ r0 ys a0, (rowsL l)[0]? = some r0 ∧ rdOut wMel none r0.2 = .ok ys ∧ H4 q = some (.lst [.ref a0]) ∧ a0 ≠ q ∧ H4 a0 = some (.lst (ys.map V.int)) ∧ m = some ys.length)) ∧ ∀ kk, rdOut (wrdL i) m r.2 = .error kk → pieceOut l = .error ((r.1 : Int), (kk : Int)) := by
          rcases hst with ⟨rfl, h⟩ | ⟨rfl, r0, ys, a0, g0, g1, g2, g3, g4⟩ | ⟨rfl, _⟩
          · refine ⟨none, .inl ⟨rfl, rfl, h⟩, fun kk hk => ?_⟩
            unfold pieceOut
            rw [er]; simp only
            rw [show rdOut wMel none r.2 = .error kk from hk]
          · refine ⟨some ys.length, .inr ⟨rfl, r0, ys, a0, g0, g1, g2, g3, g4, rfl⟩, fun kk hk => ?_⟩
            unfold pieceOut
            rw [g0]; simp only
            rw [g1]; simp only
            rw [er]; simp only
            rw [show rdOut wVoi (some ys.length) r.2 = .error kk from hk]
          · omega
        have hi2 : i = 0 ∨ i = 1 := by rcases hm1 with ⟨h, _⟩ | ⟨h, _⟩ <;> omega
        refine seq_r (asg_r ⟨_, rfl, _, rfl, p, xs, _, _, rfl, rfl, .inl (.inl hp3), hix, t, _, rfl, .inl (.inl ht), rfl, _, _, rfl, _, _, rfl, rfl, ?_⟩)
        dsimp only [gName]
        -- the first word
        obtain ⟨b2, eb2⟩ := bx (!decide (wV w0 = wV (wrdL i)))
        have hat : atI [V.str "melody", V.str "voice"] ((0 : Int) + (i : Nat)) = some (wV (wrdL i)) := by
          rcases hi2 with rfl | rfl
          · rw [show (0 : Int) + ((0 : Nat) : Int) = ((0 : Nat) : Int) by omega]
            refine atI_nat ?_
            show some (V.str "melody") = _
            rw [e_mel]; rfl
          · rw [show (0 : Int) + ((1 : Nat) : Int) = ((1 : Nat) : Int) by omega]
            refine atI_nat ?_
            show some (V.str "voice") = _
            rw [e_voi]; rfl
        refine seq_r (if_r ⟨_, rfl, pw, _, ((0 : Nat) : Int), wV w0, rfl, rfl, .inl (.inl hpw), atI_nat (by rw [ew]; rfl), by simp; omega, fun e he => ⟨_, rfl, e, _, _, _, rfl, rfl, .inl (.inl upd_same), hat, rfl, b2, congrArg V.bl eb2, ?_⟩⟩)
        have se := same_upd (o := .lst [V.str "melody", V.str "voice"]) he
        have sH5 := same_trans sH3 se
        cases b2 with
        | true =>
          have hne : ¬ r.2[0]? = some (wrdL i) := fun z => by
            rw [ew0] at z
            injection z with z
            rw [z] at eb2
            simp at eb2
          refine ifT rfl (ret_r ⟨_, rfl, ?_⟩)
          exact fin_err k sH5 (hout 1 (by unfold rdOut; rw [if_neg hne]))
        | false =>
        have heq : r.2[0]? = some (wrdL i) := by
          have : wV w0 = wV (wrdL i) := by simpa using eb2
          rw [ew0, inj_wV this]
        refine ifF rfl ?_
        dsimp only [tNext]
        have hneed : 1 ≤ needN m r.2 ∧ needN m r.2 ≤ 80002 := by
          rcases hm1 with ⟨_, rfl, _⟩ | ⟨_, r0, ys, a0, g0, g1, _, _, _, rfl⟩
          · show 1 ≤ max _ 1 ∧ max _ 1 ≤ 80002
            have := fr.2.1
            omega
          · have h1 : ys.length = max (r0.2.length - 1) 1 := rd_len g1
            have h2 := (rows_facts (List.mem_of_getElem? g0)).2.1
            show 1 ≤ ys.length ∧ ys.length ≤ 80002
            omega
        have hm5 : (i = 0 ∧ m = none ∧ upd H4 e (.lst [V.str "melody", V.str "voice"]) q = some (.lst [])) ∨ (i = 1 ∧ ∃ r0 ys a0, (rowsL l)[0]? = some r0 ∧ rdOut wMel none r0.2 = .ok ys ∧ upd H4 e (.lst [V.str "melody", V.str "voice"]) q = some (.lst [.ref a0]) ∧ a0 ≠ q ∧ upd H4 e (.lst [V.str "melody", V.str "voice"]) a0 = some (.lst (ys.map V.int)) ∧ m = some ys.length) := by
          rcases hm1 with ⟨a, b, c⟩ | ⟨a, r0, ys, a0, g0, g1, g2, g3, g4, g5⟩
          · exact .inl ⟨a, b, se _ _ c⟩
          · exact .inr ⟨a, r0, ys, a0, g0, g1, se _ _ g2, g3, se _ _ g4, g5⟩
        have hpw5 := se _ _ hpw
        have s35 : Same H1 (del (upd H4 e (.lst [V.str "melody", V.str "voice"])) q) := same_trans s3 (del_mono se)
        generalize upd H4 e (.lst [V.str "melody", V.str "voice"]) = H5 at se sH5 hm5 hpw5 s35 ⊢
        have hpq5 : pw ≠ q := fun z => by
          have h1 := s35
          rcases hm5 with ⟨_, _, c⟩ | ⟨_, r0, ys, a0, _, _, c, _⟩
          · rw [z, c] at hpw5
            injection hpw5 with h; injection h with h
            rw [ew] at h; cases h
          · rw [z, c] at hpw5
            injection hpw5 with h; injection h with h
            rw [ew] at h; cases h
        refine seq_join (fun σ' H' => ∃ mm : Int, σ' = [some (.str (S l)), some (.ref p), some (.ref q), some (.int ((0 : Int) + (i : Nat))), some (.int (r.1 : Nat)), some (.ref pw), some (.int mm), x7, x8] ∧ H' = H5 ∧ (if (1 : Int) > mm then 1 else mm) = ((needN m r.2 : Nat) : Int)) (fun D' _ hR => ?_) ?_
        · rcases hm5 with ⟨rfl, rfl, c⟩ | ⟨rfl, r0, ys, a0, g0, g1, g2, g3, g4, rfl⟩
          · refine asg_r ⟨_, rfl, rfl, true, by simp, ifT rfl ⟨_, rfl, pw, _, rfl, .inl (.inl (.inl hpw5)), _, _, rfl, rfl, hR _ _ ⟨_, rfl, rfl, ?_⟩⟩⟩
            rw [List.length_map]
            show (if (1 : Int) > (r.2.length : Nat) - 1 then 1 else ((r.2.length : Nat) : Int) - 1) = ((max (r.2.length - 1) 1 : Nat) : Int)
            split <;> omega
          · refine asg_r ⟨_, rfl, rfl, false, by simp, ifF rfl ⟨_, rfl, q, _, 0, _, rfl, rfl, .inl (.inl g2), rfl, a0, _, rfl, .inl (.inl (.inl g4)), hR _ _ ⟨_, rfl, rfl, ?_⟩⟩⟩
            rw [List.length_map]
            have h1 : 1 ≤ ys.length := hneed.1
            show (if (1 : Int) > (ys.length : Nat) then 1 else ((ys.length : Nat) : Int)) = ((ys.length : Nat) : Int)
            split <;> omega
        rintro σ' H5' ⟨mm, rfl, rfl, hmm⟩
        refine seq_r ⟨_, rfl, mm, 1, rfl, _, _, rfl, rfl, 1, _, rfl, ⟨by decide, by decide, by rw [hmm]; omega, by rw [hmm]; omega⟩, ?_⟩
        have enn : ((if (1 : Int) > mm then 1 else mm) + 1 - 1).toNat = needN m r.2 := by rw [hmm]; omega
        rw [enn]
        refine for_it (walk_range (lo := 1) (n := needN m r.2)) (fun j σ H' => (∃ x7 x8, σ = [some (.str (S l)), some (.ref p), some (.ref q), some (.int ((0 : Int) + (i : Nat))), some (.int (r.1 : Nat)), some (.ref pw), some (.int mm), x7, x8]) ∧ Same H5' H' ∧ ∀ t, t < j → goodB r.2 t = true) ⟨⟨x7, x8, rfl⟩, fun _ _ e => e, fun t ht => by omega⟩ (fun _ _ _ _ _ => trivial) ?_ ?_
        · rintro j x σ H6 H7 hj ⟨⟨y7, y8, rfl⟩, s6, hg⟩ ⟨rfl, rfl⟩
          dsimp only [gName]
          have hpw6 := s6 _ _ hpw5
          have sH6 := same_trans sH5 s6
          have ek : (((j + 2 : Nat)) : Int) = 1 + ((j : Nat) : Int) + 1 := by omega
          have bad : goodB r.2 j = false → pieceOut l = .error ((r.1 : Int), 1 + ((j : Nat) : Int) + 1) := fun hb => by
            have := hout (j + 2) (rd_bad heq hj hg hb)
            rw [ek] at this
            exact this
          obtain ⟨b3, eb3⟩ := bx (decide ((((r.2.map wV).length : Nat) : Int) ≤ 1 + ((j : Nat) : Int)))
          refine if_r (or_r ⟨_, rfl, _, rfl, pw, _, rfl, .inl (.inl (.inl hpw6)), _, _, rfl, rfl, b3, congrArg V.bl eb3, ?_⟩)
          rw [List.length_map] at eb3
          cases b3 with
          | true =>
            have hle : r.2.length ≤ j + 1 := by have := of_decide_eq_true eb3; omega
            have hb : goodB r.2 j = false := by unfold goodB; rw [List.getElem?_eq_none hle]
            exact ifT rfl (ifT rfl (ret_r ⟨_, rfl, _, rfl, _, _, rfl, rfl, fin_err k sH6 (bad hb)⟩))
          | false =>
          have hlt2 : j + 1 < r.2.length := by have := of_decide_eq_false eb3; omega
          have ewd : r.2[j + 1]? = some r.2[j + 1] := by simp [hlt2]
          generalize r.2[j + 1] = wd at ewd
          have hwm := List.mem_of_getElem? ewd
          have e1 : (1 : Int) + ((j : Nat) : Int) = ((j + 1 : Nat) : Int) := by omega
          have hixw : atI (r.2.map wV) ((1 : Int) + ((j : Nat) : Int)) = some (wV wd) := by rw [e1]; exact atI_nat (by rw [List.getElem?_map, ewd]; rfl)
          have hwl := fr.2.2 wd hwm
          refine ifF rfl (not_r (b_r ⟨_, rfl, _, rfl, pw, _, _, _, rfl, rfl, .inl (.inl hpw6), hixw, wd, rfl, by omega, frc wd hwm, fun H8 s8 => ⟨_, rfl, ?_⟩⟩))
          have egd : goodB r.2 j = isNum wd := by unfold goodB; rw [ewd]
          cases en : isNum wd with
          | false => exact ifT rfl (ret_r ⟨_, rfl, _, rfl, _, _, rfl, rfl, fin_err k (same_trans sH6 s8) (bad (by rw [egd, en]))⟩)
          | true =>
            refine ifF rfl ⟨⟨_, _, rfl⟩, same_trans s6 s8, fun t ht => ?_⟩
            by_cases et : t = j
            · rw [et, egd, en]
            · exact hg t (by omega)
        · rintro σ H6 ⟨⟨y7, y8, rfl⟩, s6, hg⟩
          dsimp only
          have hpw6 := s6 _ _ hpw5
          have sH6 := same_trans sH5 s6
          have hall := rd_all (m := m) heq hg
          have hge : needN m r.2 + 1 ≤ r.2.length := by
            have h1 := hg (needN m r.2 - 1) (by omega)
            unfold goodB at h1
            have e1 : needN m r.2 - 1 + 1 = needN m r.2 := by omega
            rw [e1] at h1
            cases h : r.2[needN m r.2]? with
            | none => rw [h] at h1; cases h1
            | some _ => have := (List.getElem?_eq_some_iff.mp h).1; omega
          obtain ⟨b4, eb4⟩ := bx (decide ((if (1 : Int) > mm then 1 else mm) + 1 < (((r.2.map wV).length : Nat) : Int)))
          refine seq_r (if_r ⟨_, rfl, pw, _, rfl, .inl (.inl (.inl hpw6)), _, rfl, mm, 1, rfl, _, _, rfl, rfl, _, _, rfl, rfl, b4, congrArg V.bl eb4, ?_⟩)
          rw [List.length_map, hmm] at eb4
          cases b4 with
          | true =>
            have h1 := of_decide_eq_true eb4
            have eo := hout (needN m r.2 + 2) (by rw [hall, if_neg (by omega)])
            have ek : ((needN m r.2 + 2 : Nat) : Int) = (if (1 : Int) > mm then 1 else mm) + 2 := by rw [hmm]; omega
            rw [ek] at eo
            exact ifT rfl (ret_r ⟨_, rfl, _, rfl, mm, 1, rfl, _, _, rfl, rfl, fin_err k sH6 eo⟩)
          | false =>
          have hle : r.2.length = needN m r.2 + 1 := by have := of_decide_eq_false eb4; omega
          rw [if_pos hle] at hall
          refine ifF rfl ?_
          dsimp only [tNext]
          -- the numbers
          have hnum : ∀ j wd, (r.2.drop 1)[j]? = some wd → isNum wd = true := fun j wd hj => by
            rw [List.getElem?_drop] at hj
            have hlt3 := (List.getElem?_eq_some_iff.mp hj).1
            have h1 := hg j (by omega)
            unfold goodB at h1
            rw [show j + 1 = 1 + j by omega, hj] at h1
            exact h1
          have hd1 : (r.2.drop 1).length = needN m r.2 := by rw [List.length_drop]; omega
          obtain ⟨rws, hq6, hrl⟩ : ∃ rws, H6 q = some (.lst rws) ∧ rws.length ≤ 1 := by
            rcases hm5 with ⟨_, _, c⟩ | ⟨_, r0, ys, a0, _, _, c, _⟩
            · exact ⟨_, s6 _ _ c, by simp⟩
            · exact ⟨_, s6 _ _ c, by simp⟩
          refine ⟨_, rfl, .inl ⟨rfl, _, .inl (.inl hq6)⟩, _, rfl, 1, rfl, pw, _, rfl, .inl (.inl hpw6), fun sl hsl => ⟨sl, rfl, ⟨_, .inl (.inl upd_same)⟩, fun D hD => ?_⟩⟩
          rw [cut_from1] at hD ⊢
          have e2 : (r.2.map wV).drop 1 = (r.2.drop 1).map wV := by rw [List.map_drop]
          rw [e2] at hD ⊢
          have ssl := same_upd (o := .lst ((r.2.drop 1).map wV)) hsl
          have hsl1 : upd H6 sl (.lst ((r.2.drop 1).map wV)) sl = some (.lst ((r.2.drop 1).map wV)) := upd_same
          generalize upd H6 sl (.lst ((r.2.drop 1).map wV)) = H7 at hD ssl hsl1 ⊢
          have nsD : sl ≠ D := ne_of_none hsl1 hD
          refine lc_it (walk_list (K := K) (a := sl) (xs := (r.2.drop 1).map wV)) (fun i H' => H' = upd H7 D (.lst (((r.2.drop 1).take i).map fun w => V.int (numV w)))) (by simp) (fun i H' _ e => by rw [e]; exact .inl (.inl ((upd_ne nsD).trans hsl1))) ?_ ?_
          · rintro j x _ _ hj rfl ⟨rfl, hx⟩
            obtain ⟨wd, hwd, rfl⟩ := map_atG hx
            have hn := hnum j wd hwd
            have hlw := isNum_len hn
            refine ⟨rfl, ⟨_, rfl, S wd, numV wd, rfl, isNum_int hn, by rw [S_len]; omega, acc_step ?_ ?_⟩⟩
            · rw [take_more hwd, List.map_append]; rfl
            · rw [List.length_map, List.length_take]; omega
          · rintro H8 rfl
            have el : ((r.2.drop 1).map wV).length = (r.2.drop 1).length := by simp
            rw [el, List.take_length]
            have sD := same_upd (o := .lst ((r.2.drop 1).map fun w => V.int (numV w))) hD
            have s68 := same_trans ssl sD
            have hq8 := s68 _ _ hq6
            refine ⟨q, rws, _, rfl, rfl, hq8, by omega, ⟨⟨_, _, _, _, _, _, rfl⟩, ?_, ?_⟩⟩
            · rw [del_upd]
              exact same_trans s35 (del_mono (same_trans s6 s68))
            · have nDq : D ≠ q := fun z => by rw [z, ssl _ _ hq6] at hD; cases hD
              have hints : (r.2.drop 1).map (fun w => V.int (numV w)) = ((r.2.drop 1).map numV).map V.int := by rw [List.map_map]; rfl
              rcases hm5 with ⟨rfl, rfl, c⟩ | ⟨rfl, r0, ys, a0, g0, g1, g2, g3, g4, rfl⟩
              · refine .inr (.inl ⟨rfl, r, (r.2.drop 1).map numV, D, er, hall, ?_, nDq, ?_⟩)
                · have : rws = [] := by have := s6 _ _ c; rw [hq6] at this; injection this with h; injection h
                  rw [upd_same, this]; rfl
                · rw [upd_ne nDq, upd_same, hints]
              · refine .inr (.inr ⟨rfl, r0, r, ys, (r.2.drop 1).map numV, a0, D, g0, g1, er, hall, ?_, ?_, ?_⟩)
                · have : rws = [.ref a0] := by have := s6 _ _ g2; rw [hq6] at this; injection this with h; injection h
                  rw [upd_same, this]; rfl
                · rw [upd_ne g3]; exact s68 _ _ (s6 _ _ g4)
                · rw [upd_ne nDq, upd_same, hints]
    · rintro σ H3 ⟨⟨x3, x4, x5, x6, x7, x8, rfl⟩, s3, hst⟩
      dsimp only
      obtain ⟨r0, r1, ys, zs, a0, a1, g0, g1, g2, g3, g4, g5, g6⟩ : ∃ r0 r1 ys zs a0 a1, (rowsL l)[0]? = some r0 ∧ rdOut wMel none r0.2 = .ok ys ∧ (rowsL l)[1]? = some r1 ∧ rdOut wVoi (some ys.length) r1.2 = .ok zs ∧ H3 q = some (.lst [.ref a0, .ref a1]) ∧ H3 a0 = some (.lst (ys.map V.int)) ∧ H3 a1 = some (.lst (zs.map V.int)) := by
        rcases hst with ⟨z, _⟩ | ⟨z, _⟩ | ⟨_, z⟩
        · cases z
        · cases z
        · exact z
      have s13 := same_trans s3 (same_del (H := H3) (a := q))
      have sH3 := same_trans s1 s13
      have hp3 := s13 _ _ hp
      have hx3 := hxs.mono fun _ _ r => r.same s13
      have hzl : zs.length = ys.length := rd_len g3
      have hyl : ys.length ≤ 80001 := by
        have h1 := rd_len g1
        have h2 := (rows_facts (List.mem_of_getElem? g0)).2.1
        have h3 : ys.length = max (r0.2.length - 1) 1 := h1
        omega
      obtain ⟨b1, eb1⟩ := bx (decide ((2 : Int) < (xs.length : Nat)))
      refine seq_r (if_r ⟨_, rfl, p, xs, rfl, .inl (.inl (.inl hp3)), _, _, rfl, rfl, b1, congrArg V.bl eb1, ?_⟩)
      cases b1 with
      | true =>
        have h2 : 2 < xs.length := by have := of_decide_eq_true eb1; omega
        have er : (rowsL l)[2]? = some ((rowsL l)[2]'(by omega)) := by simp
        obtain ⟨v, hv, t, pw, rfl, ht, hpw⟩ := hx3.at' er
        have eo : pieceOut l = .error ((((rowsL l)[2]'(by omega)).1 : Int), 1) := by
          unfold pieceOut
          rw [g0]; simp only
          rw [g1]; simp only
          rw [g2]; simp only
          rw [g3]; simp only
          rw [er]
        refine ifT rfl (ret_r ⟨_, rfl, p, xs, 2, _, rfl, rfl, .inl (.inl hp3), atI_nat hv, t, _, 0, _, rfl, rfl, .inl (.inl ht), rfl, ?_⟩)
        exact fin_err k sH3 eo
      | false =>
        have h2 : ¬ 2 < xs.length := by have := of_decide_eq_false eb1; omega
        have er : (rowsL l)[2]? = none := by rw [List.getElem?_eq_none]; omega
        have eo : pieceOut l = .ok (ys.zip zs) := by
          unfold pieceOut
          rw [g0]; simp only
          rw [g1]; simp only
          rw [g2]; simp only
          rw [g3]; simp only
          rw [er]
        refine ifF rfl ?_
        dsimp only [tNext]
        refine ret_r ⟨_, rfl, q, _, 0, _, rfl, rfl, .inl (.inl g4), rfl, a0, _, rfl, .inl (.inl (.inl g5)), _, rfl, ?_, ?_, fun D hD => ?_⟩
        · simp only [List.length_map]; omega
        · simp only [List.length_map]; omega
        have en : ((((ys.map V.int).length : Nat)) : Int).toNat = ys.length := by simp
        rw [en]
        refine lc_it (walk_range (lo := 0) (n := ys.length)) (fun i H' => Same H3 (del H' D) ∧ ∃ acc, H' D = some (.lst acc) ∧ All2 (PrAt (del H' D)) acc ((ys.zip zs).take i)) ⟨by rw [del_upd, del_none hD]; exact fun _ _ e => e, [], upd_same, .nil⟩ (fun _ _ _ _ => trivial) ?_ ?_
        · rintro j x H0 H4 hj ⟨s4, acc, hacc, hal⟩ ⟨rfl, rfl⟩
          have e0 : (0 : Int) + (j : Nat) = ((j : Nat) : Int) := by omega
          have s34 := same_trans s4 (same_del (H := H4) (a := D))
          have ey : atI (ys.map V.int) ((0 : Int) + (j : Nat)) = some (.int ys[j]) := by rw [e0]; exact atI_nat (by simp [hj])
          have ez : atI (zs.map V.int) ((0 : Int) + (j : Nat)) = some (.int (zs[j]'(by omega))) := by rw [e0]; exact atI_nat (by simp [hzl, hj])
          refine ⟨rfl, ⟨_, rfl, q, _, 0, _, rfl, rfl, .inl (.inl (s34 _ _ g4)), rfl, _, rfl, a0, _, _, _, rfl, rfl, .inl (.inl (s34 _ _ g5)), ey, ?_⟩⟩
          refine ⟨_, rfl, q, _, 1, _, rfl, rfl, .inl (.inl (s34 _ _ g4)), rfl, _, rfl, a1, _, _, _, rfl, rfl, .inl (.inl (s34 _ _ g6)), ez, ⟨by simp; omega, fun t ht => ?_⟩⟩
          have nt : t ≠ D := (ne_of_none hacc ht).symm
          have s5 := del_new (a := D) (o := .tup [.int ys[j], .int (zs[j]'(by omega))]) ht nt
          have hal2 := hal.len
          refine ⟨acc, same_upd ht _ _ hacc, by rw [hal2, List.length_take]; omega, ?_, acc ++ [.ref t], upd_same, ?_⟩
          · rw [del_upd]; exact same_trans s4 s5
          · rw [del_upd, take_more (x := (ys[j], zs[j]'(by omega))) (by rw [List.getElem?_zip_eq_some]; simp [hj, hzl])]
            refine (hal.mono fun _ _ ⟨t2, e, h⟩ => ⟨t2, e, s5 _ _ h⟩).snoc ⟨t, rfl, ?_⟩
            rw [del_ne nt, upd_same]
        · rintro H4 ⟨s4, acc, hacc, hal⟩
          have el : ys.length = (ys.zip zs).length := by rw [List.length_zip]; omega
          rw [el, List.take_length] at hal
          refine ⟨D, acc, rfl, .inl ⟨.inl (.inl hacc), fun pz hpz => ⟨by simp; omega, fun t ht => ?_⟩⟩⟩
          refine k _ _ (same_trans sH3 (same_trans s4 (same_trans same_del (same_trans (same_upd hpz) (same_upd ht))))) ?_
          rw [eo]
          exact ⟨t, .ref pz, rfl, upd_same, pz, acc, rfl, same_upd ht _ _ upd_same, hal.mono fun _ _ ⟨t2, e, h⟩ => ⟨t2, e, same_upd ht _ _ (same_upd hpz _ _ (same_del _ _ h))⟩⟩
end
end SV
namespace SV
open PySem PySem.Spec PyProof.Rows L2 TL LamX NdefX
/-! ### k96: a text read rightly -/
section
variable {P : Program} {w : World} {K : PySem.W.Frag} {mg : Str → Option Value} {base : Heap} {A : Ad}
theorem hide_tabs {Tb : List (Addr × Str)} {cl : List (Str × Addr)} {fr : List Str} {ws : List (Option V)} {H : Hp} (c : CellsZ cl fr ws H) (hT : Tabs Tb H) : Tabs Tb (hideC (CS cl) H) := fun q hq => by
  obtain ⟨ps, h1, h2, h3⟩ := hT q hq
  refine ⟨ps, hide_at c h1 tbl_cellZ, h2, fun pos cv hc => ?_⟩
  obtain ⟨c0, e1, e2⟩ := h3 pos cv hc
  exact ⟨c0, e1, hide_at c e2 fun ob z => by cases z⟩
theorem passN {F : NF} {N : List Str} {f : Addr} {A' : Around} {outer : List Env} {s : Shared} {H : Hp} {E : XK} : Passes (L2.CX P w) (ncx (L2.CX P w) P w K mg base N F f A' outer s H E) E := passes_call (takes_of rfl rfl rfl rfl) fun _ _ _ _ h => h
/-- lambda: piece_of_text(text) -/
def spLT (A : Ad) (cl : List (Str × Addr)) (l : List Nat) : Sp := fun vs H R E => vs = [] ∧ CellsZ cl ["text"] [some (.str (S l))] H ∧ l.length ≤ 80000 ∧ Tabs (TbA A) H ∧ (∀ ps, pieceOut l = .ok ps → ∀ v H', Kp (TbA A) [] H H' → R v H') ∧ (∀ e, pieceOut l = .error e → exK A [] H E e.1 e.2)
theorem lok_text (T : Txt K mg A) (TB : TbOk base mg A) {F : LF} {f : Addr} {l : List Nat} {p1 p2 p3 : Pos} (hs : NScope ["text"] [] ["text"] F.scope) (hg : F.scope.names.lookup ("piece_of_text" : Str) = some .globalImplicit) (hb : ∀ (pm ctv : Value), bindArgs (F.fd pm ctv) ⟨[], []⟩ = pure []) (hbody : F.body = .Call (.Name "piece_of_text" p1) [.Name "text" p2] [] p3) :
    LOk P w K mg base (L2.CX P w) 22 f F 0 (spLT A F.cl l) := by
  refine (lok_of (k := 20) (N := ["text"]) (ps := []) (fr := ["text"]) hidesX hs (fun pm ctv us hu => ?_) (fun vs H Q E h => ?_) (fun A1 outer1 s1 H2 vs Q1 E1 hr1 hf1 hc1 h1 => ?_)).mono (by decide)
  · cases us with
    | nil => exact hb pm ctv
    | cons _ _ => cases hu
  · rw [h.1]; rfl
  · obtain ⟨rfl, cz, hl, hT, hR, hE⟩ := h1
    refine ⟨_, tCall (spPiece K A) [] (fun cls d H' => (∀ b, CS F.cl b → H' b = none) → E1 cls d (restC (CS F.cl) H2 H')) (tCons (tVar 0) tNil), cz, ?_, ?_⟩
    · rw [hbody]
      exact pe_callD passN (ok_piece_of_text T TB) hr1 (by decide) hg T.m_piece_of_text (pa_cons (pv 0 rfl (.inr (.inr (hs.frk "text" (by simp))))) pa_nil)
    · refine ⟨_, rfl, .inl ⟨l, rfl, hl, hide_tabs cz hT, fun e he d H' k' hd hn => ?_, fun ps hps v H' k' hv hn => ?_⟩⟩
      · refine hE e he d _ (Kp.rest cz hn k') ?_
        rw [restC_out fun z => by rw [hn d z] at hd; cases hd]
        exact hd
      · exact hR ps hps v _ (Kp.rest cz hn k')
theorem ok_len {l : List Nat} {ps : List (Int × Int)} (hl : l.length ≤ 80000) (h : pieceOut l = .ok ps) : ps.length ≤ 90000 := by
  unfold pieceOut at h
  cases e0 : (rowsL l)[0]? with
  | none => rw [e0] at h; cases h
  | some r0 =>
    rw [e0] at h
    simp only at h
    cases e1 : rdOut wMel none r0.2 with
    | error k => rw [e1] at h; cases h
    | ok xs =>
      rw [e1] at h
      simp only at h
      have h1 : xs.length = max (r0.2.length - 1) 1 := rd_len e1
      have h2 := (rows_facts (List.mem_of_getElem? e0)).2.1
      cases e2 : (rowsL l)[1]? with
      | none => rw [e2] at h; cases h
      | some r1 =>
        rw [e2] at h
        simp only at h
        cases e3 : rdOut wVoi (some xs.length) r1.2 with
        | error k => rw [e3] at h; cases h
        | ok ys =>
          rw [e3] at h
          simp only at h
          cases e4 : (rowsL l)[2]? with
          | some _ => rw [e4] at h; cases h
          | none =>
            rw [e4] at h
            injection h with h
            rw [← h, List.length_zip]
            omega
def prD (p : Int × Int) : PyData := .tuple [.int p.1, .int p.2]
theorem ps_dp {H : Hp} : ∀ {xs : List V} {ps : List (Int × Int)}, All2 (PrAt H) xs ps → DpAll K H xs (ps.map prD)
  | _, _, .nil => .nil
  | _, _, .cons ⟨t, e, h⟩ r => by
    subst e
    exact .cons (.tup (.inl (.inl h)) (.cons (.int _) (.cons (.int _) .nil))) (ps_dp r)
theorem psv_dp {H : Hp} {v : V} {ps : List (Int × Int)} (h : PsAt H v ps) : Dp K H v (.tuple (ps.map prD)) := by
  obtain ⟨t, xs, rfl, h1, h2⟩ := h
  exact .tup (.inl (.inl h1)) (ps_dp h2)
theorem dep_piece {ps : List (Int × Int)} (hn : ps.length ≤ 90000) : depB 2 (.tuple (ps.map prD)) = true := by
  show (decide ((ps.map prD).length ≤ 90000) && (ps.map prD).all (depB 1)) = true
  rw [Bool.and_eq_true, decide_eq_true_eq, List.length_map]
  refine ⟨by omega, ?_⟩
  rw [List.all_map]
  exact List.all_eq_true.mpr fun p _ => rfl
def spRight (A : Ad) : Sp := fun vs H Q _ => ∃ l : List Nat, vs = [.str (S l)] ∧ l.length ≤ 80000 ∧ CharOk l ∧ Tabs (TbA A) H ∧ ∀ H', Kp (TbA A) [] H H' → Q (.bl true) H'
theorem ok_law_right (T : Txt K mg A) (TB : TbOk base mg A) (TN : TxtN K mg A) (TX : TxtX K mg A A.BT) (KT : Kits K A) : FnD anyA P w K mg base (L2.CX P w) 26 A.law_right ["text"] (spRight A) := by
  refine T.d_law_right.okX sc_law_right (fun vs H Q E h => ?_) (fun A' outer s H vs Q E hA hr h => ?_)
  · obtain ⟨l, rfl, _⟩ := h; rfl
  · obtain ⟨l, rfl, hl, hch, hT, q⟩ := h
    have hb := big
    refine ⟨_, (pss_cons (ps_asg (pe_callD pass00 (ok_law_read_piece T) hr (by decide) rfl T.m_law_read_piece (pa_cons (pv 0) pa_nil)) (pg_tup (by rfl) (pgs_cons (pg_name (i := 1) sc_law_right.nd rfl (.inl rfl)) (pgs_cons (pg_name (i := 2) sc_law_right.nd rfl (.inl rfl)) pgs_nil))))
      (pss_cons (ps_if (pt_cmpR op_notN (pv 1) pe_non (nomark _))
      (pss_one (ps_ret (pe_callD pass00 (ok_law_is T 2) hr (by decide) rfl T.m_law_is (pa_cons (pe_callDZ passE thawsX trivial (ok_law_caught T TN TX KT) hr (by decide) (fun _ => rfl) rfl T.m_law_caught (pa_cons (pe_lam (T := TbA A) TB.rt rfl (.tail _ (.tail _ (.tail _ (.head _)))) (tb_4 TB) (free_by (o := (defScope s_law_right).names) (by decide +kernel))) pa_nil)) (pa_cons (pv 1) pa_nil)))))
      pss_nil)
      (pss_one (ps_ret (pe_and (pe_callD pass00 (ok_law_is T 2) hr (by decide) rfl T.m_law_is (pa_cons (pe_callDZ passE thawsX trivial (ok_law_caught T TN TX KT) hr (by decide) (fun _ => rfl) rfl T.m_law_caught (pa_cons (pe_lam (T := TbA A) TB.rt rfl (.tail _ (.tail _ (.tail _ (.head _)))) (tb_4 TB) (free_by (o := (defScope s_law_right).names) (by decide +kernel))) pa_nil)) (pa_cons (pe_tup (pa_cons pe_str pa_nil)) pa_nil))) (pe_one (pe_callD pass00 (ok_law_is T 2) hr (by decide) rfl T.m_law_is (pa_cons (pe_callD passE (ok_piece_of_text T TB) hr (by decide) rfl T.m_piece_of_text (pa_cons (pv 0) pa_nil)) (pa_cons (pv 2) pa_nil))))))))), ?_⟩
    refine seq_r (asg_r ⟨_, rfl, l, rfl, hl, hch, fun v H1 s1 ho => ?_⟩)
    have T1 : Tabs (TbA A) H1 := (Kp.same (M := []) s1).t hT
    have k1 : Kp (TbA A) [] H H1 := Kp.same s1
    cases eo : pieceOut l with
    | error e =>
      rw [eo] at ho
      obtain ⟨t, d, rfl, ht, hd⟩ := ho
      refine ⟨t, _, rfl, .inl (.inl ht), rfl, _, _, rfl, _, _, rfl, rfl, ?_⟩
      dsimp only [gName]
      refine seq_r (if_r ⟨_, rfl, rfl, true, rfl, ifT rfl (ret_r ⟨T1, fun f c' H2 eH hT2 nf hf hc G fx => ?_⟩)⟩)
      have kH : Kp (TbA A) [] H1 H2 := Kp.lam eH hT2
      have kG : Kp (TbA A) [] H1 G := kH.trans (FrzX.kp fx)
      have eG : ∀ b o, H2 b = some o → noTbl o → G b = some o := fun b o e n => (FrzX.kp (Tb := TbA A) (M := []) fx).k b o e (by simp) n
      have hfG := eG _ _ hf noTbl_ext
      have hcG := eG _ _ hc noTbl_ext
      have cz := cz_lam (js := [0]) (fr := ["text"]) (defScope s_law_right).names hf fx rfl (by decide +kernel) (by decide +kernel) rfl
      refine ⟨f, _, _, some e, rfl, hfG, hcG, lok_text (l := l) T TB (nscope_by (by show nscB _ _ _ ⟨.function, [("piece_of_text", .globalImplicit), ("text", .free)], false, false, []⟩ = true; decide +kernel)) rfl (fun pm ctv => rfl) rfl, fun R E' h1 h2 => ⟨rfl, cz, hl, kG.t T1, fun ps hps => ?_, fun e2 he2 => ?_⟩, fun z => (by cases z), fun n kk en t' Hf kf ht' => ?_⟩
      · rw [eo] at hps; cases hps
      · rw [eo] at he2; cases he2
        exact fun dd H' k' hd' => h2 e.1 e.2 rfl dd H' k' hd'
      · cases en
        have kF : Kp (TbA A) [] H1 (hideC _ Hf) := kH.trans (Kp.thaw fx (by simp) kf)
        have ht18 := thaw_at fx kf (by simp) ht' tup_cellZ
        refine ⟨_, rfl, .ref t', .ref d, .tuple [.str "text", .int n, .int kk], rfl, .tup (.inl (.inl ht18)) (.cons (.str _) (.cons (.int _) (.cons (.int _) .nil))), .tup (.inl (.inl (kF.k _ _ hd (by simp) noTbl_tup))) (.cons (.str _) (.cons (.int _) (.cons (.int _) .nil))), rfl, fun H9 s9 => ?_⟩
        exact q _ (k1.trans (kF.trans (Kp.same s9)))
    | ok ps =>
      rw [eo] at ho
      obtain ⟨t, pv, rfl, ht, hps⟩ := ho
      have hpl := ok_len hl eo
      refine ⟨t, _, rfl, .inl (.inl ht), rfl, _, _, rfl, _, _, rfl, rfl, ?_⟩
      dsimp only [gName]
      refine seq_r (if_r ⟨_, rfl, rfl, false, rfl, ifF rfl ?_⟩)
      dsimp only [tNext]
      refine ret_r (and_r ⟨T1, fun f c' H2 eH hT2 nf hf hc G fx => ?_⟩)
      have kH : Kp (TbA A) [] H1 H2 := Kp.lam eH hT2
      have kG : Kp (TbA A) [] H1 G := kH.trans (FrzX.kp fx)
      have eG : ∀ b o, H2 b = some o → noTbl o → G b = some o := fun b o e n => (FrzX.kp (Tb := TbA A) (M := []) fx).k b o e (by simp) n
      have hfG := eG _ _ hf noTbl_ext
      have hcG := eG _ _ hc noTbl_ext
      have cz := cz_lam (js := [0]) (fr := ["text"]) (defScope s_law_right).names hf fx rfl (by decide +kernel) (by decide +kernel) rfl
      refine ⟨f, _, _, none, rfl, hfG, hcG, lok_text (l := l) T TB (nscope_by (by show nscB _ _ _ ⟨.function, [("piece_of_text", .globalImplicit), ("text", .free)], false, false, []⟩ = true; decide +kernel)) rfl (fun pm ctv => rfl) rfl, fun R E' h1 h2 => ⟨rfl, cz, hl, kG.t T1, fun ps2 hps2 v H' k' => h1 rfl v H' k', fun e2 he2 => ?_⟩, fun z t' Hf kf ht' => ?_, fun n kk en => by cases en⟩
      · rw [eo] at he2; cases he2
      · have kF : Kp (TbA A) [] H1 (hideC _ Hf) := kH.trans (Kp.thaw fx (by simp) kf)
        have ht18 := thaw_at fx kf (by simp) ht' tup_cellZ
        refine ⟨by simp; omega, fun e he => ⟨.ref t', .ref e, .tuple [.str "none"], rfl, .tup (.inl (.inl (same_upd he _ _ ht18))) (.cons (.str _) .nil), .tup (.inl (.inl upd_same)) (.cons (.str _) .nil), rfl, fun H9 s9 => ⟨_, rfl, ifT rfl ?_⟩⟩⟩
        have k9 := kF.trans ((Kp.new he).trans (Kp.same (Tb := TbA A) (M := []) s9))
        refine ⟨_, rfl, .inl ⟨l, rfl, hl, k9.t T1, fun e2 he2 => ?_, fun ps2 hps2 v H10 k10 hv => ?_⟩⟩
        · rw [eo] at he2; cases he2
        · rw [eo] at hps2
          injection hps2 with e2
          subst e2
          have hp10 := PsAt.kp (k9.trans k10) (by simp) hps
          exact ⟨_, rfl, v, pv, .tuple (ps.map prD), rfl, psv_dp hv, psv_dp hp10, dep_piece hpl, fun H11 s11 => q _ (k1.trans (k9.trans (k10.trans (Kp.same s11))))⟩
end
end SV
namespace SV
open PySem PySem.Spec PyProof.Rows L2 TL LamX NdefX
/-! ### k96: bent words -/
section
variable {P : Program} {w : World} {K : PySem.W.Frag} {mg : Str → Option Value} {base : Heap} {A : Ad}
theorem cut_to (ws : List (List Nat)) {k : Nat} (h : k ≤ ws.length) : cutV (ws.map wV) none (some ((k : Nat) : Int)) = (ws.take k).map wV := by
  unfold cutV
  rw [HT.sIx_none, HT.sIx_nat, List.length_map, Nat.min_eq_left h, List.drop_zero, Nat.sub_zero, List.map_take]
theorem cut_from (ws : List (List Nat)) {k : Nat} (h : k ≤ ws.length) : cutV (ws.map wV) (some ((k : Nat) : Int)) none = (ws.drop k).map wV := by
  unfold cutV
  rw [HT.sIx_none, HT.sIx_nat, List.length_map, Nat.min_eq_left h, List.map_drop]
  exact List.take_of_length_le (by rw [List.length_drop, List.length_map]; omega)
theorem cut_at (ws : List (List Nat)) {k : Nat} (h : k < ws.length) : cutV (ws.map wV) (some ((k : Nat) : Int)) (some (((k : Nat) : Int) + 1)) = ((ws.drop k).take 1).map wV := by
  unfold cutV
  have e : ((k : Nat) : Int) + 1 = ((k + 1 : Nat) : Int) := by omega
  rw [e, HT.sIx_nat, HT.sIx_nat, List.length_map, Nat.min_eq_left (by omega), Nat.min_eq_left (by omega), List.map_take, List.map_drop]
  congr 1
  omega
def spBent (A : Ad) : Sp := fun vs H Q _ => ∃ (a c wp op : Addr) (ws os : List (List Nat)), vs = [.ref a, .ref wp, .ref op] ∧ PenAt H a c ∧ wp ≠ a ∧ op ≠ a ∧ H wp = some (.lst (ws.map wV)) ∧ H op = some (.lst (os.map wV)) ∧ 2 ≤ ws.length ∧ ws.length ≤ 1000 ∧ os.length ≤ 1000 ∧
  ∀ (r : Addr) (zs : List (List Nat)) (H' : Hp), Kp (TbA A) [a] H H' → PenAt H' a c → H' r = some (.lst (zs.map wV)) → (∀ z ∈ zs, z ∈ ws ∨ z ∈ os) → zs ≠ [] → zs.length ≤ ws.length + 1 → Q (.ref r) H'
theorem ok_law_bent_words (T : Txt K mg A) : FnD anyA P w K mg base CX0 5 A.law_bent_words ["pen", "words", "odds"] (spBent A) := by
  refine T.d_law_bent_words.ok0 sc_law_bent_words (fun vs H Q E h => ?_) (fun cdv A' outer s H vs Q E hr h => ?_)
  · obtain ⟨a, c, wp, op, ws, os, rfl, _⟩ := h; rfl
  · obtain ⟨a, c, wp, op, ws, os, rfl, pen, n1, n2, hw, ho, h1, h2, h3, q⟩ := h
    have hb := big
    refine ⟨_, (pss_cons (ps_par (i := 3) (j := 4) rfl sc_law_bent_words.nd rfl rfl (by decide) rfl rfl (pa_cons (pe_callD pass00 (ok_law_draw T) hr (by decide) rfl T.m_law_draw (pa_cons (pv 0) (pa_cons (pe_callB call_len_seq (by rfl) T.n_len (by decide +kernel) (pa_cons (pv 1) pa_nil)) pa_nil))) (pa_cons (pe_callD pass00 (ok_law_draw T) hr (by decide) rfl T.m_law_draw (pa_cons (pv 0) (pa_cons pe_int pa_nil))) pa_nil)) rfl)
(pss_cons (ps_set (i := 5) sc_law_bent_words.nd rfl (.inl rfl) (pe_callD pass00 (ok_law_pick T) hr (by decide) rfl T.m_law_pick (pa_cons (pv 0) (pa_cons (pe_op op_cat (pv 2) (pe_lst (pa_cons (pe_ix ix_list (pv 1) pe_int (fun _ _ => rfl)) (pa_cons (pe_ix ix_list (pv 1) (pe_un un_neg pe_int) (fun _ _ => rfl)) pa_nil)))) pa_nil))))
(pss_cons (ps_if (pt_cmpR op_eq (pv 4) pe_int (nomark _))
(pss_one (ps_ret (pe_op op_cat (pe_slice sl_list (pv 1) po_none (po_some (pv 3))) (pe_slice sl_list (pv 1) (po_some (pe_op op_add (pv 3) pe_int)) po_none))))
pss_nil)
(pss_cons (ps_if (pt_cmpR op_eq (pv 4) pe_int (nomark _))
(pss_one (ps_ret (pe_op op_cat (pe_op op_cat (pe_slice sl_list (pv 1) po_none (po_some (pv 3))) (pe_slice sl_list (pv 1) (po_some (pv 3)) (po_some (pe_op op_add (pv 3) pe_int)))) (pe_slice sl_list (pv 1) (po_some (pv 3)) po_none))))
pss_nil)
(pss_cons (ps_if (pt_cmpR op_eq (pv 4) pe_int (nomark _))
(pss_one (ps_ret (pe_op op_cat (pe_op op_cat (pe_slice sl_list (pv 1) po_none (po_some (pv 3))) (pe_lst (pa_cons (pv 5) pa_nil))) (pe_slice sl_list (pv 1) (po_some (pe_op op_add (pv 3) pe_int)) po_none))))
pss_nil)
(pss_one (ps_ret (pe_ifExp (pt_cmpR op_lt (pv 4) pe_int (nomark _)) (pe_op op_cat (pe_op op_cat (pe_slice sl_list (pv 1) po_none (po_some (pv 3))) (pe_lst (pa_cons (pv 5) pa_nil))) (pe_slice sl_list (pv 1) (po_some (pv 3)) po_none)) (pe_op op_cat (pv 1) (pe_lst (pa_cons (pv 5) pa_nil))))))))))), ?_⟩
    refine seq_r ⟨_, rfl, _, rfl, wp, _, rfl, .inl (.inl (.inl hw)), a, c, _, rfl, by rw [List.length_map]; omega, by rw [List.length_map]; omega, pen, fun d1 H1 d10 d11 o1 pen1 => ⟨_, rfl, a, c, 6, rfl, by decide, by decide, pen1, fun d2 H2 d20 d21 o2 pen2 => ⟨_, _, rfl, ?_⟩⟩⟩
    dsimp only
    have k1 := pen.only (Tb := TbA A) o1
    have k2 := pen1.only (Tb := TbA A) o2
    have hw2 : H2 wp = some (.lst (ws.map wV)) := (o2 wp n1).trans ((o1 wp n1).trans hw)
    have ho2 : H2 op = some (.lst (os.map wV)) := (o2 op n2).trans ((o1 op n2).trans ho)
    obtain ⟨w0, wt, ew⟩ : ∃ w0 wt, ws = w0 :: wt := by
      cases ws with
      | nil => simp at h1
      | cons a b => exact ⟨a, b, rfl⟩
    have hne : ws ≠ [] := by rw [ew]; simp
    have elast : atI (ws.map wV) (-1) = some (wV (ws.getLast hne)) := by
      have h0 : ∀ z, ws.getLast hne = z → atI (ws.map wV) (-1) = some (wV z) := fun z hz => by
        have e : ws = ws.dropLast ++ [z] := by rw [← hz]; exact (List.dropLast_concat_getLast hne).symm
        rw [e, List.map_append]
        exact atI_last _ _
      exact h0 _ rfl
    refine seq_r (asg_r ⟨_, rfl, _, rfl, _, rfl, wp, _, ((0 : Nat) : Int), wV w0, rfl, rfl, .inl (.inl hw2), atI_nat (by rw [ew]; rfl), _, rfl, 1, rfl, wp, _, _, _, rfl, rfl, .inl (.inl hw2), elast, ⟨by simp; omega, fun e he => ?_⟩⟩)
    have se := same_upd (o := .lst [wV w0, wV (ws.getLast hne)]) he
    refine ⟨op, e, _, _, rfl, rfl, se _ _ ho2, upd_same, by simp; omega, fun pl hpl => ?_⟩
    have sp := same_upd (o := .lst (os.map wV ++ [wV w0, wV (ws.getLast hne)])) hpl
    have pen3 := (pen2.same se).same sp
    refine ⟨a, c, pl, _, rfl, by simp, by simp; omega, ((pen2.same se).ne hpl).1, upd_same, pen3, fun x H3 hx o3 pen4 => ?_⟩
    dsimp only [gName]
    obtain ⟨odd, rfl, hodd⟩ : ∃ odd, x = wV odd ∧ (odd ∈ ws ∨ odd ∈ os) := by
      rcases List.mem_append.mp hx with h | h
      · obtain ⟨z, hz, rfl⟩ := List.mem_map.mp h
        exact ⟨z, rfl, .inr hz⟩
      · have h2 : x = wV w0 ∨ x = wV (ws.getLast hne) := by simpa using h
        rcases h2 with h | h
        · exact ⟨w0, h, .inl (by rw [ew]; simp)⟩
        · exact ⟨_, h, .inl (List.getLast_mem hne)⟩
    have k3 : Kp (TbA A) [a] H H3 := k1.trans (k2.trans ((Kp.same (se)).trans ((Kp.same sp).trans (pen3.only o3))))
    have hw3 : H3 wp = some (.lst (ws.map wV)) := (o3 wp n1).trans (sp _ _ (se _ _ hw2))
    obtain ⟨j, ej⟩ : ∃ j : Nat, d1 = (j : Int) := ⟨d1.toNat, by omega⟩
    have hj : j < ws.length := by rw [List.length_map] at d11; omega
    subst ej
    obtain ⟨b1, eb1⟩ := bx (decide (V.int d2 = V.int 0))
    refine seq_r (if_r ⟨_, rfl, rfl, b1, congrArg V.bl eb1, ?_⟩)
    cases b1 with
    | true =>
      refine ifT rfl (ret_r ⟨_, rfl, _, rfl, _, rfl, wp, _, rfl, .inl (.inl hw3), fun p1 hp1 => ?_⟩)
      rw [cut_to ws (by omega)]
      have sp1 := same_upd (o := .lst ((ws.take j).map wV)) hp1
      refine ⟨_, rfl, _, rfl, _, _, rfl, rfl, _, rfl, wp, _, rfl, .inl (.inl (sp1 _ _ hw3)), fun p2 hp2 => ?_⟩
      have ejj : ((j : Nat) : Int) + 1 = ((j + 1 : Nat) : Int) := by omega
      rw [ejj, cut_from ws (by omega)]
      have sp2 := same_upd (o := .lst ((ws.drop (j + 1)).map wV)) hp2
      refine ⟨p1, p2, _, _, rfl, rfl, sp2 _ _ upd_same, upd_same, by simp; omega, fun p3 hp3 => ?_⟩
      have sp3 := same_upd (o := .lst ((ws.take j).map wV ++ (ws.drop (j + 1)).map wV)) hp3
      have s13 := same_trans sp1 (same_trans sp2 sp3)
      refine q p3 (ws.take j ++ ws.drop (j + 1)) _ (k3.trans (Kp.same s13)) (pen4.same s13) (by rw [upd_same, List.map_append]) (fun z hz => .inl ?_) (fun z => ?_) ?_
      · rcases List.mem_append.mp hz with h | h
        · exact List.mem_of_mem_take h
        · exact List.mem_of_mem_drop h
      · have := congrArg List.length z
        rw [List.length_append, List.length_take, List.length_drop, List.length_nil] at this
        omega
      · rw [List.length_append, List.length_take, List.length_drop]; omega
    | false =>
      refine ifF rfl ?_
      dsimp only [tNext]
      have ejj : ((j : Nat) : Int) + 1 = ((j + 1 : Nat) : Int) := by omega
      obtain ⟨b2, eb2⟩ := bx (decide (V.int d2 = V.int 1))
      refine seq_r (if_r ⟨_, rfl, rfl, b2, congrArg V.bl eb2, ?_⟩)
      cases b2 with
      | true =>
        refine ifT rfl (ret_r ⟨_, rfl, _, rfl, _, rfl, wp, _, rfl, .inl (.inl hw3), fun p1 hp1 => ?_⟩)
        rw [cut_to ws (by omega)]
        have sp1 := same_upd (o := .lst ((ws.take j).map wV)) hp1
        refine ⟨_, rfl, _, rfl, _, rfl, _, rfl, _, _, rfl, rfl, _, rfl, wp, _, rfl, .inl (.inl (sp1 _ _ hw3)), fun p2 hp2 => ?_⟩
        rw [cut_at ws hj]
        have sp2 := same_upd (o := .lst (((ws.drop j).take 1).map wV)) hp2
        refine ⟨p1, p2, _, _, rfl, rfl, sp2 _ _ upd_same, upd_same, by simp; omega, fun p3 hp3 => ?_⟩
        have sp3 := same_upd (o := .lst ((ws.take j).map wV ++ ((ws.drop j).take 1).map wV)) hp3
        have s13 := same_trans sp1 (same_trans sp2 sp3)
        refine ⟨_, rfl, _, rfl, _, rfl, wp, _, rfl, .inl (.inl (s13 _ _ hw3)), fun p4 hp4 => ?_⟩
        rw [cut_from ws (by omega)]
        have sp4 := same_upd (o := .lst ((ws.drop j).map wV)) hp4
        refine ⟨p3, p4, _, _, rfl, rfl, sp4 _ _ upd_same, upd_same, by simp; omega, fun p5 hp5 => ?_⟩
        have sp5 := same_upd (o := .lst (((ws.take j).map wV ++ ((ws.drop j).take 1).map wV) ++ (ws.drop j).map wV)) hp5
        have s15 := same_trans s13 (same_trans sp4 sp5)
        refine q p5 (ws.take j ++ (ws.drop j).take 1 ++ ws.drop j) _ (k3.trans (Kp.same s15)) (pen4.same s15) (by rw [upd_same, List.map_append, List.map_append]) (fun z hz => .inl ?_) (fun z => ?_) ?_
        · rcases List.mem_append.mp hz with h | h
          · rcases List.mem_append.mp h with h | h
            · exact List.mem_of_mem_take h
            · exact List.mem_of_mem_drop (List.mem_of_mem_take h)
          · exact List.mem_of_mem_drop h
        · have := congrArg List.length z
          rw [List.length_append, List.length_append, List.length_take, List.length_take, List.length_drop, List.length_nil] at this
          omega
        · rw [List.length_append, List.length_append, List.length_take, List.length_take, List.length_drop]; omega
      | false =>
        refine ifF rfl ?_
        dsimp only [tNext]
        obtain ⟨b4, eb4⟩ := bx (decide (V.int d2 = V.int 2))
        refine seq_r (if_r ⟨_, rfl, rfl, b4, congrArg V.bl eb4, ?_⟩)
        cases b4 with
        | true =>
          refine ifT rfl (ret_r ⟨_, rfl, _, rfl, _, rfl, wp, _, rfl, .inl (.inl hw3), fun p1 hp1 => ?_⟩)
          rw [cut_to ws (by omega)]
          have sp1 := same_upd (o := .lst ((ws.take j).map wV)) hp1
          refine ⟨_, rfl, by simp; omega, fun p2 hp2 => ?_⟩
          have sp2 := same_upd (o := .lst [wV odd]) hp2
          refine ⟨p1, p2, _, _, rfl, rfl, sp2 _ _ upd_same, upd_same, by simp; omega, fun p3 hp3 => ?_⟩
          have sp3 := same_upd (o := .lst ((ws.take j).map wV ++ [wV odd])) hp3
          have s13 := same_trans sp1 (same_trans sp2 sp3)
          refine ⟨_, rfl, _, rfl, _, _, rfl, rfl, _, rfl, wp, _, rfl, .inl (.inl (s13 _ _ hw3)), fun p4 hp4 => ?_⟩
          rw [ejj, cut_from ws (by omega)]
          have sp4 := same_upd (o := .lst ((ws.drop (j + 1)).map wV)) hp4
          refine ⟨p3, p4, _, _, rfl, rfl, sp4 _ _ upd_same, upd_same, by simp; omega, fun p5 hp5 => ?_⟩
          have sp5 := same_upd (o := .lst (((ws.take j).map wV ++ [wV odd]) ++ (ws.drop (j + 1)).map wV)) hp5
          have s15 := same_trans s13 (same_trans sp4 sp5)
          refine q p5 (ws.take j ++ [odd] ++ ws.drop (j + 1)) _ (k3.trans (Kp.same s15)) (pen4.same s15) (by rw [upd_same, List.map_append, List.map_append]; rfl) (fun z hz => ?_) (by simp) (by simp; omega)
          rcases List.mem_append.mp hz with h | h
          · rcases List.mem_append.mp h with h | h
            · exact .inl (List.mem_of_mem_take h)
            · rw [List.mem_singleton.mp h]; exact hodd
          · exact .inl (List.mem_of_mem_drop h)
        | false =>
          refine ifF rfl ?_
          dsimp only [tNext]
          obtain ⟨b5, eb5⟩ := bx (decide (d2 < 5))
          refine ret_r ⟨_, rfl, _, _, rfl, rfl, b5, congrArg V.bl eb5, ?_⟩
          cases b5 with
          | true =>
            refine ifT rfl ⟨_, rfl, _, rfl, _, rfl, wp, _, rfl, .inl (.inl hw3), fun p1 hp1 => ?_⟩
            rw [cut_to ws (by omega)]
            have sp1 := same_upd (o := .lst ((ws.take j).map wV)) hp1
            refine ⟨_, rfl, by simp; omega, fun p2 hp2 => ?_⟩
            have sp2 := same_upd (o := .lst [wV odd]) hp2
            refine ⟨p1, p2, _, _, rfl, rfl, sp2 _ _ upd_same, upd_same, by simp; omega, fun p3 hp3 => ?_⟩
            have sp3 := same_upd (o := .lst ((ws.take j).map wV ++ [wV odd])) hp3
            have s13 := same_trans sp1 (same_trans sp2 sp3)
            refine ⟨_, rfl, _, rfl, _, rfl, wp, _, rfl, .inl (.inl (s13 _ _ hw3)), fun p4 hp4 => ?_⟩
            rw [cut_from ws (by omega)]
            have sp4 := same_upd (o := .lst ((ws.drop j).map wV)) hp4
            refine ⟨p3, p4, _, _, rfl, rfl, sp4 _ _ upd_same, upd_same, by simp; omega, fun p5 hp5 => ?_⟩
            have sp5 := same_upd (o := .lst (((ws.take j).map wV ++ [wV odd]) ++ (ws.drop j).map wV)) hp5
            have s15 := same_trans s13 (same_trans sp4 sp5)
            refine q p5 (ws.take j ++ [odd] ++ ws.drop j) _ (k3.trans (Kp.same s15)) (pen4.same s15) (by rw [upd_same, List.map_append, List.map_append]; rfl) (fun z hz => ?_) (by simp) (by simp; omega)
            rcases List.mem_append.mp hz with h | h
            · rcases List.mem_append.mp h with h | h
              · exact .inl (List.mem_of_mem_take h)
              · rw [List.mem_singleton.mp h]; exact hodd
            · exact .inl (List.mem_of_mem_drop h)
          | false =>
            refine ifF rfl ⟨_, rfl, _, rfl, by simp; omega, fun p2 hp2 => ?_⟩
            have sp2 := same_upd (o := .lst [wV odd]) hp2
            refine ⟨wp, p2, _, _, rfl, rfl, sp2 _ _ hw3, upd_same, by simp; omega, fun p3 hp3 => ?_⟩
            have sp3 := same_upd (o := .lst (ws.map wV ++ [wV odd])) hp3
            have s13 := same_trans sp2 sp3
            refine q p3 (ws ++ [odd]) _ (k3.trans (Kp.same s13)) (pen4.same s13) (by rw [upd_same, List.map_append]; rfl) (fun z hz => ?_) (by simp) (by simp)
            rcases List.mem_append.mp hz with h | h
            · exact .inl h
            · rw [List.mem_singleton.mp h]; exact hodd
end
end SV
namespace SV
open PySem PySem.Spec PyProof.Rows L2 TL LamX NdefX
/-! ### k96: the law's helpers -/
section
variable {P : Program} {w : World} {K : PySem.W.Frag} {mg : Str → Option Value} {base : Heap} {A : Ad}
/-- the captured cells untold: data stays -/
theorem hide_seqL {cl : List (Str × Addr)} {fr : List Str} {ws : List (Option V)} {H : Hp} {a : Addr} {xs : List V} (c : CellsZ cl fr ws H) (h : SqL K H a xs) : SqL K (hideC (CS cl) H) a xs := by
  rcases h with (h | ⟨o, h⟩) | h
  · exact .inl (.inl (hide_at c h lst_cellZ))
  · exact .inl (.inr ⟨o, hide_at c h fun ob z => by unfold cellZ at z; cases z⟩)
  · exact .inr h
mutual
theorem hide_dp {cl : List (Str × Addr)} {fr : List Str} {ws : List (Option V)} {H : Hp} (c : CellsZ cl fr ws H) : ∀ (d : PyData) (v : V), Dp K H v d → Dp K (hideC (CS cl) H) v d
  | .none, _, h => by cases h; exact .non
  | .bool _, _, h => by cases h; exact .bl _
  | .int _, _, h => by cases h; exact .int _
  | .str _, _, h => by cases h; exact .str _
  | .list ds, _, h => by
    cases h with
    | lst hs ha => exact .lst (hide_seqL c hs) (hide_dpAll c ds _ ha)
  | .tuple ds, _, h => by
    cases h with
    | tup hs ha => exact .tup (hide_seqT c hs) (hide_dpAll c ds _ ha)
  | .dict _, _, h => by cases h
theorem hide_dpAll {cl : List (Str × Addr)} {fr : List Str} {ws : List (Option V)} {H : Hp} (c : CellsZ cl fr ws H) : ∀ (ds : List PyData) (vs : List V), DpAll K H vs ds → DpAll K (hideC (CS cl) H) vs ds
  | [], _, h => by cases h; exact .nil
  | d :: ds, _, h => by
    cases h with
    | cons h1 h2 => exact .cons (hide_dp c d _ h1) (hide_dpAll c ds _ h2)
end
/-- lambda: piece_of_text(value), value no text -/
def spLV (K : PySem.W.Frag) (A : Ad) (cl : List (Str × Addr)) (v : V) (d : PyData) : Sp := fun vs H _ E => vs = [] ∧ CellsZ cl ["value"] [some v] H ∧ Dp K H v d ∧ isD "str" d = false ∧ exK A [] H E 0 0
theorem lok_value (T : Txt K mg A) (TB : TbOk base mg A) {F : LF} {f : Addr} {v : V} {d : PyData} {p1 p2 p3 : Pos} (hs : NScope ["value"] [] ["value"] F.scope) (hg : F.scope.names.lookup ("piece_of_text" : Str) = some .globalImplicit) (hb : ∀ (pm ctv : Value), bindArgs (F.fd pm ctv) ⟨[], []⟩ = pure []) (hbody : F.body = .Call (.Name "piece_of_text" p1) [.Name "value" p2] [] p3) :
    LOk P w K mg base (L2.CX P w) 22 f F 0 (spLV K A F.cl v d) := by
  refine (lok_of (k := 20) (N := ["value"]) (ps := []) (fr := ["value"]) hidesX hs (fun pm ctv us hu => ?_) (fun vs H Q E h => ?_) (fun A1 outer1 s1 H2 vs Q1 E1 hr1 hf1 hc1 h1 => ?_)).mono (by decide)
  · cases us with
    | nil => exact hb pm ctv
    | cons _ _ => cases hu
  · rw [h.1]; rfl
  · obtain ⟨rfl, cz, hd, hst, hE⟩ := h1
    refine ⟨_, tCall (spPiece K A) [] (fun cls d H' => (∀ b, CS F.cl b → H' b = none) → E1 cls d (restC (CS F.cl) H2 H')) (tCons (tVar 0) tNil), cz, ?_, ?_⟩
    · rw [hbody]
      exact pe_callD passN (ok_piece_of_text T TB) hr1 (by decide) hg T.m_piece_of_text (pa_cons (pv 0 rfl (.inr (.inr (hs.frk "value" (by simp))))) pa_nil)
    · refine ⟨v, rfl, .inr ⟨v, _, rfl, dp_ty (hide_dp cz d v hd), ?_, fun dd H' k' hdd hn => ?_⟩⟩
      · have z := kit_str d
        rw [hst] at z
        exact kit_ty z
      · refine hE dd _ (Kp.rest cz hn k') ?_
        rw [restC_out fun z => by rw [hn dd z] at hdd; cases hdd]
        exact hdd
/-- a word of a row -/
structure WOk (z : List Nat) : Prop where
  ne : z ≠ []
  sp : 32 ∉ z
  nl : 10 ∉ z
  n : z.length ≤ 20
  ch : ChOk z
def wokB (z : List Nat) : Bool := !z.isEmpty && !z.contains 32 && !z.contains 10 && decide (z.length ≤ 20) && z.all fun c => decide (c < 1114112)
theorem wok_of {z : List Nat} (h : wokB z = true) : WOk z := by
  unfold wokB at h
  simp only [Bool.and_eq_true, Bool.not_eq_true', decide_eq_true_eq, List.all_eq_true] at h
  obtain ⟨⟨⟨⟨h1, h2⟩, h3⟩, h4⟩, h5⟩ := h
  refine ⟨fun e => by rw [e] at h1; simp at h1, fun e => ?_, fun e => ?_, h4, h5⟩
  · rw [List.contains_iff_mem.mpr e] at h2; cases h2
  · rw [List.contains_iff_mem.mpr e] at h3; cases h3
theorem wok_num {z : Int} (h1 : -9999 ≤ z) (h2 : z ≤ 9999) : WOk (numL z) := by
  obtain ⟨_, _, t3, t4, t5⟩ := num_facts h1 h2
  refine ⟨t4, fun e => ?_, fun e => ?_, by omega, fun c hc => ?_⟩
  · have := t5 _ e; omega
  · have := t5 _ e; omega
  · have := t5 _ hc; omega
structure RowOk (ws : List (List Nat)) : Prop where
  ne : ws ≠ []
  n : ws.length ≤ 8
  w : ∀ z ∈ ws, WOk z
structure RowsOk (wss : List (List (List Nat))) : Prop where
  ne : wss ≠ []
  n : wss.length ≤ 4
  w : ∀ ws ∈ wss, RowOk ws
theorem RowsOk.fit {wss : List (List (List Nat))} (h : RowsOk wss) : Fit wss := ⟨by have := h.n; omega, fun ws hw => ⟨by have := (h.w ws hw).n; omega, fun x hx => ((h.w ws hw).w x hx).n⟩⟩
theorem RowsOk.words {wss : List (List (List Nat))} (h : RowsOk wss) : ∀ ws ∈ wss, WordsOk ws ∧ ws ≠ [] ∧ ∀ x ∈ ws, ChOk x := fun ws hw => ⟨fun x hx => ⟨((h.w ws hw).w x hx).ne, ((h.w ws hw).w x hx).sp, ((h.w ws hw).w x hx).nl⟩, (h.w ws hw).ne, fun x hx => ((h.w ws hw).w x hx).ch⟩
theorem RowsOk.ch {wss : List (List (List Nat))} (h : RowsOk wss) : CharOk (textL wss) := fun c hc => by
  unfold textL at hc
  obtain ⟨l, hl, hc⟩ := List.mem_flatten.mp hc
  obtain ⟨ws, hw, rfl⟩ := List.mem_map.mp hl
  unfold lineL at hc
  rcases List.mem_append.mp hc with z | z
  · rcases join_mem z with z | ⟨x, hx, z⟩
    · rw [List.mem_singleton.mp z]; decide
    · exact ((h.w ws hw).w x hx).ch c z
  · rw [List.mem_singleton.mp z]; decide
theorem e_snn : (Str.ofString " \n\n") = S [32, 10, 10] := by decide +kernel
end
end SV
namespace SV
open PySem PySem.Spec PyProof.Rows L2 TL LamX NdefX
/-! ### k96: the law -/
def spLaw (K : PySem.W.Frag) (A : Ad) : Sp := fun vs H Q _ => ∃ (a : Addr) (ns : List Int), vs = [.ref a] ∧ SqL K H a (ns.map V.int) ∧ ns.length ≤ 90000 ∧ Tabs (TbA A) H ∧ ∀ H', Q (.bl true) H'
abbrev rStrI : List V → Hp → VK → Prop := fun xs H Q => ∃ i, xs = [.int i] ∧ i.natAbs.log2 < 1920 ∧ Q (.str (toString i)) H
theorem log_small {i : Int} (h1 : -9999 ≤ i) (h2 : i ≤ 9999) : i.natAbs.log2 < 1920 := by
  have : i.natAbs < 2 ^ 14 := by omega
  by_cases h : i.natAbs = 0
  · rw [h]; decide
  · have := (Nat.log2_lt h).mpr this
    omega
def oddsL : List (List Nat) := ["melody", "voice", "00", "-0", "12345", "-1234", "x", "5", "+1", "--1"].map fun x => cs (Str.ofString x)
theorem odds_ok : ∀ z ∈ oddsL, WOk z := by
  have h : oddsL.all wokB = true := by decide +kernel
  exact fun z hz => wok_of (List.all_eq_true.mp h z hz)
theorem odds_V : ([.str "melody", .str "voice", .str "00", .str "-0", .str "12345", .str "-1234", .str "x", .str "5", .str "+1", .str "--1"] : List V) = oddsL.map wV := by
  unfold oddsL wV
  simp only [List.map_cons, List.map_nil, S_cs]
section
variable {P : Program} {w : World} {K : PySem.W.Frag} {mg : Str → Option Value} {base : Heap} {A : Ad}
theorem pick1 {σ : L2.St} {H : Hp} {Q : VK} {a c : Addr} {v1 v2 v3 : V} (h0 : σ[1]? = some (some (.ref a))) (pen : PenAt H a c) (hq : ∀ x H2, x = v1 ∨ x = v2 ∨ x = v3 → Kp (TbA A) [a] H H2 → PenAt H2 a c → Q x H2) :
    tCall (spPick K) [] EN (tCons (tVar 1) (tCons (tLst (tCons (tC v1) (tCons (tC v2) (tCons (tC v3) tNil)))) tNil)) σ H Q := by
  have hb := big
  refine ⟨_, h0, by simp; omega, fun t ht => ⟨a, c, t, _, rfl, by simp, by simp, (pen.ne ht).1, upd_same, pen.same (same_upd ht), fun x H2 hx o2 pen2 => hq x H2 (by simpa using hx) ((Kp.new ht).trans ((pen.same (same_upd ht)).only o2)) pen2⟩⟩
/-- [word] + [str(draw - 4) for beat in range(many)] -/
theorem row_r {σ : L2.St} {H : Hp} {Q : VK} {a c : Addr} {m : Int} {x : Str} {wd : List Nat} (ex : x = S wd) (hx : WOk wd) (h1 : ∀ y, ((wipe σ [9]).set 9 (some y))[1]? = some (some (.ref a))) (h3 : σ[3]? = some (some (.int m))) (hs2 : ∀ y, wipe ((wipe σ [9]).set 9 (some y)) [9] = wipe σ [9]) (m1 : 1 ≤ m) (m2 : m ≤ 5) (pen : PenAt H a c)
    (q : ∀ r ws H', Kp (TbA A) [a] H H' → PenAt H' a c → H' r = some (.lst (ws.map wV)) → r ≠ a → RowOk ws → 2 ≤ ws.length → ws.length ≤ 6 → Q (.ref r) H') :
    tOp rCat (tLst (tCons (tC (.str x)) tNil)) (tLc (iRng1 (tCons (tVar 3) tNil)) (gName 9) tYes (tCB rStrI (tCons (tOp (rI0 fun i j => .int (i - j)) (tCall spDraw [] EN (tCons (tVar 1) (tCons (tC (.int 9)) tNil))) (tC (.int 4))) tNil)) [9]) σ H Q := by
  have hb := big
  refine ⟨by simp; omega, fun l1 hl1 => ?_⟩
  have s1 := same_upd (o := .lst [.str x]) hl1
  have pen1 := pen.same s1
  have hl1' : upd H l1 (.lst [.str x]) l1 = some (.lst [.str x]) := upd_same
  have n1 := (pen.ne hl1).1
  generalize upd H l1 (.lst [.str x]) = H1 at s1 pen1 hl1'
  refine ⟨_, h3, m, rfl, by omega, by omega, fun D hD => ?_⟩
  have neD := pen1.ne hD
  have nl1 : l1 ≠ D := fun z => by rw [← z, hl1'] at hD; cases hD
  refine lc_it (walk_range (lo := 0) (n := m.toNat)) (fun i H' => ∃ zs : List (List Nat), H' D = some (.lst (zs.map wV)) ∧ zs.length = i ∧ (∀ z ∈ zs, WOk z) ∧ PenAt H' a c ∧ Kp (TbA A) [D, a] H1 H') ⟨[], upd_same, rfl, by simp, pen1.same (same_upd hD), Kp.new hD⟩ (fun _ _ _ _ => trivial) ?_ ?_
  · rintro j y H5 _ hj ⟨zs, h5, hzl, hzs, pen5, k5⟩ ⟨rfl, rfl⟩
    refine ⟨hs2 _, ⟨_, h1 _, a, c, 9, rfl, by decide, by decide, pen5, fun d H6 d0 d1 o6 pen6 => ⟨_, _, rfl, rfl, _, rfl, log_small (by omega) (by omega), ?_⟩⟩⟩
    have e : V.str (toString (d - 4)) = wV (numL (d - 4)) := by unfold wV; rw [S_cs]
    have k6 := pen5.only (Tb := TbA A) o6
    have h6 : H6 D = some (.lst (zs.map wV)) := (o6 D neD.1).trans h5
    have kU : Kp (TbA A) [D] H6 (upd H6 D (.lst (zs.map wV ++ [wV (numL (d - 4))]))) := Kp.put h6 (by simp) noTbl_lst (fun φ z => by cases z)
    refine ⟨_, h6, by rw [List.length_map]; omega, zs ++ [numL (d - 4)], ?_, by simp [hzl], fun z hz => ?_, ?_, ?_⟩
    · rw [e, upd_same, List.map_append]; rfl
    · rcases List.mem_append.mp hz with z1 | z1
      · exact hzs z z1
      · rw [List.mem_singleton.mp z1]; exact wok_num (by omega) (by omega)
    · rw [e]; exact pen6.kp kU (by simpa using neD.1.symm) (by simpa using neD.2.symm)
    · rw [e]; exact k5.trans ((k6.mono (by simp)).trans (kU.mono (by simp)))
  · rintro H5 ⟨zs, h5, hzl, hzs, pen5, k5⟩
    have hl5 : H5 l1 = some (.lst [.str x]) := k5.k _ _ hl1' (by simp [nl1, n1]) noTbl_lst
    refine ⟨l1, D, _, _, rfl, rfl, hl5, h5, by simp; omega, fun p hp => ?_⟩
    have sp := same_upd (o := .lst ([.str x] ++ zs.map wV)) hp
    refine q p (wd :: zs) _ ((Kp.drop (Kp.same s1) hD ((Kp.same s1).trans k5)).trans (Kp.same sp)) (pen5.same sp) ?_ ((pen5.ne hp).1) ⟨by simp, by simp; omega, fun z hz => ?_⟩ (by simp; omega) (by simp; omega)
    · rw [upd_same, ex]; rfl
    · rcases List.mem_cons.mp hz with e | e
      · rw [e]; exact hx
      · exact hzs z e
theorem pen_no {H : Hp} {a c L x y : Addr} (p : PenAt H a c) (h : H L = some (.lst [.ref x, .ref y])) : c ∉ [L] := fun z => by
  obtain ⟨ns, _, _, _, _, _, hc, _⟩ := p
  rw [List.mem_singleton.mp z, h] at hc
  injection hc with hc
  injection hc with hc
  cases ns with
  | nil => cases hc
  | cons n t => rw [List.map_cons] at hc; injection hc with e _; cases e
theorem ok_law {fd : FuncData} (T : Txt K mg A) (TB : TbOk base mg A) (TN : TxtN K mg A) (TX : TxtX K mg A A.BT) (KT : Kits K A) (FL : FunC K "law" "law" s_law A.law fd A.c_law) : FnP noG P w K mg base (L2.CX P w) 28 A.law fd ["script"] (spLaw K A) := by
  refine FL.ok (k := 27) sc_law (fun vs H Q E h => ?_) (fun A' outer s H vs Q E hA hr h => ?_)
  · obtain ⟨a, ns, rfl, _⟩ := h; rfl
  · obtain ⟨a, ns, rfl, hs, hns, hTb, q⟩ := h
    have hb := big
    have hu : A'.units + 80 < cLine := by have := hr.un; simp only [Around.deeper] at this; omega
    have hu3 : A'.units + 67 < cLine := by omega
    refine ⟨_, (pss_cons (ps_set (i := 1) sc_law.nd rfl (.inr rfl) (pe_callD pass00 (ok_law_pen T) hr (by decide) rfl T.m_law_pen (pa_cons (pv 0) pa_nil)))
(pss_cons (ps_for (passes_of rfl) rfl (pi_range1 (by rfl) T.n_range (pa_cons pe_int pa_nil)) (pg_name (i := 2) sc_law.nd rfl (.inl rfl))
(pss_cons (ps_set (i := 3) sc_law.nd rfl (.inl rfl) (pe_op op_add pe_int (pe_callD pass00 (ok_law_draw T) hr (by decide) rfl T.m_law_draw (pa_cons (pv 1) (pa_cons pe_int pa_nil)))))
(pss_cons (ps_set (i := 4) sc_law.nd rfl (.inl rfl) (pe_lst (pa_cons (pe_op op_cat (pe_lst (pa_cons pe_str pa_nil)) (pe_lc (own := [("beat", 9)]) rfl sc_law.nd (pi_range1 (by rfl) T.n_range (pa_cons (pv 3) pa_nil)) (blkOk_by (own := [("beat", 9)]) (N := ["script", "pen", "lap", "many", "lines", "at", "way", "text", "value", "beat", "words"]) (sc := defScope s_law) (by decide +kernel)) (fun _ _ _ _ _ => (pg_name (i := 9) sc_law.nd rfl (.inl rfl))) (fun _ _ _ _ _ => pts_nil) (fun _ _ _ _ _ => (pe_callTy call_str_int (by rfl) T.n_str (by decide +kernel) (pa_cons (pe_op op_sub (pe_callD pass00 (ok_law_draw T) hr (by decide) rfl T.m_law_draw (pa_cons (pv 1) (pa_cons pe_int pa_nil))) pe_int) pa_nil))))) (pa_cons (pe_op op_cat (pe_lst (pa_cons pe_str pa_nil)) (pe_lc (own := [("beat", 9)]) rfl sc_law.nd (pi_range1 (by rfl) T.n_range (pa_cons (pv 3) pa_nil)) (blkOk_by (own := [("beat", 9)]) (N := ["script", "pen", "lap", "many", "lines", "at", "way", "text", "value", "beat", "words"]) (sc := defScope s_law) (by decide +kernel)) (fun _ _ _ _ _ => (pg_name (i := 9) sc_law.nd rfl (.inl rfl))) (fun _ _ _ _ _ => pts_nil) (fun _ _ _ _ _ => (pe_callTy call_str_int (by rfl) T.n_str (by decide +kernel) (pa_cons (pe_op op_sub (pe_callD pass00 (ok_law_draw T) hr (by decide) rfl T.m_law_draw (pa_cons (pv 1) (pa_cons pe_int pa_nil))) pe_int) pa_nil))))) pa_nil))))
(pss_cons (ps_par (i := 5) (j := 6) rfl sc_law.nd rfl rfl (by decide) rfl rfl (pa_cons (pe_callD pass00 (ok_law_draw T) hr (by decide) rfl T.m_law_draw (pa_cons (pv 1) (pa_cons pe_int pa_nil))) (pa_cons (pe_callD pass00 (ok_law_draw T) hr (by decide) rfl T.m_law_draw (pa_cons (pv 1) (pa_cons pe_int pa_nil))) pa_nil)) rfl)
(pss_cons (ps_if (pt_cmpR op_eq (pv 6) pe_int (nomark _))
(pss_one (ps_set (i := 4) sc_law.nd rfl (.inl rfl) (pe_op op_cat (pe_slice sl_list (pv 4) po_none (po_some (pv 5))) (pe_slice sl_list (pv 4) (po_some (pe_op op_add (pv 5) pe_int)) po_none))))
(pss_one (ps_if (pt_cmpR op_eq (pv 6) pe_int (nomark _))
(pss_one (ps_set (i := 4) sc_law.nd rfl (.inl rfl) (pe_revL (pv 4))))
(pss_one (ps_if (pt_cmpR op_eq (pv 6) pe_int (nomark _))
(pss_one (ps_set (i := 4) sc_law.nd rfl (.inl rfl) (pe_op op_cat (pv 4) (pe_slice sl_list (pv 4) (po_some (pv 5)) (po_some (pe_op op_add (pv 5) pe_int))))))
(pss_one (ps_asg (pe_callD pass00 (ok_law_bent_words T) hr (by decide) rfl T.m_law_bent_words (pa_cons (pv 1) (pa_cons (pe_ix ix_list (pv 4) (pv 5) (fun _ _ => rfl)) (pa_cons (pe_lst (pa_cons pe_str (pa_cons pe_str (pa_cons pe_str (pa_cons pe_str (pa_cons pe_str (pa_cons pe_str (pa_cons pe_str (pa_cons pe_str (pa_cons pe_str (pa_cons pe_str pa_nil))))))))))) pa_nil)))) (pg_sub (pv 4) (pv 5) set_list))))))))
(pss_cons (ps_set (i := 7) sc_law.nd rfl (.inl rfl) (pe_callD pass00 (ok_law_text T) hr (by decide) rfl T.m_law_text (pa_cons (pe_lc (own := [("words", 10)]) rfl sc_law.nd (pi_list (pv 4)) (blkOk_by (own := [("words", 10)]) (N := ["script", "pen", "lap", "many", "lines", "at", "way", "text", "value", "beat", "words"]) (sc := defScope s_law) (by decide +kernel)) (fun _ _ _ _ _ => (pg_name (i := 10) sc_law.nd rfl (.inl rfl))) (fun _ _ _ _ _ => (pts_one (pt_cmpR (r := rNeD K) (op_neD hu3) (pv 10) (pe_lst pa_nil) (nomark _)))) (fun _ _ _ _ _ => (pv 10))) pa_nil)))
(pss_one (ps_if (PW.pt (pw_or (pt_not (pt_val (pe_callD passE (ok_law_right T TB TN TX KT) hr (by decide) rfl T.m_law_right (pa_cons (pe_op op_add_str (pe_callD pass00 (ok_law_pick T) hr (by decide) rfl T.m_law_pick (pa_cons (pv 1) (pa_cons (pe_lst (pa_cons pe_str (pa_cons pe_str (pa_cons pe_str pa_nil)))) pa_nil))) (pv 7)) pa_nil)))) (pw_or (pt_not (pt_val (pe_callD passE (ok_law_right T TB TN TX KT) hr (by decide) rfl T.m_law_right (pa_cons (pe_slice sl_str (pv 7) po_none (po_some (pe_un un_neg pe_int))) pa_nil)))) (pw_or1 (pt_not (pt_val (pe_callD passE (ok_law_right T TB TN TX KT) hr (by decide) rfl T.m_law_right (pa_cons (pe_callD pass00 (ok_law_loose T) hr (by decide) rfl T.m_law_loose (pa_cons (pv 1) (pa_cons (pv 7) pa_nil))) pa_nil))))))))
(pss_one (ps_ret pe_bl))
pss_nil))))))))
(pss_cons (ps_for (passes_of rfl) rfl (pi_list (pe_lst (pa_cons pe_non (pa_cons pe_int (pa_cons (pe_lst (pa_cons pe_str pa_nil)) (pa_cons pe_bl pa_nil)))))) (pg_name (i := 8) sc_law.nd rfl (.inr rfl))
(pss_one (ps_if (pt_not (pt_val (pe_callD pass00 (ok_law_is T 2) hr (by decide) rfl T.m_law_is (pa_cons (pe_callDZ passE thawsX trivial (ok_law_caught T TN TX KT) hr (by decide) (fun _ => rfl) rfl T.m_law_caught (pa_cons (pe_lam (T := TbA A) TB.lw rfl (.tail _ (.tail _ (.tail _ (.tail _ (.head _))))) (tb_5 TB) (free_by (o := (defScope s_law).names) (by decide +kernel))) pa_nil)) (pa_cons (pe_tup (pa_cons pe_str (pa_cons pe_int (pa_cons pe_int pa_nil)))) pa_nil)))))
(pss_one (ps_ret pe_bl))
pss_nil)))
(pss_one (ps_ret (pe_and (pe_callD passE (ok_law_right T TB TN TX KT) hr (by decide) rfl T.m_law_right (pa_cons pe_str pa_nil)) (pe_and (pe_callD passE (ok_law_right T TB TN TX KT) hr (by decide) rfl T.m_law_right (pa_cons pe_str pa_nil)) (pe_and (pe_callD passE (ok_law_right T TB TN TX KT) hr (by decide) rfl T.m_law_right (pa_cons pe_str pa_nil)) (pe_and (pe_callD passE (ok_law_right T TB TN TX KT) hr (by decide) rfl T.m_law_right (pa_cons pe_str pa_nil)) (pe_one (pe_callD passE (ok_law_right T TB TN TX KT) hr (by decide) rfl T.m_law_right (pa_cons pe_str pa_nil)))))))))))), ?_⟩
    refine seq_r (asg_r ⟨_, rfl, a, ns, rfl, hs, hns, fun pen H1 s1 n1 c pen1 => ?_⟩)
    dsimp only [gName]
    have T1 := (Kp.same (Tb := TbA A) (M := []) s1).t hTb
    refine seq_r ⟨12, rfl, by decide, by decide, ?_⟩
    refine for_it (walk_range (lo := 0) (n := 12)) (fun i σ H' => (∃ x2 x3 x4 x5 x6 x7 x8 x9 x10, σ = [some (.ref a), some (.ref pen), x2, x3, x4, x5, x6, x7, x8, x9, x10]) ∧ PenAt H' pen c ∧ Tabs (TbA A) H') ⟨⟨none, none, none, none, none, none, none, none, none, rfl⟩, pen1, T1⟩ (fun _ _ _ _ _ => trivial) ?_ ?_
    rotate_left
    · rintro σ H2 ⟨⟨x2, x3, x4, x5, x6, x7, x8, x9, x10, rfl⟩, pen2, T2⟩
      refine seq_r ⟨by simp; omega, fun vl hvl => ⟨by simp; omega, fun gl hgl => ⟨gl, rfl, ⟨_, .inl (.inl upd_same)⟩, ?_⟩⟩⟩
      have svl := same_upd (o := .lst [.str "melody 0"]) hvl
      have sgl := same_upd (o := .lst [.non, .int 5, .ref vl, .bl true]) hgl
      have hvl3 := sgl _ _ (show upd H2 vl (.lst [.str "melody 0"]) vl = some (.lst [.str "melody 0"]) from upd_same)
      have hgl3 : upd (upd H2 vl (.lst [.str "melody 0"])) gl (.lst [.non, .int 5, .ref vl, .bl true]) gl = some (.lst [.non, .int 5, .ref vl, .bl true]) := upd_same
      have T3 := (Kp.same (Tb := TbA A) (M := []) (same_trans svl sgl)).t T2
      generalize upd (upd H2 vl (.lst [.str "melody 0"])) gl (.lst [.non, .int 5, .ref vl, .bl true]) = H3 at hvl3 hgl3 T3 ⊢
      refine for_it (walk_list (K := K) (a := gl) (xs := [.non, .int 5, .ref vl, .bl true])) (fun _ σ H' => (∃ x8, σ = [some (.ref a), some (.ref pen), x2, x3, x4, x5, x6, x7, x8, x9, x10]) ∧ Kp (TbA A) [] H3 H') ⟨⟨x8, rfl⟩, Kp.refl _ _ _⟩ (fun _ _ _ _ h => .inl (.inl (h.2.k _ _ hgl3 (by simp) noTbl_lst))) ?_ ?_
      · rintro j x σ H0 H4 hj ⟨⟨y8, rfl⟩, k4⟩ ⟨rfl, hx⟩
        dsimp only [gName]
        obtain ⟨d, hd, hst⟩ : ∃ d, Dp K H4 x d ∧ isD "str" d = false := by
          have hm := List.mem_of_getElem? hx
          have hm2 : x = .non ∨ x = .int 5 ∨ x = .ref vl ∨ x = .bl true := by simpa using hm
          rcases hm2 with e | e | e | e
          · exact ⟨.none, by rw [e]; exact .non, by decide +kernel⟩
          · exact ⟨.int 5, by rw [e]; exact .int _, by decide +kernel⟩
          · exact ⟨.list [.str "melody 0"], by rw [e]; exact .lst (.inl (.inl (k4.k _ _ hvl3 (by simp) noTbl_lst))) (.cons (.str _) .nil), by decide +kernel⟩
          · exact ⟨.bool true, by rw [e]; exact .bl _, by decide +kernel⟩
        have T4 := k4.t T3
        refine if_r (not_r (b_r ⟨T4, fun f c' H5 eH hT5 nf hf hc G fx => ?_⟩))
        have kH : Kp (TbA A) [] H4 H5 := Kp.lam eH hT5
        have kG : Kp (TbA A) [] H4 G := kH.trans (FrzX.kp fx)
        have eG : ∀ b o, H5 b = some o → noTbl o → G b = some o := fun b o e n => (FrzX.kp (Tb := TbA A) (M := []) fx).k b o e (by simp) n
        have hfG := eG _ _ hf noTbl_ext
        have hcG := eG _ _ hc noTbl_ext
        have cz := cz_lam (js := [8]) (fr := ["value"]) (defScope s_law).names hf fx rfl (by decide +kernel) (by decide +kernel) rfl
        have hdG : Dp K G x d := Kp.dp0 kG hd
        refine ⟨f, _, _, some (0, 0), rfl, hfG, hcG, lok_value (v := x) (d := d) T TB (nscope_by (by show nscB _ _ _ ⟨.function, [("piece_of_text", .globalImplicit), ("value", .free)], false, false, []⟩ = true; decide +kernel)) rfl (fun pm ctv => rfl) rfl, fun R E' h1 h2 => ⟨rfl, cz, hdG, hst, fun dd H' k' hd' => h2 0 0 rfl dd H' k' hd'⟩, fun z => (by cases z), fun n kk en t' Hf kf ht' => ?_⟩
        cases en
        have kF : Kp (TbA A) [] H4 (hideC _ Hf) := kH.trans (Kp.thaw fx (by simp) kf)
        have ht18 := thaw_at fx kf (by simp) ht' tup_cellZ
        refine ⟨by simp; omega, fun e he => ⟨.ref t', .ref e, .tuple [.str "text", .int 0, .int 0], rfl, .tup (.inl (.inl (same_upd he _ _ ht18))) (.cons (.str _) (.cons (.int _) (.cons (.int _) .nil))), .tup (.inl (.inl upd_same)) (.cons (.str _) (.cons (.int _) (.cons (.int _) .nil))), rfl, fun H9 s9 => ⟨_, rfl, ifF rfl ?_⟩⟩⟩
        exact ⟨⟨_, rfl⟩, k4.trans (kF.trans ((Kp.new he).trans (Kp.same s9)))⟩
      · rintro σ H4 ⟨⟨y8, rfl⟩, k4⟩
        dsimp only
        have T4 := k4.t T3
        have okS : ∀ x : Str, (cs x).length ≤ 80000 → CharOk (cs x) → ∀ (σ : L2.St) (H' : Hp) (Q : VK), Tabs (TbA A) H' → (∀ H'', Kp (TbA A) [] H' H'' → Q (.bl true) H'') → tCall (spRight A) [] E (tCons (tC (.str x)) tNil) σ H' Q := fun x h1 h2 σ H' Q h3 h4 => ⟨cs x, by rw [S_cs]; rfl, h1, h2, h3, h4⟩
        refine ret_r (and_r (okS _ (by decide +kernel) (by unfold CharOk; decide +kernel) _ _ _ T4 fun H5 k5 => ⟨_, rfl, ifT rfl ?_⟩))
        have T5 := k5.t T4
        refine and_r (okS _ (by decide +kernel) (by unfold CharOk; decide +kernel) _ _ _ T5 fun H6 k6 => ⟨_, rfl, ifT rfl ?_⟩)
        have T6 := k6.t T5
        refine and_r (okS _ (by decide +kernel) (by unfold CharOk; decide +kernel) _ _ _ T6 fun H7 k7 => ⟨_, rfl, ifT rfl ?_⟩)
        have T7 := k7.t T6
        refine and_r (okS _ (by decide +kernel) (by unfold CharOk; decide +kernel) _ _ _ T7 fun H8 k8 => ⟨_, rfl, ifT rfl ?_⟩)
        have T8 := k8.t T7
        exact okS _ (by decide +kernel) (by unfold CharOk; decide +kernel) _ _ _ T8 fun H9 k9 => q _
    rintro i x σ H2 _ hi ⟨⟨x2, x3, x4, x5, x6, x7, x8, x9, x10, rfl⟩, pen2, T2⟩ ⟨rfl, rfl⟩
    dsimp only [gName]
    refine seq_r (asg_r ⟨_, rfl, pen, c, 5, rfl, by decide, by decide, pen2, fun d0 H3 d00 d01 o3 pen3 => ⟨_, _, rfl, rfl, ?_⟩⟩)
    have k3 := pen2.only (Tb := TbA A) o3
    have T3 := k3.t T2
    dsimp only [gName]
    refine seq_r (asg_r (row_r (A := A) (a := pen) (c := c) (m := 1 + d0) e_mel (wok_of (by decide)) (fun _ => rfl) rfl (fun _ => rfl) (by omega) (by omega) pen3 fun r1 w1 H4 k4 pen4 h1r n1r ok1 l1a l1b => ?_))
    refine row_r (A := A) (a := pen) (c := c) (m := 1 + d0) e_voi (wok_of (by decide)) (fun _ => rfl) rfl (fun _ => rfl) (by omega) (by omega) pen4 fun r2 w2 H5 k5 pen5 h2r n2r ok2 l2a l2b => ?_
    have h1r5 := k5.k _ _ h1r (by simpa using n1r) noTbl_lst
    refine ⟨by simp; omega, fun L hL => ?_⟩
    have sL := same_upd (o := .lst [.ref r1, .ref r2]) hL
    have pen6 := pen5.same sL
    have hL6 : (upd H5 L (.lst [.ref r1, .ref r2])) L = some (.lst [.ref r1, .ref r2]) := upd_same
    have h16 := sL _ _ h1r5
    have h26 := sL _ _ h2r
    have nL := (pen5.ne hL).1
    have k6 : Kp (TbA A) [pen] H3 (upd H5 L (.lst [.ref r1, .ref r2])) := (k4.trans k5).trans (Kp.same sL)
    have T6 := k6.t T3
    generalize upd H5 L (.lst [.ref r1, .ref r2]) = H6 at pen6 hL6 h16 h26 T6 ⊢
    dsimp only [gName]
    refine seq_r ⟨_, rfl, pen, c, 2, rfl, by decide, by decide, pen6, fun d1 H7 d10 d11 o7 pen7 => ⟨_, rfl, pen, c, 6, rfl, by decide, by decide, pen7, fun d2 H8 d20 d21 o8 pen8 => ⟨_, _, rfl, ?_⟩⟩⟩
    dsimp only
    have T8 := (pen7.only (Tb := TbA A) o8).t ((pen6.only (Tb := TbA A) o7).t T6)
    have hL8 : H8 L = some (.lst [.ref r1, .ref r2]) := (o8 L nL).trans ((o7 L nL).trans hL6)
    have h18 : H8 r1 = some (.lst (w1.map wV)) := (o8 r1 n1r).trans ((o7 r1 n1r).trans h16)
    have h28 : H8 r2 = some (.lst (w2.map wV)) := (o8 r2 n2r).trans ((o7 r2 n2r).trans h26)
    refine seq_join (fun σ' H' => ∃ L' ys wss x5 x6, σ' = [some (.ref a), some (.ref pen), some (.int (0 + (i : Nat))), some (.int (1 + d0)), some (.ref L'), x5, x6, x7, x8, x9, x10] ∧ H' L' = some (.lst ys) ∧ All2 (LnW H') ys wss ∧ RowsOk wss ∧ PenAt H' pen c ∧ Tabs (TbA A) H') (fun D' _ hR => ?_) ?_
    · obtain ⟨b0, eb0⟩ := bx (decide (V.int d2 = V.int 0))
      refine if_r ⟨_, rfl, rfl, b0, congrArg V.bl eb0, ?_⟩
      have hd1 : d1 = 0 ∨ d1 = 1 := by omega
      cases b0 with
      | true =>
        refine ifT rfl (asg_r ⟨_, rfl, _, rfl, _, rfl, L, _, rfl, .inl (.inl hL8), fun p1 hp1 => ?_⟩)
        have sp1 := same_upd (o := .lst (cutV [V.ref r1, V.ref r2] none (some d1))) hp1
        refine ⟨_, rfl, _, rfl, _, _, rfl, rfl, _, rfl, L, _, rfl, .inl (.inl (sp1 _ _ hL8)), fun p2 hp2 => ?_⟩
        have sp2 := same_upd (o := .lst (cutV [V.ref r1, V.ref r2] (some (d1 + 1)) none)) hp2
        refine ⟨p1, p2, _, _, rfl, rfl, sp2 _ _ upd_same, upd_same, ?_, fun p3 hp3 => ?_⟩
        · rcases hd1 with rfl | rfl <;> exact (show (1 : Nat) ≤ sizeLine by omega)
        have sp3 := same_upd (o := .lst (cutV [V.ref r1, V.ref r2] none (some d1) ++ cutV [V.ref r1, V.ref r2] (some (d1 + 1)) none)) hp3
        have s13 := same_trans sp1 (same_trans sp2 sp3)
        dsimp only [gName]
        rcases hd1 with rfl | rfl
        · exact hR _ _ ⟨p3, [.ref r2], [w2], _, _, rfl, upd_same, .cons ⟨r2, rfl, s13 _ _ h28⟩ .nil, ⟨by simp, by simp, by simpa using ok2⟩, pen8.same s13, (Kp.same (M := []) s13).t T8⟩
        · exact hR _ _ ⟨p3, [.ref r1], [w1], _, _, rfl, upd_same, .cons ⟨r1, rfl, s13 _ _ h18⟩ .nil, ⟨by simp, by simp, by simpa using ok1⟩, pen8.same s13, (Kp.same (M := []) s13).t T8⟩
      | false =>
        refine ifF rfl ?_
        obtain ⟨b1, eb1⟩ := bx (decide (V.int d2 = V.int 1))
        refine if_r ⟨_, rfl, rfl, b1, congrArg V.bl eb1, ?_⟩
        cases b1 with
        | true =>
          refine ifT rfl (asg_r ⟨_, rfl, L, _, rfl, .inl (.inl hL8), fun p1 hp1 => ?_⟩)
          have sp1 := same_upd (o := .lst [V.ref r1, V.ref r2].reverse) hp1
          dsimp only [gName]
          exact hR _ _ ⟨p1, [.ref r2, .ref r1], [w2, w1], _, _, rfl, upd_same, .cons ⟨r2, rfl, sp1 _ _ h28⟩ (.cons ⟨r1, rfl, sp1 _ _ h18⟩ .nil), ⟨by simp, by simp, by simpa using ⟨ok2, ok1⟩⟩, pen8.same sp1, (Kp.same (M := []) sp1).t T8⟩
        | false =>
          refine ifF rfl ?_
          obtain ⟨b2, eb2⟩ := bx (decide (V.int d2 = V.int 2))
          refine if_r ⟨_, rfl, rfl, b2, congrArg V.bl eb2, ?_⟩
          cases b2 with
          | true =>
            refine ifT rfl (asg_r ⟨_, rfl, _, rfl, _, rfl, _, rfl, _, rfl, _, _, rfl, rfl, _, rfl, L, _, rfl, .inl (.inl hL8), fun p1 hp1 => ?_⟩)
            have sp1 := same_upd (o := .lst (cutV [V.ref r1, V.ref r2] (some d1) (some (d1 + 1)))) hp1
            refine ⟨L, p1, _, _, rfl, rfl, sp1 _ _ hL8, upd_same, ?_, fun p3 hp3 => ?_⟩
            · rcases hd1 with rfl | rfl <;> exact (show (3 : Nat) ≤ sizeLine by omega)
            have sp3 := same_upd (o := .lst ([V.ref r1, V.ref r2] ++ cutV [V.ref r1, V.ref r2] (some d1) (some (d1 + 1)))) hp3
            have s13 := same_trans sp1 sp3
            dsimp only [gName]
            rcases hd1 with rfl | rfl
            · exact hR _ _ ⟨p3, [.ref r1, .ref r2, .ref r1], [w1, w2, w1], _, _, rfl, upd_same, .cons ⟨r1, rfl, s13 _ _ h18⟩ (.cons ⟨r2, rfl, s13 _ _ h28⟩ (.cons ⟨r1, rfl, s13 _ _ h18⟩ .nil)), ⟨by simp, by simp, fun ws hw => by simp only [List.mem_cons, List.not_mem_nil, or_false] at hw; rcases hw with rfl | rfl | rfl <;> assumption⟩, pen8.same s13, (Kp.same (M := []) s13).t T8⟩
            · exact hR _ _ ⟨p3, [.ref r1, .ref r2, .ref r2], [w1, w2, w2], _, _, rfl, upd_same, .cons ⟨r1, rfl, s13 _ _ h18⟩ (.cons ⟨r2, rfl, s13 _ _ h28⟩ (.cons ⟨r2, rfl, s13 _ _ h28⟩ .nil)), ⟨by simp, by simp, by simpa using ⟨ok1, ok2⟩⟩, pen8.same s13, (Kp.same (M := []) s13).t T8⟩
          | false =>
            refine ifF rfl (asg_r ⟨_, rfl, _, rfl, _, rfl, L, _, _, (if d1 = 0 then V.ref r1 else V.ref r2), rfl, rfl, .inl (.inl hL8), ?_, ?_⟩)
            · rcases hd1 with rfl | rfl <;> rfl
            refine ⟨by simp; omega, fun op hop => ?_⟩
            have sop := same_upd (o := .lst (oddsL.map wV)) hop
            rw [odds_V]
            have hop' : upd H8 op (.lst (oddsL.map wV)) op = some (.lst (oddsL.map wV)) := upd_same
            have pen8' := pen8.same sop
            have nop := (pen8.ne hop).1
            have hL8' := sop _ _ hL8
            have h18' := sop _ _ h18
            have h28' := sop _ _ h28
            have T8' := (Kp.same (M := []) sop).t T8
            generalize upd H8 op (.lst (oddsL.map wV)) = H9 at hop' pen8' hL8' h18' h28' T8' ⊢
            have lo : oddsL.length ≤ 1000 := by decide
            have nw : ∀ (zs : List (List Nat)) (x y : Addr), HO.lst (zs.map wV) ≠ HO.lst [.ref x, .ref y] := fun zs x y e => by
              injection e with e
              cases zs with
              | nil => cases e
              | cons z t => rw [List.map_cons] at e; injection e with e1 _; cases e1
            rcases hd1 with rfl | rfl
            · refine ⟨pen, c, r1, op, w1, oddsL, rfl, pen8', n1r, nop, h18', hop', l1a, by omega, lo, fun r zs H10 k10 pen10 hr hz hne hzl => ?_⟩
              have hL10 := k10.k _ _ hL8' (by simpa using nL) noTbl_lst
              have kU : Kp (TbA A) [L] H10 (upd H10 L (.lst [.ref r, .ref r2])) := Kp.put hL10 (by simp) noTbl_lst (fun φ z => by cases z)
              have pU : PenAt (upd H10 L (.lst [.ref r, .ref r2])) pen c := pen10.kp kU (by simpa using nL.symm) (pen_no pen10 hL10)
              have hrU : upd H10 L (.lst [.ref r, .ref r2]) r = some (.lst (zs.map wV)) := (upd_ne (ne_of hr hL10 (nw _ _ _))).trans hr
              have h2U : upd H10 L (.lst [.ref r, .ref r2]) r2 = some (.lst (w2.map wV)) := (upd_ne (ne_of (k10.k _ _ h28' (by simpa using n2r) noTbl_lst) hL10 (nw _ _ _))).trans (k10.k _ _ h28' (by simpa using n2r) noTbl_lst)
              refine ⟨_, rfl, _, rfl, L, _, _, 0, rfl, rfl, hL10, rfl, ?_⟩
              refine hR _ _ ⟨L, [.ref r, .ref r2], [zs, w2], _, _, rfl, upd_same, .cons ⟨r, rfl, hrU⟩ (.cons ⟨r2, rfl, h2U⟩ .nil), ⟨by simp, by simp, by simpa using ⟨⟨hne, by omega, fun z h => (hz z h).elim (ok1.w z) (odds_ok z)⟩, ok2⟩⟩, pU, kU.t (k10.t T8')⟩
            · refine ⟨pen, c, r2, op, w2, oddsL, rfl, pen8', n2r, nop, h28', hop', l2a, by omega, lo, fun r zs H10 k10 pen10 hr hz hne hzl => ?_⟩
              have hL10 := k10.k _ _ hL8' (by simpa using nL) noTbl_lst
              have kU : Kp (TbA A) [L] H10 (upd H10 L (.lst [.ref r1, .ref r])) := Kp.put hL10 (by simp) noTbl_lst (fun φ z => by cases z)
              have pU : PenAt (upd H10 L (.lst [.ref r1, .ref r])) pen c := pen10.kp kU (by simpa using nL.symm) (pen_no pen10 hL10)
              have hrU : upd H10 L (.lst [.ref r1, .ref r]) r = some (.lst (zs.map wV)) := (upd_ne (ne_of hr hL10 (nw _ _ _))).trans hr
              have h1U : upd H10 L (.lst [.ref r1, .ref r]) r1 = some (.lst (w1.map wV)) := (upd_ne (ne_of (k10.k _ _ h18' (by simpa using n1r) noTbl_lst) hL10 (nw _ _ _))).trans (k10.k _ _ h18' (by simpa using n1r) noTbl_lst)
              refine ⟨_, rfl, _, rfl, L, _, _, 1, rfl, rfl, hL10, rfl, ?_⟩
              refine hR _ _ ⟨L, [.ref r1, .ref r], [w1, zs], _, _, rfl, upd_same, .cons ⟨r1, rfl, h1U⟩ (.cons ⟨r, rfl, hrU⟩ .nil), ⟨by simp, by simp, by simpa using ⟨ok1, ⟨hne, by omega, fun z h => (hz z h).elim (ok2.w z) (odds_ok z)⟩⟩⟩, pU, kU.t (k10.t T8')⟩
    · rintro σ9 H9 ⟨L', ys, wss, x5', x6', rfl, hL9, hal9, ok9, pen9, T9⟩
      have hyl : ys.length ≤ 4 := by rw [hal9.len]; exact ok9.n
      refine seq_r (asg_r ⟨_, rfl, L', rfl, ⟨_, .inl (.inl hL9)⟩, fun D hD => ?_⟩)
      refine lc_it (walk_list (K := K) (a := L') (xs := ys)) (fun i H' => Same H9 H' ∧ H' D = some (.lst (ys.take i))) ⟨same_upd hD, upd_same⟩ (fun i H' _ h => .inl (.inl (h.1 _ _ hL9))) ?_ ?_
      · rintro j x H10 _ hj ⟨s10, hD10⟩ ⟨rfl, hx⟩
        obtain ⟨ws, hws, q, rfl, hq⟩ := hal9.at hx
        have okw := ok9.w ws (List.mem_of_getElem? hws)
        refine ⟨rfl, ⟨_, rfl, by simp, fun e he => ?_⟩⟩
        have se := same_upd (o := .lst []) he
        have eb : (!PyData.eqv (.list (ws.map fun w => PyData.str (S w))) (.list [])) = true := by
          rw [eqv_nil]
          cases ws with
          | nil => exact absurd rfl okw.ne
          | cons _ _ => rfl
        refine ⟨.list (ws.map fun w => PyData.str (S w)), .list [], .lst (.inl (.inl (se _ _ (s10 _ _ hq)))) (dpAll_ws _), .lst (.inl (.inl upd_same)) .nil, shaped_wl (fun w hw => (okw.w w hw).ch), rfl, true, congrArg V.bl eb, ifT rfl ⟨_, rfl, _, se _ _ hD10, by rw [List.length_take]; omega, ?_⟩⟩
        refine ⟨fun b o hb => ?_, by rw [upd_same, take_more hx]⟩
        exact (upd_ne (ne_of_none hb hD)).trans (se _ _ (s10 _ _ hb))
      · rintro H10 ⟨s10, hD10⟩
        rw [List.take_length] at hD10
        refine ⟨D, ys, wss, rfl, hD10, hal9.mono fun _ _ r => r.same s10, ok9.fit, fun H11 s11 => ?_⟩
        dsimp only [gName]
        have s911 := same_trans s10 s11
        have pen11 := pen9.same s911
        have T11 := (Kp.same (M := []) s911).t T9
        have htl := text_len ok9.fit
        refine if_r (or_r (not_r (b_r (pick1 (A := A) rfl pen11 fun x H12 hx k12 pen12 => ?_))))
        obtain ⟨g, rfl, hg, hgl⟩ : ∃ g, x = .str (S g) ∧ CharOk g ∧ g.length ≤ 3 := by
          rcases hx with e | e | e
          · exact ⟨[], by rw [e, e_em], (by intro c h; cases h), by simp⟩
          · exact ⟨[10], by rw [e, e_nl], (by intro c h; rw [List.mem_singleton.mp h]; decide), by simp⟩
          · exact ⟨[32, 10, 10], by rw [e, e_snn], (by intro c h; have : c = 32 ∨ c = 10 ∨ c = 10 := by simpa using h
                                                       omega), by simp⟩
        have T12 := k12.t T11
        refine ⟨_, rfl, _, _, rfl, rfl, by rw [S_len, S_len]; omega, g ++ textL wss, by rw [S_app]; rfl, by rw [List.length_append]; omega, fun z hz => (List.mem_append.mp hz).elim (hg z) (ok9.ch z), T12, fun H13 k13 => ⟨_, rfl, ifF rfl ?_⟩⟩
        have pen13 := pen12.kp k13 (by simp) (by simp)
        have T13 := k13.t T12
        refine or_r (not_r (b_r ⟨_, rfl, 1, rfl, _, rfl, S (textL wss), rfl, by rw [S_len]; omega, ?_⟩))
        rw [sliceLast]
        refine ⟨_, rfl, by rw [List.length_take]; omega, fun z hz => ok9.ch z (List.mem_of_mem_take hz), T13, fun H14 k14 => ⟨_, rfl, ifF rfl ?_⟩⟩
        have pen14 := pen13.kp k14 (by simp) (by simp)
        have T14 := k14.t T13
        refine not_r (b_r ⟨_, rfl, _, rfl, pen, c, wss, rfl, pen14, ok9.fit, ok9.words, fun L3 H15 k15 pen15 _ hl3 hc3 => ⟨L3, rfl, hl3, hc3, k15.t T14, fun H16 k16 => ⟨_, rfl, ifF rfl ?_⟩⟩⟩)
        exact ⟨⟨_, _, _, _, _, _, _, _, _, rfl⟩, pen15.kp k16 (by simp) (by simp), k16.t (k15.t T14)⟩
end
end SV
namespace SV
open PySem PySem.Spec PyProof.Rows L2 TL LamX NdefX
/-- isinstance of an own class, by its parts -/
theorem kit_of {K : PySem.W.Frag} {B D : Addr} {b : Bool} (ne : (Value.ref B == Value.ref D) = false) (h2 : PySem.W.isClsIn K D = true) (h3 : PySem.W.typeIn K (.ref D) = some (.type "type")) (h4 : PySem.W.subIn K (.ref B) (.ref D) = some b) : PySem.W.kitOne K (.ref B) (.ref D) = some b := by
  have e2 : ((PySem.W.clsIn K D).isSome && PySem.W.typeIn K (.ref D) == some (.type "type")) = true := by
    have h2' : (PySem.W.clsIn K D).isSome = true := h2
    rw [h2', h3] <;> rfl
  show (if (Value.ref B == Value.ref D) = true then some true else (if ((PySem.W.clsIn K D).isSome && PySem.W.typeIn K (.ref D) == some (.type "type")) = true then PySem.W.subIn K (.ref B) (.ref D) else none)) = some b
  rw [ne, if_neg (by decide), if_pos e2]
  exact h4
theorem kit_self {K : PySem.W.Frag} {B : Addr} : PySem.W.kitOne K (.ref B) (.ref B) = some true := by
  show (if (Value.ref B == Value.ref B) = true then some true else PySem.W.kitCls K (.ref B) (.ref B)) = some true
  rw [if_pos (by simp)]
theorem exm_of {K : PySem.W.Frag} {B S : Addr} (h1 : PySem.W.subIn K (.ref S) (.type "BaseException") = some true) (h2 : PySem.W.isClsIn K S = true) (h3 : PySem.W.typeIn K (.ref S) = some (.type "type")) (h4 : PySem.W.subIn K (.ref B) (.ref S) = some true) : PySem.W.exmOne K (.ref B) (.ref S) = some true := by
  have e1 : (PySem.W.subIn K (.ref S) (.type "BaseException") == some true) = true := by rw [h1] <;> rfl
  have e2 : ((PySem.W.clsIn K S).isSome && PySem.W.typeIn K (.ref S) == some (.type "type")) = true := by
    have h2' : (PySem.W.clsIn K S).isSome = true := h2
    rw [h2', h3] <;> rfl
  show (if (PySem.W.subIn K (.ref S) (.type "BaseException") == some true) = true then (if ((PySem.W.clsIn K S).isSome && PySem.W.typeIn K (.ref S) == some (.type "type")) = true then PySem.W.subIn K (.ref B) (.ref S) else none) else none) = some true
  rw [if_pos e1, if_pos e2]
  exact h4
theorem all_mk {l : PySem.W.OpenLaw} {w : World} {K : PySem.W.Frag} {h : Heap} {mg : Str → Option Value} {fa : Addr} {ts : List Addr} (X : K.In h) (G : h.Ns mainGlobals mg) (hfa : mg "law" = some (.ref fa)) (Y : ∀ P ∈ ts, h.get? P = some (PySem.W.tabObj #[]))
    {VE BT BR NU NR BN TN BNu UL TM CLine CRows f_is_number_word f_split_words f_lines_of f_need_word f_need_end f_piece_of_text f_law_text f_law_loose f_law_pen f_law_draw f_law_pick f_law_is f_law_caught f_law_split f_law_is_number f_law_text_lines f_law_bent_words f_law_read_piece f_need_one f_need_number f_read_notes f_law_right f_law f_Linei f_Line_is_end f_Line_seen f_Line_skip f_Rowsi f_Rows_is_end f_Rows_next_line f_BTi f_BRi q_need_one P_need_one q_need_number P_need_number q_read_notes P_read_notes q_law_right P_law_right q_law P_law : Addr} {oq_need_one oq_need_number oq_read_notes oq_law_right oq_law oc_is_number_word kV_is_number_word dc_is_number_word pm_is_number_word ct_is_number_word oc_split_words kV_split_words dc_split_words pm_split_words ct_split_words oc_lines_of kV_lines_of dc_lines_of pm_lines_of ct_lines_of oc_need_word kV_need_word dc_need_word pm_need_word ct_need_word oc_need_end kV_need_end dc_need_end pm_need_end ct_need_end oc_piece_of_text kV_piece_of_text dc_piece_of_text pm_piece_of_text ct_piece_of_text oc_law_text kV_law_text dc_law_text pm_law_text ct_law_text oc_law_loose kV_law_loose dc_law_loose pm_law_loose ct_law_loose oc_law_pen kV_law_pen dc_law_pen pm_law_pen ct_law_pen oc_law_draw kV_law_draw dc_law_draw pm_law_draw ct_law_draw oc_law_pick kV_law_pick dc_law_pick pm_law_pick ct_law_pick oc_law_is kV_law_is dc_law_is pm_law_is ct_law_is oc_law_caught kV_law_caught dc_law_caught pm_law_caught ct_law_caught oc_law_split kV_law_split dc_law_split pm_law_split ct_law_split oc_law_is_number kV_law_is_number dc_law_is_number pm_law_is_number ct_law_is_number oc_law_text_lines kV_law_text_lines dc_law_text_lines pm_law_text_lines ct_law_text_lines oc_law_bent_words kV_law_bent_words dc_law_bent_words pm_law_bent_words ct_law_bent_words oc_law_read_piece kV_law_read_piece dc_law_read_piece pm_law_read_piece ct_law_read_piece oc_need_one kV_need_one dc_need_one pm_need_one ct_need_one oc_need_number kV_need_number dc_need_number pm_need_number ct_need_number oc_read_notes kV_read_notes dc_read_notes pm_read_notes ct_read_notes oc_law_right kV_law_right dc_law_right pm_law_right ct_law_right oc_law kV_law dc_law pm_law ct_law oc_Linei kV_Linei dc_Linei pm_Linei ct_Linei oc_Line_is_end kV_Line_is_end dc_Line_is_end pm_Line_is_end ct_Line_is_end oc_Line_seen kV_Line_seen dc_Line_seen pm_Line_seen ct_Line_seen oc_Line_skip kV_Line_skip dc_Line_skip pm_Line_skip ct_Line_skip oc_Rowsi kV_Rowsi dc_Rowsi pm_Rowsi ct_Rowsi oc_Rows_is_end kV_Rows_is_end dc_Rows_is_end pm_Rows_is_end ct_Rows_is_end oc_Rows_next_line kV_Rows_next_line dc_Rows_next_line pm_Rows_next_line ct_Rows_next_line oc_BTi kV_BTi dc_BTi pm_BTi ct_BTi oc_BRi kV_BRi dc_BRi pm_BRi ct_BRi cd_is_number_word cd_split_words cd_lines_of cd_need_word cd_need_end cd_piece_of_text cd_law_text cd_law_loose cd_law_pen cd_law_draw cd_law_pick cd_law_is cd_law_caught cd_law_split cd_law_is_number cd_law_text_lines cd_law_bent_words cd_law_read_piece cd_Linei cd_Line_is_end cd_Line_seen cd_Line_skip cd_Rowsi cd_Rows_is_end cd_Rows_next_line cd_BTi cd_BRi : Value} {dq_need_one dq_need_number dq_read_notes dq_law_right dq_law od_is_number_word an_is_number_word od_split_words an_split_words od_lines_of an_lines_of od_need_word an_need_word od_need_end an_need_end od_piece_of_text an_piece_of_text od_law_text an_law_text od_law_loose an_law_loose od_law_pen an_law_pen od_law_draw an_law_draw od_law_pick an_law_pick od_law_is an_law_is od_law_caught an_law_caught od_law_split an_law_split od_law_is_number an_law_is_number od_law_text_lines an_law_text_lines od_law_bent_words an_law_bent_words od_law_read_piece an_law_read_piece od_need_one an_need_one od_need_number an_need_number od_read_notes an_read_notes od_law_right an_law_right od_law an_law od_Linei an_Linei od_Line_is_end an_Line_is_end od_Line_seen an_Line_seen od_Line_skip an_Line_skip od_Rowsi an_Rowsi od_Rows_is_end an_Rows_is_end od_Rows_next_line an_Rows_next_line od_BTi an_BTi od_BRi an_BRi : Option Addr} {sl_is_number_word sl_split_words sl_lines_of sl_need_word sl_need_end sl_piece_of_text sl_law_text sl_law_loose sl_law_pen sl_law_draw sl_law_pick sl_law_is sl_law_caught sl_law_split sl_law_is_number sl_law_text_lines sl_law_bent_words sl_law_read_piece sl_need_one sl_need_number sl_read_notes sl_law_right sl_law sl_Linei sl_Line_is_end sl_Line_seen sl_Line_skip sl_Rowsi sl_Rows_is_end sl_Rows_next_line sl_BTi sl_BRi sq_need_one sq_need_number sq_read_notes sq_law_right sq_law : Array (Option Value)} {vq_need_one vq_need_number vq_read_notes vq_law_right vq_law : Array Value} {tD tM : Tok}
    {nmBT qBT : Str} {NBT : Addr} {bsBT bmBT subBT : List Value} {snBT : List Str} {abBT : Bool} {colBT : Option Bool} {ddBT : Option Addr} {k0BT k1BT k2BT k3BT k5BT : Option Value}
    {nmBR qBR : Str} {NBR : Addr} {bsBR bmBR subBR : List Value} {snBR : List Str} {abBR : Bool} {colBR : Option Bool} {ddBR : Option Addr} {k0BR k1BR k2BR k3BR k5BR : Option Value}
    (z_len : PySem.W.nsIn K mainGlobals "len" = some none)
    (z_isinstance : PySem.W.nsIn K mainGlobals "isinstance" = some none)
    (z_int : PySem.W.nsIn K mainGlobals "int" = some none)
    (z_bool : PySem.W.nsIn K mainGlobals "bool" = some none)
    (z_tuple : PySem.W.nsIn K mainGlobals "tuple" = some none)
    (z_list : PySem.W.nsIn K mainGlobals "list" = some none)
    (z_str : PySem.W.nsIn K mainGlobals "str" = some none)
    (z_all : PySem.W.nsIn K mainGlobals "all" = some none)
    (z_enumerate : PySem.W.nsIn K mainGlobals "enumerate" = some none)
    (z_zip : PySem.W.nsIn K mainGlobals "zip" = some none)
    (z_range : PySem.W.nsIn K mainGlobals "range" = some none)
    (z_max : PySem.W.nsIn K mainGlobals "max" = some none)
    (g_D : PySem.W.nsIn K mainGlobals "DIGITS" = some (some (.str "0123456789" tD)))
    (g_M : PySem.W.nsIn K mainGlobals "MOST_DIGITS" = some (some (.int 4 tM)))
    (g_VE : PySem.W.nsIn K mainGlobals "VoicesError" = some (some (.ref VE)))
    (g_BT : PySem.W.nsIn K mainGlobals "BadText" = some (some (.ref BT)))
    (g_BR : PySem.W.nsIn K mainGlobals "BadRow" = some (some (.ref BR)))
    (g_NU : PySem.W.nsIn K mainGlobals "NothingToUndo" = some (some (.ref NU)))
    (g_NR : PySem.W.nsIn K mainGlobals "NothingToRedo" = some (some (.ref NR)))
    (g_BN : PySem.W.nsIn K mainGlobals "BadName" = some (some (.ref BN)))
    (g_TN : PySem.W.nsIn K mainGlobals "TakenName" = some (some (.ref TN)))
    (g_BNu : PySem.W.nsIn K mainGlobals "BadNumber" = some (some (.ref BNu)))
    (g_UL : PySem.W.nsIn K mainGlobals "Unlike" = some (some (.ref UL)))
    (g_TM : PySem.W.nsIn K mainGlobals "TooMany" = some (some (.ref TM)))
    (g_Line : PySem.W.nsIn K mainGlobals "Line" = some (some (.ref CLine)))
    (g_Rows : PySem.W.nsIn K mainGlobals "Rows" = some (some (.ref CRows)))
    (v1 : PySem.W.specialIn K (.ref VE) "__getattribute__" = some (some (.builtin "type.__getattribute__")))
    (v2 : PySem.W.typeIn K (.ref VE) = some (.type "type"))
    (v3 : PySem.W.readsIn K VE (.type "type") = true)
    (v4 : PySem.W.findCls K (.ref VE) (.type "type") "__init__" = some (.val (.builtin "ValueError.__init__")))
    (a_is_number_word : PySem.W.nsIn K mainGlobals "is_number_word" = some (some (.ref f_is_number_word)))
    (l_is_number_word : K.lookup f_is_number_word = some ⟨oc_is_number_word, od_is_number_word, .func (PySem.W.fnOf "is_number_word" "is_number_word" (defArgs s_is_number_word) (defBody s_is_number_word) (defScope s_is_number_word) .none kV_is_number_word dc_is_number_word pm_is_number_word an_is_number_word cd_is_number_word ct_is_number_word), sl_is_number_word⟩)
    (c_is_number_word : PySem.W.codeIn K cd_is_number_word "is_number_word" = true)
    (k_is_number_word : PySem.W.keepIn K (.ref f_is_number_word) = true)
    (a_split_words : PySem.W.nsIn K mainGlobals "split_words" = some (some (.ref f_split_words)))
    (l_split_words : K.lookup f_split_words = some ⟨oc_split_words, od_split_words, .func (PySem.W.fnOf "split_words" "split_words" (defArgs s_split_words) (defBody s_split_words) (defScope s_split_words) .none kV_split_words dc_split_words pm_split_words an_split_words cd_split_words ct_split_words), sl_split_words⟩)
    (c_split_words : PySem.W.codeIn K cd_split_words "split_words" = true)
    (k_split_words : PySem.W.keepIn K (.ref f_split_words) = true)
    (a_lines_of : PySem.W.nsIn K mainGlobals "lines_of" = some (some (.ref f_lines_of)))
    (l_lines_of : K.lookup f_lines_of = some ⟨oc_lines_of, od_lines_of, .func (PySem.W.fnOf "lines_of" "lines_of" (defArgs s_lines_of) (defBody s_lines_of) (defScope s_lines_of) .none kV_lines_of dc_lines_of pm_lines_of an_lines_of cd_lines_of ct_lines_of), sl_lines_of⟩)
    (c_lines_of : PySem.W.codeIn K cd_lines_of "lines_of" = true)
    (k_lines_of : PySem.W.keepIn K (.ref f_lines_of) = true)
    (a_need_word : PySem.W.nsIn K mainGlobals "need_word" = some (some (.ref f_need_word)))
    (l_need_word : K.lookup f_need_word = some ⟨oc_need_word, od_need_word, .func (PySem.W.fnOf "need_word" "need_word" (defArgs s_need_word) (defBody s_need_word) (defScope s_need_word) .none kV_need_word dc_need_word pm_need_word an_need_word cd_need_word ct_need_word), sl_need_word⟩)
    (c_need_word : PySem.W.codeIn K cd_need_word "need_word" = true)
    (k_need_word : PySem.W.keepIn K (.ref f_need_word) = true)
    (a_need_end : PySem.W.nsIn K mainGlobals "need_end" = some (some (.ref f_need_end)))
    (l_need_end : K.lookup f_need_end = some ⟨oc_need_end, od_need_end, .func (PySem.W.fnOf "need_end" "need_end" (defArgs s_need_end) (defBody s_need_end) (defScope s_need_end) .none kV_need_end dc_need_end pm_need_end an_need_end cd_need_end ct_need_end), sl_need_end⟩)
    (c_need_end : PySem.W.codeIn K cd_need_end "need_end" = true)
    (k_need_end : PySem.W.keepIn K (.ref f_need_end) = true)
    (a_piece_of_text : PySem.W.nsIn K mainGlobals "piece_of_text" = some (some (.ref f_piece_of_text)))
    (l_piece_of_text : K.lookup f_piece_of_text = some ⟨oc_piece_of_text, od_piece_of_text, .func (PySem.W.fnOf "piece_of_text" "piece_of_text" (defArgs s_piece_of_text) (defBody s_piece_of_text) (defScope s_piece_of_text) .none kV_piece_of_text dc_piece_of_text pm_piece_of_text an_piece_of_text cd_piece_of_text ct_piece_of_text), sl_piece_of_text⟩)
    (c_piece_of_text : PySem.W.codeIn K cd_piece_of_text "piece_of_text" = true)
    (k_piece_of_text : PySem.W.keepIn K (.ref f_piece_of_text) = true)
    (a_law_text : PySem.W.nsIn K mainGlobals "_law_text" = some (some (.ref f_law_text)))
    (l_law_text : K.lookup f_law_text = some ⟨oc_law_text, od_law_text, .func (PySem.W.fnOf "_law_text" "_law_text" (defArgs s_law_text) (defBody s_law_text) (defScope s_law_text) .none kV_law_text dc_law_text pm_law_text an_law_text cd_law_text ct_law_text), sl_law_text⟩)
    (c_law_text : PySem.W.codeIn K cd_law_text "_law_text" = true)
    (k_law_text : PySem.W.keepIn K (.ref f_law_text) = true)
    (a_law_loose : PySem.W.nsIn K mainGlobals "_law_loose" = some (some (.ref f_law_loose)))
    (l_law_loose : K.lookup f_law_loose = some ⟨oc_law_loose, od_law_loose, .func (PySem.W.fnOf "_law_loose" "_law_loose" (defArgs s_law_loose) (defBody s_law_loose) (defScope s_law_loose) .none kV_law_loose dc_law_loose pm_law_loose an_law_loose cd_law_loose ct_law_loose), sl_law_loose⟩)
    (c_law_loose : PySem.W.codeIn K cd_law_loose "_law_loose" = true)
    (k_law_loose : PySem.W.keepIn K (.ref f_law_loose) = true)
    (a_law_pen : PySem.W.nsIn K mainGlobals "_law_pen" = some (some (.ref f_law_pen)))
    (l_law_pen : K.lookup f_law_pen = some ⟨oc_law_pen, od_law_pen, .func (PySem.W.fnOf "_law_pen" "_law_pen" (defArgs s_law_pen) (defBody s_law_pen) (defScope s_law_pen) .none kV_law_pen dc_law_pen pm_law_pen an_law_pen cd_law_pen ct_law_pen), sl_law_pen⟩)
    (c_law_pen : PySem.W.codeIn K cd_law_pen "_law_pen" = true)
    (k_law_pen : PySem.W.keepIn K (.ref f_law_pen) = true)
    (a_law_draw : PySem.W.nsIn K mainGlobals "_law_draw" = some (some (.ref f_law_draw)))
    (l_law_draw : K.lookup f_law_draw = some ⟨oc_law_draw, od_law_draw, .func (PySem.W.fnOf "_law_draw" "_law_draw" (defArgs s_law_draw) (defBody s_law_draw) (defScope s_law_draw) .none kV_law_draw dc_law_draw pm_law_draw an_law_draw cd_law_draw ct_law_draw), sl_law_draw⟩)
    (c_law_draw : PySem.W.codeIn K cd_law_draw "_law_draw" = true)
    (k_law_draw : PySem.W.keepIn K (.ref f_law_draw) = true)
    (a_law_pick : PySem.W.nsIn K mainGlobals "_law_pick" = some (some (.ref f_law_pick)))
    (l_law_pick : K.lookup f_law_pick = some ⟨oc_law_pick, od_law_pick, .func (PySem.W.fnOf "_law_pick" "_law_pick" (defArgs s_law_pick) (defBody s_law_pick) (defScope s_law_pick) .none kV_law_pick dc_law_pick pm_law_pick an_law_pick cd_law_pick ct_law_pick), sl_law_pick⟩)
    (c_law_pick : PySem.W.codeIn K cd_law_pick "_law_pick" = true)
    (k_law_pick : PySem.W.keepIn K (.ref f_law_pick) = true)
    (a_law_is : PySem.W.nsIn K mainGlobals "_law_is" = some (some (.ref f_law_is)))
    (l_law_is : K.lookup f_law_is = some ⟨oc_law_is, od_law_is, .func (PySem.W.fnOf "_law_is" "_law_is" (defArgs s_law_is) (defBody s_law_is) (defScope s_law_is) .none kV_law_is dc_law_is pm_law_is an_law_is cd_law_is ct_law_is), sl_law_is⟩)
    (c_law_is : PySem.W.codeIn K cd_law_is "_law_is" = true)
    (k_law_is : PySem.W.keepIn K (.ref f_law_is) = true)
    (a_law_caught : PySem.W.nsIn K mainGlobals "_law_caught" = some (some (.ref f_law_caught)))
    (l_law_caught : K.lookup f_law_caught = some ⟨oc_law_caught, od_law_caught, .func (PySem.W.fnOf "_law_caught" "_law_caught" (defArgs s_law_caught) (defBody s_law_caught) (defScope s_law_caught) .none kV_law_caught dc_law_caught pm_law_caught an_law_caught cd_law_caught ct_law_caught), sl_law_caught⟩)
    (c_law_caught : PySem.W.codeIn K cd_law_caught "_law_caught" = true)
    (k_law_caught : PySem.W.keepIn K (.ref f_law_caught) = true)
    (a_law_split : PySem.W.nsIn K mainGlobals "_law_split" = some (some (.ref f_law_split)))
    (l_law_split : K.lookup f_law_split = some ⟨oc_law_split, od_law_split, .func (PySem.W.fnOf "_law_split" "_law_split" (defArgs s_law_split) (defBody s_law_split) (defScope s_law_split) .none kV_law_split dc_law_split pm_law_split an_law_split cd_law_split ct_law_split), sl_law_split⟩)
    (c_law_split : PySem.W.codeIn K cd_law_split "_law_split" = true)
    (k_law_split : PySem.W.keepIn K (.ref f_law_split) = true)
    (a_law_is_number : PySem.W.nsIn K mainGlobals "_law_is_number" = some (some (.ref f_law_is_number)))
    (l_law_is_number : K.lookup f_law_is_number = some ⟨oc_law_is_number, od_law_is_number, .func (PySem.W.fnOf "_law_is_number" "_law_is_number" (defArgs s_law_is_number) (defBody s_law_is_number) (defScope s_law_is_number) .none kV_law_is_number dc_law_is_number pm_law_is_number an_law_is_number cd_law_is_number ct_law_is_number), sl_law_is_number⟩)
    (c_law_is_number : PySem.W.codeIn K cd_law_is_number "_law_is_number" = true)
    (k_law_is_number : PySem.W.keepIn K (.ref f_law_is_number) = true)
    (a_law_text_lines : PySem.W.nsIn K mainGlobals "_law_text_lines" = some (some (.ref f_law_text_lines)))
    (l_law_text_lines : K.lookup f_law_text_lines = some ⟨oc_law_text_lines, od_law_text_lines, .func (PySem.W.fnOf "_law_text_lines" "_law_text_lines" (defArgs s_law_text_lines) (defBody s_law_text_lines) (defScope s_law_text_lines) .none kV_law_text_lines dc_law_text_lines pm_law_text_lines an_law_text_lines cd_law_text_lines ct_law_text_lines), sl_law_text_lines⟩)
    (c_law_text_lines : PySem.W.codeIn K cd_law_text_lines "_law_text_lines" = true)
    (k_law_text_lines : PySem.W.keepIn K (.ref f_law_text_lines) = true)
    (a_law_bent_words : PySem.W.nsIn K mainGlobals "_law_bent_words" = some (some (.ref f_law_bent_words)))
    (l_law_bent_words : K.lookup f_law_bent_words = some ⟨oc_law_bent_words, od_law_bent_words, .func (PySem.W.fnOf "_law_bent_words" "_law_bent_words" (defArgs s_law_bent_words) (defBody s_law_bent_words) (defScope s_law_bent_words) .none kV_law_bent_words dc_law_bent_words pm_law_bent_words an_law_bent_words cd_law_bent_words ct_law_bent_words), sl_law_bent_words⟩)
    (c_law_bent_words : PySem.W.codeIn K cd_law_bent_words "_law_bent_words" = true)
    (k_law_bent_words : PySem.W.keepIn K (.ref f_law_bent_words) = true)
    (a_law_read_piece : PySem.W.nsIn K mainGlobals "_law_read_piece" = some (some (.ref f_law_read_piece)))
    (l_law_read_piece : K.lookup f_law_read_piece = some ⟨oc_law_read_piece, od_law_read_piece, .func (PySem.W.fnOf "_law_read_piece" "_law_read_piece" (defArgs s_law_read_piece) (defBody s_law_read_piece) (defScope s_law_read_piece) .none kV_law_read_piece dc_law_read_piece pm_law_read_piece an_law_read_piece cd_law_read_piece ct_law_read_piece), sl_law_read_piece⟩)
    (c_law_read_piece : PySem.W.codeIn K cd_law_read_piece "_law_read_piece" = true)
    (k_law_read_piece : PySem.W.keepIn K (.ref f_law_read_piece) = true)
    (a_need_one : PySem.W.nsIn K mainGlobals "need_one" = some (some (.ref f_need_one)))
    (l_need_one : K.lookup f_need_one = some ⟨oc_need_one, od_need_one, .func (PySem.W.fnOf "need_one" "need_one" (defArgs s_need_one) (defBody s_need_one) (defScope s_need_one) .none kV_need_one dc_need_one pm_need_one an_need_one (.ref q_need_one) ct_need_one), sl_need_one⟩)
    (c_need_one : PySem.W.codeIn K (.ref q_need_one) "need_one" = true)
    (k_need_one : PySem.W.keepIn K (.ref f_need_one) = true)
    (o_need_one : K.lookup q_need_one = some ⟨oq_need_one, dq_need_one, .fields vq_need_one, sq_need_one⟩)
    (t_need_one : vq_need_one[11]? = some (Value.ref P_need_one))
    (h_need_one : PySem.W.codeHdIn K q_need_one P_need_one = true)
    (n_need_one : K.lookup P_need_one = none)
    (a_need_number : PySem.W.nsIn K mainGlobals "need_number" = some (some (.ref f_need_number)))
    (l_need_number : K.lookup f_need_number = some ⟨oc_need_number, od_need_number, .func (PySem.W.fnOf "need_number" "need_number" (defArgs s_need_number) (defBody s_need_number) (defScope s_need_number) .none kV_need_number dc_need_number pm_need_number an_need_number (.ref q_need_number) ct_need_number), sl_need_number⟩)
    (c_need_number : PySem.W.codeIn K (.ref q_need_number) "need_number" = true)
    (k_need_number : PySem.W.keepIn K (.ref f_need_number) = true)
    (o_need_number : K.lookup q_need_number = some ⟨oq_need_number, dq_need_number, .fields vq_need_number, sq_need_number⟩)
    (t_need_number : vq_need_number[11]? = some (Value.ref P_need_number))
    (h_need_number : PySem.W.codeHdIn K q_need_number P_need_number = true)
    (n_need_number : K.lookup P_need_number = none)
    (a_read_notes : PySem.W.nsIn K mainGlobals "read_notes" = some (some (.ref f_read_notes)))
    (l_read_notes : K.lookup f_read_notes = some ⟨oc_read_notes, od_read_notes, .func (PySem.W.fnOf "read_notes" "read_notes" (defArgs s_read_notes) (defBody s_read_notes) (defScope s_read_notes) .none kV_read_notes dc_read_notes pm_read_notes an_read_notes (.ref q_read_notes) ct_read_notes), sl_read_notes⟩)
    (c_read_notes : PySem.W.codeIn K (.ref q_read_notes) "read_notes" = true)
    (k_read_notes : PySem.W.keepIn K (.ref f_read_notes) = true)
    (o_read_notes : K.lookup q_read_notes = some ⟨oq_read_notes, dq_read_notes, .fields vq_read_notes, sq_read_notes⟩)
    (t_read_notes : vq_read_notes[11]? = some (Value.ref P_read_notes))
    (h_read_notes : PySem.W.codeHdIn K q_read_notes P_read_notes = true)
    (n_read_notes : K.lookup P_read_notes = none)
    (a_law_right : PySem.W.nsIn K mainGlobals "_law_right" = some (some (.ref f_law_right)))
    (l_law_right : K.lookup f_law_right = some ⟨oc_law_right, od_law_right, .func (PySem.W.fnOf "_law_right" "_law_right" (defArgs s_law_right) (defBody s_law_right) (defScope s_law_right) .none kV_law_right dc_law_right pm_law_right an_law_right (.ref q_law_right) ct_law_right), sl_law_right⟩)
    (c_law_right : PySem.W.codeIn K (.ref q_law_right) "_law_right" = true)
    (k_law_right : PySem.W.keepIn K (.ref f_law_right) = true)
    (o_law_right : K.lookup q_law_right = some ⟨oq_law_right, dq_law_right, .fields vq_law_right, sq_law_right⟩)
    (t_law_right : vq_law_right[11]? = some (Value.ref P_law_right))
    (h_law_right : PySem.W.codeHdIn K q_law_right P_law_right = true)
    (n_law_right : K.lookup P_law_right = none)
    (a_law : PySem.W.nsIn K mainGlobals "law" = some (some (.ref f_law)))
    (l_law : K.lookup f_law = some ⟨oc_law, od_law, .func (PySem.W.fnOf "law" "law" (defArgs s_law) (defBody s_law) (defScope s_law) .none kV_law dc_law pm_law an_law (.ref q_law) ct_law), sl_law⟩)
    (c_law : PySem.W.codeIn K (.ref q_law) "law" = true)
    (k_law : PySem.W.keepIn K (.ref f_law) = true)
    (o_law : K.lookup q_law = some ⟨oq_law, dq_law, .fields vq_law, sq_law⟩)
    (t_law : vq_law[11]? = some (Value.ref P_law))
    (h_law : PySem.W.codeHdIn K q_law P_law = true)
    (n_law : K.lookup P_law = none)
    (pg_Line : PySem.W.plainGet K CLine Str.empty = true)
    (hd_Line : PySem.W.hasDictIn K CLine = true)
    (po_Line : PySem.W.plainOver K CLine = true)
    (sa_Line : PySem.W.findIn K (.ref CLine) "__setattr__" = some (some (.builtin "object.__setattr__")))
    (mk_Line : PySem.W.makesIn K CLine = true)
    (kc_Line : PySem.W.keepIn K (.ref CLine) = true)
    (pg_Rows : PySem.W.plainGet K CRows Str.empty = true)
    (hd_Rows : PySem.W.hasDictIn K CRows = true)
    (po_Rows : PySem.W.plainOver K CRows = true)
    (sa_Rows : PySem.W.findIn K (.ref CRows) "__setattr__" = some (some (.builtin "object.__setattr__")))
    (mk_Rows : PySem.W.makesIn K CRows = true)
    (kc_Rows : PySem.W.keepIn K (.ref CRows) = true)
    (na_Line_number : PySem.W.findIn K (.ref CLine) "number" = some none)
    (na_Line_words : PySem.W.findIn K (.ref CLine) "words" = some none)
    (na_Line_at : PySem.W.findIn K (.ref CLine) "at" = some none)
    (na_Rows_rows : PySem.W.findIn K (.ref CRows) "rows" = some none)
    (na_Rows_at : PySem.W.findIn K (.ref CRows) "at" = some none)
    (a_Linei : PySem.W.findIn K (.ref CLine) "__init__" = some (some (.ref f_Linei)))
    (i_Linei : PySem.W.isFn K (.ref f_Linei) = true)
    (l_Linei : K.lookup f_Linei = some ⟨oc_Linei, od_Linei, .func (PySem.W.fnOf "__init__" "Line.__init__" (defArgs s_Line_init) (defBody s_Line_init) (defScope s_Line_init) .none kV_Linei dc_Linei pm_Linei an_Linei cd_Linei ct_Linei), sl_Linei⟩)
    (c_Linei : PySem.W.codeIn K cd_Linei "Line.__init__" = true)
    (k_Linei : PySem.W.keepIn K (.ref f_Linei) = true)
    (a_Line_is_end : PySem.W.findIn K (.ref CLine) "is_end" = some (some (.ref f_Line_is_end)))
    (i_Line_is_end : PySem.W.isFn K (.ref f_Line_is_end) = true)
    (l_Line_is_end : K.lookup f_Line_is_end = some ⟨oc_Line_is_end, od_Line_is_end, .func (PySem.W.fnOf "is_end" "Line.is_end" (defArgs s_Line_is_end) (defBody s_Line_is_end) (defScope s_Line_is_end) .none kV_Line_is_end dc_Line_is_end pm_Line_is_end an_Line_is_end cd_Line_is_end ct_Line_is_end), sl_Line_is_end⟩)
    (c_Line_is_end : PySem.W.codeIn K cd_Line_is_end "Line.is_end" = true)
    (k_Line_is_end : PySem.W.keepIn K (.ref f_Line_is_end) = true)
    (a_Line_seen : PySem.W.findIn K (.ref CLine) "seen" = some (some (.ref f_Line_seen)))
    (i_Line_seen : PySem.W.isFn K (.ref f_Line_seen) = true)
    (l_Line_seen : K.lookup f_Line_seen = some ⟨oc_Line_seen, od_Line_seen, .func (PySem.W.fnOf "seen" "Line.seen" (defArgs s_Line_seen) (defBody s_Line_seen) (defScope s_Line_seen) .none kV_Line_seen dc_Line_seen pm_Line_seen an_Line_seen cd_Line_seen ct_Line_seen), sl_Line_seen⟩)
    (c_Line_seen : PySem.W.codeIn K cd_Line_seen "Line.seen" = true)
    (k_Line_seen : PySem.W.keepIn K (.ref f_Line_seen) = true)
    (a_Line_skip : PySem.W.findIn K (.ref CLine) "skip" = some (some (.ref f_Line_skip)))
    (i_Line_skip : PySem.W.isFn K (.ref f_Line_skip) = true)
    (l_Line_skip : K.lookup f_Line_skip = some ⟨oc_Line_skip, od_Line_skip, .func (PySem.W.fnOf "skip" "Line.skip" (defArgs s_Line_skip) (defBody s_Line_skip) (defScope s_Line_skip) .none kV_Line_skip dc_Line_skip pm_Line_skip an_Line_skip cd_Line_skip ct_Line_skip), sl_Line_skip⟩)
    (c_Line_skip : PySem.W.codeIn K cd_Line_skip "Line.skip" = true)
    (k_Line_skip : PySem.W.keepIn K (.ref f_Line_skip) = true)
    (a_Rowsi : PySem.W.findIn K (.ref CRows) "__init__" = some (some (.ref f_Rowsi)))
    (i_Rowsi : PySem.W.isFn K (.ref f_Rowsi) = true)
    (l_Rowsi : K.lookup f_Rowsi = some ⟨oc_Rowsi, od_Rowsi, .func (PySem.W.fnOf "__init__" "Rows.__init__" (defArgs s_Rows_init) (defBody s_Rows_init) (defScope s_Rows_init) .none kV_Rowsi dc_Rowsi pm_Rowsi an_Rowsi cd_Rowsi ct_Rowsi), sl_Rowsi⟩)
    (c_Rowsi : PySem.W.codeIn K cd_Rowsi "Rows.__init__" = true)
    (k_Rowsi : PySem.W.keepIn K (.ref f_Rowsi) = true)
    (a_Rows_is_end : PySem.W.findIn K (.ref CRows) "is_end" = some (some (.ref f_Rows_is_end)))
    (i_Rows_is_end : PySem.W.isFn K (.ref f_Rows_is_end) = true)
    (l_Rows_is_end : K.lookup f_Rows_is_end = some ⟨oc_Rows_is_end, od_Rows_is_end, .func (PySem.W.fnOf "is_end" "Rows.is_end" (defArgs s_Rows_is_end) (defBody s_Rows_is_end) (defScope s_Rows_is_end) .none kV_Rows_is_end dc_Rows_is_end pm_Rows_is_end an_Rows_is_end cd_Rows_is_end ct_Rows_is_end), sl_Rows_is_end⟩)
    (c_Rows_is_end : PySem.W.codeIn K cd_Rows_is_end "Rows.is_end" = true)
    (k_Rows_is_end : PySem.W.keepIn K (.ref f_Rows_is_end) = true)
    (a_Rows_next_line : PySem.W.findIn K (.ref CRows) "next_line" = some (some (.ref f_Rows_next_line)))
    (i_Rows_next_line : PySem.W.isFn K (.ref f_Rows_next_line) = true)
    (l_Rows_next_line : K.lookup f_Rows_next_line = some ⟨oc_Rows_next_line, od_Rows_next_line, .func (PySem.W.fnOf "next_line" "Rows.next_line" (defArgs s_Rows_next_line) (defBody s_Rows_next_line) (defScope s_Rows_next_line) .none kV_Rows_next_line dc_Rows_next_line pm_Rows_next_line an_Rows_next_line cd_Rows_next_line ct_Rows_next_line), sl_Rows_next_line⟩)
    (c_Rows_next_line : PySem.W.codeIn K cd_Rows_next_line "Rows.next_line" = true)
    (k_Rows_next_line : PySem.W.keepIn K (.ref f_Rows_next_line) = true)
    (a_BTi : PySem.W.findIn K (.ref BT) "__init__" = some (some (.ref f_BTi)))
    (i_BTi : PySem.W.typeIn K (.ref f_BTi) = some (.type "function"))
    (l_BTi : K.lookup f_BTi = some ⟨oc_BTi, od_BTi, .func (PySem.W.fnOf "__init__" "BadText.__init__" (defArgs s_BadText_init) (defBody s_BadText_init) (defScope s_BadText_init) .none kV_BTi dc_BTi pm_BTi an_BTi cd_BTi ct_BTi), sl_BTi⟩)
    (c_BTi : PySem.W.codeIn K cd_BTi "BadText.__init__" = true)
    (k_BTi : PySem.W.keepIn K (.ref f_BTi) = true)
    (a_BRi : PySem.W.findIn K (.ref BR) "__init__" = some (some (.ref f_BRi)))
    (i_BRi : PySem.W.typeIn K (.ref f_BRi) = some (.type "function"))
    (l_BRi : K.lookup f_BRi = some ⟨oc_BRi, od_BRi, .func (PySem.W.fnOf "__init__" "BadRow.__init__" (defArgs s_BadRow_init) (defBody s_BadRow_init) (defScope s_BadRow_init) .none kV_BRi dc_BRi pm_BRi an_BRi cd_BRi ct_BRi), sl_BRi⟩)
    (c_BRi : PySem.W.codeIn K cd_BRi "BadRow.__init__" = true)
    (k_BRi : PySem.W.keepIn K (.ref f_BRi) = true)
    (x_BT : K.lookup BT = some (excClassObj nmBT qBT BT NBT bsBT bmBT true snBT subBT abBT colBT ddBT k0BT k1BT k2BT k3BT k5BT "ValueError.__new__"))
    (r_BT : PySem.HandSPX.refsVE bmBT = true)
    (sa_BT : PySem.W.findIn K (.ref BT) "__setattr__" = some (some (.builtin "object.__setattr__")))
    (ex_BT : PySem.W.subIn K (.ref BT) (.type "BaseException") = some true)
    (ty_BT : PySem.W.typeIn K (.ref BT) = some (.type "type"))
    (ke_BT : PySem.W.keepIn K (.ref BT) = true)
    (n1_BT : PySem.W.findIn K (.ref BT) "line" = some none)
    (n2_BT : PySem.W.findIn K (.ref BT) "word" = some none)
    (x_BR : K.lookup BR = some (excClassObj nmBR qBR BR NBR bsBR bmBR true snBR subBR abBR colBR ddBR k0BR k1BR k2BR k3BR k5BR "ValueError.__new__"))
    (r_BR : PySem.HandSPX.refsVE bmBR = true)
    (sa_BR : PySem.W.findIn K (.ref BR) "__setattr__" = some (some (.builtin "object.__setattr__")))
    (ex_BR : PySem.W.subIn K (.ref BR) (.type "BaseException") = some true)
    (ty_BR : PySem.W.typeIn K (.ref BR) = some (.type "type"))
    (ke_BR : PySem.W.keepIn K (.ref BR) = true)
    (n1_BR : PySem.W.findIn K (.ref BR) "what" = some none)
    (n2_BR : PySem.W.findIn K (.ref BR) "row" = some none)
    (ga : PySem.W.findIn K (.ref BT) "__getattribute__" = some (some (.builtin "BaseException.__getattribute__")))
    (gg : PySem.W.findIn K (.ref BT) "__getattr__" = some none)
    (hdR : PySem.W.hasDictIn K BT = true)
    (haR : PySem.W.findIn K (.ref BT) "__class__" = some (some (.builtin "object.__class__")))
    (hnR : PySem.W.specialIn K (.builtin "object.__class__") "__get__" = some (some (.builtin "getset_descriptor.__get__")))
    (htR : PySem.W.takesIn K (.builtin "object.__class__") = some true)
    (hmR : PySem.W.mroIn K BT (.type "object") = some true)
    (exV : PySem.W.subIn K (.ref VE) (.type "BaseException") = some true)
    (sb_VE : PySem.W.subIn K (.ref BT) (.ref VE) = some true)
    (ic_VE : PySem.W.isClsIn K VE = true)
    (tc_VE : PySem.W.typeIn K (.ref VE) = some (.type "type"))
    (ne_VE : (Value.ref BT == Value.ref VE) = false)
    (sb_BT : PySem.W.subIn K (.ref BT) (.ref BT) = some true)
    (ic_BT : PySem.W.isClsIn K BT = true)
    (tc_BT : PySem.W.typeIn K (.ref BT) = some (.type "type"))
    (sb_BR : PySem.W.subIn K (.ref BT) (.ref BR) = some false)
    (ic_BR : PySem.W.isClsIn K BR = true)
    (tc_BR : PySem.W.typeIn K (.ref BR) = some (.type "type"))
    (ne_BR : (Value.ref BT == Value.ref BR) = false)
    (sb_NU : PySem.W.subIn K (.ref BT) (.ref NU) = some false)
    (ic_NU : PySem.W.isClsIn K NU = true)
    (tc_NU : PySem.W.typeIn K (.ref NU) = some (.type "type"))
    (ne_NU : (Value.ref BT == Value.ref NU) = false)
    (sb_NR : PySem.W.subIn K (.ref BT) (.ref NR) = some false)
    (ic_NR : PySem.W.isClsIn K NR = true)
    (tc_NR : PySem.W.typeIn K (.ref NR) = some (.type "type"))
    (ne_NR : (Value.ref BT == Value.ref NR) = false)
    (sb_BN : PySem.W.subIn K (.ref BT) (.ref BN) = some false)
    (ic_BN : PySem.W.isClsIn K BN = true)
    (tc_BN : PySem.W.typeIn K (.ref BN) = some (.type "type"))
    (ne_BN : (Value.ref BT == Value.ref BN) = false)
    (sb_TN : PySem.W.subIn K (.ref BT) (.ref TN) = some false)
    (ic_TN : PySem.W.isClsIn K TN = true)
    (tc_TN : PySem.W.typeIn K (.ref TN) = some (.type "type"))
    (ne_TN : (Value.ref BT == Value.ref TN) = false)
    (sb_BNu : PySem.W.subIn K (.ref BT) (.ref BNu) = some false)
    (ic_BNu : PySem.W.isClsIn K BNu = true)
    (tc_BNu : PySem.W.typeIn K (.ref BNu) = some (.type "type"))
    (ne_BNu : (Value.ref BT == Value.ref BNu) = false)
    (sb_UL : PySem.W.subIn K (.ref BT) (.ref UL) = some false)
    (ic_UL : PySem.W.isClsIn K UL = true)
    (tc_UL : PySem.W.typeIn K (.ref UL) = some (.type "type"))
    (ne_UL : (Value.ref BT == Value.ref UL) = false)
    (sb_TM : PySem.W.subIn K (.ref BT) (.ref TM) = some false)
    (ic_TM : PySem.W.isClsIn K TM = true)
    (tc_TM : PySem.W.typeIn K (.ref TM) = some (.type "type"))
    (ne_TM : (Value.ref BT == Value.ref TM) = false)
    (ndT : [P_need_one, P_need_number, P_read_notes, P_law_right, P_law].Nodup)
    (mT : ∀ p ∈ [P_need_one, P_need_number, P_read_notes, P_law_right, P_law], p ∈ ts)
    : LawAtG l w K (L2.CX l.prog w) 28 63 "script" mg fa h := by
  have e := hfa.symm.trans (PySem.W.mg_of X G a_law)
  cases e
  let A : Ad := { VE := VE, BT := BT, BR := BR, NU := NU, NR := NR, BN := BN, TN := TN, BNu := BNu, UL := UL, TM := TM, BTi := f_BTi, BRi := f_BRi, Line := CLine, Rows := CRows, is_number_word := f_is_number_word, split_words := f_split_words, lines_of := f_lines_of, need_word := f_need_word, need_end := f_need_end, piece_of_text := f_piece_of_text, law_text := f_law_text, law_loose := f_law_loose, law_pen := f_law_pen, law_draw := f_law_draw, law_pick := f_law_pick, law_is := f_law_is, law_caught := f_law_caught, law_split := f_law_split, law_is_number := f_law_is_number, law_text_lines := f_law_text_lines, law_bent_words := f_law_bent_words, law_read_piece := f_law_read_piece, need_one := f_need_one, need_number := f_need_number, read_notes := f_read_notes, law_right := f_law_right, law := fa, Linei := f_Linei, Line_is_end := f_Line_is_end, Line_seen := f_Line_seen, Line_skip := f_Line_skip, Rowsi := f_Rowsi, Rows_is_end := f_Rows_is_end, Rows_next_line := f_Rows_next_line, c_need_one := q_need_one, t_need_one := P_need_one, c_need_number := q_need_number, t_need_number := P_need_number, c_read_notes := q_read_notes, t_read_notes := P_read_notes, c_law_right := q_law_right, t_law_right := P_law_right, c_law := q_law, t_law := P_law }
  have T : Txt K mg A := { n_len := PySem.W.mg_none_of X G z_len, n_isinstance := PySem.W.mg_none_of X G z_isinstance, n_int := PySem.W.mg_none_of X G z_int, n_bool := PySem.W.mg_none_of X G z_bool, n_tuple := PySem.W.mg_none_of X G z_tuple, n_list := PySem.W.mg_none_of X G z_list, n_str := PySem.W.mg_none_of X G z_str, n_all := PySem.W.mg_none_of X G z_all, n_enumerate := PySem.W.mg_none_of X G z_enumerate, n_zip := PySem.W.mg_none_of X G z_zip, n_range := PySem.W.mg_none_of X G z_range, n_max := PySem.W.mg_none_of X G z_max, m_DIGITS := ⟨_, PySem.W.mg_of X G g_D⟩, m_MOST := ⟨_, PySem.W.mg_of X G g_M⟩, m_VE := PySem.W.mg_of X G g_VE, o_VE := ⟨v1, v2, v3, v4⟩, m_BT := PySem.W.mg_of X G g_BT, e_BT := ⟨⟨⟨_, _, _, _, _, _, _, _, _, _, _, _, _, _, _, x_BT, r_BT⟩, sa_BT, ex_BT, ty_BT, ke_BT⟩, a_BTi, i_BTi⟩, f_BT1 := n1_BT, f_BT2 := n2_BT, m_BR := PySem.W.mg_of X G g_BR, e_BR := ⟨⟨⟨_, _, _, _, _, _, _, _, _, _, _, _, _, _, _, x_BR, r_BR⟩, sa_BR, ex_BR, ty_BR, ke_BR⟩, a_BRi, i_BRi⟩, f_BR1 := n1_BR, f_BR2 := n2_BR, d_BTi := defT_mk l_BTi c_BTi k_BTi fun _ _ _ _ _ _ us hl => match us, hl with | [_, _, _], _ => rfl, d_BRi := defT_mk l_BRi c_BRi k_BRi fun _ _ _ _ _ _ us hl => match us, hl with | [_, _, _], _ => rfl, m_is_number_word := PySem.W.mg_of X G a_is_number_word, d_is_number_word := defT_mk l_is_number_word c_is_number_word k_is_number_word fun _ _ _ _ _ _ us hl => match us, hl with | [_], _ => rfl, m_split_words := PySem.W.mg_of X G a_split_words, d_split_words := defT_mk l_split_words c_split_words k_split_words fun _ _ _ _ _ _ us hl => match us, hl with | [_], _ => rfl, m_lines_of := PySem.W.mg_of X G a_lines_of, d_lines_of := defT_mk l_lines_of c_lines_of k_lines_of fun _ _ _ _ _ _ us hl => match us, hl with | [_], _ => rfl, m_need_word := PySem.W.mg_of X G a_need_word, d_need_word := defT_mk l_need_word c_need_word k_need_word fun _ _ _ _ _ _ us hl => match us, hl with | [_, _], _ => rfl, m_need_end := PySem.W.mg_of X G a_need_end, d_need_end := defT_mk l_need_end c_need_end k_need_end fun _ _ _ _ _ _ us hl => match us, hl with | [_], _ => rfl, m_piece_of_text := PySem.W.mg_of X G a_piece_of_text, d_piece_of_text := defT_mk l_piece_of_text c_piece_of_text k_piece_of_text fun _ _ _ _ _ _ us hl => match us, hl with | [_], _ => rfl, m_law_text := PySem.W.mg_of X G a_law_text, d_law_text := defT_mk l_law_text c_law_text k_law_text fun _ _ _ _ _ _ us hl => match us, hl with | [_], _ => rfl, m_law_loose := PySem.W.mg_of X G a_law_loose, d_law_loose := defT_mk l_law_loose c_law_loose k_law_loose fun _ _ _ _ _ _ us hl => match us, hl with | [_, _], _ => rfl, m_law_pen := PySem.W.mg_of X G a_law_pen, d_law_pen := defT_mk l_law_pen c_law_pen k_law_pen fun _ _ _ _ _ _ us hl => match us, hl with | [_], _ => rfl, m_law_draw := PySem.W.mg_of X G a_law_draw, d_law_draw := defT_mk l_law_draw c_law_draw k_law_draw fun _ _ _ _ _ _ us hl => match us, hl with | [_, _], _ => rfl, m_law_pick := PySem.W.mg_of X G a_law_pick, d_law_pick := defT_mk l_law_pick c_law_pick k_law_pick fun _ _ _ _ _ _ us hl => match us, hl with | [_, _], _ => rfl, m_law_is := PySem.W.mg_of X G a_law_is, d_law_is := defT_mk l_law_is c_law_is k_law_is fun _ _ _ _ _ _ us hl => match us, hl with | [_, _], _ => rfl, m_law_caught := PySem.W.mg_of X G a_law_caught, d_law_caught := defT_mk l_law_caught c_law_caught k_law_caught fun _ _ _ _ _ _ us hl => match us, hl with | [_], _ => rfl, m_law_split := PySem.W.mg_of X G a_law_split, d_law_split := defT_mk l_law_split c_law_split k_law_split fun _ _ _ _ _ _ us hl => match us, hl with | [_], _ => rfl, m_law_is_number := PySem.W.mg_of X G a_law_is_number, d_law_is_number := defT_mk l_law_is_number c_law_is_number k_law_is_number fun _ _ _ _ _ _ us hl => match us, hl with | [_], _ => rfl, m_law_text_lines := PySem.W.mg_of X G a_law_text_lines, d_law_text_lines := defT_mk l_law_text_lines c_law_text_lines k_law_text_lines fun _ _ _ _ _ _ us hl => match us, hl with | [_], _ => rfl, m_law_bent_words := PySem.W.mg_of X G a_law_bent_words, d_law_bent_words := defT_mk l_law_bent_words c_law_bent_words k_law_bent_words fun _ _ _ _ _ _ us hl => match us, hl with | [_, _, _], _ => rfl, m_law_read_piece := PySem.W.mg_of X G a_law_read_piece, d_law_read_piece := defT_mk l_law_read_piece c_law_read_piece k_law_read_piece fun _ _ _ _ _ _ us hl => match us, hl with | [_], _ => rfl, m_need_one := PySem.W.mg_of X G a_need_one, d_need_one := defC_mk l_need_one c_need_one k_need_one fun _ _ _ _ _ _ us hl => match us, hl with | [_, _], _ => rfl, m_need_number := PySem.W.mg_of X G a_need_number, d_need_number := defC_mk l_need_number c_need_number k_need_number fun _ _ _ _ _ _ us hl => match us, hl with | [_, _], _ => rfl, m_read_notes := PySem.W.mg_of X G a_read_notes, d_read_notes := defC_mk l_read_notes c_read_notes k_read_notes fun _ _ _ _ _ _ us hl => match us, hl with | [_, _, _], _ => rfl, m_law_right := PySem.W.mg_of X G a_law_right, d_law_right := defC_mk l_law_right c_law_right k_law_right fun _ _ _ _ _ _ us hl => match us, hl with | [_], _ => rfl, m_Line := PySem.W.mg_of X G g_Line, c_Line := ⟨pg_Line, hd_Line, po_Line, sa_Line⟩, k_Line := ⟨mk_Line, a_Linei, i_Linei, kc_Line⟩, m_Rows := PySem.W.mg_of X G g_Rows, c_Rows := ⟨pg_Rows, hd_Rows, po_Rows, sa_Rows⟩, k_Rows := ⟨mk_Rows, a_Rowsi, i_Rowsi, kc_Rows⟩, a_Line1 := na_Line_number, a_Line2 := na_Line_words, a_Line3 := na_Line_at, a_Rows1 := na_Rows_rows, a_Rows2 := na_Rows_at, d_Linei := defT_mk l_Linei c_Linei k_Linei fun _ _ _ _ _ _ us hl => match us, hl with | [_, _, _], _ => rfl, d_Line_is_end := defT_mk l_Line_is_end c_Line_is_end k_Line_is_end fun _ _ _ _ _ _ us hl => match us, hl with | [_], _ => rfl, t_Line_is_end := ⟨a_Line_is_end, i_Line_is_end, k_Line_is_end⟩, d_Line_seen := defT_mk l_Line_seen c_Line_seen k_Line_seen fun _ _ _ _ _ _ us hl => match us, hl with | [_], _ => rfl, t_Line_seen := ⟨a_Line_seen, i_Line_seen, k_Line_seen⟩, d_Line_skip := defT_mk l_Line_skip c_Line_skip k_Line_skip fun _ _ _ _ _ _ us hl => match us, hl with | [_], _ => rfl, t_Line_skip := ⟨a_Line_skip, i_Line_skip, k_Line_skip⟩, d_Rowsi := defT_mk l_Rowsi c_Rowsi k_Rowsi fun _ _ _ _ _ _ us hl => match us, hl with | [_, _], _ => rfl, d_Rows_is_end := defT_mk l_Rows_is_end c_Rows_is_end k_Rows_is_end fun _ _ _ _ _ _ us hl => match us, hl with | [_], _ => rfl, t_Rows_is_end := ⟨a_Rows_is_end, i_Rows_is_end, k_Rows_is_end⟩, d_Rows_next_line := defT_mk l_Rows_next_line c_Rows_next_line k_Rows_next_line fun _ _ _ _ _ _ us hl => match us, hl with | [_], _ => rfl, t_Rows_next_line := ⟨a_Rows_next_line, i_Rows_next_line, k_Rows_next_line⟩ }
  have TN : TxtN K mg A := { NU := PySem.W.mg_of X G g_NU, NR := PySem.W.mg_of X G g_NR, BN := PySem.W.mg_of X G g_BN, TN := PySem.W.mg_of X G g_TN, BNu := PySem.W.mg_of X G g_BNu, UL := PySem.W.mg_of X G g_UL, TM := PySem.W.mg_of X G g_TM }
  have TX : TxtX K mg A BT := ⟨⟨ga, gg, ex_BT, hdR⟩, ⟨ga, gg, ex_BT, hdR, haR, hnR, htR, hmR⟩, exm_of exV ic_VE tc_VE sb_VE⟩
  have KT : Kits K A := ⟨kit_of ne_NU ic_NU tc_NU sb_NU, kit_of ne_NR ic_NR tc_NR sb_NR, kit_of ne_BN ic_BN tc_BN sb_BN, kit_of ne_TN ic_TN tc_TN sb_TN, kit_self, kit_of ne_BR ic_BR tc_BR sb_BR, kit_of ne_BNu ic_BNu tc_BNu sb_BNu, kit_of ne_UL ic_UL tc_UL sb_UL, kit_of ne_TM ic_TM tc_TM sb_TM⟩
  have FL : FunC K "law" "law" s_law fa _ q_law := ⟨⟨_, _, _, _, _, _, _, _, rfl, l_law, c_law⟩, k_law⟩
  refine ⟨_, [(q_need_one, P_need_one), (q_need_number, P_need_number), (q_read_notes, P_read_notes), (q_law_right, P_law_right), (q_law, P_law)], spLaw K A, fun p hp => Y _ (mT _ ?_), fun p hp => ?_, fun p hp => ?_, fun s u => .of_eq ?_, fun H a ns hn _ hH hS => ⟨a, ns, rfl, hS, by omega, fun q hq => ?_, fun _ => rfl⟩, fun base hK hG hTB => ok_law (T := T) (TB := ⟨hTB _ (.head _), hTB _ (.tail _ (.head _)), hTB _ (.tail _ (.tail _ (.head _))), hTB _ (.tail _ (.tail _ (.tail _ (.head _)))), hTB _ (.tail _ (.tail _ (.tail _ (.tail _ (.head _))))), ndT⟩) TN TX KT FL⟩
  · simp only [List.mem_cons, List.not_mem_nil, or_false] at hp
    rcases hp with rfl | rfl | rfl | rfl | rfl <;> simp
  · simp only [List.mem_cons, List.not_mem_nil, or_false] at hp
    rcases hp with rfl | rfl | rfl | rfl | rfl
    · exact n_need_one
    · exact n_need_number
    · exact n_read_notes
    · exact n_law_right
    · exact n_law
  · simp only [List.mem_cons, List.not_mem_nil, or_false] at hp
    rcases hp with rfl | rfl | rfl | rfl | rfl
    · exact PySem.W.codeHd_of_K X h_need_one
    · exact PySem.W.codeHd_of_K X h_need_number
    · exact PySem.W.codeHd_of_K X h_read_notes
    · exact PySem.W.codeHd_of_K X h_law_right
    · exact PySem.W.codeHd_of_K X h_law
  · rfl
  · have hq2 : q = (P_need_one, Str.ofString "need_one.<locals>.<lambda>") ∨ q = (P_need_number, Str.ofString "need_number.<locals>.<lambda>") ∨ q = (P_read_notes, Str.ofString "read_notes.<locals>.<lambda>") ∨ q = (P_law_right, Str.ofString "_law_right.<locals>.<lambda>") ∨ q = (P_law, Str.ofString "law.<locals>.<lambda>") := by
      simpa [TbA, A] using hq
    rcases hq2 with rfl | rfl | rfl | rfl | rfl
    · exact ⟨#[], hH _ (.head _), trivial, fun _ _ z => by cases z⟩
    · exact ⟨#[], hH _ (.tail _ (.head _)), trivial, fun _ _ z => by cases z⟩
    · exact ⟨#[], hH _ (.tail _ (.tail _ (.head _))), trivial, fun _ _ z => by cases z⟩
    · exact ⟨#[], hH _ (.tail _ (.tail _ (.tail _ (.head _)))), trivial, fun _ _ z => by cases z⟩
    · exact ⟨#[], hH _ (.tail _ (.tail _ (.tail _ (.tail _ (.head _))))), trivial, fun _ _ z => by cases z⟩
end SV
open PySem PySem.W PyProof.Rows
set_option maxRecDepth 100000 in
set_option maxHeartbeats 0 in
theorem PySem.Challenge.cw_secondvoice_k96_whole_first_wrong_words_holds : PySem.Challenge.rw_secondvoice_k96_whole_first_wrong_words.Holds := by
  w_on; o_law; k_head; (case hw => w_witness2)
  k_fill
  refine SV.walkG (l := PySem.Challenge.rw_secondvoice_k96_whole_first_wrong_words) (n := 63) (k := 28) (CX := fun w => L2.CX PySem.Challenge.rw_secondvoice_k96_whole_first_wrong_words.prog w) (x := "script") rfl (by decide) rfl ⟨rfl, by decide, by decide⟩ (fun w h Y => PySem.W.km_in_of Y) ?F ?X
  case F =>
    intro w mg fa h Y KX G hmg
    refine' SV.all_mk KX G hmg (PySem.W.km_tabs_of Y) ?z_len ?z_isinstance ?z_int ?z_bool ?z_tuple ?z_list ?z_str ?z_all ?z_enumerate ?z_zip ?z_range ?z_max ?g_D ?g_M ?g_VE ?g_BT ?g_BR ?g_NU ?g_NR ?g_BN ?g_TN ?g_BNu ?g_UL ?g_TM ?g_Line ?g_Rows ?v1 ?v2 ?v3 ?v4 ?a_is_number_word ?l_is_number_word ?c_is_number_word ?k_is_number_word ?a_split_words ?l_split_words ?c_split_words ?k_split_words ?a_lines_of ?l_lines_of ?c_lines_of ?k_lines_of ?a_need_word ?l_need_word ?c_need_word ?k_need_word ?a_need_end ?l_need_end ?c_need_end ?k_need_end ?a_piece_of_text ?l_piece_of_text ?c_piece_of_text ?k_piece_of_text ?a_law_text ?l_law_text ?c_law_text ?k_law_text ?a_law_loose ?l_law_loose ?c_law_loose ?k_law_loose ?a_law_pen ?l_law_pen ?c_law_pen ?k_law_pen ?a_law_draw ?l_law_draw ?c_law_draw ?k_law_draw ?a_law_pick ?l_law_pick ?c_law_pick ?k_law_pick ?a_law_is ?l_law_is ?c_law_is ?k_law_is ?a_law_caught ?l_law_caught ?c_law_caught ?k_law_caught ?a_law_split ?l_law_split ?c_law_split ?k_law_split ?a_law_is_number ?l_law_is_number ?c_law_is_number ?k_law_is_number ?a_law_text_lines ?l_law_text_lines ?c_law_text_lines ?k_law_text_lines ?a_law_bent_words ?l_law_bent_words ?c_law_bent_words ?k_law_bent_words ?a_law_read_piece ?l_law_read_piece ?c_law_read_piece ?k_law_read_piece ?a_need_one ?l_need_one ?c_need_one ?k_need_one ?o_need_one ?t_need_one ?h_need_one ?n_need_one ?a_need_number ?l_need_number ?c_need_number ?k_need_number ?o_need_number ?t_need_number ?h_need_number ?n_need_number ?a_read_notes ?l_read_notes ?c_read_notes ?k_read_notes ?o_read_notes ?t_read_notes ?h_read_notes ?n_read_notes ?a_law_right ?l_law_right ?c_law_right ?k_law_right ?o_law_right ?t_law_right ?h_law_right ?n_law_right ?a_law ?l_law ?c_law ?k_law ?o_law ?t_law ?h_law ?n_law ?pg_Line ?hd_Line ?po_Line ?sa_Line ?mk_Line ?kc_Line ?pg_Rows ?hd_Rows ?po_Rows ?sa_Rows ?mk_Rows ?kc_Rows ?na_Line_number ?na_Line_words ?na_Line_at ?na_Rows_rows ?na_Rows_at ?a_Linei ?i_Linei ?l_Linei ?c_Linei ?k_Linei ?a_Line_is_end ?i_Line_is_end ?l_Line_is_end ?c_Line_is_end ?k_Line_is_end ?a_Line_seen ?i_Line_seen ?l_Line_seen ?c_Line_seen ?k_Line_seen ?a_Line_skip ?i_Line_skip ?l_Line_skip ?c_Line_skip ?k_Line_skip ?a_Rowsi ?i_Rowsi ?l_Rowsi ?c_Rowsi ?k_Rowsi ?a_Rows_is_end ?i_Rows_is_end ?l_Rows_is_end ?c_Rows_is_end ?k_Rows_is_end ?a_Rows_next_line ?i_Rows_next_line ?l_Rows_next_line ?c_Rows_next_line ?k_Rows_next_line ?a_BTi ?i_BTi ?l_BTi ?c_BTi ?k_BTi ?a_BRi ?i_BRi ?l_BRi ?c_BRi ?k_BRi ?x_BT ?r_BT ?sa_BT ?ex_BT ?ty_BT ?ke_BT ?n1_BT ?n2_BT ?x_BR ?r_BR ?sa_BR ?ex_BR ?ty_BR ?ke_BR ?n1_BR ?n2_BR ?ga ?gg ?hdR ?haR ?hnR ?htR ?hmR ?exV ?sb_VE ?ic_VE ?tc_VE ?ne_VE ?sb_BT ?ic_BT ?tc_BT ?sb_BR ?ic_BR ?tc_BR ?ne_BR ?sb_NU ?ic_NU ?tc_NU ?ne_NU ?sb_NR ?ic_NR ?tc_NR ?ne_NR ?sb_BN ?ic_BN ?tc_BN ?ne_BN ?sb_TN ?ic_TN ?tc_TN ?ne_TN ?sb_BNu ?ic_BNu ?tc_BNu ?ne_BNu ?sb_UL ?ic_UL ?tc_UL ?ne_UL ?sb_TM ?ic_TM ?tc_TM ?ne_TM ?ndT ?mT
    (case z_len => k_is)
    (case z_isinstance => k_is)
    (case z_int => k_is)
    (case z_bool => k_is)
    (case z_tuple => k_is)
    (case z_list => k_is)
    (case z_str => k_is)
    (case z_all => k_is)
    (case z_enumerate => k_is)
    (case z_zip => k_is)
    (case z_range => k_is)
    (case z_max => k_is)
    (case g_D => k_is)
    (case g_M => k_is)
    (case g_VE => k_is)
    (case g_BT => k_is)
    (case g_BR => k_is)
    (case g_NU => k_is)
    (case g_NR => k_is)
    (case g_BN => k_is)
    (case g_TN => k_is)
    (case g_BNu => k_is)
    (case g_UL => k_is)
    (case g_TM => k_is)
    (case g_Line => k_is)
    (case g_Rows => k_is)
    (case v1 => k_is)
    (case v2 => k_is)
    (case v3 => k_is)
    (case v4 => k_is)
    (case a_is_number_word => k_is)
    (case l_is_number_word => k_is)
    (case c_is_number_word => k_is)
    (case k_is_number_word => k_is)
    (case a_split_words => k_is)
    (case l_split_words => k_is)
    (case c_split_words => k_is)
    (case k_split_words => k_is)
    (case a_lines_of => k_is)
    (case l_lines_of => k_is)
    (case c_lines_of => k_is)
    (case k_lines_of => k_is)
    (case a_need_word => k_is)
    (case l_need_word => k_is)
    (case c_need_word => k_is)
    (case k_need_word => k_is)
    (case a_need_end => k_is)
    (case l_need_end => k_is)
    (case c_need_end => k_is)
    (case k_need_end => k_is)
    (case a_piece_of_text => k_is)
    (case l_piece_of_text => k_is)
    (case c_piece_of_text => k_is)
    (case k_piece_of_text => k_is)
    (case a_law_text => k_is)
    (case l_law_text => k_is)
    (case c_law_text => k_is)
    (case k_law_text => k_is)
    (case a_law_loose => k_is)
    (case l_law_loose => k_is)
    (case c_law_loose => k_is)
    (case k_law_loose => k_is)
    (case a_law_pen => k_is)
    (case l_law_pen => k_is)
    (case c_law_pen => k_is)
    (case k_law_pen => k_is)
    (case a_law_draw => k_is)
    (case l_law_draw => k_is)
    (case c_law_draw => k_is)
    (case k_law_draw => k_is)
    (case a_law_pick => k_is)
    (case l_law_pick => k_is)
    (case c_law_pick => k_is)
    (case k_law_pick => k_is)
    (case a_law_is => k_is)
    (case l_law_is => k_is)
    (case c_law_is => k_is)
    (case k_law_is => k_is)
    (case a_law_caught => k_is)
    (case l_law_caught => k_is)
    (case c_law_caught => k_is)
    (case k_law_caught => k_is)
    (case a_law_split => k_is)
    (case l_law_split => k_is)
    (case c_law_split => k_is)
    (case k_law_split => k_is)
    (case a_law_is_number => k_is)
    (case l_law_is_number => k_is)
    (case c_law_is_number => k_is)
    (case k_law_is_number => k_is)
    (case a_law_text_lines => k_is)
    (case l_law_text_lines => k_is)
    (case c_law_text_lines => k_is)
    (case k_law_text_lines => k_is)
    (case a_law_bent_words => k_is)
    (case l_law_bent_words => k_is)
    (case c_law_bent_words => k_is)
    (case k_law_bent_words => k_is)
    (case a_law_read_piece => k_is)
    (case l_law_read_piece => k_is)
    (case c_law_read_piece => k_is)
    (case k_law_read_piece => k_is)
    (case a_need_one => k_is)
    (case l_need_one => k_is)
    (case c_need_one => k_is)
    (case k_need_one => k_is)
    (case o_need_one => k_is)
    (case t_need_one => rfl)
    (case h_need_one => kernel_rfl)
    (case n_need_one => kernel_rfl)
    (case a_need_number => k_is)
    (case l_need_number => k_is)
    (case c_need_number => k_is)
    (case k_need_number => k_is)
    (case o_need_number => k_is)
    (case t_need_number => rfl)
    (case h_need_number => kernel_rfl)
    (case n_need_number => kernel_rfl)
    (case a_read_notes => k_is)
    (case l_read_notes => k_is)
    (case c_read_notes => k_is)
    (case k_read_notes => k_is)
    (case o_read_notes => k_is)
    (case t_read_notes => rfl)
    (case h_read_notes => kernel_rfl)
    (case n_read_notes => kernel_rfl)
    (case a_law_right => k_is)
    (case l_law_right => k_is)
    (case c_law_right => k_is)
    (case k_law_right => k_is)
    (case o_law_right => k_is)
    (case t_law_right => rfl)
    (case h_law_right => kernel_rfl)
    (case n_law_right => kernel_rfl)
    (case a_law => k_is)
    (case l_law => k_is)
    (case c_law => k_is)
    (case k_law => k_is)
    (case o_law => k_is)
    (case t_law => rfl)
    (case h_law => kernel_rfl)
    (case n_law => kernel_rfl)
    (case pg_Line => k_is)
    (case hd_Line => k_is)
    (case po_Line => k_is)
    (case sa_Line => k_is)
    (case mk_Line => k_is)
    (case kc_Line => k_is)
    (case pg_Rows => k_is)
    (case hd_Rows => k_is)
    (case po_Rows => k_is)
    (case sa_Rows => k_is)
    (case mk_Rows => k_is)
    (case kc_Rows => k_is)
    (case na_Line_number => k_is)
    (case na_Line_words => k_is)
    (case na_Line_at => k_is)
    (case na_Rows_rows => k_is)
    (case na_Rows_at => k_is)
    (case a_Linei => k_is)
    (case i_Linei => k_is)
    (case l_Linei => k_is)
    (case c_Linei => k_is)
    (case k_Linei => k_is)
    (case a_Line_is_end => k_is)
    (case i_Line_is_end => k_is)
    (case l_Line_is_end => k_is)
    (case c_Line_is_end => k_is)
    (case k_Line_is_end => k_is)
    (case a_Line_seen => k_is)
    (case i_Line_seen => k_is)
    (case l_Line_seen => k_is)
    (case c_Line_seen => k_is)
    (case k_Line_seen => k_is)
    (case a_Line_skip => k_is)
    (case i_Line_skip => k_is)
    (case l_Line_skip => k_is)
    (case c_Line_skip => k_is)
    (case k_Line_skip => k_is)
    (case a_Rowsi => k_is)
    (case i_Rowsi => k_is)
    (case l_Rowsi => k_is)
    (case c_Rowsi => k_is)
    (case k_Rowsi => k_is)
    (case a_Rows_is_end => k_is)
    (case i_Rows_is_end => k_is)
    (case l_Rows_is_end => k_is)
    (case c_Rows_is_end => k_is)
    (case k_Rows_is_end => k_is)
    (case a_Rows_next_line => k_is)
    (case i_Rows_next_line => k_is)
    (case l_Rows_next_line => k_is)
    (case c_Rows_next_line => k_is)
    (case k_Rows_next_line => k_is)
    (case a_BTi => k_is)
    (case i_BTi => k_is)
    (case l_BTi => k_is)
    (case c_BTi => k_is)
    (case k_BTi => k_is)
    (case a_BRi => k_is)
    (case i_BRi => k_is)
    (case l_BRi => k_is)
    (case c_BRi => k_is)
    (case k_BRi => k_is)
    (case x_BT => k_is)
    (case r_BT => decide +kernel)
    (case sa_BT => k_is)
    (case ex_BT => k_is)
    (case ty_BT => k_is)
    (case ke_BT => k_is)
    (case n1_BT => k_is)
    (case n2_BT => k_is)
    (case x_BR => k_is)
    (case r_BR => decide +kernel)
    (case sa_BR => k_is)
    (case ex_BR => k_is)
    (case ty_BR => k_is)
    (case ke_BR => k_is)
    (case n1_BR => k_is)
    (case n2_BR => k_is)
    (case ga => k_is)
    (case gg => k_is)
    (case hdR => k_is)
    (case haR => k_is)
    (case hnR => k_is)
    (case htR => k_is)
    (case hmR => k_is)
    (case exV => k_is)
    (case sb_VE => k_is)
    (case ic_VE => k_is)
    (case tc_VE => k_is)
    (case ne_VE => decide)
    (case sb_BT => k_is)
    (case ic_BT => k_is)
    (case tc_BT => k_is)
    (case sb_BR => k_is)
    (case ic_BR => k_is)
    (case tc_BR => k_is)
    (case ne_BR => decide)
    (case sb_NU => k_is)
    (case ic_NU => k_is)
    (case tc_NU => k_is)
    (case ne_NU => decide)
    (case sb_NR => k_is)
    (case ic_NR => k_is)
    (case tc_NR => k_is)
    (case ne_NR => decide)
    (case sb_BN => k_is)
    (case ic_BN => k_is)
    (case tc_BN => k_is)
    (case ne_BN => decide)
    (case sb_TN => k_is)
    (case ic_TN => k_is)
    (case tc_TN => k_is)
    (case ne_TN => decide)
    (case sb_BNu => k_is)
    (case ic_BNu => k_is)
    (case tc_BNu => k_is)
    (case ne_BNu => decide)
    (case sb_UL => k_is)
    (case ic_UL => k_is)
    (case tc_UL => k_is)
    (case ne_UL => decide)
    (case sb_TM => k_is)
    (case ic_TM => k_is)
    (case tc_TM => k_is)
    (case ne_TM => decide)
    (case ndT => decide)
    (case mT => decide)
  case X =>
    intro w H s e s' x
    obtain ⟨_, _, _, _, _, _, _, _, _, _, _, _, q⟩ := x
    exact q
