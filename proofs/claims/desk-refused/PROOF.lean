import PyProof.Rows.All
import Wide.All
import OpenK.AllK
import Wide.FinOn
import HandS.Base
import HandS.Call
import HandS.List
import HandS.Comp
import HandS.Iter
import HandS.Exc
import HandS.ExcOwn
import KE.GoesZip
import KE.GoesMore
import KE.GoesComp
import KE.GoesRaise
import KE.KStateDown
import Lean
import HandS.ForMost
import HandS.ForExc
import HandS.More
import HandS.Flow
import HandS.IsInst
import HandS.StrMore
import HandS.Wide
import HandS.Style
import HandS.ListEq
import HandS.DeepEq
import HandS.Evl
import HandS.Defaults
import HandS.ExcIs
import HandS.Rev
import HandS.Walk
import HandS.HeadHook1
import HandS.HeadHook2
import PySem.Challenge.RW_deeprests_k84_desk_refused
import HandS.ExcBuiltin
import HandS.Zip
import HandS.WordsExc
import HandS.Head0
import HandS.Head1
import HandS.Head2
import HandS.HeadEnd
set_option Elab.async false
set_option linter.all false
set_option maxRecDepth 100000
set_option maxHeartbeats 4000000
/-! Own rules over the hand layer: zip of a text and a list; a comprehension whose element may raise; calls and makings within a try at the slots as they stand; what is never reached. -/
namespace Dr
open PySem PySem.Spec PyProof.Rows L2

/-! ### never reached -/
def tNever : TE := fun _ _ _ => False
def tNevS : TS := fun _ _ _ => False
theorem pe_nev {X : Cx} {e : Expr} : PE X e tNever := ⟨fun _ _ _ _ _ _ h => h.elim⟩
theorem ps_nev {X : Cx} {s : Stmt} : PS X s tNevS := ⟨fun _ _ _ _ _ _ h => h.elim⟩
theorem pss_nev {X : Cx} {s : List Stmt} : PSs X s tNevS := ⟨fun _ _ _ _ _ _ h => h.elim⟩

/-! ### zip of a text and a list -/
def ItzS (K : PySem.W.Frag) (z : Str) (b : Addr) : It :=
  ⟨fun i H => ∃ (ys : List V) (c : Nat) (y : V), SqL K H b ys ∧ z.cps[i]? = some c ∧ ys[i]? = some y,
    fun i H v H' => ∃ T c y, v = .ref T ∧ H T = none ∧ H' = upd H T (.tup [.str ⟨#[c]⟩, y]) ∧ z.cps[i]? = some c ∧ ∀ ys, SqL K H b ys → ys[i]? = some y,
    fun i H => ∃ ys : List V, SqL K H b ys ∧ i ≤ z.cps.size ∧ i ≤ ys.length ∧ (i = z.cps.size ∨ i = ys.length)⟩
theorem sep_of {N b : Nat} (hb : b < N) : ZipSep2 (N + 4) (N + 2) (N + 3) N (N + 1) [N] [N + 1, b] := by
  have n1 : ∀ k : Nat, N + k ≠ b := fun k e => by
    have e' : (N + k : Nat) = b := e
    omega
  have n0 : N ≠ b := n1 0
  have k0 : ∀ k : Nat, 0 < k → (N + k : Nat) ≠ N := fun k hk e => by omega
  have kk : ∀ j k : Nat, j ≠ k → (N + j : Nat) ≠ N + k := fun j k hk e => by omega
  exact ⟨kk 2 4 (by decide), kk 3 4 (by decide), kk 2 3 (by decide), k0 2 (by decide), List.mem_cons_self, fun q => k0 4 (by decide) (List.mem_singleton.mp q), fun q => k0 3 (by decide) (List.mem_singleton.mp q), kk 2 1 (by decide), List.mem_cons_self,
    fun q => (List.mem_cons.mp q).elim (kk 4 1 (by decide)) fun q => n1 4 (List.mem_singleton.mp q), fun q => (List.mem_cons.mp q).elim (kk 3 1 (by decide)) fun q => n1 3 (List.mem_singleton.mp q),
    fun q => (List.mem_cons.mp q).elim (fun z => k0 1 (by decide) z.symm) fun q => n0 (List.mem_singleton.mp q), fun q => k0 1 (by decide) (List.mem_singleton.mp q)⟩
theorem ne1_of {N b : Nat} (hb : b < N) : b ≠ N + 1 := by omega
theorem turn_zipS {P : Program} {w : World} {K : PySem.W.Frag} {elts : List Expr} {kk : Nat} {tpos : Pos} {x : Str} {t : Tok} {b N : Nat} (hb : b < N) :
    Turn P w K (.Tuple elts kk tpos) (ItzS K x b) [N + 4, N + 2, N + 3, N, N + 1] (N + 4) (fun i h => IsZip h (N + 4) (N + 2) (N + 3) .none ∧ IsTupOf2 h (N + 2) (.ref N) (.ref (N + 1)) ∧ (∃ u v, IsTupOf2 h (N + 3) u v) ∧ h.IsStrIter N (strIterType x) x t i ∧ h.IsListIter (N + 1) b i) where
  mem := by simp
  obj := fun i h st c hc => by
    obtain ⟨hz, hTI, ⟨u, v, hTO⟩, ⟨o1, e1, _, d1⟩, ⟨o2, e2, _, d2⟩⟩ := st
    have e' : c = N + 4 ∨ c = N + 2 ∨ c = N + 3 ∨ c = N ∨ c = N + 1 := by simpa using hc
    rcases e' with q | q | q | q | q
    · rw [q]; exact ⟨_, hz, fun v q => nomatch q⟩
    · rw [q]; exact ⟨_, hTI, fun v q => nomatch q⟩
    · rw [q]; exact ⟨_, hTO, fun v q => nomatch q⟩
    · rw [q]; exact ⟨o1, e1, fun v q => by rw [d1] at q; cases q⟩
    · rw [q]; exact ⟨o2, e2, fun v q => by rw [d2] at q; cases q⟩
  keep := fun i h h' st k => by
    obtain ⟨hz, hTI, ⟨u, v, hTO⟩, ⟨o1, e1, r1⟩, h2⟩ := st
    exact ⟨k (N + 4) (by simp) _ hz, k (N + 2) (by simp) _ hTI, ⟨u, v, k (N + 3) (by simp) _ hTO⟩, ⟨o1, k N (by simp) _ e1, r1⟩, h2.at fun o q => k (N + 1) (by simp) o q⟩
  item := by
    intro X hP hw hK hc i pins s σ H E I hf st hg
    subst hP hw hK
    obtain ⟨hz, hTI, ⟨u0, v0, hTO⟩, h1, h2⟩ := st
    obtain ⟨ys, c, y, hqy, hcx, hy⟩ := hg
    obtain ⟨its2, rv2, p2, _⟩ := I.list hqy
    obtain ⟨u2, hu2, ru2⟩ := rv2.get hy
    have hh : X.A.in1.handled = none := I.ok.hd hc
    have S := sep_of (N := N) hb
    have hzl : N + 4 < s.heap.objs.size := Heap.lt_size hz
    have D1 := Draws.text (prog := X.prog) (w := X.w) (A := X.A.in1) hh N x t
    have D2 := Draws.list (prog := X.prog) (w := X.w) (A := X.A.in1) hh (N + 1) b (ne1_of hb) its2.toArray
    have hi1 : i < x.cps.size := by
      obtain ⟨q, _⟩ := Array.getElem?_eq_some_iff.mp hcx
      exact q
    have hi2 : i < its2.toArray.size := by
      have q := (List.getElem?_eq_some_iff.mp hu2).1
      simpa using q
    refine wpAny_pyNext_zipD2_item S D1 D2 hz hTI hTO h1 ⟨h2, p2.isList⟩ hi1 hi2 fun x1 x2 h' tk y1 y2 z' TO' d1 d2 hT hsz hk => ?_
    obtain ⟨c', t', hc', rfl⟩ := y1
    rw [hcx] at hc'
    cases hc'
    have e2 : x2 = u2 := by
      have q : its2.toArray[i]? = some x2 := y2
      have q2 : its2[i]? = some x2 := by simpa using q
      rw [hu2] at q2
      exact (Option.some.inj q2).symm
    subst e2
    refine ⟨_, rfl, wpAny_letOwnedTupleGo_zip (s := { s with heap := h', toks := tk }) z' fun h'' z'' sb => ?_⟩
    have hT2 : h''.get? s.heap.objs.size = some { cls := .type "tuple", data := .seq #[.str ⟨#[c]⟩ t', x2] } := (sb.2 _ (Nat.ne_of_gt hzl)).trans hT
    have new : ObjOk X.prog X.w (upd H s.heap.objs.size (.tup [.str ⟨#[c]⟩, y])) h'' s.heap.objs.size (.tup [.str ⟨#[c]⟩, y]) :=
      ⟨by show 2 ≤ sizeLine; decide, [.str ⟨#[c]⟩ t', x2], .cons ⟨t', rfl⟩ (.cons ru2 .nil), ⟨_, hT2, rfl, _, rfl⟩⟩
    have I1 : Inv X pins σ (upd H s.heap.objs.size (.tup [.str ⟨#[c]⟩, y])) { s with heap := h'', toks := tk } :=
      I.turnedNew (t' := tk) (ch := [N + 4, N + 2, N + 3, N, N + 1]) (fun c o hb q => (sb.2 c (fun q' => hb (by simp [q']))).trans (hk c o (fun q' => hb (by simp [q'])) (fun q' => hb (by simp [q'])) (fun q' => hb (by simp [q'])) (fun q' => hb (by simp [q'])) q)) hf (Nat.le_refl _) new
    refine ⟨.ref s.heap.objs.size, _, I1, rfl, ⟨_, c, y, rfl, I.hok.fresh (Nat.le_refl _), rfl, hcx, fun l hl => by rw [I.list_inj hl hqy]; exact hy⟩, ⟨z'', ?_, ⟨.str ⟨#[c]⟩ t', x2, ?_⟩, ?_, ?_⟩, fun c hcm => ?_⟩
    · exact (sb.2 _ S.TIz).trans (hk _ _ S.TIz S.TITO S.TIi1 S.TIi2 hTI)
    · exact (sb.2 _ S.TOz).trans TO'
    · obtain ⟨o1, e1, r1⟩ := d1
      exact ⟨o1, (sb.2 _ S.zi1.symm).trans e1, r1⟩
    · exact d2.1.at fun o q => (sb.2 _ S.zi2.symm).trans q
    · have hlt : c < s.heap.objs.size := by
        have e' : c = N + 4 ∨ c = N + 2 ∨ c = N + 3 ∨ c = N ∨ c = N + 1 := by simpa using hcm
        have q' : c ≤ N + 4 := by
          rcases e' with q | q | q | q | q
          · rw [q]; exact Nat.le_refl _
          · rw [q]; exact Nat.add_le_add_left (by decide) _
          · rw [q]; exact Nat.add_le_add_left (by decide) _
          · rw [q]; exact Nat.le_add_right _ _
          · rw [q]; exact Nat.add_le_add_left (by decide) _
        exact Nat.lt_of_le_of_lt q' hzl
      rw [upd_ne (Nat.ne_of_lt hlt)]
      exact (hf c hcm).1
  done := by
    intro X hP hw hK hc i pins s σ H E I hf st hg
    subst hP hw hK
    obtain ⟨hz, hTI, ⟨u0, v0, hTO⟩, h1, h2⟩ := st
    obtain ⟨ys, hqy, le1, le2, hend⟩ := hg
    obtain ⟨its2, rv2, p2, _⟩ := I.list hqy
    have l2 := rv2.length
    have hh : X.A.in1.handled = none := I.ok.hd hc
    have S := sep_of (N := N) hb
    have D1 := Draws.text (prog := X.prog) (w := X.w) (A := X.A.in1) hh N x t
    have D2 := Draws.list (prog := X.prog) (w := X.w) (A := X.A.in1) hh (N + 1) b (ne1_of hb) its2.toArray
    have sz2 : its2.toArray.size = ys.length := by simp [l2]
    refine wpAny_pyNext_zipD2_end S D1 D2 hz hTI hTO h1 ⟨h2, p2.isList⟩ le1 (by rw [sz2]; exact le2) (by rw [sz2]; exact hend) fun h' tk hk => ⟨rfl, I.turnedL (t' := tk) (ch := [N + 4, N + 2, N + 3, N, N + 1]) (fun c o hb q =>
      hk c o (fun q' => hb (by simp [q'])) (fun q' => hb (by simp [q'])) (fun q' => hb (by simp [q'])) (fun q' => hb (by simp [q'])) q) hf⟩
  self := fun A i s Q E st h => wpAny_pyIter_zip st.1 h
def iZipS (K : PySem.W.Frag) (ta : TA) : TI := fun σ H R => ta σ H fun vs H1 => ∃ x b ys, vs = [.str x, .ref b] ∧ SqL K H1 b ys ∧ R (ItzS K x b) H1
theorem pi_zipS {X : Cx} {e e2 : Expr} {ta : TA} {p pos tpos : Pos} {elts : List Expr} {kk : Nat} (hg : Gl X "zip") (hm : X.mg "zip" = none) (ha : PA X [e, e2] ta)
    (hs : starEach [e, e2] X.env = (false, eval e X.env) :: starEach [e2] X.env := by rfl) (hpl : (backTo pos (starEach [e2] X.env)).any (·.1) = false := by rfl) :
    PI X (.Tuple elts kk tpos) (.Call (.Name "zip" p) [e, e2] [] pos) (iZipS X.K ta) := by
  refine ⟨fun pins s σ H R I h => ?_⟩
  refine Call_ (ld_blt I hg hm PyProof.Rows.boot_zip (PyProof.Rows.callWith_type1 (thn (ha.run pos pins s σ H _ I h) fun us s1 ⟨vs, H1, I1, r1, q1⟩ => ?_) hs hpl))
  obtain ⟨x, b, ys, ex, hqy, q⟩ := q1
  subst ex
  cases r1 with
  | cons r rr =>
    cases rr with
    | cons r' rr =>
      cases rr
      obtain ⟨t, rfl⟩ := r
      cases r'
      obtain ⟨its2, rv2, p2, _⟩ := I1.list hqy
      have lb : b < s1.heap.objs.size := p2.lt
      refine zip_begins2 (begins_text x t) (begins_list b its2.toArray) trivial p2.isList fun h' hz hTI hTO h1 h2 hsz hk => wpAny_pyIter_zip hz ?_
      have I2 : Inv X pins σ H1 { s1 with heap := h' } := I1.kept (t' := s1.toks) hk
      refine ⟨s1.heap.objs.size + 4, [s1.heap.objs.size + 4, s1.heap.objs.size + 2, s1.heap.objs.size + 3, s1.heap.objs.size, s1.heap.objs.size + 1], _, _, H1, rfl, I2, turn_zipS (x := x) (t := t) lb, ⟨hz, hTI, ⟨_, _, hTO⟩, ⟨_, h1, rfl, rfl⟩, ⟨_, h2, rfl, rfl⟩⟩, fun c hcm => ?_, q⟩
      have e' : c = s1.heap.objs.size + 4 ∨ c = s1.heap.objs.size + 2 ∨ c = s1.heap.objs.size + 3 ∨ c = s1.heap.objs.size ∨ c = s1.heap.objs.size + 1 := by simpa using hcm
      have hle : s1.heap.objs.size ≤ c := by
        rcases e' with z | z | z | z | z
        · rw [z]; exact Nat.le_add_right _ _
        · rw [z]; exact Nat.le_add_right _ _
        · rw [z]; exact Nat.le_add_right _ _
        · rw [z]; exact Nat.le_refl _
        · rw [z]; exact Nat.le_add_right _ _
      exact I1.fpOk hle (I1.hok.fresh hle)
end Dr

/-! Own rule: a list comprehension whose element is a call that may raise. -/
namespace Dr
open PySem PySem.Spec PyProof.Rows L2

section
variable {X : Cx} {pins : List (Addr × Obj)} {σ : L2.St} {H H3 : Hp} {s s3 s' : Shared} {E : XK}
/-- a call's exception in the air, the ground told -/
theorem air_of_call (I : Inv X pins σ H s) {u : Value} (c : L2.CX X.prog X.w X.stack H s E u s') :
    ∃ (a : Addr) (B : Heap) (sI : Shared) (H' : Hp) (cls : Value) (d : Option Addr), u = .ref a ∧ Inv X pins σ H' sI ∧ (∀ b o, sI.heap.get? b = some o → b ∉ frs X.stack → B.get? b = some o) ∧ sI.heap.UpToSlots s'.heap ∧
      HandSPX.FlyingZ B X.stack a (Zc cls d) s'.heap ∧ H' a = none ∧ s'.os = sI.os ∧ AllBare s'.gens ∧ E cls d H' := by
  obtain ⟨a, B, H', cls, d, rfl, fl, hok, ub, na, os, ag, hE⟩ := c
  obtain ⟨G, g1, g2⟩ := restrict s'.heap fun b => (B.get? b).isSome || decide (b ∈ frs X.stack)
  have gB : ∀ b o, B.get? b = some o → G.get? b = some o := fun b o e => by
    rw [g1 b (by simp [e])]
    exact fl.1 b o e
  have gF : ∀ b, b ∈ frs X.stack → G.get? b = s'.heap.get? b := fun b hb => g1 b (by simp [hb])
  have og : ∀ b o, G.get? b = some o → s'.heap.get? b = some o ∧ ((B.get? b).isSome = true ∨ b ∈ frs X.stack) := fun b o e => by
    cases q : ((B.get? b).isSome || decide (b ∈ frs X.stack)) with
    | false => rw [g2 b q] at e; cases e
    | true =>
      rw [g1 b q] at e
      exact ⟨e, by simpa [Bool.or_eq_true] using q⟩
  refine ⟨a, B, { s with heap := G, gens := s'.gens, drawn := s'.drawn, toks := s'.toks }, H', cls, d, rfl, ?_, fun b o e hb => ?_, Heap.UpToSlots.of_keeps fun b o e => (og b o e).1, fl, na, os, ag, hE⟩
  · refine I.call (ch := []) ⟨fun b o e n hb _ => gB b o (ub.keep b o e n hb), fun b o e n hb _ => ?_, fun b o e n _ => ub.free b o e n, fun b o e _ => ?_, ub.tups, ub.frzs, ub.tbls⟩ (hok.kept gB) ag (fun _ z => nomatch z)
    · obtain ⟨sl, q⟩ := ub.slot b o e hb
      exact ⟨sl, by rw [gF b hb]; exact q⟩
    · by_cases hb : b ∈ frs X.stack
      · obtain ⟨sl, q⟩ := ub.slot b o e hb
        exact ⟨_, by rw [gF b hb]; exact q⟩
      · obtain ⟨o', q⟩ := ub.there b o e hb
        exact ⟨o', gB b o' q⟩
  · obtain ⟨e', h⟩ := og b o e
    rcases h with h | h
    · obtain ⟨o', q⟩ := Option.isSome_iff_exists.mp h
      have z := fl.1 b o' q
      rw [e'] at z; cases z
      exact q
    · exact absurd h hb
/-- what the block's element may let out goes on in the def's own frame -/
theorem block_passes {scope : Scope} {cl : List (Str × Addr)} {fp : List Addr} (hs : X.stack = X.env :: X.outer) (hf : X.env.frame = some X.env.locals) (tk : Takes X (fun cls d _ H => E cls d H)) (I3 : Inv X pins σ H3 s3)
    (f3 : ∀ b ∈ fp, FpOk X pins H3 b ∧ b < s3.heap.objs.size) :
    Passes (L2.CX X.prog X.w) ((X.blk s3 H3 scope (compEnvC scope cl s3.heap.objs.size X.env) fp).wish
      (notedBy (model X.prog X.w) X.A (compEnvC scope cl s3.heap.objs.size X.env) (CompFails (model X.prog X.w) X.A X.xe (compEnvC scope cl s3.heap.objs.size X.env)))) E := by
  intro pins' σ' H5 s5 e s6 J hcx
  obtain ⟨a, B, sI, H', cls, d, rfl, JI, nb, up, fl, na, os, ag, hE⟩ := air_of_call J hcx
  generalize hC : s3.heap.objs.size = C at J JI nb fl ⊢
  generalize hce : compEnvC scope cl C X.env = ce at J JI nb fl ⊢
  have cL : ce.locals = C := by subst hce; rfl
  have cF : ce.frame = X.env.frame := by subst hce; rfl
  have hfr : X.A.frames = some (X.env :: X.outer) := by rw [I3.ok.frames, hs]
  have fl : HandSPX.FlyingZ B (X.env :: X.outer) a (Zc cls d) s6.heap := by rw [← hs]; exact fl
  show wpAny (model X.prog X.w) X.A (noteFrame (.ref a) ce) (fun _ s'' => CompFails (model X.prog X.w) X.A X.xe ce (.ref a) s'') (CompFails (model X.prog X.w) X.A X.xe ce) s6
  rw [noteFrame_env _ cF]
  refine HandSPX.looks_onZ Zc.steady hfr hf fl fun h' hh up' => ?_
  obtain ⟨m, hn, _⟩ := JI.loc
  have hn : sI.heap.Ns C m := by rw [← cL]; exact hn
  have HC : H' C = none := by rw [← cL]; exact JI.free
  have hn' : h'.Ns C m := hn.upToSlots (up.trans up')
  refine ⟨m, by rw [cL]; exact hn', fun h2 m2 hn2 hs2 => ?_⟩
  rw [cL] at hn2 hs2
  obtain ⟨k1, k2, k3, oe, vs, T, oT, ts, e1, e2, e3, e4, e5, e6, e7, e8, e9⟩ := hh
  -- C holds names: it is neither the exception nor its traceback
  have nF : ∀ b o ws, h'.get? b = some o → o.data = .fields ws → b ≠ C := fun b o ws q1 q2 q3 => by
    obtain ⟨oL, es, ep, g1, g2, _⟩ := hn'
    rw [q3, g1] at q1
    cases q1
    rw [q2] at g2
    cases g2
  have naC := nF a oe vs e1 e3
  have nTC := nF T oT ts e7 e8
  have oB : ∀ b o, (PySem.W.hideAll B [C]).get? b = some o → B.get? b = some o ∧ b ≠ C := fun b o q => ⟨PySem.W.of_hideAll _ q, fun z => by
    rw [PySem.W.hideAll_none [C] (by simp [z])] at q
    cases q⟩
  have noB : ∀ b, B.get? b = none → (PySem.W.hideAll B [C]).get? b = none := fun b q => by
    cases z : (PySem.W.hideAll B [C]).get? b with
    | none => rfl
    | some o =>
      rw [(oB b o z).1] at q
      cases q
  have hF2 : h2.FunFrames (PySem.W.hideAll B [C]) (X.env :: X.outer) := by
    refine funFrames_none (Heap.FunFrames.sameBut hs2 hn2 k3) fun L hL => noB L ?_
    exact (k3.mem hL).1
  have hh2 : HandSPX.HeldZ (PySem.W.hideAll B [C]) (X.env :: X.outer) a (Zc cls d) X.env.locals h2 := by
    refine ⟨fun b o q => ?_, noB a k2, hF2, oe, vs, T, oT, ts, (hs2.2 a naC).trans e1, e2, e3, e4, noB T e5, e6, (hs2.2 T nTC).trans e7, e8, e9⟩
    obtain ⟨q1, q2⟩ := oB b o q
    exact (hs2.2 b q2).trans (k1 b o q1)
  unfold PySem.passOn
  refine wpAny_bind (wpAny_field ((hs2.2 a naC).trans e1) e3 e4 ?_)
  rw [if_neg (show ¬ ((Value.ref T == Value.none) = true) from by simp)]
  rw [cF, hf]
  refine wpAny_bind (HandSPX.setFlight_onZ (s := { s6 with heap := h2 }) hh2 fun h3 hh3 up3 => ?_)
  refine wpAny_throw (tk _ _ ?_)
  have oI : ∀ b o, (PySem.W.hideAll sI.heap [C]).get? b = some o → sI.heap.get? b = some o ∧ b ≠ C := fun b o q => ⟨PySem.W.of_hideAll _ q, fun z => by
    rw [PySem.W.hideAll_none [C] (by simp [z])] at q
    cases q⟩
  have toI : ∀ b o, sI.heap.get? b = some o → b ≠ C → (PySem.W.hideAll sI.heap [C]).get? b = some o := fun b o q z => PySem.W.hideAll_get _ q (by simp [z])
  have s3C : ∀ b o, s3.heap.get? b = some o → b ≠ C := fun b o q => by
    rw [← hC]
    exact Nat.ne_of_lt (Heap.lt_size q)
  refine ⟨a, PySem.W.hideAll B [C], { sI with heap := PySem.W.hideAll sI.heap [C] }, pins, σ, H', cls, d, rfl, ?_, fun b o q hb => ?_, fun b o q hd => ?_, .inr (.inr (by rw [hs]; exact hh3)), na, os, ag, hE⟩
  · have u := JI.base
    refine I3.call' (ch := fp) (s' := { sI with heap := PySem.W.hideAll sI.heap [C] }) JI.os ⟨fun b o q n x y => toI b o (u.keep b o q n x y) (s3C b o q), fun b o q n x y => ?_, u.free, fun b o q y => ?_, u.tups, u.frzs, u.tbls⟩ (fun b o q => ?_) JI.bare
      fun b hb => ⟨(f3 b hb).1.2.2.2.1, (f3 b hb).1.2.1, (f3 b hb).1.2.2.2.2.1, (f3 b hb).1.2.2.2.2.2⟩
    · obtain ⟨sl, q1⟩ := u.slot b o q n x y
      exact ⟨sl, toI b _ q1 (s3C b o q)⟩
    · obtain ⟨o', q1⟩ := u.there b o q y
      exact ⟨o', toI b _ q1 (s3C b o q)⟩
    · refine (JI.hok b o q).stay (fun b' u' hb' q' => toI b' u' q' ?_) (fun _ z => z) fun _ _ z => z
      intro z
      rcases hb' with hb' | hb'
      · rw [← hb', z, HC] at q
        cases q
      · rw [z, HC] at hb'
        cases hb'
  · obtain ⟨q1, q2⟩ := oI b o q
    exact PySem.W.hideAll_get _ (nb b o q1 hb) (by simp [q2])
  · obtain ⟨q1, q2⟩ := oI b o q
    obtain ⟨sl, q3⟩ := (up.trans up') b o q1 hd
    have q4 : h2.get? b = some { o with slots := sl } := (hs2.2 b q2).trans q3
    obtain ⟨sl2, q5⟩ := up3 b _ q4 hd
    exact ⟨sl2, q5⟩
end

section
variable {X : Cx} {EE : XK}
/-- [elt for target in iter if ..], the element a call that may raise (EE: what is wanted then, whatever the block's slots are) -/
theorem lc_coreX {pins : List (Addr × Obj)} {s : Shared} {σ : L2.St} {H : Hp} {Q : VK} {elt tg iter : Expr} {ifs : List Expr} {scope : Scope} {own : List (Str × Nat)} {pos pos' : Pos} {wi : TI} {g : TG} {tt : TT} {te : TE} {use : Option (Value → Sem Unit)} {Qf : Value → Shared → Prop}
    (hst : X.stack = X.env :: X.outer) (hfm : X.env.frame = some X.env.locals) (tk : Takes X (fun cls d _ H => EE cls d H))
    (hc : X.calm = true) (hN : X.N.Nodup) (I : Inv X pins σ H s) (hi : PI X tg iter wi) (ok : BlkOk X.N X.env.scope scope own)
    (hg : ∀ (s : Shared) (H : Hp) (C : Addr) (cl : List (Str × Addr)) (fp : List Addr) (xe : Value → Shared → Prop), PG ((X.blk s H scope (compEnvC scope cl C X.env) fp).wish xe) tg g) (ht : ∀ (s : Shared) (H : Hp) (C : Addr) (cl : List (Str × Addr)) (fp : List Addr) (xe : Value → Shared → Prop), PTs ((X.blk s H scope (compEnvC scope cl C X.env) fp).wish xe) ifs tt)
    (he : ∀ (s : Shared) (H : Hp) (C : Addr) (cl : List (Str × Addr)) (fp : List Addr) (xe : Value → Shared → Prop), Passes (L2.CX X.prog X.w) ((X.blk s H scope (compEnvC scope cl C X.env) fp).wish xe) EE → PE ((X.blk s H scope (compEnvC scope cl C X.env) fp).wish xe) elt te)
    (hs : ∀ x, foldedSetIterable iter X.env x = pure x)
    (h : tLc wi g tt te (own.map (·.2)) σ H Q)
    (hRR : ∀ D (ce : Env) s' m H', Inv X pins σ H' s' → Q (.ref D) H' → s'.heap.Ns ce.locals m → FpOk X pins H' ce.locals → compEnds (model X.prog X.w) X.A X.xe use Qf (.ref D) ce (.ok .next) s') :
    wpAny (model X.prog X.w) X.A (comprehension (.ListComp elt [⟨tg, iter, ifs, 0⟩] scope pos) scope X.env pos' (newList []) false (eval iter X.env) use) Qf X.xe s := by
  have hfree : ∀ y ∈ scope.names, y.2 = .free → ∃ c, X.env.cells.lookup y.1 = some c := fun y hy e => by
    rcases ok.free y hy e with k | k
    · exact I.ok.has _ (.inl k)
    · exact I.ok.has _ (.inr k)
  refine comprehension_at (use := use) rfl hs (closure_ok hfree) ok.kind (fun y hy e => by rw [ok.uniq y hy, e])
    (thn (hi.run pins s σ H _ I h) fun xv s1 hx => thn hx fun itv s2 h2 => ?_)
  obtain ⟨it, fp, tn, J, H2, e, I2, T, st2, f2, q⟩ := h2
  subst e
  refine wpAny_newObj_type (newEnv_comp ?_) (by show 0 ≤ sizeLine; decide)
  generalize hD : s2.heap.objs.size = D
  have hDn : H2 D = none := I2.hok.fresh (Nat.le_of_eq hD)
  obtain ⟨W, ⟨m0, w0⟩, turn⟩ := q D hDn
  generalize hs3 : ({ s2 with heap := s2.heap.push { cls := .type "list", data := .seq ([] : List Value).toArray } } : Shared) = s3
  have I3 : Inv X pins σ (upd H2 D (.lst [])) s3 := by
    rw [← hs3]
    refine I2.laid (t' := s2.toks) (fun b o e => Heap.get?_push_of_some _ e) (Nat.le_of_eq hD) ⟨Nat.zero_le _, [], 0, .nil, ?_⟩
    rw [← hD]
    exact Heap.get?_push_size _ rfl
  have h3 : s3.heap = s2.heap.push { cls := .type "list", data := .seq ([] : List Value).toArray } := by rw [← hs3]
  have sz : ∀ b ∈ fp, b < s2.heap.objs.size := fun b hb => by
    obtain ⟨o, e, _⟩ := T.obj _ _ st2 b hb
    exact Heap.lt_size e
  have f3 : ∀ b ∈ fp, FpOk X pins (upd H2 D (.lst [])) b ∧ b < s3.heap.objs.size := fun b hb => by
    have hlt := sz b hb
    refine ⟨⟨?_, (f2 b hb).2⟩, by rw [h3, Heap.size_push]; exact Nat.lt_succ_of_lt hlt⟩
    rw [upd_ne (by rw [← hD]; exact Nat.ne_of_lt hlt)]
    exact (f2 b hb).1
  have st3 : tn 0 s3.heap := T.keep _ _ _ st2 fun b _ o e => by rw [h3]; exact Heap.get?_push_of_some _ e
  have I4 := block_start I3 ok hN f3
  have ps := block_passes (scope := scope) (cl := cellsFrom (s3.heap.objs.size + 1) scope.names (cloFrom X.env.cells scope.names [])) hst hfm tk I3 f3
  have pg := hg s3 (upd H2 D (.lst [])) s3.heap.objs.size (cellsFrom (s3.heap.objs.size + 1) scope.names (cloFrom X.env.cells scope.names [])) fp
  have pt := ht s3 (upd H2 D (.lst [])) s3.heap.objs.size (cellsFrom (s3.heap.objs.size + 1) scope.names (cloFrom X.env.cells scope.names [])) fp
  have pe := he s3 (upd H2 D (.lst [])) s3.heap.objs.size (cellsFrom (s3.heap.objs.size + 1) scope.names (cloFrom X.env.cells scope.names [])) fp
  show codeAny _ _ (.compStart (.ListComp elt [⟨tg, iter, ifs, 0⟩] scope pos) 0 (.ref it) (.ref D) (compEnvC scope (cellsFrom (s3.heap.objs.size + 1) scope.names (cloFrom X.env.cells scope.names [])) s3.heap.objs.size X.env)) (compEnds (model X.prog X.w) X.A X.xe use Qf (.ref D) (compEnvC scope (cellsFrom (s3.heap.objs.size + 1) scope.names (cloFrom X.env.cells scope.names [])) s3.heap.objs.size X.env)) { s3 with heap := pushCells (s3.heap.push { cls := .type "dict", data := .dict #[] }) scope.names }
  have nfp : ∀ b ∈ fp, (upd H2 D (.lst [])) b = none := fun b hb => (f3 b hb).1.1
  generalize hce : compEnvC scope (cellsFrom (s3.heap.objs.size + 1) scope.names (cloFrom X.env.cells scope.names [])) s3.heap.objs.size X.env = ce at I4 pg pt pe ps ⊢
  have cL : ce.locals = s3.heap.objs.size := by subst hce; rfl
  generalize hH3 : upd H2 D (.lst []) = H3 at I3 I4 pg pt pe ps w0 nfp f3
  generalize hxe : notedBy (model X.prog X.w) X.A ce (CompFails (model X.prog X.w) X.A X.xe ce) = xe at ps
  have pg := pg xe
  have pt := pt xe
  have pe := pe xe ps
  generalize hs4 : ({ s3 with heap := pushCells (s3.heap.push { cls := .type "dict", data := .dict #[] }) scope.names } : Shared) = s4 at I4 ⊢
  have I4 := I4.wish xe
  have st4 : tn 0 s4.heap := T.keep _ _ _ st3 fun b _ o e => by rw [← hs4]; exact pushCells_keeps _ _ _ _ (Heap.get?_push_of_some _ e)
  have stat : ∀ {σ' : L2.St} {H' : Hp} {s' : Shared}, Inv ((X.blk s3 H3 scope ce fp).wish xe) [] σ' H' s' → (∀ b ∈ fp, H' b = none) → ∀ b ∈ fp, FpOk ((X.blk s3 H3 scope ce fp).wish xe) [] H' b := fun {σ' H' s'} I' hn b hb =>
    ⟨hn b hb, (I'.ok.exf b hb).1, I'.ok.exfs b hb, .inl hb, fun x c e => (I'.ok.exf b hb).2 x c e, fun p hp => absurd (show p ∈ ([] : List (Addr × Obj)) ++ [] from hp) (by simp)⟩
  have loop : codeAny (model X.prog X.w) X.A (.compLoop (.ListComp elt [⟨tg, iter, ifs, 0⟩] scope pos) 0 (.ref it) (.ref D) ce) (compEnds (model X.prog X.w) X.A X.xe use Qf (.ref D) ce) s4 := by
    refine compLoop_any (fun n s' => ∃ i H', Inv ((X.blk s3 H3 scope ce fp).wish xe) [] (wipe σ (own.map (·.2))) H' s' ∧ tn i s'.heap ∧ (∀ b ∈ fp, H' b = none) ∧ W i n H') ?_ m0 ⟨0, H3, I4, st4, nfp, w0⟩
    have xeq : (notedBy (model X.prog X.w) X.A ce fun e s' => compEnds (model X.prog X.w) X.A X.xe use Qf (.ref D) ce (.error e) s') = xe := by
      rw [← hxe]
      cases use <;> rfl
    rw [xeq]
    rintro n s5 ⟨i, H5, I5, st5, n5, w5⟩
    rcases turn i n H5 w5 with ⟨stop, qq⟩ | ⟨go, Nx, hNx, step⟩
    · have td := T.done ((X.blk s3 H3 scope ce fp).wish xe) rfl rfl rfl hc i [] s5 _ H5 (fun _ _ => False) I5 (stat I5 n5) st5 stop
      refine thnF td fun r s6 ⟨hr, I6⟩ => ?_
      subst hr
      have I7 : Inv X pins σ H5 s6 := I3.call' (ch := fp) I6.os I6.base I6.hok I6.bare fun b hb => ⟨(f3 b hb).1.2.2.2.1, (f3 b hb).1.2.1, (f3 b hb).1.2.2.2.2.1, (f3 b hb).1.2.2.2.2.2⟩
      have nC : H5 ce.locals = none := I6.free
      obtain ⟨m, hn, _⟩ := I6.loc
      have hn : s6.heap.Ns ce.locals m := hn
      exact hRR D ce s6 m H5 I7 qq hn (I3.fpOk (Nat.le_of_eq cL.symm) nC)
    · have ti := T.item ((X.blk s3 H3 scope ce fp).wish xe) rfl rfl rfl hc i [] s5 _ H5 (fun _ _ => False) I5 (stat I5 n5) st5 go
      refine thnF ti fun r s6 ⟨u, hr, h6⟩ => ?_
      subst hr
      refine thnF h6 fun _ s7 ⟨x, H7, I7, r7, y7, st7, n7⟩ => ?_
      have I7' := I7.pinned (stat I7 n7) (T.obj _ _ st7)
      refine thn (pg.run _ s7 _ H7 x u _ I7' r7 (step x H7 y7)) fun _ s8 ⟨σ8, H8, I8, hw8, q8⟩ => ?_
      refine thn (pt.run _ s8 σ8 H8 _ I8 q8) fun b s9 ⟨H9, I9, q9⟩ => ?_
      have fin : ∀ {s' : Shared} {H' : Hp}, Inv ((X.blk s3 H3 scope ce fp).wish xe) ([] ++ pinsAt fp s7.heap) σ8 H' s' → Nx H' → ∃ m, m < n ∧ ∃ i H', Inv ((X.blk s3 H3 scope ce fp).wish xe) [] (wipe σ (own.map (·.2))) H' s' ∧ tn i s'.heap ∧ (∀ b ∈ fp, H' b = none) ∧ W i m H' := fun {s' H'} I' nx => by
        obtain ⟨m', hm, w'⟩ := hNx H' nx
        have pin' : ∀ b ∈ fp, ∀ o, s7.heap.get? b = some o → s'.heap.get? b = some o ∧ H' b = none := fun b hb o e =>
          let z := I'.pin (b, o) (List.mem_append_right _ (List.mem_append_right _ (mem_pinsAt hb e)))
          ⟨z.1, z.2.1⟩
        have hl : (wipe σ (own.map (·.2))).length = σ8.length := by rw [← hw8, wipe_length]
        refine ⟨m', hm, i + 1, H', (I'.unpinned (pins := [])).weak hl (fun j v e => ?_), T.keep _ _ _ st7 fun b hb o e => (pin' b hb o e).1, fun b hb => ?_, w'⟩
        · rw [← hw8] at e
          exact (wipe_some e).1
        · obtain ⟨o, e, _⟩ := T.obj _ _ st7 b hb
          exact (pin' b hb o e).2
      cases b with
      | false =>
        simp only [Bool.false_eq_true, if_false] at q9 ⊢
        exact fin I9 q9
      | true =>
        simp only [if_true] at q9 ⊢
        refine thn (pe.run _ s9 σ8 H9 _ I9 q9) fun z s10 ⟨yv, H10, I10, r10, acc, hD10, hz10, nx⟩ => ?_
        exact app_ok (X := (X.blk s3 H3 scope ce fp).wish xe) I10 hD10 hz10 r10 fun s11 I11 => fin I11 nx
  exact codeAny_compStart_list loop (T.self X.A 0 _ _ _ st4 loop)
theorem pe_lcX {elt tg iter : Expr} {ifs : List Expr} {scope : Scope} {own : List (Str × Nat)} {pos : Pos} {wi : TI} {g : TG} {tt : TT} {te : TE}
    (hst : X.stack = X.env :: X.outer) (hfm : X.env.frame = some X.env.locals) (tk : Takes X (fun cls d _ H => EE cls d H)) (hc : X.calm = true) (hN : X.N.Nodup) (hi : PI X tg iter wi) (ok : BlkOk X.N X.env.scope scope own)
    (hg : ∀ (s : Shared) (H : Hp) (C : Addr) (cl : List (Str × Addr)) (fp : List Addr) (xe : Value → Shared → Prop), PG ((X.blk s H scope (compEnvC scope cl C X.env) fp).wish xe) tg g) (ht : ∀ (s : Shared) (H : Hp) (C : Addr) (cl : List (Str × Addr)) (fp : List Addr) (xe : Value → Shared → Prop), PTs ((X.blk s H scope (compEnvC scope cl C X.env) fp).wish xe) ifs tt)
    (he : ∀ (s : Shared) (H : Hp) (C : Addr) (cl : List (Str × Addr)) (fp : List Addr) (xe : Value → Shared → Prop), Passes (L2.CX X.prog X.w) ((X.blk s H scope (compEnvC scope cl C X.env) fp).wish xe) EE → PE ((X.blk s H scope (compEnvC scope cl C X.env) fp).wish xe) elt te)
    (hs : ∀ x, foldedSetIterable iter X.env x = pure x := by intro _; rfl) : PE X (.ListComp elt [⟨tg, iter, ifs, 0⟩] scope pos) (tLc wi g tt te (own.map (·.2))) := by
  refine ⟨fun pins s σ H Q I h => ?_⟩
  rw [eval_ListComp]
  refine lc_coreX hst hfm tk hc hN I hi ok hg ht he hs h fun D ce s' m H' I' q hn f => ⟨m, hn, fun h'' sb => ?_⟩
  obtain ⟨f0, f1, f2, f3, f4, f5⟩ := f
  exact ⟨.ref D, H', I'.turned (t' := s'.toks) (fun b o hb e => (sb.2 b hb).trans e) f0 f1 f3 f4 f5, rfl, q⟩
theorem ps_setLcX {i : Nat} {y : Str} {py : Pos} {elt tg iter : Expr} {ifs : List Expr} {scope : Scope} {own : List (Str × Nat)} {pos spos : Pos} {wi : TI} {g : TG} {tt : TT} {te : TE}
    (hst : X.stack = X.env :: X.outer) (hfm : X.env.frame = some X.env.locals) (tk : Takes X (fun cls d _ H => EE cls d H)) (hc : X.calm = true) (hN : X.N.Nodup) (hy : X.N[i]? = some y) (hyl : X.env.scope.names.lookup y = some .local)
    (hsw : swapsWith (.ListComp elt [⟨tg, iter, ifs, 0⟩] scope pos) (some (.Name y py)) spos.line X.env = pure true) (hi : PI X tg iter wi) (ok : BlkOk X.N X.env.scope scope own)
    (hg : ∀ (s : Shared) (H : Hp) (C : Addr) (cl : List (Str × Addr)) (fp : List Addr) (xe : Value → Shared → Prop), PG ((X.blk s H scope (compEnvC scope cl C X.env) fp).wish xe) tg g) (ht : ∀ (s : Shared) (H : Hp) (C : Addr) (cl : List (Str × Addr)) (fp : List Addr) (xe : Value → Shared → Prop), PTs ((X.blk s H scope (compEnvC scope cl C X.env) fp).wish xe) ifs tt)
    (he : ∀ (s : Shared) (H : Hp) (C : Addr) (cl : List (Str × Addr)) (fp : List Addr) (xe : Value → Shared → Prop), Passes (L2.CX X.prog X.w) ((X.blk s H scope (compEnvC scope cl C X.env) fp).wish xe) EE → PE ((X.blk s H scope (compEnvC scope cl C X.env) fp).wish xe) elt te)
    (hs : ∀ x, foldedSetIterable iter X.env x = pure x := by intro _; rfl) :
    PS X (.Assign [.Name y py] (.ListComp elt [⟨tg, iter, ifs, 0⟩] scope pos) spos) (tAsg (tLc wi g tt te (own.map (·.2))) (gName i)) := by
  refine ⟨fun pins s σ H D I h => ?_⟩
  rw [exec_Assign_Name_used _ _ _ _ hsw]
  refine wpAny_bind (wpAny_standAt (wpAny_bind ?_))
  show wpAny _ X.A (do let _ ← comprehension (.ListComp elt [⟨tg, iter, ifs, 0⟩] scope pos) scope X.env (firstIterPos [⟨tg, iter, ifs, 0⟩] pos) (newList []) false (eval iter X.env) (some (assign (.Name y py) X.env))) _ _ s
  have h : tLc wi g tt te (own.map (·.2)) σ H (fun x H1 => gName i x σ H1 D.nx) := h
  refine wpAny_bind (thn (lc_coreX (Qf := fun _ s' => SP X pins D .next s') hst hfm tk hc hN I hi ok hg ht he hs h fun L ce s' m H' I' q hn f => ?_) fun _ s' hq => wpAny_pure (wpAny_pure hq))
  show wpAny _ _ (assign (.Name y py) X.env (.ref L)) _ _ _
  refine wpAny_assign_Name (store_ok2 (v := V.ref L) I' hN hy (.inl hyl) rfl (fun s2 I2 ⟨a, sb, ha⟩ => ?_) (.inr hyl))
  obtain ⟨f0, f1, f2, f3, f4, f5⟩ := f
  have haC : ce.locals ≠ a := by
    rcases ha with z | z
    · rw [z]; exact f1
    · exact fun e => f4 y a z e.symm
  refine ⟨m, hn.sameBut sb haC, fun h3 sb3 => ?_⟩
  exact ⟨_, H', I2.turned (t' := s2.toks) (fun b o hb e => (sb3.2 b hb).trans e) f0 f1 f3 f4 f5, q⟩
end
end Dr

namespace Dr
open PySem PySem.Spec PyProof.Rows L2
def top (i : Nat) : Stmt := PySem.Challenge.pw_deeprests_k84_desk_refused.main.body.getD i (.Pass ⟨0, 0, 0, 0⟩)
abbrev sIsPrime : Stmt := top 16
abbrev sPowerOf : Stmt := top 19
abbrev sBallOf : Stmt := top 22
abbrev sMarksOver : Stmt := top 24
abbrev sBorderOf : Stmt := top 26
abbrev sSmallFraction : Stmt := top 29
abbrev sWorthAt : Stmt := top 31
abbrev sSlopeOf : Stmt := top 33
abbrev sSeenFrom : Stmt := top 34
abbrev sNeedParts : Stmt := top 42
abbrev sPartsAt : Stmt := top 44
abbrev sSingleDepth : Stmt := top 47
abbrev sRootOf : Stmt := top 48
abbrev sEndlessRoots : Stmt := top 51
abbrev sSolvingBalls : Stmt := top 57
abbrev sReadNumber : Stmt := top 62
abbrev sReadPoly : Stmt := top 63
abbrev sShowPoly : Stmt := top 64
abbrev sWordsWanted : Stmt := top 66
abbrev sNeedName : Stmt := top 67
abbrev sMadePoly : Stmt := top 68
abbrev sWordsOrNone : Stmt := top 69
abbrev sRootsAnswered : Stmt := top 70
abbrev sAnswered : Stmt := top 71
abbrev sLawCell : Stmt := top 74
abbrev sLawPrime : Stmt := top 75
abbrev sLawMixed : Stmt := top 77
abbrev sLawNames : Stmt := top 78
abbrev sLawForm : Stmt := top 79
abbrev sLawKinds : Stmt := top 80
abbrev sLawBad : Stmt := top 81
abbrev sLawWordDue : Stmt := top 82
abbrev sLawSpoilt : Stmt := top 83
abbrev sLawCounted : Stmt := top 84
abbrev sLawDeed : Stmt := top 85
abbrev sLawDrawn : Stmt := top 86
abbrev sLawRefused : Stmt := top 87
abbrev sLawNoDesk : Stmt := top 88
abbrev sLaw : Stmt := top 89
abbrev sDesk : Stmt := top 72
abbrev sDeskInit : Stmt := inClass sDesk 0
abbrev sDeskPartOf : Stmt := inClass sDesk 1
abbrev sDeskSay : Stmt := inClass sDesk 2
def dIsPrime : He.DefD := ⟨("is_prime", none), "is_prime", "is_prime", defArgs sIsPrime, defBody sIsPrime, defScope sIsPrime, [], []⟩
def dPowerOf : He.DefD := ⟨("power_of", none), "power_of", "power_of", defArgs sPowerOf, defBody sPowerOf, defScope sPowerOf, [], []⟩
def dBallOf : He.DefD := ⟨("ball_of", none), "ball_of", "ball_of", defArgs sBallOf, defBody sBallOf, defScope sBallOf, [], []⟩
def dMarksOver : He.DefD := ⟨("marks_over", none), "marks_over", "marks_over", defArgs sMarksOver, defBody sMarksOver, defScope sMarksOver, [], []⟩
def dBorderOf : He.DefD := ⟨("border_of", none), "border_of", "border_of", defArgs sBorderOf, defBody sBorderOf, defScope sBorderOf, [], []⟩
def dSmallFraction : He.DefD := ⟨("small_fraction", none), "small_fraction", "small_fraction", defArgs sSmallFraction, defBody sSmallFraction, defScope sSmallFraction, [], []⟩
def dWorthAt : He.DefD := ⟨("worth_at", none), "worth_at", "worth_at", defArgs sWorthAt, defBody sWorthAt, defScope sWorthAt, [], []⟩
def dSlopeOf : He.DefD := ⟨("slope_of", none), "slope_of", "slope_of", defArgs sSlopeOf, defBody sSlopeOf, defScope sSlopeOf, [], []⟩
def dSeenFrom : He.DefD := ⟨("seen_from", none), "seen_from", "seen_from", defArgs sSeenFrom, defBody sSeenFrom, defScope sSeenFrom, [], []⟩
def dNeedParts : He.DefD := ⟨("need_parts", none), "need_parts", "need_parts", defArgs sNeedParts, defBody sNeedParts, defScope sNeedParts, [], []⟩
def dPartsAt : He.DefD := ⟨("parts_at", none), "parts_at", "parts_at", defArgs sPartsAt, defBody sPartsAt, defScope sPartsAt, [], []⟩
def dSingleDepth : He.DefD := ⟨("single_depth", none), "single_depth", "single_depth", defArgs sSingleDepth, defBody sSingleDepth, defScope sSingleDepth, [], []⟩
def dRootOf : He.DefD := ⟨("root_of", none), "root_of", "root_of", defArgs sRootOf, defBody sRootOf, defScope sRootOf, [], []⟩
def dEndlessRoots : He.DefD := ⟨("endless_roots", none), "endless_roots", "endless_roots", defArgs sEndlessRoots, defBody sEndlessRoots, defScope sEndlessRoots, [], []⟩
def dSolvingBalls : He.DefD := ⟨("solving_balls", none), "solving_balls", "solving_balls", defArgs sSolvingBalls, defBody sSolvingBalls, defScope sSolvingBalls, [], []⟩
def dReadNumber : He.DefD := ⟨("read_number", none), "read_number", "read_number", defArgs sReadNumber, defBody sReadNumber, defScope sReadNumber, [], []⟩
def dReadPoly : He.DefD := ⟨("read_poly", none), "read_poly", "read_poly", defArgs sReadPoly, defBody sReadPoly, defScope sReadPoly, [], []⟩
def dShowPoly : He.DefD := ⟨("show_poly", none), "show_poly", "show_poly", defArgs sShowPoly, defBody sShowPoly, defScope sShowPoly, [], []⟩
def dWordsWanted : He.DefD := ⟨("words_wanted", none), "words_wanted", "words_wanted", defArgs sWordsWanted, defBody sWordsWanted, defScope sWordsWanted, [], []⟩
def dNeedName : He.DefD := ⟨("need_name", none), "need_name", "need_name", defArgs sNeedName, defBody sNeedName, defScope sNeedName, [], []⟩
def dMadePoly : He.DefD := ⟨("made_poly", none), "made_poly", "made_poly", defArgs sMadePoly, defBody sMadePoly, defScope sMadePoly, [], []⟩
def dWordsOrNone : He.DefD := ⟨("words_or_none", none), "words_or_none", "words_or_none", defArgs sWordsOrNone, defBody sWordsOrNone, defScope sWordsOrNone, [], []⟩
def dRootsAnswered : He.DefD := ⟨("roots_answered", none), "roots_answered", "roots_answered", defArgs sRootsAnswered, defBody sRootsAnswered, defScope sRootsAnswered, [], []⟩
def dAnswered : He.DefD := ⟨("answered", none), "answered", "answered", defArgs sAnswered, defBody sAnswered, defScope sAnswered, [], []⟩
def dLawCell : He.DefD := ⟨("_law_cell", none), "_law_cell", "_law_cell", defArgs sLawCell, defBody sLawCell, defScope sLawCell, [], []⟩
def dLawPrime : He.DefD := ⟨("_law_prime", none), "_law_prime", "_law_prime", defArgs sLawPrime, defBody sLawPrime, defScope sLawPrime, [], []⟩
def dLawMixed : He.DefD := ⟨("_law_mixed", none), "_law_mixed", "_law_mixed", defArgs sLawMixed, defBody sLawMixed, defScope sLawMixed, [], []⟩
def dLawNames : He.DefD := ⟨("_law_names", none), "_law_names", "_law_names", defArgs sLawNames, defBody sLawNames, defScope sLawNames, [], []⟩
def dLawForm : He.DefD := ⟨("_law_form", none), "_law_form", "_law_form", defArgs sLawForm, defBody sLawForm, defScope sLawForm, [], []⟩
def dLawKinds : He.DefD := ⟨("_law_kinds", none), "_law_kinds", "_law_kinds", defArgs sLawKinds, defBody sLawKinds, defScope sLawKinds, [], []⟩
def dLawBad : He.DefD := ⟨("_law_bad", none), "_law_bad", "_law_bad", defArgs sLawBad, defBody sLawBad, defScope sLawBad, [], []⟩
def dLawWordDue : He.DefD := ⟨("_law_word_due", none), "_law_word_due", "_law_word_due", defArgs sLawWordDue, defBody sLawWordDue, defScope sLawWordDue, [], []⟩
def dLawSpoilt : He.DefD := ⟨("_law_spoilt", none), "_law_spoilt", "_law_spoilt", defArgs sLawSpoilt, defBody sLawSpoilt, defScope sLawSpoilt, [], []⟩
def dLawCounted : He.DefD := ⟨("_law_counted", none), "_law_counted", "_law_counted", defArgs sLawCounted, defBody sLawCounted, defScope sLawCounted, [], []⟩
def dLawDeed : He.DefD := ⟨("_law_deed", none), "_law_deed", "_law_deed", defArgs sLawDeed, defBody sLawDeed, defScope sLawDeed, [], []⟩
def dLawDrawn : He.DefD := ⟨("_law_drawn", none), "_law_drawn", "_law_drawn", defArgs sLawDrawn, defBody sLawDrawn, defScope sLawDrawn, [], []⟩
def dLawRefused : He.DefD := ⟨("_law_refused", none), "_law_refused", "_law_refused", defArgs sLawRefused, defBody sLawRefused, defScope sLawRefused, [], []⟩
def dLawNoDesk : He.DefD := ⟨("_law_no_desk", none), "_law_no_desk", "_law_no_desk", defArgs sLawNoDesk, defBody sLawNoDesk, defScope sLawNoDesk, [], []⟩
def dLaw : He.DefD := ⟨("law", none), "law", "law", defArgs sLaw, defBody sLaw, defScope sLaw, [], []⟩
def dDeskInit : He.DefD := ⟨("Desk", some "__init__"), "__init__", "Desk.__init__", defArgs sDeskInit, defBody sDeskInit, defScope sDeskInit, [], []⟩
def dDeskPartOf : He.DefD := ⟨("Desk", some "part_of"), "part_of", "Desk.part_of", defArgs sDeskPartOf, defBody sDeskPartOf, defScope sDeskPartOf, [], []⟩
def dDeskSay : He.DefD := ⟨("Desk", some "say"), "say", "Desk.say", defArgs sDeskSay, defBody sDeskSay, defScope sDeskSay, [], []⟩
def fn : List He.DefD := [dIsPrime, dPowerOf, dBallOf, dMarksOver, dBorderOf, dSmallFraction, dWorthAt, dSlopeOf, dSeenFrom, dNeedParts, dPartsAt, dSingleDepth, dRootOf, dEndlessRoots, dSolvingBalls, dReadNumber, dReadPoly, dShowPoly, dWordsWanted, dNeedName, dMadePoly, dWordsOrNone, dRootsAnswered, dAnswered, dLawCell, dLawPrime, dLawMixed, dLawNames, dLawForm, dLawKinds, dLawBad, dLawWordDue, dLawSpoilt, dLawCounted, dLawDeed, dLawDrawn, dLawRefused, dLawNoDesk, dLaw, dDeskInit, dDeskPartOf, dDeskSay]
def fa : List He.Fa := [.glo "is_prime", .glo "power_of", .glo "ball_of", .glo "marks_over", .glo "border_of", .glo "small_fraction", .glo "worth_at", .glo "slope_of", .glo "seen_from", .glo "need_parts", .glo "parts_at", .glo "single_depth", .glo "root_of", .glo "endless_roots", .glo "solving_balls", .glo "read_number", .glo "read_poly", .glo "show_poly", .glo "words_wanted", .glo "need_name", .glo "made_poly", .glo "words_or_none", .glo "roots_answered", .glo "answered", .glo "_law_cell", .glo "_law_prime", .glo "_law_mixed", .glo "_law_names", .glo "_law_form", .glo "_law_kinds", .glo "_law_bad", .glo "_law_word_due", .glo "_law_spoilt", .glo "_law_counted", .glo "_law_deed", .glo "_law_drawn", .glo "_law_refused", .glo "_law_no_desk", .glo "law", .glo "Desk", .glo "RestError", .glo "NoDepth", .glo "NoInverse", .glo "NoBall", .glo "NoSingle", .glo "TooDeep", .glo "NoSmall", .glo "NoParts", .glo "NoPrime", .glo "NoText", .glo "NoName", .glo "NoRow", .glo "TooGreat", .free "isinstance", .free "int", .free "bool", .free "str", .free "len", .free "range", .free "zip", .free "reversed", .free "sorted", .free "max", .free "min", .free "abs", .free "list", .free "ValueError", .int "MOST" 1000, .int "MOST_FIGURES" 60, .int "MOST_NUMBERS" 13, .cls "Desk", .noat "Desk" "prime", .noat "Desk" "kept", .meth "Desk" "part_of", .meth "Desk" "say", .mkr "Desk", .exc "NoDepth", .exc "NoSingle", .exc "TooDeep", .exc "NoSmall", .exc "NoParts", .exc "NoPrime", .exc "NoText", .exc "NoName", .exc "NoRow", .exc "TooGreat", .exm "NoDepth" "RestError" true, .exm "NoSingle" "RestError" true, .exm "TooDeep" "RestError" true, .exm "NoSmall" "RestError" true, .exm "NoParts" "RestError" true, .exm "NoPrime" "RestError" true, .exm "NoText" "RestError" true, .exm "NoName" "RestError" true, .exm "NoRow" "RestError" true, .exm "TooGreat" "RestError" true]
/-- the classes of errors -/
def exs : List Str := ["NoDepth", "NoInverse", "NoBall", "NoSingle", "TooDeep", "NoSmall", "NoParts", "NoPrime", "NoText", "NoName", "NoRow", "TooGreat"]
/-- what isinstance says of a caught error -/
def exB (K : PySem.W.Frag) : Bool := exs.all fun D => decide (PySem.W.findIn K (.ref (He.ga K D)) "__getattribute__" = some (some (.builtin "BaseException.__getattribute__"))) && (decide (PySem.W.findIn K (.ref (He.ga K D)) "__getattr__" = some none) &&
  (decide (PySem.W.subIn K (.ref (He.ga K D)) (.type "BaseException") = some true) && (PySem.W.hasDictIn K (He.ga K D) && (decide (PySem.W.findIn K (.ref (He.ga K D)) "__class__" = some (some (.builtin "object.__class__"))) &&
  (decide (PySem.W.specialIn K (.builtin "object.__class__") "__get__" = some (some (.builtin "getset_descriptor.__get__"))) && (decide (PySem.W.takesIn K (.builtin "object.__class__") = some true) && (decide (PySem.W.mroIn K (He.ga K D) (.type "object") = some true) &&
  (decide (PySem.W.kitOne K (.ref (He.ga K D)) (.type "ValueError") = some true) && exs.all fun c => decide (PySem.W.kitOne K (.ref (He.ga K D)) (.ref (He.ga K c)) = some (decide (D = c)))))))))))
/-- what the top has left, as the defs' proofs use it -/
structure TX (K : PySem.W.Frag) (mg : Str → Option Value) : Prop where
  says : He.SaysD fa fn K
  ex : exB K = true
  glo : ∀ x, (He.Fa.glo x).ok K = true → mg x = some (.ref (He.ga K x))
  fre : ∀ x, (He.Fa.free x).ok K = true → mg x = none
  cst : ∀ x i, (He.Fa.int x i).ok K = true → ∃ t, mg x = some (.int i t)
/-- a def that keeps a promise, as its callers use it -/
def DefP (P : Program) (w : World) (K : PySem.W.Frag) (mg : Str → Option Value) (base : Heap) (CX : CXT) (k : Nat) (x : Str) (ps : List Str) (sp : Sp) : Prop :=
  ∃ fd, FnOk P w K mg base CX k (He.ga K x) fd ps sp ∧ Binds K fd ps [] ∧ PySem.W.keepIn K (.ref (He.ga K x)) = true ∧ mg x = some (.ref (He.ga K x))
section
variable {K : PySem.W.Frag} {mg : Str → Option Value}
theorem TX.gIsPrime (T : TX K mg) : mg "is_prime" = some (.ref (He.ga K "is_prime")) := T.glo _ (T.says.fact 0 rfl)
theorem TX.gPowerOf (T : TX K mg) : mg "power_of" = some (.ref (He.ga K "power_of")) := T.glo _ (T.says.fact 1 rfl)
theorem TX.gBallOf (T : TX K mg) : mg "ball_of" = some (.ref (He.ga K "ball_of")) := T.glo _ (T.says.fact 2 rfl)
theorem TX.gMarksOver (T : TX K mg) : mg "marks_over" = some (.ref (He.ga K "marks_over")) := T.glo _ (T.says.fact 3 rfl)
theorem TX.gBorderOf (T : TX K mg) : mg "border_of" = some (.ref (He.ga K "border_of")) := T.glo _ (T.says.fact 4 rfl)
theorem TX.gSmallFraction (T : TX K mg) : mg "small_fraction" = some (.ref (He.ga K "small_fraction")) := T.glo _ (T.says.fact 5 rfl)
theorem TX.gWorthAt (T : TX K mg) : mg "worth_at" = some (.ref (He.ga K "worth_at")) := T.glo _ (T.says.fact 6 rfl)
theorem TX.gSlopeOf (T : TX K mg) : mg "slope_of" = some (.ref (He.ga K "slope_of")) := T.glo _ (T.says.fact 7 rfl)
theorem TX.gSeenFrom (T : TX K mg) : mg "seen_from" = some (.ref (He.ga K "seen_from")) := T.glo _ (T.says.fact 8 rfl)
theorem TX.gNeedParts (T : TX K mg) : mg "need_parts" = some (.ref (He.ga K "need_parts")) := T.glo _ (T.says.fact 9 rfl)
theorem TX.gPartsAt (T : TX K mg) : mg "parts_at" = some (.ref (He.ga K "parts_at")) := T.glo _ (T.says.fact 10 rfl)
theorem TX.gSingleDepth (T : TX K mg) : mg "single_depth" = some (.ref (He.ga K "single_depth")) := T.glo _ (T.says.fact 11 rfl)
theorem TX.gRootOf (T : TX K mg) : mg "root_of" = some (.ref (He.ga K "root_of")) := T.glo _ (T.says.fact 12 rfl)
theorem TX.gEndlessRoots (T : TX K mg) : mg "endless_roots" = some (.ref (He.ga K "endless_roots")) := T.glo _ (T.says.fact 13 rfl)
theorem TX.gSolvingBalls (T : TX K mg) : mg "solving_balls" = some (.ref (He.ga K "solving_balls")) := T.glo _ (T.says.fact 14 rfl)
theorem TX.gReadNumber (T : TX K mg) : mg "read_number" = some (.ref (He.ga K "read_number")) := T.glo _ (T.says.fact 15 rfl)
theorem TX.gReadPoly (T : TX K mg) : mg "read_poly" = some (.ref (He.ga K "read_poly")) := T.glo _ (T.says.fact 16 rfl)
theorem TX.gShowPoly (T : TX K mg) : mg "show_poly" = some (.ref (He.ga K "show_poly")) := T.glo _ (T.says.fact 17 rfl)
theorem TX.gWordsWanted (T : TX K mg) : mg "words_wanted" = some (.ref (He.ga K "words_wanted")) := T.glo _ (T.says.fact 18 rfl)
theorem TX.gNeedName (T : TX K mg) : mg "need_name" = some (.ref (He.ga K "need_name")) := T.glo _ (T.says.fact 19 rfl)
theorem TX.gMadePoly (T : TX K mg) : mg "made_poly" = some (.ref (He.ga K "made_poly")) := T.glo _ (T.says.fact 20 rfl)
theorem TX.gWordsOrNone (T : TX K mg) : mg "words_or_none" = some (.ref (He.ga K "words_or_none")) := T.glo _ (T.says.fact 21 rfl)
theorem TX.gRootsAnswered (T : TX K mg) : mg "roots_answered" = some (.ref (He.ga K "roots_answered")) := T.glo _ (T.says.fact 22 rfl)
theorem TX.gAnswered (T : TX K mg) : mg "answered" = some (.ref (He.ga K "answered")) := T.glo _ (T.says.fact 23 rfl)
theorem TX.gLawCell (T : TX K mg) : mg "_law_cell" = some (.ref (He.ga K "_law_cell")) := T.glo _ (T.says.fact 24 rfl)
theorem TX.gLawPrime (T : TX K mg) : mg "_law_prime" = some (.ref (He.ga K "_law_prime")) := T.glo _ (T.says.fact 25 rfl)
theorem TX.gLawMixed (T : TX K mg) : mg "_law_mixed" = some (.ref (He.ga K "_law_mixed")) := T.glo _ (T.says.fact 26 rfl)
theorem TX.gLawNames (T : TX K mg) : mg "_law_names" = some (.ref (He.ga K "_law_names")) := T.glo _ (T.says.fact 27 rfl)
theorem TX.gLawForm (T : TX K mg) : mg "_law_form" = some (.ref (He.ga K "_law_form")) := T.glo _ (T.says.fact 28 rfl)
theorem TX.gLawKinds (T : TX K mg) : mg "_law_kinds" = some (.ref (He.ga K "_law_kinds")) := T.glo _ (T.says.fact 29 rfl)
theorem TX.gLawBad (T : TX K mg) : mg "_law_bad" = some (.ref (He.ga K "_law_bad")) := T.glo _ (T.says.fact 30 rfl)
theorem TX.gLawWordDue (T : TX K mg) : mg "_law_word_due" = some (.ref (He.ga K "_law_word_due")) := T.glo _ (T.says.fact 31 rfl)
theorem TX.gLawSpoilt (T : TX K mg) : mg "_law_spoilt" = some (.ref (He.ga K "_law_spoilt")) := T.glo _ (T.says.fact 32 rfl)
theorem TX.gLawCounted (T : TX K mg) : mg "_law_counted" = some (.ref (He.ga K "_law_counted")) := T.glo _ (T.says.fact 33 rfl)
theorem TX.gLawDeed (T : TX K mg) : mg "_law_deed" = some (.ref (He.ga K "_law_deed")) := T.glo _ (T.says.fact 34 rfl)
theorem TX.gLawDrawn (T : TX K mg) : mg "_law_drawn" = some (.ref (He.ga K "_law_drawn")) := T.glo _ (T.says.fact 35 rfl)
theorem TX.gLawRefused (T : TX K mg) : mg "_law_refused" = some (.ref (He.ga K "_law_refused")) := T.glo _ (T.says.fact 36 rfl)
theorem TX.gLawNoDesk (T : TX K mg) : mg "_law_no_desk" = some (.ref (He.ga K "_law_no_desk")) := T.glo _ (T.says.fact 37 rfl)
theorem TX.gLaw (T : TX K mg) : mg "law" = some (.ref (He.ga K "law")) := T.glo _ (T.says.fact 38 rfl)
theorem TX.gDesk (T : TX K mg) : mg "Desk" = some (.ref (He.ga K "Desk")) := T.glo _ (T.says.fact 39 rfl)
theorem TX.gRestError (T : TX K mg) : mg "RestError" = some (.ref (He.ga K "RestError")) := T.glo _ (T.says.fact 40 rfl)
theorem TX.gNoDepth (T : TX K mg) : mg "NoDepth" = some (.ref (He.ga K "NoDepth")) := T.glo _ (T.says.fact 41 rfl)
theorem TX.gNoInverse (T : TX K mg) : mg "NoInverse" = some (.ref (He.ga K "NoInverse")) := T.glo _ (T.says.fact 42 rfl)
theorem TX.gNoBall (T : TX K mg) : mg "NoBall" = some (.ref (He.ga K "NoBall")) := T.glo _ (T.says.fact 43 rfl)
theorem TX.gNoSingle (T : TX K mg) : mg "NoSingle" = some (.ref (He.ga K "NoSingle")) := T.glo _ (T.says.fact 44 rfl)
theorem TX.gTooDeep (T : TX K mg) : mg "TooDeep" = some (.ref (He.ga K "TooDeep")) := T.glo _ (T.says.fact 45 rfl)
theorem TX.gNoSmall (T : TX K mg) : mg "NoSmall" = some (.ref (He.ga K "NoSmall")) := T.glo _ (T.says.fact 46 rfl)
theorem TX.gNoParts (T : TX K mg) : mg "NoParts" = some (.ref (He.ga K "NoParts")) := T.glo _ (T.says.fact 47 rfl)
theorem TX.gNoPrime (T : TX K mg) : mg "NoPrime" = some (.ref (He.ga K "NoPrime")) := T.glo _ (T.says.fact 48 rfl)
theorem TX.gNoText (T : TX K mg) : mg "NoText" = some (.ref (He.ga K "NoText")) := T.glo _ (T.says.fact 49 rfl)
theorem TX.gNoName (T : TX K mg) : mg "NoName" = some (.ref (He.ga K "NoName")) := T.glo _ (T.says.fact 50 rfl)
theorem TX.gNoRow (T : TX K mg) : mg "NoRow" = some (.ref (He.ga K "NoRow")) := T.glo _ (T.says.fact 51 rfl)
theorem TX.gTooGreat (T : TX K mg) : mg "TooGreat" = some (.ref (He.ga K "TooGreat")) := T.glo _ (T.says.fact 52 rfl)
theorem TX.nisinstance (T : TX K mg) : mg "isinstance" = none := T.fre _ (T.says.fact 53 rfl)
theorem TX.nint (T : TX K mg) : mg "int" = none := T.fre _ (T.says.fact 54 rfl)
theorem TX.nbool (T : TX K mg) : mg "bool" = none := T.fre _ (T.says.fact 55 rfl)
theorem TX.nstr (T : TX K mg) : mg "str" = none := T.fre _ (T.says.fact 56 rfl)
theorem TX.nlen (T : TX K mg) : mg "len" = none := T.fre _ (T.says.fact 57 rfl)
theorem TX.nrange (T : TX K mg) : mg "range" = none := T.fre _ (T.says.fact 58 rfl)
theorem TX.nzip (T : TX K mg) : mg "zip" = none := T.fre _ (T.says.fact 59 rfl)
theorem TX.nreversed (T : TX K mg) : mg "reversed" = none := T.fre _ (T.says.fact 60 rfl)
theorem TX.nsorted (T : TX K mg) : mg "sorted" = none := T.fre _ (T.says.fact 61 rfl)
theorem TX.nmax (T : TX K mg) : mg "max" = none := T.fre _ (T.says.fact 62 rfl)
theorem TX.nmin (T : TX K mg) : mg "min" = none := T.fre _ (T.says.fact 63 rfl)
theorem TX.nabs (T : TX K mg) : mg "abs" = none := T.fre _ (T.says.fact 64 rfl)
theorem TX.nlist (T : TX K mg) : mg "list" = none := T.fre _ (T.says.fact 65 rfl)
theorem TX.nValueError (T : TX K mg) : mg "ValueError" = none := T.fre _ (T.says.fact 66 rfl)
theorem TX.cMOST (T : TX K mg) : ∃ t, mg "MOST" = some (.int 1000 t) := T.cst _ _ (T.says.fact 67 rfl)
theorem TX.cMOST_FIGURES (T : TX K mg) : ∃ t, mg "MOST_FIGURES" = some (.int 60 t) := T.cst _ _ (T.says.fact 68 rfl)
theorem TX.cMOST_NUMBERS (T : TX K mg) : ∃ t, mg "MOST_NUMBERS" = some (.int 13 t) := T.cst _ _ (T.says.fact 69 rfl)
theorem TX.cls (T : TX K mg) : Cls K (He.ga K "Desk") := He.cls_ok (T.says.fact 70 rfl)
theorem TX.noP (T : TX K mg) : NoAttr K (He.ga K "Desk") "prime" := He.noat_ok (T.says.fact 71 rfl)
theorem TX.noK (T : TX K mg) : NoAttr K (He.ga K "Desk") "kept" := He.noat_ok (T.says.fact 72 rfl)
theorem TX.mPart (T : TX K mg) : Meth K (He.ga K "Desk") "part_of" (He.ma K (He.ga K "Desk") "part_of") := He.meth_ok (T.says.fact 73 rfl)
theorem TX.mSay (T : TX K mg) : Meth K (He.ga K "Desk") "say" (He.ma K (He.ga K "Desk") "say") := He.meth_ok (T.says.fact 74 rfl)
theorem TX.mkr (T : TX K mg) : Mk K (He.ga K "Desk") (He.ma K (He.ga K "Desk") "__init__") := He.mkr_ok (T.says.fact 75 rfl)
theorem TX.xNoDepth (T : TX K mg) : PySem.W.excIn K (He.ga K "NoDepth") He.veBase "ValueError.__new__" = true ∧ PySem.W.keepIn K (.ref (He.ga K "NoDepth")) = true ∧ PySem.W.subIn K (.ref (He.ga K "NoDepth")) (.type "BaseException") = some true ∧ PySem.W.typeIn K (.ref (He.ga K "NoDepth")) = some (.type "type") := He.exc_ok (T.says.fact 76 rfl)
theorem TX.xNoSingle (T : TX K mg) : PySem.W.excIn K (He.ga K "NoSingle") He.veBase "ValueError.__new__" = true ∧ PySem.W.keepIn K (.ref (He.ga K "NoSingle")) = true ∧ PySem.W.subIn K (.ref (He.ga K "NoSingle")) (.type "BaseException") = some true ∧ PySem.W.typeIn K (.ref (He.ga K "NoSingle")) = some (.type "type") := He.exc_ok (T.says.fact 77 rfl)
theorem TX.xTooDeep (T : TX K mg) : PySem.W.excIn K (He.ga K "TooDeep") He.veBase "ValueError.__new__" = true ∧ PySem.W.keepIn K (.ref (He.ga K "TooDeep")) = true ∧ PySem.W.subIn K (.ref (He.ga K "TooDeep")) (.type "BaseException") = some true ∧ PySem.W.typeIn K (.ref (He.ga K "TooDeep")) = some (.type "type") := He.exc_ok (T.says.fact 78 rfl)
theorem TX.xNoSmall (T : TX K mg) : PySem.W.excIn K (He.ga K "NoSmall") He.veBase "ValueError.__new__" = true ∧ PySem.W.keepIn K (.ref (He.ga K "NoSmall")) = true ∧ PySem.W.subIn K (.ref (He.ga K "NoSmall")) (.type "BaseException") = some true ∧ PySem.W.typeIn K (.ref (He.ga K "NoSmall")) = some (.type "type") := He.exc_ok (T.says.fact 79 rfl)
theorem TX.xNoParts (T : TX K mg) : PySem.W.excIn K (He.ga K "NoParts") He.veBase "ValueError.__new__" = true ∧ PySem.W.keepIn K (.ref (He.ga K "NoParts")) = true ∧ PySem.W.subIn K (.ref (He.ga K "NoParts")) (.type "BaseException") = some true ∧ PySem.W.typeIn K (.ref (He.ga K "NoParts")) = some (.type "type") := He.exc_ok (T.says.fact 80 rfl)
theorem TX.xNoPrime (T : TX K mg) : PySem.W.excIn K (He.ga K "NoPrime") He.veBase "ValueError.__new__" = true ∧ PySem.W.keepIn K (.ref (He.ga K "NoPrime")) = true ∧ PySem.W.subIn K (.ref (He.ga K "NoPrime")) (.type "BaseException") = some true ∧ PySem.W.typeIn K (.ref (He.ga K "NoPrime")) = some (.type "type") := He.exc_ok (T.says.fact 81 rfl)
theorem TX.xNoText (T : TX K mg) : PySem.W.excIn K (He.ga K "NoText") He.veBase "ValueError.__new__" = true ∧ PySem.W.keepIn K (.ref (He.ga K "NoText")) = true ∧ PySem.W.subIn K (.ref (He.ga K "NoText")) (.type "BaseException") = some true ∧ PySem.W.typeIn K (.ref (He.ga K "NoText")) = some (.type "type") := He.exc_ok (T.says.fact 82 rfl)
theorem TX.xNoName (T : TX K mg) : PySem.W.excIn K (He.ga K "NoName") He.veBase "ValueError.__new__" = true ∧ PySem.W.keepIn K (.ref (He.ga K "NoName")) = true ∧ PySem.W.subIn K (.ref (He.ga K "NoName")) (.type "BaseException") = some true ∧ PySem.W.typeIn K (.ref (He.ga K "NoName")) = some (.type "type") := He.exc_ok (T.says.fact 83 rfl)
theorem TX.xNoRow (T : TX K mg) : PySem.W.excIn K (He.ga K "NoRow") He.veBase "ValueError.__new__" = true ∧ PySem.W.keepIn K (.ref (He.ga K "NoRow")) = true ∧ PySem.W.subIn K (.ref (He.ga K "NoRow")) (.type "BaseException") = some true ∧ PySem.W.typeIn K (.ref (He.ga K "NoRow")) = some (.type "type") := He.exc_ok (T.says.fact 84 rfl)
theorem TX.xTooGreat (T : TX K mg) : PySem.W.excIn K (He.ga K "TooGreat") He.veBase "ValueError.__new__" = true ∧ PySem.W.keepIn K (.ref (He.ga K "TooGreat")) = true ∧ PySem.W.subIn K (.ref (He.ga K "TooGreat")) (.type "BaseException") = some true ∧ PySem.W.typeIn K (.ref (He.ga K "TooGreat")) = some (.type "type") := He.exc_ok (T.says.fact 85 rfl)
theorem TX.eNoDepth (T : TX K mg) : PySem.W.exmOne K (.ref (He.ga K "NoDepth")) (.ref (He.ga K "RestError")) = some true := He.exm_ok (T.says.fact 86 rfl)
theorem TX.eNoSingle (T : TX K mg) : PySem.W.exmOne K (.ref (He.ga K "NoSingle")) (.ref (He.ga K "RestError")) = some true := He.exm_ok (T.says.fact 87 rfl)
theorem TX.eTooDeep (T : TX K mg) : PySem.W.exmOne K (.ref (He.ga K "TooDeep")) (.ref (He.ga K "RestError")) = some true := He.exm_ok (T.says.fact 88 rfl)
theorem TX.eNoSmall (T : TX K mg) : PySem.W.exmOne K (.ref (He.ga K "NoSmall")) (.ref (He.ga K "RestError")) = some true := He.exm_ok (T.says.fact 89 rfl)
theorem TX.eNoParts (T : TX K mg) : PySem.W.exmOne K (.ref (He.ga K "NoParts")) (.ref (He.ga K "RestError")) = some true := He.exm_ok (T.says.fact 90 rfl)
theorem TX.eNoPrime (T : TX K mg) : PySem.W.exmOne K (.ref (He.ga K "NoPrime")) (.ref (He.ga K "RestError")) = some true := He.exm_ok (T.says.fact 91 rfl)
theorem TX.eNoText (T : TX K mg) : PySem.W.exmOne K (.ref (He.ga K "NoText")) (.ref (He.ga K "RestError")) = some true := He.exm_ok (T.says.fact 92 rfl)
theorem TX.eNoName (T : TX K mg) : PySem.W.exmOne K (.ref (He.ga K "NoName")) (.ref (He.ga K "RestError")) = some true := He.exm_ok (T.says.fact 93 rfl)
theorem TX.eNoRow (T : TX K mg) : PySem.W.exmOne K (.ref (He.ga K "NoRow")) (.ref (He.ga K "RestError")) = some true := He.exm_ok (T.says.fact 94 rfl)
theorem TX.eTooGreat (T : TX K mg) : PySem.W.exmOne K (.ref (He.ga K "TooGreat")) (.ref (He.ga K "RestError")) = some true := He.exm_ok (T.says.fact 95 rfl)
theorem TX.fIsPrime (T : TX K mg) : ∃ fd, FunD K "is_prime" "is_prime" (defArgs sIsPrime) (defBody sIsPrime) (defScope sIsPrime) [] [] (He.ga K "is_prime") fd := T.says.def_ 0 rfl
theorem TX.fPowerOf (T : TX K mg) : ∃ fd, FunD K "power_of" "power_of" (defArgs sPowerOf) (defBody sPowerOf) (defScope sPowerOf) [] [] (He.ga K "power_of") fd := T.says.def_ 1 rfl
theorem TX.fBallOf (T : TX K mg) : ∃ fd, FunD K "ball_of" "ball_of" (defArgs sBallOf) (defBody sBallOf) (defScope sBallOf) [] [] (He.ga K "ball_of") fd := T.says.def_ 2 rfl
theorem TX.fMarksOver (T : TX K mg) : ∃ fd, FunD K "marks_over" "marks_over" (defArgs sMarksOver) (defBody sMarksOver) (defScope sMarksOver) [] [] (He.ga K "marks_over") fd := T.says.def_ 3 rfl
theorem TX.fBorderOf (T : TX K mg) : ∃ fd, FunD K "border_of" "border_of" (defArgs sBorderOf) (defBody sBorderOf) (defScope sBorderOf) [] [] (He.ga K "border_of") fd := T.says.def_ 4 rfl
theorem TX.fSmallFraction (T : TX K mg) : ∃ fd, FunD K "small_fraction" "small_fraction" (defArgs sSmallFraction) (defBody sSmallFraction) (defScope sSmallFraction) [] [] (He.ga K "small_fraction") fd := T.says.def_ 5 rfl
theorem TX.fWorthAt (T : TX K mg) : ∃ fd, FunD K "worth_at" "worth_at" (defArgs sWorthAt) (defBody sWorthAt) (defScope sWorthAt) [] [] (He.ga K "worth_at") fd := T.says.def_ 6 rfl
theorem TX.fSlopeOf (T : TX K mg) : ∃ fd, FunD K "slope_of" "slope_of" (defArgs sSlopeOf) (defBody sSlopeOf) (defScope sSlopeOf) [] [] (He.ga K "slope_of") fd := T.says.def_ 7 rfl
theorem TX.fSeenFrom (T : TX K mg) : ∃ fd, FunD K "seen_from" "seen_from" (defArgs sSeenFrom) (defBody sSeenFrom) (defScope sSeenFrom) [] [] (He.ga K "seen_from") fd := T.says.def_ 8 rfl
theorem TX.fNeedParts (T : TX K mg) : ∃ fd, FunD K "need_parts" "need_parts" (defArgs sNeedParts) (defBody sNeedParts) (defScope sNeedParts) [] [] (He.ga K "need_parts") fd := T.says.def_ 9 rfl
theorem TX.fPartsAt (T : TX K mg) : ∃ fd, FunD K "parts_at" "parts_at" (defArgs sPartsAt) (defBody sPartsAt) (defScope sPartsAt) [] [] (He.ga K "parts_at") fd := T.says.def_ 10 rfl
theorem TX.fSingleDepth (T : TX K mg) : ∃ fd, FunD K "single_depth" "single_depth" (defArgs sSingleDepth) (defBody sSingleDepth) (defScope sSingleDepth) [] [] (He.ga K "single_depth") fd := T.says.def_ 11 rfl
theorem TX.fRootOf (T : TX K mg) : ∃ fd, FunD K "root_of" "root_of" (defArgs sRootOf) (defBody sRootOf) (defScope sRootOf) [] [] (He.ga K "root_of") fd := T.says.def_ 12 rfl
theorem TX.fEndlessRoots (T : TX K mg) : ∃ fd, FunD K "endless_roots" "endless_roots" (defArgs sEndlessRoots) (defBody sEndlessRoots) (defScope sEndlessRoots) [] [] (He.ga K "endless_roots") fd := T.says.def_ 13 rfl
theorem TX.fSolvingBalls (T : TX K mg) : ∃ fd, FunD K "solving_balls" "solving_balls" (defArgs sSolvingBalls) (defBody sSolvingBalls) (defScope sSolvingBalls) [] [] (He.ga K "solving_balls") fd := T.says.def_ 14 rfl
theorem TX.fReadNumber (T : TX K mg) : ∃ fd, FunD K "read_number" "read_number" (defArgs sReadNumber) (defBody sReadNumber) (defScope sReadNumber) [] [] (He.ga K "read_number") fd := T.says.def_ 15 rfl
theorem TX.fReadPoly (T : TX K mg) : ∃ fd, FunD K "read_poly" "read_poly" (defArgs sReadPoly) (defBody sReadPoly) (defScope sReadPoly) [] [] (He.ga K "read_poly") fd := T.says.def_ 16 rfl
theorem TX.fShowPoly (T : TX K mg) : ∃ fd, FunD K "show_poly" "show_poly" (defArgs sShowPoly) (defBody sShowPoly) (defScope sShowPoly) [] [] (He.ga K "show_poly") fd := T.says.def_ 17 rfl
theorem TX.fWordsWanted (T : TX K mg) : ∃ fd, FunD K "words_wanted" "words_wanted" (defArgs sWordsWanted) (defBody sWordsWanted) (defScope sWordsWanted) [] [] (He.ga K "words_wanted") fd := T.says.def_ 18 rfl
theorem TX.fNeedName (T : TX K mg) : ∃ fd, FunD K "need_name" "need_name" (defArgs sNeedName) (defBody sNeedName) (defScope sNeedName) [] [] (He.ga K "need_name") fd := T.says.def_ 19 rfl
theorem TX.fMadePoly (T : TX K mg) : ∃ fd, FunD K "made_poly" "made_poly" (defArgs sMadePoly) (defBody sMadePoly) (defScope sMadePoly) [] [] (He.ga K "made_poly") fd := T.says.def_ 20 rfl
theorem TX.fWordsOrNone (T : TX K mg) : ∃ fd, FunD K "words_or_none" "words_or_none" (defArgs sWordsOrNone) (defBody sWordsOrNone) (defScope sWordsOrNone) [] [] (He.ga K "words_or_none") fd := T.says.def_ 21 rfl
theorem TX.fRootsAnswered (T : TX K mg) : ∃ fd, FunD K "roots_answered" "roots_answered" (defArgs sRootsAnswered) (defBody sRootsAnswered) (defScope sRootsAnswered) [] [] (He.ga K "roots_answered") fd := T.says.def_ 22 rfl
theorem TX.fAnswered (T : TX K mg) : ∃ fd, FunD K "answered" "answered" (defArgs sAnswered) (defBody sAnswered) (defScope sAnswered) [] [] (He.ga K "answered") fd := T.says.def_ 23 rfl
theorem TX.fLawCell (T : TX K mg) : ∃ fd, FunD K "_law_cell" "_law_cell" (defArgs sLawCell) (defBody sLawCell) (defScope sLawCell) [] [] (He.ga K "_law_cell") fd := T.says.def_ 24 rfl
theorem TX.fLawPrime (T : TX K mg) : ∃ fd, FunD K "_law_prime" "_law_prime" (defArgs sLawPrime) (defBody sLawPrime) (defScope sLawPrime) [] [] (He.ga K "_law_prime") fd := T.says.def_ 25 rfl
theorem TX.fLawMixed (T : TX K mg) : ∃ fd, FunD K "_law_mixed" "_law_mixed" (defArgs sLawMixed) (defBody sLawMixed) (defScope sLawMixed) [] [] (He.ga K "_law_mixed") fd := T.says.def_ 26 rfl
theorem TX.fLawNames (T : TX K mg) : ∃ fd, FunD K "_law_names" "_law_names" (defArgs sLawNames) (defBody sLawNames) (defScope sLawNames) [] [] (He.ga K "_law_names") fd := T.says.def_ 27 rfl
theorem TX.fLawForm (T : TX K mg) : ∃ fd, FunD K "_law_form" "_law_form" (defArgs sLawForm) (defBody sLawForm) (defScope sLawForm) [] [] (He.ga K "_law_form") fd := T.says.def_ 28 rfl
theorem TX.fLawKinds (T : TX K mg) : ∃ fd, FunD K "_law_kinds" "_law_kinds" (defArgs sLawKinds) (defBody sLawKinds) (defScope sLawKinds) [] [] (He.ga K "_law_kinds") fd := T.says.def_ 29 rfl
theorem TX.fLawBad (T : TX K mg) : ∃ fd, FunD K "_law_bad" "_law_bad" (defArgs sLawBad) (defBody sLawBad) (defScope sLawBad) [] [] (He.ga K "_law_bad") fd := T.says.def_ 30 rfl
theorem TX.fLawWordDue (T : TX K mg) : ∃ fd, FunD K "_law_word_due" "_law_word_due" (defArgs sLawWordDue) (defBody sLawWordDue) (defScope sLawWordDue) [] [] (He.ga K "_law_word_due") fd := T.says.def_ 31 rfl
theorem TX.fLawSpoilt (T : TX K mg) : ∃ fd, FunD K "_law_spoilt" "_law_spoilt" (defArgs sLawSpoilt) (defBody sLawSpoilt) (defScope sLawSpoilt) [] [] (He.ga K "_law_spoilt") fd := T.says.def_ 32 rfl
theorem TX.fLawCounted (T : TX K mg) : ∃ fd, FunD K "_law_counted" "_law_counted" (defArgs sLawCounted) (defBody sLawCounted) (defScope sLawCounted) [] [] (He.ga K "_law_counted") fd := T.says.def_ 33 rfl
theorem TX.fLawDeed (T : TX K mg) : ∃ fd, FunD K "_law_deed" "_law_deed" (defArgs sLawDeed) (defBody sLawDeed) (defScope sLawDeed) [] [] (He.ga K "_law_deed") fd := T.says.def_ 34 rfl
theorem TX.fLawDrawn (T : TX K mg) : ∃ fd, FunD K "_law_drawn" "_law_drawn" (defArgs sLawDrawn) (defBody sLawDrawn) (defScope sLawDrawn) [] [] (He.ga K "_law_drawn") fd := T.says.def_ 35 rfl
theorem TX.fLawRefused (T : TX K mg) : ∃ fd, FunD K "_law_refused" "_law_refused" (defArgs sLawRefused) (defBody sLawRefused) (defScope sLawRefused) [] [] (He.ga K "_law_refused") fd := T.says.def_ 36 rfl
theorem TX.fLawNoDesk (T : TX K mg) : ∃ fd, FunD K "_law_no_desk" "_law_no_desk" (defArgs sLawNoDesk) (defBody sLawNoDesk) (defScope sLawNoDesk) [] [] (He.ga K "_law_no_desk") fd := T.says.def_ 37 rfl
theorem TX.fLaw (T : TX K mg) : ∃ fd, FunD K "law" "law" (defArgs sLaw) (defBody sLaw) (defScope sLaw) [] [] (He.ga K "law") fd := T.says.def_ 38 rfl
theorem TX.fDeskInit (T : TX K mg) : ∃ fd, FunD K "__init__" "Desk.__init__" (defArgs sDeskInit) (defBody sDeskInit) (defScope sDeskInit) [] [] (He.ma K (He.ga K "Desk") "__init__") fd := T.says.def_ 39 rfl
theorem TX.fDeskPartOf (T : TX K mg) : ∃ fd, FunD K "part_of" "Desk.part_of" (defArgs sDeskPartOf) (defBody sDeskPartOf) (defScope sDeskPartOf) [] [] (He.ma K (He.ga K "Desk") "part_of") fd := T.says.def_ 40 rfl
theorem TX.fDeskSay (T : TX K mg) : ∃ fd, FunD K "say" "Desk.say" (defArgs sDeskSay) (defBody sDeskSay) (defScope sDeskSay) [] [] (He.ma K (He.ga K "Desk") "say") fd := T.says.def_ 41 rfl
end
end Dr

namespace Dr
open PySem PySem.Spec PyProof.Rows L2
section
variable {P : Program} {w : World} {K : PySem.W.Frag} {mg : Str → Option Value} {base : Heap}
theorem defP {CX : CXT} {k : Nat} {x : Str} {st : Stmt} {fd : FuncData} {ps : List Str} {sp : Sp} (F : FunD K x x (defArgs st) (defBody st) (defScope st) [] [] (He.ga K x) fd) (g : mg x = some (.ref (He.ga K x)))
    (h : ∀ (kV doc pm : Value) (an : Option Addr) (cdv ct : Value) (us : List Value), us.length = ps.length → bindArgs (PySem.W.fnOf x x (defArgs st) (defBody st) (defScope st) .none kV doc pm an cdv ct) ⟨us, []⟩ = pure (ps.zip us))
    (ok : FnOk P w K mg base CX k (He.ga K x) fd ps sp) : DefP P w K mg base CX k x ps sp := ⟨fd, ok, F.bindsN h, F.kp, g⟩
/-! ### power_of -/
def spPowerOf : Sp := fun vs H Q _ => ∃ p e : Int, vs = [.int p, .int e] ∧ (-(2 ^ 64) < p ∧ p < 2 ^ 64) ∧ 0 ≤ e ∧ e < 2 ^ 62 ∧ Q (.int (p ^ e.toNat)) H
theorem scPowerOf : FnScope ["p", "e", "found", "k"] ["p", "e"] (defScope sPowerOf) := ⟨rfl, rfl, rfl, by decide +kernel, rfl, by decide +kernel, by decide +kernel⟩
theorem ok_PowerOf (T : TX K mg) : DefP P w K mg base CX0 1 "power_of" ["p", "e"] spPowerOf := by
  obtain ⟨fd, F⟩ := T.fPowerOf
  refine defP F T.gPowerOf (fun _ _ _ _ _ _ us hl => match us, hl with | [_, _], _ => rfl) (F.ok scPowerOf (fun vs H Q E h => ?_) (fun cdv A outer s H vs Q E hr h => ?_))
  · obtain ⟨p, e, rfl, _⟩ := h
    rfl
  · obtain ⟨p, e, rfl, hp, h0, h1, k⟩ := h
    refine ⟨_, PSs.nox (pss_cons (ps_set (i := 2) scPowerOf.nd rfl (.inl rfl) pe_int)
      (pss_cons (ps_for PassesOwn.never rfl (pi_range1 (by rfl) T.nrange (pa_cons (pv 1) pa_nil)) (pg_name (i := 3) scPowerOf.nd rfl (.inl rfl)) (pss_one (ps_aug (i := 2) scPowerOf.nd rfl (.inl rfl) (pv 0) iop_mul)))
      (pss_one (ps_ret (pv 2))))), ?_⟩
    refine ⟨_, rfl, e, rfl, by omega, h1, for_range (lo := 0) (n := e.toNat) (fun i σ H' => H' = H ∧ ∃ v, σ = [some (.int p), some (.int e), some (.int (p ^ i)), v]) ⟨rfl, none, by rw [Int.pow_zero]; rfl⟩ ?_ ?_⟩
    · rintro i σ H' hi ⟨rfl, v, rfl⟩
      refine ⟨_, rfl, _, rfl, _, _, rfl, rfl, .inr hp, rfl, some (.int (0 + i)), ?_⟩
      rw [Int.pow_succ]
      rfl
    · rintro σ H' ⟨rfl, v, rfl⟩
      exact ⟨_, rfl, k⟩
/-! ### ball_of -/
def spBallOf : Sp := fun vs H Q _ => ∃ p x e : Int, vs = [.int p, .int x, .int e] ∧ (0 < p ∧ p < 2 ^ 64) ∧ 0 ≤ e ∧ e < 2 ^ 62 ∧ ∀ t, H t = none → Q (.ref t) (upd H t (.tup [.int (x % p ^ e.toNat), .int e]))
theorem scBallOf : FnScope ["p", "x", "e"] ["p", "x", "e"] (defScope sBallOf) := ⟨rfl, rfl, rfl, by decide +kernel, rfl, by decide +kernel, by decide +kernel⟩
theorem ok_BallOf (T : TX K mg) : DefP P w K mg base CX0 2 "ball_of" ["p", "x", "e"] spBallOf := by
  obtain ⟨fd, F⟩ := T.fBallOf
  obtain ⟨fdP, GP, bP, kP, gP⟩ := ok_PowerOf (P := P) (w := w) (base := base) T
  refine defP F T.gBallOf (fun _ _ _ _ _ _ us hl => match us, hl with | [_, _, _], _ => rfl) (F.ok scBallOf (fun vs H Q E h => ?_) (fun cdv A outer s H vs Q E hr h => ?_))
  · obtain ⟨p, x, e, rfl, _⟩ := h
    rfl
  · obtain ⟨p, x, e, rfl, ⟨hp, hp2⟩, h0, h1, k⟩ := h
    refine ⟨_, PSs.nox (pss_one (ps_ret (pe_tup (pa_cons (pe_op op_mod (pv 1) (pe_call GP hr (by rfl) gP kP bP .nil pass0 (pa_cons (pv 0) (pa_cons (pv 2) pa_nil)))) (pa_cons (pv 2) pa_nil))))), ?_⟩
    refine ⟨_, rfl, _, rfl, _, rfl, p, e, rfl, ⟨by omega, hp2⟩, h0, h1, _, _, rfl, rfl, Int.pow_pos hp, _, rfl, (by show 2 ≤ sizeLine; decide), k⟩
/-! ### is_prime -/
/-- trial division from d on, n turns left -/
def primeGo (n : Int) : Nat → Int → Bool
  | 0, _ => true
  | m + 1, d => if d * d ≤ n then if n % d = 0 then false else primeGo n m (d + 1) else true
def primeM (n : Int) : Bool := if n < 2 then false else primeGo n 1000 2
def spIsPrime : Sp := fun vs H Q _ => (∃ n : Int, vs = [.int n] ∧ n ≤ 97 ∧ Q (.bl (primeM n)) H) ∨ (∃ b : Bool, vs = [.bl b] ∧ Q (.bl false) H)
theorem scIsPrime : FnScope ["thing", "part"] ["thing"] (defScope sIsPrime) := ⟨rfl, rfl, rfl, by decide +kernel, rfl, by decide +kernel, by decide +kernel⟩
theorem ok_IsPrime (T : TX K mg) : DefP P w K mg base CX0 1 "is_prime" ["thing"] spIsPrime := by
  obtain ⟨fd, F⟩ := T.fIsPrime
  obtain ⟨tM, cM⟩ := T.cMOST
  refine defP F T.gIsPrime (fun _ _ _ _ _ _ us hl => match us, hl with | [_], _ => rfl) (F.ok scIsPrime (fun vs H Q E h => ?_) (fun cdv A outer s H vs Q E hr h => ?_))
  · rcases h with ⟨n, rfl, _⟩ | ⟨b, rfl, _⟩
    · rfl
    · rfl
  · refine ⟨_, PSs.nox (pss_cons (ps_if (PW.pt (pw_or (pt_not (pt_val (pe_callB call_isi (by rfl) T.nisinstance PyProof.Rows.boot_isinstance (pa_cons (pv 0) (pa_cons (pe_bltn (v := .ty "int") (by rfl) T.nint PyProof.Rows.boot_int rfl) pa_nil)))))
        (pw_or (pt_val (pe_callB call_isi (by rfl) T.nisinstance PyProof.Rows.boot_isinstance (pa_cons (pv 0) (pa_cons (pe_bltn (v := .ty "bool") (by rfl) T.nbool PyProof.Rows.boot_bool rfl) pa_nil))))
        (pw_or (pt_cmpR op_lt (pv 0) pe_int (nomark _)) (pw_or1 (pt_cmpR op_gt (pv 0) (pe_glob (v := .int 1000) (by rfl) cM ⟨_, rfl⟩) (nomark _)))))))
        (pss_one (ps_ret pe_bl)) pss_nil)
      (pss_cons (ps_set (i := 1) scIsPrime.nd rfl (.inl rfl) pe_int)
      (pss_cons (ps_while PassesOwn.never (pt_cmpR op_le (pe_op op_mul (pv 1) (pv 1)) (pv 0) (nomark _))
        (pss_cons (ps_if (pt_cmpR op_eq (pe_op op_modN (pv 0) (pv 1)) pe_int (nomark _)) (pss_one (ps_ret pe_bl)) pss_nil)
        (pss_one (ps_aug (i := 1) scIsPrime.nd rfl (.inl rfl) pe_int ip_add))))
      (pss_one (ps_ret pe_bl))))), ?_⟩
    rcases h with ⟨n, rfl, hn, k⟩ | ⟨b, rfl, k⟩
    · refine ⟨_, rfl, _, _, _, _, _, rfl, .ty _, .base (.int n), kit_ty (by decide +kernel), true, rfl, ?_⟩
      refine iteF ⟨_, rfl, _, _, _, _, _, rfl, .ty _, .base (.int n), kit_ty (by decide +kernel), false, rfl, ?_⟩
      refine iteF ⟨_, rfl, _, _, rfl, rfl, _, rfl, ?_⟩
      by_cases h2 : n < 2
      · rw [decide_eq_true h2]
        refine iteT (iteT ?_)
        have e : primeM n = false := if_pos h2
        rw [e] at k
        exact k
      · rw [decide_eq_false h2]
        refine iteF ⟨_, rfl, n, 1000, rfl, rfl, _, rfl, ?_⟩
        rw [decide_eq_false (show ¬ (1000 : Int) < n by omega)]
        refine iteF ⟨fun m σ H' => H' = H ∧ ∃ d : Int, 2 ≤ d ∧ d ≤ 12 ∧ (m : Int) + d = 1002 ∧ σ = [some (.int n), some (.int d)] ∧ primeGo n m d = primeM n, ⟨1000, rfl, 2, by omega, by omega, by omega, rfl, (by show _ = if n < 2 then false else _; rw [if_neg h2])⟩, ?_⟩
        rintro m σ H' ⟨rfl, d, hd, hd2, hm, rfl, hg⟩
        refine ⟨_, rfl, _, rfl, _, _, rfl, rfl, .inl ⟨by omega, by omega⟩, _, rfl, _, _, rfl, rfl, _, rfl, ?_⟩
        obtain ⟨m', rfl⟩ : ∃ m', m = m' + 1 := ⟨m - 1, by omega⟩
        have hg' : (if d * d ≤ n then if n % d = 0 then false else primeGo n m' (d + 1) else true) = primeM n := hg
        by_cases hc : d * d ≤ n
        · rw [decide_eq_true hc]
          rw [if_pos hc] at hg'
          have d10 : d ≤ 10 := by
            apply Classical.byContradiction
            intro q
            have h11 : 11 * 11 ≤ d * d := Int.mul_le_mul (by omega) (by omega) (by omega) (by omega)
            omega
          refine iteT ⟨fun σ' H2 => H2 = H' ∧ σ' = [some (.int n), some (.int (d + 1))] ∧ n % d ≠ 0, ?_, ?_⟩
          · rintro σ' H2 ⟨rfl, rfl, nz⟩
            rw [if_neg nz] at hg'
            exact ⟨m', Nat.lt_succ_self _, rfl, d + 1, by omega, by omega, by omega, rfl, hg'⟩
          · refine ⟨_, rfl, _, rfl, _, _, rfl, rfl, (by omega), rfl, _, rfl, ?_⟩
            have em : n.fmod d = n % d := Int.fmod_eq_emod_of_nonneg n (by omega)
            by_cases hz : n % d = 0
            · rw [decide_eq_true (show V.int (n.fmod d) = V.int 0 by rw [em, hz])]
              refine iteT ?_
              rw [if_pos hz] at hg'
              rw [← hg'] at k
              exact k
            · rw [decide_eq_false (show ¬ V.int (n.fmod d) = V.int 0 by rw [em]; intro q; exact hz (V.int.inj q))]
              exact iteF ⟨_, rfl, _, _, rfl, rfl, rfl, rfl, hz⟩
        · rw [decide_eq_false hc]
          rw [if_neg hc] at hg'
          rw [← hg'] at k
          exact iteF k
    · refine ⟨_, rfl, _, _, _, _, _, rfl, .ty _, .base (.bl b), kit_ty (by decide +kernel), true, rfl, ?_⟩
      refine iteF ⟨_, rfl, _, _, _, _, _, rfl, .ty _, .base (.bl b), kit_ty (by decide +kernel), true, rfl, ?_⟩
      exact iteT (iteT k)
end
end Dr

namespace Dr
open PySem PySem.Spec PyProof.Rows L2
/-- the promise's list of ints, of texts -/
abbrev lI (ns : List Int) : HO := .lst (ns.map V.int)
abbrev lS (ws : List Str) : HO := .lst (ws.map V.str)
theorem pmkX {X : Cx} {C : Addr} {x m : Str} {j : Nat} {p p2 pos : Pos} (h : PySem.W.excIn X.K C He.veBase "ValueError.__new__" = true ∧ PySem.W.keepIn X.K (.ref C) = true ∧ PySem.W.subIn X.K (.ref C) (.type "BaseException") = some true ∧ PySem.W.typeIn X.K (.ref C) = some (.type "type"))
    (g : X.mg x = some (.ref C)) (hg : Gl X x) (hdb : (x == ("__debug__" : Str)) = false := by decide) : PMk X (.Call (.Name x p) [.Constant (.str m) j p2] [] pos) (fun _ H Q => Q (.ref C) none H) :=
  pmk_own PySem.F.excBase_ValueError h.1 g h.2.1 (raises_own h.2.2.1 h.2.2.2) hg hdb
/-- raise x('..') in a def -/
theorem ps_rz {P : Program} {w : World} {K : PySem.W.Frag} {mg : Str → Option Value} {base : Heap} {N : List Str} {qual : Str} {scope : Scope} {f : Addr} {cd : Value} {A : Around} {outer : List Env} {s : Shared} {H : Hp} {E : XK} {C : Addr} {x m : Str} {j : Nat} {p p2 p3 pos : Pos}
    (h : PySem.W.excIn K C He.veBase "ValueError.__new__" = true ∧ PySem.W.keepIn K (.ref C) = true ∧ PySem.W.subIn K (.ref C) (.type "BaseException") = some true ∧ PySem.W.typeIn K (.ref C) = some (.type "type"))
    (g : mg x = some (.ref C)) (hg : Gl (cxOf (L2.CX P w) P w K mg base N qual scope f cd A outer s H E) x) (hdb : (x == ("__debug__" : Str)) = false := by decide) :
    PS (cxOf (L2.CX P w) P w K mg base N qual scope f cd A outer s H E) (.Raise (some (.Call (.Name x p) [.Constant (.str m) j p2] [] p3)) none pos) (fun _ σ H' => E (.ref C) none H') :=
  ps_raise rfl (takes_of rfl rfl rfl rfl) (pmkX h g hg hdb)
section
variable {P : Program} {w : World} {K : PySem.W.Frag} {mg : Str → Option Value} {base : Heap}
/-! ### read_number -/
def figS (z : Str) : Str := if Txt.startswith z "-" = true then cutS z (some 1) none else z
def digs : Str := "0123456789"
def badNum (z : Str) : Bool := decide (figS z = "") || (decide (60 < (figS z).length) || ((figS z).cps.toList.any (fun c => !decide (c ∈ digs.cps.toList)) || (decide ((figS z).cps.toList.head? = some 48) && !decide (z = "0"))))
def spReadNumber (K : PySem.W.Frag) : Sp := fun vs H Q E => ∃ z : Str, vs = [.str z] ∧ z.length ≤ 1000 ∧
  ((badNum z = true ∧ E (.ref (He.ga K "NoText")) none H) ∨ (badNum z = false ∧ z.length ≤ 640 ∧ ∃ n, intText? z = some n ∧ Q (.int n) H))
theorem scReadNumber : FnScope ["text", "figures", "sign"] ["text"] (defScope sReadNumber) := ⟨rfl, rfl, rfl, by decide +kernel, rfl, by decide +kernel, by decide +kernel⟩
theorem small_line {n : Nat} (h : n ≤ 100000) : n ≤ sizeLine := Nat.le_trans h (by decide)
theorem figS_len {z : Str} : (figS z).length ≤ z.length := by
  unfold figS
  split
  · rw [TL.len_tl, TL.len_tl]
    unfold cutS
    simp [TL.tl, List.length_drop, List.length_take]
    omega
  · exact Nat.le_refl _
/-- isinstance(x, C) for a built-in class -/
theorem e_isi {X : Cx} {a : Expr} {ta : TE} {p p2 pos : Pos} {y : Str} {n : String} (ha : PE X a ta) (hg : Gl X "isinstance") (hm : X.mg "isinstance" = none) (hg2 : Gl X y) (hm2 : X.mg y = none) (hb : bootBuiltins y = some (.type n))
    (hn : y ≠ "__name__" := by decide) (hdb : (y == ("__debug__" : Str)) = false := by decide)
    (he : starEach (a :: [.Name y p2]) X.env = (false, eval a X.env) :: starEach [.Name y p2] X.env := by rfl) (hpl : (backTo pos (starEach [.Name y p2] X.env)).any (·.1) = false := by rfl) :
    PE X (.Call (.Name "isinstance" p) [a, .Name y p2] [] pos) (tCB (rIsi X.K) (tCons ta (tCons (tC (.ty n)) tNil))) :=
  pe_callB call_isi hg hm PyProof.Rows.boot_isinstance (pa_cons ha (pa_cons (pe_bltn (v := .ty n) hg2 hm2 hb rfl hn hdb) pa_nil) he) (by decide) (by decide) he hpl
theorem ok_ReadNumber (T : TX K mg) : DefP P w K mg base (L2.CX P w) 1 "read_number" ["text"] (spReadNumber K) := by
  obtain ⟨fd, F⟩ := T.fReadNumber
  obtain ⟨tM, cM⟩ := T.cMOST_FIGURES
  refine defP F T.gReadNumber (fun _ _ _ _ _ _ us hl => match us, hl with | [_], _ => rfl) (F.ok scReadNumber (fun vs H Q E h => ?_) (fun cdv A outer s H vs Q E hr h => ?_))
  · obtain ⟨z, rfl, _⟩ := h
    rfl
  · obtain ⟨z, rfl, hl, h⟩ := h
    have nd := scReadNumber.nd
    refine ⟨_, pss_cons (ps_if (pt_not (pt_val (e_isi (pv 0) rfl T.nisinstance rfl T.nstr PyProof.Rows.boot_str))) (pss_one (ps_rz T.xNoText T.gNoText rfl)) pss_nil)
      (pss_cons (ps_set (i := 1) nd rfl (.inl rfl) (pv 0))
      (Evl.pss_cut (ps_if (pt_val (pe_m1 PySem.F.slot_str_startswith PySem.F.type_str_startswith mt_startswith (pv 0) pe_str)) (pss_one (ps_set (i := 1) nd rfl (.inl rfl) (pe_slice sl_str (pv 0) (po_some pe_int) po_none))) pss_nil)
      (pss_cons (ps_if (PW.pt (pw_or (pt_cmpR op_eq (pv 1) pe_str (nomark _)) (pw_or1 (pt_cmpR op_gt (pe_callB call_len_str (by rfl) T.nlen PySem.boot_len (pa_cons (pv 1) pa_nil)) (pe_glob (v := .int 60) (by rfl) cM ⟨_, rfl⟩) (nomark _))))) (pss_one (ps_rz T.xNoText T.gNoText rfl)) pss_nil)
      (pss_cons (ps_for (passes_of rfl) rfl (pi_str (pv 1)) (pg_name (i := 2) nd rfl (.inl rfl)) (pss_one (ps_if (pt_cmpR op_notIn_sign (pv 2) pe_str rfl) (pss_one (ps_rz T.xNoText T.gNoText rfl)) pss_nil)))
      (pss_cons (ps_if (PW.pt (pw_and (pt_cmpR op_eq (pe_ix ix_str (pv 1) pe_int (fun _ _ => rfl)) pe_str (nomark _)) (pw_and1 (pt_cmpR op_ne (pv 0) pe_str (nomark _))))) (pss_one (ps_rz T.xNoText T.gNoText rfl)) pss_nil)
      (pss_one (ps_ret (pe_callTy call_int_str (by rfl) T.nint PyProof.Rows.boot_int (pa_cons (pv 0) pa_nil))))))))), ?_⟩
    refine ⟨_, rfl, _, _, _, _, _, rfl, .ty _, .base (.str z), kit_ty (by decide +kernel), true, rfl, ?_⟩
    refine iteF ⟨_, rfl, fun σ' H' => H' = H ∧ σ' = [some (.str z), some (.str (figS z)), none], ?_, ?_⟩
    · refine ⟨_, rfl, ⟨_, rfl⟩, _, _, rfl, rfl, _, rfl, ?_⟩
      refine ite2 (fun hs => ?_) (fun hs => ?_)
      · refine ⟨_, rfl, _, rfl, z, rfl, small_line (by omega), rfl, ?_⟩
        have e : figS z = cutS z (some 1) none := if_pos hs
        rw [e]
        rfl
      · refine ⟨rfl, ?_⟩
        have e : figS z = z := if_neg hs
        rw [e]
        rfl
    rintro σ' H' ⟨rfl, rfl⟩
    have fl : (figS z).length ≤ z.length := figS_len
    refine ⟨_, rfl, rfl, _, rfl, ?_⟩
    by_cases c1 : figS z = ""
    · rw [decide_eq_true (show V.str (figS z) = V.str "" by rw [c1])]
      refine iteT (iteT ?_)
      rcases h with ⟨_, k⟩ | ⟨hb, _⟩
      · exact k
      · unfold badNum at hb
        rw [decide_eq_true c1] at hb
        cases hb
    rw [decide_eq_false (show ¬ V.str (figS z) = V.str "" from fun q => c1 (V.str.inj q))]
    refine iteF ⟨_, rfl, _, rfl, small_line (by omega), _, _, rfl, rfl, _, rfl, ?_⟩
    by_cases c2 : 60 < (figS z).length
    · rw [decide_eq_true (show (60 : Int) < ((figS z).length : Int) by omega)]
      refine iteT ?_
      rcases h with ⟨_, k⟩ | ⟨hb, _⟩
      · exact k
      · unfold badNum at hb
        rw [decide_eq_false c1, decide_eq_true c2] at hb
        cases hb
    rw [decide_eq_false (show ¬ (60 : Int) < ((figS z).length : Int) by omega)]
    refine iteF ⟨_, rfl, _, rfl, ?_⟩
    by_cases c3 : (figS z).cps.toList.any (fun c => !decide (c ∈ digs.cps.toList)) = true
    · -- some sign is none: the loop ends by the refusal
      have k : E (.ref (He.ga K "NoText")) none H' := by
        rcases h with ⟨_, k⟩ | ⟨hb, _⟩
        · exact k
        · unfold badNum at hb
          rw [decide_eq_false c1, decide_eq_false c2, c3] at hb
          cases hb
      refine ⟨fun i m σ H2 => H2 = H' ∧ m + i = (figS z).cps.size ∧ (∀ j, j < i → ∀ c, (figS z).cps[j]? = some c → c ∈ digs.cps.toList) ∧ ∃ v, σ = [some (.str z), some (.str (figS z)), v], ⟨_, rfl, rfl, fun j hj => absurd hj (Nat.not_lt_zero _), none, rfl⟩, ?_⟩
      rintro i m σ H2 ⟨rfl, hm, hall, v, rfl⟩
      by_cases hi : i < (figS z).cps.size
      · refine .inr ⟨hi, fun σ' H3 => H3 = H2 ∧ (∀ c, (figS z).cps[i]? = some c → c ∈ digs.cps.toList) ∧ ∃ v, σ' = [some (.str z), some (.str (figS z)), v], ?_, ?_⟩
        · rintro σ' H3 ⟨rfl, h3, v, rfl⟩
          refine ⟨m - 1, by omega, rfl, by omega, fun j hj c hc => ?_, v, rfl⟩
          by_cases e : j = i
          · subst e
            exact h3 c hc
          · exact hall j (by omega) c hc
        · rintro x H3 ⟨rfl, c, hc, rfl⟩
          refine ⟨_, rfl, c, digs, rfl, rfl, _, rfl, ?_⟩
          by_cases hd : c ∈ digs.cps.toList
          · rw [decide_eq_true hd]
            refine iteF ⟨rfl, fun c' hc' => ?_, _, rfl⟩
            rw [hc] at hc'
            cases hc'
            exact hd
          · rw [decide_eq_false hd]
            exact iteT k
      · exfalso
        obtain ⟨c, hc, hcd⟩ := List.any_eq_true.mp c3
        obtain ⟨j, hj, e⟩ := List.getElem_of_mem hc
        have hj' : j < (figS z).cps.size := by simpa using hj
        have q := hall j (by omega) c (by rw [Array.getElem?_eq_getElem hj', ← e]; simp)
        rw [decide_eq_true q] at hcd
        cases hcd
    · have c3' : (figS z).cps.toList.any (fun c => !decide (c ∈ digs.cps.toList)) = false := by
        cases q : (figS z).cps.toList.any (fun c => !decide (c ∈ digs.cps.toList)) with
        | false => rfl
        | true => exact absurd q c3
      refine ⟨fun i m σ H2 => H2 = H' ∧ m + i = (figS z).cps.size ∧ ∃ v, σ = [some (.str z), some (.str (figS z)), v], ⟨_, rfl, rfl, none, rfl⟩, ?_⟩
      rintro i m σ H2 ⟨rfl, hm, v, rfl⟩
      by_cases hi : i < (figS z).cps.size
      · refine .inr ⟨hi, fun σ' H3 => H3 = H2 ∧ ∃ v, σ' = [some (.str z), some (.str (figS z)), v], ?_, ?_⟩
        · rintro σ' H3 ⟨rfl, v, rfl⟩
          exact ⟨m - 1, by omega, rfl, by omega, v, rfl⟩
        · rintro x H3 ⟨rfl, c, hc, rfl⟩
          refine ⟨_, rfl, c, digs, rfl, rfl, _, rfl, ?_⟩
          have hd : c ∈ digs.cps.toList := by
            have hm' : c ∈ (figS z).cps.toList := by
              obtain ⟨hj, e⟩ := Array.getElem?_eq_some_iff.mp hc
              rw [← e]
              simp
            have q := List.any_eq_false.mp c3' c hm'
            simpa using q
          rw [decide_eq_true hd]
          exact iteF ⟨rfl, _, rfl⟩
      · refine .inl ⟨Nat.not_lt.mp hi, ?_⟩
        obtain ⟨c, r, hcr⟩ : ∃ c r, (figS z).cps.toList = c :: r := by
          cases q : (figS z).cps.toList with
          | nil =>
            exfalso
            apply c1
            exact TL.ext_tl q
          | cons c r => exact ⟨c, r, rfl⟩
        have h0 : atI (figS z).cps.toList 0 = some c := by
          have q := atI_nat (xs := (figS z).cps.toList) (j := 0) (v := c) (by rw [hcr]; rfl)
          exact q
        refine ⟨_, rfl, _, 0, c, rfl, rfl, small_line (by omega), h0, rfl, _, rfl, ?_⟩
        have hh : (figS z).cps.toList.head? = some c := by rw [hcr]; rfl
        have fin : badNum z = false → intText? z = intText? z → ∀ n, intText? z = some n → (z.length ≤ 640 → Q (.int n) H2 → True) → True := fun _ _ _ _ _ => trivial
        by_cases c4 : c = 48
        · subst c4
          rw [decide_eq_true (show V.str ⟨#[48]⟩ = V.str "0" from congrArg V.str (by decide +kernel))]
          refine iteT ⟨_, rfl, rfl, _, rfl, ?_⟩
          by_cases c5 : z = "0"
          · rw [decide_eq_true (show V.str z = V.str "0" by rw [c5])]
            refine iteF ?_
            rcases h with ⟨hb, _⟩ | ⟨_, hz, n, hn, k⟩
            · unfold badNum at hb
              rw [decide_eq_false c1, decide_eq_false c2, c3', hh, decide_eq_true c5] at hb
              simp at hb
            · exact ⟨_, rfl, z, n, rfl, hn, hz, k⟩
          · rw [decide_eq_false (show ¬ V.str z = V.str "0" from fun q => c5 (V.str.inj q))]
            refine iteT ?_
            rcases h with ⟨_, k⟩ | ⟨hb, _⟩
            · exact k
            · unfold badNum at hb
              rw [decide_eq_false c5, hh] at hb
              simp at hb
        · rw [decide_eq_false (show ¬ V.str ⟨#[c]⟩ = V.str "0" from fun q => c4 (by
            have q2 : (⟨#[c]⟩ : Str) = "0" := V.str.inj q
            have q3 : TL.tl (⟨#[c]⟩ : Str) = TL.tl ("0" : Str) := by rw [q2]
            have q4 : TL.tl ("0" : Str) = [48] := by decide +kernel
            rw [q4] at q3
            exact (List.cons.inj q3).1))]
          refine iteF (iteF ?_)
          rcases h with ⟨hb, _⟩ | ⟨_, hz, n, hn, k⟩
          · unfold badNum at hb
            rw [decide_eq_false c1, decide_eq_false c2, c3', hh, decide_eq_false (show ¬ some c = some 48 from fun q => c4 (Option.some.inj q))] at hb
            simp at hb
          · exact ⟨_, rfl, z, n, rfl, hn, hz, k⟩
end
end Dr

namespace Dr
open PySem PySem.Spec PyProof.Rows L2
theorem get_map {α β : Type} {f : α → β} {l : List α} {i : Nat} {y : β} (h : (l.map f)[i]? = some y) : ∃ x, l[i]? = some x ∧ y = f x := by
  rw [List.getElem?_map] at h
  cases e : l[i]? with
  | none => rw [e] at h; cases h
  | some x => rw [e] at h; exact ⟨x, rfl, (Option.some.inj h).symm⟩
theorem take_succ {α : Type} {l : List α} {i : Nat} {x : α} (h : l[i]? = some x) : l.take (i + 1) = l.take i ++ [x] := by
  rw [List.take_succ, h]
  rfl
theorem same_new {H : Hp} {p : Addr} {o : HO} (h : H p = none) : Same H (upd H p o) := fun b u e => by
  rw [upd_ne (ne_of_none e h)]
  exact e
/-- an object that H does not know may change -/
theorem same_mut {H H' : Hp} {p : Addr} {o : HO} (s : Same H H') (h : H p = none) : Same H (upd H' p o) := fun b u e => by
  rw [upd_ne (ne_of_none e h)]
  exact s b u e
theorem yes {σ : L2.St} {H : Hp} {R N : Hp → Prop} (h : R H) : tYes σ H (fun b H3 => if b = true then R H3 else N H3) := iteT (B := N H) h
section
variable {P : Program} {w : World} {K : PySem.W.Frag} {mg : Str → Option Value} {base : Heap}
/-! ### read_poly -/
def comma : Str := ","
def polyOk (z : Str) : Bool := (Txt.split z comma).all fun w => decide (w.length ≤ 640) && (badNum w || (intText? w).isSome)
def numM (w : Str) : Int := (intText? w).getD 0
def polyM (z : Str) : Option (List Int) := if 13 < (Txt.split z comma).length ∨ (Txt.split z comma).any badNum = true then none else some ((Txt.split z comma).map numM)
def spReadPoly (K : PySem.W.Frag) : Sp := fun vs H Q E => ∃ z : Str, vs = [.str z] ∧ z.length ≤ 1000 ∧ polyOk z = true ∧
  (polyM z = none → ∀ H', Same H H' → E (.ref (He.ga K "NoText")) none H') ∧ (∀ ns, polyM z = some ns → ∀ H' p, Same H H' → H p = none → H' p = some (lI ns) → Q (.ref p) H')
theorem scReadPoly : FnScope ["text", "words", "word"] ["text"] (defScope sReadPoly) := ⟨rfl, rfl, rfl, by decide +kernel, rfl, by decide +kernel, by decide +kernel⟩
theorem ok_ReadPoly (T : TX K mg) : DefP P w K mg base (L2.CX P w) 2 "read_poly" ["text"] (spReadPoly K) := by
  obtain ⟨fd, F⟩ := T.fReadPoly
  obtain ⟨tM, cM⟩ := T.cMOST_NUMBERS
  obtain ⟨fdN, GN, bN, kN, gN⟩ := ok_ReadNumber (P := P) (w := w) (base := base) T
  refine defP F T.gReadPoly (fun _ _ _ _ _ _ us hl => match us, hl with | [_], _ => rfl) (F.ok scReadPoly (fun vs H Q E h => ?_) (fun cdv A outer s H vs Q E hr h => ?_))
  · obtain ⟨z, rfl, _⟩ := h
    rfl
  · obtain ⟨z, rfl, hl, hok, kE, kQ⟩ := h
    have nd := scReadPoly.nd
    refine ⟨_, pss_cons (ps_if (pt_not (pt_val (e_isi (pv 0) rfl T.nisinstance rfl T.nstr PyProof.Rows.boot_str))) (pss_one (ps_rz T.xNoText T.gNoText rfl)) pss_nil)
      (pss_cons (ps_set (i := 1) nd rfl (.inl rfl) (pe_split (pv 0) pe_str))
      (pss_cons (ps_if (pt_cmpR op_gt (pe_callB call_len_seq (by rfl) T.nlen PySem.boot_len (pa_cons (pv 1) pa_nil)) (pe_glob (v := .int 13) (by rfl) cM ⟨_, rfl⟩) (nomark _)) (pss_one (ps_rz T.xNoText T.gNoText rfl)) pss_nil)
      (pss_one (ps_ret (pe_lcX (own := [("word", 2)]) (g := gName 2) (tt := tYes) (EE := E) rfl rfl (takes_of rfl rfl rfl rfl) rfl nd (pi_list (pv 1)) (blkOk_by (own := [("word", 2)]) (N := ["text", "words", "word"]) (sc := defScope sReadPoly) (by decide +kernel))
        (fun _ _ _ _ _ _ => pg_name (i := 2) nd rfl (.inl rfl)) (fun _ _ _ _ _ _ => pts_nil) (fun _ _ _ _ _ xe ps => pe_call GN hr (by rfl) gN kN bN .nil ps (pa_cons (pv 2) pa_nil))))))), ?_⟩
    refine ⟨_, rfl, _, _, _, _, _, rfl, .ty _, .base (.str z), kit_ty (by decide +kernel), true, rfl, ?_⟩
    refine iteF ⟨_, rfl, ⟨_, rfl⟩, z, comma, rfl, rfl, by decide +kernel, small_line (by omega), fun p hp => ?_⟩
    refine ⟨_, rfl, p, _, rfl, .inl (SqL.of upd_same), _, 13, rfl, rfl, _, rfl, ?_⟩
    rw [List.length_map]
    by_cases c1 : 13 < (Txt.split z comma).length
    · rw [decide_eq_true (show (13 : Int) < ((Txt.split z comma).length : Int) by omega)]
      exact iteT (kE (if_pos (.inl c1)) _ (same_new hp))
    rw [decide_eq_false (show ¬ (13 : Int) < ((Txt.split z comma).length : Int) by omega)]
    refine iteF ⟨_, rfl, p, rfl, ⟨_, SqL.of upd_same⟩, fun D hD => ?_⟩
    have hDp : H D = none := (same_new hp).free hD
    refine lc_list (K := K) (a := p) (xs := (Txt.split z comma).map V.str) (fun i H' => Same H H' ∧ H' p = some (lS (Txt.split z comma)) ∧ H' D = some (lI (((Txt.split z comma).take i).map numM)) ∧ ∀ x ∈ (Txt.split z comma).take i, badNum x = false)
      ⟨(same_new hp).trans (same_new hD), (by rw [upd_ne (ne_of_none upd_same hD)]; exact upd_same), upd_same, fun x hx => by simp at hx⟩ (fun i H' _ q => SqL.of q.2.1) ?_ ?_
    · rintro i x H' hx ⟨s0, hp', hD', hb⟩
      obtain ⟨y, hy, rfl⟩ := get_map hx
      refine ⟨rfl, yes ⟨_, rfl, y, rfl, ?_⟩⟩
      have hmem : y ∈ Txt.split z comma := List.mem_of_getElem? hy
      have q := List.all_eq_true.mp hok y hmem
      rw [Bool.and_eq_true, decide_eq_true_eq, Bool.or_eq_true] at q
      refine ⟨by omega, ?_⟩
      cases hby : badNum y with
      | true => exact .inl ⟨rfl, kE (if_pos (.inr (List.any_eq_true.mpr ⟨y, hmem, hby⟩))) _ s0⟩
      | false =>
        refine .inr ⟨rfl, q.1, ?_⟩
        rw [hby] at q
        obtain ⟨n, hn⟩ := Option.isSome_iff_exists.mp (q.2.resolve_left Bool.false_ne_true)
        refine ⟨n, hn, _, hD', ?_, ?_⟩
        · have : ((((Txt.split z comma).take i).map numM).map V.int).length ≤ 13 := by
            rw [List.length_map, List.length_map, List.length_take]
            omega
          exact small1000 (by omega)
        · refine ⟨same_mut s0 hDp, ?_, ?_, ?_⟩
          · rw [upd_ne (ne_of_none upd_same hD)]
            exact hp'
          · have e : numM y = n := by unfold numM; rw [hn]; rfl
            rw [upd_same, take_succ hy, List.map_append, ← e]
            show _ = some (HO.lst (List.map V.int (_ ++ [numM y])))
            rw [List.map_append]
            rfl
          · rw [take_succ hy]
            intro x hx
            rcases List.mem_append.mp hx with hx | hx
            · exact hb x hx
            · rw [List.mem_singleton.mp hx]
              exact hby
    · rintro H' ⟨s0, hp', hD', hb⟩
      rw [List.length_map, List.take_length] at hb hD'
      refine kQ _ (if_neg ?_) _ _ s0 hDp hD'
      rintro (q | q)
      · exact c1 q
      · obtain ⟨x, hx, hbx⟩ := List.any_eq_true.mp q
        rw [hb x hx] at hbx
        cases hbx
end
end Dr

namespace Dr
open PySem PySem.Spec PyProof.Rows L2
/-- [e for x in xs], e's value f x, nothing made on the way -/
theorem lc_pure {K : PySem.W.Frag} {a D : Addr} {xs : List V} {j : Nat} {te : TE} {vs : List Nat} {σ : L2.St} {H : Hp} {Qd : Hp → Prop} (f : V → V) (hS : SqL K H a xs) (hD : H D = none) (hz : xs.length < sizeLine)
    (hw : ∀ x, wipe ((wipe σ vs).set j (some x)) vs = wipe σ vs)
    (hte : ∀ (i : Nat) (x : V) (H' : Hp) (Q' : VK), xs[i]? = some x → Same H H' → Q' (f x) H' → te ((wipe σ vs).set j (some x)) H' Q')
    (hd : ∀ H', Same H H' → H' D = some (.lst (xs.map f)) → Qd H') :
    ∃ W : Nat → Nat → Hp → Prop, (∃ m, W 0 m (upd H D (.lst []))) ∧ ∀ i m H, W i m H →
      ((Itl K a).stop i H ∧ Qd H) ∨ ((Itl K a).go i H ∧ ∃ Nx : Hp → Prop, (∀ H', Nx H' → ∃ m', m' < m ∧ W (i + 1) m' H') ∧ ∀ x H', (Itl K a).yld i H x H' → gName j x (wipe σ vs) H' fun σ2 H2 => wipe σ2 vs = wipe σ vs ∧ tYes σ2 H2 fun b H3 =>
        if b = true then te σ2 H3 fun y H4 => ∃ acc, H4 D = some (.lst acc) ∧ acc.length < sizeLine ∧ Nx (upd H4 D (.lst (acc ++ [y]))) else Nx H3) := by
  refine lc_list (K := K) (a := a) (xs := xs) (fun i H' => Same H H' ∧ H' D = some (.lst ((xs.take i).map f))) ⟨same_new hD, upd_same⟩ (fun i H' _ q => q.1.seq hS) ?_ ?_
  · rintro i x H' hx ⟨s0, hD'⟩
    refine ⟨hw x, yes (hte i x H' _ hx s0 ⟨_, hD', ?_, same_mut s0 hD, ?_⟩)⟩
    · rw [List.length_map, List.length_take]
      omega
    · rw [upd_same, take_succ hx, List.map_append]
      rfl
  · rintro H' ⟨s0, hD'⟩
    rw [List.take_length] at hD'
    exact hd H' s0 hD'
section
variable {P : Program} {w : World} {K : PySem.W.Frag} {mg : Str → Option Value} {base : Heap}
/-! ### show_poly -/
def numT (n : Int) : Str := Str.ofString (toString n)
def showM (ns : List Int) : Str := Txt.join comma (ns.map numT)
def smallPoly (ns : List Int) : Prop := ns.length ≤ 14 ∧ ∀ n ∈ ns, n.natAbs.log2 < 1920 ∧ (numT n).length ≤ 1000
theorem sum_le {l : List Nat} {b : Nat} (h : ∀ x ∈ l, x ≤ b) : l.sum ≤ l.length * b := by
  induction l with
  | nil => simp
  | cons x r ih =>
    rw [List.sum_cons, List.length_cons, Nat.succ_mul]
    have h1 := h x List.mem_cons_self
    have h2 := ih fun y hy => h y (List.mem_cons_of_mem _ hy)
    omega
def spShowPoly (K : PySem.W.Frag) : Sp := fun vs H Q _ => ∃ (a : Addr) (ns : List Int), vs = [.ref a] ∧ SqL K H a (ns.map V.int) ∧ smallPoly ns ∧ ∀ H', Same H H' → Q (.str (showM ns)) H'
theorem scShowPoly : FnScope ["f", "number"] ["f"] (defScope sShowPoly) := ⟨rfl, rfl, rfl, by decide +kernel, rfl, by decide +kernel, by decide +kernel⟩
def strV : V → V
  | .int n => .str (numT n)
  | v => v
theorem ok_ShowPoly (T : TX K mg) : DefP P w K mg base CX0 1 "show_poly" ["f"] (spShowPoly K) := by
  obtain ⟨fd, F⟩ := T.fShowPoly
  refine defP F T.gShowPoly (fun _ _ _ _ _ _ us hl => match us, hl with | [_], _ => rfl) (F.ok scShowPoly (fun vs H Q E h => ?_) (fun cdv A outer s H vs Q E hr h => ?_))
  · obtain ⟨a, ns, rfl, _⟩ := h
    rfl
  · obtain ⟨a, ns, rfl, hS, ⟨hl, hb⟩, k⟩ := h
    have nd := scShowPoly.nd
    refine ⟨_, PSs.nox (pss_one (ps_ret (pe_join pe_str (pe_lc (own := [("number", 1)]) (g := gName 1) (tt := tYes) rfl nd (pi_list (pv 0)) (blkOk_by (own := [("number", 1)]) (N := ["f", "number"]) (sc := defScope sShowPoly) (by decide +kernel))
        (fun _ _ _ _ _ => pg_name (i := 1) nd rfl (.inl rfl)) (fun _ _ _ _ _ => pts_nil) (fun _ _ _ _ _ => pe_callTy call_str_int (by rfl) T.nstr PyProof.Rows.boot_str (pa_cons (pv 1) pa_nil)))))), ?_⟩
    refine ⟨⟨_, rfl⟩, _, rfl, a, rfl, ⟨_, hS⟩, fun D hD => lc_pure strV hS hD (by rw [List.length_map]; exact small1000 (by omega)) (fun x => rfl) ?_ ?_⟩
    · rintro i x H' Q' hx s0 q
      obtain ⟨n, hn, rfl⟩ := get_map hx
      exact ⟨_, rfl, n, rfl, (hb n (List.mem_of_getElem? hn)).1, q⟩
    · intro H' s0 hD'
      refine ⟨comma, D, ns.map numT, rfl, rfl, .inl (SqL.of ?_), ?_, k H' s0⟩
      · rw [hD', List.map_map, List.map_map]
        rfl
      · have e : ∀ x ∈ (ns.map numT).map (·.length), x ≤ 1000 := fun x hx => by
          obtain ⟨t, ht, rfl⟩ := List.mem_map.mp hx
          obtain ⟨n, hn, rfl⟩ := List.mem_map.mp ht
          exact (hb n hn).2
        have q := sum_le e
        have c1 : comma.length = 1 := by decide +kernel
        rw [List.length_map, List.length_map] at q
        rw [List.length_map, c1]
        omega
/-! ### words_wanted -/
def kinds4 (z : Str) : Option Str :=
  if z = "drop" ∨ z = "show" ∨ z = "border" then some "o" else if z = "solve" ∨ z = "count" ∨ z = "roots" then some "od" else if z = "single" then some "ok" else if z = "root" then some "okd"
  else if z = "small" then some "kdk" else if z = "parts" then some "oood" else if z = "names" then some "" else none
def kindsM (z : Str) : Option Str :=
  if z = "poly" then some "nf" else if z = "times" then some "noo" else if z = "seen" then some "nokd" else if z = "slope" then some "no" else kinds4 z
def kindsV (z : Str) : V := match kindsM z with
  | some k => .str k
  | none => .non
def spWordsWanted : Sp := fun vs H Q _ => ∃ z : Str, vs = [.str z] ∧ Q (kindsV z) H
theorem scWordsWanted : FnScope ["first"] ["first"] (defScope sWordsWanted) := ⟨rfl, rfl, rfl, by decide +kernel, rfl, by decide +kernel, by decide +kernel⟩
theorem kV_of {z k : Str} (h : kindsM z = some k) : kindsV z = .str k := by unfold kindsV; rw [h]
theorem itY {z t : Str} {A B : Prop} (h1 : z = t → A) (h2 : ¬ z = t → B) : if decide (V.str z = V.str t) = true then A else B := by
  by_cases c : z = t
  · rw [decide_eq_true (show V.str z = V.str t by rw [c])]
    exact iteT (h1 c)
  · rw [decide_eq_false (show ¬ V.str z = V.str t from fun q => c (V.str.inj q))]
    exact iteF (h2 c)
theorem ok_WordsWanted (T : TX K mg) : DefP P w K mg base CX0 1 "words_wanted" ["first"] spWordsWanted := by
  obtain ⟨fd, F⟩ := T.fWordsWanted
  refine defP F T.gWordsWanted (fun _ _ _ _ _ _ us hl => match us, hl with | [_], _ => rfl) (F.ok scWordsWanted (fun vs H Q E h => ?_) (fun cdv A outer s H vs Q E hr h => ?_))
  · obtain ⟨z, rfl, _⟩ := h
    rfl
  · obtain ⟨z, rfl, k⟩ := h
    refine ⟨_, PSs.nox (pss_cons (ps_if (pt_cmpR op_eq (pv 0) pe_str (nomark _)) (pss_one (ps_ret pe_str)) pss_nil)
      (pss_cons (ps_if (pt_cmpR op_eq (pv 0) pe_str (nomark _)) (pss_one (ps_ret pe_str)) pss_nil)
      (pss_cons (ps_if (pt_cmpR op_eq (pv 0) pe_str (nomark _)) (pss_one (ps_ret pe_str)) pss_nil)
      (pss_cons (ps_if (pt_cmpR op_eq (pv 0) pe_str (nomark _)) (pss_one (ps_ret pe_str)) pss_nil)
      (pss_cons (ps_if (PW.pt (pw_or (pt_cmpR op_eq (pv 0) pe_str (nomark _)) (pw_or (pt_cmpR op_eq (pv 0) pe_str (nomark _)) (pw_or1 (pt_cmpR op_eq (pv 0) pe_str (nomark _)))))) (pss_one (ps_ret pe_str)) pss_nil)
      (pss_cons (ps_if (PW.pt (pw_or (pt_cmpR op_eq (pv 0) pe_str (nomark _)) (pw_or (pt_cmpR op_eq (pv 0) pe_str (nomark _)) (pw_or1 (pt_cmpR op_eq (pv 0) pe_str (nomark _)))))) (pss_one (ps_ret pe_str)) pss_nil)
      (pss_cons (ps_if (pt_cmpR op_eq (pv 0) pe_str (nomark _)) (pss_one (ps_ret pe_str)) pss_nil)
      (pss_cons (ps_if (pt_cmpR op_eq (pv 0) pe_str (nomark _)) (pss_one (ps_ret pe_str)) pss_nil)
      (pss_cons (ps_if (pt_cmpR op_eq (pv 0) pe_str (nomark _)) (pss_one (ps_ret pe_str)) pss_nil)
      (pss_cons (ps_if (pt_cmpR op_eq (pv 0) pe_str (nomark _)) (pss_one (ps_ret pe_str)) pss_nil)
      (pss_cons (ps_if (pt_cmpR op_eq (pv 0) pe_str (nomark _)) (pss_one (ps_ret pe_str)) pss_nil)
      (pss_one (ps_ret pe_non))))))))))))), ?_⟩
    have fin : ∀ {t : Option Str}, kindsM z = t → Q (match t with | some k => .str k | none => .non) H := fun {t} e => by
      rw [← e]
      exact k
    refine ⟨_, rfl, rfl, _, rfl, itY (fun c => ?_) fun n1 => ⟨_, rfl, rfl, _, rfl, itY (fun c => ?_) fun n2 => ⟨_, rfl, rfl, _, rfl, itY (fun c => ?_) fun n3 => ⟨_, rfl, rfl, _, rfl, itY (fun c => ?_) fun n4 => ?_⟩⟩⟩⟩
    · exact fin (t := some "nf") (if_pos c)
    · exact fin (t := some "noo") (by unfold kindsM; rw [if_neg n1, if_pos c])
    · exact fin (t := some "nokd") (by unfold kindsM; rw [if_neg n1, if_neg n2, if_pos c])
    · exact fin (t := some "no") (by unfold kindsM; rw [if_neg n1, if_neg n2, if_neg n3, if_pos c])
    have e4 : ∀ {t : Option Str}, kinds4 z = t → Q (match t with | some k => .str k | none => .non) H := fun {t} e => fin (by unfold kindsM; rw [if_neg n1, if_neg n2, if_neg n3, if_neg n4]; exact e)
    have o5 : z = "drop" ∨ z = "show" ∨ z = "border" → Q (.str "o") H := fun c => e4 (t := some "o") (if_pos c)
    refine ⟨_, rfl, rfl, _, rfl, itY (fun c => iteT (o5 (.inl c))) fun n5 => ⟨_, rfl, rfl, _, rfl, itY (fun c => iteT (o5 (.inr (.inl c)))) fun n6 => ⟨_, rfl, rfl, _, rfl, itY (fun c => o5 (.inr (.inr c))) fun n7 => ?_⟩⟩⟩
    have n567 : ¬ (z = "drop" ∨ z = "show" ∨ z = "border") := fun q => q.elim n5 fun q => q.elim n6 n7
    have o6 : z = "solve" ∨ z = "count" ∨ z = "roots" → Q (.str "od") H := fun c => e4 (t := some "od") (by unfold kinds4; rw [if_neg n567, if_pos c])
    refine ⟨_, rfl, rfl, _, rfl, itY (fun c => iteT (o6 (.inl c))) fun n8 => ⟨_, rfl, rfl, _, rfl, itY (fun c => iteT (o6 (.inr (.inl c)))) fun n9 => ⟨_, rfl, rfl, _, rfl, itY (fun c => o6 (.inr (.inr c))) fun n10 => ?_⟩⟩⟩
    have n8910 : ¬ (z = "solve" ∨ z = "count" ∨ z = "roots") := fun q => q.elim n8 fun q => q.elim n9 n10
    refine ⟨_, rfl, rfl, _, rfl, itY (fun c => ?_) fun m1 => ⟨_, rfl, rfl, _, rfl, itY (fun c => ?_) fun m2 => ⟨_, rfl, rfl, _, rfl, itY (fun c => ?_) fun m3 => ⟨_, rfl, rfl, _, rfl, itY (fun c => ?_) fun m4 => ⟨_, rfl, rfl, _, rfl, itY (fun c => ?_) fun m5 => ?_⟩⟩⟩⟩⟩
    · exact e4 (t := some "ok") (by unfold kinds4; rw [if_neg n567, if_neg n8910, if_pos c])
    · exact e4 (t := some "okd") (by unfold kinds4; rw [if_neg n567, if_neg n8910, if_neg m1, if_pos c])
    · exact e4 (t := some "kdk") (by unfold kinds4; rw [if_neg n567, if_neg n8910, if_neg m1, if_neg m2, if_pos c])
    · exact e4 (t := some "oood") (by unfold kinds4; rw [if_neg n567, if_neg n8910, if_neg m1, if_neg m2, if_neg m3, if_pos c])
    · exact e4 (t := some "") (by unfold kinds4; rw [if_neg n567, if_neg n8910, if_neg m1, if_neg m2, if_neg m3, if_neg m4, if_pos c])
    · exact e4 (t := none) (by unfold kinds4; rw [if_neg n567, if_neg n8910, if_neg m1, if_neg m2, if_neg m3, if_neg m4, if_neg m5])
end
end Dr

namespace Dr
open PySem PySem.Spec PyProof.Rows L2
section
variable {P : Program} {w : World} {K : PySem.W.Frag} {mg : Str → Option Value} {base : Heap}
/-! ### need_name -/
def abc : Str := "abcdefghijklmnopqrstuvwxyz"
def nameBad (z : Str) : Bool := decide (z = "") || (decide (8 < z.length) || z.cps.toList.any fun c => !decide (c ∈ abc.cps.toList))
def spNeedName (K : PySem.W.Frag) : Sp := fun vs H Q E => ∃ z : Str, vs = [.str z] ∧ z.length ≤ 1000 ∧ ((nameBad z = true ∧ E (.ref (He.ga K "NoName")) none H) ∨ (nameBad z = false ∧ Q .non H))
theorem scNeedName : FnScope ["word", "sign"] ["word"] (defScope sNeedName) := ⟨rfl, rfl, rfl, by decide +kernel, rfl, by decide +kernel, by decide +kernel⟩
theorem ok_NeedName (T : TX K mg) : DefP P w K mg base (L2.CX P w) 1 "need_name" ["word"] (spNeedName K) := by
  obtain ⟨fd, F⟩ := T.fNeedName
  refine defP F T.gNeedName (fun _ _ _ _ _ _ us hl => match us, hl with | [_], _ => rfl) (F.ok scNeedName (fun vs H Q E h => ?_) (fun cdv A outer s H vs Q E hr h => ?_))
  · obtain ⟨z, rfl, _⟩ := h
    rfl
  · obtain ⟨z, rfl, hl, h⟩ := h
    have nd := scNeedName.nd
    refine ⟨_, pss_cons (ps_if (PW.pt (pw_or (pt_cmpR op_eq (pv 0) pe_str (nomark _)) (pw_or1 (pt_cmpR op_gt (pe_callB call_len_str (by rfl) T.nlen PySem.boot_len (pa_cons (pv 0) pa_nil)) pe_int (nomark _))))) (pss_one (ps_rz T.xNoName T.gNoName rfl)) pss_nil)
      (pss_one (ps_for (passes_of rfl) rfl (pi_str (pv 0)) (pg_name (i := 1) nd rfl (.inl rfl)) (pss_one (ps_if (pt_cmpR op_notIn_sign (pv 1) pe_str rfl) (pss_one (ps_rz T.xNoName T.gNoName rfl)) pss_nil)))), ?_⟩
    refine ⟨_, rfl, rfl, _, rfl, itY (fun c1 => iteT ?_) fun c1 => ⟨_, rfl, _, rfl, small_line (by omega), _, _, rfl, rfl, _, rfl, ?_⟩⟩
    · rcases h with ⟨_, k⟩ | ⟨hb, _⟩
      · exact k
      · unfold nameBad at hb
        rw [decide_eq_true c1] at hb
        cases hb
    by_cases c2 : 8 < z.length
    · rw [decide_eq_true (show (8 : Int) < (z.length : Int) by omega)]
      refine iteT ?_
      rcases h with ⟨_, k⟩ | ⟨hb, _⟩
      · exact k
      · unfold nameBad at hb
        rw [decide_eq_false c1, decide_eq_true c2] at hb
        cases hb
    rw [decide_eq_false (show ¬ (8 : Int) < (z.length : Int) by omega)]
    refine iteF ⟨_, rfl, z, rfl, ?_⟩
    by_cases c3 : z.cps.toList.any (fun c => !decide (c ∈ abc.cps.toList)) = true
    · have k : E (.ref (He.ga K "NoName")) none H := by
        rcases h with ⟨_, k⟩ | ⟨hb, _⟩
        · exact k
        · unfold nameBad at hb
          rw [decide_eq_false c1, decide_eq_false c2, c3] at hb
          cases hb
      refine ⟨fun i m σ H2 => H2 = H ∧ m + i = z.cps.size ∧ (∀ j, j < i → ∀ c, z.cps[j]? = some c → c ∈ abc.cps.toList) ∧ ∃ v, σ = [some (.str z), v], ⟨_, rfl, rfl, fun j hj => absurd hj (Nat.not_lt_zero _), none, rfl⟩, ?_⟩
      rintro i m σ H2 ⟨rfl, hm, hall, v, rfl⟩
      by_cases hi : i < z.cps.size
      · refine .inr ⟨hi, fun σ' H3 => H3 = H2 ∧ (∀ c, z.cps[i]? = some c → c ∈ abc.cps.toList) ∧ ∃ v, σ' = [some (.str z), v], ?_, ?_⟩
        · rintro σ' H3 ⟨rfl, h3, v, rfl⟩
          refine ⟨m - 1, by omega, rfl, by omega, fun j hj c hc => ?_, v, rfl⟩
          by_cases e : j = i
          · subst e
            exact h3 c hc
          · exact hall j (by omega) c hc
        · rintro x H3 ⟨rfl, c, hc, rfl⟩
          refine ⟨_, rfl, c, abc, rfl, rfl, _, rfl, ?_⟩
          by_cases hd : c ∈ abc.cps.toList
          · rw [decide_eq_true hd]
            refine iteF ⟨rfl, fun c' hc' => ?_, _, rfl⟩
            rw [hc] at hc'
            cases hc'
            exact hd
          · rw [decide_eq_false hd]
            exact iteT k
      · exfalso
        obtain ⟨c, hc, hcd⟩ := List.any_eq_true.mp c3
        obtain ⟨j, hj, e⟩ := List.getElem_of_mem hc
        have hj' : j < z.cps.size := by simpa using hj
        have q := hall j (by omega) c (by rw [Array.getElem?_eq_getElem hj', ← e]; simp)
        rw [decide_eq_true q] at hcd
        cases hcd
    · have c3' : z.cps.toList.any (fun c => !decide (c ∈ abc.cps.toList)) = false := by
        cases q : z.cps.toList.any (fun c => !decide (c ∈ abc.cps.toList)) with
        | false => rfl
        | true => exact absurd q c3
      refine ⟨fun i m σ H2 => H2 = H ∧ m + i = z.cps.size ∧ ∃ v, σ = [some (.str z), v], ⟨_, rfl, rfl, none, rfl⟩, ?_⟩
      rintro i m σ H2 ⟨rfl, hm, v, rfl⟩
      by_cases hi : i < z.cps.size
      · refine .inr ⟨hi, fun σ' H3 => H3 = H2 ∧ ∃ v, σ' = [some (.str z), v], ?_, ?_⟩
        · rintro σ' H3 ⟨rfl, v, rfl⟩
          exact ⟨m - 1, by omega, rfl, by omega, v, rfl⟩
        · rintro x H3 ⟨rfl, c, hc, rfl⟩
          refine ⟨_, rfl, c, abc, rfl, rfl, _, rfl, ?_⟩
          have hd : c ∈ abc.cps.toList := by
            have hm' : c ∈ z.cps.toList := by
              obtain ⟨hj, e⟩ := Array.getElem?_eq_some_iff.mp hc
              rw [← e]
              simp
            have q := List.any_eq_false.mp c3' c hm'
            simpa using q
          rw [decide_eq_true hd]
          exact iteF ⟨rfl, _, rfl⟩
      · refine .inl ⟨Nat.not_lt.mp hi, ?_⟩
        rcases h with ⟨hb, _⟩ | ⟨_, k⟩
        · unfold nameBad at hb
          rw [decide_eq_false c1, decide_eq_false c2, c3'] at hb
          cases hb
        · exact k
end
end Dr

namespace Dr
open PySem PySem.Spec PyProof.Rows L2
/-- what a desk keeps: name, where its polynomial lies, the polynomial -/
abbrev Kept : Type := List (Str × Addr × List Int)
def look (kept : Kept) (z : Str) : Option (Addr × List Int) := (kept.find? fun e => decide (e.1 = z)).map (·.2)
def lk (kept : Kept) (z : Str) : Option (List Int) := (look kept z).map (·.2)
def dKV (kept : Kept) : List (Key × V) := kept.map fun e => (Sum.inr e.1, V.ref e.2.1)
def dF (p : Int) (k : Addr) : List (Str × V) := [(("prime" : Str), V.int p), (("kept" : Str), V.ref k)]
structure DeskAt (K : PySem.W.Frag) (H : Hp) (d k : Addr) (p : Int) (kept : Kept) : Prop where
  ins : ∃ dx, H d = some (.ins (He.ga K "Desk") dx (dF p k))
  dic : H k = some (.dK (dKV kept))
  pol : ∀ e ∈ kept, H e.2.1 = some (lI e.2.2)
  few : kept.length ≤ 100
theorem DeskAt.same {K : PySem.W.Frag} {H H' : Hp} {d k : Addr} {p : Int} {kept : Kept} (D : DeskAt K H d k p kept) (s : Same H H') : DeskAt K H' d k p kept :=
  ⟨let ⟨dx, e⟩ := D.ins; ⟨dx, s _ _ e⟩, s _ _ D.dic, fun e he => s _ _ (D.pol e he), D.few⟩
theorem valV_kept (kept : Kept) (z : Str) : valV (dKV kept) (Sum.inr z) = (look kept z).map fun q => V.ref q.1 := by
  unfold valV dKV look
  induction kept with
  | nil => rfl
  | cons e r ih =>
    rw [List.map_cons, List.find?_cons, List.find?_cons]
    have h1 : decide ((Sum.inr e.1 : Key) = Sum.inr z) = decide (e.1 = z) := L2.key_rr e.1 z
    show Option.map (fun q : Key × V => q.2) (match decide ((Sum.inr e.1 : Key) = Sum.inr z) with | true => some ((Sum.inr e.1 : Key), V.ref e.2.1) | false => _) = _
    rw [h1]
    cases decide (e.1 = z) with
    | true => rfl
    | false => exact ih
theorem look_mem {kept : Kept} {z : Str} {q : Addr × List Int} (h : look kept z = some q) : ∃ e ∈ kept, e.1 = z ∧ e.2 = q := by
  unfold look at h
  cases e : kept.find? fun e => decide (e.1 = z) with
  | none => rw [e] at h; cases h
  | some x =>
    rw [e] at h
    have h2 := List.find?_some e
    exact ⟨x, List.mem_of_find?_eq_some e, of_decide_eq_true h2, Option.some.inj h⟩
theorem dF_prime (p : Int) (k : Addr) : (dF p k).lookup ("prime" : Str) = some (.int p) := by
  have e : (("prime" : Str) == "prime") = true := beq_self_eq_true _
  simp only [dF, List.lookup, e]
theorem dF_kept (p : Int) (k : Addr) : (dF p k).lookup ("kept" : Str) = some (.ref k) := by
  have e1 : (("kept" : Str) == "prime") = false := by decide +kernel
  have e : (("kept" : Str) == "kept") = true := beq_self_eq_true _
  simp only [dF, List.lookup, e, e1]
theorem dF_no (p : Int) (k : Addr) {m : Str} (h1 : (m == ("prime" : Str)) = false) (h2 : (m == ("kept" : Str)) = false) : (dF p k).lookup m = none := by
  simp only [dF, List.lookup, h1, h2]
/-- what a word tells -/
inductive Pt where
  | str (z : Str)
  | int (n : Int)
  | lst (ns : List Int)
  | bad (x : Str)
def partM (kn : Str → Option (List Int)) (kd z : Str) : Pt :=
  if kd = "f" then (match polyM z with | none => .bad "NoText" | some ns => .lst ns)
  else if kd = "k" ∨ kd = "d" then (if badNum z = true then .bad "NoText" else if kd = "d" ∧ (numM z < 0 ∨ 60 < numM z) then .bad "TooDeep" else .int (numM z))
  else if nameBad z = true then .bad "NoName" else if kd = "n" then .str z else (match kn z with | none => .bad "NoName" | some ns => .lst ns)
def partOk (kd z : Str) : Bool := decide (z.length ≤ 640) && (if kd = "f" then polyOk z else if kd = "k" ∨ kd = "d" then badNum z || (intText? z).isSome else true)
def PtEnds (K : PySem.W.Frag) (H : Hp) (Q : VK) (E : XK) : Pt → Prop
  | .bad x => ∀ H', Same H H' → E (.ref (He.ga K x)) none H'
  | .str y => Q (.str y) H
  | .int n => Q (.int n) H
  | .lst ns => ∀ H' p, Same H H' → H p = none → H' p = some (lI ns) → Q (.ref p) H'
section
variable {P : Program} {w : World} {K : PySem.W.Frag} {mg : Str → Option Value} {base : Heap}
def spPartOf (K : PySem.W.Frag) : Sp := fun vs H Q E => ∃ (d k : Addr) (p : Int) (kept : Kept) (kd z : Str), vs = [.ref d, .str kd, .str z] ∧ DeskAt K H d k p kept ∧ partOk kd z = true ∧ PtEnds K H Q E (partM (lk kept) kd z)
theorem scPartOf : FnScope ["self", "kind", "word", "number"] ["self", "kind", "word"] (defScope sDeskPartOf) := ⟨rfl, rfl, rfl, by decide +kernel, rfl, by decide +kernel, by decide +kernel⟩
theorem ok_PartOf (T : TX K mg) : ∃ fd, FnOk P w K mg base (L2.CX P w) 3 (He.ma K (He.ga K "Desk") "part_of") fd ["self", "kind", "word"] (spPartOf K) ∧ Binds K fd ["self", "kind", "word"] [] := by
  obtain ⟨fd, F⟩ := T.fDeskPartOf
  obtain ⟨fdR, GR, bR, kR, gR⟩ := ok_ReadPoly (P := P) (w := w) (base := base) T
  obtain ⟨fdN, GN, bN, kN, gN⟩ := ok_ReadNumber (P := P) (w := w) (base := base) T
  obtain ⟨fdM, GM, bM, kM, gM⟩ := ok_NeedName (P := P) (w := w) (base := base) T
  refine ⟨fd, F.ok scPartOf (fun vs H Q E h => ?_) (fun cdv A outer s H vs Q E hr h => ?_), F.bindsN fun _ _ _ _ _ _ us hl => match us, hl with | [_, _, _], _ => rfl⟩
  · obtain ⟨d, k, p, kept, kd, z, rfl, _⟩ := h
    rfl
  · obtain ⟨d, k, p, kept, kd, z, rfl, D, hok, h⟩ := h
    have nd := scPartOf.nd
    have hr1 : Room 1 _ := hr.mono (by decide)
    have hu := hu_of hr
    refine ⟨_, pss_cons (ps_if (pt_cmpR op_eq (pv 1) pe_str (nomark _)) (pss_one (ps_ret (pe_call GR hr (by rfl) gR kR bR .nil (passes_call (E := E) (W := fun cls d _ H => E cls d H) (takes_of rfl rfl rfl rfl) fun _ _ _ _ q => q) (pa_cons (pv 2) pa_nil)))) pss_nil)
      (pss_cons (ps_if (PW.pt (pw_or (pt_cmpR op_eq (pv 1) pe_str (nomark _)) (pw_or1 (pt_cmpR op_eq (pv 1) pe_str (nomark _)))))
        (pss_cons (ps_set (i := 3) nd rfl (.inl rfl) (pe_call GN hr1 (by rfl) gN kN bN .nil (passes_call (E := E) (W := fun cls d _ H => E cls d H) (takes_of rfl rfl rfl rfl) fun _ _ _ _ q => q) (pa_cons (pv 2) pa_nil)))
        (pss_cons (ps_if (PW.pt (pw_and (pt_cmpR op_eq (pv 1) pe_str (nomark _)) (pw_and1 (PW.pt (pw_or (pt_cmpR op_lt (pv 3) pe_int (nomark _)) (pw_or1 (pt_cmpR op_gt (pv 3) pe_int (nomark _)))))))) (pss_one (ps_rz T.xTooDeep T.gTooDeep rfl)) pss_nil)
        (pss_one (ps_ret (pv 3))))) pss_nil)
      (pss_cons (ps_expr (pe_call GM hr1 (by rfl) gM kM bM .nil (passes_call (E := E) (W := fun cls d _ H => E cls d H) (takes_of rfl rfl rfl rfl) fun _ _ _ _ q => q) (pa_cons (pv 2) pa_nil)))
      (pss_cons (ps_if (pt_cmpR op_eq (pv 1) pe_str (nomark _)) (pss_one (ps_ret (pv 2))) pss_nil)
      (pss_cons (ps_if (pt_cmp (pc_dnotin hu (pv 2) (pe_fld (pv 0) rfl))) (pss_one (ps_rz T.xNoName T.gNoName rfl)) pss_nil)
      (pss_one (ps_ret (pe_callTy call_list_of (by rfl) T.nlist PyProof.Rows.boot_list (pa_cons (pe_dget hu (pe_fld (pv 0) rfl) (pv 2) (fun _ _ => rfl)) pa_nil)))))))), ?_⟩
    unfold partOk at hok
    rw [Bool.and_eq_true, decide_eq_true_eq] at hok
    obtain ⟨hl, hok⟩ := hok
    have hl2 : z.length ≤ 1000 := by omega
    refine ⟨_, rfl, rfl, _, rfl, itY (fun c1 => ?_) fun c1 => ?_⟩
    · rw [if_pos c1] at hok
      unfold partM at h
      rw [if_pos c1] at h
      refine ⟨_, rfl, z, rfl, hl2, hok, fun e H' s0 => ?_, fun ns e H' q s0 hq hq' => ?_⟩
      · rw [e] at h
        exact h H' s0
      · rw [e] at h
        exact h H' q s0 hq hq'
    rw [if_neg c1] at hok
    unfold partM at h
    rw [if_neg c1] at h
    by_cases c2 : kd = "k" ∨ kd = "d"
    · rw [if_pos c2] at hok h
      have num : badNum z = false → intText? z = some (numM z) := fun hb => by
        rw [hb] at hok
        obtain ⟨n, hn⟩ := Option.isSome_iff_exists.mp (show (intText? z).isSome = true from hok)
        unfold numM
        rw [hn]
        rfl
      by_cases ck : kd = "k"
      · refine ⟨_, rfl, rfl, _, rfl, itY (fun _ => iteT ?_) fun q => absurd ck q⟩
        have nkd : ¬ kd = "d" := by rw [ck]; decide +kernel
        cases hb : badNum z with
        | true =>
          rw [if_pos hb] at h
          exact ⟨_, rfl, z, rfl, hl2, .inl ⟨hb, h H (Same.refl H)⟩⟩
        | false =>
          refine ⟨_, rfl, z, rfl, hl2, .inr ⟨hb, hl, numM z, num hb, ?_⟩⟩
          refine ⟨_, rfl, rfl, _, rfl, itY (fun q => absurd q nkd) fun _ => iteF ⟨_, rfl, ?_⟩⟩
          rw [if_neg (by rw [hb]; exact Bool.false_ne_true), if_neg (fun q => nkd q.1)] at h
          exact h
      · have cd : kd = "d" := c2.resolve_left ck
        refine ⟨_, rfl, rfl, _, rfl, itY (fun q => absurd q ck) fun _ => ⟨_, rfl, rfl, _, rfl, itY (fun _ => ?_) fun q => absurd cd q⟩⟩
        cases hb : badNum z with
        | true =>
          rw [if_pos hb] at h
          exact ⟨_, rfl, z, rfl, hl2, .inl ⟨hb, h H (Same.refl H)⟩⟩
        | false =>
          refine ⟨_, rfl, z, rfl, hl2, .inr ⟨hb, hl, numM z, num hb, ?_⟩⟩
          refine ⟨_, rfl, rfl, _, rfl, itY (fun _ => ⟨_, rfl, _, _, rfl, rfl, _, rfl, ?_⟩) fun q => absurd cd q⟩
          rw [if_neg (by rw [hb]; exact Bool.false_ne_true)] at h
          by_cases l1 : numM z < 0
          · rw [decide_eq_true l1]
            rw [if_pos ⟨cd, .inl l1⟩] at h
            exact iteT (iteT (h H (Same.refl H)))
          · rw [decide_eq_false l1]
            refine iteF ⟨_, rfl, _, _, rfl, rfl, _, rfl, ?_⟩
            by_cases l2 : 60 < numM z
            · rw [decide_eq_true l2]
              rw [if_pos ⟨cd, .inr l2⟩] at h
              exact iteT (h H (Same.refl H))
            · rw [decide_eq_false l2]
              rw [if_neg (fun q => q.2.elim l1 l2)] at h
              exact iteF ⟨_, rfl, h⟩
    · rw [if_neg c2] at h
      have nk : ¬ kd = "k" := fun q => c2 (.inl q)
      have nd' : ¬ kd = "d" := fun q => c2 (.inr q)
      refine ⟨_, rfl, rfl, _, rfl, itY (fun q => absurd q nk) fun _ => ⟨_, rfl, rfl, _, rfl, itY (fun q => absurd q nd') fun _ => ?_⟩⟩
      refine ⟨_, rfl, z, rfl, hl2, ?_⟩
      cases hb : nameBad z with
      | true =>
        rw [if_pos hb] at h
        exact .inl ⟨rfl, h H (Same.refl H)⟩
      | false =>
        rw [if_neg (by rw [hb]; exact Bool.false_ne_true)] at h
        refine .inr ⟨rfl, _, rfl, rfl, _, rfl, itY (fun q => ?_) fun q => ?_⟩
        · rw [if_pos q] at h
          exact ⟨_, rfl, h⟩
        · rw [if_neg q] at h
          obtain ⟨dx, hd⟩ := D.ins
          refine ⟨_, rfl, _, rfl, d, _, dx, _, _, rfl, hd, T.cls, T.noK, dF_kept p k, k, _, rfl, DGet.k (k := Sum.inr z) D.dic, _, rfl, ?_⟩
          rw [valV_kept]
          cases hk : look kept z with
          | none =>
            have e : lk kept z = none := by unfold lk; rw [hk]; rfl
            rw [e] at h
            exact iteT (h H (Same.refl H))
          | some q2 =>
            have e : lk kept z = some q2.2 := by unfold lk; rw [hk]; rfl
            rw [e] at h
            obtain ⟨e2, he2, _, hq2⟩ := look_mem hk
            have hp2 : H q2.1 = some (lI q2.2) := by
              rw [← hq2]
              exact D.pol e2 he2
            refine iteF ⟨_, rfl, d, _, dx, _, _, rfl, hd, T.cls, T.noK, dF_kept p k, _, rfl, k, _, rfl, (by
              have g := DGet.k (k := Sum.inr z) D.dic
              rw [valV_kept, hk] at g
              exact g), q2.1, _, rfl, .inl (SqL.of hp2), fun l hl3 => h _ l (same_new hl3) hl3 upd_same⟩
end
end Dr

namespace Dr
open PySem PySem.Spec PyProof.Rows L2
section
variable {P : Program} {w : World} {K : PySem.W.Frag} {mg : Str → Option Value} {base : Heap}
/-! ### small_fraction, where it refuses -/
def spSmallFraction (K : PySem.W.Frag) : Sp := fun vs H Q E => ∃ (p a e m : Int) (t : Addr), vs = [.int p, .ref t, .int m] ∧ H t = some (.tup [.int a, .int e]) ∧ (0 < p ∧ p < 2 ^ 64) ∧ (0 ≤ e ∧ e < 2 ^ 62) ∧ m < 2 ^ 64 ∧ (m < 1 ∨ p ^ e.toNat ≤ 2 * m * m) ∧ E (.ref (He.ga K "NoSmall")) none H
theorem scSmallFraction : FnScope ["p", "one", "m", "whole", "high", "top", "ahead", "bottom", "many"] ["p", "one", "m"] (defScope sSmallFraction) := ⟨rfl, rfl, rfl, by decide +kernel, rfl, by decide +kernel, by decide +kernel⟩
theorem ok_SmallFraction (T : TX K mg) : DefP P w K mg base (L2.CX P w) 2 "small_fraction" ["p", "one", "m"] (spSmallFraction K) := by
  obtain ⟨fd, F⟩ := T.fSmallFraction
  obtain ⟨fdP, GP, bP, kP, gP⟩ := ok_PowerOf (P := P) (w := w) (base := base) T
  refine defP F T.gSmallFraction (fun _ _ _ _ _ _ us hl => match us, hl with | [_, _, _], _ => rfl) (F.ok scSmallFraction (fun vs H Q E h => ?_) (fun cdv A outer s H vs Q E hr h => ?_))
  · obtain ⟨p, a, e, m, t, rfl, _⟩ := h
    rfl
  · obtain ⟨p, a, e, m, t, rfl, ht, ⟨hp, hp2⟩, ⟨h0, h1⟩, hm2, hm, k⟩ := h
    have nd := scSmallFraction.nd
    refine ⟨_, pss_cons (ps_set (i := 3) nd rfl (.inl rfl) (pe_call GP hr (by rfl) gP kP bP .nil pass0 (pa_cons (pv 0) (pa_cons (pe_ix ix_tup (pv 1) pe_int (fun _ _ => rfl)) pa_nil))))
      (pss_cons (ps_if (PW.pt (pw_or (pt_cmpR op_lt (pv 2) pe_int (nomark _)) (pw_or1 (pt_cmpR op_ge (pe_op op_mul (pe_op op_mul pe_int (pv 2)) (pv 2)) (pv 3) (nomark _))))) (pss_one (ps_rz T.xNoSmall T.gNoSmall rfl)) pss_nil)
      pss_nev), ?_⟩
    refine ⟨_, rfl, _, rfl, t, _, 1, .int e, rfl, rfl, SqT.of ht, rfl, p, e, rfl, ⟨by omega, hp2⟩, h0, h1, ?_⟩
    refine ⟨_, rfl, _, _, rfl, rfl, _, rfl, ?_⟩
    by_cases c : m < 1
    · rw [decide_eq_true c]
      exact iteT (iteT k)
    · rw [decide_eq_false c]
      refine iteF ⟨_, rfl, 2, m, rfl, rfl, .inl ⟨by decide, by decide⟩, _, rfl, _, _, rfl, rfl, .inr ⟨by omega, hm2⟩, _, rfl, _, _, rfl, rfl, _, rfl, ?_⟩
      rw [decide_eq_true (hm.resolve_left c)]
      exact iteT k
/-! ### worth_at, at 0 -/
def spWorthAt (K : PySem.W.Frag) : Sp := fun vs H Q _ => ∃ (a : Addr) (n : Int) (ns : List Int), vs = [.ref a, .int 0] ∧ SqL K H a ((n :: ns).map V.int) ∧ Q (.int n) H
theorem scWorthAt : FnScope ["f", "x", "found", "number"] ["f", "x"] (defScope sWorthAt) := ⟨rfl, rfl, rfl, by decide +kernel, rfl, by decide +kernel, by decide +kernel⟩
theorem ok_WorthAt (T : TX K mg) : DefP P w K mg base CX0 1 "worth_at" ["f", "x"] (spWorthAt K) := by
  obtain ⟨fd, F⟩ := T.fWorthAt
  refine defP F T.gWorthAt (fun _ _ _ _ _ _ us hl => match us, hl with | [_, _], _ => rfl) (F.ok scWorthAt (fun vs H Q E h => ?_) (fun cdv A outer s H vs Q E hr h => ?_))
  · obtain ⟨a, n, ns, rfl, _⟩ := h
    rfl
  · obtain ⟨a, n, ns, rfl, hS, k⟩ := h
    have nd := scWorthAt.nd
    refine ⟨_, PSs.nox (pss_cons (ps_set (i := 2) nd rfl (.inl rfl) pe_int)
      (pss_cons (ps_for PassesOwn.never rfl (pi_reversed (by rfl) T.nreversed (pa_cons (pv 0) pa_nil)) (pg_name (i := 3) nd rfl (.inl rfl)) (pss_one (ps_set (i := 2) nd rfl (.inl rfl) (pe_op op_add (pe_op op_mul (pv 2) (pv 1)) (pv 3)))))
      (pss_one (ps_ret (pv 2))))), ?_⟩
    refine ⟨_, rfl, a, _, rfl, hS, RT.for_Itv (K := K) (a := a) (xs := (n :: ns).map V.int) (fun i σ H' => H' = H ∧ ∃ (z : Int) (v : Option V), σ = [some (.ref a), some (.int 0), some (.int z), v] ∧ (i = (n :: ns).length → z = n)) ⟨rfl, 0, none, rfl, fun q => by simp at q⟩ (fun i σ H' q => by rw [q.1]; exact hS) ?_ ?_⟩
    · rintro i x σ H' hi hx ⟨rfl, z, v, rfl, hz⟩
      obtain ⟨y, hy, rfl⟩ := get_map hx
      refine ⟨_, rfl, _, rfl, z, 0, rfl, rfl, .inr ⟨by decide, by decide⟩, _, rfl, _, _, rfl, rfl, rfl, z * 0 + y, _, rfl, fun e => ?_⟩
      rw [List.length_map] at hy
      have e0 : (n :: ns).length - 1 - i = 0 := by omega
      rw [e0] at hy
      have e1 : n = y := Option.some.inj hy
      rw [Int.mul_zero, Int.zero_add, e1]
    · rintro σ H' ⟨rfl, z, v, rfl, hz⟩
      rw [List.length_map] at hz
      rw [hz rfl]
      exact ⟨_, rfl, k⟩
/-! ### slope_of, of two numbers and more -/
def slopeV (f : List Int) (i : Nat) : Int := (1 + (i : Int)) * f.getD (i + 1) 0
def slopeM (f : List Int) : List Int := (List.range (f.length - 1)).map (slopeV f)
def spSlopeOf (K : PySem.W.Frag) : Sp := fun vs H Q _ => ∃ (a : Addr) (f : List Int), vs = [.ref a] ∧ SqL K H a (f.map V.int) ∧ 2 ≤ f.length ∧ f.length ≤ 100 ∧ ∀ H' p, Same H H' → H p = none → H' p = some (lI (slopeM f)) → Q (.ref p) H'
theorem scSlopeOf : FnScope ["f", "place"] ["f"] (defScope sSlopeOf) := ⟨rfl, rfl, rfl, by decide +kernel, rfl, by decide +kernel, by decide +kernel⟩
theorem ok_SlopeOf (T : TX K mg) : DefP P w K mg base CX0 1 "slope_of" ["f"] (spSlopeOf K) := by
  obtain ⟨fd, F⟩ := T.fSlopeOf
  refine defP F T.gSlopeOf (fun _ _ _ _ _ _ us hl => match us, hl with | [_], _ => rfl) (F.ok scSlopeOf (fun vs H Q E h => ?_) (fun cdv A outer s H vs Q E hr h => ?_))
  · obtain ⟨a, f, rfl, _⟩ := h
    rfl
  · obtain ⟨a, f, rfl, hS, h2, h100, k⟩ := h
    have nd := scSlopeOf.nd
    refine ⟨_, PSs.nox (pss_cons (ps_if (pt_cmpR op_eq (pe_callB call_len_seq (by rfl) T.nlen PySem.boot_len (pa_cons (pv 0) pa_nil)) pe_int (nomark _)) (pss_one (ps_ret (pe_lst (pa_cons pe_int pa_nil)))) pss_nil)
      (pss_one (ps_ret (pe_lc (own := [("place", 1)]) (g := gName 1) (tt := tYes) rfl nd (pi_range2 (by rfl) T.nrange (pa_cons pe_int (pa_cons (pe_callB call_len_seq (by rfl) T.nlen PySem.boot_len (pa_cons (pv 0) pa_nil)) pa_nil)))
        (blkOk_by (own := [("place", 1)]) (N := ["f", "place"]) (sc := defScope sSlopeOf) (by decide +kernel))
        (fun _ _ _ _ _ => pg_name (i := 1) nd rfl (.inl rfl)) (fun _ _ _ _ _ => pts_nil) (fun _ _ _ _ _ => pe_op op_mul (pv 1) (pe_ix (r := rIxL K) ix_list (pv 0) (pv 1) (fun _ _ => rfl))))))), ?_⟩
    refine ⟨_, rfl, a, _, rfl, .inl hS, rfl, _, rfl, ?_⟩
    rw [List.length_map, decide_eq_false (show ¬ V.int (f.length : Int) = V.int 1 from fun q => by
      have q2 := V.int.inj q
      omega)]
    refine iteF ⟨_, rfl, a, _, rfl, .inl hS, 1, _, rfl, ⟨by decide, by decide, by omega, ?_⟩, fun D hD => ?_⟩
    · rw [List.length_map]
      have : (f.length : Int) ≤ 100 := by omega
      omega
    have en : (((f.map V.int).length : Int) - 1).toNat = f.length - 1 := by
      rw [List.length_map]
      omega
    rw [en]
    refine lc_range (lo := 1) (n := f.length - 1) (fun i H' => Same H H' ∧ H' D = some (lI ((List.range i).map (slopeV f)))) ⟨same_new hD, upd_same⟩ ?_ ?_
    · rintro i H' hi ⟨s0, hD'⟩
      have hx : f[i + 1]? = some (f.getD (i + 1) 0) := by
        rw [List.getD_eq_getElem?_getD, List.getElem?_eq_getElem (by omega)]
        rfl
      refine ⟨rfl, yes ⟨_, rfl, _, rfl, _, rfl, a, _, 1 + (i : Int), .int (f.getD (i + 1) 0), rfl, rfl, s0.seq hS, ?_, 1 + (i : Int), _, rfl, rfl, .inl ⟨by omega, by omega⟩, _, hD', ?_, same_mut s0 hD, ?_⟩⟩
      · have e : (1 + (i : Int)) = ((i + 1 : Nat) : Int) := by omega
        rw [e]
        exact atI_nat (by rw [List.getElem?_map, hx]; rfl)
      · rw [List.length_map, List.length_map, List.length_range]
        exact small1000 (by omega)
      · rw [upd_same, List.range_succ, List.map_append]
        show some (HO.lst (_ ++ [V.int (slopeV f i)])) = some (HO.lst (List.map V.int (_ ++ [slopeV f i])))
        rw [List.map_append]
        rfl
    · rintro H' ⟨s0, hD'⟩
      exact k H' D s0 hD hD'
/-! ### single_depth at 0, where the second number is 0 -/
def spSingleDepth (K : PySem.W.Frag) : Sp := fun vs H Q _ => ∃ (p : Int) (a : Addr) (n : Int) (f : List Int), vs = [.int p, .ref a, .int 0] ∧ SqL K H a ((n :: 0 :: f).map V.int) ∧ f.length ≤ 90 ∧ ∀ H', Same H H' → Q .non H'
theorem scSingleDepth : FnScope ["p", "f", "a", "steep", "d", "height"] ["p", "f", "a"] (defScope sSingleDepth) := ⟨rfl, rfl, rfl, by decide +kernel, rfl, by decide +kernel, by decide +kernel⟩
theorem slopeM_cons (n : Int) (f : List Int) : ∃ r, slopeM (n :: 0 :: f) = 0 :: r := by
  refine ⟨((List.range f.length).map fun i => slopeV (n :: 0 :: f) (i + 1)), ?_⟩
  unfold slopeM
  show (List.range (f.length + 1)).map _ = _
  rw [List.range_succ_eq_map, List.map_cons, List.map_map]
  rfl
theorem ok_SingleDepth (T : TX K mg) : DefP P w K mg base CX0 2 "single_depth" ["p", "f", "a"] (spSingleDepth K) := by
  obtain ⟨fd, F⟩ := T.fSingleDepth
  obtain ⟨fdW, GW, bW, kW, gW⟩ := ok_WorthAt (P := P) (w := w) (base := base) T
  obtain ⟨fdS, GS, bS, kS, gS⟩ := ok_SlopeOf (P := P) (w := w) (base := base) T
  refine defP F T.gSingleDepth (fun _ _ _ _ _ _ us hl => match us, hl with | [_, _, _], _ => rfl) (F.ok scSingleDepth (fun vs H Q E h => ?_) (fun cdv A outer s H vs Q E hr h => ?_))
  · obtain ⟨p, a, n, f, rfl, _⟩ := h
    rfl
  · obtain ⟨p, a, n, f, rfl, hS, hl, k⟩ := h
    have nd := scSingleDepth.nd
    refine ⟨_, PSs.nox (pss_cons (ps_set (i := 3) nd rfl (.inl rfl) (pe_call GW hr (by rfl) gW kW bW .nil pass0 (pa_cons (pe_call GS hr (by rfl) gS kS bS .nil pass0 (pa_cons (pv 1) pa_nil)) (pa_cons (pv 2) pa_nil))))
      (pss_cons (ps_if (pt_cmpR op_eq (pv 3) pe_int (nomark _)) (pss_one (ps_ret pe_non)) pss_nil) pss_nev)), ?_⟩
    refine ⟨_, rfl, a, _, rfl, hS, by simp, (by simp; omega), fun H' q s0 hq hq' => ?_⟩
    obtain ⟨r, er⟩ := slopeM_cons n f
    rw [er] at hq'
    exact ⟨_, rfl, q, 0, r, rfl, SqL.of hq', _, rfl, rfl, _, rfl, iteT (k H' s0)⟩
/-! ### root_of at 0, refused -/
def spRootOf (K : PySem.W.Frag) : Sp := fun vs H Q E => ∃ (p N : Int) (a : Addr) (n : Int) (f : List Int), vs = [.int p, .ref a, .int 0, .int N] ∧ SqL K H a ((n :: 0 :: f).map V.int) ∧ f.length ≤ 90 ∧ ∀ H', Same H H' → E (.ref (He.ga K "NoSingle")) none H'
theorem scRootOf : FnScope ["p", "f", "a", "N", "d", "found", "turned", "e", "lack"] ["p", "f", "a", "N"] (defScope sRootOf) := ⟨rfl, rfl, rfl, by decide +kernel, rfl, by decide +kernel, by decide +kernel⟩
theorem ok_RootOf (T : TX K mg) : DefP P w K mg base (L2.CX P w) 3 "root_of" ["p", "f", "a", "N"] (spRootOf K) := by
  obtain ⟨fd, F⟩ := T.fRootOf
  obtain ⟨fdS, GS, bS, kS, gS⟩ := ok_SingleDepth (P := P) (w := w) (base := base) T
  refine defP F T.gRootOf (fun _ _ _ _ _ _ us hl => match us, hl with | [_, _, _, _], _ => rfl) (F.ok scRootOf (fun vs H Q E h => ?_) (fun cdv A outer s H vs Q E hr h => ?_))
  · obtain ⟨p, N, a, n, f, rfl, _⟩ := h
    rfl
  · obtain ⟨p, N, a, n, f, rfl, hS, hl, k⟩ := h
    have nd := scRootOf.nd
    refine ⟨_, pss_cons (ps_set (i := 4) nd rfl (.inl rfl) (pe_call GS hr (by rfl) gS kS bS .nil pass0 (pa_cons (pv 0) (pa_cons (pv 1) (pa_cons (pv 2) pa_nil)))))
      (pss_cons (ps_if (pt_cmpR op_isN (pv 4) pe_non (nomark _)) (pss_one (ps_rz T.xNoSingle T.gNoSingle rfl)) pss_nil) pss_nev), ?_⟩
    refine ⟨_, rfl, _, rfl, _, rfl, p, a, n, f, rfl, hS, hl, fun H' s0 => ?_⟩
    exact ⟨_, rfl, rfl, _, rfl, iteT (k H' s0)⟩
/-! ### endless_roots of noughts, refused -/
def spEndlessRoots (K : PySem.W.Frag) : Sp := fun vs H Q E => ∃ (p N : Int) (a : Addr), vs = [.int p, .ref a, .int N] ∧ SqL K H a [.int 0, .int 0] ∧ ∀ H', Same H H' → E (.ref (He.ga K "NoDepth")) none H'
theorem scEndlessRoots : FnScope ["p", "f", "N", "found", "waiting", "a", "e", "g", "power", "r", "knot", "root"] ["p", "f", "N"] (defScope sEndlessRoots) := ⟨rfl, rfl, rfl, by decide +kernel, rfl, by decide +kernel, by decide +kernel⟩
theorem ok_EndlessRoots (T : TX K mg) : DefP P w K mg base (L2.CX P w) 1 "endless_roots" ["p", "f", "N"] (spEndlessRoots K) := by
  obtain ⟨fd, F⟩ := T.fEndlessRoots
  refine defP F T.gEndlessRoots (fun _ _ _ _ _ _ us hl => match us, hl with | [_, _, _], _ => rfl) (F.ok scEndlessRoots (fun vs H Q E h => ?_) (fun cdv A outer s H vs Q E hr h => ?_))
  · obtain ⟨p, N, a, rfl, _⟩ := h
    rfl
  · obtain ⟨p, N, a, rfl, hS, k⟩ := h
    have nd := scEndlessRoots.nd
    refine ⟨_, pss_cons (ps_if (pt_cmpR (op_eqD hr.units) (pv 1) (pe_op op_rep (pe_lst (pa_cons pe_int pa_nil)) (pe_callB call_len_seq (by rfl) T.nlen PySem.boot_len (pa_cons (pv 1) pa_nil))) (nomark _)) (pss_one (ps_rz T.xNoDepth T.gNoDepth rfl)) pss_nil) pss_nev, ?_⟩
    refine ⟨_, rfl, (by show 1 ≤ sizeLine; decide), fun q hq => ⟨_, rfl, a, _, rfl, .inl ((same_new hq).seq hS), q, _, [V.int 0], rfl, rfl, upd_same, by decide, by decide, by show 2 ≤ sizeLine; decide, fun r hr2 => ?_⟩⟩
    have s1 : Same H (upd (upd H q (.lst [.int 0])) r (.lst [.int 0, .int 0])) := (same_new hq).trans (same_new hr2)
    refine ⟨.list [.int 0, .int 0], .list [.int 0, .int 0], .lst (s1.seq hS) (.cons (.int 0) (.cons (.int 0) .nil)), .lst (SqL.of upd_same) (.cons (.int 0) (.cons (.int 0) .nil)), by decide +kernel, by decide +kernel, _, rfl, ?_⟩
    have e : PyData.eqv (.list [.int 0, .int 0]) (.list [.int 0, .int 0]) = true := by decide +kernel
    rw [e]
    exact iteT (k _ s1)
end
end Dr

namespace Dr
open PySem PySem.Spec PyProof.Rows L2
/-- xs[i] of a list, 0 ≤ i, by values (for xs[i] += e) -/
def rGetL (K : PySem.W.Frag) : V → V → Hp → VK → Prop := fun o i H Q => ∃ p xs k z, o = .ref p ∧ i = .int k ∧ SqL K H p xs ∧ 0 ≤ k ∧ k < 2 ^ 63 ∧ xs[k.toNat]? = some z ∧ Q z H
theorem pget_list {X : Cx} : PGet X (rGetL X.K) := by
  intro pins s σ H o i ov iv Q I ro ri h
  obtain ⟨p, xs, k, z, rfl, rfl, hq, h0, h1, hz, q⟩ := h
  cases ro
  obtain ⟨t, rfl⟩ := ri
  obtain ⟨its, r, pl, _⟩ := I.list hq
  obtain ⟨u, hu, ru⟩ := r.get hz
  exact wpAny_getItem_list pl.isList h0 h1 (by simpa using hu) ⟨z, H, I, ru, q⟩
/-! ### what seen_from reckons, four numbers, from 1 -/
def T58 : Int := 10 ^ 58
def innerL (g fu : List Int) : Nat → List Int
  | 0 => g
  | i + 1 => (innerL g fu i).set (i + 1) ((innerL g fu i).getD (i + 1) 0 + fu.getD i 0)
theorem innerL_len (g fu : List Int) : ∀ i, (innerL g fu i).length = g.length
  | 0 => rfl
  | i + 1 => by
    show ((innerL g fu i).set (i + 1) _).length = _
    rw [List.length_set]
    exact innerL_len g fu i
def stepE (s n : Int) : List Int → List Int
  | [x0, x1, x2, x3] => [1 * x0 + n, 1 * x1 + s * x0, 1 * x2 + s * x1, 1 * x3 + s * x2]
  | l => l
def foundAt (s c : Int) : Nat → List Int
  | 0 => [0, 0, 0, 0]
  | 1 => stepE s 1 [0, 0, 0, 0]
  | 2 => stepE s T58 (stepE s 1 [0, 0, 0, 0])
  | 3 => stepE s 3 (stepE s T58 (stepE s 1 [0, 0, 0, 0]))
  | _ => stepE s c (stepE s 3 (stepE s T58 (stepE s 1 [0, 0, 0, 0])))
def numAt (c : Int) : Nat → Int
  | 0 => 1
  | 1 => T58
  | 2 => 3
  | _ => c
theorem foundAt_next (s c : Int) : ∀ i, i < 4 → foundAt s c (i + 1) = stepE s (numAt c i) (foundAt s c i)
  | 0, _ => rfl
  | 1, _ => rfl
  | 2, _ => rfl
  | 3, _ => rfl
  | _ + 4, h => absurd h (by omega)
theorem foundAt_four (s c : Int) : ∀ i, i < 4 → ∃ x0 x1 x2 x3, foundAt s c i = [x0, x1, x2, x3]
  | 0, _ => ⟨_, _, _, _, rfl⟩
  | 1, _ => ⟨_, _, _, _, rfl⟩
  | 2, _ => ⟨_, _, _, _, rfl⟩
  | 3, _ => ⟨_, _, _, _, rfl⟩
  | _ + 4, h => absurd h (by omega)
theorem nat_mul_lt {a b : Int} {m n : Nat} (ha : a.natAbs < 2 ^ m) (hb : b.natAbs < 2 ^ n) : (a * b).natAbs < 2 ^ (m + n) := by
  rw [Int.natAbs_mul, Nat.pow_add]
  exact Nat.mul_lt_mul_of_lt_of_le ha (Nat.le_of_lt hb) (Nat.pow_pos (by decide))
theorem nat_add_lt {a b : Int} {m : Nat} (ha : a.natAbs < 2 ^ m) (hb : b.natAbs < 2 ^ m) : (a + b).natAbs < 2 ^ (m + 1) := by
  have h := Int.natAbs_add_le a b
  rw [Nat.pow_succ]
  omega
theorem pow_up {x m n : Nat} (h : x < 2 ^ m) (hm : m ≤ n) : x < 2 ^ n := Nat.lt_of_lt_of_le h (Nat.pow_le_pow_right (by decide) hm)
theorem step_bd {s n x0 x1 x2 x3 : Int} {b : Nat} (hs : s.natAbs < 2 ^ 400) (hn : n.natAbs < 2 ^ (b + 400)) (h : ∀ x ∈ [x0, x1, x2, x3], x.natAbs < 2 ^ b) : ∀ x ∈ stepE s n [x0, x1, x2, x3], x.natAbs < 2 ^ (b + 401) := by
  have m : ∀ {x y : Int}, x.natAbs < 2 ^ b → y.natAbs < 2 ^ b → (1 * x + s * y).natAbs < 2 ^ (b + 401) := fun {x y} hx hy => by
    refine nat_add_lt (m := b + 400) ?_ ?_
    · rw [Int.one_mul]
      exact pow_up hx (by omega)
    · rw [Nat.add_comm]
      exact nat_mul_lt hs hy
  have a0 := h x0 (by simp)
  have a1 := h x1 (by simp)
  have a2 := h x2 (by simp)
  have a3 := h x3 (by simp)
  intro x hx
  have hx' : x = 1 * x0 + n ∨ x = 1 * x1 + s * x0 ∨ x = 1 * x2 + s * x1 ∨ x = 1 * x3 + s * x2 := by simpa [stepE] using hx
  rcases hx' with rfl | rfl | rfl | rfl
  · refine nat_add_lt (m := b + 400) ?_ hn
    rw [Int.one_mul]
    exact pow_up a0 (by omega)
  · exact m a1 a0
  · exact m a2 a1
  · exact m a3 a2
theorem foundAt_bd {s c : Int} (hs : s.natAbs < 2 ^ 400) : ∀ i, i < 4 → ∀ x ∈ foundAt s c i, x.natAbs < 2 ^ 2000 := by
  have b0 : ∀ x ∈ ([0, 0, 0, 0] : List Int), x.natAbs < 2 ^ 1 := by decide
  have b1 := step_bd (n := 1) hs (pow_up (m := 1) (by decide) (by omega)) b0
  have b2 := step_bd (n := T58) hs (pow_up (m := 200) (by decide +kernel) (by omega)) b1
  have b3 := step_bd (n := 3) hs (pow_up (m := 2) (by decide) (by omega)) b2
  intro i hi x hx
  match i, hi with
  | 0, _ => exact pow_up (b0 x hx) (by omega)
  | 1, _ => exact pow_up (b1 x hx) (by omega)
  | 2, _ => exact pow_up (b2 x hx) (by omega)
  | 3, _ => exact pow_up (b3 x hx) (by omega)
def seen4 (s c : Int) : List Int := foundAt s c 4
section
variable {P : Program} {w : World} {K : PySem.W.Frag} {mg : Str → Option Value} {base : Heap}
def spSeenFrom (K : PySem.W.Frag) : Sp := fun vs H Q _ => ∃ (p c : Int) (a : Addr), vs = [.int p, .ref a, .int 1, .int 60] ∧ SqL K H a [.int c, .int 3, .int T58, .int 1] ∧ (0 < p ∧ p ≤ 97) ∧
  ∀ H' q, Same H H' → H q = none → H' q = some (lI (seen4 (p ^ 60) c)) → Q (.ref q) H'
theorem scSeenFrom : FnScope ["p", "f", "a", "e", "step", "found", "number", "further", "k", "worth"] ["p", "f", "a", "e"] (defScope sSeenFrom) := ⟨rfl, rfl, rfl, by decide +kernel, rfl, by decide +kernel, by decide +kernel⟩
def mulV (s : Int) : V → V
  | .int n => .int (s * n)
  | v => v
theorem ok_SeenFrom (T : TX K mg) : DefP P w K mg base CX0 2 "seen_from" ["p", "f", "a", "e"] (spSeenFrom K) := by
  obtain ⟨fd, F⟩ := T.fSeenFrom
  obtain ⟨fdP, GP, bP, kP, gP⟩ := ok_PowerOf (P := P) (w := w) (base := base) T
  refine defP F T.gSeenFrom (fun _ _ _ _ _ _ us hl => match us, hl with | [_, _, _, _], _ => rfl) (F.ok scSeenFrom (fun vs H Q E h => ?_) (fun cdv A outer s H vs Q E hr h => ?_))
  · obtain ⟨p, c, a, rfl, _⟩ := h
    rfl
  · obtain ⟨p, c, a, rfl, hS, ⟨hp, hp2⟩, k⟩ := h
    have nd := scSeenFrom.nd
    refine ⟨_, PSs.nox (pss_cons (ps_set (i := 4) nd rfl (.inr rfl) (pe_call GP hr (by rfl) gP kP bP .nil pass0 (pa_cons (pv 0) (pa_cons (pv 3) pa_nil))))
      (pss_cons (ps_set (i := 5) nd rfl (.inl rfl) (pe_op op_rep (pe_lst (pa_cons pe_int pa_nil)) (pe_callB call_len_seq (by rfl) T.nlen PySem.boot_len (pa_cons (pv 1) pa_nil))))
      (pss_cons (ps_for PassesOwn.never rfl (pi_reversed (by rfl) T.nreversed (pa_cons (pv 1) pa_nil)) (pg_name (i := 6) nd rfl (.inl rfl))
        (pss_cons (ps_setLc (i := 7) (own := [("worth", 9)]) (g := gName 9) (tt := tYes) rfl nd rfl rfl (sw_true rfl rfl rfl (by decide +kernel)) (pi_list (pe_slice sl_list (pv 5) po_none (po_some (pe_un un_neg pe_int))))
            (blkOk_by (own := [("worth", 9)]) (N := ["p", "f", "a", "e", "step", "found", "number", "further", "k", "worth"]) (sc := defScope sSeenFrom) (by decide +kernel))
            (fun _ _ _ _ _ => pg_name (i := 9) nd rfl (.inl rfl)) (fun _ _ _ _ _ => pts_nil) (fun _ _ _ _ _ => pe_op op_mulW (pv 4) (pv 9)))
        (pss_cons (ps_setLc (i := 5) (own := [("worth", 9)]) (g := gName 9) (tt := tYes) rfl nd rfl rfl (sw_true rfl rfl rfl (by decide +kernel)) (pi_list (pv 5))
            (blkOk_by (own := [("worth", 9)]) (N := ["p", "f", "a", "e", "step", "found", "number", "further", "k", "worth"]) (sc := defScope sSeenFrom) (by decide +kernel))
            (fun _ _ _ _ _ => pg_name (i := 9) nd rfl (.inl rfl)) (fun _ _ _ _ _ => pts_nil) (fun _ _ _ _ _ => pe_op op_mul (pv 2) (pv 9)))
        (pss_cons (ps_augS (pv 5) pe_int (pget_list) (pv 6) ip_add set_list)
        (pss_one (ps_for PassesOwn.never rfl (pi_range1 (by rfl) T.nrange (pa_cons (pe_callB call_len_seq (by rfl) T.nlen PySem.boot_len (pa_cons (pv 7) pa_nil)) pa_nil)) (pg_name (i := 8) nd rfl (.inl rfl))
          (pss_one (ps_augS (pv 5) (pe_op op_add (pv 8) pe_int) (pget_list) (pe_ix (r := rIxL K) ix_list (pv 7) (pv 8) (fun _ _ => rfl)) ip_add set_list))))))))
      (pss_one (ps_ret (pv 5)))))), ?_⟩
    generalize hs60 : p ^ (60 : Int).toNat = s6
    have es : p ^ 60 = s6 := hs60
    refine ⟨_, rfl, _, rfl, p, 60, rfl, ⟨by omega, by omega⟩, by decide, by decide, ?_⟩
    rw [hs60]
    refine ⟨by show 1 ≤ sizeLine; decide, fun q0 hq0 => ⟨_, rfl, a, _, rfl, .inl ((same_new hq0).seq hS), q0, _, [.int 0], rfl, rfl, upd_same, by show -(2 ^ 63) ≤ (4 : Int); decide, by show (4 : Int) < 2 ^ 63; decide, by show 4 ≤ sizeLine; decide, fun q1 hq1 => ?_⟩⟩
    have s1 := (same_new (o := .lst [V.int 0]) hq0).trans (same_new (o := .lst (List.replicate (4 : Int).toNat [V.int 0]).flatten) hq1)
    have hq1H : H q1 = none := (same_new hq0).free hq1
    have bs : s6.natAbs < 2 ^ 400 := by
      rw [← es, Int.natAbs_pow]
      have h97 : p.natAbs ≤ 97 := by omega
      exact Nat.lt_of_le_of_lt (Nat.pow_le_pow_left h97 60) (by decide +kernel)
    refine ⟨_, rfl, a, _, rfl, s1.seq hS, RT.for_Itv (K := K) (a := a) (xs := [V.int c, .int 3, .int T58, .int 1]) (fun i σ H' => Same H H' ∧ ∃ (q : Addr) (v6 v7 v8 : Option V), H q = none ∧ H' q = some (lI (foundAt s6 c i)) ∧
      σ = [some (.int p), some (.ref a), some (.int 1), some (.int 60), some (.int s6), some (.ref q), v6, v7, v8, none]) ⟨s1, q1, none, none, none, hq1H, upd_same, rfl⟩ (fun i σ H' q => q.1.seq hS) ?_ ?_⟩
    · rintro i x σ H' hi hx ⟨s0, q, v6, v7, v8, hq, hq', rfl⟩
      have hi : i < 4 := hi
      have hn : x = .int (numAt c i) := by
        match i, hi with
        | 0, _ => exact (Option.some.inj hx).symm
        | 1, _ => exact (Option.some.inj hx).symm
        | 2, _ => exact (Option.some.inj hx).symm
        | 3, _ => exact (Option.some.inj hx).symm
      subst hn
      rw [foundAt_next s6 c i hi]
      have bd := foundAt_bd (c := c) bs i hi
      obtain ⟨x0, x1, x2, x3, ef⟩ := foundAt_four s6 c i hi
      rw [ef] at hq' bd ⊢
      generalize numAt c i = n
      have hcut : cutV ([x0, x1, x2, x3].map V.int) none (some (-1)) = [V.int x0, .int x1, .int x2] := rfl
      refine ⟨_, rfl, 1, rfl, -1, rfl, q, _, rfl, SqL.of hq', fun q2 hq2 => ⟨q2, rfl, ⟨_, SqL.of upd_same⟩, fun D1 hD1 => ?_⟩⟩
      rw [hcut] at hD1 ⊢
      have s2 : Same H' (upd H' q2 (.lst [V.int x0, .int x1, .int x2])) := same_new hq2
      refine lc_pure (mulV s6) (SqL.of upd_same) hD1 (by show 3 < sizeLine; decide) (fun x => rfl) ?_ ?_
      · rintro j y H2 Q' hy s3 kk
        have hy' : ∃ z, y = .int z ∧ z ∈ [x0, x1, x2, x3] := by
          match j, hy with
          | 0, hy => exact ⟨x0, (Option.some.inj hy).symm, by simp⟩
          | 1, hy => exact ⟨x1, (Option.some.inj hy).symm, by simp⟩
          | 2, hy => exact ⟨x2, (Option.some.inj hy).symm, by simp⟩
          | j + 3, hy => simp at hy
        obtain ⟨z, rfl, hz⟩ := hy'
        exact ⟨_, rfl, _, rfl, s6, z, rfl, rfl, wide_mul bs (bd z hz) (by omega) (by omega) (by omega), kk⟩
      rintro H2 s3 hD1'
      have hD1H : H D1 = none := (s0.trans s2).free hD1
      have t2 : Same H H2 := (s0.trans s2).trans s3
      have hq2' : H2 q = some (lI [x0, x1, x2, x3]) := s3 _ _ (s2 _ _ hq')
      refine ⟨_, rfl, q, rfl, ⟨_, SqL.of hq2'⟩, fun D2 hD2 => lc_pure (mulV 1) (SqL.of hq2') hD2 (by show 4 < sizeLine; decide) (fun x => rfl) ?_ ?_⟩
      · rintro j y H3 Q' hy s4 kk
        obtain ⟨z, hz, rfl⟩ := get_map hy
        exact ⟨_, rfl, _, rfl, 1, z, rfl, rfl, .inl ⟨by decide, by decide⟩, kk⟩
      rintro H3 s4 hD2'
      have hD2H : H D2 = none := t2.free hD2
      have t3 : Same H H3 := t2.trans s4
      have n12 : D1 ≠ D2 := ne_of_none hD1' hD2
      have hD13 : H3 D1 = some (lI [s6 * x0, s6 * x1, s6 * x2]) := s4 _ _ hD1'
      have hD23 : H3 D2 = some (lI [1 * x0, 1 * x1, 1 * x2, 1 * x3]) := hD2'
      refine ⟨_, rfl, D2, _, 0, .int (1 * x0), rfl, rfl, SqL.of hD23, by decide, by decide, rfl, _, rfl, 1 * x0, n, rfl, rfl, D2, _, 0, 0, rfl, rfl, hD23, rfl, ?_⟩
      have t4 : Same H (upd H3 D2 (.lst (([1 * x0, 1 * x1, 1 * x2, 1 * x3].map V.int).set 0 (.int (1 * x0 + n))))) := same_mut t3 hD2H
      refine ⟨_, rfl, D1, _, rfl, .inl (SqL.of (by rw [upd_ne n12]; exact hD13)), 3, rfl, by decide, by decide, for_range (lo := 0) (n := 3) (fun k σ H4 => Same H H4 ∧ H4 D1 = some (lI [s6 * x0, s6 * x1, s6 * x2]) ∧
        H4 D2 = some (lI (innerL [1 * x0 + n, 1 * x1, 1 * x2, 1 * x3] [s6 * x0, s6 * x1, s6 * x2] k)) ∧ ∃ v8, σ = [some (.int p), some (.ref a), some (.int 1), some (.int 60), some (.int s6), some (.ref D2), some (.int n), some (.ref D1), v8, none])
        ⟨t4, (by rw [upd_ne n12]; exact hD13), upd_same, v8, rfl⟩ ?_ ?_⟩
      · rintro j σ H4 hj ⟨t5, h1, h2, v8', rfl⟩
        generalize hL : innerL [1 * x0 + n, 1 * x1, 1 * x2, 1 * x3] [s6 * x0, s6 * x1, s6 * x2] j = L at h2
        have lL : L.length = 4 := by
          rw [← hL, innerL_len]
          rfl
        have e1 : L[j + 1]? = some (L.getD (j + 1) 0) := by
          rw [List.getD_eq_getElem?_getD, List.getElem?_eq_getElem (by omega)]
          rfl
        have e2 : ([s6 * x0, s6 * x1, s6 * x2] : List Int)[j]? = some (([s6 * x0, s6 * x1, s6 * x2] : List Int).getD j 0) := by
          match j, hj with
          | 0, _ => rfl
          | 1, _ => rfl
          | 2, _ => rfl
        have ej : (0 : Int) + (j : Int) = (j : Int) := Int.zero_add _
        refine ⟨_, rfl, _, rfl, 0 + (j : Int), 1, rfl, rfl, D2, _, 0 + (j : Int) + 1, .int (L.getD (j + 1) 0), rfl, rfl, SqL.of h2, by omega, by omega, ?_, ?_⟩
        · have : (0 + (j : Int) + 1).toNat = j + 1 := by omega
          rw [this, List.getElem?_map, e1]
          rfl
        · refine ⟨_, rfl, _, rfl, D1, _, 0 + (j : Int), .int (([s6 * x0, s6 * x1, s6 * x2] : List Int).getD j 0), rfl, rfl, SqL.of h1, ?_, _, _, rfl, rfl, D2, _, 0 + (j : Int) + 1, j + 1, rfl, rfl, h2, ?_, ?_⟩
          · rw [ej]
            exact atI_nat (by rw [List.getElem?_map, e2]; rfl)
          · unfold ixN
            rw [List.length_map, lL, if_pos (by omega), if_pos (by omega)]
            have : (0 + (j : Int) + 1).toNat = j + 1 := by omega
            rw [this]
          · refine ⟨same_mut t5 hD2H, (by rw [upd_ne n12]; exact h1), ?_, some (.int (0 + (j : Int))), rfl⟩
            rw [upd_same]
            show some (HO.lst ((L.map V.int).set (j + 1) (V.int _))) = some (lI ((innerL [1 * x0 + n, 1 * x1, 1 * x2, 1 * x3] [s6 * x0, s6 * x1, s6 * x2] j).set (j + 1) _))
            rw [hL]
            show some (HO.lst _) = some (HO.lst (List.map V.int _))
            rw [List.map_set]
      · rintro σ H4 ⟨t5, h1, h2, v8', rfl⟩
        exact ⟨t5, D2, some (.int n), some (.ref D1), v8', hD2H, h2, rfl⟩
    · rintro σ H' ⟨s0, q, v6, v7, v8, hq, hq', rfl⟩
      refine ⟨_, rfl, k H' q s0 hq ?_⟩
      rw [es]
      exact hq'
end
end Dr

namespace Dr
open PySem PySem.Spec PyProof.Rows L2
def tNevT : TT := fun _ _ _ => False
theorem pw_nev {X : Cx} {e : Expr} : PW X e tNevT := ⟨fun _ _ _ _ _ _ _ h => h.elim⟩
section
variable {P : Program} {w : World} {K : PySem.W.Frag} {mg : Str → Option Value} {base : Heap}
/-! ### marks_over, border_of of two noughts -/
def spMarksOver (K : PySem.W.Frag) : Sp := fun vs H Q _ => ∃ (p : Int) (a : Addr), vs = [.int p, .ref a] ∧ SqL K H a [.int 0, .int 0] ∧ ∀ H' q, Same H H' → H q = none → H' q = some (.lst []) → Q (.ref q) H'
theorem scMarksOver : FnScope ["p", "f", "k"] ["p", "f"] (defScope sMarksOver) := ⟨rfl, rfl, rfl, by decide +kernel, rfl, by decide +kernel, by decide +kernel⟩
theorem ok_MarksOver (T : TX K mg) : DefP P w K mg base CX0 1 "marks_over" ["p", "f"] (spMarksOver K) := by
  obtain ⟨fd, F⟩ := T.fMarksOver
  refine defP F T.gMarksOver (fun _ _ _ _ _ _ us hl => match us, hl with | [_, _], _ => rfl) (F.ok scMarksOver (fun vs H Q E h => ?_) (fun cdv A outer s H vs Q E hr h => ?_))
  · obtain ⟨p, a, rfl, _⟩ := h
    rfl
  · obtain ⟨p, a, rfl, hS, k⟩ := h
    have nd := scMarksOver.nd
    refine ⟨_, PSs.nox (pss_one (ps_ret (pe_lc (own := [("k", 2)]) (g := gName 2) rfl nd (pi_range1 (by rfl) T.nrange (pa_cons (pe_callB call_len_seq (by rfl) T.nlen PySem.boot_len (pa_cons (pv 1) pa_nil)) pa_nil))
      (blkOk_by (own := [("k", 2)]) (N := ["p", "f", "k"]) (sc := defScope sMarksOver) (by decide +kernel))
      (fun _ _ _ _ _ => pg_name (i := 2) nd rfl (.inl rfl)) (fun _ _ _ _ _ => pts_one (pt_cmpR op_ne (pe_ix (r := rIxL K) ix_list (pv 1) (pv 2) (fun _ _ => rfl)) pe_int (nomark _))) (fun _ _ _ _ _ => pe_nev)))), ?_⟩
    refine ⟨_, rfl, a, _, rfl, .inl hS, 2, rfl, by decide, by decide, fun D hD => lc_range (lo := 0) (n := 2) (fun i H' => Same H H' ∧ H' D = some (.lst [])) ⟨same_new hD, upd_same⟩ ?_ ?_⟩
    · rintro i H' hi ⟨s0, hD'⟩
      have ei : (0 : Int) + (i : Int) = (i : Int) := Int.zero_add _
      refine ⟨rfl, _, rfl, _, rfl, a, _, 0 + (i : Int), .int 0, rfl, rfl, s0.seq hS, ?_, rfl, _, rfl, iteF ⟨s0, hD'⟩⟩
      rw [ei]
      match i, hi with
      | 0, _ => exact atI_nat (j := 0) rfl
      | 1, _ => exact atI_nat (j := 1) rfl
    · rintro H' ⟨s0, hD'⟩
      exact k H' D s0 hD hD'
theorem dp_nil {K : PySem.W.Frag} {H : Hp} {a : Addr} (h : SqL K H a []) : Dp K H (.ref a) (.list []) := .lst h .nil
def spBorderOf (K : PySem.W.Frag) : Sp := fun vs H Q E => ∃ (p : Int) (a : Addr), vs = [.int p, .ref a] ∧ SqL K H a [.int 0, .int 0] ∧ ∀ H', Same H H' → E (.ref (He.ga K "NoDepth")) none H'
theorem scBorderOf : FnScope ["p", "f", "way", "mark"] ["p", "f"] (defScope sBorderOf) := ⟨rfl, rfl, rfl, by decide +kernel, rfl, by decide +kernel, by decide +kernel⟩
theorem ok_BorderOf (T : TX K mg) : DefP P w K mg base (L2.CX P w) 2 "border_of" ["p", "f"] (spBorderOf K) := by
  obtain ⟨fd, F⟩ := T.fBorderOf
  obtain ⟨fdM, GM, bM, kM, gM⟩ := ok_MarksOver (P := P) (w := w) (base := base) T
  refine defP F T.gBorderOf (fun _ _ _ _ _ _ us hl => match us, hl with | [_, _], _ => rfl) (F.ok scBorderOf (fun vs H Q E h => ?_) (fun cdv A outer s H vs Q E hr h => ?_))
  · obtain ⟨p, a, rfl, _⟩ := h
    rfl
  · obtain ⟨p, a, rfl, hS, k⟩ := h
    have nd := scBorderOf.nd
    refine ⟨_, pss_cons (ps_set (i := 2) nd rfl (.inr rfl) (pe_lst pa_nil))
      (pss_cons (ps_for (passes_of rfl) rfl (pi_list (pe_call GM hr (by rfl) gM kM bM .nil pass0 (pa_cons (pv 0) (pa_cons (pv 1) pa_nil)))) (pg_name (i := 3) nd rfl (.inl rfl)) pss_nev)
      (pss_cons (ps_if (pt_cmpR (op_eqD hr.units) (pv 2) (pe_lst pa_nil) (nomark _)) (pss_one (ps_rz T.xNoDepth T.gNoDepth rfl)) pss_nil) pss_nev)), ?_⟩
    refine ⟨Nat.zero_le _, fun q hq => ⟨_, rfl, _, rfl, p, a, rfl, (same_new hq).seq hS, fun H' m s1 hm hm' => ⟨m, rfl, ⟨_, SqL.of hm'⟩, for_list (K := K) (a := m) (xs := []) (fun _ σ H2 => H2 = H' ∧ ∃ v, σ = [some (.int p), some (.ref a), some (.ref q), v]) ⟨rfl, none, rfl⟩ (fun i σ H2 _ z => by rw [z.1]; exact SqL.of hm') ?_ ?_⟩⟩⟩
    · rintro i x σ H2 hx
      cases hx
    · rintro σ H2 ⟨rfl, v, rfl⟩
      have s0 : Same H H2 := (same_new hq).trans s1
      have hq2 : H2 q = some (.lst []) := s1 _ _ upd_same
      refine ⟨_, rfl, Nat.zero_le _, fun r hr2 => ⟨.list [], .list [], dp_nil (SqL.of (by rw [upd_ne (ne_of_none hq2 hr2)]; exact hq2)), dp_nil (SqL.of upd_same), by decide +kernel, by decide +kernel, _, rfl, ?_⟩⟩
      have e : PyData.eqv (.list []) (.list []) = true := by decide +kernel
      rw [e]
      exact iteT (k _ (s0.trans (same_new hr2)))
/-! ### need_parts, parts_at, refused -/
def noParts (N : Int) (lf lg lh : Nat) : Prop := N < 1 ∨ lg < 2 ∨ lh < 2 ∨ lf + 1 ≠ lg + lh
def spNeedParts (K : PySem.W.Frag) : Sp := fun vs H Q E => ∃ (p N : Int) (a b c : Addr) (f g h : List V), vs = [.int p, .int N, .ref a, .ref b, .ref c] ∧ SqL K H a f ∧ SqL K H b g ∧ SqL K H c h ∧ noParts N f.length g.length h.length ∧ E (.ref (He.ga K "NoParts")) none H
theorem scNeedParts : FnScope ["p", "N", "f", "g", "h"] ["p", "N", "f", "g", "h"] (defScope sNeedParts) := ⟨rfl, rfl, rfl, by decide +kernel, rfl, by decide +kernel, by decide +kernel⟩
theorem ok_NeedParts (T : TX K mg) : DefP P w K mg base (L2.CX P w) 1 "need_parts" ["p", "N", "f", "g", "h"] (spNeedParts K) := by
  obtain ⟨fd, F⟩ := T.fNeedParts
  refine defP F T.gNeedParts (fun _ _ _ _ _ _ us hl => match us, hl with | [_, _, _, _, _], _ => rfl) (F.ok scNeedParts (fun vs H Q E h => ?_) (fun cdv A outer s H vs Q E hr h => ?_))
  · obtain ⟨p, N, a, b, c, f, g, h, rfl, _⟩ := h
    rfl
  · obtain ⟨p, N, a, b, c, f, g, h, rfl, ha, hb, hc, hn, k⟩ := h
    have nd := scNeedParts.nd
    refine ⟨_, pss_cons (ps_if (PW.pt (pw_or (pt_cmpR op_lt (pv 1) pe_int (nomark _)) (pw_or (pt_cmpR op_lt (pe_callB call_len_seq (by rfl) T.nlen PySem.boot_len (pa_cons (pv 3) pa_nil)) pe_int (nomark _))
      (pw_or (pt_cmpR op_lt (pe_callB call_len_seq (by rfl) T.nlen PySem.boot_len (pa_cons (pv 4) pa_nil)) pe_int (nomark _))
      (pw_or1 (pt_cmpR op_ne (pe_callB call_len_seq (by rfl) T.nlen PySem.boot_len (pa_cons (pv 2) pa_nil)) (pe_op op_sub (pe_op op_add (pe_callB call_len_seq (by rfl) T.nlen PySem.boot_len (pa_cons (pv 3) pa_nil)) (pe_callB call_len_seq (by rfl) T.nlen PySem.boot_len (pa_cons (pv 4) pa_nil))) pe_int) (nomark _)))))))
      (pss_one (ps_rz T.xNoParts T.gNoParts rfl)) pss_nil) pss_nev, ?_⟩
    refine ⟨_, rfl, _, _, rfl, rfl, _, rfl, ?_⟩
    by_cases c1 : N < 1
    · rw [decide_eq_true c1]
      exact iteT (iteT k)
    rw [decide_eq_false c1]
    refine iteF ⟨_, rfl, b, _, rfl, .inl hb, _, _, rfl, rfl, _, rfl, ?_⟩
    by_cases c2 : (g.length : Int) < 2
    · rw [decide_eq_true c2]
      exact iteT (iteT k)
    rw [decide_eq_false c2]
    refine iteF ⟨_, rfl, c, _, rfl, .inl hc, _, _, rfl, rfl, _, rfl, ?_⟩
    by_cases c3 : (h.length : Int) < 2
    · rw [decide_eq_true c3]
      exact iteT (iteT k)
    rw [decide_eq_false c3]
    refine iteF ⟨_, rfl, a, _, rfl, .inl ha, _, rfl, b, _, rfl, .inl hb, _, rfl, c, _, rfl, .inl hc, _, _, rfl, rfl, _, _, rfl, rfl, rfl, _, rfl, ?_⟩
    rw [decide_eq_false (show ¬ V.int (f.length : Int) = V.int ((g.length : Int) + (h.length : Int) - 1) from fun q => by
      have q2 := V.int.inj q
      rcases hn with z | z | z | z <;> omega)]
    exact iteT k
def spPartsAt (K : PySem.W.Frag) : Sp := spNeedParts K
theorem scPartsAt : FnScope ["p", "N", "f", "g", "h", "turned", "one", "other", "k", "power", "lack", "u", "w"] ["p", "N", "f", "g", "h"] (defScope sPartsAt) := ⟨rfl, rfl, rfl, by decide +kernel, rfl, by decide +kernel, by decide +kernel⟩
theorem ok_PartsAt (T : TX K mg) : DefP P w K mg base (L2.CX P w) 2 "parts_at" ["p", "N", "f", "g", "h"] (spPartsAt K) := by
  obtain ⟨fd, F⟩ := T.fPartsAt
  obtain ⟨fdM, GM, bM, kM, gM⟩ := ok_NeedParts (P := P) (w := w) (base := base) T
  refine defP F T.gPartsAt (fun _ _ _ _ _ _ us hl => match us, hl with | [_, _, _, _, _], _ => rfl) (F.ok scPartsAt (fun vs H Q E h => ?_) (fun cdv A outer s H vs Q E hr h => ?_))
  · obtain ⟨p, N, a, b, c, f, g, h, rfl, _⟩ := h
    rfl
  · obtain ⟨p, N, a, b, c, f, g, h, rfl, ha, hb, hc, hn, k⟩ := h
    have nd := scPartsAt.nd
    refine ⟨_, pss_cons (ps_expr (pe_call GM hr (by rfl) gM kM bM .nil (passes_call (E := E) (W := fun cls d _ H => E cls d H) (takes_of rfl rfl rfl rfl) fun _ _ _ _ q => q) (pa_cons (pv 0) (pa_cons (pv 1) (pa_cons (pv 2) (pa_cons (pv 3) (pa_cons (pv 4) pa_nil)))))) ) pss_nev, ?_⟩
    exact ⟨_, rfl, _, rfl, _, rfl, _, rfl, _, rfl, p, N, a, b, c, f, g, h, rfl, ha, hb, hc, hn, k⟩
/-! ### solving_balls at the depth 0 -/
def spSolvingBalls (K : PySem.W.Frag) : Sp := fun vs H Q _ => ∃ (p : Int) (v : V), vs = [.int p, v, .int 0] ∧ ∀ H' t q, Same H H' → H q = none → H' t = some (.tup [.int 0, .int 0]) → H' q = some (.lst [.ref t]) → Q (.ref q) H'
theorem scSolvingBalls : FnScope ["p", "f", "N", "found", "e"] ["p", "f", "N"] (defScope sSolvingBalls) := ⟨rfl, rfl, rfl, by decide +kernel, rfl, by decide +kernel, by decide +kernel⟩
theorem ok_SolvingBalls (T : TX K mg) : DefP P w K mg base CX0 1 "solving_balls" ["p", "f", "N"] (spSolvingBalls K) := by
  obtain ⟨fd, F⟩ := T.fSolvingBalls
  refine defP F T.gSolvingBalls (fun _ _ _ _ _ _ us hl => match us, hl with | [_, _, _], _ => rfl) (F.ok scSolvingBalls (fun vs H Q E h => ?_) (fun cdv A outer s H vs Q E hr h => ?_))
  · obtain ⟨p, v, rfl, _⟩ := h
    rfl
  · obtain ⟨p, v, rfl, k⟩ := h
    refine ⟨_, PSs.nox (pss_cons (ps_if (PW.pt (pw_or (pt_cmpR op_eq (pv 2) pe_int (nomark _)) pw_nev)) (pss_one (ps_ret (pe_lst (pa_cons (pe_tup (pa_cons pe_int (pa_cons pe_int pa_nil))) pa_nil)))) pss_nil) pss_nev), ?_⟩
    refine ⟨_, rfl, rfl, _, rfl, iteT (iteT ⟨(by show 2 ≤ sizeLine; decide), fun t ht => ⟨(by show 1 ≤ sizeLine; decide), fun q hq => ?_⟩⟩)⟩
    have s1 : Same H (upd H t (.tup [.int 0, .int 0])) := same_new ht
    refine k _ t q (s1.trans (same_new hq)) (s1.free hq) ?_ upd_same
    rw [upd_ne (ne_of_none upd_same hq)]
    exact upd_same
/-! ### words_or_none of one word -/
def spWordsOrNone (K : PySem.W.Frag) : Sp := fun vs H Q _ => ∃ a : Addr, vs = [.ref a] ∧ H a = some (lS ["0@0"]) ∧ ∀ H', Same H H' → Q (.str "0@0") H'
theorem scWordsOrNone : FnScope ["words"] ["words"] (defScope sWordsOrNone) := ⟨rfl, rfl, rfl, by decide +kernel, rfl, by decide +kernel, by decide +kernel⟩
theorem ok_WordsOrNone (T : TX K mg) : DefP P w K mg base CX0 1 "words_or_none" ["words"] (spWordsOrNone K) := by
  obtain ⟨fd, F⟩ := T.fWordsOrNone
  refine defP F T.gWordsOrNone (fun _ _ _ _ _ _ us hl => match us, hl with | [_], _ => rfl) (F.ok scWordsOrNone (fun vs H Q E h => ?_) (fun cdv A outer s H vs Q E hr h => ?_))
  · obtain ⟨a, rfl, _⟩ := h
    rfl
  · obtain ⟨a, rfl, ha, k⟩ := h
    refine ⟨_, PSs.nox (pss_cons (ps_if (pt_cmpR (op_eqD hr.units) (pv 0) (pe_lst pa_nil) (nomark _)) (pss_one (ps_ret pe_str)) pss_nil) (pss_one (ps_ret (pe_join pe_str (pv 0))))), ?_⟩
    refine ⟨_, rfl, Nat.zero_le _, fun r hr2 => ⟨.list [.str "0@0"], .list [], .lst ((same_new hr2).seq (SqL.of ha)) (.cons (.str _) .nil), dp_nil (SqL.of upd_same), by decide +kernel, by decide +kernel, _, rfl, ?_⟩⟩
    have e : PyData.eqv (.list [.str "0@0"]) (.list []) = false := by decide +kernel
    rw [e]
    exact iteF ⟨⟨_, rfl⟩, _, rfl, _, a, ["0@0"], rfl, rfl, .inl (SqL.of (same_new hr2 _ _ ha)), by decide +kernel, k _ (same_new hr2)⟩
/-! ### what an asking row answers -/
inductive Out where
  | txt (z : Str)
  | bad (x : Str)
def OutEnds (K : PySem.W.Frag) (Q : VK) (E : XK) (H : Hp) : Out → Prop
  | .txt z => Q (.str z) H
  | .bad x => E (.ref (He.ga K x)) none H
inductive RootR (K : PySem.W.Frag) (H : Hp) : Str → List V → Out → Prop
  | solve (a : Addr) : RootR K H "solve" [.ref a, .int 0] (.txt "0@0")
  | root (a : Addr) (n N : Int) (f : List Int) : SqL K H a ((n :: 0 :: f).map V.int) → f.length ≤ 90 → RootR K H "root" [.ref a, .int 0, .int N] (.bad "NoSingle")
  | roots (a : Addr) (N : Int) : SqL K H a [.int 0, .int 0] → RootR K H "roots" [.ref a, .int N] (.bad "NoDepth")
def spRootsAnswered (K : PySem.W.Frag) : Sp := fun vs H Q E => ∃ (p : Int) (first : Str) (b : Addr) (ps : List V) (o : Out), vs = [.int p, .str first, .ref b] ∧ SqL K H b ps ∧ RootR K H first ps o ∧ ∀ H', Same H H' → OutEnds K Q E H' o
theorem scRootsAnswered : FnScope ["p", "first", "parts", "f", "depth", "a", "e", "root"] ["p", "first", "parts"] (defScope sRootsAnswered) := ⟨rfl, rfl, rfl, by decide +kernel, rfl, by decide +kernel, by decide +kernel⟩
theorem ok_RootsAnswered (T : TX K mg) : DefP P w K mg base (L2.CX P w) 4 "roots_answered" ["p", "first", "parts"] (spRootsAnswered K) := by
  obtain ⟨fd, F⟩ := T.fRootsAnswered
  obtain ⟨fdB, GB, bB, kB, gB⟩ := ok_SolvingBalls (P := P) (w := w) (base := base) T
  obtain ⟨fdW, GW, bW, kW, gW⟩ := ok_WordsOrNone (P := P) (w := w) (base := base) T
  obtain ⟨fdR, GR, bR, kR, gR⟩ := ok_RootOf (P := P) (w := w) (base := base) T
  obtain ⟨fdE, GE, bE, kE, gE⟩ := ok_EndlessRoots (P := P) (w := w) (base := base) T
  refine defP F T.gRootsAnswered (fun _ _ _ _ _ _ us hl => match us, hl with | [_, _, _], _ => rfl) (F.ok scRootsAnswered (fun vs H Q E h => ?_) (fun cdv A outer s H vs Q E hr h => ?_))
  · obtain ⟨p, first, b, ps, o, rfl, _⟩ := h
    rfl
  · obtain ⟨p, first, b, ps, o, rfl, hb, ho, k⟩ := h
    have nd := scRootsAnswered.nd
    have hr1 : Room 1 _ := hr.mono (by decide)
    have pE : Passes (L2.CX P w) (cxOf (L2.CX P w) P w K mg base ["p", "first", "parts", "f", "depth", "a", "e", "root"] "roots_answered" (defScope sRootsAnswered) (He.ga K "roots_answered") cdv A outer s H E) E :=
      passes_call (E := E) (W := fun cls d _ H => E cls d H) (takes_of rfl rfl rfl rfl) fun _ _ _ _ q => q
    refine ⟨_, pss_cons (ps_set (i := 3) nd rfl (.inl rfl) (pe_ix (r := rIxL K) ix_list (pv 2) pe_int (fun _ _ => rfl)))
      (pss_cons (ps_if (pt_cmpR op_eq (pv 1) pe_str (nomark _)) (pss_one (ps_ret (pe_call GW hr1 (by rfl) gW kW bW .nil pass0 (pa_cons
          (pe_lc (own := [("a", 5), ("e", 6)]) (g := gTup K 2 (gCons (gName 5) (gCons (gName 6) gNil))) (tt := tYes) rfl nd (pi_list (pe_call GB hr1 (by rfl) gB kB bB .nil pass0 (pa_cons (pv 0) (pa_cons (pv 3) (pa_cons (pe_ix (r := rIxL K) ix_list (pv 2) pe_int (fun _ _ => rfl)) pa_nil)))))
            (blkOk_by (own := [("a", 5), ("e", 6)]) (N := ["p", "first", "parts", "f", "depth", "a", "e", "root"]) (sc := defScope sRootsAnswered) (by decide +kernel))
            (fun _ _ _ _ _ => pg_tup rfl (pgs_cons (pg_name (i := 5) nd rfl (.inl rfl)) (pgs_cons (pg_name (i := 6) nd rfl (.inl rfl)) pgs_nil))) (fun _ _ _ _ _ => pts_nil)
            (fun _ _ _ _ _ => pe_op op_add_str (pe_op op_add_str (pe_callTy call_str_int (by rfl) T.nstr PyProof.Rows.boot_str (pa_cons (pv 5) pa_nil)) pe_str) (pe_callTy call_str_int (by rfl) T.nstr PyProof.Rows.boot_str (pa_cons (pv 6) pa_nil)))) pa_nil)))) pss_nil)
      (pss_cons (ps_if (pt_cmpR op_eq (pv 1) pe_str (nomark _)) pss_nev pss_nil)
      (pss_cons (ps_if (pt_cmpR op_eq (pv 1) pe_str (nomark _)) pss_nev pss_nil)
      (pss_cons (ps_if (pt_cmpR op_eq (pv 1) pe_str (nomark _)) (pss_one (ps_ret (pe_callTy call_str_int (by rfl) T.nstr PyProof.Rows.boot_str (pa_cons (pe_call GR hr (by rfl) gR kR bR .nil pE (pa_cons (pv 0) (pa_cons (pv 3) (pa_cons (pe_ix (r := rIxL K) ix_list (pv 2) pe_int (fun _ _ => rfl)) (pa_cons (pe_ix (r := rIxL K) ix_list (pv 2) pe_int (fun _ _ => rfl)) pa_nil))))) pa_nil)))) pss_nil)
      (pss_one (ps_ret (pe_call GW hr1 (by rfl) gW kW bW .nil pass0 (pa_cons
          (pe_lc (own := [("root", 7)]) (tt := tYes) rfl nd (pi_list (pe_call GE hr1 (by rfl) gE kE bE .nil pE (pa_cons (pv 0) (pa_cons (pv 3) (pa_cons (pe_ix (r := rIxL K) ix_list (pv 2) pe_int (fun _ _ => rfl)) pa_nil)))))
            (blkOk_by (own := [("root", 7)]) (N := ["p", "first", "parts", "f", "depth", "a", "e", "root"]) (sc := defScope sRootsAnswered) (by decide +kernel))
            (fun _ _ _ _ _ => pg_name (i := 7) nd rfl (.inl rfl)) (fun _ _ _ _ _ => pts_nil) (fun _ _ _ _ _ => pe_nev)) pa_nil)))))))), ?_⟩
    cases ho with
    | solve a =>
      refine ⟨_, rfl, b, _, 0, .ref a, rfl, rfl, hb, rfl, _, rfl, rfl, _, rfl, iteT ?_⟩
      refine ⟨_, rfl, _, rfl, _, rfl, b, _, 1, .int 0, rfl, rfl, hb, rfl, p, .ref a, rfl, fun H' t q s0 hq ht hq' => ⟨q, rfl, ⟨_, SqL.of hq'⟩, fun D hD => lc_list (K := K) (a := q) (xs := [.ref t]) (fun i H2 => Same H' H2 ∧ H2 D = some (.lst (if i = 0 then [] else [.str "0@0"])))
        ⟨same_new hD, upd_same⟩ (fun i H2 _ z => SqL.of (z.1 _ _ hq')) ?_ ?_⟩⟩
      · rintro i x H2 hx ⟨s1, hD'⟩
        match i, hx with
        | 0, hx =>
          cases hx
          have ht2 := s1 _ _ ht
          refine ⟨t, _, rfl, SqT.of ht2, rfl, _, _, rfl, _, _, rfl, rfl, rfl, yes ?_⟩
          refine ⟨_, rfl, 0, rfl, by decide +kernel, numT 0, "@", rfl, rfl, by decide +kernel, _, rfl, 0, rfl, by decide +kernel, numT 0 ++ "@", numT 0, rfl, rfl, by decide +kernel, _, hD', by decide +kernel, same_mut s1 hD, ?_⟩
          have e : numT 0 ++ "@" ++ numT 0 = "0@0" := by decide +kernel
          rw [e]
          exact upd_same
        | i + 1, hx => simp at hx
      · rintro H2 ⟨s1, hD'⟩
        exact ⟨D, rfl, hD', fun H3 s3 => k H3 ((s0.trans s1).trans s3)⟩
    | root a n N f hS hl =>
      refine ⟨_, rfl, b, _, 0, .ref a, rfl, rfl, hb, rfl, ?_⟩
      refine ⟨_, rfl, rfl, _, rfl, itY (fun q => absurd q (by decide +kernel)) fun _ => ⟨_, rfl, rfl, _, rfl, itY (fun q => absurd q (by decide +kernel)) fun _ => ⟨_, rfl, rfl, _, rfl, itY (fun q => absurd q (by decide +kernel)) fun _ => ⟨_, rfl, rfl, _, rfl, itY (fun _ => ?_) fun q => absurd rfl q⟩⟩⟩⟩
      exact ⟨_, rfl, _, rfl, _, rfl, b, _, 1, .int 0, rfl, rfl, hb, rfl, _, rfl, b, _, 2, .int N, rfl, rfl, hb, rfl, p, N, a, n, f, rfl, hS, hl, k⟩
    | roots a N hS =>
      refine ⟨_, rfl, b, _, 0, .ref a, rfl, rfl, hb, rfl, ?_⟩
      refine ⟨_, rfl, rfl, _, rfl, itY (fun q => absurd q (by decide +kernel)) fun _ => ⟨_, rfl, rfl, _, rfl, itY (fun q => absurd q (by decide +kernel)) fun _ => ⟨_, rfl, rfl, _, rfl, itY (fun q => absurd q (by decide +kernel)) fun _ => ⟨_, rfl, rfl, _, rfl, itY (fun q => absurd q (by decide +kernel)) fun _ => ?_⟩⟩⟩⟩
      exact ⟨_, rfl, _, rfl, _, rfl, b, _, 1, .int N, rfl, rfl, hb, rfl, p, N, a, rfl, hS, k⟩
end
end Dr

namespace Dr
open PySem PySem.Spec PyProof.Rows L2
section
variable {P : Program} {w : World} {K : PySem.W.Frag} {mg : Str → Option Value} {base : Heap}
inductive AnsR (K : PySem.W.Frag) (H : Hp) (p : Int) : Str → List V → Out → Prop
  | show (a : Addr) (ns : List Int) : SqL K H a (ns.map V.int) → smallPoly ns → AnsR K H p "show" [.ref a] (.txt (showM ns))
  | border (a : Addr) : SqL K H a [.int 0, .int 0] → AnsR K H p "border" [.ref a] (.bad "NoDepth")
  | small (x e m : Int) : (0 ≤ e ∧ e < 2 ^ 62) → m < 2 ^ 64 → (m < 1 ∨ p ^ e.toNat ≤ 2 * m * m) → AnsR K H p "small" [.int x, .int e, .int m] (.bad "NoSmall")
  | parts (a b c : Addr) (N : Int) (f g h : List V) : SqL K H a f → SqL K H b g → SqL K H c h → noParts N f.length g.length h.length → AnsR K H p "parts" [.ref a, .ref b, .ref c, .int N] (.bad "NoParts")
  | roots (first : Str) (ps : List V) (o : Out) : RootR K H first ps o → AnsR K H p first ps o
def spAnswered (K : PySem.W.Frag) : Sp := fun vs H Q E => ∃ (p : Int) (first : Str) (b : Addr) (ps : List V) (o : Out), vs = [.int p, .str first, .ref b] ∧ (0 < p ∧ p < 2 ^ 64) ∧ SqL K H b ps ∧ AnsR K H p first ps o ∧ ∀ H', Same H H' → OutEnds K Q E H' o
theorem scAnswered : FnScope ["p", "first", "parts", "found", "one", "other", "run", "rise"] ["p", "first", "parts"] (defScope sAnswered) := ⟨rfl, rfl, rfl, by decide +kernel, rfl, by decide +kernel, by decide +kernel⟩
theorem root_first {K : PySem.W.Frag} {H : Hp} {first : Str} {ps : List V} {o : Out} (h : RootR K H first ps o) : first ≠ "show" ∧ first ≠ "border" ∧ first ≠ "small" ∧ first ≠ "parts" := by
  cases h <;> exact ⟨by decide +kernel, by decide +kernel, by decide +kernel, by decide +kernel⟩
theorem ok_Answered (T : TX K mg) : DefP P w K mg base (L2.CX P w) 5 "answered" ["p", "first", "parts"] (spAnswered K) := by
  obtain ⟨fd, F⟩ := T.fAnswered
  obtain ⟨fdS, GS, bS, kS, gS⟩ := ok_ShowPoly (P := P) (w := w) (base := base) T
  obtain ⟨fdW, GW, bW, kW, gW⟩ := ok_WordsOrNone (P := P) (w := w) (base := base) T
  obtain ⟨fdB, GB, bB, kB, gB⟩ := ok_BorderOf (P := P) (w := w) (base := base) T
  obtain ⟨fdF, GF, bF, kF, gF⟩ := ok_SmallFraction (P := P) (w := w) (base := base) T
  obtain ⟨fdL, GL, bL, kL, gL⟩ := ok_BallOf (P := P) (w := w) (base := base) T
  obtain ⟨fdA, GA, bA, kA, gA⟩ := ok_PartsAt (P := P) (w := w) (base := base) T
  obtain ⟨fdR, GR, bR, kR, gR⟩ := ok_RootsAnswered (P := P) (w := w) (base := base) T
  refine defP F T.gAnswered (fun _ _ _ _ _ _ us hl => match us, hl with | [_, _, _], _ => rfl) (F.ok scAnswered (fun vs H Q E h => ?_) (fun cdv A outer s H vs Q E hr h => ?_))
  · obtain ⟨p, first, b, ps, o, rfl, _⟩ := h
    rfl
  · obtain ⟨p, first, b, ps, o, rfl, ⟨hp, hp2⟩, hb, ho, k⟩ := h
    have nd := scAnswered.nd
    have hr1 : Room 1 _ := hr.mono (by decide)
    have hr2 : Room 2 _ := hr.mono (by decide)
    have pE : Passes (L2.CX P w) (cxOf (L2.CX P w) P w K mg base ["p", "first", "parts", "found", "one", "other", "run", "rise"] "answered" (defScope sAnswered) (He.ga K "answered") cdv A outer s H E) E :=
      passes_call (E := E) (W := fun cls d _ H => E cls d H) (takes_of rfl rfl rfl rfl) fun _ _ _ _ q => q
    refine ⟨_, pss_cons (ps_if (pt_cmpR op_eq (pv 1) pe_str (nomark _)) (pss_one (ps_ret (pe_call GS hr1 (by rfl) gS kS bS .nil pass0 (pa_cons (pe_ix (r := rIxL K) ix_list (pv 2) pe_int (fun _ _ => rfl)) pa_nil)))) pss_nil)
      (pss_cons (ps_if (pt_cmpR op_eq (pv 1) pe_str (nomark _)) (pss_one (ps_ret (pe_call GW hr1 (by rfl) gW kW bW .nil pass0 (pa_cons
          (pe_lc (own := [("run", 6), ("rise", 7)]) (g := gTup K 2 (gCons (gName 6) (gCons (gName 7) gNil))) (tt := tYes) rfl nd (pi_list (pe_call GB hr2 (by rfl) gB kB bB .nil pE (pa_cons (pv 0) (pa_cons (pe_ix (r := rIxL K) ix_list (pv 2) pe_int (fun _ _ => rfl)) pa_nil))))
            (blkOk_by (own := [("run", 6), ("rise", 7)]) (N := ["p", "first", "parts", "found", "one", "other", "run", "rise"]) (sc := defScope sAnswered) (by decide +kernel))
            (fun _ _ _ _ _ => pg_tup rfl (pgs_cons (pg_name (i := 6) nd rfl (.inl rfl)) (pgs_cons (pg_name (i := 7) nd rfl (.inl rfl)) pgs_nil))) (fun _ _ _ _ _ => pts_nil) (fun _ _ _ _ _ => pe_nev)) pa_nil)))) pss_nil)
      (pss_cons (ps_if (pt_cmpR op_eq (pv 1) pe_str (nomark _)) (pss_cons (ps_set (i := 3) nd rfl (.inl rfl) (pe_call GF hr2 (by rfl) gF kF bF .nil pE (pa_cons (pv 0) (pa_cons
          (pe_call GL hr2 (by rfl) gL kL bL .nil pass0 (pa_cons (pv 0) (pa_cons (pe_ix (r := rIxL K) ix_list (pv 2) pe_int (fun _ _ => rfl)) (pa_cons (pe_ix (r := rIxL K) ix_list (pv 2) pe_int (fun _ _ => rfl)) pa_nil))))
          (pa_cons (pe_ix (r := rIxL K) ix_list (pv 2) pe_int (fun _ _ => rfl)) pa_nil))))) pss_nev) pss_nil)
      (pss_cons (ps_if (pt_cmpR op_eq (pv 1) pe_str (nomark _)) (pss_cons (ps_asg (pe_call GA hr2 (by rfl) gA kA bA .nil pE (pa_cons (pv 0) (pa_cons (pe_ix (r := rIxL K) ix_list (pv 2) pe_int (fun _ _ => rfl)) (pa_cons (pe_ix (r := rIxL K) ix_list (pv 2) pe_int (fun _ _ => rfl))
          (pa_cons (pe_ix (r := rIxL K) ix_list (pv 2) pe_int (fun _ _ => rfl)) (pa_cons (pe_ix (r := rIxL K) ix_list (pv 2) pe_int (fun _ _ => rfl)) pa_nil))))))
          (pg_tup rfl (pgs_cons (pg_name (i := 4) nd rfl (.inl rfl)) (pgs_cons (pg_name (i := 5) nd rfl (.inl rfl)) pgs_nil)))) pss_nev) pss_nil)
      (pss_one (ps_ret (pe_call GR hr (by rfl) gR kR bR .nil pE (pa_cons (pv 0) (pa_cons (pv 1) (pa_cons (pv 2) pa_nil))))))))), ?_⟩
    cases ho with
    | «show» a ns hS hs =>
      refine ⟨_, rfl, rfl, _, rfl, itY (fun _ => ?_) fun q => absurd rfl q⟩
      exact ⟨_, rfl, b, _, 0, .ref a, rfl, rfl, hb, rfl, a, ns, rfl, hS, hs, k⟩
    | border a hS =>
      refine ⟨_, rfl, rfl, _, rfl, itY (fun q => absurd q (by decide +kernel)) fun _ => ⟨_, rfl, rfl, _, rfl, itY (fun _ => ?_) fun q => absurd rfl q⟩⟩
      exact ⟨_, rfl, _, rfl, b, _, 0, .ref a, rfl, rfl, hb, rfl, p, a, rfl, hS, k⟩
    | small x e m he hm hn =>
      refine ⟨_, rfl, rfl, _, rfl, itY (fun q => absurd q (by decide +kernel)) fun _ => ⟨_, rfl, rfl, _, rfl, itY (fun q => absurd q (by decide +kernel)) fun _ => ⟨_, rfl, rfl, _, rfl, itY (fun _ => ?_) fun q => absurd rfl q⟩⟩⟩
      refine ⟨_, rfl, _, rfl, _, rfl, b, _, 0, .int x, rfl, rfl, hb, rfl, _, rfl, b, _, 1, .int e, rfl, rfl, hb, rfl, p, x, e, rfl, ⟨hp, hp2⟩, he.1, he.2, fun t ht => ?_⟩
      exact ⟨_, rfl, b, _, 2, .int m, rfl, rfl, (same_new ht).seq hb, rfl, p, _, e, m, t, rfl, upd_same, ⟨hp, hp2⟩, he, hm, hn, k _ (same_new ht)⟩
    | parts a1 b1 c1 N f g h ha1 hb1 hc1 hn =>
      refine ⟨_, rfl, rfl, _, rfl, itY (fun q => absurd q (by decide +kernel)) fun _ => ⟨_, rfl, rfl, _, rfl, itY (fun q => absurd q (by decide +kernel)) fun _ => ⟨_, rfl, rfl, _, rfl, itY (fun q => absurd q (by decide +kernel)) fun _ => ⟨_, rfl, rfl, _, rfl, itY (fun _ => ?_) fun q => absurd rfl q⟩⟩⟩⟩
      exact ⟨_, rfl, _, rfl, b, _, 3, .int N, rfl, rfl, hb, rfl, _, rfl, b, _, 0, .ref a1, rfl, rfl, hb, rfl, _, rfl, b, _, 1, .ref b1, rfl, rfl, hb, rfl, _, rfl, b, _, 2, .ref c1, rfl, rfl, hb, rfl,
        p, N, a1, b1, c1, f, g, h, rfl, ha1, hb1, hc1, hn, k H (Same.refl H)⟩
    | roots _ _ _ hR =>
      obtain ⟨n1, n2, n3, n4⟩ := root_first hR
      refine ⟨_, rfl, rfl, _, rfl, itY (fun q => absurd q n1) fun _ => ⟨_, rfl, rfl, _, rfl, itY (fun q => absurd q n2) fun _ => ⟨_, rfl, rfl, _, rfl, itY (fun q => absurd q n3) fun _ => ⟨_, rfl, rfl, _, rfl, itY (fun q => absurd q n4) fun _ => ?_⟩⟩⟩⟩
      exact ⟨_, rfl, _, rfl, _, rfl, p, first, b, ps, o, rfl, hb, hR, k⟩
/-! ### made_poly -/
inductive MadeR (K : PySem.W.Frag) (H : Hp) : Str → List V → Prop
  | times (a b : Addr) (f g : List V) : SqL K H a f → SqL K H b g → 14 < f.length + g.length → MadeR K H "times" [.ref a, .ref b]
def spMadePoly (K : PySem.W.Frag) : Sp := fun vs H Q E => ∃ (p : Int) (first : Str) (b : Addr) (ps : List V), vs = [.int p, .str first, .ref b] ∧ SqL K H b ps ∧
  ((∃ a, first = "poly" ∧ ps = [.ref a] ∧ Q (.ref a) H) ∨
   (∃ (a b : Addr) (f g : List V), first = "times" ∧ ps = [.ref a, .ref b] ∧ SqL K H a f ∧ SqL K H b g ∧ 14 < f.length + g.length ∧ E (.ref (He.ga K "TooGreat")) none H) ∨
   (∃ (a : Addr) (c : Int), first = "seen" ∧ ps = [.ref a, .int 1, .int 60] ∧ SqL K H a [.int c, .int 3, .int T58, .int 1] ∧ (0 < p ∧ p ≤ 97) ∧ ∀ H' q, Same H H' → H q = none → H' q = some (lI (seen4 (p ^ 60) c)) → Q (.ref q) H'))
theorem scMadePoly : FnScope ["p", "first", "parts"] ["p", "first", "parts"] (defScope sMadePoly) := ⟨rfl, rfl, rfl, by decide +kernel, rfl, by decide +kernel, by decide +kernel⟩
theorem ok_MadePoly (T : TX K mg) : DefP P w K mg base (L2.CX P w) 3 "made_poly" ["p", "first", "parts"] (spMadePoly K) := by
  obtain ⟨fd, F⟩ := T.fMadePoly
  obtain ⟨fdS, GS, bS, kS, gS⟩ := ok_SeenFrom (P := P) (w := w) (base := base) T
  refine defP F T.gMadePoly (fun _ _ _ _ _ _ us hl => match us, hl with | [_, _, _], _ => rfl) (F.ok scMadePoly (fun vs H Q E h => ?_) (fun cdv A outer s H vs Q E hr h => ?_))
  · obtain ⟨p, first, b, ps, rfl, _⟩ := h
    rfl
  · obtain ⟨p, first, b, ps, rfl, hb, h⟩ := h
    have nd := scMadePoly.nd
    refine ⟨_, pss_cons (ps_if (pt_cmpR op_eq (pv 1) pe_str (nomark _)) (pss_one (ps_ret (pe_ix (r := rIxL K) ix_list (pv 2) pe_int (fun _ _ => rfl)))) pss_nil)
      (pss_cons (ps_if (pt_cmpR op_eq (pv 1) pe_str (nomark _)) (pss_cons (ps_if (pt_cmpR op_gt (pe_op op_add (pe_callB call_len_seq (by rfl) T.nlen PySem.boot_len (pa_cons (pe_ix (r := rIxL K) ix_list (pv 2) pe_int (fun _ _ => rfl)) pa_nil))
          (pe_callB call_len_seq (by rfl) T.nlen PySem.boot_len (pa_cons (pe_ix (r := rIxL K) ix_list (pv 2) pe_int (fun _ _ => rfl)) pa_nil))) pe_int (nomark _)) (pss_one (ps_rz T.xTooGreat T.gTooGreat rfl)) pss_nil) pss_nev) pss_nil)
      (pss_cons (ps_if (pt_cmpR op_eq (pv 1) pe_str (nomark _)) (pss_one (ps_ret (pe_call GS hr (by rfl) gS kS bS .nil pass0 (pa_cons (pv 0) (pa_cons (pe_ix (r := rIxL K) ix_list (pv 2) pe_int (fun _ _ => rfl))
          (pa_cons (pe_ix (r := rIxL K) ix_list (pv 2) pe_int (fun _ _ => rfl)) (pa_cons (pe_ix (r := rIxL K) ix_list (pv 2) pe_int (fun _ _ => rfl)) pa_nil))))))) pss_nil)
      pss_nev)), ?_⟩
    rcases h with ⟨a, rfl, rfl, k⟩ | ⟨a, b2, f, g, rfl, rfl, ha, hb2, hl, k⟩ | ⟨a, c, rfl, rfl, ha, hp, k⟩
    · refine ⟨_, rfl, rfl, _, rfl, itY (fun _ => ?_) fun q => absurd rfl q⟩
      exact ⟨_, rfl, b, _, 0, .ref a, rfl, rfl, hb, rfl, k⟩
    · refine ⟨_, rfl, rfl, _, rfl, itY (fun q => absurd q (by decide +kernel)) fun _ => ⟨_, rfl, rfl, _, rfl, itY (fun _ => ?_) fun q => absurd rfl q⟩⟩
      refine ⟨_, rfl, b, _, 0, .ref a, rfl, rfl, hb, rfl, a, _, rfl, .inl ha, _, rfl, b, _, 1, .ref b2, rfl, rfl, hb, rfl, b2, _, rfl, .inl hb2, _, _, rfl, rfl, _, _, rfl, rfl, _, rfl, ?_⟩
      rw [decide_eq_true (show (14 : Int) < (f.length : Int) + (g.length : Int) by omega)]
      exact iteT k
    · refine ⟨_, rfl, rfl, _, rfl, itY (fun q => absurd q (by decide +kernel)) fun _ => ⟨_, rfl, rfl, _, rfl, itY (fun q => absurd q (by decide +kernel)) fun _ => ⟨_, rfl, rfl, _, rfl, itY (fun _ => ?_) fun q => absurd rfl q⟩⟩⟩
      exact ⟨_, rfl, _, rfl, b, _, 0, .ref a, rfl, rfl, hb, rfl, _, rfl, b, _, 1, .int 1, rfl, rfl, hb, rfl, _, rfl, b, _, 2, .int 60, rfl, rfl, hb, rfl, p, c, a, rfl, ha, hp, k⟩
end
end Dr

namespace Dr
open PySem PySem.Spec PyProof.Rows L2
open Sem (wp) in
theorem gives_gt_bi (p : Bool) (b : Int) (u : Tok) : Gives (Builtin.«int.__gt__» ⟨[.bool p, .int b u], []⟩) (.val (Value.bool (decide ((if p = true then (1 : Int) else 0) > b)))) :=
  .of_wp fun M A E s Q h => by obtain ⟨hp, g, d, tk, os⟩ := s; wp_walk; exact ⟨_, rfl, h⟩
theorem sub_int_bool : isSubtype (.type "int") (.type "bool") = pure false := by kernel_rfl
theorem gt_bi {prog : Program} {w : World} {A : Around} {E : Value → Shared → Prop} {s : Shared} {p : Bool} {b : Int} {u : Tok} {Q : Value → Shared → Prop} (h : Q (.bool (decide (b < (if p = true then (1 : Int) else 0)))) s) :
    wpAny (model prog w) A (compareOp .Gt (.bool p) (.int b u)) Q E s := by
  show wpAny _ A (richCompare .Gt _ _) Q E s
  exact wpAny_richCompare_left (typeIs_bool' s p) (typeIs_int s b u) (by decide) sub_int_bool F.slot_bool_gt
    (call_gives F.slot_bool_gt (typeIs_bool' s p) F.entry_int_gt (F.args_int_gt_2 _ _) (gives_gt_bi p b u) ⟨nofun, h⟩)
/-- a > b, a an int or a bool -/
def rGtA : R2 := fun x y H Q => (∃ i j, x = .int i ∧ y = .int j ∧ Q (.bl (decide (j < i))) H) ∨ (∃ (k : Bool) (j : Int), x = .bl k ∧ y = .int j ∧ Q (.bl (decide (j < (if k = true then (1 : Int) else 0)))) H)
theorem op_gtA {X : Cx} : OpR X (compareOp .Gt) rGtA := by
  intro pins s σ H x y v u Q I rx ry h
  rcases h with h | ⟨k, j, rfl, rfl, q⟩
  · exact op_gt pins s σ H x y v u Q I rx ry h
  · cases rx
    obtain ⟨t, rfl⟩ := ry
    exact gt_bi ⟨.bl _, H, I, rfl, q⟩
section
variable {P : Program} {w : World} {K : PySem.W.Frag} {mg : Str → Option Value} {base : Heap}
/-! ### Desk.__init__ -/
/-- what is no prime up to 97, and how it looks -/
inductive NoPrimeR (K : PySem.W.Frag) (H : Hp) : V → Prop
  | other (v : V) (t : Value) : TyX K H v t → PySem.W.kitOne K t (.type "int") = some false → NoPrimeR K H v
  | int (n : Int) : (97 < n ∨ primeM n = false) → NoPrimeR K H (.int n)
  | bl (b : Bool) : NoPrimeR K H (.bl b)
def spInit (K : PySem.W.Frag) : Sp := fun vs H Q E => ∃ (x dx : Addr) (pv : V), vs = [.ref x, pv] ∧ H x = some (.ins (He.ga K "Desk") dx []) ∧
  ((NoPrimeR K H pv ∧ E (.ref (He.ga K "NoPrime")) none H) ∨
   (∃ n : Int, pv = .int n ∧ n ≤ 97 ∧ primeM n = true ∧ ∀ H' k, H k = none → (∀ b o, b ≠ x → H b = some o → H' b = some o) → H' x = some (.ins (He.ga K "Desk") dx (dF n k)) → H' k = some (.dK []) → Q .non H'))
theorem scInit : FnScope ["self", "p"] ["self", "p"] (defScope sDeskInit) := ⟨rfl, rfl, rfl, by decide +kernel, rfl, by decide +kernel, by decide +kernel⟩
theorem put_kept (n : Int) (k : Addr) : putF "kept" (.ref k) (putF "prime" (.int n) []) = dF n k := by
  have e : ¬ (("prime" : Str) = "kept") := by decide +kernel
  show (if ("prime" : Str) = "kept" then [(("prime" : Str), V.ref k)] else (("prime" : Str), V.int n) :: putF "kept" (V.ref k) []) = _
  rw [if_neg e]
  rfl
theorem ok_Init (T : TX K mg) : ∃ fd, FnOk P w K mg base (L2.CX P w) 2 (He.ma K (He.ga K "Desk") "__init__") fd ["self", "p"] (spInit K) ∧ Binds K fd ["self", "p"] [] := by
  obtain ⟨fd, F⟩ := T.fDeskInit
  obtain ⟨fdI, GI, bI, kI, gI⟩ := ok_IsPrime (P := P) (w := w) (base := base) T
  refine ⟨fd, F.ok scInit (fun vs H Q E h => ?_) (fun cdv A outer s H vs Q E hr h => ?_), F.bindsN fun _ _ _ _ _ _ us hl => match us, hl with | [_, _], _ => rfl⟩
  · obtain ⟨x, dx, pv, rfl, _⟩ := h
    rfl
  · obtain ⟨x, dx, v0, rfl, hx, h⟩ := h
    have nd := scInit.nd
    refine ⟨_, pss_cons (ps_if (PW.pt (pw_or (pt_not (pt_val (e_isi (pv 1) rfl T.nisinstance rfl T.nint PyProof.Rows.boot_int))) (pw_or (pt_cmpR op_gtA (pv 1) pe_int (nomark _))
        (pw_or1 (pt_not (pt_val (pe_call GI hr (by rfl) gI kI bI .nil pass0 (pa_cons (pv 1) pa_nil)))))))) (pss_one (ps_rz T.xNoPrime T.gNoPrime rfl)) pss_nil)
      (pss_cons (ps_fld (pv 0) (pv 1) rfl) (pss_one (ps_fld (pv 0) pe_dnewK rfl))), ?_⟩
    rcases h with ⟨hn, k⟩ | ⟨n, rfl, hn, hpr, k⟩
    · cases hn with
      | other v t ht hk => exact ⟨_, rfl, _, _, _, _, _, rfl, .ty _, ht, hk, _, rfl, iteT (iteT k)⟩
      | int n hn =>
        refine ⟨_, rfl, _, _, _, _, _, rfl, .ty _, .base (.int n), kit_ty (by decide +kernel), true, rfl, ?_⟩
        refine iteF ⟨_, rfl, .inl ⟨n, 97, rfl, rfl, _, rfl, ?_⟩⟩
        by_cases c : 97 < n
        · rw [decide_eq_true c]
          exact iteT (iteT k)
        · rw [decide_eq_false c]
          refine iteF ⟨_, rfl, .inl ⟨n, rfl, by omega, _, rfl, ?_⟩⟩
          rw [hn.resolve_left c]
          exact iteT k
      | bl b =>
        refine ⟨_, rfl, _, _, _, _, _, rfl, .ty _, .base (.bl b), kit_ty (by decide +kernel), true, rfl, ?_⟩
        refine iteF ⟨_, rfl, .inr ⟨b, 97, rfl, rfl, _, rfl, ?_⟩⟩
        have e : decide ((97 : Int) < (if b = true then (1 : Int) else 0)) = false := by cases b <;> decide
        rw [e]
        exact iteF ⟨_, rfl, .inr ⟨b, rfl, _, rfl, iteT k⟩⟩
    · refine ⟨_, rfl, _, _, _, _, _, rfl, .ty _, .base (.int n), kit_ty (by decide +kernel), true, rfl, ?_⟩
      refine iteF ⟨_, rfl, .inl ⟨n, 97, rfl, rfl, _, rfl, ?_⟩⟩
      rw [decide_eq_false (show ¬ (97 : Int) < n by omega)]
      refine iteF ⟨_, rfl, .inl ⟨n, rfl, by omega, _, rfl, ?_⟩⟩
      rw [hpr]
      refine iteF ⟨_, rfl, _, rfl, x, _, dx, [], rfl, hx, T.cls, T.noP, by decide, fun q hq => ?_⟩
      have hqx : x ≠ q := ne_of_none upd_same hq
      have hq0 : H q = none := by
        rw [upd_ne hqx.symm] at hq
        exact hq
      refine ⟨_, rfl, x, _, dx, _, rfl, (by rw [upd_ne hqx]; exact upd_same), T.cls, T.noK, (by show 1 < 1000; decide), k _ q hq0 (fun b o hb ho => ?_) ?_ ?_⟩
      · rw [upd_ne hb, upd_ne (ne_of_none ho hq0), upd_ne hb]
        exact ho
      · rw [upd_same, put_kept]
      · rw [upd_ne hqx.symm, upd_same]
end
end Dr

namespace Dr
open PySem PySem.Spec PyProof.Rows L2
def blank : Str := " "
def sg (c : Nat) : Str := ⟨#[c]⟩
/-- what the words of a row tell, by the kinds wanted -/
def ptsM (kn : Str → Option (List Int)) (kd : Str) (ws : List Str) : List Pt := (kd.cps.toList.zip ws).map fun q => partM kn (sg q.1) q.2
def ptsOk (kd : Str) (ws : List Str) : Bool := (kd.cps.toList.zip ws).all fun q => partOk (sg q.1) q.2
def badOf : Pt → Option Str
  | .bad x => some x
  | _ => none
def firstBad (l : List Pt) : Option Str := l.findSome? badOf
/-- a value that tells it -/
def PV (H : Hp) (v : V) : Pt → Prop
  | .str z => v = .str z
  | .int n => v = .int n
  | .lst ns => ∃ a, v = .ref a ∧ H a = some (lI ns)
  | .bad _ => False
theorem PV.same {H H' : Hp} {v : V} {q : Pt} (s : Same H H') (h : PV H v q) : PV H' v q := by
  cases q with
  | str z => exact h
  | int n => exact h
  | lst ns =>
    obtain ⟨a, e, ha⟩ := h
    exact ⟨a, e, s _ _ ha⟩
  | bad x => exact h
abbrev PVs (H : Hp) : List V → List Pt → Prop := Paired (PV H)
theorem PVs.same {H H' : Hp} (s : Same H H') : ∀ {vs : List V} {qs : List Pt}, PVs H vs qs → PVs H' vs qs
  | _, _, .nil => .nil
  | _, _, .cons h t => .cons (h.same s) (PVs.same s t)
theorem pvs_snoc {H : Hp} {v : V} {q : Pt} (h : PV H v q) : ∀ {vs : List V} {qs : List Pt}, PVs H vs qs → PVs H (vs ++ [v]) (qs ++ [q])
  | _, _, .nil => .cons h .nil
  | _, _, .cons a t => .cons a (pvs_snoc h t)
theorem firstBad_at {l : List Pt} {i : Nat} {x : Str} (h : l[i]? = some (.bad x)) (ht : firstBad (l.take i) = none) : firstBad l = some x := by
  induction l generalizing i with
  | nil => simp at h
  | cons q r ih =>
    match i with
    | 0 =>
      have e : q = .bad x := Option.some.inj h
      rw [e]
      rfl
    | i + 1 =>
      have h' : r[i]? = some (.bad x) := h
      have ht' : firstBad (q :: r.take i) = none := ht
      unfold firstBad at ht' ⊢
      rw [List.findSome?_cons] at ht' ⊢
      cases hb : badOf q with
      | some y => rw [hb] at ht'; cases ht'
      | none =>
        rw [hb] at ht'
        exact ih h' ht'
theorem firstBad_snoc {l : List Pt} {q : Pt} (h : firstBad l = none) (hq : badOf q = none) : firstBad (l ++ [q]) = none := by
  unfold firstBad at h ⊢
  rw [List.findSome?_append, h]
  show (none.or (List.findSome? badOf [q])) = none
  rw [List.findSome?_cons, hq]
  rfl
/-! ### what a row's deed is -/
inductive DOut where
  | txt (z : Str)
  | bad (x : Str)
  | put (n : Str) (ns : List Int)
  | drop (n : Str)
inductive DeedR (p : Int) (kept : Kept) : Str → List Str → List Pt → DOut → Prop
  | names (z : Str) : (∀ ys : List Str, ys.Perm (kept.map (·.1)) → sortedS ys = true → Txt.join blank ys = z ∧ (ys.map (·.length)).sum + ys.length * blank.length ≤ 16777216) → kept.length < 64 → DeedR p kept "names" [] [] (.txt z)
  | drop (n : Str) (ns : List Int) : (look kept n).isSome = true → DeedR p kept "drop" [n] [.lst ns] (.drop n)
  | show (ws : List Str) (ns : List Int) : smallPoly ns → DeedR p kept "show" ws [.lst ns] (.txt (showM ns))
  | border (ws : List Str) : DeedR p kept "border" ws [.lst [0, 0]] (.bad "NoDepth")
  | small (ws : List Str) (x e m : Int) : (0 ≤ e ∧ e < 2 ^ 62) → m < 2 ^ 64 → (m < 1 ∨ p ^ e.toNat ≤ 2 * m * m) → DeedR p kept "small" ws [.int x, .int e, .int m] (.bad "NoSmall")
  | parts (ws : List Str) (f g h : List Int) (N : Int) : noParts N f.length g.length h.length → DeedR p kept "parts" ws [.lst f, .lst g, .lst h, .int N] (.bad "NoParts")
  | solve (ws : List Str) (ns : List Int) : DeedR p kept "solve" ws [.lst ns, .int 0] (.txt "0@0")
  | root (ws : List Str) (n N : Int) (f : List Int) : f.length ≤ 90 → DeedR p kept "root" ws [.lst (n :: 0 :: f), .int 0, .int N] (.bad "NoSingle")
  | roots (ws : List Str) (N : Int) : DeedR p kept "roots" ws [.lst [0, 0], .int N] (.bad "NoDepth")
  | poly (n w : Str) (ns : List Int) : look kept n = none → ns ≠ [] → ns.length ≤ 13 → (∀ x ∈ ns, x.natAbs < 10 ^ 60) → DeedR p kept "poly" [n, w] [.str n, .lst ns] (.put n ns)
  | times (n : Str) (ws : List Str) (f g : List Int) : 14 < f.length + g.length → DeedR p kept "times" (n :: ws) [.str n, .lst f, .lst g] (.bad "TooGreat")
  | seen (n : Str) (ws : List Str) (c : Int) : DeedR p kept "seen" (n :: ws) [.str n, .lst [c, 3, T58, 1], .int 1, .int 60] (.bad "TooGreat")
def dropKept (kept : Kept) (n : Str) : Kept := kept.filter fun e => decide (e.1 ≠ n)
def SayEnds (K : PySem.W.Frag) (H : Hp) (Q : VK) (E : XK) (k : Addr) (kept : Kept) : DOut → Prop
  | .txt z => ∀ H', Same H H' → Q (.str z) H'
  | .bad x => ∀ H', Same H H' → E (.ref (He.ga K x)) none H'
  | .put n ns => ∀ H' a, (∀ b o, b ≠ k → H b = some o → H' b = some o) → H' k = some (.dK (dKV (kept ++ [(n, a, ns)]))) → H' a = some (lI ns) → Q (.str "ok") H'
  | .drop n => ∀ H', (∀ b o, b ≠ k → H b = some o → H' b = some o) → H' k = some (.dK (dKV (dropKept kept n))) → Q (.str "ok") H'
def rowBad (first : Str) (rest : List Str) : Bool := match kindsM first with
  | none => true
  | some kd => !decide (kd.length = rest.length)
/-- the row is of the form of a first word and kinds; what comes of it -/
def RowGoes (K : PySem.W.Frag) (H : Hp) (Q : VK) (E : XK) (k : Addr) (p : Int) (kept : Kept) (first : Str) (rest : List Str) : Prop :=
  (rowBad first rest = true ∧ ∀ H', Same H H' → E (.ref (He.ga K "NoRow")) none H') ∨
  (∃ kd, kindsM first = some kd ∧ kd.length = rest.length ∧ ptsOk kd rest = true ∧
    ((∃ x, firstBad (ptsM (lk kept) kd rest) = some x ∧ ∀ H', Same H H' → E (.ref (He.ga K x)) none H') ∨
     (firstBad (ptsM (lk kept) kd rest) = none ∧ ∃ o, DeedR p kept first rest (ptsM (lk kept) kd rest) o ∧ SayEnds K H Q E k kept o)))
theorem dKV_put {kept : Kept} {n : Str} {a : Addr} {ns : List Int} (h : look kept n = none) : putK (dKV kept) (Sum.inr n) (V.ref a) = dKV (kept ++ [(n, a, ns)]) := by
  have e : ((dKV kept).any fun kv => decide (kv.1 = (Sum.inr n : Key))) = false := by
    rw [valV_any, valV_kept, h]
    rfl
  unfold putK
  rw [if_neg (by rw [e]; exact Bool.false_ne_true)]
  show dKV kept ++ [(Sum.inr n, V.ref a)] = List.map _ (kept ++ [(n, a, ns)])
  rw [List.map_append]
  rfl
theorem dKV_drop (kept : Kept) (n : Str) : dropK (dKV kept) (Sum.inr n) = dKV (dropKept kept n) := by
  unfold dropK dKV dropKept
  rw [List.filter_map]
  congr 1
  refine List.filter_congr fun e _ => ?_
  exact decide_eq_decide.mpr ⟨fun h q => h (by show (Sum.inr e.1 : Key) = Sum.inr n; rw [q]), fun h q => h (Sum.inr.inj q)⟩
theorem cut_one {α : V} (xs : List V) : cutV (α :: xs) (some 1) none = xs := by
  unfold cutV
  have e1 : HT.sIx (α :: xs).length 0 (some 1) = 1 := by
    unfold HT.sIx
    simp
  have e2 : HT.sIx (α :: xs).length (α :: xs).length none = (α :: xs).length := rfl
  rw [e1, e2]
  show List.take (xs.length + 1 - 1) xs = xs
  rw [Nat.add_sub_cancel, List.take_length]
theorem kinds_few {z kd : Str} (h : kindsM z = some kd) : kd.length ≤ 4 := by
  have e : kindsM z = none ∨ ∃ k : Str, k.length ≤ 4 ∧ kindsM z = some k := by
    unfold kindsM kinds4
    have y : ∀ (k : Str), k.length ≤ 4 → ∀ {c : Prop} [Decidable c] {e : Option Str}, (e = none ∨ ∃ k : Str, k.length ≤ 4 ∧ e = some k) → ((if c then some k else e) = none ∨ ∃ k' : Str, k'.length ≤ 4 ∧ (if c then some k else e) = some k') := fun k hk c _ e he => by
      by_cases q : c
      · rw [if_pos q]
        exact .inr ⟨k, hk, rfl⟩
      · rw [if_neg q]
        exact he
    exact y _ (by decide +kernel) (y _ (by decide +kernel) (y _ (by decide +kernel) (y _ (by decide +kernel) (y _ (by decide +kernel) (y _ (by decide +kernel) (y _ (by decide +kernel) (y _ (by decide +kernel) (y _ (by decide +kernel) (y _ (by decide +kernel) (y _ (by decide +kernel) (.inl rfl)))))))))))
  rcases e with e | ⟨k, hk, e⟩
  · rw [e] at h
    cases h
  · rw [e] at h
    cases h
    exact hk
theorem zip_at {kd : Str} {rest : List Str} {i c : Nat} {x : Str} (h1 : kd.cps[i]? = some c) (h2 : rest[i]? = some x) : (kd.cps.toList.zip rest)[i]? = some (c, x) := by
  refine List.getElem?_zip_eq_some.mpr ⟨?_, h2⟩
  rw [Array.getElem?_toList]
  exact h1
theorem pv_upd {H : Hp} {D : Addr} {o : HO} {v : V} {q : Pt} (h : PV H v q) (hv : v ≠ .ref D) : PV (upd H D o) v q := by
  cases q with
  | str z => exact h
  | int n => exact h
  | lst ns =>
    obtain ⟨a, e, ha⟩ := h
    refine ⟨a, e, ?_⟩
    rw [upd_ne (fun z => hv (by rw [e, z]))]
    exact ha
  | bad x => exact h
/-- the values, none of them at D -/
abbrev PVD (D : Addr) (H : Hp) : List V → List Pt → Prop := Paired fun v q => PV H v q ∧ v ≠ .ref D
theorem pvd_len {D : Addr} {H : Hp} : ∀ {vs : List V} {qs : List Pt}, PVD D H vs qs → vs.length = qs.length
  | _, _, .nil => rfl
  | _, _, .cons _ t => by rw [List.length_cons, List.length_cons, pvd_len t]
theorem pvd_snoc {D : Addr} {H H' : Hp} {o : HO} {v : V} {q : Pt} (s : Same H H') (h : PV H' v q) (hv : v ≠ .ref D) : ∀ {vs : List V} {qs : List Pt}, PVD D H vs qs → PVD D (upd H' D o) (vs ++ [v]) (qs ++ [q])
  | _, _, .nil => .cons ⟨pv_upd h hv, hv⟩ .nil
  | _, _, .cons a t => .cons ⟨pv_upd (a.1.same s) a.2, a.2⟩ (pvd_snoc s h hv t)
theorem pvs_of {D : Addr} {H : Hp} : ∀ {vs : List V} {qs : List Pt}, PVD D H vs qs → PVs H vs qs
  | _, _, .nil => .nil
  | _, _, .cons a t => .cons a.1 (pvs_of t)
theorem pv_s {H : Hp} {v : V} {z : Str} (h : PV H v (.str z)) : v = .str z := h
theorem pv_i {H : Hp} {v : V} {n : Int} (h : PV H v (.int n)) : v = .int n := h
theorem pv_l {H : Hp} {v : V} {ns : List Int} (h : PV H v (.lst ns)) : ∃ a, v = .ref a ∧ H a = some (lI ns) := h
def outOf : DOut → Option Out
  | .txt z => some (.txt z)
  | .bad x => some (.bad x)
  | _ => none
theorem kd_is {first kd k : Str} (h : kindsM first = some kd) (e : kindsM first = some k) : kd = k := Option.some.inj (h.symm.trans e)
inductive NewR (H : Hp) (kept : Kept) (n : Str) : Str → List V → DOut → Prop
  | poly (a : Addr) (ns : List Int) : H a = some (lI ns) → look kept n = none → ns ≠ [] → ns.length ≤ 13 → (∀ x ∈ ns, x.natAbs < 10 ^ 60) → NewR H kept n "poly" [.ref a] (.put n ns)
  | times (a b : Addr) (f g : List Int) : H a = some (lI f) → H b = some (lI g) → 14 < f.length + g.length → NewR H kept n "times" [.ref a, .ref b] (.bad "TooGreat")
  | seen (a : Addr) (c : Int) : H a = some (lI [c, 3, T58, 1]) → NewR H kept n "seen" [.ref a, .int 1, .int 60] (.bad "TooGreat")
theorem deed_cls {K : PySem.W.Frag} {H : Hp} {p : Int} {kept : Kept} {first kd : Str} {rest : List Str} {pts : List Pt} {o : DOut} {acc : List V} (hD : DeedR p kept first rest pts o) (hk : kindsM first = some kd) (hv : PVs H acc pts) :
    (first = "names" ∧ ∃ z, o = .txt z ∧ kept.length < 64 ∧ ∀ ys : List Str, ys.Perm (kept.map (·.1)) → sortedS ys = true → Txt.join blank ys = z ∧ (ys.map (·.length)).sum + ys.length * blank.length ≤ 16777216) ∨
    (first = "drop" ∧ ∃ n, rest = [n] ∧ o = .drop n ∧ (look kept n).isSome = true) ∨
    ((first ≠ "names" ∧ first ≠ "drop" ∧ Txt.startswith kd "n" = false) ∧ ∃ oo, AnsR K H p first acc oo ∧ outOf o = some oo) ∨
    ((first ≠ "names" ∧ first ≠ "drop" ∧ Txt.startswith kd "n" = true) ∧ ∃ (n : Str) (ws : List Str) (vs : List V), rest = n :: ws ∧ acc = .str n :: vs ∧ NewR H kept n first vs o) := by
  cases hD with
  | names z hj hf => exact .inl ⟨rfl, z, rfl, hf, hj⟩
  | drop n ns hl => exact .inr (.inl ⟨rfl, n, rfl, rfl, hl⟩)
  | «show» ws ns hs =>
    cases hv with
    | cons h t =>
      cases t
      obtain ⟨a, rfl, ha⟩ := h
      exact .inr (.inr (.inl ⟨⟨by decide +kernel, by decide +kernel, by rw [kd_is hk (show kindsM "show" = some "o" by decide +kernel)]; decide +kernel⟩, _, .show a ns (SqL.of ha) hs, rfl⟩))
  | border ws =>
    cases hv with
    | cons h t =>
      cases t
      obtain ⟨a, rfl, ha⟩ := h
      exact .inr (.inr (.inl ⟨⟨by decide +kernel, by decide +kernel, by rw [kd_is hk (show kindsM "border" = some "o" by decide +kernel)]; decide +kernel⟩, _, .border a (SqL.of ha), rfl⟩))
  | small ws x e m he hm hn =>
    cases hv with
    | cons h t =>
    cases t with
    | cons h2 t =>
    cases t with
    | cons h3 t =>
      cases t
      obtain rfl := pv_i h
      obtain rfl := pv_i h2
      obtain rfl := pv_i h3
      exact .inr (.inr (.inl ⟨⟨by decide +kernel, by decide +kernel, by rw [kd_is hk (show kindsM "small" = some "kdk" by decide +kernel)]; decide +kernel⟩, _, .small x e m he hm hn, rfl⟩))
  | parts ws f g h N hn =>
    cases hv with
    | cons h t =>
    cases t with
    | cons h2 t =>
    cases t with
    | cons h3 t =>
    cases t with
    | cons h4 t =>
      cases t
      obtain ⟨a, rfl, ha⟩ := h
      obtain ⟨b, rfl, hb⟩ := h2
      obtain ⟨c, rfl, hc⟩ := h3
      obtain rfl := pv_i h4
      exact .inr (.inr (.inl ⟨⟨by decide +kernel, by decide +kernel, by rw [kd_is hk (show kindsM "parts" = some "oood" by decide +kernel)]; decide +kernel⟩, _, .parts a b c N _ _ _ (SqL.of ha) (SqL.of hb) (SqL.of hc) (by rw [List.length_map, List.length_map, List.length_map]; exact hn), rfl⟩))
  | solve ws ns =>
    cases hv with
    | cons h t =>
    cases t with
    | cons h2 t =>
      cases t
      obtain ⟨a, rfl, ha⟩ := h
      obtain rfl := pv_i h2
      exact .inr (.inr (.inl ⟨⟨by decide +kernel, by decide +kernel, by rw [kd_is hk (show kindsM "solve" = some "od" by decide +kernel)]; decide +kernel⟩, _, .roots _ _ _ (.solve a), rfl⟩))
  | root ws n N f hl =>
    cases hv with
    | cons h t =>
    cases t with
    | cons h2 t =>
    cases t with
    | cons h3 t =>
      cases t
      obtain ⟨a, rfl, ha⟩ := h
      obtain rfl := pv_i h2
      obtain rfl := pv_i h3
      exact .inr (.inr (.inl ⟨⟨by decide +kernel, by decide +kernel, by rw [kd_is hk (show kindsM "root" = some "okd" by decide +kernel)]; decide +kernel⟩, _, .roots _ _ _ (.root a n N f (SqL.of ha) hl), rfl⟩))
  | roots ws N =>
    cases hv with
    | cons h t =>
    cases t with
    | cons h2 t =>
      cases t
      obtain ⟨a, rfl, ha⟩ := h
      obtain rfl := pv_i h2
      exact .inr (.inr (.inl ⟨⟨by decide +kernel, by decide +kernel, by rw [kd_is hk (show kindsM "roots" = some "od" by decide +kernel)]; decide +kernel⟩, _, .roots _ _ _ (.roots a N (SqL.of ha)), rfl⟩))
  | poly n w ns hl h0 h13 hb =>
    cases hv with
    | cons h t =>
    cases t with
    | cons h2 t =>
      cases t
      obtain rfl := pv_s h
      obtain ⟨a, rfl, ha⟩ := h2
      exact .inr (.inr (.inr ⟨⟨by decide +kernel, by decide +kernel, by rw [kd_is hk (show kindsM "poly" = some "nf" by decide +kernel)]; decide +kernel⟩, n, [w], _, rfl, rfl, .poly a ns ha hl h0 h13 hb⟩))
  | times n ws f g hfg =>
    cases hv with
    | cons h t =>
    cases t with
    | cons h2 t =>
    cases t with
    | cons h3 t =>
      cases t
      obtain rfl := pv_s h
      obtain ⟨a, rfl, ha⟩ := h2
      obtain ⟨b, rfl, hb⟩ := h3
      exact .inr (.inr (.inr ⟨⟨by decide +kernel, by decide +kernel, by rw [kd_is hk (show kindsM "times" = some "noo" by decide +kernel)]; decide +kernel⟩, n, ws, _, rfl, rfl, .times a b f g ha hb hfg⟩))
  | seen n ws c =>
    cases hv with
    | cons h t =>
    cases t with
    | cons h2 t =>
    cases t with
    | cons h3 t =>
    cases t with
    | cons h4 t =>
      cases t
      obtain rfl := pv_s h
      obtain ⟨a, rfl, ha⟩ := h2
      obtain rfl := pv_i h3
      obtain rfl := pv_i h4
      exact .inr (.inr (.inr ⟨⟨by decide +kernel, by decide +kernel, by rw [kd_is hk (show kindsM "seen" = some "nokd" by decide +kernel)]; decide +kernel⟩, n, ws, _, rfl, rfl, .seen a c ha⟩))
def absV : V → V
  | .int n => .int (n.natAbs : Int)
  | v => v
theorem abs_is (i : Int) : (if i < 0 then -i else i) = (i.natAbs : Int) := by
  by_cases h : i < 0
  · rw [if_pos h]
    omega
  · rw [if_neg h]
    omega
theorem abs_map (ns : List Int) : (ns.map V.int).map absV = (ns.map fun n => (n.natAbs : Int)).map V.int := by
  rw [List.map_map, List.map_map]
  rfl
theorem seen_big {p c : Int} (h2 : 2 ≤ p) : ∃ x ∈ seen4 (p ^ 60) c, (10 : Int) ^ 60 ≤ x := by
  have hs : (2 : Int) ^ 60 ≤ p ^ 60 := by
    obtain ⟨n, rfl⟩ := Int.eq_ofNat_of_zero_le (show 0 ≤ p by omega)
    have q : 2 ^ 60 ≤ n ^ 60 := Nat.pow_le_pow_left (by omega) 60
    have e : ((n : Int) ^ 60) = ((n ^ 60 : Nat) : Int) := by rw [Int.natCast_pow]
    rw [e]
    exact Int.ofNat_le.mpr q
  generalize p ^ 60 = s at hs ⊢
  refine ⟨1 * (1 * (1 * (1 * 0 + s * 0) + s * (1 * 0 + 1)) + s * (1 * (1 * 0 + 1) + T58)) + s * (1 * (1 * (1 * 0 + 1) + T58) + 3), .tail _ (.head _), ?_⟩
  have e : 1 * (1 * (1 * (1 * 0 + s * 0) + s * (1 * 0 + 1)) + s * (1 * (1 * 0 + 1) + T58)) + s * (1 * (1 * (1 * 0 + 1) + T58) + 3) = s * (6 + 2 * T58) := by
    generalize T58 = t
    simp only [Int.mul_add, Int.one_mul, Int.mul_zero, Int.zero_add, Int.mul_one, Int.add_zero]
    have q : s * (2 * t) = 2 * (s * t) := by rw [← Int.mul_assoc, Int.mul_comm s 2, Int.mul_assoc]
    rw [q]
    omega
  rw [e]
  refine Int.le_trans (b := 2 ^ 60 * (6 + 2 * T58)) (by decide +kernel) (Int.mul_le_mul_of_nonneg_right hs (by decide +kernel))
section
variable {P : Program} {w : World} {K : PySem.W.Frag} {mg : Str → Option Value} {base : Heap}
def spSay (K : PySem.W.Frag) : Sp := fun vs H Q E => ∃ (d k : Addr) (p : Int) (kept : Kept) (v : V), vs = [.ref d, v] ∧ DeskAt K H d k p kept ∧ (2 ≤ p ∧ p ≤ 97) ∧
  ((∃ t, TyX K H v t ∧ PySem.W.kitOne K t (.type "str") = some false ∧ ∀ H', Same H H' → E (.ref (He.ga K "NoRow")) none H') ∨
   (∃ (z first : Str) (rest : List Str), v = .str z ∧ z.length ≤ 10000 ∧ Txt.split z blank = first :: rest ∧ rest.length ≤ 100 ∧ RowGoes K H Q E k p kept first rest))
abbrev nmSay : List Str := ["self", "row", "words", "kinds", "parts", "made", "kind", "word", "number"]
theorem scSay : FnScope nmSay ["self", "row"] (defScope sDeskSay) := ⟨rfl, rfl, rfl, by decide +kernel, rfl, by decide +kernel, by decide +kernel⟩
theorem ok_Say (T : TX K mg) : ∃ fd, FnOk P w K mg base (L2.CX P w) 6 (He.ma K (He.ga K "Desk") "say") fd ["self", "row"] (spSay K) ∧ Binds K fd ["self", "row"] [] := by
  obtain ⟨fd, F⟩ := T.fDeskSay
  obtain ⟨fdW, GW, bW, kW, gW⟩ := ok_WordsWanted (P := P) (w := w) (base := base) T
  obtain ⟨fdP, GP, bP⟩ := ok_PartOf (P := P) (w := w) (base := base) T
  obtain ⟨fdA, GA, bA, kA, gA⟩ := ok_Answered (P := P) (w := w) (base := base) T
  obtain ⟨fdM, GM, bM, kM, gM⟩ := ok_MadePoly (P := P) (w := w) (base := base) T
  refine ⟨fd, F.ok scSay (fun vs H Q E h => ?_) (fun cdv A outer s H vs Q E hr h => ?_), F.bindsN fun _ _ _ _ _ _ us hl => match us, hl with | [_, _], _ => rfl⟩
  · obtain ⟨d, k, p, kept, v, rfl, _⟩ := h
    rfl
  · obtain ⟨d, k, p, kept, v, rfl, D, hp, h⟩ := h
    have nd := scSay.nd
    have hu := hu_of hr
    have hr1 : Room 1 _ := hr.mono (by decide)
    have hr3 : Room 3 _ := hr.mono (by decide)
    have pE : Passes (L2.CX P w) (cxOf (L2.CX P w) P w K mg base nmSay "Desk.say" (defScope sDeskSay) (He.ma K (He.ga K "Desk") "say") cdv A outer s H E) E :=
      passes_call (E := E) (W := fun cls d _ H => E cls d H) (takes_of rfl rfl rfl rfl) fun _ _ _ _ q => q
    refine ⟨_, pss_cons (ps_if (pt_not (pt_val (e_isi (pv 1) rfl T.nisinstance rfl T.nstr PyProof.Rows.boot_str))) (pss_one (ps_rz T.xNoRow T.gNoRow rfl)) pss_nil)
      (pss_cons (ps_set (i := 2) nd rfl (.inl rfl) (pe_split (pv 1) pe_str))
      (pss_cons (ps_set (i := 3) nd rfl (.inl rfl) (pe_call GW hr1 (by rfl) gW kW bW .nil pass0 (pa_cons (pe_ix (r := rIxL K) ix_list (pv 2) pe_int (fun _ _ => rfl)) pa_nil)))
      (pss_cons (ps_if (PW.pt (pw_or (pt_cmpR op_isN (pv 3) pe_non (nomark _)) (pw_or1 (pt_cmpR op_ne (pe_callB call_len_str (by rfl) T.nlen PySem.boot_len (pa_cons (pv 3) pa_nil)) (pe_op op_sub (pe_callB call_len_seq (by rfl) T.nlen PySem.boot_len (pa_cons (pv 2) pa_nil)) pe_int) (nomark _)))))
          (pss_one (ps_rz T.xNoRow T.gNoRow rfl)) pss_nil)
      (pss_cons (ps_setLcX (i := 4) (own := [("kind", 6), ("word", 7)]) (g := gTup K 2 (gCons (gName 6) (gCons (gName 7) gNil))) (tt := tYes) (EE := E) rfl rfl (takes_of rfl rfl rfl rfl) rfl nd rfl rfl (sw_true rfl rfl rfl (by decide +kernel))
          (pi_zipS (by rfl) T.nzip (pa_cons (pv 3) (pa_cons (pe_slice sl_list (pv 2) (po_some pe_int) po_none) pa_nil)))
          (blkOk_by (own := [("kind", 6), ("word", 7)]) (N := nmSay) (sc := defScope sDeskSay) (by decide +kernel))
          (fun _ _ _ _ _ _ => pg_tup rfl (pgs_cons (pg_name (i := 6) nd rfl (.inl rfl)) (pgs_cons (pg_name (i := 7) nd rfl (.inl rfl)) pgs_nil))) (fun _ _ _ _ _ _ => pts_nil)
          (fun _ _ _ _ _ xe ps => pe_meth (pv 0) T.cls T.mPart GP hr3 bP .nil ps (pa_cons (pv 6) (pa_cons (pv 7) pa_nil))))
      (pss_cons (ps_if (pt_cmpR op_eq (pe_ix (r := rIxL K) ix_list (pv 2) pe_int (fun _ _ => rfl)) pe_str (nomark _)) (pss_one (ps_ret (pe_join pe_str (pe_callB (call_sortedD rfl) (by rfl) T.nsorted PyProof.Rows.boot_sorted (pa_cons (pe_fld (pv 0) rfl) pa_nil))))) pss_nil)
      (pss_cons (ps_if (pt_cmpR op_eq (pe_ix (r := rIxL K) ix_list (pv 2) pe_int (fun _ _ => rfl)) pe_str (nomark _)) (pss_cons (ps_expr (pe_dpop1 (pe_fld (pv 0) rfl) (pe_ix (r := rIxL K) ix_list (pv 2) pe_int (fun _ _ => rfl)) ⟨rfl, rfl, rfl, rfl⟩)) (pss_one (ps_ret pe_str))) pss_nil)
      (pss_cons (ps_if (pt_not (pt_val (pe_m1 PySem.F.slot_str_startswith PySem.F.type_str_startswith mt_startswith (pv 3) pe_str)))
          (pss_one (ps_ret (pe_call GA hr (by rfl) gA kA bA .nil pE (pa_cons (pe_fld (pv 0) rfl) (pa_cons (pe_ix (r := rIxL K) ix_list (pv 2) pe_int (fun _ _ => rfl)) (pa_cons (pv 4) pa_nil)))))) pss_nil)
      (pss_cons (ps_set (i := 5) nd rfl (.inl rfl) (pe_call GM hr3 (by rfl) gM kM bM .nil pE (pa_cons (pe_fld (pv 0) rfl) (pa_cons (pe_ix (r := rIxL K) ix_list (pv 2) pe_int (fun _ _ => rfl)) (pa_cons (pe_slice sl_list (pv 4) (po_some pe_int) po_none) pa_nil)))))
      (pss_cons (ps_if (pt_cmpR op_ge (pe_callB (cr_max rfl) (by rfl) T.nmax PyProof.Rows.boot_max (pa_cons (pe_lc (own := [("number", 8)]) (g := gName 8) (tt := tYes) rfl nd (pi_list (pv 5))
          (blkOk_by (own := [("number", 8)]) (N := nmSay) (sc := defScope sDeskSay) (by decide +kernel)) (fun _ _ _ _ _ => pg_name (i := 8) nd rfl (.inl rfl)) (fun _ _ _ _ _ => pts_nil)
          (fun _ _ _ _ _ => pe_callB call_abs (by rfl) T.nabs PyProof.Rows.boot_abs (pa_cons (pv 8) pa_nil))) pa_nil)) (pe_op op_pow pe_int pe_int) (nomark _)) (pss_one (ps_rz T.xTooGreat T.gTooGreat rfl)) pss_nil)
      (pss_cons (ps_dput hu (pe_fld (pv 0) rfl) (pe_ix (r := rIxL K) ix_list (pv 2) pe_int (fun _ _ => rfl)) (pv 5) rfl)
      (pss_one (ps_ret pe_str)))))))))))), ?_⟩
    rcases h with ⟨t, ht, hk, kE⟩ | ⟨z, first, rest, rfl, hz, hsp, hrl, h⟩
    · exact ⟨_, rfl, _, _, _, _, _, rfl, .ty _, ht, hk, _, rfl, iteT (kE H (Same.refl H))⟩
    refine ⟨_, rfl, _, _, _, _, _, rfl, .ty _, .base (.str z), kit_ty (by decide +kernel), true, rfl, ?_⟩
    refine iteF ⟨_, rfl, ⟨_, rfl⟩, z, blank, rfl, rfl, by decide +kernel, small_line (by omega), fun a0 ha0 => ?_⟩
    rw [hsp]
    have s1 : Same H (upd H a0 (lS (first :: rest))) := same_new ha0
    generalize hH1 : upd H a0 (lS (first :: rest)) = H1 at s1 ⊢
    have hw1 : H1 a0 = some (lS (first :: rest)) := by
      rw [← hH1]
      exact upd_same
    refine ⟨_, rfl, a0, _, 0, .str first, rfl, rfl, SqL.of hw1, atI_nat (j := 0) rfl, first, rfl, ?_⟩
    refine ⟨_, rfl, rfl, _, rfl, ?_⟩
    rcases h with ⟨hb, kE⟩ | ⟨kd, hk, hkl, hok, h⟩
    · unfold rowBad at hb
      cases hk : kindsM first with
      | none =>
        have e : kindsV first = .non := by unfold kindsV; rw [hk]
        rw [decide_eq_true e]
        exact iteT (iteT (kE _ s1))
      | some kd =>
        rw [hk] at hb
        have e : kindsV first = .str kd := kV_of hk
        rw [e, decide_eq_false (fun q => nomatch q)]
        have hne : ¬ kd.length = rest.length := by simpa using hb
        refine iteF ⟨_, rfl, kd, rfl, ?_, _, rfl, a0, _, rfl, .inl (SqL.of hw1), _, _, rfl, rfl, rfl, _, rfl, ?_⟩
        · exact small_line (Nat.le_trans (kinds_few hk) (by decide))
        · rw [decide_eq_false (show ¬ V.int (kd.length : Int) = V.int ((((first :: rest).map V.str).length : Int) - 1) from fun q => by
            have q2 := V.int.inj q
            rw [List.length_map, List.length_cons] at q2
            omega)]
          exact iteT (kE _ s1)
    have ek : kindsV first = .str kd := kV_of hk
    rw [ek, decide_eq_false (fun q => nomatch q)]
    refine iteF ⟨_, rfl, kd, rfl, small_line (by omega), _, rfl, a0, _, rfl, .inl (SqL.of hw1), _, _, rfl, rfl, rfl, _, rfl, ?_⟩
    rw [decide_eq_true (show V.int (kd.length : Int) = V.int ((((first :: rest).map V.str).length : Int) - 1) by
      rw [List.length_map, List.length_cons]
      congr 1
      omega)]
    refine iteF ⟨_, rfl, _, rfl, 1, rfl, a0, _, rfl, SqL.of hw1, fun a1 ha1 => ?_⟩
    have ecut : cutV ((first :: rest).map V.str) (some 1) none = rest.map V.str := cut_one _
    rw [ecut]
    have s2 : Same H1 (upd H1 a1 (lS rest)) := same_new ha1
    generalize hH2 : upd H1 a1 (lS rest) = H2 at s2 ⊢
    have hw2 : H2 a1 = some (lS rest) := by
      rw [← hH2]
      exact upd_same
    have s12 : Same H H2 := s1.trans s2
    have hE : ∀ x, firstBad (ptsM (lk kept) kd rest) = some x → ∀ H', Same H H' → E (.ref (He.ga K x)) none H' := fun x hx => by
      rcases h with ⟨y, hy, kE⟩ | ⟨hn, _⟩
      · rw [hx] at hy
        cases hy
        exact kE
      · rw [hx] at hn
        cases hn
    have hlen : (ptsM (lk kept) kd rest).length = rest.length := by
      unfold ptsM
      rw [List.length_map, List.length_zip, Array.length_toList]
      show min kd.length rest.length = _
      omega
    refine ⟨kd, a1, _, rfl, SqL.of hw2, fun Dd hDd => ?_⟩
    refine ⟨fun i m H' => Same H2 H' ∧ m + i = kd.length ∧ firstBad ((ptsM (lk kept) kd rest).take i) = none ∧ ∃ acc, H' Dd = some (.lst acc) ∧ PVD Dd H' acc ((ptsM (lk kept) kd rest).take i),
      ⟨kd.length, same_new hDd, rfl, rfl, [], upd_same, .nil⟩, fun i m H' hW => ?_⟩
    obtain ⟨s3, hm, hfb, acc, hacc, hpv⟩ := hW
    by_cases hi : i < kd.length
    · refine .inr ⟨?_, ?_⟩
      · have h1 : i < kd.cps.size := hi
        have h2 : i < rest.length := by omega
        exact ⟨rest.map V.str, kd.cps[i], .str rest[i], SqL.of (s3 _ _ hw2), Array.getElem?_eq_getElem h1, by rw [List.getElem?_map, List.getElem?_eq_getElem h2]; rfl⟩
      · refine ⟨fun H'' => Same H2 H'' ∧ m - 1 + (i + 1) = kd.length ∧ firstBad ((ptsM (lk kept) kd rest).take (i + 1)) = none ∧ ∃ acc, H'' Dd = some (.lst acc) ∧ PVD Dd H'' acc ((ptsM (lk kept) kd rest).take (i + 1)), fun H'' q => ⟨m - 1, by omega, q⟩, ?_⟩
        rintro x H'' ⟨Tp, c, y, rfl, hTp, rfl, hc, hy⟩
        obtain ⟨wd, hwd, rfl⟩ := get_map (hy _ (SqL.of (s3 _ _ hw2)))
        have hq := zip_at hc hwd
        have hpt : (ptsM (lk kept) kd rest)[i]? = some (partM (lk kept) (sg c) wd) := by
          unfold ptsM
          rw [List.getElem?_map, hq]
          rfl
        have hpo : partOk (sg c) wd = true := List.all_eq_true.mp hok _ (List.mem_of_getElem? hq)
        have s4 : Same H' (upd H' Tp (.tup [.str ⟨#[c]⟩, .str wd])) := same_new hTp
        refine ⟨Tp, _, rfl, SqT.of upd_same, rfl, _, _, rfl, _, _, rfl, rfl, rfl, yes ?_⟩
        have s5 := s12.trans (s3.trans s4)
        have fin : ∀ (v : V) (q : Pt) (H4 : Hp), partM (lk kept) (sg c) wd = q → badOf q = none → Same (upd H' Tp (.tup [.str ⟨#[c]⟩, .str wd])) H4 → PV H4 v q → v ≠ .ref Dd →
            ∃ acc, H4 Dd = some (.lst acc) ∧ acc.length < sizeLine ∧ (Same H2 (upd H4 Dd (.lst (acc ++ [v]))) ∧ m - 1 + (i + 1) = kd.length ∧ firstBad ((ptsM (lk kept) kd rest).take (i + 1)) = none ∧ ∃ acc', (upd H4 Dd (.lst (acc ++ [v]))) Dd = some (.lst acc') ∧ PVD Dd (upd H4 Dd (.lst (acc ++ [v]))) acc' ((ptsM (lk kept) kd rest).take (i + 1))) := fun v q H4 e hb s6 hv hvd => by
          have hl := pvd_len hpv
          rw [List.length_take] at hl
          refine ⟨acc, (s4.trans s6) _ _ hacc, small_line (by omega), same_mut (s3.trans (s4.trans s6)) hDd, by omega, ?_, _, upd_same, ?_⟩
          · rw [take_succ hpt]
            exact firstBad_snoc hfb (by rw [e]; exact hb)
          · rw [take_succ hpt, e]
            exact pvd_snoc (s4.trans s6) hv hvd hpv
        refine ⟨_, rfl, d, _, _, rfl, s5 _ _ D.ins.choose_spec, dF_no p k (by decide +kernel) (by decide +kernel), _, rfl, _, rfl, d, k, p, kept, sg c, wd, rfl, D.same s5, hpo, ?_⟩
        cases hpm : partM (lk kept) (sg c) wd with
        | str z => exact fin _ _ _ hpm rfl (Same.refl _) rfl (fun q => nomatch q)
        | int n => exact fin _ _ _ hpm rfl (Same.refl _) rfl (fun q => nomatch q)
        | lst ns => exact fun H4 q s6 hq hq' => fin _ _ _ hpm rfl s6 ⟨q, rfl, hq'⟩ (fun z => by
            cases z
            rw [s4 _ _ hacc] at hq
            cases hq)
        | bad x => exact fun H4 s6 => hE x (firstBad_at (by rw [hpt, hpm]) hfb) _ (s5.trans s6)
    refine .inl ⟨⟨rest.map V.str, SqL.of (s3 _ _ hw2), by show i ≤ kd.length; omega, by rw [List.length_map]; omega, .inl (by show i = kd.length; omega)⟩, ?_⟩
    have hin : i = (ptsM (lk kept) kd rest).length := by omega
    rw [hin, List.take_length] at hfb hpv
    rcases h with ⟨x, hx, _⟩ | ⟨_, o, hD, kO⟩
    · rw [hfb] at hx
      cases hx
    have S3 : Same H H' := s12.trans s3
    have hw3 : SqL K H' a0 ((first :: rest).map V.str) := SqL.of ((s2.trans s3) _ _ hw1)
    have D3 : DeskAt K H' d k p kept := D.same S3
    obtain ⟨dx, hd3⟩ := D3.ins
    have hps := pvs_of hpv
    have hp64 : (0 : Int) < p ∧ p < 2 ^ 64 := ⟨by omega, by omega⟩
    have ix : ∀ (b : Addr) (ws : List Str) (j : Nat) (x : Str), ws[j]? = some x → atI (ws.map V.str) (j : Int) = some (.str x) := fun b ws j x hx => atI_nat (by rw [List.getElem?_map, hx]; rfl)
    rcases deed_cls (K := K) hD hk hps with ⟨rfl, z2, rfl, h64, hj⟩ | ⟨rfl, n, rfl, rfl, hl⟩ | ⟨⟨n1, n2, n3⟩, oo, hA, hoo⟩ | ⟨⟨n1, n2, n3⟩, n, ws, vs, rfl, rfl, hN⟩
    · refine ⟨_, rfl, a0, _, 0, .str "names", rfl, rfl, hw3, atI_nat (j := 0) rfl, rfl, _, rfl, itY (fun _ => ?_) fun q => absurd rfl q⟩
      refine ⟨⟨_, rfl⟩, _, rfl, d, _, dx, _, _, rfl, hd3, T.cls, T.noK, dF_kept p k, k, _, kept.map (·.1), rfl, .inl D3.dic, by unfold dKV; rw [List.map_map, List.map_map]; rfl, by rw [List.length_map]; exact h64, fun ys q hp1 hp2 hq => ?_⟩
      obtain ⟨e, hb⟩ := hj ys hp1 hp2
      refine ⟨blank, q, ys, rfl, rfl, .inl (SqL.of upd_same), hb, ?_⟩
      rw [e]
      exact kO _ (S3.trans (same_new hq))
    · refine ⟨_, rfl, a0, _, 0, .str "drop", rfl, rfl, hw3, atI_nat (j := 0) rfl, rfl, _, rfl, itY (fun q => absurd q (by decide +kernel)) fun _ => ⟨_, rfl, a0, _, 0, .str "drop", rfl, rfl, hw3, atI_nat (j := 0) rfl, rfl, _, rfl, itY (fun _ => ?_) fun q => absurd rfl q⟩⟩
      obtain ⟨q2, hq2⟩ := Option.isSome_iff_exists.mp hl
      refine ⟨_, rfl, d, _, dx, _, _, rfl, hd3, T.cls, T.noK, dF_kept p k, k, rfl, .inl ⟨_, .inl D3.dic⟩, _, rfl, a0, _, 1, .str n, rfl, rfl, hw3, atI_nat (j := 1) rfl, dKV kept, Sum.inr n, .ref q2.1, D3.dic, rfl, by rw [valV_kept, hq2]; rfl, ?_⟩
      refine kO _ (fun b o hb e => ?_) (by rw [upd_same, dKV_drop])
      rw [upd_ne hb]
      exact S3 _ _ e
    · refine ⟨_, rfl, a0, _, 0, .str first, rfl, rfl, hw3, atI_nat (j := 0) rfl, rfl, _, rfl, itY (fun q => absurd q n1) fun _ => ⟨_, rfl, a0, _, 0, .str first, rfl, rfl, hw3, atI_nat (j := 0) rfl, rfl, _, rfl, itY (fun q => absurd q n2) fun _ => ?_⟩⟩
      refine ⟨_, rfl, ⟨_, rfl⟩, kd, "n", rfl, rfl, _, rfl, ?_⟩
      rw [n3]
      refine iteT ?_
      refine ⟨_, rfl, d, _, dx, _, _, rfl, hd3, T.cls, T.noP, dF_prime p k, _, rfl, a0, _, 0, .str first, rfl, rfl, hw3, atI_nat (j := 0) rfl, _, rfl, p, first, Dd, acc, oo, rfl, hp64, SqL.of hacc, hA, fun H4 s4 => ?_⟩
      cases o with
      | txt z2 =>
        cases hoo
        exact kO _ (S3.trans s4)
      | bad x =>
        cases hoo
        exact kO _ (S3.trans s4)
      | put n ns => cases hoo
      | drop n => cases hoo
    · refine ⟨_, rfl, a0, _, 0, .str first, rfl, rfl, hw3, atI_nat (j := 0) rfl, rfl, _, rfl, itY (fun q => absurd q n1) fun _ => ⟨_, rfl, a0, _, 0, .str first, rfl, rfl, hw3, atI_nat (j := 0) rfl, rfl, _, rfl, itY (fun q => absurd q n2) fun _ => ?_⟩⟩
      refine ⟨_, rfl, ⟨_, rfl⟩, kd, "n", rfl, rfl, _, rfl, ?_⟩
      rw [n3]
      refine iteF ?_
      refine ⟨_, rfl, d, _, dx, _, _, rfl, hd3, T.cls, T.noP, dF_prime p k, _, rfl, a0, _, 0, .str first, rfl, rfl, hw3, atI_nat (j := 0) rfl, _, rfl, 1, rfl, Dd, _, rfl, SqL.of hacc, fun a4 ha4 => ?_⟩
      rw [cut_one]
      have s4 : Same H' (upd H' a4 (.lst vs)) := same_new ha4
      generalize hH4 : upd H' a4 (.lst vs) = H4 at s4 ⊢
      have hw4 : SqL K H4 a4 vs := SqL.of (by rw [← hH4]; exact upd_same)
      have S4 : Same H H4 := S3.trans s4
      have D4 : DeskAt K H4 d k p kept := D.same S4
      have hx4 : SqL K H4 a0 ((first :: n :: ws).map V.str) := s4.seq hw3
      refine ⟨p, first, a4, vs, rfl, hw4, ?_⟩
      cases hN with
      | times a b f g ha hb hl =>
        exact .inr (.inl ⟨a, b, _, _, rfl, rfl, SqL.of (s4 _ _ ha), SqL.of (s4 _ _ hb), by rw [List.length_map, List.length_map]; exact hl, kO _ S4⟩)
      | poly a ns ha hl h0 h13 hb =>
        refine .inl ⟨a, rfl, rfl, ?_⟩
        have ha4' : SqL K H4 a (ns.map V.int) := SqL.of (s4 _ _ ha)
        refine ⟨_, rfl, a, rfl, ⟨_, ha4'⟩, fun M hM => lc_pure absV ha4' hM (by rw [List.length_map]; exact small_line (by omega)) (fun x => rfl) (fun i x H' Q' hx s0 q => ?_) fun H5 s5 hD5 => ?_⟩
        · obtain ⟨m, hm, rfl⟩ := get_map hx
          refine ⟨_, rfl, m, rfl, ?_⟩
          rw [abs_is]
          exact q
        · rw [abs_map] at hD5
          refine ⟨M, _, rfl, SqL.of hD5, by rw [List.length_map]; exact List.length_pos_iff.mpr h0, fun m hm _ => ⟨_, _, rfl, rfl, ⟨by decide, by decide, by decide⟩, _, _, rfl, rfl, _, rfl, ?_⟩⟩
          obtain ⟨y, hy, rfl⟩ := List.mem_map.mp hm
          have hlt := hb y hy
          rw [decide_eq_false (by
            show ¬ (10 : Int) ^ 60 ≤ (y.natAbs : Int)
            omega)]
          refine iteF ?_
          have S5 : Same H H5 := S4.trans s5
          have D5 : DeskAt K H5 d k p kept := D.same S5
          obtain ⟨dx5, hd5⟩ := D5.ins
          refine ⟨_, rfl, _, rfl, d, _, dx5, _, _, rfl, hd5, T.cls, T.noK, dF_kept p k, _, rfl, a0, _, 1, .str n, rfl, rfl, s5.seq hx4, atI_nat (j := 1) rfl, k, _, rfl, DPut.k (k := Sum.inr n) D5.dic (by unfold dKV; rw [List.length_map]; exact small1000 (by have := D5.few; omega)), ?_⟩
          rw [dKV_put hl]
          have hak : a ≠ k := fun q => by
            have q1 := D4.dic
            rw [← q, s4 _ _ ha] at q1
            cases q1
          refine kO _ a (fun b o hb e => ?_) upd_same (by rw [upd_ne hak]; exact s5 _ _ (s4 _ _ ha))
          rw [upd_ne hb]
          exact S5 _ _ e
      | seen a c ha =>
        refine .inr (.inr ⟨a, c, rfl, rfl, SqL.of (s4 _ _ ha), ⟨by omega, hp.2⟩, fun H5 b s5 hb hq5 => ?_⟩)
        have hb5 : SqL K H5 b ((seen4 (p ^ 60) c).map V.int) := SqL.of hq5
        refine ⟨_, rfl, b, rfl, ⟨_, hb5⟩, fun M hM => lc_pure absV hb5 hM (by rw [List.length_map]; exact small1000 (by show 4 ≤ 1000; decide)) (fun x => rfl) (fun i x H' Q' hx s0 q => ?_) fun H6 s6 hD6 => ?_⟩
        · obtain ⟨m, hm, rfl⟩ := get_map hx
          refine ⟨_, rfl, m, rfl, ?_⟩
          rw [abs_is]
          exact q
        · rw [abs_map] at hD6
          refine ⟨M, _, rfl, SqL.of hD6, by rw [List.length_map]; exact Nat.zero_lt_succ 3, fun m hm hmax => ⟨_, _, rfl, rfl, ⟨by decide, by decide, by decide⟩, _, _, rfl, rfl, _, rfl, ?_⟩⟩
          obtain ⟨y, hy, hy10⟩ := seen_big (c := c) hp.1
          have hle := hmax _ (List.mem_map.mpr ⟨y, hy, rfl⟩)
          rw [decide_eq_true (by
            show (10 : Int) ^ 60 ≤ m
            omega)]
          exact iteT (kO _ (S4.trans (s5.trans s6)))
end
end Dr

namespace Dr
open PySem PySem.Spec PyProof.Rows L2
/-! ### what the law reckons -/
theorem short {n : Nat} (h : Nat.ble n 1000 = true) : n ≤ sizeLine := Nat.le_trans (Nat.le_of_ble_eq_true h) (by show 1000 ≤ sizeLine; decide)
theorem over {j : Int} (h : decide (0 < j) = true) : 0 < j := of_decide_eq_true h
theorem parted {i j : Int} (h : (decide (0 < j) && decide (j < 1073741824)) = true) : CDiv i j := by
  rw [Bool.and_eq_true, decide_eq_true_eq, decide_eq_true_eq] at h
  exact h
def rTimes : R2 := fun x y H Q => ∃ z k, x = .str z ∧ y = .int k ∧ PySem.MulOk z k ∧ Q (.str (Txt.mul z k)) H
theorem op_times {X : Cx} : OpR X (binaryOp .Mult) rTimes := by
  intro pins s σ H x y v u Q I rx ry h
  obtain ⟨z, k, rfl, rfl, hok, q⟩ := h
  obtain ⟨t, rfl⟩ := rx
  obtain ⟨t', rfl⟩ := ry
  exact PySem.SB.mul hok fun t' tk => ⟨.str _, H, I.tok _, ⟨_, rfl⟩, q⟩
def cellAt (xs : List Int) (k : Nat) : Int := if k < xs.length then xs.getD k 0 else 3 * (k : Int) * k + 17 * k + 4
def mixedN (cell : Int) (k : Nat) : Int :=
  let n := (cell * 48271 + 104729 * (k : Int) * k + 7919 * k + 1) % 2147483647
  n * n % 2147483629 + n
def primes : List Int := [2, 3, 5, 7, 11, 13, 17, 19, 23, 29, 31, 37, 41, 43, 47, 53, 59, 61, 67, 71, 73, 79, 83, 89, 97]
def primeAt (cell : Int) : Int := if cell % 2 = 0 then primes.getD (cell / 2 % 4).toNat 0 else primes.getD (cell / 2 % 25).toNat 0
/-- the k-th name of that size, its letter at that place -/
def nameAt (size place : Int) (k : Nat) : Str := Txt.mul "v" place ++ sg (97 + k) ++ Txt.mul "v" (size - place - 1)
def namesAt (size place : Int) : List Str := (List.range 5).map (nameAt size place)
def sizeOf0 (cell : Int) : Int := 1 + cell % 7
def placeOf0 (cell : Int) : Int := cell / 7 % sizeOf0 cell
def namesM (cell : Int) : List Str := namesAt (sizeOf0 cell) (placeOf0 cell)
theorem ix_emod {α : Type} {xs : List α} {v : α} {i m : Int} (hm : xs.length = m.toNat) (h0 : 0 < m) (hv : xs[(i % m).toNat]? = some v) : atI xs (i % m) = some v := by
  have h1 := Int.emod_nonneg i (show m ≠ 0 by omega)
  have e : i % m = (((i % m).toNat : Nat) : Int) := by omega
  rw [e]
  exact atI_nat hv
theorem getD_at {α : Type} {l : List α} {d : α} {i : Nat} (h : i < l.length) : l[i]? = some (l.getD i d) := by
  rw [List.getD_eq_getElem?_getD, List.getElem?_eq_getElem h]
  rfl
section
variable {P : Program} {w : World} {K : PySem.W.Frag} {mg : Str → Option Value} {base : Heap}
def spCell (K : PySem.W.Frag) : Sp := fun vs H Q _ => ∃ (b : Addr) (xs : List Int) (k : Nat), vs = [.ref b, .int k] ∧ SqL K H b (xs.map V.int) ∧ k < 1000 ∧ Q (.int (cellAt xs k)) H
theorem scCell : FnScope ["script", "k"] ["script", "k"] (defScope sLawCell) := ⟨rfl, rfl, rfl, by decide +kernel, rfl, by decide +kernel, by decide +kernel⟩
theorem ok_Cell (T : TX K mg) : DefP P w K mg base CX0 1 "_law_cell" ["script", "k"] (spCell K) := by
  obtain ⟨fd, F⟩ := T.fLawCell
  refine defP F T.gLawCell (fun _ _ _ _ _ _ us hl => match us, hl with | [_, _], _ => rfl) (F.ok scCell (fun vs H Q E h => ?_) (fun cdv A outer s H vs Q E hr h => ?_))
  · obtain ⟨b, xs, k, rfl, _⟩ := h
    rfl
  · obtain ⟨b, xs, k, rfl, hS, hk, h⟩ := h
    have nd := scCell.nd
    refine ⟨_, PSs.nox (pss_cons (ps_if (pt_cmpR op_lt (pv 1) (pe_callB call_len_seq (by rfl) T.nlen PySem.boot_len (pa_cons (pv 0) pa_nil)) (nomark _)) (pss_one (ps_ret (pe_ix (r := rIxL K) ix_list (pv 0) (pv 1) (fun _ _ => rfl)))) pss_nil)
      (pss_one (ps_ret (pe_op op_add (pe_op op_add (pe_op op_mul (pe_op op_mul pe_int (pv 1)) (pv 1)) (pe_op op_mul pe_int (pv 1))) pe_int)))), ?_⟩
    refine ⟨_, rfl, _, rfl, b, _, rfl, .inl hS, _, _, rfl, rfl, _, rfl, ?_⟩
    unfold cellAt at h
    rw [List.length_map]
    by_cases c : k < xs.length
    · rw [decide_eq_true (show (k : Int) < (xs.length : Int) by omega)]
      rw [if_pos c] at h
      exact iteT ⟨_, rfl, _, rfl, b, _, k, _, rfl, rfl, hS, atI_nat (by rw [List.getElem?_map, getD_at c]; rfl), h⟩
    · rw [decide_eq_false (show ¬ (k : Int) < (xs.length : Int) by omega)]
      rw [if_neg c] at h
      exact iteF ⟨_, rfl, _, _, rfl, rfl, .inl (by omega), _, rfl, _, _, rfl, rfl, .inr (by omega), _, rfl, _, _, rfl, rfl, .inl (by omega), _, _, rfl, rfl, _, _, rfl, rfl, h⟩
def spMixed : Sp := fun vs H Q _ => ∃ (c : Int) (k : Nat), vs = [.int c, .int k] ∧ k < 1000 ∧ Q (.int (mixedN c k)) H
theorem scMixed : FnScope ["cell", "k", "number"] ["cell", "k"] (defScope sLawMixed) := ⟨rfl, rfl, rfl, by decide +kernel, rfl, by decide +kernel, by decide +kernel⟩
theorem ok_Mixed (T : TX K mg) : DefP P w K mg base CX0 1 "_law_mixed" ["cell", "k"] spMixed := by
  obtain ⟨fd, F⟩ := T.fLawMixed
  refine defP F T.gLawMixed (fun _ _ _ _ _ _ us hl => match us, hl with | [_, _], _ => rfl) (F.ok scMixed (fun vs H Q E h => ?_) (fun cdv A outer s H vs Q E hr h => ?_))
  · obtain ⟨c, k, rfl, _⟩ := h
    rfl
  · obtain ⟨c, k, rfl, hk, h⟩ := h
    have nd := scMixed.nd
    refine ⟨_, PSs.nox (pss_cons (ps_set (i := 2) nd rfl (.inl rfl) (pe_op op_mod (pe_op op_add (pe_op op_add (pe_op op_add (pe_op op_mul (pv 0) pe_int) (pe_op op_mul (pe_op op_mul pe_int (pv 1)) (pv 1))) (pe_op op_mul pe_int (pv 1))) pe_int) pe_int))
      (pss_one (ps_ret (pe_op op_add (pe_op op_mod (pe_op op_mul (pv 2) (pv 2)) pe_int) (pv 2))))), ?_⟩
    have h0 := Int.emod_nonneg (c * 48271 + 104729 * (k : Int) * k + 7919 * k + 1) (show (2147483647 : Int) ≠ 0 by decide)
    have h1 := Int.emod_lt_of_pos (c * 48271 + 104729 * (k : Int) * k + 7919 * k + 1) (show (0 : Int) < 2147483647 by decide)
    refine ⟨_, rfl, _, _, rfl, rfl, .inr (by decide), _, rfl, _, _, rfl, rfl, .inl (by decide), _, rfl, _, _, rfl, rfl, .inr (by omega), _, _, rfl, rfl, _, rfl, _, _, rfl, rfl, .inl (by decide), _, _, rfl, rfl, _, _, rfl, rfl, _, _, rfl, rfl, over rfl, ?_⟩
    exact ⟨_, rfl, _, rfl, _, _, rfl, rfl, .inl ⟨by omega, by omega⟩, _, _, rfl, rfl, over rfl, _, rfl, _, _, rfl, rfl, h⟩
def spPrime : Sp := fun vs H Q _ => ∃ c : Int, vs = [.int c] ∧ ∀ H', Same H H' → Q (.int (primeAt c)) H'
theorem scPrime : FnScope ["cell", "some"] ["cell"] (defScope sLawPrime) := ⟨rfl, rfl, rfl, by decide +kernel, rfl, by decide +kernel, by decide +kernel⟩
theorem ok_Prime (T : TX K mg) : DefP P w K mg base CX0 1 "_law_prime" ["cell"] spPrime := by
  obtain ⟨fd, F⟩ := T.fLawPrime
  refine defP F T.gLawPrime (fun _ _ _ _ _ _ us hl => match us, hl with | [_], _ => rfl) (F.ok scPrime (fun vs H Q E h => ?_) (fun cdv A outer s H vs Q E hr h => ?_))
  · obtain ⟨c, rfl, _⟩ := h
    rfl
  · obtain ⟨c, rfl, h⟩ := h
    have nd := scPrime.nd
    refine ⟨_, PSs.nox (pss_cons (ps_set (i := 1) nd rfl (.inl rfl) (pe_lst (pa_cons pe_int (pa_cons pe_int (pa_cons pe_int (pa_cons pe_int (pa_cons pe_int (pa_cons pe_int (pa_cons pe_int (pa_cons pe_int (pa_cons pe_int (pa_cons pe_int
        (pa_cons pe_int (pa_cons pe_int (pa_cons pe_int (pa_cons pe_int (pa_cons pe_int (pa_cons pe_int (pa_cons pe_int (pa_cons pe_int (pa_cons pe_int (pa_cons pe_int (pa_cons pe_int (pa_cons pe_int (pa_cons pe_int (pa_cons pe_int (pa_cons pe_int pa_nil)))))))))))))))))))))))))))
      (pss_cons (ps_if (pt_cmpR op_eq (pe_op op_mod (pv 0) pe_int) pe_int (nomark _)) (pss_one (ps_ret (pe_ix (r := rIxL K) ix_list (pv 1) (pe_op op_mod (pe_op op_fdiv (pv 0) pe_int) pe_int) (fun _ _ => rfl)))) pss_nil)
      (pss_one (ps_ret (pe_ix (r := rIxL K) ix_list (pv 1) (pe_op op_mod (pe_op op_fdiv (pv 0) pe_int) pe_int) (fun _ _ => rfl)))))), ?_⟩
    refine ⟨short rfl, fun p hp => ⟨_, rfl, _, _, rfl, rfl, over rfl, rfl, _, rfl, ?_⟩⟩
    have hw : SqL K (upd H p (lI primes)) p (primes.map V.int) := SqL.of upd_same
    have h4a := Int.emod_nonneg (c / 2) (show (4 : Int) ≠ 0 by decide)
    have h4b := Int.emod_lt_of_pos (c / 2) (show (0 : Int) < 4 by decide)
    have h25a := Int.emod_nonneg (c / 2) (show (25 : Int) ≠ 0 by decide)
    have h25b := Int.emod_lt_of_pos (c / 2) (show (0 : Int) < 25 by decide)
    unfold primeAt at h
    by_cases e : c % 2 = 0
    · rw [decide_eq_true (show V.int (c % 2) = V.int 0 by rw [e])]
      rw [if_pos e] at h
      refine iteT ⟨_, rfl, _, rfl, _, _, rfl, rfl, parted rfl, _, _, rfl, rfl, over rfl, p, primes.map V.int, c / 2 % 4, _, rfl, rfl, hw, ?_, h _ (same_new hp)⟩
      rw [show c / 2 % 4 = (((c / 2 % 4).toNat : Nat) : Int) by omega]
      exact atI_nat (by rw [List.getElem?_map, Int.toNat_natCast, getD_at (show (c / 2 % 4).toNat < primes.length by show _ < 25; omega)]; rfl)
    · rw [decide_eq_false (show ¬ V.int (c % 2) = V.int 0 from fun q => e (V.int.inj q))]
      rw [if_neg e] at h
      refine iteF ⟨_, rfl, _, rfl, _, _, rfl, rfl, parted rfl, _, _, rfl, rfl, over rfl, p, primes.map V.int, c / 2 % 25, _, rfl, rfl, hw, ?_, h _ (same_new hp)⟩
      rw [show c / 2 % 25 = (((c / 2 % 25).toNat : Nat) : Int) by omega]
      exact atI_nat (by rw [List.getElem?_map, Int.toNat_natCast, getD_at (show (c / 2 % 25).toNat < primes.length by show _ < 25; omega)]; rfl)
def spNames (K : PySem.W.Frag) : Sp := fun vs H Q _ => ∃ c : Int, vs = [.int c] ∧ ∀ H' p, Same H H' → H' p = some (lS (namesM c)) → Q (.ref p) H'
theorem scNames : FnScope ["cell", "size", "place", "names", "k"] ["cell"] (defScope sLawNames) := ⟨rfl, rfl, rfl, by decide +kernel, rfl, by decide +kernel, by decide +kernel⟩
theorem few_ok {z : Str} {k : Int} (hz : z.length ≤ 10) (h0 : 0 ≤ k) (h1 : k ≤ 100) : PySem.MulOk z k := by
  refine ⟨?_, fun c1 _ => ?_, fun _ _ => ?_⟩
  · rw [decide_eq_false (show ¬ k < -(2 ^ 63) by omega), decide_eq_false (show ¬ k ≥ 2 ^ 63 by omega)]
    rfl
  · have e : (2 ^ 63 - 1) / 100 ≤ (2 ^ 63 - 1) / k := by
      have hk : 0 < k := by omega
      refine (Int.le_ediv_iff_mul_le hk).mpr ?_
      have : (2 ^ 63 - 1) / 100 * k ≤ (2 ^ 63 - 1) / 100 * 100 := Int.mul_le_mul_of_nonneg_left h1 (by decide)
      omega
    have e2 : (10 : Int) ≤ (2 ^ 63 - 1) / 100 := by decide
    omega
  · show decide (z.length * k.toNat > sizeLine) = false
    have : z.length * k.toNat ≤ 10 * 100 := Nat.mul_le_mul hz (by omega)
    exact decide_eq_false (by show ¬ z.length * k.toNat > sizeLine; exact Nat.not_lt.mpr (Nat.le_trans this (by decide)))
theorem mul_short {k : Int} (h0 : 0 ≤ k) (h1 : k ≤ 7) : (Txt.mul "v" k).length ≤ 7 := by
  obtain ⟨n, rfl⟩ := Int.eq_ofNat_of_zero_le h0
  have h : ∀ n, n < 8 → (Txt.mul "v" ((n : Nat) : Int)).length ≤ 7 := by decide +kernel
  exact h n (by omega)
theorem len_app (a b : Str) : (a ++ b).length = a.length + b.length := by
  show (a.cps ++ b.cps).size = _
  rw [Array.size_append]
  rfl
theorem ok_Names (T : TX K mg) : DefP P w K mg base CX0 1 "_law_names" ["cell"] (spNames K) := by
  obtain ⟨fd, F⟩ := T.fLawNames
  refine defP F T.gLawNames (fun _ _ _ _ _ _ us hl => match us, hl with | [_], _ => rfl) (F.ok scNames (fun vs H Q E h => ?_) (fun cdv A outer s H vs Q E hr h => ?_))
  · obtain ⟨c, rfl, _⟩ := h
    rfl
  · obtain ⟨c, rfl, h⟩ := h
    have nd := scNames.nd
    refine ⟨_, PSs.nox (pss_cons (ps_set (i := 1) nd rfl (.inl rfl) (pe_op op_add pe_int (pe_op op_mod (pv 0) pe_int)))
      (pss_cons (ps_set (i := 2) nd rfl (.inl rfl) (pe_op op_mod (pe_op op_fdiv (pv 0) pe_int) (pv 1)))
      (pss_cons (ps_set (i := 3) nd rfl (.inl rfl) (pe_lst pa_nil))
      (pss_cons (ps_for PassesOwn.never rfl (pi_range1 (by rfl) T.nrange (pa_cons pe_int pa_nil)) (pg_name (i := 4) nd rfl (.inl rfl))
        (pss_one (ps_expr (pe_bm PySem.F.plainAttrs_list PySem.F.slot_list_append PySem.F.type_list_append mt_append (pv 3) (pa_cons
          (pe_op op_add_str (pe_op op_add_str (pe_op op_times pe_str (pv 2)) (pe_ix (r := rIxS) ix_str pe_str (pv 4) (fun _ _ => rfl))) (pe_op op_times pe_str (pe_op op_sub (pe_op op_sub (pv 1) (pv 2)) pe_int))) pa_nil)))))
      (pss_one (ps_ret (pv 3))))))), ?_⟩
    have s7a := Int.emod_nonneg c (show (7 : Int) ≠ 0 by decide)
    have s7b := Int.emod_lt_of_pos c (show (0 : Int) < 7 by decide)
    have hsz : 1 ≤ sizeOf0 c ∧ sizeOf0 c ≤ 7 := by unfold sizeOf0; omega
    have hpa : 0 ≤ placeOf0 c := Int.emod_nonneg _ (by omega)
    have hpb : placeOf0 c < sizeOf0 c := Int.emod_lt_of_pos _ (by omega)
    refine ⟨_, rfl, _, _, rfl, rfl, over rfl, _, _, rfl, rfl, _, rfl, _, _, rfl, rfl, parted rfl, _, rfl, _, _, rfl, rfl, (by show 0 < sizeOf0 c; omega), short rfl, fun p hp => ⟨5, rfl, by omega, by omega, ?_⟩⟩
    refine for_range (lo := 0) (n := 5) (fun i σ H' => Same H H' ∧ H' p = some (lS ((List.range i).map (nameAt (sizeOf0 c) (placeOf0 c)))) ∧ ∃ v, σ = [some (.int c), some (.int (sizeOf0 c)), some (.int (placeOf0 c)), some (.ref p), v]) ⟨same_new hp, upd_same, none, rfl⟩ ?_ ?_
    · rintro i σ H' hi ⟨s0, hw, v, rfl⟩
      have hch : atI ("abcde" : Str).cps.toList (0 + (i : Int)) = some (97 + i) := by
        rw [Int.zero_add]
        refine atI_nat ?_
        have q : ∀ i, i < 5 → ("abcde" : Str).cps.toList[i]? = some (97 + i) := by decide +kernel
        exact q i hi
      have l1 := mul_short hpa (by omega)
      have l2 := mul_short (k := sizeOf0 c - placeOf0 c - 1) (by omega) (by omega)
      have l3 : (Txt.mul "v" (placeOf0 c) ++ sg (97 + i)).length ≤ 8 := by
        rw [len_app]
        show _ + 1 ≤ 8
        omega
      refine ⟨_, rfl, .inl ⟨rfl, _, SqL.of hw⟩, _, rfl, _, _, rfl, rfl, few_ok (by decide +kernel) hpa (by omega), _, rfl, _, _, _, rfl, rfl, (by decide +kernel), hch, _, _, rfl, rfl, ?_, _, rfl, _, rfl, _, _, rfl, rfl, _, _, rfl, rfl, _, _, rfl, rfl, few_ok (by decide +kernel) (by omega) (by omega), _, _, rfl, rfl, ?_, p, _, _, rfl, rfl, hw, ?_, ?_⟩
      · exact short (Nat.ble_eq_true_of_le (show _ + 1 ≤ 1000 by omega))
      · exact short (Nat.ble_eq_true_of_le (show (Txt.mul "v" (placeOf0 c) ++ sg (97 + i)).length + _ ≤ 1000 by omega))
      · rw [List.length_map, List.length_map, List.length_range]
        exact small1000 (by omega)
      · refine ⟨same_mut s0 hp, ?_, _, rfl⟩
        rw [upd_same, List.range_succ, List.map_append]
        show _ = some (HO.lst (List.map V.str (_ ++ [_])))
        rw [List.map_append]
        rfl
    · rintro σ H' ⟨s0, hw, v, rfl⟩
      exact ⟨_, rfl, h _ p s0 hw⟩
end
end Dr

namespace Dr
open PySem PySem.Spec PyProof.Rows L2
def firsts : List Str := [("poly" : Str), ("times" : Str), ("seen" : Str), ("slope" : Str), ("drop" : Str), ("show" : Str), ("border" : Str), ("solve" : Str), ("count" : Str), ("roots" : Str), ("single" : Str), ("root" : Str), ("small" : Str), ("parts" : Str), ("names" : Str)]
def kindsD (z : Str) : Str := (kindsM z).getD ""
def great : Str := numT (10 ^ 60)
def menuN : List Str := [("" : Str), ("abcdefghi" : Str), ("A" : Str), ("a1" : Str), ("a-" : Str), ("vZ" : Str), ("." : Str), ("_" : Str), ("vvvvvvvvv" : Str), ("a," : Str)]
def menuO : List Str := [("" : Str), ("abcdefghi" : Str), ("A" : Str), ("a1" : Str), ("vv-" : Str), ("y" : Str), ("vy" : Str), ("yv" : Str), ("vvvvvvvv" : Str), ("5" : Str)]
def menuK : List Str := [("" : Str), ("1.0" : Str), ("+1" : Str), ("01" : Str), ("-0" : Str), ("1,2" : Str), ("--1" : Str), great, ("x" : Str), ("-" : Str) ++ great]
def menuD : List Str := [("-1" : Str), ("61" : Str), ("" : Str), ("03" : Str), ("+2" : Str), ("-60" : Str), ("1000000" : Str), ("x" : Str), great, ("99" : Str)]
def menuF : List Str := [("" : Str), ("," : Str), ("1," : Str), (",1" : Str), ("1,,2" : Str), ("1;2" : Str), ("01,2" : Str), ("1,-0" : Str), ("1," : Str) ++ great, ("1,x" : Str), ("0" : Str) ++ Txt.mul ",0" 13]
def menu (kind : Str) : List Str := if kind = "n" then menuN else if kind = "o" then menuO else if kind = "k" then menuK else if kind = "d" then menuD else menuF
def badW (kind : Str) (number : Int) : Str := (menu kind).getD (number % (menu kind).length).toNat ""
def deepMenu : List Str := [("-1" : Str), ("61" : Str), ("-60" : Str), ("99" : Str), ("1000000" : Str)]
def wordDue (kind word : Str) : Str := if kind = "n" ∨ kind = "o" then "NoName" else if kind = "d" ∧ word ∈ deepMenu then "TooDeep" else "NoText"
def kvIs (o : Option V) (z : Str) : Bool := match o with
  | some (.str y) => decide (y = z)
  | _ => false
theorem kvIs_ok {o : Option V} {z : Str} (h : kvIs o z = true) : o = some (.str z) := by
  unfold kvIs at h
  split at h
  · rw [of_decide_eq_true h]
  · cases h
section
variable {P : Program} {w : World} {K : PySem.W.Frag} {mg : Str → Option Value} {base : Heap}
def spKinds : Sp := fun vs H Q _ => ∃ z : Str, vs = [.str z] ∧ z ∈ firsts ∧ ∀ H', Same H H' → Q (.str (kindsD z)) H'
theorem scKinds : FnScope ["first", "kinds"] ["first"] (defScope sLawKinds) := ⟨rfl, rfl, rfl, by decide +kernel, rfl, by decide +kernel, by decide +kernel⟩
abbrev kv0 : List (Key × V) := mergeK [] [(Sum.inr "poly", .str "nf"), (Sum.inr "times", .str "noo"), (Sum.inr "seen", .str "nokd"), (Sum.inr "slope", .str "no"), (Sum.inr "drop", .str "o"), (Sum.inr "show", .str "o"), (Sum.inr "border", .str "o")]
abbrev kv1 : List (Key × V) := putK (putK (putK (putK (putK (putK (putK (putK kv0 (Sum.inr "solve") (.str "od")) (Sum.inr "count") (.str "od")) (Sum.inr "roots") (.str "od")) (Sum.inr "single") (.str "ok")) (Sum.inr "root") (.str "okd")) (Sum.inr "small") (.str "kdk")) (Sum.inr "parts") (.str "oood")) (Sum.inr "names") (.str "")
theorem kv1_ok : (firsts.all fun z => kvIs (valV kv1 (Sum.inr z)) (kindsD z)) = true := by decide +kernel
theorem dget_of {H : Hp} {a : Addr} {kvs : List (Key × V)} {z : Str} {v : V} (h : H a = some (.dK kvs)) (e : valV kvs (Sum.inr z) = some v) : DGet H a (.str z) (some v) := by
  have g := DGet.k (k := Sum.inr z) h
  rw [e] at g
  exact g
theorem ok_Kinds (T : TX K mg) : DefP P w K mg base CX0 1 "_law_kinds" ["first"] spKinds := by
  obtain ⟨fd, F⟩ := T.fLawKinds
  refine defP F T.gLawKinds (fun _ _ _ _ _ _ us hl => match us, hl with | [_], _ => rfl) (F.ok scKinds (fun vs H Q E h => ?_) (fun cdv A outer s H vs Q E hr h => ?_))
  · obtain ⟨z, rfl, _⟩ := h
    rfl
  · obtain ⟨z, rfl, hz, h⟩ := h
    have nd := scKinds.nd
    have hu := hu_of hr
    refine ⟨_, PSs.nox (pss_cons (ps_set (i := 1) nd rfl (.inl rfl) (pe_disp (pps_cons pe_str pe_str (pps_cons pe_str pe_str (pps_cons pe_str pe_str (pps_cons pe_str pe_str (pps_cons pe_str pe_str (pps_cons pe_str pe_str (pps_cons pe_str pe_str pps_nil))))))) rfl rfl (fun q => nomatch q) (by decide)))
      (pss_cons (ps_dput hu (pv 1) pe_str pe_str rfl) (pss_cons (ps_dput hu (pv 1) pe_str pe_str rfl) (pss_cons (ps_dput hu (pv 1) pe_str pe_str rfl) (pss_cons (ps_dput hu (pv 1) pe_str pe_str rfl)
      (pss_cons (ps_dput hu (pv 1) pe_str pe_str rfl) (pss_cons (ps_dput hu (pv 1) pe_str pe_str rfl) (pss_cons (ps_dput hu (pv 1) pe_str pe_str rfl) (pss_cons (ps_dput hu (pv 1) pe_str pe_str rfl)
      (pss_one (ps_ret (pe_dget hu (pv 1) (pv 0) (fun _ _ => rfl))))))))))))), ?_⟩
    refine fun p hp => ⟨upd_same, [(Sum.inr "poly", .str "nf"), (Sum.inr "times", .str "noo"), (Sum.inr "seen", .str "nokd"), (Sum.inr "slope", .str "no"), (Sum.inr "drop", .str "o"), (Sum.inr "show", .str "o"), (Sum.inr "border", .str "o")], rfl, by decide, ?_⟩
    refine ⟨_, rfl, p, _, rfl, DPut.k (k := Sum.inr "solve") upd_same (small1000 (by decide +kernel)), _, rfl, p, _, rfl, DPut.k (k := Sum.inr "count") upd_same (small1000 (by decide +kernel)), _, rfl, p, _, rfl, DPut.k (k := Sum.inr "roots") upd_same (small1000 (by decide +kernel)), _, rfl, p, _, rfl, DPut.k (k := Sum.inr "single") upd_same (small1000 (by decide +kernel)), _, rfl, p, _, rfl, DPut.k (k := Sum.inr "root") upd_same (small1000 (by decide +kernel)), _, rfl, p, _, rfl, DPut.k (k := Sum.inr "small") upd_same (small1000 (by decide +kernel)), _, rfl, p, _, rfl, DPut.k (k := Sum.inr "parts") upd_same (small1000 (by decide +kernel)), _, rfl, p, _, rfl, DPut.k (k := Sum.inr "names") upd_same (small1000 (by decide +kernel)), _, rfl, _, rfl, p, .str (kindsD z), rfl, ?_, h _ ?_⟩
    · exact dget_of upd_same (kvIs_ok (List.all_eq_true.mp kv1_ok z hz))
    · exact same_mut (same_mut (same_mut (same_mut (same_mut (same_mut (same_mut (same_mut (same_mut (same_new hp) hp) hp) hp) hp) hp) hp) hp) hp) hp
end
end Dr

namespace Dr
open PySem PySem.Spec PyProof.Rows L2
theorem menu_at {ms : List Str} {m number : Int} (hm : ms.length = m.toNat) (h0 : 0 < m) : atI (ms.map V.str) (number % m) = some (.str (ms.getD (number % m).toNat "")) := by
  refine ix_emod (by rw [List.length_map]; exact hm) h0 ?_
  have h1 := Int.emod_nonneg number (show m ≠ 0 by omega)
  have h2 := Int.emod_lt_of_pos number h0
  rw [List.getElem?_map, getD_at (l := ms) (d := "") (by omega)]
  rfl
section
variable {P : Program} {w : World} {K : PySem.W.Frag} {mg : Str → Option Value} {base : Heap}
def spBad : Sp := fun vs H Q _ => ∃ (z : Str) (n : Int), vs = [.str z, .int n] ∧ ∀ H', Same H H' → Q (.str (badW z n)) H'
theorem scBad : FnScope ["kind", "number", "great"] ["kind", "number"] (defScope sLawBad) := ⟨rfl, rfl, rfl, by decide +kernel, rfl, by decide +kernel, by decide +kernel⟩
theorem great_ok : great.length = 61 := by decide +kernel
theorem great_is : Str.ofString (toString ((10 : Int) ^ (60 : Int).toNat)) = great := rfl
theorem ok_Bad (T : TX K mg) : DefP P w K mg base CX0 1 "_law_bad" ["kind", "number"] spBad := by
  obtain ⟨fd, F⟩ := T.fLawBad
  refine defP F T.gLawBad (fun _ _ _ _ _ _ us hl => match us, hl with | [_, _], _ => rfl) (F.ok scBad (fun vs H Q E h => ?_) (fun cdv A outer s H vs Q E hr h => ?_))
  · obtain ⟨z, n, rfl, _⟩ := h
    rfl
  · obtain ⟨z, n, rfl, h⟩ := h
    have nd := scBad.nd
    refine ⟨_, PSs.nox (pss_cons (ps_if (pt_cmpR op_eq (pv 0) pe_str (nomark _)) (pss_one (ps_ret (pe_ix (r := rIxL K) ix_list (pe_lst (pa_cons pe_str (pa_cons pe_str (pa_cons pe_str (pa_cons pe_str (pa_cons pe_str (pa_cons pe_str (pa_cons pe_str (pa_cons pe_str (pa_cons pe_str (pa_cons pe_str pa_nil))))))))))) (pe_op op_mod (pv 1) pe_int) (fun _ _ => rfl)))) pss_nil)
      (pss_cons (ps_if (pt_cmpR op_eq (pv 0) pe_str (nomark _)) (pss_one (ps_ret (pe_ix (r := rIxL K) ix_list (pe_lst (pa_cons pe_str (pa_cons pe_str (pa_cons pe_str (pa_cons pe_str (pa_cons pe_str (pa_cons pe_str (pa_cons pe_str (pa_cons pe_str (pa_cons pe_str (pa_cons pe_str pa_nil))))))))))) (pe_op op_mod (pv 1) pe_int) (fun _ _ => rfl)))) pss_nil)
      (pss_cons (ps_set (i := 2) nd rfl (.inl rfl) (pe_callTy call_str_int (by rfl) T.nstr PyProof.Rows.boot_str (pa_cons (pe_op op_pow pe_int pe_int) pa_nil)))
      (pss_cons (ps_if (pt_cmpR op_eq (pv 0) pe_str (nomark _)) (pss_one (ps_ret (pe_ix (r := rIxL K) ix_list (pe_lst (pa_cons pe_str (pa_cons pe_str (pa_cons pe_str (pa_cons pe_str (pa_cons pe_str (pa_cons pe_str (pa_cons pe_str (pa_cons (pv 2) (pa_cons pe_str (pa_cons (pe_op op_add_str pe_str (pv 2)) pa_nil))))))))))) (pe_op op_mod (pv 1) pe_int) (fun _ _ => rfl)))) pss_nil)
      (pss_cons (ps_if (pt_cmpR op_eq (pv 0) pe_str (nomark _)) (pss_one (ps_ret (pe_ix (r := rIxL K) ix_list (pe_lst (pa_cons pe_str (pa_cons pe_str (pa_cons pe_str (pa_cons pe_str (pa_cons pe_str (pa_cons pe_str (pa_cons pe_str (pa_cons pe_str (pa_cons (pv 2) (pa_cons pe_str pa_nil))))))))))) (pe_op op_mod (pv 1) pe_int) (fun _ _ => rfl)))) pss_nil)
      (pss_one (ps_ret (pe_ix (r := rIxL K) ix_list (pe_lst (pa_cons pe_str (pa_cons pe_str (pa_cons pe_str (pa_cons pe_str (pa_cons pe_str (pa_cons pe_str (pa_cons pe_str (pa_cons pe_str (pa_cons (pe_op op_add_str pe_str (pv 2)) (pa_cons pe_str (pa_cons (pe_op op_add_str pe_str (pe_op op_times pe_str pe_int)) pa_nil)))))))))))) (pe_op op_mod (pv 1) pe_int) (fun _ _ => rfl))))))))), ?_⟩
    have fin : ∀ {ms : List Str} {m : Int} {H' : Hp}, menu z = ms → ms.length = m.toNat → 0 < m → Same H H' → Q (.str (ms.getD (n % m).toNat "")) H' := fun {ms m H'} e hm h0 s0 => by
      have q := h H' s0
      unfold badW at q
      rw [e, hm, Int.toNat_of_nonneg (by omega)] at q
      exact q
    refine ⟨_, rfl, rfl, _, rfl, itY (fun c1 => ?_) fun c1 => ?_⟩
    · refine ⟨short rfl, fun p hp => ⟨_, rfl, _, _, rfl, rfl, over rfl, p, menuN.map V.str, _, _, rfl, rfl, SqL.of upd_same, menu_at (by decide +kernel) (by decide), fin (if_pos c1) (by decide +kernel) (by decide) (same_new hp)⟩⟩
    refine ⟨_, rfl, rfl, _, rfl, itY (fun c2 => ?_) fun c2 => ?_⟩
    · refine ⟨short rfl, fun p hp => ⟨_, rfl, _, _, rfl, rfl, over rfl, p, menuO.map V.str, _, _, rfl, rfl, SqL.of upd_same, menu_at (by decide +kernel) (by decide), fin (by unfold menu; rw [if_neg c1, if_pos c2]) (by decide +kernel) (by decide) (same_new hp)⟩⟩
    refine ⟨_, _, rfl, rfl, ⟨by decide, by decide, by decide⟩, _, rfl, by decide +kernel, ?_⟩
    rw [great_is]
    refine ⟨_, rfl, rfl, _, rfl, itY (fun c3 => ?_) fun c3 => ?_⟩
    · refine ⟨_, rfl, _, rfl, _, _, rfl, rfl, short (by rw [great_ok]; rfl), short rfl, fun p hp => ⟨_, rfl, _, _, rfl, rfl, over rfl, p, menuK.map V.str, _, _, rfl, rfl, SqL.of upd_same, menu_at (by decide +kernel) (by decide), fin (by unfold menu; rw [if_neg c1, if_neg c2, if_pos c3]) (by decide +kernel) (by decide) (same_new hp)⟩⟩
    refine ⟨_, rfl, rfl, _, rfl, itY (fun c4 => ?_) fun c4 => ?_⟩
    · refine ⟨_, rfl, short rfl, fun p hp => ⟨_, rfl, _, _, rfl, rfl, over rfl, p, menuD.map V.str, _, _, rfl, rfl, SqL.of upd_same, menu_at (by decide +kernel) (by decide), fin (by unfold menu; rw [if_neg c1, if_neg c2, if_neg c3, if_pos c4]) (by decide +kernel) (by decide) (same_new hp)⟩⟩
    · refine ⟨_, rfl, _, _, rfl, rfl, short (by rw [great_ok]; rfl), _, _, rfl, rfl, few_ok (by decide +kernel) (by decide) (by decide), _, _, rfl, rfl, short (by decide +kernel), short rfl, fun p hp => ⟨_, rfl, _, _, rfl, rfl, over rfl, p, menuF.map V.str, _, _, rfl, rfl, SqL.of upd_same, menu_at (by decide +kernel) (by decide), fin (by unfold menu; rw [if_neg c1, if_neg c2, if_neg c3, if_neg c4]) (by decide +kernel) (by decide) (same_new hp)⟩⟩
theorem inV_str {z : Str} : ∀ ws : List Str, inV (.str z) (ws.map V.str) = decide (z ∈ ws)
  | [] => rfl
  | y :: ws => by
    show (eqV (.str y) (.str z) || inV (.str z) (ws.map V.str)) = _
    rw [inV_str ws]
    have e : eqV (.str y) (.str z) = decide (z = y) := by
      show (y == z) = _
      rw [Bool.beq_eq_decide_eq]
      exact decide_eq_decide.mpr ⟨fun q => q.symm, fun q => q.symm⟩
    rw [e]
    by_cases c : z = y
    · rw [decide_eq_true c, decide_eq_true (show z ∈ y :: ws by rw [c]; exact List.mem_cons_self)]
      rfl
    · rw [decide_eq_false c, Bool.false_or]
      exact decide_eq_decide.mpr ⟨fun q => List.mem_cons_of_mem _ q, fun q => (List.mem_cons.mp q).resolve_left c⟩
/-! ### the refusal that a spoilt word earns -/
def spDue : Sp := fun vs H Q _ => ∃ a z : Str, vs = [.str a, .str z] ∧ ∀ H', Same H H' → Q (.str (wordDue a z)) H'
theorem scDue : FnScope ["kind", "word"] ["kind", "word"] (defScope sLawWordDue) := ⟨rfl, rfl, rfl, by decide +kernel, rfl, by decide +kernel, by decide +kernel⟩
theorem ok_Due (T : TX K mg) : DefP P w K mg base CX0 1 "_law_word_due" ["kind", "word"] spDue := by
  obtain ⟨fd, F⟩ := T.fLawWordDue
  refine defP F T.gLawWordDue (fun _ _ _ _ _ _ us hl => match us, hl with | [_, _], _ => rfl) (F.ok scDue (fun vs H Q E h => ?_) (fun cdv A outer s H vs Q E hr h => ?_))
  · obtain ⟨a, z, rfl, _⟩ := h
    rfl
  · obtain ⟨a, z, rfl, h⟩ := h
    have nd := scDue.nd
    refine ⟨_, PSs.nox (pss_cons (ps_if (PW.pt (pw_or (pt_cmpR op_eq (pv 0) pe_str (nomark _)) (pw_or1 (pt_cmpR op_eq (pv 0) pe_str (nomark _))))) (pss_one (ps_ret pe_str)) pss_nil)
      (pss_cons (ps_if (PW.pt (pw_and (pt_cmpR op_eq (pv 0) pe_str (nomark _)) (pw_and1 (pt_cmpR op_in_seq (pv 1) (pe_lst (pa_cons pe_str (pa_cons pe_str (pa_cons pe_str (pa_cons pe_str (pa_cons pe_str pa_nil)))))) rfl)))) (pss_one (ps_ret pe_str)) pss_nil)
      (pss_one (ps_ret pe_str)))), ?_⟩
    unfold wordDue at h
    refine ⟨_, rfl, rfl, _, rfl, itY (fun c1 => ?_) fun c1 => ⟨_, rfl, rfl, _, rfl, itY (fun c2 => ?_) fun c2 => ?_⟩⟩
    · rw [if_pos (.inl c1)] at h
      exact iteT (h _ (Same.refl H))
    · rw [if_pos (.inr c2)] at h
      exact h _ (Same.refl H)
    · rw [if_neg (fun q => q.elim c1 c2)] at h
      refine ⟨_, rfl, rfl, _, rfl, itY (fun c3 => ?_) fun c3 => ?_⟩
      · refine ⟨_, rfl, short rfl, fun p hp => ⟨p, deepMenu.map V.str, rfl, .inl (SqL.of upd_same), rfl, rfl, _, rfl, ?_⟩⟩
        show if inV (.str z) (deepMenu.map V.str) = true then _ else _
        rw [inV_str]
        by_cases c4 : z ∈ deepMenu
        · rw [decide_eq_true c4]
          rw [if_pos ⟨c3, c4⟩] at h
          exact iteT (h _ (same_new hp))
        · rw [decide_eq_false c4]
          rw [if_neg (fun q => c4 q.2)] at h
          exact iteF (h _ (same_new hp))
      · rw [if_neg (fun q => c3 q.1)] at h
        exact iteF (h _ (Same.refl H))
/-! ### a word too many or too few -/
def tailW (number : Int) : Str := [("" : Str), ("a" : Str), ("0" : Str), ("1,2" : Str)].getD (number / 2 % 4).toNat ""
def countedW (ws : List Str) (number : Int) : List Str := if number % 2 = 0 then ws.dropLast else ws ++ [tailW number]
/-- a pair [words, due], freshly made -/
def PairAt (H : Hp) (p : Addr) (ws : List Str) (due : Str) : Prop := ∃ a, H p = some (.lst [.ref a, .str due]) ∧ H a = some (lS ws)
theorem cut_last (ws : List Str) : cutV (ws.map V.str) none (some (-1)) = ws.dropLast.map V.str := by
  unfold cutV
  have e1 : HT.sIx (ws.map V.str).length 0 none = 0 := rfl
  have e2 : HT.sIx (ws.map V.str).length (ws.map V.str).length (some (-1)) = ws.length - 1 := by
    rw [List.length_map]
    show (if (-1 : Int) < 0 then ((-1 : Int) + (ws.length : Int)).toNat else min (-1 : Int).toNat ws.length) = _
    rw [if_pos (by decide)]
    omega
  rw [e1, e2, List.dropLast_eq_take, List.map_take]
  rfl
def spCounted (K : PySem.W.Frag) : Sp := fun vs H Q _ => ∃ (a : Addr) (ws : List Str) (n : Int), vs = [.ref a, .int n] ∧ H a = some (lS ws) ∧ ws.length ≤ 10 ∧ ∀ H' p, Same H H' → PairAt H' p (countedW ws n) "NoRow" → Q (.ref p) H'
theorem scCounted : FnScope ["words", "number"] ["words", "number"] (defScope sLawCounted) := ⟨rfl, rfl, rfl, by decide +kernel, rfl, by decide +kernel, by decide +kernel⟩
theorem ok_Counted (T : TX K mg) : DefP P w K mg base CX0 1 "_law_counted" ["words", "number"] (spCounted K) := by
  obtain ⟨fd, F⟩ := T.fLawCounted
  refine defP F T.gLawCounted (fun _ _ _ _ _ _ us hl => match us, hl with | [_, _], _ => rfl) (F.ok scCounted (fun vs H Q E h => ?_) (fun cdv A outer s H vs Q E hr h => ?_))
  · obtain ⟨a, ws, n, rfl, _⟩ := h
    rfl
  · obtain ⟨a, ws, n, rfl, ha, hl, h⟩ := h
    have nd := scCounted.nd
    refine ⟨_, PSs.nox (pss_cons (ps_if (pt_cmpR op_eq (pe_op op_mod (pv 1) pe_int) pe_int (nomark _)) (pss_one (ps_ret (pe_lst (pa_cons (pe_slice sl_list (pv 0) po_none (po_some (pe_un un_neg pe_int))) (pa_cons pe_str pa_nil))))) pss_nil)
      (pss_one (ps_ret (pe_lst (pa_cons (pe_op op_cat (pv 0) (pe_lst (pa_cons (pe_ix (r := rIxL K) ix_list (pe_lst (pa_cons pe_str (pa_cons pe_str (pa_cons pe_str (pa_cons pe_str pa_nil))))) (pe_op op_mod (pe_op op_fdiv (pv 1) pe_int) pe_int) (fun _ _ => rfl)) pa_nil))) (pa_cons pe_str pa_nil)))))), ?_⟩
    unfold countedW at h
    refine ⟨_, rfl, _, _, rfl, rfl, over rfl, rfl, _, rfl, ?_⟩
    by_cases c : n % 2 = 0
    · rw [decide_eq_true (show V.int (n % 2) = V.int 0 by rw [c])]
      rw [if_pos c] at h
      refine iteT ⟨_, rfl, 1, rfl, _, rfl, a, _, rfl, SqL.of ha, fun p hp => ⟨short rfl, fun q hq => ?_⟩⟩
      refine h _ q ((same_new hp).trans (same_new hq)) ⟨p, upd_same, ?_⟩
      rw [upd_ne (ne_of_none upd_same hq), upd_same]
      exact congrArg (fun l => some (HO.lst l)) (cut_last ws)
    · rw [decide_eq_false (show ¬ V.int (n % 2) = V.int 0 from fun q => c (V.int.inj q))]
      rw [if_neg c] at h
      refine iteF ⟨_, rfl, short rfl, fun p1 hp1 => ⟨_, rfl, _, _, rfl, rfl, parted rfl, _, _, rfl, rfl, over rfl, p1, ([("" : Str), ("a" : Str), ("0" : Str), ("1,2" : Str)] : List Str).map V.str, _, _, rfl, rfl, SqL.of upd_same, menu_at rfl (by decide), short rfl, fun p2 hp2 => ?_⟩⟩
      have s12 := (same_new (o := .lst [.str (""), .str ("a"), .str ("0"), .str ("1,2")]) hp1).trans (same_new (o := .lst [.str (tailW n)]) hp2)
      refine ⟨a, p2, _, _, rfl, rfl, s12 _ _ ha, upd_same, ?_, fun p3 hp3 => ⟨short rfl, fun q hq => ?_⟩⟩
      · rw [List.length_map]
        show ws.length + 1 ≤ sizeLine
        exact short (Nat.ble_eq_true_of_le (by omega))
      · refine h _ q (s12.trans ((same_new hp3).trans (same_new hq))) ⟨p3, upd_same, ?_⟩
        rw [upd_ne (ne_of_none upd_same hq), upd_same]
        show _ = some (HO.lst ((ws ++ [tailW n]).map V.str))
        rw [List.map_append]
        rfl
end
end Dr

namespace Dr
open PySem PySem.Spec PyProof.Rows L2
/-- items that are lists of texts -/
abbrev LL (H : Hp) : List V → List (List Str) → Prop := Paired fun v ws => ∃ a, v = .ref a ∧ H a = some (lS ws)
theorem LL.same {H H' : Hp} (s : Same H H') : ∀ {vs : List V} {rs : List (List Str)}, LL H vs rs → LL H' vs rs
  | _, _, .nil => .nil
  | _, _, .cons ⟨a, e, h⟩ t => .cons ⟨a, e, s _ _ h⟩ (LL.same s t)
theorem LL.app {H : Hp} : ∀ {vs us : List V} {rs qs : List (List Str)}, LL H vs rs → LL H us qs → LL H (vs ++ us) (rs ++ qs)
  | _, _, _, _, .nil, h => h
  | _, _, _, _, .cons a t, h => .cons a (LL.app t h)
theorem LL.snoc {H : Hp} {vs : List V} {rs : List (List Str)} {p : Addr} {ws : List Str} (L : LL H vs rs) (hp : H p = none) : LL (upd H p (lS ws)) (vs ++ [.ref p]) (rs ++ [ws]) :=
  (L.same (same_new hp)).app (.cons ⟨p, rfl, upd_same⟩ .nil)
theorem LL.get {H : Hp} : ∀ {vs : List V} {rs : List (List Str)} {i : Nat}, LL H vs rs → i < rs.length → ∃ a, vs[i]? = some (.ref a) ∧ H a = some (lS (rs.getD i []))
  | _, _, _, .nil, h => absurd h (by simp)
  | _, _, 0, .cons ⟨a, e, h⟩ _, _ => ⟨a, by rw [e]; rfl, h⟩
  | _ :: vs, _ :: rs, i + 1, .cons _ t, h => by
    have q := LL.get (vs := vs) (rs := rs) (i := i) t (Nat.lt_of_succ_lt_succ h)
    exact q
theorem LL.put {H : Hp} {vs : List V} {rs : List (List Str)} {p : Addr} (o : HO) (_ : LL H vs rs) : upd H p o p = some o := upd_same
theorem LL.len {H : Hp} : ∀ {vs : List V} {rs : List (List Str)}, LL H vs rs → vs.length = rs.length
  | _, _, .nil => rfl
  | _, _, .cons _ t => by rw [List.length_cons, List.length_cons, LL.len t]
theorem LL.at {H : Hp} {vs : List V} {rs : List (List Str)} {m number : Int} (L : LL H vs rs) (hm : rs.length = m.toNat) (h0 : 0 < m) : ∃ a, atI vs (number % m) = some (.ref a) ∧ H a = some (lS (rs.getD (number % m).toNat [])) := by
  have h1 := Int.emod_nonneg number (show m ≠ 0 by omega)
  have h2 := Int.emod_lt_of_pos number h0
  obtain ⟨a, e, h⟩ := L.get (i := (number % m).toNat) (by omega)
  exact ⟨a, ix_emod (by rw [L.len]; exact hm) h0 e, h⟩
def formsL (a b c d n : Str) : List (List Str) := [[("poly" : Str), n, ("1,2,3" : Str)], [("times" : Str), n, a, b], [("seen" : Str), n, a, ("5" : Str), ("2" : Str)], [("slope" : Str), n, b], [("drop" : Str), a], [("show" : Str), b], [("solve" : Str), a, ("3" : Str)], [("count" : Str), b, ("4" : Str)], [("single" : Str), a, ("2" : Str)], [("root" : Str), a, ("1" : Str), ("3" : Str)], [("roots" : Str), a, ("2" : Str)], [("border" : Str), b], [("small" : Str), ("3" : Str), ("5" : Str), ("2" : Str)], [("parts" : Str), a, b, c, ("2" : Str)], [("names" : Str)]]
def formW (a b c d n : Str) (number : Int) : List Str := (formsL a b c d n).getD (number % 15).toNat []
def deedsL (a b c d n : Str) (number : Int) : List (List Str) := [[("border" : Str), d], [("roots" : Str), d, ("3" : Str)], [("root" : Str), c, ("0" : Str), ("4" : Str)], [("small" : Str), ("7" : Str), ("5" : Str), ("-1" : Str)], [("small" : Str), ("7" : Str), ("0" : Str), ("1" : Str)], [("parts" : Str), a, b, c, ("0" : Str)], [("parts" : Str), c, c, c, ("3" : Str)], [("times" : Str), n, b, b], [("seen" : Str), n, a, ("1" : Str), ("60" : Str)], [("small" : Str), numT number, ("2" : Str), numT (10 ^ 9 + number)]]
def duesL : List Str := [("NoDepth" : Str), ("NoDepth" : Str), ("NoSingle" : Str), ("NoSmall" : Str), ("NoSmall" : Str), ("NoParts" : Str), ("NoParts" : Str), ("TooGreat" : Str), ("TooGreat" : Str), ("NoSmall" : Str)]
def deedW (a b c d n : Str) (number : Int) : List Str := (deedsL a b c d n number).getD (number % 10).toNat []
def deedDue (number : Int) : Str := duesL.getD (number % 10).toNat ""
section
variable {P : Program} {w : World} {K : PySem.W.Frag} {mg : Str → Option Value} {base : Heap}
def spForm (K : PySem.W.Frag) : Sp := fun vs H Q _ => ∃ (number : Int) (nb : Addr) (a b c d l n : Str), vs = [.int number, .ref nb, .str n] ∧ H nb = some (lS [a, b, c, d, l]) ∧ ∀ H' p, Same H H' → H' p = some (lS (formW a b c d n number)) → Q (.ref p) H'
theorem scForm : FnScope ["number", "names", "n", "a", "b", "c", "d", "last", "forms"] ["number", "names", "n"] (defScope sLawForm) := ⟨rfl, rfl, rfl, by decide +kernel, rfl, by decide +kernel, by decide +kernel⟩
theorem ok_Form (T : TX K mg) : DefP P w K mg base CX0 1 "_law_form" ["number", "names", "n"] (spForm K) := by
  obtain ⟨fd, F⟩ := T.fLawForm
  refine defP F T.gLawForm (fun _ _ _ _ _ _ us hl => match us, hl with | [_, _, _], _ => rfl) (F.ok scForm (fun vs H Q E h => ?_) (fun cdv A outer s H vs Q E hr h => ?_))
  · obtain ⟨number, nb, a, b, c, d, l, n, rfl, _⟩ := h
    rfl
  · obtain ⟨number, nb, a, b, c, d, l, n, rfl, hn, h⟩ := h
    have nd := scForm.nd
    refine ⟨_, PSs.nox (pss_cons (ps_asg (pv 1) (pg_lst rfl (pgs_cons (pg_name (i := 3) nd rfl (.inl rfl)) (pgs_cons (pg_name (i := 4) nd rfl (.inl rfl)) (pgs_cons (pg_name (i := 5) nd rfl (.inl rfl)) (pgs_cons (pg_name (i := 6) nd rfl (.inl rfl)) (pgs_cons (pg_name (i := 7) nd rfl (.inl rfl)) pgs_nil)))))))
      (pss_cons (ps_set (i := 8) nd rfl (.inl rfl) (pe_lst (pa_cons (pe_lst (pa_cons pe_str (pa_cons (pv 2) (pa_cons pe_str pa_nil)))) (pa_cons (pe_lst (pa_cons pe_str (pa_cons (pv 2) (pa_cons (pv 3) (pa_cons (pv 4) pa_nil))))) (pa_cons (pe_lst (pa_cons pe_str (pa_cons (pv 2) (pa_cons (pv 3) (pa_cons pe_str (pa_cons pe_str pa_nil)))))) (pa_cons (pe_lst (pa_cons pe_str (pa_cons (pv 2) (pa_cons (pv 4) pa_nil)))) (pa_cons (pe_lst (pa_cons pe_str (pa_cons (pv 3) pa_nil))) pa_nil)))))))
      (pss_cons (ps_set (i := 8) nd rfl (.inl rfl) (pe_op op_cat (pv 8) (pe_lst (pa_cons (pe_lst (pa_cons pe_str (pa_cons (pv 4) pa_nil))) (pa_cons (pe_lst (pa_cons pe_str (pa_cons (pv 3) (pa_cons pe_str pa_nil)))) (pa_cons (pe_lst (pa_cons pe_str (pa_cons (pv 4) (pa_cons pe_str pa_nil)))) (pa_cons (pe_lst (pa_cons pe_str (pa_cons (pv 3) (pa_cons pe_str pa_nil)))) (pa_cons (pe_lst (pa_cons pe_str (pa_cons (pv 3) (pa_cons pe_str (pa_cons pe_str pa_nil))))) pa_nil))))))))
      (pss_cons (ps_set (i := 8) nd rfl (.inl rfl) (pe_op op_cat (pv 8) (pe_lst (pa_cons (pe_lst (pa_cons pe_str (pa_cons (pv 3) (pa_cons pe_str pa_nil)))) (pa_cons (pe_lst (pa_cons pe_str (pa_cons (pv 4) pa_nil))) (pa_cons (pe_lst (pa_cons pe_str (pa_cons pe_str (pa_cons pe_str (pa_cons pe_str pa_nil))))) (pa_cons (pe_lst (pa_cons pe_str (pa_cons (pv 3) (pa_cons (pv 4) (pa_cons (pv 5) (pa_cons pe_str pa_nil)))))) (pa_cons (pe_lst (pa_cons pe_str pa_nil)) pa_nil))))))))
      (pss_one (ps_ret (pe_ix (r := rIxL K) ix_list (pv 8) (pe_op op_mod (pv 0) pe_int) (fun _ _ => rfl)))))))), ?_⟩
    refine ⟨_, rfl, nb, _, rfl, SqL.of hn, rfl, _, _, rfl, _, _, rfl, _, _, rfl, _, _, rfl, _, _, rfl, rfl, ?_⟩
    have L0 : LL H [] [] := .nil
    have S0 : Same H H := Same.refl H
    refine ⟨_, rfl, short rfl, fun p1 hp1 => ?_⟩
    have L1 := L0.snoc (ws := [("poly" : Str), n, ("1,2,3" : Str)]) hp1
    have S1 := S0.trans (same_new (o := lS [("poly" : Str), n, ("1,2,3" : Str)]) hp1)
    refine ⟨_, rfl, _, rfl, _, rfl, short rfl, fun p2 hp2 => ?_⟩
    have L2 := L1.snoc (ws := [("times" : Str), n, a, b]) hp2
    have S2 := S1.trans (same_new (o := lS [("times" : Str), n, a, b]) hp2)
    refine ⟨_, rfl, _, rfl, short rfl, fun p3 hp3 => ?_⟩
    have L3 := L2.snoc (ws := [("seen" : Str), n, a, ("5" : Str), ("2" : Str)]) hp3
    have S3 := S2.trans (same_new (o := lS [("seen" : Str), n, a, ("5" : Str), ("2" : Str)]) hp3)
    refine ⟨_, rfl, _, rfl, short rfl, fun p4 hp4 => ?_⟩
    have L4 := L3.snoc (ws := [("slope" : Str), n, b]) hp4
    have S4 := S3.trans (same_new (o := lS [("slope" : Str), n, b]) hp4)
    refine ⟨_, rfl, short rfl, fun p5 hp5 => ?_⟩
    have L5 := L4.snoc (ws := [("drop" : Str), a]) hp5
    have S5 := S4.trans (same_new (o := lS [("drop" : Str), a]) hp5)
    refine ⟨short rfl, fun p6 hp6 => ?_⟩
    have X6 := L5.put (p := p6) (.lst [.ref p1, .ref p2, .ref p3, .ref p4, .ref p5])
    have L6 := L5.same (same_new (o := .lst [.ref p1, .ref p2, .ref p3, .ref p4, .ref p5]) hp6)
    have S6 := S5.trans (same_new (o := .lst [.ref p1, .ref p2, .ref p3, .ref p4, .ref p5]) hp6)
    refine ⟨_, rfl, ?_⟩
    refine ⟨_, rfl, short rfl, fun p7 hp7 => ?_⟩
    have L7 := L6.snoc (ws := [("show" : Str), b]) hp7
    have S7 := S6.trans (same_new (o := lS [("show" : Str), b]) hp7)
    have X6 := same_new (o := lS [("show" : Str), b]) hp7 _ _ X6
    refine ⟨_, rfl, short rfl, fun p8 hp8 => ?_⟩
    have L8 := L7.snoc (ws := [("solve" : Str), a, ("3" : Str)]) hp8
    have S8 := S7.trans (same_new (o := lS [("solve" : Str), a, ("3" : Str)]) hp8)
    have X6 := same_new (o := lS [("solve" : Str), a, ("3" : Str)]) hp8 _ _ X6
    refine ⟨_, rfl, short rfl, fun p9 hp9 => ?_⟩
    have L9 := L8.snoc (ws := [("count" : Str), b, ("4" : Str)]) hp9
    have S9 := S8.trans (same_new (o := lS [("count" : Str), b, ("4" : Str)]) hp9)
    have X6 := same_new (o := lS [("count" : Str), b, ("4" : Str)]) hp9 _ _ X6
    refine ⟨_, rfl, short rfl, fun p10 hp10 => ?_⟩
    have L10 := L9.snoc (ws := [("single" : Str), a, ("2" : Str)]) hp10
    have S10 := S9.trans (same_new (o := lS [("single" : Str), a, ("2" : Str)]) hp10)
    have X6 := same_new (o := lS [("single" : Str), a, ("2" : Str)]) hp10 _ _ X6
    refine ⟨_, rfl, short rfl, fun p11 hp11 => ?_⟩
    have L11 := L10.snoc (ws := [("root" : Str), a, ("1" : Str), ("3" : Str)]) hp11
    have S11 := S10.trans (same_new (o := lS [("root" : Str), a, ("1" : Str), ("3" : Str)]) hp11)
    have X6 := same_new (o := lS [("root" : Str), a, ("1" : Str), ("3" : Str)]) hp11 _ _ X6
    refine ⟨short rfl, fun p12 hp12 => ?_⟩
    have X12 := L11.put (p := p12) (.lst [.ref p7, .ref p8, .ref p9, .ref p10, .ref p11])
    have L12 := L11.same (same_new (o := .lst [.ref p7, .ref p8, .ref p9, .ref p10, .ref p11]) hp12)
    have S12 := S11.trans (same_new (o := .lst [.ref p7, .ref p8, .ref p9, .ref p10, .ref p11]) hp12)
    have X6 := same_new (o := .lst [.ref p7, .ref p8, .ref p9, .ref p10, .ref p11]) hp12 _ _ X6
    refine ⟨p6, p12, _, _, rfl, rfl, X6, X12, short rfl, fun p13 hp13 => ?_⟩
    have X13 := L12.put (p := p13) (.lst [.ref p1, .ref p2, .ref p3, .ref p4, .ref p5, .ref p7, .ref p8, .ref p9, .ref p10, .ref p11])
    have L13 := L12.same (same_new (o := .lst [.ref p1, .ref p2, .ref p3, .ref p4, .ref p5, .ref p7, .ref p8, .ref p9, .ref p10, .ref p11]) hp13)
    have S13 := S12.trans (same_new (o := .lst [.ref p1, .ref p2, .ref p3, .ref p4, .ref p5, .ref p7, .ref p8, .ref p9, .ref p10, .ref p11]) hp13)
    have X6 := same_new (o := .lst [.ref p1, .ref p2, .ref p3, .ref p4, .ref p5, .ref p7, .ref p8, .ref p9, .ref p10, .ref p11]) hp13 _ _ X6
    have X12 := same_new (o := .lst [.ref p1, .ref p2, .ref p3, .ref p4, .ref p5, .ref p7, .ref p8, .ref p9, .ref p10, .ref p11]) hp13 _ _ X12
    refine ⟨_, rfl, ?_⟩
    refine ⟨_, rfl, short rfl, fun p14 hp14 => ?_⟩
    have L14 := L13.snoc (ws := [("roots" : Str), a, ("2" : Str)]) hp14
    have S14 := S13.trans (same_new (o := lS [("roots" : Str), a, ("2" : Str)]) hp14)
    have X13 := same_new (o := lS [("roots" : Str), a, ("2" : Str)]) hp14 _ _ X13
    refine ⟨_, rfl, short rfl, fun p15 hp15 => ?_⟩
    have L15 := L14.snoc (ws := [("border" : Str), b]) hp15
    have S15 := S14.trans (same_new (o := lS [("border" : Str), b]) hp15)
    have X13 := same_new (o := lS [("border" : Str), b]) hp15 _ _ X13
    refine ⟨short rfl, fun p16 hp16 => ?_⟩
    have L16 := L15.snoc (ws := [("small" : Str), ("3" : Str), ("5" : Str), ("2" : Str)]) hp16
    have S16 := S15.trans (same_new (o := lS [("small" : Str), ("3" : Str), ("5" : Str), ("2" : Str)]) hp16)
    have X13 := same_new (o := lS [("small" : Str), ("3" : Str), ("5" : Str), ("2" : Str)]) hp16 _ _ X13
    refine ⟨_, rfl, _, rfl, _, rfl, short rfl, fun p17 hp17 => ?_⟩
    have L17 := L16.snoc (ws := [("parts" : Str), a, b, c, ("2" : Str)]) hp17
    have S17 := S16.trans (same_new (o := lS [("parts" : Str), a, b, c, ("2" : Str)]) hp17)
    have X13 := same_new (o := lS [("parts" : Str), a, b, c, ("2" : Str)]) hp17 _ _ X13
    refine ⟨short rfl, fun p18 hp18 => ?_⟩
    have L18 := L17.snoc (ws := [("names" : Str)]) hp18
    have S18 := S17.trans (same_new (o := lS [("names" : Str)]) hp18)
    have X13 := same_new (o := lS [("names" : Str)]) hp18 _ _ X13
    refine ⟨short rfl, fun p19 hp19 => ?_⟩
    have X19 := L18.put (p := p19) (.lst [.ref p14, .ref p15, .ref p16, .ref p17, .ref p18])
    have L19 := L18.same (same_new (o := .lst [.ref p14, .ref p15, .ref p16, .ref p17, .ref p18]) hp19)
    have S19 := S18.trans (same_new (o := .lst [.ref p14, .ref p15, .ref p16, .ref p17, .ref p18]) hp19)
    have X13 := same_new (o := .lst [.ref p14, .ref p15, .ref p16, .ref p17, .ref p18]) hp19 _ _ X13
    refine ⟨p13, p19, _, _, rfl, rfl, X13, X19, short rfl, fun p20 hp20 => ?_⟩
    have X20 := L19.put (p := p20) (.lst [.ref p1, .ref p2, .ref p3, .ref p4, .ref p5, .ref p7, .ref p8, .ref p9, .ref p10, .ref p11, .ref p14, .ref p15, .ref p16, .ref p17, .ref p18])
    have L20 := L19.same (same_new (o := .lst [.ref p1, .ref p2, .ref p3, .ref p4, .ref p5, .ref p7, .ref p8, .ref p9, .ref p10, .ref p11, .ref p14, .ref p15, .ref p16, .ref p17, .ref p18]) hp20)
    have S20 := S19.trans (same_new (o := .lst [.ref p1, .ref p2, .ref p3, .ref p4, .ref p5, .ref p7, .ref p8, .ref p9, .ref p10, .ref p11, .ref p14, .ref p15, .ref p16, .ref p17, .ref p18]) hp20)
    have X13 := same_new (o := .lst [.ref p1, .ref p2, .ref p3, .ref p4, .ref p5, .ref p7, .ref p8, .ref p9, .ref p10, .ref p11, .ref p14, .ref p15, .ref p16, .ref p17, .ref p18]) hp20 _ _ X13
    have X19 := same_new (o := .lst [.ref p1, .ref p2, .ref p3, .ref p4, .ref p5, .ref p7, .ref p8, .ref p9, .ref p10, .ref p11, .ref p14, .ref p15, .ref p16, .ref p17, .ref p18]) hp20 _ _ X19
    obtain ⟨e, he1, he2⟩ := L20.at (m := 15) (number := number) rfl (by decide)
    exact ⟨_, rfl, _, rfl, _, _, rfl, rfl, over rfl, p20, _, _, _, rfl, rfl, SqL.of X20, he1, h _ e S20 he2⟩
end
end Dr

namespace Dr
open PySem PySem.Spec PyProof.Rows L2
section
variable {P : Program} {w : World} {K : PySem.W.Frag} {mg : Str → Option Value} {base : Heap}
def spDeed (K : PySem.W.Frag) : Sp := fun vs H Q _ => ∃ (number : Int) (nb : Addr) (a b c d l n : Str), vs = [.ref nb, .int number, .str n] ∧ H nb = some (lS [a, b, c, d, l]) ∧ (0 ≤ number ∧ number < 2 ^ 40) ∧ ∀ H' p, Same H H' → PairAt H' p (deedW a b c d n number) (deedDue number) → Q (.ref p) H'
theorem scDeed : FnScope ["names", "number", "n", "a", "b", "c", "d", "last", "rows", "dues"] ["names", "number", "n"] (defScope sLawDeed) := ⟨rfl, rfl, rfl, by decide +kernel, rfl, by decide +kernel, by decide +kernel⟩
theorem log_ok {x : Int} (h0 : 0 ≤ x) (h1 : x < 2 ^ 41) : x.natAbs.log2 < 1920 := by
  by_cases z : x.natAbs = 0
  · rw [z]
    decide
  · have q : x.natAbs < 2 ^ 41 := by omega
    have := (Nat.log2_lt z).mpr q
    omega
theorem ok_Deed (T : TX K mg) : DefP P w K mg base CX0 1 "_law_deed" ["names", "number", "n"] (spDeed K) := by
  obtain ⟨fd, F⟩ := T.fLawDeed
  refine defP F T.gLawDeed (fun _ _ _ _ _ _ us hl => match us, hl with | [_, _, _], _ => rfl) (F.ok scDeed (fun vs H Q E h => ?_) (fun cdv A outer s H vs Q E hr h => ?_))
  · obtain ⟨number, nb, a, b, c, d, l, n, rfl, _⟩ := h
    rfl
  · obtain ⟨number, nb, a, b, c, d, l, n, rfl, hn, ⟨hz0, hz1⟩, h⟩ := h
    have nd := scDeed.nd
    have hn1 := log_ok hz0 (show number < 2 ^ 41 by omega)
    have hn2 : ((10 : Int) ^ (9 : Int).toNat + number).natAbs.log2 < 1920 := log_ok (by show (0 : Int) ≤ 10 ^ 9 + number; omega) (by show (10 : Int) ^ 9 + number < 2 ^ 41; omega)
    refine ⟨_, PSs.nox (pss_cons (ps_asg (pv 0) (pg_lst rfl (pgs_cons (pg_name (i := 3) nd rfl (.inl rfl)) (pgs_cons (pg_name (i := 4) nd rfl (.inl rfl)) (pgs_cons (pg_name (i := 5) nd rfl (.inl rfl)) (pgs_cons (pg_name (i := 6) nd rfl (.inl rfl)) (pgs_cons (pg_name (i := 7) nd rfl (.inl rfl)) pgs_nil)))))))
      (pss_cons (ps_set (i := 8) nd rfl (.inl rfl) (pe_lst (pa_cons (pe_lst (pa_cons pe_str (pa_cons (pv 6) pa_nil))) (pa_cons (pe_lst (pa_cons pe_str (pa_cons (pv 6) (pa_cons pe_str pa_nil)))) (pa_cons (pe_lst (pa_cons pe_str (pa_cons (pv 5) (pa_cons pe_str (pa_cons pe_str pa_nil))))) (pa_cons (pe_lst (pa_cons pe_str (pa_cons pe_str (pa_cons pe_str (pa_cons pe_str pa_nil))))) pa_nil))))))
      (pss_cons (ps_set (i := 8) nd rfl (.inl rfl) (pe_op op_cat (pv 8) (pe_lst (pa_cons (pe_lst (pa_cons pe_str (pa_cons pe_str (pa_cons pe_str (pa_cons pe_str pa_nil))))) pa_nil))))
      (pss_cons (ps_set (i := 8) nd rfl (.inl rfl) (pe_op op_cat (pv 8) (pe_lst (pa_cons (pe_lst (pa_cons pe_str (pa_cons (pv 3) (pa_cons (pv 4) (pa_cons (pv 5) (pa_cons pe_str pa_nil)))))) (pa_cons (pe_lst (pa_cons pe_str (pa_cons (pv 5) (pa_cons (pv 5) (pa_cons (pv 5) (pa_cons pe_str pa_nil)))))) (pa_cons (pe_lst (pa_cons pe_str (pa_cons (pv 2) (pa_cons (pv 4) (pa_cons (pv 4) pa_nil))))) (pa_cons (pe_lst (pa_cons pe_str (pa_cons (pv 2) (pa_cons (pv 3) (pa_cons pe_str (pa_cons pe_str pa_nil)))))) pa_nil)))))))
      (pss_cons (ps_set (i := 8) nd rfl (.inl rfl) (pe_op op_cat (pv 8) (pe_lst (pa_cons (pe_lst (pa_cons pe_str (pa_cons (pe_callTy call_str_int (by rfl) T.nstr PyProof.Rows.boot_str (pa_cons (pv 1) pa_nil)) (pa_cons pe_str (pa_cons (pe_callTy call_str_int (by rfl) T.nstr PyProof.Rows.boot_str (pa_cons (pe_op op_add (pe_op op_pow pe_int pe_int) (pv 1)) pa_nil)) pa_nil))))) pa_nil))))
      (pss_cons (ps_set (i := 9) nd rfl (.inl rfl) (pe_lst (pa_cons pe_str (pa_cons pe_str (pa_cons pe_str (pa_cons pe_str (pa_cons pe_str (pa_cons pe_str (pa_cons pe_str (pa_cons pe_str (pa_cons pe_str pa_nil)))))))))))
      (pss_cons (ps_set (i := 9) nd rfl (.inl rfl) (pe_op op_cat (pv 9) (pe_lst (pa_cons pe_str pa_nil))))
      (pss_one (ps_ret (pe_lst (pa_cons (pe_ix (r := rIxL K) ix_list (pv 8) (pe_op op_mod (pv 1) pe_int) (fun _ _ => rfl)) (pa_cons (pe_ix (r := rIxL K) ix_list (pv 9) (pe_op op_mod (pv 1) pe_int) (fun _ _ => rfl)) pa_nil)))))))))))), ?_⟩
    refine ⟨_, rfl, nb, _, rfl, SqL.of hn, rfl, _, _, rfl, _, _, rfl, _, _, rfl, _, _, rfl, _, _, rfl, rfl, ?_⟩
    have L0 : LL H [] [] := .nil
    have S0 : Same H H := Same.refl H
    refine ⟨_, rfl, short rfl, fun p1 hp1 => ?_⟩
    have L1 := L0.snoc (ws := [("border" : Str), d]) hp1
    have S1 := S0.trans (same_new (o := lS [("border" : Str), d]) hp1)
    refine ⟨_, rfl, short rfl, fun p2 hp2 => ?_⟩
    have L2 := L1.snoc (ws := [("roots" : Str), d, ("3" : Str)]) hp2
    have S2 := S1.trans (same_new (o := lS [("roots" : Str), d, ("3" : Str)]) hp2)
    refine ⟨_, rfl, short rfl, fun p3 hp3 => ?_⟩
    have L3 := L2.snoc (ws := [("root" : Str), c, ("0" : Str), ("4" : Str)]) hp3
    have S3 := S2.trans (same_new (o := lS [("root" : Str), c, ("0" : Str), ("4" : Str)]) hp3)
    refine ⟨short rfl, fun p4 hp4 => ?_⟩
    have L4 := L3.snoc (ws := [("small" : Str), ("7" : Str), ("5" : Str), ("-1" : Str)]) hp4
    have S4 := S3.trans (same_new (o := lS [("small" : Str), ("7" : Str), ("5" : Str), ("-1" : Str)]) hp4)
    refine ⟨short rfl, fun p5 hp5 => ?_⟩
    have X5 := L4.put (p := p5) (.lst [.ref p1, .ref p2, .ref p3, .ref p4])
    have L5 := L4.same (same_new (o := .lst [.ref p1, .ref p2, .ref p3, .ref p4]) hp5)
    have S5 := S4.trans (same_new (o := .lst [.ref p1, .ref p2, .ref p3, .ref p4]) hp5)
    refine ⟨_, rfl, ?_⟩
    refine ⟨short rfl, fun p6 hp6 => ?_⟩
    have L6 := L5.snoc (ws := [("small" : Str), ("7" : Str), ("0" : Str), ("1" : Str)]) hp6
    have S6 := S5.trans (same_new (o := lS [("small" : Str), ("7" : Str), ("0" : Str), ("1" : Str)]) hp6)
    have X5 := same_new (o := lS [("small" : Str), ("7" : Str), ("0" : Str), ("1" : Str)]) hp6 _ _ X5
    refine ⟨short rfl, fun p7 hp7 => ?_⟩
    have X7 := L6.put (p := p7) (.lst [.ref p6])
    have L7 := L6.same (same_new (o := .lst [.ref p6]) hp7)
    have S7 := S6.trans (same_new (o := .lst [.ref p6]) hp7)
    have X5 := same_new (o := .lst [.ref p6]) hp7 _ _ X5
    refine ⟨p5, p7, _, _, rfl, rfl, X5, X7, short rfl, fun p8 hp8 => ?_⟩
    have X8 := L7.put (p := p8) (.lst [.ref p1, .ref p2, .ref p3, .ref p4, .ref p6])
    have L8 := L7.same (same_new (o := .lst [.ref p1, .ref p2, .ref p3, .ref p4, .ref p6]) hp8)
    have S8 := S7.trans (same_new (o := .lst [.ref p1, .ref p2, .ref p3, .ref p4, .ref p6]) hp8)
    have X5 := same_new (o := .lst [.ref p1, .ref p2, .ref p3, .ref p4, .ref p6]) hp8 _ _ X5
    have X7 := same_new (o := .lst [.ref p1, .ref p2, .ref p3, .ref p4, .ref p6]) hp8 _ _ X7
    refine ⟨_, rfl, ?_⟩
    refine ⟨_, rfl, _, rfl, _, rfl, short rfl, fun p9 hp9 => ?_⟩
    have L9 := L8.snoc (ws := [("parts" : Str), a, b, c, ("0" : Str)]) hp9
    have S9 := S8.trans (same_new (o := lS [("parts" : Str), a, b, c, ("0" : Str)]) hp9)
    have X8 := same_new (o := lS [("parts" : Str), a, b, c, ("0" : Str)]) hp9 _ _ X8
    refine ⟨_, rfl, _, rfl, _, rfl, short rfl, fun p10 hp10 => ?_⟩
    have L10 := L9.snoc (ws := [("parts" : Str), c, c, c, ("3" : Str)]) hp10
    have S10 := S9.trans (same_new (o := lS [("parts" : Str), c, c, c, ("3" : Str)]) hp10)
    have X8 := same_new (o := lS [("parts" : Str), c, c, c, ("3" : Str)]) hp10 _ _ X8
    refine ⟨_, rfl, _, rfl, _, rfl, short rfl, fun p11 hp11 => ?_⟩
    have L11 := L10.snoc (ws := [("times" : Str), n, b, b]) hp11
    have S11 := S10.trans (same_new (o := lS [("times" : Str), n, b, b]) hp11)
    have X8 := same_new (o := lS [("times" : Str), n, b, b]) hp11 _ _ X8
    refine ⟨_, rfl, _, rfl, short rfl, fun p12 hp12 => ?_⟩
    have L12 := L11.snoc (ws := [("seen" : Str), n, a, ("1" : Str), ("60" : Str)]) hp12
    have S12 := S11.trans (same_new (o := lS [("seen" : Str), n, a, ("1" : Str), ("60" : Str)]) hp12)
    have X8 := same_new (o := lS [("seen" : Str), n, a, ("1" : Str), ("60" : Str)]) hp12 _ _ X8
    refine ⟨short rfl, fun p13 hp13 => ?_⟩
    have X13 := L12.put (p := p13) (.lst [.ref p9, .ref p10, .ref p11, .ref p12])
    have L13 := L12.same (same_new (o := .lst [.ref p9, .ref p10, .ref p11, .ref p12]) hp13)
    have S13 := S12.trans (same_new (o := .lst [.ref p9, .ref p10, .ref p11, .ref p12]) hp13)
    have X8 := same_new (o := .lst [.ref p9, .ref p10, .ref p11, .ref p12]) hp13 _ _ X8
    refine ⟨p8, p13, _, _, rfl, rfl, X8, X13, short rfl, fun p14 hp14 => ?_⟩
    have X14 := L13.put (p := p14) (.lst [.ref p1, .ref p2, .ref p3, .ref p4, .ref p6, .ref p9, .ref p10, .ref p11, .ref p12])
    have L14 := L13.same (same_new (o := .lst [.ref p1, .ref p2, .ref p3, .ref p4, .ref p6, .ref p9, .ref p10, .ref p11, .ref p12]) hp14)
    have S14 := S13.trans (same_new (o := .lst [.ref p1, .ref p2, .ref p3, .ref p4, .ref p6, .ref p9, .ref p10, .ref p11, .ref p12]) hp14)
    have X8 := same_new (o := .lst [.ref p1, .ref p2, .ref p3, .ref p4, .ref p6, .ref p9, .ref p10, .ref p11, .ref p12]) hp14 _ _ X8
    have X13 := same_new (o := .lst [.ref p1, .ref p2, .ref p3, .ref p4, .ref p6, .ref p9, .ref p10, .ref p11, .ref p12]) hp14 _ _ X13
    refine ⟨_, rfl, ?_⟩
    refine ⟨_, rfl, number, rfl, hn1, _, _, rfl, rfl, ⟨by decide, by decide, by decide⟩, _, rfl, _, _, rfl, rfl, _, rfl, hn2, short rfl, fun p15 hp15 => ?_⟩
    have L15 := L14.snoc (ws := [("small" : Str), numT number, ("2" : Str), numT (10 ^ 9 + number)]) hp15
    have S15 := S14.trans (same_new (o := lS [("small" : Str), numT number, ("2" : Str), numT (10 ^ 9 + number)]) hp15)
    have X14 := same_new (o := lS [("small" : Str), numT number, ("2" : Str), numT (10 ^ 9 + number)]) hp15 _ _ X14
    refine ⟨short rfl, fun p16 hp16 => ?_⟩
    have X16 := L15.put (p := p16) (.lst [.ref p15])
    have L16 := L15.same (same_new (o := .lst [.ref p15]) hp16)
    have S16 := S15.trans (same_new (o := .lst [.ref p15]) hp16)
    have X14 := same_new (o := .lst [.ref p15]) hp16 _ _ X14
    refine ⟨p14, p16, _, _, rfl, rfl, X14, X16, short rfl, fun p17 hp17 => ?_⟩
    have X17 := L16.put (p := p17) (.lst [.ref p1, .ref p2, .ref p3, .ref p4, .ref p6, .ref p9, .ref p10, .ref p11, .ref p12, .ref p15])
    have L17 := L16.same (same_new (o := .lst [.ref p1, .ref p2, .ref p3, .ref p4, .ref p6, .ref p9, .ref p10, .ref p11, .ref p12, .ref p15]) hp17)
    have S17 := S16.trans (same_new (o := .lst [.ref p1, .ref p2, .ref p3, .ref p4, .ref p6, .ref p9, .ref p10, .ref p11, .ref p12, .ref p15]) hp17)
    have X14 := same_new (o := .lst [.ref p1, .ref p2, .ref p3, .ref p4, .ref p6, .ref p9, .ref p10, .ref p11, .ref p12, .ref p15]) hp17 _ _ X14
    have X16 := same_new (o := .lst [.ref p1, .ref p2, .ref p3, .ref p4, .ref p6, .ref p9, .ref p10, .ref p11, .ref p12, .ref p15]) hp17 _ _ X16
    refine ⟨short rfl, fun p18 hp18 => ?_⟩
    have X18 := L17.put (p := p18) (.lst ((duesL.take 9).map V.str))
    have L18 := L17.same (same_new (o := .lst ((duesL.take 9).map V.str)) hp18)
    have S18 := S17.trans (same_new (o := .lst ((duesL.take 9).map V.str)) hp18)
    have X17 := same_new (o := .lst ((duesL.take 9).map V.str)) hp18 _ _ X17
    refine ⟨_, rfl, short rfl, fun p19 hp19 => ?_⟩
    have X19 := L18.put (p := p19) (.lst [.str ("NoSmall")])
    have L19 := L18.same (same_new (o := .lst [.str ("NoSmall")]) hp19)
    have S19 := S18.trans (same_new (o := .lst [.str ("NoSmall")]) hp19)
    have X17 := same_new (o := .lst [.str ("NoSmall")]) hp19 _ _ X17
    have X18 := same_new (o := .lst [.str ("NoSmall")]) hp19 _ _ X18
    refine ⟨p18, p19, _, _, rfl, rfl, X18, X19, short rfl, fun p20 hp20 => ?_⟩
    have X20 := L19.put (p := p20) (.lst (duesL.map V.str))
    have L20 := L19.same (same_new (o := .lst (duesL.map V.str)) hp20)
    have S20 := S19.trans (same_new (o := .lst (duesL.map V.str)) hp20)
    have X17 := same_new (o := .lst (duesL.map V.str)) hp20 _ _ X17
    have X18 := same_new (o := .lst (duesL.map V.str)) hp20 _ _ X18
    have X19 := same_new (o := .lst (duesL.map V.str)) hp20 _ _ X19
    obtain ⟨e, he1, he2⟩ := L20.at (m := 10) (number := number) rfl (by decide)
    refine ⟨_, rfl, _, rfl, _, _, rfl, rfl, over rfl, p17, _, _, _, rfl, rfl, SqL.of X17, he1, _, rfl, _, rfl, _, _, rfl, rfl, over rfl, p20, duesL.map V.str, _, _, rfl, rfl, SqL.of X20, menu_at rfl (by decide), short rfl, fun q hq => ?_⟩
    exact h _ q (S20.trans (same_new hq)) ⟨e, upd_same, same_new hq _ _ he2⟩
end
end Dr

namespace Dr
open PySem PySem.Spec PyProof.Rows L2
def kAt (kd : Str) (i : Nat) : Str := sg (kd.cps.toList.getD i 0)
def atN (kd : Str) (number : Int) : Nat := (number % (kd.length : Int)).toNat
def laterN (kd : Str) (number : Int) : Nat := atN kd number + (number / 8 % 3).toNat
def tailOf (number : Int) : Str := [("\n" : Str), ("\t" : Str)].getD (number % 2).toNat ""
def spoilt1 (kd : Str) (rest : List Str) (number : Int) : List Str := if laterN kd number < kd.length then rest.set (laterN kd number) (badW (kAt kd (laterN kd number)) (number / 288)) else rest
def spoiltX (kd : Str) (rest : List Str) (number : Int) : Str := if 0 < number / 6912 % 5 then badW (kAt kd (atN kd number)) (number / 24) else (spoilt1 kd rest number).getD (atN kd number) "" ++ tailOf number
def spoiltR (kd : Str) (rest : List Str) (number : Int) : List Str := (spoilt1 kd rest number).set (atN kd number) (spoiltX kd rest number)
def spoiltW (kd first : Str) (rest : List Str) (number : Int) : List Str := if kd = "" then first :: rest ++ [("a" : Str)] else first :: spoiltR kd rest number
def spoiltDue (kd : Str) (rest : List Str) (number : Int) : Str := if kd = "" then "NoRow" else wordDue (kAt kd (atN kd number)) (spoiltX kd rest number)
theorem getD_le {b : Nat} {l : List Str} {i : Nat} (h : (l.all fun z => decide (z.length ≤ b)) = true) : (l.getD i "").length ≤ b := by
  rw [List.getD_eq_getElem?_getD]
  cases e : l[i]? with
  | none => exact Nat.zero_le _
  | some x => exact of_decide_eq_true (List.all_eq_true.mp h x (List.mem_of_getElem? e))
theorem badW_short (k : Str) (n : Int) : (badW k n).length ≤ 100 := by
  unfold badW
  refine getD_le ?_
  unfold menu
  by_cases c1 : k = "n"
  · rw [if_pos c1]; decide +kernel
  rw [if_neg c1]
  by_cases c2 : k = "o"
  · rw [if_pos c2]; decide +kernel
  rw [if_neg c2]
  by_cases c3 : k = "k"
  · rw [if_pos c3]; decide +kernel
  rw [if_neg c3]
  by_cases c4 : k = "d"
  · rw [if_pos c4]; decide +kernel
  rw [if_neg c4]
  decide +kernel
theorem char_at {z : Str} {i : Nat} (h : i < z.length) : atI z.cps.toList (i : Int) = some (z.cps.toList.getD i 0) := atI_nat (getD_at (by rw [Array.length_toList]; exact h))
theorem item_at {ws : List Str} {i : Nat} (h : i < ws.length) : atI (ws.map V.str) (i : Int) = some (.str (ws.getD i "")) := atI_nat (by rw [List.getElem?_map, getD_at h]; rfl)
theorem item_ix {ws : List Str} {i : Nat} (h : i < ws.length) : ixN (ws.map V.str).length (i : Int) = some i := by
  rw [List.length_map]
  unfold ixN
  rw [if_pos (by omega), if_pos (by omega), Int.toNat_natCast]
theorem str_pos {z : Str} (h : ¬ z = "") : 0 < z.length := by
  apply Classical.byContradiction
  intro q
  refine h ?_
  have e : z.cps.size = 0 := by
    show z.length = 0
    omega
  have e2 : z.cps = #[] := Array.eq_empty_of_size_eq_zero e
  show z = (⟨#[]⟩ : Str)
  rw [← e2]
theorem set_map {ws : List Str} {i : Nat} {x : Str} : (ws.map V.str).set i (.str x) = (ws.set i x).map V.str := by rw [List.map_set]
section
variable {P : Program} {w : World} {K : PySem.W.Frag} {mg : Str → Option Value} {base : Heap}
def spSpoilt (K : PySem.W.Frag) : Sp := fun vs H Q _ => ∃ (number : Int) (wb : Addr) (first : Str) (rest : List Str), vs = [.ref wb, .int number] ∧ H wb = some (lS (first :: rest)) ∧ first ∈ firsts ∧ rest.length = (kindsD first).length ∧ (kindsD first).length ≤ 4 ∧
  (∀ x ∈ rest, x.length ≤ 100) ∧ ∀ H' p, Same H H' → PairAt H' p (spoiltW (kindsD first) first rest number) (spoiltDue (kindsD first) rest number) → Q (.ref p) H'
theorem scSpoilt : FnScope ["words", "number", "kinds", "at", "later", "word"] ["words", "number"] (defScope sLawSpoilt) := ⟨rfl, rfl, rfl, by decide +kernel, rfl, by decide +kernel, by decide +kernel⟩
theorem ok_Spoilt (T : TX K mg) : DefP P w K mg base CX0 2 "_law_spoilt" ["words", "number"] (spSpoilt K) := by
  obtain ⟨fd, F⟩ := T.fLawSpoilt
  obtain ⟨fdK, GK, bK, kK, gK⟩ := ok_Kinds (P := P) (w := w) (base := base) T
  obtain ⟨fdB, GB, bB, kB, gB⟩ := ok_Bad (P := P) (w := w) (base := base) T
  obtain ⟨fdD, GD, bD, kD, gD⟩ := ok_Due (P := P) (w := w) (base := base) T
  refine defP F T.gLawSpoilt (fun _ _ _ _ _ _ us hl => match us, hl with | [_, _], _ => rfl) (F.ok scSpoilt (fun vs H Q E h => ?_) (fun cdv A outer s H vs Q E hr h => ?_))
  · obtain ⟨number, wb, first, rest, rfl, _⟩ := h
    rfl
  · obtain ⟨number, wb, first, rest, rfl, hw, hf, hl, h4, hx, h⟩ := h
    have nd := scSpoilt.nd
    refine ⟨_, PSs.nox (pss_cons (ps_set (i := 2) nd rfl (.inl rfl) (pe_call GK hr (by rfl) gK kK bK .nil pass0 (pa_cons (pe_ix (r := rIxL K) ix_list (pv 0) pe_int (fun _ _ => rfl)) pa_nil)))
      (pss_cons (ps_if (pt_cmpR op_eq (pv 2) pe_str (nomark _)) (pss_one (ps_ret (pe_lst (pa_cons (pe_op op_cat (pv 0) (pe_lst (pa_cons pe_str pa_nil))) (pa_cons pe_str pa_nil))))) pss_nil)
      (pss_cons (ps_set (i := 3) nd rfl (.inl rfl) (pe_op op_mod (pv 1) (pe_callB call_len_str (by rfl) T.nlen PySem.boot_len (pa_cons (pv 2) pa_nil))))
      (pss_cons (ps_set (i := 4) nd rfl (.inl rfl) (pe_op op_add (pv 3) (pe_op op_mod (pe_op op_fdiv (pv 1) pe_int) pe_int)))
      (pss_cons (ps_set (i := 0) nd rfl (.inl rfl) (pe_callTy call_list_of (by rfl) T.nlist PyProof.Rows.boot_list (pa_cons (pv 0) pa_nil)))
      (pss_cons (ps_if (pt_cmpR op_lt (pv 4) (pe_callB call_len_str (by rfl) T.nlen PySem.boot_len (pa_cons (pv 2) pa_nil)) (nomark _))
        (pss_one (ps_asg (pe_call GB hr (by rfl) gB kB bB .nil pass0 (pa_cons (pe_ix (r := rIxS) ix_str (pv 2) (pv 4) (fun _ _ => rfl)) (pa_cons (pe_op op_fdiv (pv 1) pe_int) pa_nil))) (pg_sub (pv 0) (pe_op op_add pe_int (pv 4)) set_list))) pss_nil)
      (pss_cons (ps_set (i := 5) nd rfl (.inl rfl) (pe_op op_add_str (pe_ix (r := rIxL K) ix_list (pv 0) (pe_op op_add pe_int (pv 3)) (fun _ _ => rfl)) (pe_ix (r := rIxL K) ix_list (pe_lst (pa_cons pe_str (pa_cons pe_str pa_nil))) (pe_op op_mod (pv 1) pe_int) (fun _ _ => rfl))))
      (pss_cons (ps_if (pt_cmpR op_gt (pe_op op_mod (pe_op op_fdiv (pv 1) pe_int) pe_int) pe_int (nomark _))
        (pss_one (ps_set (i := 5) nd rfl (.inl rfl) (pe_call GB hr (by rfl) gB kB bB .nil pass0 (pa_cons (pe_ix (r := rIxS) ix_str (pv 2) (pv 3) (fun _ _ => rfl)) (pa_cons (pe_op op_fdiv (pv 1) pe_int) pa_nil))))) pss_nil)
      (pss_cons (ps_asg (pv 5) (pg_sub (pv 0) (pe_op op_add pe_int (pv 3)) set_list))
      (pss_one (ps_ret (pe_lst (pa_cons (pv 0) (pa_cons (pe_call GD hr (by rfl) gD kD bD .nil pass0 (pa_cons (pe_ix (r := rIxS) ix_str (pv 2) (pv 3) (fun _ _ => rfl)) (pa_cons (pv 5) pa_nil))) pa_nil)))))))))))))), ?_⟩
    refine ⟨_, rfl, wb, _, 0, .str first, rfl, rfl, SqL.of hw, atI_nat (j := 0) rfl, first, rfl, hf, fun H1 s1 => ?_⟩
    obtain ⟨kd, hkd⟩ : ∃ kd, kd = kindsD first := ⟨_, rfl⟩
    rw [← hkd] at hl h4 h ⊢
    refine ⟨_, rfl, rfl, _, rfl, itY (fun c => ?_) fun c => ?_⟩
    · refine ⟨_, rfl, short rfl, fun p1 hp1 => ⟨wb, p1, _, _, rfl, rfl, same_new hp1 _ _ (s1 _ _ hw), upd_same, ?_, fun p2 hp2 => ⟨short rfl, fun q hq => ?_⟩⟩⟩
      · rw [List.length_map, List.length_cons, hl]
        exact short (Nat.ble_eq_true_of_le (show kd.length + 1 + 1 ≤ 1000 by omega))
      · refine h _ q (s1.trans ((same_new hp1).trans ((same_new hp2).trans (same_new hq)))) ⟨p2, ?_, ?_⟩
        · rw [upd_same]
          unfold spoiltDue
          rw [if_pos c]
        · rw [upd_ne (ne_of_none upd_same hq), upd_same]
          unfold spoiltW
          rw [if_pos c]
          show _ = some (HO.lst ((first :: rest ++ [("a" : Str)]).map V.str))
          rw [List.map_append]
          rfl
    have hpos := str_pos c
    have hkl : kd.length ≤ sizeLine := short (Nat.ble_eq_true_of_le (show kd.length ≤ 1000 by omega))
    have ha0 := Int.emod_nonneg number (show (kd.length : Int) ≠ 0 by omega)
    have ha1 := Int.emod_lt_of_pos number (show (0 : Int) < (kd.length : Int) by omega)
    have hA : number % (kd.length : Int) = (atN kd number : Int) := by unfold atN; omega
    have hat : atN kd number < kd.length := by omega
    have h3 := Int.emod_nonneg (number / 8) (show (3 : Int) ≠ 0 by decide)
    have hL : (atN kd number : Int) + number / 8 % 3 = (laterN kd number : Int) := by unfold laterN; omega
    have hfin : ∀ H' q, Same H H' → PairAt H' q (first :: spoiltR kd rest number) (wordDue (kAt kd (atN kd number)) (spoiltX kd rest number)) → Q (.ref q) H' := fun H' q s0 hp => by
      refine h H' q s0 ?_
      unfold spoiltW spoiltDue
      rw [if_neg c, if_neg c]
      exact hp
    have l1 : (spoilt1 kd rest number).length = kd.length := by
      unfold spoilt1
      split
      · rw [List.length_set, hl]
      · exact hl
    have x1 : ∀ i, ((spoilt1 kd rest number).getD i "").length ≤ 100 := fun i => by
      refine getD_le (List.all_eq_true.mpr fun x hx' => decide_eq_true ?_)
      unfold spoilt1 at hx'
      split at hx'
      · rcases List.mem_or_eq_of_mem_set hx' with q | q
        · exact hx x q
        · rw [q]
          exact badW_short _ _
      · exact hx x hx'
    refine ⟨_, rfl, _, rfl, kd, rfl, hkl, _, _, rfl, rfl, (by omega), ?_⟩
    dsimp only
    rw [hA]
    refine ⟨_, rfl, _, rfl, _, _, rfl, rfl, parted rfl, _, _, rfl, rfl, over rfl, _, _, rfl, rfl, ?_⟩
    dsimp only
    rw [hL]
    refine ⟨_, rfl, wb, _, rfl, .inl (SqL.of (s1 _ _ hw)), fun wl hwl => ?_⟩
    have hwl0 : H wl = none := s1.free hwl
    refine ⟨_, rfl, _, rfl, kd, rfl, hkl, _, _, rfl, rfl, _, rfl, ?_⟩
    by_cases c3 : laterN kd number < kd.length
    · rw [decide_eq_true (show (laterN kd number : Int) < (kd.length : Int) by omega)]
      have s2 : Same H1 (upd H1 wl (lS (first :: rest))) := same_new hwl
      refine iteT ⟨_, rfl, _, rfl, kd, _, _, rfl, rfl, hkl, char_at c3, _, rfl, _, _, rfl, rfl, parted rfl, _, _, rfl, fun H2 s2 => ⟨_, rfl, _, rfl, _, _, rfl, rfl, wl, _, 1 + (laterN kd number : Int), 1 + laterN kd number, rfl, rfl, s2 _ _ upd_same, ?_, ?_⟩⟩
      · rw [show (1 : Int) + (laterN kd number : Int) = ((1 + laterN kd number : Nat) : Int) by omega]
        exact item_ix (ws := first :: rest) (by rw [List.length_cons, hl]; omega)
      have e3 : ((first :: rest).map V.str).set (1 + laterN kd number) (.str (badW (kAt kd (laterN kd number)) (number / 288))) = (first :: spoilt1 kd rest number).map V.str := by
        rw [set_map, Nat.add_comm]
        unfold spoilt1
        rw [if_pos c3]
        rfl
      have S3 : Same H (upd H2 wl (lS (first :: spoilt1 kd rest number))) := same_mut (s1.trans (Same.trans (same_new hwl) s2)) hwl0
      have hw3 : upd H2 wl (lS (first :: spoilt1 kd rest number)) wl = some (lS (first :: spoilt1 kd rest number)) := upd_same
      rw [show ((first :: rest).map V.str).set (1 + laterN kd number) (.str (badW ⟨#[kd.cps.toList.getD (laterN kd number) 0]⟩ (number / 288))) = (first :: spoilt1 kd rest number).map V.str from e3]
      rw [show HO.lst ((first :: spoilt1 kd rest number).map V.str) = lS (first :: spoilt1 kd rest number) from rfl]
      generalize upd H2 wl (lS (first :: spoilt1 kd rest number)) = H3 at S3 hw3 ⊢
      have hm2a := Int.emod_nonneg number (show (2 : Int) ≠ 0 by decide)
      have hm2b := Int.emod_lt_of_pos number (show (0 : Int) < 2 by decide)
      refine ⟨_, rfl, _, rfl, _, _, rfl, rfl, wl, _, _, .str ((spoilt1 kd rest number).getD (atN kd number) ""), rfl, rfl, SqL.of hw3, ?_, short rfl, fun p4 hp4 => ⟨_, rfl, _, _, rfl, rfl, over rfl, p4, ([("\n" : Str), ("\t" : Str)] : List Str).map V.str, _, _, rfl, rfl, SqL.of upd_same, menu_at rfl (by decide), _, _, rfl, rfl, ?_, ?_⟩⟩
      · rw [show (1 : Int) + (atN kd number : Int) = ((1 + atN kd number : Nat) : Int) by omega]
        have q := item_at (ws := first :: spoilt1 kd rest number) (i := 1 + atN kd number) (by rw [List.length_cons, l1]; omega)
        rw [Nat.add_comm] at q ⊢
        exact q
      · have q1 := x1 (atN kd number)
        have q2 : (tailOf number).length ≤ 1 := getD_le (by decide +kernel)
        exact short (Nat.ble_eq_true_of_le (show _ + (tailOf number).length ≤ 1000 by omega))
      have S4 : Same H3 (upd H3 p4 (.lst [.str ("\n"), .str ("\t")])) := same_new hp4
      generalize hH5 : upd H3 p4 (.lst [.str ("\n"), .str ("\t")]) = H5 at S4 ⊢
      have S5 := S3.trans S4
      have hw5 := S4 _ _ hw3
      refine ⟨_, rfl, _, _, rfl, rfl, parted rfl, _, _, rfl, rfl, over rfl, _, _, rfl, rfl, _, rfl, ?_⟩
      by_cases c5 : 0 < number / 6912 % 5
      · rw [decide_eq_true c5]
        refine iteT ⟨_, rfl, _, rfl, kd, _, _, rfl, rfl, hkl, char_at hat, _, rfl, _, _, rfl, rfl, parted rfl, _, _, rfl, fun H6 s6 => ?_⟩
        have S5 := S5.trans s6
        have hw5 := s6 _ _ hw5
        obtain ⟨X, hX⟩ : ∃ X, X = badW (kAt kd (atN kd number)) (number / 24) := ⟨_, rfl⟩
        have eX : X = spoiltX kd rest number := by unfold spoiltX; rw [if_pos c5, hX]
        rw [show badW ⟨#[kd.cps.toList.getD (atN kd number) 0]⟩ (number / 24) = X from hX.symm]
        clear S4
        refine ⟨_, rfl, _, rfl, _, rfl, _, _, rfl, rfl, wl, _, 1 + (atN kd number : Int), 1 + atN kd number, rfl, rfl, hw5, ?_, ?_⟩
        · rw [show (1 : Int) + (atN kd number : Int) = ((1 + atN kd number : Nat) : Int) by omega]
          exact item_ix (by rw [List.length_cons, l1]; omega)
        · rw [show ((first :: spoilt1 kd rest number).map V.str).set (1 + atN kd number) (.str X) = (first :: spoiltR kd rest number).map V.str by rw [set_map, eX, Nat.add_comm]; rfl]
          have S6 := same_mut (o := lS (first :: spoiltR kd rest number)) S5 hwl0
          refine ⟨_, rfl, _, rfl, _, rfl, kd, _, _, rfl, rfl, hkl, char_at hat, _, rfl, _, X, rfl, fun H7 s7 => ⟨short rfl, fun q hq => ?_⟩⟩
          refine hfin _ q (S6.trans (s7.trans (same_new hq))) ?_
          refine ⟨wl, ?_, (s7.trans (same_new hq)) _ _ upd_same⟩
          rw [upd_same, eX]
          rfl
      · rw [decide_eq_false c5]
        refine iteF ?_
        obtain ⟨X, hX⟩ : ∃ X, X = (spoilt1 kd rest number).getD (atN kd number) "" ++ tailOf number := ⟨_, rfl⟩
        have eX : X = spoiltX kd rest number := by unfold spoiltX; rw [if_neg c5, hX]
        rw [show (spoilt1 kd rest number).getD (atN kd number) "" ++ ([("\n" : Str), ("\t" : Str)] : List Str).getD (number % 2).toNat "" = X from hX.symm]
        refine ⟨_, rfl, _, rfl, _, rfl, _, _, rfl, rfl, wl, _, 1 + (atN kd number : Int), 1 + atN kd number, rfl, rfl, hw5, ?_, ?_⟩
        · rw [show (1 : Int) + (atN kd number : Int) = ((1 + atN kd number : Nat) : Int) by omega]
          exact item_ix (by rw [List.length_cons, l1]; omega)
        · rw [show ((first :: spoilt1 kd rest number).map V.str).set (1 + atN kd number) (.str X) = (first :: spoiltR kd rest number).map V.str by rw [set_map, eX, Nat.add_comm]; rfl]
          have S6 := same_mut (o := lS (first :: spoiltR kd rest number)) S5 hwl0
          refine ⟨_, rfl, _, rfl, _, rfl, kd, _, _, rfl, rfl, hkl, char_at hat, _, rfl, _, X, rfl, fun H7 s7 => ⟨short rfl, fun q hq => ?_⟩⟩
          refine hfin _ q (S6.trans (s7.trans (same_new hq))) ?_
          refine ⟨wl, ?_, (s7.trans (same_new hq)) _ _ upd_same⟩
          rw [upd_same, eX]
          rfl
    · rw [decide_eq_false (show ¬ (laterN kd number : Int) < (kd.length : Int) by omega)]
      refine iteF ?_
      have e3 : spoilt1 kd rest number = rest := if_neg c3
      have S3 : Same H (upd H1 wl (lS (first :: rest))) := s1.trans (same_new hwl)
      have hw3 : upd H1 wl (lS (first :: rest)) wl = some (lS (first :: spoilt1 kd rest number)) := by
        rw [e3]
        exact upd_same
      rw [show HO.lst ((first :: rest).map V.str) = lS (first :: rest) from rfl]
      generalize upd H1 wl (lS (first :: rest)) = H3 at S3 hw3 ⊢
      have hm2a := Int.emod_nonneg number (show (2 : Int) ≠ 0 by decide)
      have hm2b := Int.emod_lt_of_pos number (show (0 : Int) < 2 by decide)
      refine ⟨_, rfl, _, rfl, _, _, rfl, rfl, wl, _, _, .str ((spoilt1 kd rest number).getD (atN kd number) ""), rfl, rfl, SqL.of hw3, ?_, short rfl, fun p4 hp4 => ⟨_, rfl, _, _, rfl, rfl, over rfl, p4, ([("\n" : Str), ("\t" : Str)] : List Str).map V.str, _, _, rfl, rfl, SqL.of upd_same, menu_at rfl (by decide), _, _, rfl, rfl, ?_, ?_⟩⟩
      · rw [show (1 : Int) + (atN kd number : Int) = ((1 + atN kd number : Nat) : Int) by omega]
        have q := item_at (ws := first :: spoilt1 kd rest number) (i := 1 + atN kd number) (by rw [List.length_cons, l1]; omega)
        rw [Nat.add_comm] at q ⊢
        exact q
      · have q1 := x1 (atN kd number)
        have q2 : (tailOf number).length ≤ 1 := getD_le (by decide +kernel)
        exact short (Nat.ble_eq_true_of_le (show _ + (tailOf number).length ≤ 1000 by omega))
      have S4 : Same H3 (upd H3 p4 (.lst [.str ("\n"), .str ("\t")])) := same_new hp4
      generalize hH5 : upd H3 p4 (.lst [.str ("\n"), .str ("\t")]) = H5 at S4 ⊢
      have S5 := S3.trans S4
      have hw5 := S4 _ _ hw3
      refine ⟨_, rfl, _, _, rfl, rfl, parted rfl, _, _, rfl, rfl, over rfl, _, _, rfl, rfl, _, rfl, ?_⟩
      by_cases c5 : 0 < number / 6912 % 5
      · rw [decide_eq_true c5]
        refine iteT ⟨_, rfl, _, rfl, kd, _, _, rfl, rfl, hkl, char_at hat, _, rfl, _, _, rfl, rfl, parted rfl, _, _, rfl, fun H6 s6 => ?_⟩
        have S5 := S5.trans s6
        have hw5 := s6 _ _ hw5
        obtain ⟨X, hX⟩ : ∃ X, X = badW (kAt kd (atN kd number)) (number / 24) := ⟨_, rfl⟩
        have eX : X = spoiltX kd rest number := by unfold spoiltX; rw [if_pos c5, hX]
        rw [show badW ⟨#[kd.cps.toList.getD (atN kd number) 0]⟩ (number / 24) = X from hX.symm]
        clear S4
        refine ⟨_, rfl, _, rfl, _, rfl, _, _, rfl, rfl, wl, _, 1 + (atN kd number : Int), 1 + atN kd number, rfl, rfl, hw5, ?_, ?_⟩
        · rw [show (1 : Int) + (atN kd number : Int) = ((1 + atN kd number : Nat) : Int) by omega]
          exact item_ix (by rw [List.length_cons, l1]; omega)
        · rw [show ((first :: spoilt1 kd rest number).map V.str).set (1 + atN kd number) (.str X) = (first :: spoiltR kd rest number).map V.str by rw [set_map, eX, Nat.add_comm]; rfl]
          have S6 := same_mut (o := lS (first :: spoiltR kd rest number)) S5 hwl0
          refine ⟨_, rfl, _, rfl, _, rfl, kd, _, _, rfl, rfl, hkl, char_at hat, _, rfl, _, X, rfl, fun H7 s7 => ⟨short rfl, fun q hq => ?_⟩⟩
          refine hfin _ q (S6.trans (s7.trans (same_new hq))) ?_
          refine ⟨wl, ?_, (s7.trans (same_new hq)) _ _ upd_same⟩
          rw [upd_same, eX]
          rfl
      · rw [decide_eq_false c5]
        refine iteF ?_
        obtain ⟨X, hX⟩ : ∃ X, X = (spoilt1 kd rest number).getD (atN kd number) "" ++ tailOf number := ⟨_, rfl⟩
        have eX : X = spoiltX kd rest number := by unfold spoiltX; rw [if_neg c5, hX]
        rw [show (spoilt1 kd rest number).getD (atN kd number) "" ++ ([("\n" : Str), ("\t" : Str)] : List Str).getD (number % 2).toNat "" = X from hX.symm]
        refine ⟨_, rfl, _, rfl, _, rfl, _, _, rfl, rfl, wl, _, 1 + (atN kd number : Int), 1 + atN kd number, rfl, rfl, hw5, ?_, ?_⟩
        · rw [show (1 : Int) + (atN kd number : Int) = ((1 + atN kd number : Nat) : Int) by omega]
          exact item_ix (by rw [List.length_cons, l1]; omega)
        · rw [show ((first :: spoilt1 kd rest number).map V.str).set (1 + atN kd number) (.str X) = (first :: spoiltR kd rest number).map V.str by rw [set_map, eX, Nat.add_comm]; rfl]
          have S6 := same_mut (o := lS (first :: spoiltR kd rest number)) S5 hwl0
          refine ⟨_, rfl, _, rfl, _, rfl, kd, _, _, rfl, rfl, hkl, char_at hat, _, rfl, _, X, rfl, fun H7 s7 => ⟨short rfl, fun q hq => ?_⟩⟩
          refine hfin _ q (S6.trans (s7.trans (same_new hq))) ?_
          refine ⟨wl, ?_, (s7.trans (same_new hq)) _ _ upd_same⟩
          rw [upd_same, eX]
          rfl
end
end Dr

namespace Dr
open PySem PySem.Spec PyProof.Rows L2
def firstMenu : List Str := [("" : Str), ("polys" : Str), ("Poly" : Str), ("poly," : Str), ("NAMES" : Str), ("name" : Str), ("solved" : Str), ("rot" : Str), ("0" : Str), ("border\n" : Str)]
def firstOf (m : Int) : Str := firstMenu.getD (m % 10).toNat ""
/-- the row's words and what it earns, past the first way -/
def drawnW (a b c d n : Str) (number : Int) : List Str × Str :=
  let f := formW a b c d n (number / 8)
  let m := number / 8 / 15
  if number % 8 = 1 then (firstOf m :: f.tail, "NoRow") else if number % 8 = 2 then (countedW f m, "NoRow")
  else if number % 8 < 6 then (spoiltW (kindsD (f.headD "")) (f.headD "") f.tail m, spoiltDue (kindsD (f.headD "")) f.tail m) else (deedW a b c d n m, deedDue m)
def NotTxt (K : PySem.W.Frag) (H : Hp) (v : V) : Prop := ∃ t, TyX K H v t ∧ PySem.W.kitOne K t (.type "str") = some false
theorem NotTxt.non {K : PySem.W.Frag} {H : Hp} : NotTxt K H .non := ⟨_, .base .non, kit_ty (by decide +kernel)⟩
theorem join_small {ws : List Str} (h : ∀ x ∈ ws, x.length ≤ 200) (hl : ws.length ≤ 12) : (ws.map (·.length)).sum + ws.length * blank.length ≤ 10000 := by
  have q := sum_le (l := ws.map (·.length)) (b := 200) (fun y hy => by
    obtain ⟨x, hx, rfl⟩ := List.mem_map.mp hy
    exact h x hx)
  rw [List.length_map] at q
  have e : blank.length = 1 := by decide +kernel
  rw [e]
  omega
structure FormOk (ws : List Str) : Prop where
  ne : ∃ first rest, ws = first :: rest ∧ first ∈ firsts ∧ rest.length = (kindsD first).length ∧ (kindsD first).length ≤ 4
  few : ∀ x ∈ ws, x.length ≤ 100
theorem first_short {m : Int} : (firstOf m).length ≤ 100 := getD_le (by decide +kernel)
theorem tailW_short {m : Int} : (tailW m).length ≤ 100 := getD_le (by decide +kernel)
theorem counted_short {ws : List Str} {m : Int} (h : ∀ x ∈ ws, x.length ≤ 100) : ∀ x ∈ countedW ws m, x.length ≤ 200 := fun x hx => by
  unfold countedW at hx
  split at hx
  · exact Nat.le_trans (h x ((List.dropLast_sublist ws).subset hx)) (by decide)
  · rcases List.mem_append.mp hx with q | q
    · exact Nat.le_trans (h x q) (by decide)
    · rw [List.mem_singleton.mp q]
      exact Nat.le_trans tailW_short (by decide)
theorem counted_len (ws : List Str) (m : Int) : (countedW ws m).length ≤ ws.length + 1 := by
  unfold countedW
  split
  · rw [List.length_dropLast]
    omega
  · rw [List.length_append]
    exact Nat.le_refl _
theorem spoilt1_short {kd : Str} {rest : List Str} {m : Int} (h : ∀ x ∈ rest, x.length ≤ 100) : ∀ x ∈ spoilt1 kd rest m, x.length ≤ 100 := fun x hx => by
  unfold spoilt1 at hx
  split at hx
  · rcases List.mem_or_eq_of_mem_set hx with q | q
    · exact h x q
    · rw [q]
      exact badW_short _ _
  · exact h x hx
theorem spoiltX_short {kd : Str} {rest : List Str} {m : Int} (h : ∀ x ∈ rest, x.length ≤ 100) : (spoiltX kd rest m).length ≤ 200 := by
  unfold spoiltX
  split
  · exact Nat.le_trans (badW_short _ _) (by decide)
  · rw [len_app]
    have q1 : ((spoilt1 kd rest m).getD (atN kd m) "").length ≤ 100 := getD_le (List.all_eq_true.mpr fun x hx => decide_eq_true (spoilt1_short h x hx))
    have q2 : (tailOf m).length ≤ 1 := getD_le (by decide +kernel)
    omega
theorem spoilt_short {kd first : Str} {rest : List Str} {m : Int} (hf : first.length ≤ 100) (h : ∀ x ∈ rest, x.length ≤ 100) : ∀ x ∈ spoiltW kd first rest m, x.length ≤ 200 := fun x hx => by
  unfold spoiltW at hx
  split at hx
  · rcases List.mem_append.mp hx with q | q
    · rcases List.mem_cons.mp q with q | q
      · rw [q]; omega
      · exact Nat.le_trans (h x q) (by decide)
    · rw [List.mem_singleton.mp q]
      decide +kernel
  · rcases List.mem_cons.mp hx with q | q
    · rw [q]; omega
    · unfold spoiltR at q
      rcases List.mem_or_eq_of_mem_set q with q | q
      · exact Nat.le_trans (spoilt1_short h x q) (by decide)
      · rw [q]
        exact spoiltX_short h
theorem spoilt1_len (kd : Str) (rest : List Str) (m : Int) : (spoilt1 kd rest m).length = rest.length := by
  unfold spoilt1
  split
  · rw [List.length_set]
  · rfl
theorem spoilt_len (kd first : Str) (rest : List Str) (m : Int) : (spoiltW kd first rest m).length ≤ rest.length + 2 := by
  unfold spoiltW
  split
  · rw [List.length_append]
    exact Nat.le_refl _
  · unfold spoiltR
    rw [List.length_cons, List.length_set, spoilt1_len]
    omega
section
variable {P : Program} {w : World} {K : PySem.W.Frag} {mg : Str → Option Value} {base : Heap}
theorem mk {K : PySem.W.Frag} (H : Hp) (p1 p2 p3 : Addr) (h1 : H p1 = some (lS [("show" : Str), ("a" : Str)])) (h2 : H p2 = some (.tup [.str ("names")])) (h3 : H p3 = some (.dK [])) :
    ∀ v ∈ ([.non, .int 5, .ref p1, .ref p2, .bl true, .ref p3, .str (""), .str (" ")] : List V), NotTxt K H v ∨ v = .str "" ∨ v = .str " " :=
  List.forall_mem_cons.mpr ⟨.inl .non, List.forall_mem_cons.mpr ⟨.inl ⟨_, .base (.int 5), kit_ty (by decide +kernel)⟩, List.forall_mem_cons.mpr ⟨.inl ⟨_, .base (.lst h1), kit_ty (by decide +kernel)⟩, List.forall_mem_cons.mpr ⟨.inl ⟨_, .base (.tup h2), kit_ty (by decide +kernel)⟩,
    List.forall_mem_cons.mpr ⟨.inl ⟨_, .base (.bl true), kit_ty (by decide +kernel)⟩, List.forall_mem_cons.mpr ⟨.inl ⟨_, .base (.dK h3), kit_ty (by decide +kernel)⟩, List.forall_mem_cons.mpr ⟨.inr (.inl rfl), List.forall_mem_cons.mpr ⟨.inr (.inr rfl), fun _ q => nomatch q⟩⟩⟩⟩⟩⟩⟩⟩
def DrawnR (K : PySem.W.Frag) (H : Hp) (a b c d n : Str) (number : Int) (v : V) (due : Str) : Prop :=
  (number % 8 = 0 ∧ due = "NoRow" ∧ (NotTxt K H v ∨ v = .str "" ∨ v = .str " ")) ∨ (number % 8 ≠ 0 ∧ v = .str (Txt.join blank (drawnW a b c d n number).1) ∧ due = (drawnW a b c d n number).2)
def spDrawn (K : PySem.W.Frag) : Sp := fun vs H Q _ => ∃ (number : Int) (nb : Addr) (a b c d l n : Str), vs = [.ref nb, .int number, .str n] ∧ H nb = some (lS [a, b, c, d, l]) ∧ (0 ≤ number ∧ number < 2 ^ 40) ∧
  FormOk (formW a b c d n (number / 8)) ∧ ((∀ x ∈ deedW a b c d n (number / 8 / 15), x.length ≤ 200) ∧ (deedW a b c d n (number / 8 / 15)).length ≤ 12) ∧
  ∀ H' p v due, Same H H' → H' p = some (.lst [v, .str due]) → DrawnR K H' a b c d n number v due → Q (.ref p) H'
abbrev nmDrawn : List Str := ["names", "number", "n", "way", "words", "first", "due"]
theorem scDrawn : FnScope nmDrawn ["names", "number", "n"] (defScope sLawDrawn) := ⟨rfl, rfl, rfl, by decide +kernel, rfl, by decide +kernel, by decide +kernel⟩
theorem ok_Drawn (T : TX K mg) : DefP P w K mg base CX0 3 "_law_drawn" ["names", "number", "n"] (spDrawn K) := by
  obtain ⟨fd, F⟩ := T.fLawDrawn
  obtain ⟨fdF, GF, bF, kF, gF⟩ := ok_Form (P := P) (w := w) (base := base) T
  obtain ⟨fdC, GC, bC, kC, gC⟩ := ok_Counted (P := P) (w := w) (base := base) T
  obtain ⟨fdS, GS, bS, kS, gS⟩ := ok_Spoilt (P := P) (w := w) (base := base) T
  obtain ⟨fdD, GD, bD, kD, gD⟩ := ok_Deed (P := P) (w := w) (base := base) T
  refine defP F T.gLawDrawn (fun _ _ _ _ _ _ us hl => match us, hl with | [_, _, _], _ => rfl) (F.ok scDrawn (fun vs H Q E h => ?_) (fun cdv A outer s H vs Q E hr h => ?_))
  · obtain ⟨number, nb, a, b, c, d, l, n, rfl, _⟩ := h
    rfl
  · obtain ⟨number, nb, a, b, c, d, l, n, rfl, hn, hz, hfo, hde, h⟩ := h
    have nd := scDrawn.nd
    have hr1 : Room 1 _ := hr.mono (by decide)
    refine ⟨_, PSs.nox (pss_cons (ps_set (i := 3) nd rfl (.inl rfl) (pe_op op_mod (pv 1) pe_int))
      (pss_cons (ps_set (i := 1) nd rfl (.inl rfl) (pe_op op_fdiv (pv 1) pe_int))
      (pss_cons (ps_set (i := 4) nd rfl (.inl rfl) (pe_call GF hr1 (by rfl) gF kF bF .nil pass0 (pa_cons (pv 1) (pa_cons (pv 0) (pa_cons (pv 2) pa_nil)))))
      (pss_cons (ps_set (i := 1) nd rfl (.inl rfl) (pe_op op_fdiv (pv 1) pe_int))
      (pss_cons (ps_if (pt_cmpR op_eq (pv 3) pe_int (nomark _)) (pss_one (ps_ret (pe_lst (pa_cons (pe_ix (r := rIxL K) ix_list
          (pe_lst (pa_cons pe_non (pa_cons pe_int (pa_cons (pe_lst (pa_cons pe_str (pa_cons pe_str pa_nil))) (pa_cons (pe_tup (pa_cons pe_str pa_nil)) (pa_cons pe_bl (pa_cons pe_dnewK (pa_cons pe_str (pa_cons pe_str pa_nil))))))))) (pe_op op_mod (pv 1) pe_int) (fun _ _ => rfl)) (pa_cons pe_str pa_nil))))) pss_nil)
      (pss_cons (ps_if (pt_cmpR op_eq (pv 3) pe_int (nomark _)) (pss_cons (ps_set (i := 5) nd rfl (.inl rfl) (pe_ix (r := rIxL K) ix_list
          (pe_lst (pa_cons pe_str (pa_cons pe_str (pa_cons pe_str (pa_cons pe_str (pa_cons pe_str (pa_cons pe_str (pa_cons pe_str (pa_cons pe_str (pa_cons pe_str (pa_cons pe_str pa_nil))))))))))) (pe_op op_mod (pv 1) pe_int) (fun _ _ => rfl)))
        (pss_one (ps_ret (pe_lst (pa_cons (pe_join pe_str (pe_op op_cat (pe_lst (pa_cons (pv 5) pa_nil)) (pe_slice sl_list (pv 4) (po_some pe_int) po_none))) (pa_cons pe_str pa_nil)))))) pss_nil)
      (pss_cons (ps_if (pt_cmpR op_eq (pv 3) pe_int (nomark _)) (pss_cons (ps_asg (pe_call GC hr1 (by rfl) gC kC bC .nil pass0 (pa_cons (pv 4) (pa_cons (pv 1) pa_nil))) (pg_lst rfl (pgs_cons (pg_name (i := 4) nd rfl (.inl rfl)) (pgs_cons (pg_name (i := 6) nd rfl (.inl rfl)) pgs_nil))))
        (pss_one (ps_ret (pe_lst (pa_cons (pe_join pe_str (pv 4)) (pa_cons (pv 6) pa_nil)))))) pss_nil)
      (pss_cons (ps_if (pt_cmpR op_lt (pv 3) pe_int (nomark _)) (pss_cons (ps_asg (pe_call GS hr (by rfl) gS kS bS .nil pass0 (pa_cons (pv 4) (pa_cons (pv 1) pa_nil))) (pg_lst rfl (pgs_cons (pg_name (i := 4) nd rfl (.inl rfl)) (pgs_cons (pg_name (i := 6) nd rfl (.inl rfl)) pgs_nil))))
        (pss_one (ps_ret (pe_lst (pa_cons (pe_join pe_str (pv 4)) (pa_cons (pv 6) pa_nil)))))) pss_nil)
      (pss_cons (ps_asg (pe_call GD hr1 (by rfl) gD kD bD .nil pass0 (pa_cons (pv 0) (pa_cons (pv 1) (pa_cons (pv 2) pa_nil)))) (pg_lst rfl (pgs_cons (pg_name (i := 4) nd rfl (.inl rfl)) (pgs_cons (pg_name (i := 6) nd rfl (.inl rfl)) pgs_nil))))
      (pss_one (ps_ret (pe_lst (pa_cons (pe_join pe_str (pv 4)) (pa_cons (pv 6) pa_nil)))))))))))))), ?_⟩
    obtain ⟨⟨first, rest, ef, hfi, hrl, h4⟩, hsh⟩ := hfo
    refine ⟨_, rfl, _, _, rfl, rfl, over rfl, _, rfl, _, _, rfl, rfl, parted rfl, _, rfl, _, rfl, _, rfl, number / 8, nb, a, b, c, d, l, n, rfl, hn, fun H1 wb s1 hw => ?_⟩
    rw [ef] at hw
    have hw' : H1 wb = some (lS (first :: rest)) := hw
    have e12 : (first :: rest).length ≤ 5 := by rw [List.length_cons]; omega
    have hfs : first.length ≤ 100 := hsh first (by rw [ef]; exact List.mem_cons_self)
    have hrs : ∀ x ∈ rest, x.length ≤ 100 := fun x hx => hsh x (by rw [ef]; exact List.mem_cons_of_mem _ hx)
    have m0 : 0 ≤ number / 8 / 15 := by omega
    have m1 : number / 8 / 15 < 2 ^ 40 := by omega
    refine ⟨_, rfl, _, _, rfl, rfl, parted rfl, _, rfl, rfl, _, rfl, ?_⟩
    by_cases c0 : number % 8 = 0
    · rw [decide_eq_true (show V.int (number % 8) = V.int 0 by rw [c0])]
      refine iteT ⟨short rfl, fun p1 hp1 => ⟨short rfl, fun p2 hp2 => fun p3 hp3 => ⟨short rfl, fun p4 hp4 => ?_⟩⟩⟩
      have t1 : Same H (upd H1 p1 (lS [("show" : Str), ("a" : Str)])) := s1.trans (same_new hp1)
      have t2 : Same _ (upd _ p2 (.tup [.str ("names")])) := same_new hp2
      have t3 : Same _ (upd _ p3 (.dK [])) := same_new hp3
      have t4 : Same _ (upd _ p4 (.lst [.non, .int 5, .ref p1, .ref p2, .bl true, .ref p3, .str (""), .str (" ")])) := same_new hp4
      have h8a := Int.emod_nonneg (number / 8 / 15) (show (8 : Int) ≠ 0 by decide)
      have h8b := Int.emod_lt_of_pos (number / 8 / 15) (show (0 : Int) < 8 by decide)
      have hget := getD_at (l := ([.non, .int 5, .ref p1, .ref p2, .bl true, .ref p3, .str (""), .str (" ")] : List V)) (d := .non) (i := (number / 8 / 15 % 8).toNat) (by show _ < 8; omega)
      refine ⟨_, rfl, _, _, rfl, rfl, over rfl, p4, _, _, _, rfl, rfl, SqL.of upd_same, ix_emod rfl (by decide) hget, short rfl, fun q hq => ?_⟩
      have t5 := same_new (o := .lst [([.non, .int 5, .ref p1, .ref p2, .bl true, .ref p3, .str (""), .str (" ")] : List V).getD (number / 8 / 15 % 8).toNat .non, .str ("NoRow")]) hq
      refine h _ q _ _ (t1.trans (t2.trans (t3.trans (t4.trans t5)))) upd_same (.inl ⟨c0, rfl, ?_⟩)
      exact mk _ _ _ _ ((t2.trans (t3.trans (t4.trans t5))) _ _ upd_same) ((t3.trans (t4.trans t5)) _ _ upd_same) ((t4.trans t5) _ _ upd_same) _ (List.mem_of_getElem? hget)
    rw [decide_eq_false (show ¬ V.int (number % 8) = V.int 0 from fun q => c0 (V.int.inj q))]
    refine iteF ⟨_, rfl, rfl, _, rfl, ?_⟩
    by_cases c1 : number % 8 = 1
    · rw [decide_eq_true (show V.int (number % 8) = V.int 1 by rw [c1])]
      have eW : drawnW a b c d n number = (firstOf (number / 8 / 15) :: rest, ("NoRow" : Str)) := by
        unfold drawnW
        rw [if_pos c1, ef]
        rfl
      refine iteT ⟨short rfl, fun p1 hp1 => ⟨_, rfl, _, _, rfl, rfl, over rfl, p1, firstMenu.map V.str, _, _, rfl, rfl, SqL.of upd_same, menu_at rfl (by decide), ⟨_, rfl⟩, _, rfl, short rfl, fun p2 hp2 => ?_⟩⟩
      have t1 := same_new (o := .lst (firstMenu.map V.str)) hp1
      have t2 := same_new (o := lS [firstOf (number / 8 / 15)]) hp2
      have hw2 := t2 _ _ (t1 _ _ hw')
      refine ⟨_, rfl, 1, rfl, wb, _, rfl, SqL.of hw2, fun p3 hp3 => ?_⟩
      have ecut : cutV ((first :: rest).map V.str) (some 1) none = rest.map V.str := cut_one _
      rw [ecut]
      have t3 := same_new (o := lS rest) hp3
      have bd : (firstOf (number / 8 / 15) :: rest).length ≤ 12 := by rw [List.length_cons] at e12 ⊢; omega
      refine ⟨p2, p3, _, _, rfl, rfl, t3 _ _ upd_same, upd_same, ?_, fun p4 hp4 => ⟨blank, p4, firstOf (number / 8 / 15) :: rest, rfl, rfl, .inl (SqL.of upd_same), ?_, short rfl, fun q hq => ?_⟩⟩
      · rw [List.length_map]
        exact short (Nat.ble_eq_true_of_le (show 1 + rest.length ≤ 1000 by omega))
      · exact Nat.le_trans (join_small (List.forall_mem_cons.mpr ⟨Nat.le_trans first_short (by decide), fun x hx => Nat.le_trans (hrs x hx) (by decide)⟩) bd) (by decide)
      · exact h _ q _ _ (s1.trans (t1.trans (t2.trans (t3.trans ((same_new hp4).trans (same_new hq)))))) upd_same (.inr ⟨c0, by rw [eW], by rw [eW]⟩)
    rw [decide_eq_false (show ¬ V.int (number % 8) = V.int 1 from fun q => c1 (V.int.inj q))]
    refine iteF ⟨_, rfl, rfl, _, rfl, ?_⟩
    by_cases c2 : number % 8 = 2
    · rw [decide_eq_true (show V.int (number % 8) = V.int 2 by rw [c2])]
      have eW : drawnW a b c d n number = (countedW (first :: rest) (number / 8 / 15), ("NoRow" : Str)) := by
        unfold drawnW
        rw [if_neg c1, if_pos c2, ef]
      refine iteT ⟨_, rfl, _, rfl, wb, first :: rest, _, rfl, hw', by omega, fun H2 pp s2 ⟨a2, hp2, ha2⟩ => ⟨pp, _, rfl, SqL.of hp2, rfl, _, _, rfl, _, _, rfl, rfl, ⟨_, rfl⟩, _, rfl, blank, a2, _, rfl, rfl, .inl (SqL.of ha2), ?_, _, rfl, short rfl, fun q hq => ?_⟩⟩
      · have q1 := counted_len (first :: rest) (number / 8 / 15)
        exact Nat.le_trans (join_small (counted_short fun x hx => hsh x (by rw [ef]; exact hx)) (by omega)) (by decide)
      · exact h _ q _ _ (s1.trans (s2.trans (same_new hq))) upd_same (.inr ⟨c0, by rw [eW], by rw [eW]⟩)
    rw [decide_eq_false (show ¬ V.int (number % 8) = V.int 2 from fun q => c2 (V.int.inj q))]
    refine iteF ⟨_, rfl, _, _, rfl, rfl, _, rfl, ?_⟩
    by_cases c6 : number % 8 < 6
    · rw [decide_eq_true c6]
      have eW : drawnW a b c d n number = (spoiltW (kindsD first) first rest (number / 8 / 15), spoiltDue (kindsD first) rest (number / 8 / 15)) := by
        unfold drawnW
        rw [if_neg c1, if_neg c2, if_pos c6, ef]
        rfl
      refine iteT ⟨_, rfl, _, rfl, _, wb, first, rest, rfl, hw', hfi, hrl, h4, hrs, fun H2 pp s2 ⟨a2, hp2, ha2⟩ => ⟨pp, _, rfl, SqL.of hp2, rfl, _, _, rfl, _, _, rfl, rfl, ⟨_, rfl⟩, _, rfl, blank, a2, _, rfl, rfl, .inl (SqL.of ha2), ?_, _, rfl, short rfl, fun q hq => ?_⟩⟩
      · have q1 := spoilt_len (kindsD first) first rest (number / 8 / 15)
        exact Nat.le_trans (join_small (spoilt_short hfs hrs) (by omega)) (by decide)
      · exact h _ q _ _ (s1.trans (s2.trans (same_new hq))) upd_same (.inr ⟨c0, by rw [eW], by rw [eW]⟩)
    rw [decide_eq_false c6]
    have eW : drawnW a b c d n number = (deedW a b c d n (number / 8 / 15), deedDue (number / 8 / 15)) := by
      unfold drawnW
      rw [if_neg c1, if_neg c2, if_neg c6]
    refine iteF ⟨_, rfl, _, rfl, _, rfl, _, nb, a, b, c, d, l, n, rfl, s1 _ _ hn, ⟨m0, m1⟩, fun H2 pp s2 ⟨a2, hp2, ha2⟩ => ⟨pp, _, rfl, SqL.of hp2, rfl, _, _, rfl, _, _, rfl, rfl, ⟨_, rfl⟩, _, rfl, blank, a2, _, rfl, rfl, .inl (SqL.of ha2), ?_, _, rfl, short rfl, fun q hq => ?_⟩⟩
    · exact Nat.le_trans (join_small hde.1 hde.2) (by decide)
    · exact h _ q _ _ (s1.trans (s2.trans (same_new hq))) upd_same (.inr ⟨c0, by rw [eW], by rw [eW]⟩)
end
end Dr

namespace Dr
open PySem PySem.Spec PyProof.Rows L2
/-! ### calls within a try: what they raise is wanted at the slots as they stand -/
def tSayAt (C : Addr) (m : Str) (sp : Sp) (E : L2.St → XK) (ta : TE) (t : TA) : TE := fun σ H Q => ta σ H fun x H1 => ∃ a dx fs, x = .ref a ∧ H1 a = some (.ins C dx fs) ∧ fs.lookup m = none ∧
  t σ H1 fun vs H2 => sp (x :: vs) H2 Q (E σ)
def tNewAt (C : Addr) (sp : Sp) (E : L2.St → XK) (t : TA) : TE := fun σ H Q => t σ H fun vs H1 => ∀ x dx, H1 x = none → H1 dx = none → dx ≠ x →
  sp (.ref x :: vs) (upd (upd H1 dx (.own x)) x (.ins C dx [])) (fun v H2 => v = .non ∧ Q (.ref x) H2) (E σ)
section
variable {Y : Cx} {CT : CXT} {n : Nat} {g D : Addr} {fd : FuncData} {ps : List Str} {sp : Sp} {EE : L2.St → XK} {m x : Str} {pos pa pb : Pos} {ob e1 : Expr} {es : List Expr} {to : TE} {t : TA} {pl : Sem Bool}
theorem pe_sayAt (ho : PE Y ob to) (c : Cls Y.K D) (hm : Meth Y.K D m g) (F : FnOk Y.prog Y.w Y.K Y.mg Y.base CT n g fd ps sp) (hr : Room n Y.A) (hb : Binds Y.K fd ps []) (hx : ∀ σ, PassesAt CT Y σ (EE σ)) (ha : PA Y (e1 :: es) t)
    (hst : starEach (e1 :: es) Y.env = (false, eval e1 Y.env) :: starEach es Y.env := by rfl) (hpl : (backTo pos (starEach es Y.env)).any (·.1) = false := by rfl)
    (ht : eval (.Call (.Attribute ob m pa) (e1 :: es) [] pos) Y.env = (do
      let v ← eval ob Y.env
      standAt pa.atName
      let (f, one) ← holding [v] (getMethod v m pl)
      callWith pos f one (backTo pos (starEach (e1 :: es) Y.env)) (backToKw pos (keywordEach [] Y.env))) := by rfl) : PE Y (.Call (.Attribute ob m pa) (e1 :: es) [] pos) (tSayAt D m sp EE to t) := by
  refine ⟨fun pins s σ H Q I h => ?_⟩
  refine PySem.W.methodCall_KW (pl := pl) (thn (ho.run pins s σ H _ I h) fun u s1 ⟨y, H1, I1, ry, a, dx, fs, ey, ea, l, q⟩ => ?_) ht
  subst ey
  obtain rfl : u = Value.ref a := ry
  refine getmeth_ok I1 ea c hm l ?_
  refine PySem.W.callWith_K (first := [.ref a]) (h₀ := Y.base) I.ok.mod.kin hm.kp (thn (ha.run pos pins s1 σ H1 _ I1 q) fun us s2 ⟨vs, H2, I2, r, q2⟩ => ⟨I2.kIn, ?_⟩) hst hpl
  exact run_fnS (vs := .ref a :: vs) (us := .ref a :: us) F hr hb (hx σ) I2 (.cons rfl r) q2
theorem new_run {pins : List (Addr × Obj)} {σ : L2.St} {H : Hp} {s : Shared} {Q : VK} {us : List Value} {vs : List V} (M : Mk Y.K D g) (F : FnOk Y.prog Y.w Y.K Y.mg Y.base CT n g fd ps sp) (hr : Room (n + 1) Y.A) (hb : Binds Y.K fd ps [])
    (hx : PassesAt CT Y σ (EE σ)) (I : Inv Y pins σ H s) (r : Vals vs us)
    (h : ∀ x dx, H x = none → H dx = none → dx ≠ x → sp (.ref x :: vs) (upd (upd H dx (.own x)) x (.ins D dx [])) (fun v H2 => v = .non ∧ Q (.ref x) H2) (EE σ)) : wpAny (model Y.prog Y.w) Y.A (call (.ref D) us) (EP Y pins σ Q) Y.xe s := by
  have hq := h (s.heap.objs.size + 1) s.heap.objs.size (I.hok.fresh (Nat.le_succ _)) (I.hok.fresh (Nat.le_refl _)) (Nat.ne_of_lt (Nat.lt_succ_self _))
  have J := Inv.made (C := D) I
  have r2 : Vals (V.ref (s.heap.objs.size + 1) :: vs) (Value.ref (s.heap.objs.size + 1) :: us) := .cons rfl r
  have hl : (Value.ref (s.heap.objs.size + 1) :: us).length = ps.length := by
    have e := r2.length
    rw [F.len _ _ _ _ hq] at e
    exact e.symm
  have b := hb _ (Value.ref (s.heap.objs.size + 1) :: us) J.kIn (by rw [List.append_nil]; exact hl)
  rw [List.append_nil] at b
  refine wpAny_call (make_map (f := g) I.kIn M.makes M.init (beq_iff_eq.mp M.fn) (codeAny_mono (F.run _ Y.stack _ _ ⟨Value.ref (s.heap.objs.size + 1) :: us, []⟩ (Value.ref (s.heap.objs.size + 1) :: us) _ _ (EE σ) (hr.make D us [])
    (J.env0.make D us []) b r2 hq) fun o s' z => ?_))
  cases o with
  | error e => exact hx pins _ _ e s' J z
  | ok fl =>
    cases fl with
    | ret u =>
      obtain ⟨v, H', J3, rv, ev, q3⟩ := J.after z
      subst ev
      exact ⟨rv, ⟨V.ref (s.heap.objs.size + 1), H', J3, rfl, q3⟩⟩
    | next => exact z.elim
    | brk => exact z.elim
    | cont => exact z.elim
theorem pe_newAt {p : Pos} (M : Mk Y.K D g) (F : FnOk Y.prog Y.w Y.K Y.mg Y.base CT n g fd ps sp) (hr : Room (n + 1) Y.A) (hg : Gl Y x) (hm : Y.mg x = some (.ref D)) (hb : Binds Y.K fd ps []) (hx : ∀ σ, PassesAt CT Y σ (EE σ))
    (ha : PA Y (e1 :: es) t) (hdb : (x == ("__debug__" : Str)) = false := by decide) (he : starEach (e1 :: es) Y.env = (false, eval e1 Y.env) :: starEach es Y.env := by rfl) (hpl : (backTo pos (starEach es Y.env)).any (·.1) = false := by rfl) :
    PE Y (.Call (.Name x p) (e1 :: es) [] pos) (tNewAt D sp EE t) := by
  refine ⟨fun pins s σ H Q I h => ?_⟩
  refine wpAny_Call_Name_kw (ld_glob I hg hm ?_ hdb)
  refine PySem.W.callWith_K (h₀ := Y.base) I.ok.mod.kin M.kp (thn (ha.run pos pins s σ H _ I h) fun us s1 ⟨vs, H1, I1, r, q⟩ => ⟨I1.kIn, ?_⟩) he hpl
  exact new_run M F hr hb (hx σ) I1 r q
end
/-! ### the caught error -/
def tKnown (K : PySem.W.Frag) (tt : Str → TS) (cls : Value) (d : Option Addr) : TS := fun D σ H => ∃ c, ExcC K (He.ga K c) ∧ cls = .ref (He.ga K c) ∧ d = none ∧ tt c D σ H
theorem pss_known {Y : Cx} {a : Addr} {oe : Obj} {cls : Value} {d : Option Addr} {pn : List (Addr × Obj)} {ss : List Stmt} {tt : Str → TS} (hz : Zc cls d oe) (h : ∀ c, ExcC Y.K (He.ga Y.K c) → Zc (.ref (He.ga Y.K c)) none oe → PSs (Y.suite a ((a, oe) :: pn)) ss (tt c)) :
    PSs (Y.suite a ((a, oe) :: pn)) ss (tKnown Y.K tt cls d) := by
  refine ⟨fun pins s σ H D I q => ?_⟩
  obtain ⟨c, hc, rfl, rfl, q⟩ := q
  exact (h c hc hz).run pins s σ H D I q
section
variable {P : Program} {w : World} {K : PySem.W.Frag} {mg : Str → Option Value} {base : Heap}
theorem TX.exc (T : TX K mg) {c : Str} (h : c ∈ exs) : ExcC K (He.ga K c) ∧ PySem.W.kitOne K (.ref (He.ga K c)) (.type "ValueError") = some true ∧ ∀ b ∈ exs, PySem.W.kitOne K (.ref (He.ga K c)) (.ref (He.ga K b)) = some (decide (c = b)) := by
  have q := List.all_eq_true.mp T.ex c h
  simp only [Bool.and_eq_true, decide_eq_true_eq] at q
  obtain ⟨h1, h2, h3, h4, h5, h6, h7, h8, h9, h10⟩ := q
  exact ⟨⟨h1, h2, h3, h4, h5, h6, h7, h8⟩, h9, fun b hb => of_decide_eq_true (List.all_eq_true.mp h10 b hb)⟩
end
end Dr

namespace Dr
open PySem PySem.Spec PyProof.Rows L2
/-- items that are [word, whether] -/
abbrev WL (H : Hp) : List V → List (Str × Bool) → Prop := Paired fun v q => ∃ a, v = .ref a ∧ H a = some (.lst [.str q.1, .bl q.2])
theorem WL.same {H H' : Hp} (s : Same H H') : ∀ {vs : List V} {rs : List (Str × Bool)}, WL H vs rs → WL H' vs rs
  | _, _, .nil => .nil
  | _, _, .cons ⟨a, e, h⟩ t => .cons ⟨a, e, s _ _ h⟩ (WL.same s t)
theorem WL.app {H : Hp} : ∀ {vs us : List V} {rs qs : List (Str × Bool)}, WL H vs rs → WL H us qs → WL H (vs ++ us) (rs ++ qs)
  | _, _, _, _, .nil, h => h
  | _, _, _, _, .cons a t, h => .cons a (WL.app t h)
theorem WL.snoc {H : Hp} {vs : List V} {rs : List (Str × Bool)} {p : Addr} {z : Str} {b : Bool} (L : WL H vs rs) (hp : H p = none) : WL (upd H p (.lst [.str z, .bl b])) (vs ++ [.ref p]) (rs ++ [(z, b)]) :=
  (L.same (same_new hp)).app (.cons ⟨p, rfl, upd_same⟩ .nil)
theorem WL.put {H : Hp} {vs : List V} {rs : List (Str × Bool)} {p : Addr} (o : HO) (_ : WL H vs rs) : upd H p o p = some o := upd_same
theorem WL.get {H : Hp} : ∀ {vs : List V} {rs : List (Str × Bool)} {i : Nat} {q : Str × Bool}, WL H vs rs → rs[i]? = some q → ∃ a, vs[i]? = some (.ref a) ∧ H a = some (.lst [.str q.1, .bl q.2])
  | _, _, i, _, .nil, h => by simp at h
  | _, _, 0, q, .cons ⟨a, e, h⟩ _, hq => by
    cases hq
    exact ⟨a, by rw [e]; rfl, h⟩
  | _ :: vs, _ :: rs, i + 1, q, .cons _ t, hq => by
    have z := WL.get (vs := vs) (rs := rs) (i := i) (q := q) t hq
    exact z
theorem WL.len {H : Hp} : ∀ {vs : List V} {rs : List (Str × Bool)}, WL H vs rs → vs.length = rs.length
  | _, _, .nil => rfl
  | _, _, .cons _ t => by rw [List.length_cons, List.length_cons, WL.len t]
def names12 : List Str := [("NoRow" : Str), ("NoName" : Str), ("NoText" : Str), ("TooDeep" : Str), ("NoDepth" : Str), ("NoSingle" : Str), ("NoSmall" : Str), ("NoParts" : Str), ("TooGreat" : Str), ("NoPrime" : Str), ("NoBall" : Str), ("NoInverse" : Str)]
def told (due : Str) (l : List Str) : List (Str × Bool) := l.map fun c => (c, decide (due = c))
theorem told_one {due : Str} (h : due ∈ exs) : ((told due names12).filter (·.2)).map (·.1) = [due] := by
  have q : (exs.all fun due => decide (((told due names12).filter (·.2)).map (·.1) = [due])) = true := by decide +kernel
  exact of_decide_eq_true (List.all_eq_true.mp q due h)
theorem names_exs : ∀ c ∈ names12, c ∈ exs := fun c h => of_decide_eq_true (List.all_eq_true.mp (show (names12.all fun c => decide (c ∈ exs)) = true by decide +kernel) c h)
def errs : List Str := [("NoRow" : Str), ("NoName" : Str), ("NoText" : Str), ("TooDeep" : Str), ("NoDepth" : Str), ("NoSingle" : Str), ("NoSmall" : Str), ("NoParts" : Str), ("TooGreat" : Str), ("NoPrime" : Str)]
theorem errs_exs : ∀ c ∈ errs, c ∈ exs := fun c h => of_decide_eq_true (List.all_eq_true.mp (show (errs.all fun c => decide (c ∈ exs)) = true by decide +kernel) c h)
theorem TX.exm {K : PySem.W.Frag} {mg : Str → Option Value} (T : TX K mg) : ∀ c ∈ errs, PySem.W.exmOne K (.ref (He.ga K c)) (.ref (He.ga K "RestError")) = some true :=
  List.forall_mem_cons.mpr ⟨T.eNoRow, List.forall_mem_cons.mpr ⟨T.eNoName, List.forall_mem_cons.mpr ⟨T.eNoText, List.forall_mem_cons.mpr ⟨T.eTooDeep, List.forall_mem_cons.mpr ⟨T.eNoDepth, List.forall_mem_cons.mpr ⟨T.eNoSingle, List.forall_mem_cons.mpr ⟨T.eNoSmall,
    List.forall_mem_cons.mpr ⟨T.eNoParts, List.forall_mem_cons.mpr ⟨T.eTooGreat, List.forall_mem_cons.mpr ⟨T.eNoPrime, fun _ q => nomatch q⟩⟩⟩⟩⟩⟩⟩⟩⟩⟩
def tIs (K : PySem.W.Frag) (a : Addr) (c : Str) (v : V) : TE := tCB (rIsE K (He.ga K c) a) (tCons (tVar 5) (tCons (tC v) tNil))
/-- the suite: what the error is, and what else it is not -/
def tTold (K : PySem.W.Frag) (a : Addr) (c : Str) : TS := tSeq (tAsg (tIs K a c (.ty "ValueError")) (gName 4)) (tSeq (tAsg (tLst (tCons (tLst (tCons (tC (.str ("NoRow"))) (tCons (tIs K a c (.ref (He.ga K "NoRow"))) tNil))) (tCons (tLst (tCons (tC (.str ("NoName"))) (tCons (tIs K a c (.ref (He.ga K "NoName"))) tNil))) (tCons (tLst (tCons (tC (.str ("NoText"))) (tCons (tIs K a c (.ref (He.ga K "NoText"))) tNil))) tNil)))) (gName 3)) (tSeq (tAsg (tOp rCat (tVar 3) (tLst (tCons (tLst (tCons (tC (.str ("TooDeep"))) (tCons (tIs K a c (.ref (He.ga K "TooDeep"))) tNil))) (tCons (tLst (tCons (tC (.str ("NoDepth"))) (tCons (tIs K a c (.ref (He.ga K "NoDepth"))) tNil))) tNil)))) (gName 3)) (tSeq (tAsg (tOp rCat (tVar 3) (tLst (tCons (tLst (tCons (tC (.str ("NoSingle"))) (tCons (tIs K a c (.ref (He.ga K "NoSingle"))) tNil))) (tCons (tLst (tCons (tC (.str ("NoSmall"))) (tCons (tIs K a c (.ref (He.ga K "NoSmall"))) tNil))) tNil)))) (gName 3)) (tSeq (tAsg (tOp rCat (tVar 3) (tLst (tCons (tLst (tCons (tC (.str ("NoParts"))) (tCons (tIs K a c (.ref (He.ga K "NoParts"))) tNil))) (tCons (tLst (tCons (tC (.str ("TooGreat"))) (tCons (tIs K a c (.ref (He.ga K "TooGreat"))) tNil))) tNil)))) (gName 3)) (tSeq (tAsg (tOp rCat (tVar 3) (tLst (tCons (tLst (tCons (tC (.str ("NoPrime"))) (tCons (tIs K a c (.ref (He.ga K "NoPrime"))) tNil))) (tCons (tLst (tCons (tC (.str ("NoBall"))) (tCons (tIs K a c (.ref (He.ga K "NoBall"))) tNil))) tNil)))) (gName 3)) (tAsg (tOp rCat (tVar 3) (tLst (tCons (tLst (tCons (tC (.str ("NoInverse"))) (tCons (tIs K a c (.ref (He.ga K "NoInverse"))) tNil))) tNil))) (gName 3)))))))
theorem told_ok {K : PySem.W.Frag} {a d p0 : Addr} {v : V} {due : Str} {G0 : Hp} {D : Ends} (kV : PySem.W.kitOne K (.ref (He.ga K due)) (.type "ValueError") = some true) (kc : ∀ c : Str, c ∈ exs → PySem.W.kitOne K (.ref (He.ga K due)) (.ref (He.ga K c)) = some (decide (due = c)))
    (h : ∀ (H' : Hp) (p : Addr) (xs : List V), Same G0 H' → WL H' xs (told due names12) → H' p = some (.lst xs) → D.nx [some (.ref d), some v, some (.str due), some (.ref p), some (.bl true), some (.ref a), none, none] H') :
    tTold K a due D [some (.ref d), some v, some (.str due), some (.ref p0), some (.bl false), some (.ref a), none, none] G0 := by
    refine ⟨_, rfl, _, _, _, rfl, fun _ r => r, kV, ?_⟩
    have L0 : WL G0 [] [] := .nil
    have S0 : Same G0 G0 := Same.refl G0
    refine ⟨_, rfl, _, _, _, rfl, fun _ r => r, kc "NoRow" (by decide +kernel), short rfl, fun p1 hp1 => ?_⟩
    have L1 := L0.snoc (z := "NoRow") (b := decide (due = "NoRow")) hp1
    have S1 := S0.trans (same_new (o := .lst [.str ("NoRow"), .bl (decide (due = "NoRow"))]) hp1)
    generalize upd G0 p1 (.lst [.str ("NoRow"), .bl (decide (due = "NoRow"))]) = G1 at L1 S1  ⊢
    clear L0 S0 hp1
    refine ⟨_, rfl, _, _, _, rfl, fun _ r => r, kc "NoName" (by decide +kernel), short rfl, fun p2 hp2 => ?_⟩
    have L2 := L1.snoc (z := "NoName") (b := decide (due = "NoName")) hp2
    have S2 := S1.trans (same_new (o := .lst [.str ("NoName"), .bl (decide (due = "NoName"))]) hp2)
    generalize upd G1 p2 (.lst [.str ("NoName"), .bl (decide (due = "NoName"))]) = G2 at L2 S2  ⊢
    clear L1 S1 hp2
    refine ⟨_, rfl, _, _, _, rfl, fun _ r => r, kc "NoText" (by decide +kernel), short rfl, fun p3 hp3 => ?_⟩
    have L3 := L2.snoc (z := "NoText") (b := decide (due = "NoText")) hp3
    have S3 := S2.trans (same_new (o := .lst [.str ("NoText"), .bl (decide (due = "NoText"))]) hp3)
    generalize upd G2 p3 (.lst [.str ("NoText"), .bl (decide (due = "NoText"))]) = G3 at L3 S3  ⊢
    clear L2 S2 hp3
    refine ⟨short rfl, fun p4 hp4 => ?_⟩
    have X4 := L3.put (p := p4) (.lst [.ref p1, .ref p2, .ref p3])
    have L4 := L3.same (same_new (o := .lst [.ref p1, .ref p2, .ref p3]) hp4)
    have S4 := S3.trans (same_new (o := .lst [.ref p1, .ref p2, .ref p3]) hp4)
    generalize upd G3 p4 (.lst [.ref p1, .ref p2, .ref p3]) = G4 at L4 S4 X4 ⊢
    clear L3 S3 hp4
    refine ⟨_, rfl, ?_⟩
    rw [show ([some (.ref d), some v, some (.str due), some (.ref p0), some (.bl false), some (.ref a), none, none].set 4 (some (.bl true)) : L2.St).set 3 (some (.ref p4)) = [some (.ref d), some v, some (.str due), some (.ref p4), some (.bl true), some (.ref a), none, none] from rfl]
    refine ⟨_, rfl, _, _, _, rfl, fun _ r => r, kc "TooDeep" (by decide +kernel), short rfl, fun p5 hp5 => ?_⟩
    have L5 := L4.snoc (z := "TooDeep") (b := decide (due = "TooDeep")) hp5
    have S5 := S4.trans (same_new (o := .lst [.str ("TooDeep"), .bl (decide (due = "TooDeep"))]) hp5)
    have X4 := same_new (o := .lst [.str ("TooDeep"), .bl (decide (due = "TooDeep"))]) hp5 _ _ X4
    generalize upd G4 p5 (.lst [.str ("TooDeep"), .bl (decide (due = "TooDeep"))]) = G5 at L5 S5 X4 ⊢
    clear L4 S4 hp5
    refine ⟨_, rfl, _, _, _, rfl, fun _ r => r, kc "NoDepth" (by decide +kernel), short rfl, fun p6 hp6 => ?_⟩
    have L6 := L5.snoc (z := "NoDepth") (b := decide (due = "NoDepth")) hp6
    have S6 := S5.trans (same_new (o := .lst [.str ("NoDepth"), .bl (decide (due = "NoDepth"))]) hp6)
    have X4 := same_new (o := .lst [.str ("NoDepth"), .bl (decide (due = "NoDepth"))]) hp6 _ _ X4
    generalize upd G5 p6 (.lst [.str ("NoDepth"), .bl (decide (due = "NoDepth"))]) = G6 at L6 S6 X4 ⊢
    clear L5 S5 hp6
    refine ⟨short rfl, fun p7 hp7 => ?_⟩
    have X7 := L6.put (p := p7) (.lst [.ref p5, .ref p6])
    have L7 := L6.same (same_new (o := .lst [.ref p5, .ref p6]) hp7)
    have S7 := S6.trans (same_new (o := .lst [.ref p5, .ref p6]) hp7)
    have X4 := same_new (o := .lst [.ref p5, .ref p6]) hp7 _ _ X4
    generalize upd G6 p7 (.lst [.ref p5, .ref p6]) = G7 at L7 S7 X4 X7 ⊢
    clear L6 S6 hp7
    refine ⟨p4, p7, _, _, rfl, rfl, X4, X7, short rfl, fun p8 hp8 => ?_⟩
    have X8 := L7.put (p := p8) (.lst ([.ref p1, .ref p2, .ref p3] ++ [.ref p5, .ref p6]))
    have L8 := L7.same (same_new (o := .lst ([.ref p1, .ref p2, .ref p3] ++ [.ref p5, .ref p6])) hp8)
    have S8 := S7.trans (same_new (o := .lst ([.ref p1, .ref p2, .ref p3] ++ [.ref p5, .ref p6])) hp8)
    generalize upd G7 p8 (.lst ([.ref p1, .ref p2, .ref p3] ++ [.ref p5, .ref p6])) = G8 at L8 S8 X8 ⊢
    clear L7 S7 hp8
    refine ⟨_, rfl, ?_⟩
    rw [show ([some (.ref d), some v, some (.str due), some (.ref p4), some (.bl true), some (.ref a), none, none] : L2.St).set 3 (some (.ref p8)) = [some (.ref d), some v, some (.str due), some (.ref p8), some (.bl true), some (.ref a), none, none] from rfl]
    refine ⟨_, rfl, _, _, _, rfl, fun _ r => r, kc "NoSingle" (by decide +kernel), short rfl, fun p9 hp9 => ?_⟩
    have L9 := L8.snoc (z := "NoSingle") (b := decide (due = "NoSingle")) hp9
    have S9 := S8.trans (same_new (o := .lst [.str ("NoSingle"), .bl (decide (due = "NoSingle"))]) hp9)
    have X8 := same_new (o := .lst [.str ("NoSingle"), .bl (decide (due = "NoSingle"))]) hp9 _ _ X8
    generalize upd G8 p9 (.lst [.str ("NoSingle"), .bl (decide (due = "NoSingle"))]) = G9 at L9 S9 X8 ⊢
    clear L8 S8 hp9
    refine ⟨_, rfl, _, _, _, rfl, fun _ r => r, kc "NoSmall" (by decide +kernel), short rfl, fun p10 hp10 => ?_⟩
    have L10 := L9.snoc (z := "NoSmall") (b := decide (due = "NoSmall")) hp10
    have S10 := S9.trans (same_new (o := .lst [.str ("NoSmall"), .bl (decide (due = "NoSmall"))]) hp10)
    have X8 := same_new (o := .lst [.str ("NoSmall"), .bl (decide (due = "NoSmall"))]) hp10 _ _ X8
    generalize upd G9 p10 (.lst [.str ("NoSmall"), .bl (decide (due = "NoSmall"))]) = G10 at L10 S10 X8 ⊢
    clear L9 S9 hp10
    refine ⟨short rfl, fun p11 hp11 => ?_⟩
    have X11 := L10.put (p := p11) (.lst [.ref p9, .ref p10])
    have L11 := L10.same (same_new (o := .lst [.ref p9, .ref p10]) hp11)
    have S11 := S10.trans (same_new (o := .lst [.ref p9, .ref p10]) hp11)
    have X8 := same_new (o := .lst [.ref p9, .ref p10]) hp11 _ _ X8
    generalize upd G10 p11 (.lst [.ref p9, .ref p10]) = G11 at L11 S11 X8 X11 ⊢
    clear L10 S10 hp11
    refine ⟨p8, p11, _, _, rfl, rfl, X8, X11, short rfl, fun p12 hp12 => ?_⟩
    have X12 := L11.put (p := p12) (.lst (([.ref p1, .ref p2, .ref p3] ++ [.ref p5, .ref p6]) ++ [.ref p9, .ref p10]))
    have L12 := L11.same (same_new (o := .lst (([.ref p1, .ref p2, .ref p3] ++ [.ref p5, .ref p6]) ++ [.ref p9, .ref p10])) hp12)
    have S12 := S11.trans (same_new (o := .lst (([.ref p1, .ref p2, .ref p3] ++ [.ref p5, .ref p6]) ++ [.ref p9, .ref p10])) hp12)
    generalize upd G11 p12 (.lst (([.ref p1, .ref p2, .ref p3] ++ [.ref p5, .ref p6]) ++ [.ref p9, .ref p10])) = G12 at L12 S12 X12 ⊢
    clear L11 S11 hp12
    refine ⟨_, rfl, ?_⟩
    rw [show ([some (.ref d), some v, some (.str due), some (.ref p8), some (.bl true), some (.ref a), none, none] : L2.St).set 3 (some (.ref p12)) = [some (.ref d), some v, some (.str due), some (.ref p12), some (.bl true), some (.ref a), none, none] from rfl]
    refine ⟨_, rfl, _, _, _, rfl, fun _ r => r, kc "NoParts" (by decide +kernel), short rfl, fun p13 hp13 => ?_⟩
    have L13 := L12.snoc (z := "NoParts") (b := decide (due = "NoParts")) hp13
    have S13 := S12.trans (same_new (o := .lst [.str ("NoParts"), .bl (decide (due = "NoParts"))]) hp13)
    have X12 := same_new (o := .lst [.str ("NoParts"), .bl (decide (due = "NoParts"))]) hp13 _ _ X12
    generalize upd G12 p13 (.lst [.str ("NoParts"), .bl (decide (due = "NoParts"))]) = G13 at L13 S13 X12 ⊢
    clear L12 S12 hp13
    refine ⟨_, rfl, _, _, _, rfl, fun _ r => r, kc "TooGreat" (by decide +kernel), short rfl, fun p14 hp14 => ?_⟩
    have L14 := L13.snoc (z := "TooGreat") (b := decide (due = "TooGreat")) hp14
    have S14 := S13.trans (same_new (o := .lst [.str ("TooGreat"), .bl (decide (due = "TooGreat"))]) hp14)
    have X12 := same_new (o := .lst [.str ("TooGreat"), .bl (decide (due = "TooGreat"))]) hp14 _ _ X12
    generalize upd G13 p14 (.lst [.str ("TooGreat"), .bl (decide (due = "TooGreat"))]) = G14 at L14 S14 X12 ⊢
    clear L13 S13 hp14
    refine ⟨short rfl, fun p15 hp15 => ?_⟩
    have X15 := L14.put (p := p15) (.lst [.ref p13, .ref p14])
    have L15 := L14.same (same_new (o := .lst [.ref p13, .ref p14]) hp15)
    have S15 := S14.trans (same_new (o := .lst [.ref p13, .ref p14]) hp15)
    have X12 := same_new (o := .lst [.ref p13, .ref p14]) hp15 _ _ X12
    generalize upd G14 p15 (.lst [.ref p13, .ref p14]) = G15 at L15 S15 X12 X15 ⊢
    clear L14 S14 hp15
    refine ⟨p12, p15, _, _, rfl, rfl, X12, X15, short rfl, fun p16 hp16 => ?_⟩
    have X16 := L15.put (p := p16) (.lst ((([.ref p1, .ref p2, .ref p3] ++ [.ref p5, .ref p6]) ++ [.ref p9, .ref p10]) ++ [.ref p13, .ref p14]))
    have L16 := L15.same (same_new (o := .lst ((([.ref p1, .ref p2, .ref p3] ++ [.ref p5, .ref p6]) ++ [.ref p9, .ref p10]) ++ [.ref p13, .ref p14])) hp16)
    have S16 := S15.trans (same_new (o := .lst ((([.ref p1, .ref p2, .ref p3] ++ [.ref p5, .ref p6]) ++ [.ref p9, .ref p10]) ++ [.ref p13, .ref p14])) hp16)
    generalize upd G15 p16 (.lst ((([.ref p1, .ref p2, .ref p3] ++ [.ref p5, .ref p6]) ++ [.ref p9, .ref p10]) ++ [.ref p13, .ref p14])) = G16 at L16 S16 X16 ⊢
    clear L15 S15 hp16
    refine ⟨_, rfl, ?_⟩
    rw [show ([some (.ref d), some v, some (.str due), some (.ref p12), some (.bl true), some (.ref a), none, none] : L2.St).set 3 (some (.ref p16)) = [some (.ref d), some v, some (.str due), some (.ref p16), some (.bl true), some (.ref a), none, none] from rfl]
    refine ⟨_, rfl, _, _, _, rfl, fun _ r => r, kc "NoPrime" (by decide +kernel), short rfl, fun p17 hp17 => ?_⟩
    have L17 := L16.snoc (z := "NoPrime") (b := decide (due = "NoPrime")) hp17
    have S17 := S16.trans (same_new (o := .lst [.str ("NoPrime"), .bl (decide (due = "NoPrime"))]) hp17)
    have X16 := same_new (o := .lst [.str ("NoPrime"), .bl (decide (due = "NoPrime"))]) hp17 _ _ X16
    generalize upd G16 p17 (.lst [.str ("NoPrime"), .bl (decide (due = "NoPrime"))]) = G17 at L17 S17 X16 ⊢
    clear L16 S16 hp17
    refine ⟨_, rfl, _, _, _, rfl, fun _ r => r, kc "NoBall" (by decide +kernel), short rfl, fun p18 hp18 => ?_⟩
    have L18 := L17.snoc (z := "NoBall") (b := decide (due = "NoBall")) hp18
    have S18 := S17.trans (same_new (o := .lst [.str ("NoBall"), .bl (decide (due = "NoBall"))]) hp18)
    have X16 := same_new (o := .lst [.str ("NoBall"), .bl (decide (due = "NoBall"))]) hp18 _ _ X16
    generalize upd G17 p18 (.lst [.str ("NoBall"), .bl (decide (due = "NoBall"))]) = G18 at L18 S18 X16 ⊢
    clear L17 S17 hp18
    refine ⟨short rfl, fun p19 hp19 => ?_⟩
    have X19 := L18.put (p := p19) (.lst [.ref p17, .ref p18])
    have L19 := L18.same (same_new (o := .lst [.ref p17, .ref p18]) hp19)
    have S19 := S18.trans (same_new (o := .lst [.ref p17, .ref p18]) hp19)
    have X16 := same_new (o := .lst [.ref p17, .ref p18]) hp19 _ _ X16
    generalize upd G18 p19 (.lst [.ref p17, .ref p18]) = G19 at L19 S19 X16 X19 ⊢
    clear L18 S18 hp19
    refine ⟨p16, p19, _, _, rfl, rfl, X16, X19, short rfl, fun p20 hp20 => ?_⟩
    have X20 := L19.put (p := p20) (.lst (((([.ref p1, .ref p2, .ref p3] ++ [.ref p5, .ref p6]) ++ [.ref p9, .ref p10]) ++ [.ref p13, .ref p14]) ++ [.ref p17, .ref p18]))
    have L20 := L19.same (same_new (o := .lst (((([.ref p1, .ref p2, .ref p3] ++ [.ref p5, .ref p6]) ++ [.ref p9, .ref p10]) ++ [.ref p13, .ref p14]) ++ [.ref p17, .ref p18])) hp20)
    have S20 := S19.trans (same_new (o := .lst (((([.ref p1, .ref p2, .ref p3] ++ [.ref p5, .ref p6]) ++ [.ref p9, .ref p10]) ++ [.ref p13, .ref p14]) ++ [.ref p17, .ref p18])) hp20)
    generalize upd G19 p20 (.lst (((([.ref p1, .ref p2, .ref p3] ++ [.ref p5, .ref p6]) ++ [.ref p9, .ref p10]) ++ [.ref p13, .ref p14]) ++ [.ref p17, .ref p18])) = G20 at L20 S20 X20 ⊢
    clear L19 S19 hp20
    refine ⟨_, rfl, ?_⟩
    rw [show ([some (.ref d), some v, some (.str due), some (.ref p16), some (.bl true), some (.ref a), none, none] : L2.St).set 3 (some (.ref p20)) = [some (.ref d), some v, some (.str due), some (.ref p20), some (.bl true), some (.ref a), none, none] from rfl]
    refine ⟨_, rfl, _, _, _, rfl, fun _ r => r, kc "NoInverse" (by decide +kernel), short rfl, fun p21 hp21 => ?_⟩
    have L21 := L20.snoc (z := "NoInverse") (b := decide (due = "NoInverse")) hp21
    have S21 := S20.trans (same_new (o := .lst [.str ("NoInverse"), .bl (decide (due = "NoInverse"))]) hp21)
    have X20 := same_new (o := .lst [.str ("NoInverse"), .bl (decide (due = "NoInverse"))]) hp21 _ _ X20
    generalize upd G20 p21 (.lst [.str ("NoInverse"), .bl (decide (due = "NoInverse"))]) = G21 at L21 S21 X20 ⊢
    clear L20 S20 hp21
    refine ⟨short rfl, fun p22 hp22 => ?_⟩
    have X22 := L21.put (p := p22) (.lst [.ref p21])
    have L22 := L21.same (same_new (o := .lst [.ref p21]) hp22)
    have S22 := S21.trans (same_new (o := .lst [.ref p21]) hp22)
    have X20 := same_new (o := .lst [.ref p21]) hp22 _ _ X20
    generalize upd G21 p22 (.lst [.ref p21]) = G22 at L22 S22 X20 X22 ⊢
    clear L21 S21 hp22
    refine ⟨p20, p22, _, _, rfl, rfl, X20, X22, short rfl, fun p23 hp23 => ?_⟩
    have X23 := L22.put (p := p23) (.lst ((((([.ref p1, .ref p2, .ref p3] ++ [.ref p5, .ref p6]) ++ [.ref p9, .ref p10]) ++ [.ref p13, .ref p14]) ++ [.ref p17, .ref p18]) ++ [.ref p21]))
    have L23 := L22.same (same_new (o := .lst ((((([.ref p1, .ref p2, .ref p3] ++ [.ref p5, .ref p6]) ++ [.ref p9, .ref p10]) ++ [.ref p13, .ref p14]) ++ [.ref p17, .ref p18]) ++ [.ref p21])) hp23)
    have S23 := S22.trans (same_new (o := .lst ((((([.ref p1, .ref p2, .ref p3] ++ [.ref p5, .ref p6]) ++ [.ref p9, .ref p10]) ++ [.ref p13, .ref p14]) ++ [.ref p17, .ref p18]) ++ [.ref p21])) hp23)
    generalize upd G22 p23 (.lst ((((([.ref p1, .ref p2, .ref p3] ++ [.ref p5, .ref p6]) ++ [.ref p9, .ref p10]) ++ [.ref p13, .ref p14]) ++ [.ref p17, .ref p18]) ++ [.ref p21])) = G23 at L23 S23 X23 ⊢
    clear L22 S22 hp23
    exact h G23 p23 _ S23 L23 X23
section
variable {P : Program} {w : World} {K : PySem.W.Frag} {mg : Str → Option Value} {base : Heap}
/-- a row that desk refuses so -/
def RefR (K : PySem.W.Frag) (p : Int) (kept : Kept) (v : V) (H : Hp) (due : Str) : Prop :=
  (due = "NoRow" ∧ NotTxt K H v) ∨
  (∃ (z first : Str) (rest : List Str), v = .str z ∧ z.length ≤ 10000 ∧ Txt.split z blank = first :: rest ∧ rest.length ≤ 100 ∧
    ((rowBad first rest = true ∧ due = "NoRow") ∨
     (∃ kd, kindsM first = some kd ∧ kd.length = rest.length ∧ ptsOk kd rest = true ∧ (firstBad (ptsM (lk kept) kd rest) = some due ∨ (firstBad (ptsM (lk kept) kd rest) = none ∧ DeedR p kept first rest (ptsM (lk kept) kd rest) (.bad due))))))
theorem tyOf_same {K : PySem.W.Frag} {H H' : Hp} {v : V} {t : Value} (s : Same H H') (h : TyOf K H v t) : TyOf K H' v t := by
  cases h with
  | non => exact .non
  | bl x => exact .bl x
  | int i => exact .int i
  | str x => exact .str x
  | flt x => exact .flt x
  | lst e => exact .lst (s _ _ e)
  | frz e => exact .frz (s _ _ e)
  | tup e => exact .tup (s _ _ e)
  | dK e => exact .dK (s _ _ e)
  | dT e => exact .dT (s _ _ e)
  | ins e cl ha hn htk hm => exact .ins (s _ _ e) cl ha hn htk hm
theorem NotTxt.same {K : PySem.W.Frag} {H H' : Hp} {v : V} (s : Same H H') (h : NotTxt K H v) : NotTxt K H' v := by
  obtain ⟨t, h, k⟩ := h
  refine ⟨t, ?_, k⟩
  cases h with
  | base b => exact .base (tyOf_same s b)
  | byt b => exact .byt b
  | set e => exact .set (s _ _ e)
  | kList e c => exact .kList e c
  | kTuple e c => exact .kTuple e c
  | kDict e c => exact .kDict e c
  | fTuple e => exact .fTuple (s _ _ e)
  | fDict e => exact .fDict (s _ _ e)
theorem RefR.same {K : PySem.W.Frag} {p : Int} {kept : Kept} {v : V} {H H' : Hp} {due : Str} (h : RefR K p kept v H due) (s : Same H H') : RefR K p kept v H' due := h.imp (fun q => ⟨q.1, q.2.same s⟩) fun q => q
theorem refused_say {K : PySem.W.Frag} {H : Hp} {Q : VK} {E : XK} {d k : Addr} {p : Int} {kept : Kept} {v : V} {due : Str} (D : DeskAt K H d k p kept) (hp : 2 ≤ p ∧ p ≤ 97) (hR : RefR K p kept v H due)
    (hE : ∀ H', Same H H' → E (.ref (He.ga K due)) none H') : spSay K [.ref d, v] H Q E := by
  refine ⟨d, k, p, kept, v, rfl, D, hp, ?_⟩
  rcases hR with ⟨rfl, t, h1, h2⟩ | ⟨z, first, rest, rfl, hz, hs, hl, hR⟩
  · exact .inl ⟨t, h1, h2, hE⟩
  · refine .inr ⟨z, first, rest, rfl, hz, hs, hl, ?_⟩
    rcases hR with ⟨hb, rfl⟩ | ⟨kd, h1, h2, h3, h4⟩
    · exact .inl ⟨hb, hE⟩
    · exact .inr ⟨kd, h1, h2, h3, h4.imp (fun q => ⟨due, q, hE⟩) fun q => ⟨q.1, .bad due, q.2, hE⟩⟩
def spRefused (K : PySem.W.Frag) : Sp := fun vs H Q _ => ∃ (d k : Addr) (p : Int) (kept : Kept) (v : V) (due : Str), vs = [.ref d, v, .str due] ∧ DeskAt K H d k p kept ∧ (2 ≤ p ∧ p ≤ 97) ∧ due ∈ errs ∧ RefR K p kept v H due ∧ ∀ H', Same H H' → Q (.bl true) H'
abbrev nmRef : List Str := ["desk", "row", "due", "some", "plain", "e", "word", "held"]
theorem scRef : FnScope nmRef ["desk", "row", "due"] (defScope sLawRefused) := ⟨rfl, rfl, rfl, by decide +kernel, rfl, by decide +kernel, by decide +kernel⟩
theorem ok_Refused (T : TX K mg) : DefP P w K mg base CX0 7 "_law_refused" ["desk", "row", "due"] (spRefused K) := by
  obtain ⟨fd, F⟩ := T.fLawRefused
  obtain ⟨fdS, GS, bS⟩ := ok_Say (P := P) (w := w) (base := base) T
  refine defP F T.gLawRefused (fun _ _ _ _ _ _ us hl => match us, hl with | [_, _, _], _ => rfl) (F.ok scRef (fun vs H Q E h => ?_) (fun cdv A outer s H vs Q E hr h => ?_))
  · obtain ⟨d, k, p, kept, v, due, rfl, _⟩ := h
    rfl
  · obtain ⟨d, k, p, kept, v, due, rfl, D, hp, hdue0, hR, h⟩ := h
    have hdue := errs_exs due hdue0
    have hx := T.exm
    have nd := scRef.nd
    refine ⟨_, PSs.nox (pss_cons (ps_set (i := 3) nd rfl (.inl rfl) (pe_lst pa_nil))
      (pss_cons (ps_set (i := 4) nd rfl (.inl rfl) pe_bl)
      (pss_cons (ps_try_as (i := 5) (tb := fun W => tDrop (tSayAt (He.ga K "Desk") "say" (spSay K) (WE W) (tVar 0) (tCons (tVar 1) tNil))) (ts := fun a cls d => tKnown K (tTold K a) cls d) (Wout := fun _ _ _ _ => False) rfl rfl nd rfl rfl ⟨rfl, by decide, .inl T.gRestError⟩ takes0
          (fun W pn xe tk _ => pss_one (ps_expr (by exact (pe_sayAt (pv 0) T.cls T.mSay GS hr bS (fun σ => passAt tk σ) (by exact (pa_cons (pv 1) pa_nil))))))
          (fun a oe cls d pn hz hf => by exact (pss_known hz (fun c cc hz2 => by exact (pss_cons (ps_set (i := 4) nd rfl (.inl rfl) (pe_callB (call_isE cc hz2 hf) (by rfl) T.nisinstance PyProof.Rows.boot_isinstance (pa_cons (pv 5) (pa_cons (pe_bltn (v := .ty "ValueError") (by rfl) T.nValueError boot_ValueError rfl) pa_nil))))
            (pss_cons (ps_set (i := 3) nd rfl (.inl rfl) (pe_lst (pa_cons (pe_lst (pa_cons pe_str (pa_cons (pe_callB (call_isE cc hz2 hf) (by rfl) T.nisinstance PyProof.Rows.boot_isinstance (pa_cons (pv 5) (pa_cons (pe_glob (v := .ref (He.ga K "NoRow")) (by rfl) T.gNoRow rfl) pa_nil))) pa_nil))) (pa_cons (pe_lst (pa_cons pe_str (pa_cons (pe_callB (call_isE cc hz2 hf) (by rfl) T.nisinstance PyProof.Rows.boot_isinstance (pa_cons (pv 5) (pa_cons (pe_glob (v := .ref (He.ga K "NoName")) (by rfl) T.gNoName rfl) pa_nil))) pa_nil))) (pa_cons (pe_lst (pa_cons pe_str (pa_cons (pe_callB (call_isE cc hz2 hf) (by rfl) T.nisinstance PyProof.Rows.boot_isinstance (pa_cons (pv 5) (pa_cons (pe_glob (v := .ref (He.ga K "NoText")) (by rfl) T.gNoText rfl) pa_nil))) pa_nil))) pa_nil))))) (pss_cons (ps_set (i := 3) nd rfl (.inl rfl) (pe_op op_cat (pv 3) (pe_lst (pa_cons (pe_lst (pa_cons pe_str (pa_cons (pe_callB (call_isE cc hz2 hf) (by rfl) T.nisinstance PyProof.Rows.boot_isinstance (pa_cons (pv 5) (pa_cons (pe_glob (v := .ref (He.ga K "TooDeep")) (by rfl) T.gTooDeep rfl) pa_nil))) pa_nil))) (pa_cons (pe_lst (pa_cons pe_str (pa_cons (pe_callB (call_isE cc hz2 hf) (by rfl) T.nisinstance PyProof.Rows.boot_isinstance (pa_cons (pv 5) (pa_cons (pe_glob (v := .ref (He.ga K "NoDepth")) (by rfl) T.gNoDepth rfl) pa_nil))) pa_nil))) pa_nil))))) (pss_cons (ps_set (i := 3) nd rfl (.inl rfl) (pe_op op_cat (pv 3) (pe_lst (pa_cons (pe_lst (pa_cons pe_str (pa_cons (pe_callB (call_isE cc hz2 hf) (by rfl) T.nisinstance PyProof.Rows.boot_isinstance (pa_cons (pv 5) (pa_cons (pe_glob (v := .ref (He.ga K "NoSingle")) (by rfl) T.gNoSingle rfl) pa_nil))) pa_nil))) (pa_cons (pe_lst (pa_cons pe_str (pa_cons (pe_callB (call_isE cc hz2 hf) (by rfl) T.nisinstance PyProof.Rows.boot_isinstance (pa_cons (pv 5) (pa_cons (pe_glob (v := .ref (He.ga K "NoSmall")) (by rfl) T.gNoSmall rfl) pa_nil))) pa_nil))) pa_nil))))) (pss_cons (ps_set (i := 3) nd rfl (.inl rfl) (pe_op op_cat (pv 3) (pe_lst (pa_cons (pe_lst (pa_cons pe_str (pa_cons (pe_callB (call_isE cc hz2 hf) (by rfl) T.nisinstance PyProof.Rows.boot_isinstance (pa_cons (pv 5) (pa_cons (pe_glob (v := .ref (He.ga K "NoParts")) (by rfl) T.gNoParts rfl) pa_nil))) pa_nil))) (pa_cons (pe_lst (pa_cons pe_str (pa_cons (pe_callB (call_isE cc hz2 hf) (by rfl) T.nisinstance PyProof.Rows.boot_isinstance (pa_cons (pv 5) (pa_cons (pe_glob (v := .ref (He.ga K "TooGreat")) (by rfl) T.gTooGreat rfl) pa_nil))) pa_nil))) pa_nil))))) (pss_cons (ps_set (i := 3) nd rfl (.inl rfl) (pe_op op_cat (pv 3) (pe_lst (pa_cons (pe_lst (pa_cons pe_str (pa_cons (pe_callB (call_isE cc hz2 hf) (by rfl) T.nisinstance PyProof.Rows.boot_isinstance (pa_cons (pv 5) (pa_cons (pe_glob (v := .ref (He.ga K "NoPrime")) (by rfl) T.gNoPrime rfl) pa_nil))) pa_nil))) (pa_cons (pe_lst (pa_cons pe_str (pa_cons (pe_callB (call_isE cc hz2 hf) (by rfl) T.nisinstance PyProof.Rows.boot_isinstance (pa_cons (pv 5) (pa_cons (pe_glob (v := .ref (He.ga K "NoBall")) (by rfl) T.gNoBall rfl) pa_nil))) pa_nil))) pa_nil))))) (pss_one (ps_set (i := 3) nd rfl (.inl rfl) (pe_op op_cat (pv 3) (pe_lst (pa_cons (pe_lst (pa_cons pe_str (pa_cons (pe_callB (call_isE cc hz2 hf) (by rfl) T.nisinstance PyProof.Rows.boot_isinstance (pa_cons (pv 5) (pa_cons (pe_glob (v := .ref (He.ga K "NoInverse")) (by rfl) T.gNoInverse rfl) pa_nil))) pa_nil))) pa_nil)))))))))))))))
      (pss_one (ps_ret (pe_and (pv 4) (pe_one (pe_cmpR (op_eqV hr.units) (pe_lc (own := [("word", 6), ("held", 7)]) (g := gLst K 2 (gCons (gName 6) (gCons (gName 7) gNil))) (tt := tB (tVar 7)) rfl nd (pi_list (pv 3))
          (blkOk_by (own := [("word", 6), ("held", 7)]) (N := nmRef) (sc := defScope sLawRefused) (by decide +kernel))
          (fun _ _ _ _ _ => pg_lst rfl (pgs_cons (pg_name (i := 6) nd rfl (.inl rfl)) (pgs_cons (pg_name (i := 7) nd rfl (.inl rfl)) pgs_nil))) (fun _ _ _ _ _ => pts_one (pt_val (pv 7))) (fun _ _ _ _ _ => pv 6))
          (pe_lst (pa_cons (pv 2) pa_nil)) (nomark _))))))))), ?_⟩
    refine ⟨short rfl, fun p0 hp0 => ?_⟩
    have s0 : Same H (upd H p0 (.lst [])) := same_new hp0
    obtain ⟨dx, hd⟩ := (D.same s0).ins
    refine ⟨_, rfl, d, _, _, rfl, hd, dF_no p k (by decide +kernel) (by decide +kernel), _, rfl, refused_say (D.same s0) hp (hR.same s0) fun G0 s1 => ?_⟩
    obtain ⟨cE, kV, kc0⟩ := T.exc hdue
    refine ⟨true, hx due hdue0, fun _ a ha => ⟨due, cE, rfl, rfl, told_ok kV kc0 fun G1 pl xs S1 LE XE => ?_⟩, fun q => nomatch q⟩
    have SE := s0.trans (s1.trans S1)
    refine ⟨_, rfl, true, rfl, iteT ?_⟩
    refine ⟨_, rfl, pl, rfl, ⟨_, SqL.of XE⟩, fun Dd hDd => ?_⟩
    refine lc_list (K := K) (a := pl) (xs := xs) (fun i H' => Same G1 H' ∧ H' Dd = some (.lst ((((told due names12).take i).filter (·.2)).map fun q => V.str q.1))) ⟨same_new hDd, upd_same⟩ (fun i H' _ q => SqL.of (q.1 _ _ XE)) ?_ ?_
    · rintro i x H' hxi ⟨t0, hD'⟩
      have hi : i < (told due names12).length := by
        have e1 := (List.getElem?_eq_some_iff.mp hxi).1
        have e2 := LE.len
        exact e2 ▸ e1
      obtain ⟨q, hq⟩ : ∃ q, (told due names12)[i]? = some q := ⟨_, List.getElem?_eq_getElem hi⟩
      obtain ⟨b, hb1, hb2⟩ := WL.get LE hq
      have ex : V.ref b = x := Option.some.inj (hb1.symm.trans hxi)
      subst ex
      have e3 := take_succ hq
      have e4 : (told due names12).length = 12 := rfl
      generalize told due names12 = tl at hi hq e3 hD' e4 ⊢
      refine ⟨b, _, rfl, SqL.of (t0 _ _ hb2), rfl, _, _, rfl, _, _, rfl, rfl, rfl, _, rfl, q.2, rfl, ?_⟩
      cases hq2 : q.2 with
      | true =>
        refine iteT ⟨_, rfl, _, hD', ?_, same_mut t0 hDd, ?_⟩
        · rw [List.length_map]
          exact small1000 (Nat.le_trans (List.length_filter_le _ _) (by rw [List.length_take]; omega))
        · rw [upd_same, e3, List.filter_append, List.map_append]
          have e5 : ([q] : List (Str × Bool)).filter (·.2) = [q] := by rw [List.filter_cons_of_pos hq2]; rfl
          rw [e5]
          rfl
      | false =>
        refine iteF ⟨t0, ?_⟩
        rw [hD', e3, List.filter_append]
        have e5 : ([q] : List (Str × Bool)).filter (·.2) = [] := by rw [List.filter_cons_of_neg (by rw [hq2]; exact Bool.false_ne_true)]; rfl
        rw [e5, List.append_nil]
    · rintro H' ⟨t0, hD'⟩
      have e2 : xs.length = (told due names12).length := LE.len
      have e7 := congrArg (List.map V.str) (told_one hdue)
      rw [List.map_map] at e7
      rw [e2, List.take_of_length_le (Nat.le_refl _)] at hD'
      have hD2 : H' Dd = some (.lst [V.str due]) := hD'.trans (congrArg (fun l => some (HO.lst l)) e7)
      exact ⟨_, rfl, short rfl, fun pz hpz => ⟨1, by decide, .inl ⟨Dd, pz, _, _, rfl, rfl, SqL.of (same_new hpz _ _ hD2), SqL.of upd_same, .cons (.inl ⟨rfl, rfl⟩) .nil⟩, h _ (SE.trans (t0.trans (same_new hpz)))⟩⟩
end
end Dr

namespace Dr
open PySem PySem.Spec PyProof.Rows L2
/-! ### no desk of what is no prime up to 97 -/
def tFour (K : PySem.W.Frag) (a : Addr) (c : Str) : TS := tSeq (tAsg (tCB (rIsE K (He.ga K c) a) (tCons (tVar 4) (tCons (tC (.ty "ValueError")) tNil))) (gName 3))
  (tAsg (tLst (tCons (tCB (rIsE K (He.ga K c) a) (tCons (tVar 4) (tCons (tC (.ref (He.ga K "NoPrime"))) tNil))) (tCons (tCB (rIsE K (He.ga K c) a) (tCons (tVar 4) (tCons (tC (.ref (He.ga K "NoDepth"))) tNil)))
    (tCons (tCB (rIsE K (He.ga K c) a) (tCons (tVar 4) (tCons (tC (.ref (He.ga K "NoText"))) tNil))) (tCons (tCB (rIsE K (He.ga K c) a) (tCons (tVar 4) (tCons (tC (.ref (He.ga K "NoRow"))) tNil))) tNil))))) (gName 2))
theorem pos10 {c : Int} {m : Int} (h : 0 < m) : 0 ≤ c % m := Int.emod_nonneg c (by omega)
/-- what stands in that list is no prime up to 97 -/
theorem odd_no {K : PySem.W.Frag} {H : Hp} {p1 p2 : Addr} {c : Int} (h1 : H p1 = some (.tup [.int 3])) (h2 : H p2 = some (.lst [.int 2])) :
    ∀ v ∈ ([.int 0, .int 1, .int 4, .int 9, .int 91, .int 98, .int 101, .int (-2), .int (-7), .bl true, .non, .str ("3"), .ref p1, .ref p2] ++ [.int (103 + c % 10 ^ 20), .int (2 * (49 + c % 10 ^ 9))] : List V), NoPrimeR K H v := by
  have z1 : 0 ≤ c % 10 ^ 20 := Int.emod_nonneg c (by decide)
  have z2 : 0 ≤ c % 10 ^ 9 := Int.emod_nonneg c (by decide)
  refine List.forall_mem_append.mpr ⟨List.forall_mem_cons.mpr ⟨.int 0 (.inr (by decide)), List.forall_mem_cons.mpr ⟨.int 1 (.inr (by decide)), List.forall_mem_cons.mpr ⟨.int 4 (.inr (by decide +kernel)), List.forall_mem_cons.mpr ⟨.int 9 (.inr (by decide +kernel)),
    List.forall_mem_cons.mpr ⟨.int 91 (.inr (by decide +kernel)), List.forall_mem_cons.mpr ⟨.int 98 (.inl (by decide)), List.forall_mem_cons.mpr ⟨.int 101 (.inl (by decide)), List.forall_mem_cons.mpr ⟨.int (-2) (.inr (by decide)), List.forall_mem_cons.mpr ⟨.int (-7) (.inr (by decide)),
    List.forall_mem_cons.mpr ⟨.bl true, List.forall_mem_cons.mpr ⟨.other _ _ (.base .non) (kit_ty (by decide +kernel)), List.forall_mem_cons.mpr ⟨.other _ _ (.base (.str _)) (kit_ty (by decide +kernel)), List.forall_mem_cons.mpr ⟨.other _ _ (.base (.tup h1)) (kit_ty (by decide +kernel)),
    List.forall_mem_cons.mpr ⟨.other _ _ (.base (.lst h2)) (kit_ty (by decide +kernel)), fun _ q => nomatch q⟩⟩⟩⟩⟩⟩⟩⟩⟩⟩⟩⟩⟩⟩, List.forall_mem_cons.mpr ⟨.int _ (.inl (by omega)), List.forall_mem_cons.mpr ⟨.int _ (.inl (by omega)), fun _ q => nomatch q⟩⟩⟩
theorem noPrime_same {K : PySem.W.Frag} {H H' : Hp} {v : V} (s : Same H H') (h : NoPrimeR K H v) : NoPrimeR K H' v := by
  cases h with
  | other v t ht hk =>
    refine .other v t ?_ hk
    cases ht with
    | base b => exact .base (tyOf_same s b)
    | byt b => exact .byt b
    | set e => exact .set (s _ _ e)
    | kList e c => exact .kList e c
    | kTuple e c => exact .kTuple e c
    | kDict e c => exact .kDict e c
    | fTuple e => exact .fTuple (s _ _ e)
    | fDict e => exact .fDict (s _ _ e)
  | int n hn => exact .int n hn
  | bl b => exact .bl b
section
variable {P : Program} {w : World} {K : PySem.W.Frag} {mg : Str → Option Value} {base : Heap}
def spNoDesk : Sp := fun vs H Q _ => ∃ c : Int, vs = [.int c] ∧ ∀ H', Same H H' → Q (.bl true) H'
abbrev nmNo : List Str := ["cell", "odd", "some", "plain", "e"]
theorem scNo : FnScope nmNo ["cell"] (defScope sLawNoDesk) := ⟨rfl, rfl, rfl, by decide +kernel, rfl, by decide +kernel, by decide +kernel⟩
theorem ok_NoDesk (T : TX K mg) : DefP P w K mg base CX0 4 "_law_no_desk" ["cell"] spNoDesk := by
  obtain ⟨fd, F⟩ := T.fLawNoDesk
  obtain ⟨fdI, GI, bI⟩ := ok_Init (P := P) (w := w) (base := base) T
  refine defP F T.gLawNoDesk (fun _ _ _ _ _ _ us hl => match us, hl with | [_], _ => rfl) (F.ok scNo (fun vs H Q E h => ?_) (fun cdv A outer s H vs Q E hr h => ?_))
  · obtain ⟨c, rfl, _⟩ := h
    rfl
  · obtain ⟨c, rfl, h⟩ := h
    have nd := scNo.nd
    have hx := T.exm
    refine ⟨_, PSs.nox (pss_cons (ps_set (i := 1) nd rfl (.inl rfl) (pe_lst (pa_cons pe_int (pa_cons pe_int (pa_cons pe_int (pa_cons pe_int (pa_cons pe_int (pa_cons pe_int (pa_cons pe_int (pa_cons (pe_un un_neg pe_int) (pa_cons (pe_un un_neg pe_int) (pa_cons pe_bl (pa_cons pe_non (pa_cons pe_str (pa_cons (pe_tup (pa_cons pe_int pa_nil)) (pa_cons (pe_lst (pa_cons pe_int pa_nil)) pa_nil))))))))))))))))
      (pss_cons (ps_set (i := 1) nd rfl (.inl rfl) (pe_op op_cat (pv 1) (pe_lst (pa_cons (pe_op op_add pe_int (pe_op op_mod (pv 0) (pe_op op_pow pe_int pe_int))) (pa_cons (pe_op op_mul pe_int (pe_op op_add pe_int (pe_op op_mod (pv 0) (pe_op op_pow pe_int pe_int)))) pa_nil)))))
      (pss_cons (ps_set (i := 2) nd rfl (.inl rfl) (pe_lst pa_nil))
      (pss_cons (ps_set (i := 3) nd rfl (.inl rfl) pe_bl)
      (pss_cons (ps_try_as (i := 4) (tb := fun W => tDrop (tNewAt (He.ga K "Desk") (spInit K) (WE W) (tCons (tOp (rIxL K) (tVar 1) (tOp (rI (fun _ j => 0 < j) fun i j => .int (i % j)) (tVar 0) (tC (.int 16)))) tNil))) (ts := fun a cls d => tKnown K (tFour K a) cls d) (Wout := fun _ _ _ _ => False) rfl rfl nd rfl rfl ⟨rfl, by decide, .inl T.gRestError⟩ takes0
          (fun W pn xe tk _ => pss_one (ps_expr (by exact (pe_newAt T.mkr GI hr rfl T.gDesk bI (fun σ => passAt tk σ) (by exact (pa_cons (pe_ix (r := rIxL K) ix_list (pv 1) (pe_op op_mod (pv 0) pe_int) (fun _ _ => rfl)) pa_nil))))))
          (fun a oe cls d pn hz hf => by exact (pss_known hz (fun c cc hz2 => by exact (pss_cons (ps_set (i := 3) nd rfl (.inl rfl) (pe_callB (call_isE cc hz2 hf) (by rfl) T.nisinstance PyProof.Rows.boot_isinstance (pa_cons (pv 4) (pa_cons (pe_bltn (v := .ty "ValueError") (by rfl) T.nValueError boot_ValueError rfl) pa_nil))))
            (pss_one (ps_set (i := 2) nd rfl (.inl rfl) (pe_lst (pa_cons (pe_callB (call_isE cc hz2 hf) (by rfl) T.nisinstance PyProof.Rows.boot_isinstance (pa_cons (pv 4) (pa_cons (pe_glob (v := .ref (He.ga K "NoPrime")) (by rfl) T.gNoPrime rfl) pa_nil))) (pa_cons (pe_callB (call_isE cc hz2 hf) (by rfl) T.nisinstance PyProof.Rows.boot_isinstance (pa_cons (pv 4) (pa_cons (pe_glob (v := .ref (He.ga K "NoDepth")) (by rfl) T.gNoDepth rfl) pa_nil))) (pa_cons (pe_callB (call_isE cc hz2 hf) (by rfl) T.nisinstance PyProof.Rows.boot_isinstance (pa_cons (pv 4) (pa_cons (pe_glob (v := .ref (He.ga K "NoText")) (by rfl) T.gNoText rfl) pa_nil))) (pa_cons (pe_callB (call_isE cc hz2 hf) (by rfl) T.nisinstance PyProof.Rows.boot_isinstance (pa_cons (pv 4) (pa_cons (pe_glob (v := .ref (He.ga K "NoRow")) (by rfl) T.gNoRow rfl) pa_nil))) pa_nil))))))))))))
      (pss_one (ps_ret (pe_and (pv 3) (pe_one (pe_cmpR (op_eqV hr.units) (pv 2) (pe_lst (pa_cons pe_bl (pa_cons pe_bl (pa_cons pe_bl (pa_cons pe_bl pa_nil))))) (nomark _))))))))))), ?_⟩
    obtain ⟨cE, kV, kc⟩ := T.exc (c := "NoPrime") (by decide +kernel)
    have k1 : PySem.W.kitOne K (.ref (He.ga K "NoPrime")) (.ref (He.ga K "NoPrime")) = some true := (kc "NoPrime" (by decide +kernel)).trans (congrArg some (by decide +kernel))
    have k2 : PySem.W.kitOne K (.ref (He.ga K "NoPrime")) (.ref (He.ga K "NoDepth")) = some false := (kc "NoDepth" (by decide +kernel)).trans (congrArg some (by decide +kernel))
    have k3 : PySem.W.kitOne K (.ref (He.ga K "NoPrime")) (.ref (He.ga K "NoText")) = some false := (kc "NoText" (by decide +kernel)).trans (congrArg some (by decide +kernel))
    have k4 : PySem.W.kitOne K (.ref (He.ga K "NoPrime")) (.ref (He.ga K "NoRow")) = some false := (kc "NoRow" (by decide +kernel)).trans (congrArg some (by decide +kernel))
    refine ⟨_, rfl, _, rfl, short rfl, fun p1 hp1 => ⟨short rfl, fun p2 hp2 => ⟨short rfl, fun p3 hp3 => ?_⟩⟩⟩
    have t1 : Same H _ := same_new (o := .tup [.int 3]) hp1
    have t2 := same_new (o := .lst [.int 2]) hp2
    have t3 := same_new (o := .lst [.int 0, .int 1, .int 4, .int 9, .int 91, .int 98, .int 101, .int (-2), .int (-7), .bl true, .non, .str ("3"), .ref p1, .ref p2]) hp3
    refine ⟨_, rfl, _, rfl, _, _, rfl, rfl, ⟨by decide, by decide, by decide⟩, _, _, rfl, rfl, over rfl, _, _, rfl, rfl, _, rfl, _, _, rfl, rfl, ⟨by decide, by decide, by decide⟩, _, _, rfl, rfl, over rfl, _, _, rfl, rfl, _, _, rfl, rfl, .inl ⟨by decide, by decide⟩, short rfl, fun p4 hp4 => ?_⟩
    have t4 := same_new (o := .lst [.int (103 + c % 10 ^ 20), .int (2 * (49 + c % 10 ^ 9))]) hp4
    refine ⟨p3, p4, _, _, rfl, rfl, t4 _ _ upd_same, upd_same, short rfl, fun p5 hp5 => ?_⟩
    have t5 := same_new (o := .lst ([.int 0, .int 1, .int 4, .int 9, .int 91, .int 98, .int 101, .int (-2), .int (-7), .bl true, .non, .str ("3"), .ref p1, .ref p2] ++ [.int (103 + c % 10 ^ 20), .int (2 * (49 + c % 10 ^ 9))])) hp5
    refine ⟨short rfl, fun p6 hp6 => ?_⟩
    have t6 := same_new (o := .lst []) hp6
    have T6 := t1.trans (t2.trans (t3.trans (t4.trans (t5.trans t6))))
    have z1 := (t2.trans (t3.trans (t4.trans (t5.trans t6)))) _ _ upd_same
    have z2 := (t3.trans (t4.trans (t5.trans t6))) _ _ upd_same
    have z5 := t6 _ _ upd_same
    have hall := odd_no (K := K) (c := c) z1 z2
    generalize hxs : ([.int 0, .int 1, .int 4, .int 9, .int 91, .int 98, .int 101, .int (-2), .int (-7), .bl true, .non, .str ("3"), .ref p1, .ref p2] ++ [.int (103 + c % 10 ^ 20), .int (2 * (49 + c % 10 ^ 9))] : List V) = xs at hall
    have hlen : xs.length = 16 := by rw [← hxs]; rfl
    have m0 := Int.emod_nonneg c (show (16 : Int) ≠ 0 by decide)
    have m1 := Int.emod_lt_of_pos c (show (0 : Int) < 16 by decide)
    have hget := getD_at (l := xs) (d := .non) (i := (c % 16).toNat) (by omega)
    have hno := hall _ (List.mem_of_getElem? hget)
    refine ⟨_, rfl, _, rfl, _, _, rfl, rfl, over rfl, p5, xs, c % 16, xs.getD (c % 16).toNat .non, rfl, rfl, SqL.of (by rw [← hxs]; exact z5), ix_emod (by rw [hlen]; rfl) (by decide) hget, fun x dx hx1 hx2 hne => ?_⟩
    have t7 := same_new (o := .own x) hx2
    have hx3 : upd _ dx (.own x) x = none := (upd_ne (Ne.symm hne)).trans hx1
    have t8 := same_new (o := .ins (He.ga K "Desk") dx []) hx3
    refine ⟨x, dx, _, rfl, upd_same, .inl ⟨noPrime_same (t7.trans t8) hno, true, hx "NoPrime" (by decide +kernel), fun _ a ha => ⟨"NoPrime", cE, rfl, rfl, ?_⟩, fun q => nomatch q⟩⟩
    refine ⟨_, rfl, _, _, _, rfl, fun _ r => r, kV, _, rfl, _, _, _, rfl, fun _ r => r, k1, _, rfl, _, _, _, rfl, fun _ r => r, k2, _, rfl, _, _, _, rfl, fun _ r => r, k3, _, rfl, _, _, _, rfl, fun _ r => r, k4, short rfl, fun p7 hp7 => ?_⟩
    exact ⟨_, rfl, true, rfl, iteT ⟨_, rfl, short rfl, fun p8 hp8 => ⟨1, by decide, .inl ⟨p7, p8, _, _, rfl, rfl, SqL.of (same_new hp8 _ _ upd_same), SqL.of upd_same, .cons (.inl ⟨rfl, rfl⟩) (.cons (.inl ⟨rfl, rfl⟩) (.cons (.inl ⟨rfl, rfl⟩) (.cons (.inl ⟨rfl, rfl⟩) .nil)))⟩,
      h _ (T6.trans (t7.trans (t8.trans ((same_new hp7).trans (same_new hp8)))))⟩⟩⟩
end
end Dr

namespace Dr
open PySem PySem.Spec PyProof.Rows L2
/-! ### the plain law: what a spoilt word earns -/
def k0 : Str → Option (List Int) := fun _ => none
def tails : List Str := [("\n" : Str), ("\t" : Str)]
def cods : List Nat := [110, 111, 107, 100, 102]
theorem partM_free {kn : Str → Option (List Int)} {c : Nat} (h : c = 102 ∨ c = 107 ∨ c = 100) (z : Str) : partM kn (sg c) z = partM k0 (sg c) z := by
  rcases h with rfl | rfl | rfl
  · have e : ∀ kn : Str → Option (List Int), partM kn (sg 102) z = (match polyM z with | none => .bad "NoText" | some ns => .lst ns) := fun kn => if_pos (by decide +kernel)
    exact (e kn).trans (e k0).symm
  · have e : ∀ kn : Str → Option (List Int), partM kn (sg 107) z = (if badNum z = true then .bad "NoText" else if sg 107 = "d" ∧ (numM z < 0 ∨ 60 < numM z) then .bad "TooDeep" else .int (numM z)) := fun kn => (if_neg (by decide +kernel)).trans (if_pos (by decide +kernel))
    exact (e kn).trans (e k0).symm
  · have e : ∀ kn : Str → Option (List Int), partM kn (sg 100) z = (if badNum z = true then .bad "NoText" else if sg 100 = "d" ∧ (numM z < 0 ∨ 60 < numM z) then .bad "TooDeep" else .int (numM z)) := fun kn => (if_neg (by decide +kernel)).trans (if_pos (by decide +kernel))
    exact (e kn).trans (e k0).symm
theorem partM_n {kn : Str → Option (List Int)} (z : Str) : partM kn (sg 110) z = if nameBad z = true then .bad "NoName" else .str z := by
  unfold partM
  rw [if_neg (by decide +kernel), if_neg (by decide +kernel), if_pos (show sg 110 = "n" by decide +kernel)]
theorem partM_o {kn : Str → Option (List Int)} (z : Str) : partM kn (sg 111) z = if nameBad z = true then .bad "NoName" else match kn z with | none => .bad "NoName" | some ns => .lst ns := by
  unfold partM
  rw [if_neg (by decide +kernel), if_neg (by decide +kernel), if_neg (show ¬ sg 111 = "n" by decide +kernel)] <;> rfl
def Spoils (kn : Str → Option (List Int)) (c : Nat) (x : Str) : Prop := partOk (sg c) x = true ∧ partM kn (sg c) x = .bad (wordDue (sg c) x)
def spoilB (c : Nat) (z : Str) : Bool := partOk (sg c) z && match partM k0 (sg c) z with
  | .bad x => decide (x = wordDue (sg c) z)
  | _ => false
theorem spoil_of {kn : Str → Option (List Int)} {c : Nat} {z : Str} (hc : c = 102 ∨ c = 107 ∨ c = 100) (h : spoilB c z = true) : Spoils kn c z := by
  unfold spoilB at h
  rw [Bool.and_eq_true] at h
  refine ⟨h.1, ?_⟩
  rw [partM_free hc]
  have h2 := h.2
  split at h2
  · rename_i x e
    rw [e, of_decide_eq_true h2]
  · cases h2
theorem spoil_n {kn : Str → Option (List Int)} {z : Str} (h : (nameBad z && decide (z.length ≤ 640)) = true) : Spoils kn 110 z := by
  rw [Bool.and_eq_true] at h
  refine ⟨?_, ?_⟩
  · unfold partOk
    rw [h.2, if_neg (by decide +kernel), if_neg (by decide +kernel)]
    rfl
  · rw [partM_n, if_pos h.1]
    unfold wordDue
    rw [if_pos (.inl (by decide +kernel))]
theorem spoil_o {kn : Str → Option (List Int)} {z : Str} (hl : z.length ≤ 640) (h : nameBad z = true ∨ kn z = none) : Spoils kn 111 z := by
  refine ⟨?_, ?_⟩
  · unfold partOk
    rw [decide_eq_true hl, if_neg (by decide +kernel), if_neg (by decide +kernel)]
    rfl
  · rw [partM_o]
    unfold wordDue
    rw [if_pos (show sg 111 = "n" ∨ sg 111 = "o" from .inr (by decide +kernel))]
    by_cases c : nameBad z = true
    · rw [if_pos c]
    · rw [if_neg c, h.resolve_left c]
theorem menu_mem {c : Nat} {m : Int} (hc : c ∈ cods) : badW (sg c) m ∈ menu (sg c) := by
  have hl : 0 < (menu (sg c)).length := of_decide_eq_true (List.all_eq_true.mp (show (cods.all fun c => decide (0 < (menu (sg c)).length)) = true by decide +kernel) c hc)
  have h1 := Int.emod_nonneg m (show ((menu (sg c)).length : Int) ≠ 0 by omega)
  have h2 := Int.emod_lt_of_pos m (show (0 : Int) < ((menu (sg c)).length : Int) by omega)
  exact List.mem_of_getElem? (getD_at (l := menu (sg c)) (d := "") (i := (m % (menu (sg c)).length).toNat) (by omega))
theorem menus_ok : ([102, 107, 100].all fun c => (menu (sg c)).all fun z => spoilB c z && tails.all fun t => spoilB c (z ++ t)) = true := by decide +kernel
theorem menuN_ok : ((menu (sg 110)).all fun z => (nameBad z && decide (z.length ≤ 640)) && tails.all fun t => nameBad (z ++ t) && decide ((z ++ t).length ≤ 640)) = true := by decide +kernel
theorem menuO_ok : ((menu (sg 111)).all fun z => (decide (z.length ≤ 640) && decide (z ∈ menuO)) && tails.all fun t => nameBad (z ++ t) && decide ((z ++ t).length ≤ 640)) = true := by decide +kernel
theorem spoils_menu {kn : Str → Option (List Int)} (hk : ∀ z ∈ menuO, kn z = none) {c : Nat} {m : Int} (hc : c ∈ cods) : Spoils kn c (badW (sg c) m) ∧ ∀ t ∈ tails, Spoils kn c (badW (sg c) m ++ t) := by
  have hm := menu_mem (m := m) hc
  generalize badW (sg c) m = z at hm ⊢
  have fr : c = 102 ∨ c = 107 ∨ c = 100 → Spoils kn c z ∧ ∀ t ∈ tails, Spoils kn c (z ++ t) := fun h => by
    have q := List.all_eq_true.mp (List.all_eq_true.mp menus_ok c (by rcases h with rfl | rfl | rfl <;> decide)) z hm
    rw [Bool.and_eq_true] at q
    exact ⟨spoil_of h q.1, fun t ht => spoil_of h (List.all_eq_true.mp q.2 t ht)⟩
  have hc' : c = 110 ∨ c = 111 ∨ c = 107 ∨ c = 100 ∨ c = 102 := by simpa [cods] using hc
  rcases hc' with rfl | rfl | h | h | h
  · have q := List.all_eq_true.mp menuN_ok z hm
    rw [Bool.and_eq_true] at q
    exact ⟨spoil_n q.1, fun t ht => spoil_n (List.all_eq_true.mp q.2 t ht)⟩
  · have q := List.all_eq_true.mp menuO_ok z hm
    rw [Bool.and_eq_true, Bool.and_eq_true, decide_eq_true_eq, decide_eq_true_eq] at q
    refine ⟨spoil_o q.1.1 (.inr (hk z q.1.2)), fun t ht => ?_⟩
    have q2 := List.all_eq_true.mp q.2 t ht
    rw [Bool.and_eq_true, decide_eq_true_eq] at q2
    exact spoil_o q2.2 (.inl q2.1)
  · exact fr (.inr (.inl h))
  · exact fr (.inr (.inr h))
  · exact fr (.inl h)
/-! ### a word that fits -/
def Fit (kn : Str → Option (List Int)) (c : Nat) (x : Str) : Prop := (partOk (sg c) x = true ∧ badOf (partM kn (sg c) x) = none) ∧ ∀ t ∈ tails, Spoils kn c (x ++ t)
def fitB (c : Nat) (z : Str) : Bool := (partOk (sg c) z && (badOf (partM k0 (sg c) z)).isNone) && tails.all fun t => spoilB c (z ++ t)
theorem fit_of {kn : Str → Option (List Int)} {c : Nat} {z : Str} (hc : c = 102 ∨ c = 107 ∨ c = 100) (h : fitB c z = true) : Fit kn c z := by
  unfold fitB at h
  rw [Bool.and_eq_true, Bool.and_eq_true] at h
  refine ⟨⟨h.1.1, ?_⟩, fun t ht => spoil_of hc (List.all_eq_true.mp h.2 t ht)⟩
  rw [partM_free hc]
  exact Option.isNone_iff_eq_none.mp h.1.2
theorem bad_tail {x t : Str} (ht : t ∈ tails) : nameBad (x ++ t) = true := by
  have h : ∃ c ∈ t.cps.toList, c ∉ abc.cps.toList := by
    have q : (tails.all fun t => t.cps.toList.any fun c => !decide (c ∈ abc.cps.toList)) = true := by decide +kernel
    obtain ⟨c, h1, h2⟩ := List.any_eq_true.mp (List.all_eq_true.mp q t ht)
    exact ⟨c, h1, of_decide_eq_false (by simpa using h2)⟩
  obtain ⟨c, h1, h2⟩ := h
  unfold nameBad
  have e : (x ++ t).cps.toList = x.cps.toList ++ t.cps.toList := TL.tl_append x t
  have h3 : ((x ++ t).cps.toList.any fun c => !decide (c ∈ abc.cps.toList)) = true := List.any_eq_true.mpr ⟨c, by rw [e]; exact List.mem_append_right _ h1, by rw [decide_eq_false h2]; rfl⟩
  rw [h3]
  simp
theorem tail_len {x t : Str} (ht : t ∈ tails) (hx : x.length ≤ 8) : (x ++ t).length ≤ 640 := by
  have q : (tails.all fun t => decide (t.length ≤ 1)) = true := by decide +kernel
  have q1 := of_decide_eq_true (List.all_eq_true.mp q t ht)
  rw [len_app]
  omega
theorem fit_n {kn : Str → Option (List Int)} {x : Str} (h : nameBad x = false) (hx : x.length ≤ 8) : Fit kn 110 x := by
  refine ⟨⟨?_, ?_⟩, fun t ht => spoil_n (by rw [bad_tail ht, decide_eq_true (tail_len ht hx)]; rfl)⟩
  · unfold partOk
    rw [decide_eq_true (show x.length ≤ 640 by omega), if_neg (by decide +kernel), if_neg (by decide +kernel)]
    rfl
  · rw [partM_n, h]
    rfl
theorem fit_o {kn : Str → Option (List Int)} {x : Str} {ns : List Int} (h : nameBad x = false) (hx : x.length ≤ 8) (hk : kn x = some ns) : Fit kn 111 x := by
  refine ⟨⟨?_, ?_⟩, fun t ht => spoil_o (tail_len ht hx) (.inl (bad_tail ht))⟩
  · unfold partOk
    rw [decide_eq_true (show x.length ≤ 640 by omega), if_neg (by decide +kernel), if_neg (by decide +kernel)]
    rfl
  · rw [partM_o, h, hk]
    rfl
/-! ### a spoilt row -/
theorem take_set_le {α : Type} (x : α) : ∀ (l : List α) (i j : Nat), i ≤ j → (l.set j x).take i = l.take i
  | [], _, _, _ => rfl
  | _ :: _, 0, _, _ => rfl
  | y :: l, i + 1, j + 1, h => by
    show y :: (l.set j x).take i = y :: l.take i
    rw [take_set_le x l i j (Nat.le_of_succ_le_succ h)]
theorem ptsM_at {kn : Str → Option (List Int)} {kd : Str} {ws : List Str} {i c : Nat} {x : Str} (h1 : kd.cps.toList[i]? = some c) (h2 : ws[i]? = some x) : (ptsM kn kd ws)[i]? = some (partM kn (sg c) x) := by
  unfold ptsM
  rw [List.getElem?_map, (show (kd.cps.toList.zip ws)[i]? = some (c, x) from List.getElem?_zip_eq_some.mpr ⟨h1, h2⟩)]
  rfl
theorem ptsM_take (kn : Str → Option (List Int)) (kd : Str) {ws us : List Str} {i : Nat} (h : ws.take i = us.take i) : (ptsM kn kd ws).take i = (ptsM kn kd us).take i := by
  unfold ptsM
  rw [← List.map_take, ← List.map_take, List.zip_eq_zipWith, List.zip_eq_zipWith, List.take_zipWith, List.take_zipWith, h]
theorem fits_none {kn : Str → Option (List Int)} : ∀ {cs : List Nat} {ws : List Str}, Paired (Fit kn) cs ws → firstBad ((cs.zip ws).map fun q => partM kn (sg q.1) q.2) = none
  | _, _, .nil => rfl
  | _, _, .cons h t => by
    unfold firstBad
    rw [List.zip_cons_cons, List.map_cons, List.findSome?_cons, h.1.2]
    exact fits_none t
theorem bad_take {l : List Pt} {i : Nat} (h : firstBad l = none) : firstBad (l.take i) = none := by
  unfold firstBad at h ⊢
  rw [List.findSome?_eq_none_iff] at h ⊢
  exact fun x hx => h x (List.mem_of_mem_take hx)
theorem fits_len {kn : Str → Option (List Int)} : ∀ {cs : List Nat} {ws : List Str}, Paired (Fit kn) cs ws → cs.length = ws.length
  | _, _, .nil => rfl
  | _, _, .cons _ t => by rw [List.length_cons, List.length_cons, fits_len t]
theorem fits_get {kn : Str → Option (List Int)} : ∀ {cs : List Nat} {ws : List Str} {i : Nat} {x : Str}, Paired (Fit kn) cs ws → ws[i]? = some x → Fit kn (cs.getD i 0) x
  | _, _, _, _, .nil, h => by simp at h
  | _, _, 0, _, .cons h _, e => by
    cases e
    exact h
  | _ :: cs, _ :: ws, i + 1, x, .cons _ t, e => by
    have z := fits_get (cs := cs) (ws := ws) (i := i) (x := x) t e
    exact z
theorem spoilt_row {kn : Str → Option (List Int)} {kd : Str} {rest : List Str} {number : Int} (hk : ∀ z ∈ menuO, kn z = none) (hc : ∀ c ∈ kd.cps.toList, c ∈ cods) (hf : Paired (Fit kn) kd.cps.toList rest) (h0 : 0 < kd.length) :
    (spoiltR kd rest number).length = kd.length ∧ ptsOk kd (spoiltR kd rest number) = true ∧ firstBad (ptsM kn kd (spoiltR kd rest number)) = some (wordDue (kAt kd (atN kd number)) (spoiltX kd rest number)) := by
  have hl : rest.length = kd.length := (fits_len hf).symm.trans Array.length_toList
  have ha0 := Int.emod_nonneg number (show (kd.length : Int) ≠ 0 by omega)
  have ha1 := Int.emod_lt_of_pos number (show (0 : Int) < (kd.length : Int) by omega)
  have hat : atN kd number < kd.length := by unfold atN; omega
  have hle : atN kd number ≤ laterN kd number := by unfold laterN; omega
  have hcs : ∀ i, i < kd.length → kd.cps.toList[i]? = some (kd.cps.toList.getD i 0) := fun i hi => getD_at (by rw [Array.length_toList]; exact hi)
  have hcd : ∀ i, i < kd.length → kd.cps.toList.getD i 0 ∈ cods := fun i hi => hc _ (List.mem_of_getElem? (hcs i hi))
  have l1 : (spoilt1 kd rest number).length = kd.length := (spoilt1_len kd rest number).trans hl
  -- the words before: each fits or is of a menu
  have w1 : ∀ i x, (spoilt1 kd rest number)[i]? = some x → Fit kn (kd.cps.toList.getD i 0) x ∨ x = badW (kAt kd i) (number / 288) := fun i x hx => by
    unfold spoilt1 at hx
    by_cases c3 : laterN kd number < kd.length
    · rw [if_pos c3] at hx
      by_cases e : laterN kd number = i
      · rw [e, List.getElem?_set_self (by omega)] at hx
        exact .inr (Option.some.inj hx).symm
      · rw [List.getElem?_set_ne e] at hx
        exact .inl (fits_get hf hx)
    · rw [if_neg c3] at hx
      exact .inl (fits_get hf hx)
  have hX : Spoils kn (kd.cps.toList.getD (atN kd number) 0) (spoiltX kd rest number) := by
    unfold spoiltX
    by_cases c5 : 0 < number / 6912 % 5
    · rw [if_pos c5]
      exact (spoils_menu hk (hcd _ hat)).1
    · rw [if_neg c5]
      have ht : tailOf number ∈ tails := by
        have m0 := Int.emod_nonneg number (show (2 : Int) ≠ 0 by decide)
        have m1 := Int.emod_lt_of_pos number (show (0 : Int) < 2 by decide)
        exact List.mem_of_getElem? (getD_at (l := tails) (d := "") (i := (number % 2).toNat) (by show _ < 2; omega))
      rcases w1 _ _ (getD_at (l := spoilt1 kd rest number) (d := "") (i := atN kd number) (by omega)) with q | q
      · exact q.2 _ ht
      · rw [q]
        exact (spoils_menu hk (hcd _ hat)).2 _ ht
  have l2 : (spoiltR kd rest number).length = kd.length := by
    unfold spoiltR
    rw [List.length_set, l1]
  refine ⟨l2, ?_, ?_⟩
  · refine List.all_eq_true.mpr fun q hq => ?_
    obtain ⟨i, hi⟩ := List.getElem?_of_mem hq
    obtain ⟨h1, h2⟩ := List.getElem?_zip_eq_some.mp hi
    have hik : i < kd.length := by
      have := (List.getElem?_eq_some_iff.mp h1).1
      rw [Array.length_toList] at this
      exact this
    have e1 : q.1 = kd.cps.toList.getD i 0 := Option.some.inj (h1.symm.trans (hcs i hik))
    rw [e1]
    unfold spoiltR at h2
    by_cases e : atN kd number = i
    · rw [e, List.getElem?_set_self (by omega)] at h2
      rw [← Option.some.inj h2, ← e]
      exact hX.1
    · rw [List.getElem?_set_ne e] at h2
      rcases w1 i _ h2 with z | z
      · exact z.1.1
      · rw [z]
        exact (spoils_menu hk (hcd _ hik)).1.1
  · refine firstBad_at (i := atN kd number) ?_ ?_
    · refine (ptsM_at (hcs _ hat) (x := spoiltX kd rest number) ?_).trans (congrArg some hX.2)
      unfold spoiltR
      rw [List.getElem?_set_self (by omega)]
    · have e : (spoiltR kd rest number).take (atN kd number) = rest.take (atN kd number) := by
        unfold spoiltR
        rw [take_set_le _ _ _ _ (Nat.le_refl _)]
        unfold spoilt1
        by_cases c3 : laterN kd number < kd.length
        · rw [if_pos c3, take_set_le _ _ _ _ hle]
        · rw [if_neg c3]
      rw [ptsM_take kn kd e]
      exact bad_take (fits_none hf)
end Dr

namespace Dr
open PySem PySem.Spec PyProof.Rows L2
/-! ### numbers written out -/
theorem numT_cps (n : Nat) : (numT (n : Int)).cps.toList = TL.numL n := TL.tl_num n
theorem numL_head : ∀ n : Nat, (TL.numL n).head? = some 48 → n = 0 := fun n => by
  induction n using Nat.strongRecOn with
  | _ n ih =>
    intro h
    by_cases c : n < 10
    · rw [TL.numL_lt c] at h
      have := Option.some.inj h
      omega
    · rw [TL.numL_step (by omega)] at h
      have q : (TL.numL (n / 10)).head? = some 48 := by
        cases e : TL.numL (n / 10) with
        | nil => exact absurd e (TL.numL_ne _)
        | cons x r =>
          rw [e] at h
          exact h
      have := ih (n / 10) (by omega) q
      omega
theorem num_plain (n : Nat) : Txt.startswith (numT (n : Int)) "-" = false := by
  apply Bool.eq_false_iff.mpr
  intro h
  unfold Txt.startswith at h
  rw [Bool.and_eq_true] at h
  have h2 := h.2
  unfold Builtin.Str.subAt at h2
  have h3 := congrArg Array.toList (eq_of_beq h2)
  rw [Array.toList_extract, numT_cps] at h3
  have h4 : (45 : Nat) ∈ TL.numL n := by
    have z : (45 : Nat) ∈ ("-" : Str).cps.toList := by decide +kernel
    rw [← h3] at z
    exact List.mem_of_mem_drop (List.mem_of_mem_take z)
  exact TL.numL_free (.inl (by decide)) h4
theorem num_len {n : Nat} (h : n < 2 ^ 62) : (numT (n : Int)).length ≤ 19 := by
  have q := TL.numL_len (n := n) (k := 19) (by decide) (Nat.lt_of_lt_of_le h (by decide))
  rw [← numT_cps, Array.length_toList] at q
  exact q
theorem num_ok {n : Nat} (h : n < 2 ^ 62) : badNum (numT (n : Int)) = false ∧ numM (numT (n : Int)) = n ∧ 32 ∉ (numT (n : Int)).cps.toList := by
  have e : figS (numT (n : Int)) = numT (n : Int) := by
    unfold figS
    rw [num_plain]
    rfl
  have hne : ¬ numT (n : Int) = "" := fun q => TL.numL_ne n (by rw [← numT_cps, q]; rfl)
  have hl := num_len h
  refine ⟨?_, ?_, by rw [numT_cps]; exact TL.numL_free (.inl (by decide))⟩
  · unfold badNum
    rw [e, decide_eq_false hne, decide_eq_false (show ¬ 60 < (numT (n : Int)).length by omega), numT_cps]
    have d1 : (TL.numL n).any (fun c => !decide (c ∈ digs.cps.toList)) = false := by
      apply Bool.eq_false_iff.mpr
      intro q
      obtain ⟨c, hc, hc2⟩ := List.any_eq_true.mp q
      have r := TL.numL_digits n c hc
      have hd : ∀ c, c < 58 → 48 ≤ c → c ∈ digs.cps.toList := by decide +kernel
      rw [decide_eq_true (hd c (by omega) (by omega))] at hc2
      cases hc2
    rw [d1]
    by_cases c : (TL.numL n).head? = some 48
    · have z := numL_head n c
      have e0 : numT (n : Int) = "0" := by rw [z]; decide +kernel
      rw [decide_eq_true e0]
      simp
    · rw [decide_eq_false c]
      rfl
  · unfold numM
    have q := TL.int_num (n := n) (by rw [← numT_cps, Array.length_toList]; exact Nat.le_trans hl (by decide))
    show (intText? (Str.ofString (toString ((n : Nat) : Int)))).getD 0 = _
    rw [q]
    rfl
theorem pm_n {kn : Str → Option (List Int)} {z : Str} (h : nameBad z = false) : partM kn (sg 110) z = .str z := by
  rw [partM_n, h]
  rfl
theorem pm_o {kn : Str → Option (List Int)} {z : Str} {ns : List Int} (h : nameBad z = false) (hk : kn z = some ns) : partM kn (sg 111) z = .lst ns := by
  rw [partM_o, h, hk]
  rfl
theorem pm_k {kn : Str → Option (List Int)} {z : Str} {n : Int} (h : badNum z = false) (hn : numM z = n) : partM kn (sg 107) z = .int n := by
  unfold partM
  rw [if_neg (by decide +kernel), if_pos (by decide +kernel), if_neg (by rw [h]; exact Bool.false_ne_true), if_neg (fun q => absurd q.1 (by decide +kernel)), hn]
theorem pm_d {kn : Str → Option (List Int)} {z : Str} {n : Int} (h : badNum z = false) (hn : numM z = n) (h0 : 0 ≤ n) (h1 : n ≤ 60) : partM kn (sg 100) z = .int n := by
  unfold partM
  rw [if_neg (by decide +kernel), if_pos (by decide +kernel), if_neg (by rw [h]; exact Bool.false_ne_true), hn, if_neg (fun q => by omega)]
theorem pm_f {kn : Str → Option (List Int)} {z : Str} {ns : List Int} (h : polyM z = some ns) : partM kn (sg 102) z = .lst ns := by
  unfold partM
  rw [if_pos (by decide +kernel), h]
theorem po_name {c : Nat} {z : Str} (hc : c = 110 ∨ c = 111) (h : z.length ≤ 8) : partOk (sg c) z = true := by
  unfold partOk
  rw [decide_eq_true (show z.length ≤ 640 by omega)]
  rcases hc with rfl | rfl
  · rw [if_neg (by decide +kernel), if_neg (by decide +kernel)]
    rfl
  · rw [if_neg (by decide +kernel), if_neg (by decide +kernel)]
    rfl
theorem po_num {n : Nat} (h : n < 2 ^ 62) : partOk (sg 107) (numT (n : Int)) = true := by
  unfold partOk
  have hl := num_len h
  rw [decide_eq_true (show (numT (n : Int)).length ≤ 640 by omega), if_neg (by decide +kernel), if_pos (by decide +kernel)]
  have q := TL.int_num (n := n) (by rw [← numT_cps, Array.length_toList]; exact Nat.le_trans hl (by decide))
  have q2 : intText? (numT (n : Int)) = some (n : Int) := q
  rw [q2]
  simp
/-! ### what the desk's names are known as -/
structure Knows (kn : Str → Option (List Int)) (a b c d l : Str) (r : Int) : Prop where
  ka : kn a = some [r, 3, T58, 1]
  kb : kn b = some [1, 0, 0, 0, 0, 0, 0, 0]
  kc : kn c = some [0, 0, 1]
  kd : kn d = some [0, 0]
  no : ∀ z ∈ menuO, kn z = none
  nl : kn l = none
  nm : ∀ x ∈ [a, b, c, d, l], nameBad x = false ∧ x.length ≤ 8 ∧ 32 ∉ x.cps.toList
def Clean (x : Str) : Prop := 32 ∉ x.cps.toList ∧ x.length ≤ 100
structure RowFit (kn : Str → Option (List Int)) (ws : List Str) : Prop where
  ex : ∃ first rest, ws = first :: rest ∧ first ∈ firsts ∧ Paired (Fit kn) (kindsD first).cps.toList rest
  cl : ∀ x ∈ ws, Clean x
theorem clean_of {x : Str} (h : (!decide (32 ∈ x.cps.toList) && decide (x.length ≤ 100)) = true) : Clean x := by
  rw [Bool.and_eq_true, decide_eq_true_eq] at h
  exact ⟨of_decide_eq_false (by simpa using h.1), h.2⟩
theorem forms_fit {kn : Str → Option (List Int)} {a b c d l n : Str} {r : Int} (N : Knows kn a b c d l r) (hn : nameBad n = false ∧ n.length ≤ 8 ∧ 32 ∉ n.cps.toList) : ∀ ws ∈ formsL a b c d n, RowFit kn ws :=
  List.forall_mem_cons.mpr ⟨
    ⟨⟨_, _, rfl, by decide +kernel, by rw [show (kindsD "poly").cps.toList = [110, 102] by decide +kernel]; exact (.cons (fit_n hn.1 hn.2.1) (.cons (fit_of (.inl rfl) (by decide +kernel)) .nil))⟩, List.forall_mem_cons.mpr ⟨clean_of (by decide +kernel), List.forall_mem_cons.mpr ⟨⟨hn.2.2, by have := hn.2.1; omega⟩, List.forall_mem_cons.mpr ⟨clean_of (by decide +kernel), fun _ q => nomatch q⟩⟩⟩⟩, List.forall_mem_cons.mpr ⟨
    ⟨⟨_, _, rfl, by decide +kernel, by rw [show (kindsD "times").cps.toList = [110, 111, 111] by decide +kernel]; exact (.cons (fit_n hn.1 hn.2.1) (.cons (fit_o (N.nm a (by simp)).1 (N.nm a (by simp)).2.1 N.ka) (.cons (fit_o (N.nm b (by simp)).1 (N.nm b (by simp)).2.1 N.kb) .nil)))⟩, List.forall_mem_cons.mpr ⟨clean_of (by decide +kernel), List.forall_mem_cons.mpr ⟨⟨hn.2.2, by have := hn.2.1; omega⟩, List.forall_mem_cons.mpr ⟨⟨(N.nm a (by simp)).2.2, by have := (N.nm a (by simp)).2.1; omega⟩, List.forall_mem_cons.mpr ⟨⟨(N.nm b (by simp)).2.2, by have := (N.nm b (by simp)).2.1; omega⟩, fun _ q => nomatch q⟩⟩⟩⟩⟩, List.forall_mem_cons.mpr ⟨
    ⟨⟨_, _, rfl, by decide +kernel, by rw [show (kindsD "seen").cps.toList = [110, 111, 107, 100] by decide +kernel]; exact (.cons (fit_n hn.1 hn.2.1) (.cons (fit_o (N.nm a (by simp)).1 (N.nm a (by simp)).2.1 N.ka) (.cons (fit_of (.inr (.inl rfl)) (by decide +kernel)) (.cons (fit_of (.inr (.inr rfl)) (by decide +kernel)) .nil))))⟩, List.forall_mem_cons.mpr ⟨clean_of (by decide +kernel), List.forall_mem_cons.mpr ⟨⟨hn.2.2, by have := hn.2.1; omega⟩, List.forall_mem_cons.mpr ⟨⟨(N.nm a (by simp)).2.2, by have := (N.nm a (by simp)).2.1; omega⟩, List.forall_mem_cons.mpr ⟨clean_of (by decide +kernel), List.forall_mem_cons.mpr ⟨clean_of (by decide +kernel), fun _ q => nomatch q⟩⟩⟩⟩⟩⟩, List.forall_mem_cons.mpr ⟨
    ⟨⟨_, _, rfl, by decide +kernel, by rw [show (kindsD "slope").cps.toList = [110, 111] by decide +kernel]; exact (.cons (fit_n hn.1 hn.2.1) (.cons (fit_o (N.nm b (by simp)).1 (N.nm b (by simp)).2.1 N.kb) .nil))⟩, List.forall_mem_cons.mpr ⟨clean_of (by decide +kernel), List.forall_mem_cons.mpr ⟨⟨hn.2.2, by have := hn.2.1; omega⟩, List.forall_mem_cons.mpr ⟨⟨(N.nm b (by simp)).2.2, by have := (N.nm b (by simp)).2.1; omega⟩, fun _ q => nomatch q⟩⟩⟩⟩, List.forall_mem_cons.mpr ⟨
    ⟨⟨_, _, rfl, by decide +kernel, by rw [show (kindsD "drop").cps.toList = [111] by decide +kernel]; exact (.cons (fit_o (N.nm a (by simp)).1 (N.nm a (by simp)).2.1 N.ka) .nil)⟩, List.forall_mem_cons.mpr ⟨clean_of (by decide +kernel), List.forall_mem_cons.mpr ⟨⟨(N.nm a (by simp)).2.2, by have := (N.nm a (by simp)).2.1; omega⟩, fun _ q => nomatch q⟩⟩⟩, List.forall_mem_cons.mpr ⟨
    ⟨⟨_, _, rfl, by decide +kernel, by rw [show (kindsD "show").cps.toList = [111] by decide +kernel]; exact (.cons (fit_o (N.nm b (by simp)).1 (N.nm b (by simp)).2.1 N.kb) .nil)⟩, List.forall_mem_cons.mpr ⟨clean_of (by decide +kernel), List.forall_mem_cons.mpr ⟨⟨(N.nm b (by simp)).2.2, by have := (N.nm b (by simp)).2.1; omega⟩, fun _ q => nomatch q⟩⟩⟩, List.forall_mem_cons.mpr ⟨
    ⟨⟨_, _, rfl, by decide +kernel, by rw [show (kindsD "solve").cps.toList = [111, 100] by decide +kernel]; exact (.cons (fit_o (N.nm a (by simp)).1 (N.nm a (by simp)).2.1 N.ka) (.cons (fit_of (.inr (.inr rfl)) (by decide +kernel)) .nil))⟩, List.forall_mem_cons.mpr ⟨clean_of (by decide +kernel), List.forall_mem_cons.mpr ⟨⟨(N.nm a (by simp)).2.2, by have := (N.nm a (by simp)).2.1; omega⟩, List.forall_mem_cons.mpr ⟨clean_of (by decide +kernel), fun _ q => nomatch q⟩⟩⟩⟩, List.forall_mem_cons.mpr ⟨
    ⟨⟨_, _, rfl, by decide +kernel, by rw [show (kindsD "count").cps.toList = [111, 100] by decide +kernel]; exact (.cons (fit_o (N.nm b (by simp)).1 (N.nm b (by simp)).2.1 N.kb) (.cons (fit_of (.inr (.inr rfl)) (by decide +kernel)) .nil))⟩, List.forall_mem_cons.mpr ⟨clean_of (by decide +kernel), List.forall_mem_cons.mpr ⟨⟨(N.nm b (by simp)).2.2, by have := (N.nm b (by simp)).2.1; omega⟩, List.forall_mem_cons.mpr ⟨clean_of (by decide +kernel), fun _ q => nomatch q⟩⟩⟩⟩, List.forall_mem_cons.mpr ⟨
    ⟨⟨_, _, rfl, by decide +kernel, by rw [show (kindsD "single").cps.toList = [111, 107] by decide +kernel]; exact (.cons (fit_o (N.nm a (by simp)).1 (N.nm a (by simp)).2.1 N.ka) (.cons (fit_of (.inr (.inl rfl)) (by decide +kernel)) .nil))⟩, List.forall_mem_cons.mpr ⟨clean_of (by decide +kernel), List.forall_mem_cons.mpr ⟨⟨(N.nm a (by simp)).2.2, by have := (N.nm a (by simp)).2.1; omega⟩, List.forall_mem_cons.mpr ⟨clean_of (by decide +kernel), fun _ q => nomatch q⟩⟩⟩⟩, List.forall_mem_cons.mpr ⟨
    ⟨⟨_, _, rfl, by decide +kernel, by rw [show (kindsD "root").cps.toList = [111, 107, 100] by decide +kernel]; exact (.cons (fit_o (N.nm a (by simp)).1 (N.nm a (by simp)).2.1 N.ka) (.cons (fit_of (.inr (.inl rfl)) (by decide +kernel)) (.cons (fit_of (.inr (.inr rfl)) (by decide +kernel)) .nil)))⟩, List.forall_mem_cons.mpr ⟨clean_of (by decide +kernel), List.forall_mem_cons.mpr ⟨⟨(N.nm a (by simp)).2.2, by have := (N.nm a (by simp)).2.1; omega⟩, List.forall_mem_cons.mpr ⟨clean_of (by decide +kernel), List.forall_mem_cons.mpr ⟨clean_of (by decide +kernel), fun _ q => nomatch q⟩⟩⟩⟩⟩, List.forall_mem_cons.mpr ⟨
    ⟨⟨_, _, rfl, by decide +kernel, by rw [show (kindsD "roots").cps.toList = [111, 100] by decide +kernel]; exact (.cons (fit_o (N.nm a (by simp)).1 (N.nm a (by simp)).2.1 N.ka) (.cons (fit_of (.inr (.inr rfl)) (by decide +kernel)) .nil))⟩, List.forall_mem_cons.mpr ⟨clean_of (by decide +kernel), List.forall_mem_cons.mpr ⟨⟨(N.nm a (by simp)).2.2, by have := (N.nm a (by simp)).2.1; omega⟩, List.forall_mem_cons.mpr ⟨clean_of (by decide +kernel), fun _ q => nomatch q⟩⟩⟩⟩, List.forall_mem_cons.mpr ⟨
    ⟨⟨_, _, rfl, by decide +kernel, by rw [show (kindsD "border").cps.toList = [111] by decide +kernel]; exact (.cons (fit_o (N.nm b (by simp)).1 (N.nm b (by simp)).2.1 N.kb) .nil)⟩, List.forall_mem_cons.mpr ⟨clean_of (by decide +kernel), List.forall_mem_cons.mpr ⟨⟨(N.nm b (by simp)).2.2, by have := (N.nm b (by simp)).2.1; omega⟩, fun _ q => nomatch q⟩⟩⟩, List.forall_mem_cons.mpr ⟨
    ⟨⟨_, _, rfl, by decide +kernel, by rw [show (kindsD "small").cps.toList = [107, 100, 107] by decide +kernel]; exact (.cons (fit_of (.inr (.inl rfl)) (by decide +kernel)) (.cons (fit_of (.inr (.inr rfl)) (by decide +kernel)) (.cons (fit_of (.inr (.inl rfl)) (by decide +kernel)) .nil)))⟩, List.forall_mem_cons.mpr ⟨clean_of (by decide +kernel), List.forall_mem_cons.mpr ⟨clean_of (by decide +kernel), List.forall_mem_cons.mpr ⟨clean_of (by decide +kernel), List.forall_mem_cons.mpr ⟨clean_of (by decide +kernel), fun _ q => nomatch q⟩⟩⟩⟩⟩, List.forall_mem_cons.mpr ⟨
    ⟨⟨_, _, rfl, by decide +kernel, by rw [show (kindsD "parts").cps.toList = [111, 111, 111, 100] by decide +kernel]; exact (.cons (fit_o (N.nm a (by simp)).1 (N.nm a (by simp)).2.1 N.ka) (.cons (fit_o (N.nm b (by simp)).1 (N.nm b (by simp)).2.1 N.kb) (.cons (fit_o (N.nm c (by simp)).1 (N.nm c (by simp)).2.1 N.kc) (.cons (fit_of (.inr (.inr rfl)) (by decide +kernel)) .nil))))⟩, List.forall_mem_cons.mpr ⟨clean_of (by decide +kernel), List.forall_mem_cons.mpr ⟨⟨(N.nm a (by simp)).2.2, by have := (N.nm a (by simp)).2.1; omega⟩, List.forall_mem_cons.mpr ⟨⟨(N.nm b (by simp)).2.2, by have := (N.nm b (by simp)).2.1; omega⟩, List.forall_mem_cons.mpr ⟨⟨(N.nm c (by simp)).2.2, by have := (N.nm c (by simp)).2.1; omega⟩, List.forall_mem_cons.mpr ⟨clean_of (by decide +kernel), fun _ q => nomatch q⟩⟩⟩⟩⟩⟩, List.forall_mem_cons.mpr ⟨
    ⟨⟨_, _, rfl, by decide +kernel, by rw [show (kindsD "names").cps.toList = [] by decide +kernel]; exact .nil⟩, List.forall_mem_cons.mpr ⟨clean_of (by decide +kernel), fun _ q => nomatch q⟩⟩, fun _ q => nomatch q⟩⟩⟩⟩⟩⟩⟩⟩⟩⟩⟩⟩⟩⟩⟩
theorem form_fit {kn : Str → Option (List Int)} {a b c d l n : Str} {r : Int} (N : Knows kn a b c d l r) (hn : nameBad n = false ∧ n.length ≤ 8 ∧ 32 ∉ n.cps.toList) (number : Int) : RowFit kn (formW a b c d n number) := by
  have h1 := Int.emod_nonneg number (show (15 : Int) ≠ 0 by decide)
  have h2 := Int.emod_lt_of_pos number (show (0 : Int) < 15 by decide)
  exact forms_fit N hn _ (List.mem_of_getElem? (getD_at (l := formsL a b c d n) (d := []) (i := (number % 15).toNat) (by show _ < 15; omega)))
/-- a row whose deed refuses -/
def DeedGo (p : Int) (kept : Kept) (ws : List Str) (due : Str) : Prop := (∃ first rest kd, ws = first :: rest ∧ kindsM first = some kd ∧ kd.length = rest.length ∧ ptsOk kd rest = true ∧ firstBad (ptsM (lk kept) kd rest) = none ∧ DeedR p kept first rest (ptsM (lk kept) kd rest) (.bad due)) ∧ ∀ x ∈ ws, Clean x
theorem pts_is {kn : Str → Option (List Int)} {kd : Str} {cs : List Nat} {ws : List Str} (h : kd.cps.toList = cs) : ptsM kn kd ws = (cs.zip ws).map fun q => partM kn (sg q.1) q.2 := by
  unfold ptsM
  rw [h]
theorem ok_is {kd : Str} {cs : List Nat} {ws : List Str} (h : kd.cps.toList = cs) : ptsOk kd ws = (cs.zip ws).all fun q => partOk (sg q.1) q.2 := by
  unfold ptsOk
  rw [h]
theorem deed0 {kept : Kept} {a b c d l n : Str} {r p : Int} (N : Knows (lk kept) a b c d l r) (hn : nameBad n = false ∧ n.length ≤ 8 ∧ 32 ∉ n.cps.toList) : DeedGo p kept [("border" : Str), d] "NoDepth" := by
  refine ⟨⟨"border", _, "o", rfl, by decide +kernel, rfl, ?_, ?_⟩, List.forall_mem_cons.mpr ⟨clean_of (by decide +kernel), List.forall_mem_cons.mpr ⟨⟨(N.nm d (by simp)).2.2, by have := (N.nm d (by simp)).2.1; omega⟩, fun _ q => nomatch q⟩⟩⟩
  · rw [ok_is (show ("o" : Str).cps.toList = [111] by decide +kernel)]
    show ((partOk (sg 111) d && true)) = true
    rw [show partOk (sg 111) d = true from po_name (.inr rfl) (N.nm d (by simp)).2.1]
    rfl
  · rw [pts_is (show ("o" : Str).cps.toList = [111] by decide +kernel)]
    show firstBad [partM (lk kept) (sg 111) d] = none ∧ DeedR p kept _ _ [partM (lk kept) (sg 111) d] _
    rw [show partM (lk kept) (sg 111) d = _ from pm_o (N.nm d (by simp)).1 N.kd]
    exact ⟨rfl, .border _⟩
theorem deed1 {kept : Kept} {a b c d l n : Str} {r p : Int} (N : Knows (lk kept) a b c d l r) (hn : nameBad n = false ∧ n.length ≤ 8 ∧ 32 ∉ n.cps.toList) : DeedGo p kept [("roots" : Str), d, ("3" : Str)] "NoDepth" := by
  refine ⟨⟨"roots", _, "od", rfl, by decide +kernel, rfl, ?_, ?_⟩, List.forall_mem_cons.mpr ⟨clean_of (by decide +kernel), List.forall_mem_cons.mpr ⟨⟨(N.nm d (by simp)).2.2, by have := (N.nm d (by simp)).2.1; omega⟩, List.forall_mem_cons.mpr ⟨clean_of (by decide +kernel), fun _ q => nomatch q⟩⟩⟩⟩
  · rw [ok_is (show ("od" : Str).cps.toList = [111, 100] by decide +kernel)]
    show ((partOk (sg 111) d && (partOk (sg 100) ("3" : Str) && true))) = true
    rw [show partOk (sg 111) d = true from po_name (.inr rfl) (N.nm d (by simp)).2.1, show partOk (sg 100) ("3" : Str) = true from by decide +kernel]
    rfl
  · rw [pts_is (show ("od" : Str).cps.toList = [111, 100] by decide +kernel)]
    show firstBad [partM (lk kept) (sg 111) d, partM (lk kept) (sg 100) ("3" : Str)] = none ∧ DeedR p kept _ _ [partM (lk kept) (sg 111) d, partM (lk kept) (sg 100) ("3" : Str)] _
    rw [show partM (lk kept) (sg 111) d = _ from pm_o (N.nm d (by simp)).1 N.kd, show partM (lk kept) (sg 100) ("3" : Str) = _ from pm_d (n := 3) (by decide +kernel) (by decide +kernel) (by decide) (by decide)]
    exact ⟨rfl, .roots _ 3⟩
theorem deed2 {kept : Kept} {a b c d l n : Str} {r p : Int} (N : Knows (lk kept) a b c d l r) (hn : nameBad n = false ∧ n.length ≤ 8 ∧ 32 ∉ n.cps.toList) : DeedGo p kept [("root" : Str), c, ("0" : Str), ("4" : Str)] "NoSingle" := by
  refine ⟨⟨"root", _, "okd", rfl, by decide +kernel, rfl, ?_, ?_⟩, List.forall_mem_cons.mpr ⟨clean_of (by decide +kernel), List.forall_mem_cons.mpr ⟨⟨(N.nm c (by simp)).2.2, by have := (N.nm c (by simp)).2.1; omega⟩, List.forall_mem_cons.mpr ⟨clean_of (by decide +kernel), List.forall_mem_cons.mpr ⟨clean_of (by decide +kernel), fun _ q => nomatch q⟩⟩⟩⟩⟩
  · rw [ok_is (show ("okd" : Str).cps.toList = [111, 107, 100] by decide +kernel)]
    show ((partOk (sg 111) c && (partOk (sg 107) ("0" : Str) && (partOk (sg 100) ("4" : Str) && true)))) = true
    rw [show partOk (sg 111) c = true from po_name (.inr rfl) (N.nm c (by simp)).2.1, show partOk (sg 107) ("0" : Str) = true from by decide +kernel, show partOk (sg 100) ("4" : Str) = true from by decide +kernel]
    rfl
  · rw [pts_is (show ("okd" : Str).cps.toList = [111, 107, 100] by decide +kernel)]
    show firstBad [partM (lk kept) (sg 111) c, partM (lk kept) (sg 107) ("0" : Str), partM (lk kept) (sg 100) ("4" : Str)] = none ∧ DeedR p kept _ _ [partM (lk kept) (sg 111) c, partM (lk kept) (sg 107) ("0" : Str), partM (lk kept) (sg 100) ("4" : Str)] _
    rw [show partM (lk kept) (sg 111) c = _ from pm_o (N.nm c (by simp)).1 N.kc, show partM (lk kept) (sg 107) ("0" : Str) = _ from pm_k (n := 0) (by decide +kernel) (by decide +kernel), show partM (lk kept) (sg 100) ("4" : Str) = _ from pm_d (n := 4) (by decide +kernel) (by decide +kernel) (by decide) (by decide)]
    exact ⟨rfl, .root _ 0 4 [1] (by decide)⟩
theorem deed3 {kept : Kept} {a b c d l n : Str} {r p : Int} (N : Knows (lk kept) a b c d l r) (hn : nameBad n = false ∧ n.length ≤ 8 ∧ 32 ∉ n.cps.toList) : DeedGo p kept [("small" : Str), ("7" : Str), ("5" : Str), ("-1" : Str)] "NoSmall" := by
  refine ⟨⟨"small", _, "kdk", rfl, by decide +kernel, rfl, ?_, ?_⟩, List.forall_mem_cons.mpr ⟨clean_of (by decide +kernel), List.forall_mem_cons.mpr ⟨clean_of (by decide +kernel), List.forall_mem_cons.mpr ⟨clean_of (by decide +kernel), List.forall_mem_cons.mpr ⟨clean_of (by decide +kernel), fun _ q => nomatch q⟩⟩⟩⟩⟩
  · rw [ok_is (show ("kdk" : Str).cps.toList = [107, 100, 107] by decide +kernel)]
    show ((partOk (sg 107) ("7" : Str) && (partOk (sg 100) ("5" : Str) && (partOk (sg 107) ("-1" : Str) && true)))) = true
    rw [show partOk (sg 107) ("7" : Str) = true from by decide +kernel, show partOk (sg 100) ("5" : Str) = true from by decide +kernel, show partOk (sg 107) ("-1" : Str) = true from by decide +kernel]
    rfl
  · rw [pts_is (show ("kdk" : Str).cps.toList = [107, 100, 107] by decide +kernel)]
    show firstBad [partM (lk kept) (sg 107) ("7" : Str), partM (lk kept) (sg 100) ("5" : Str), partM (lk kept) (sg 107) ("-1" : Str)] = none ∧ DeedR p kept _ _ [partM (lk kept) (sg 107) ("7" : Str), partM (lk kept) (sg 100) ("5" : Str), partM (lk kept) (sg 107) ("-1" : Str)] _
    rw [show partM (lk kept) (sg 107) ("7" : Str) = _ from pm_k (n := 7) (by decide +kernel) (by decide +kernel), show partM (lk kept) (sg 100) ("5" : Str) = _ from pm_d (n := 5) (by decide +kernel) (by decide +kernel) (by decide) (by decide), show partM (lk kept) (sg 107) ("-1" : Str) = _ from pm_k (n := -1) (by decide +kernel) (by decide +kernel)]
    exact ⟨rfl, .small _ 7 5 (-1) ⟨by decide, by decide⟩ (by decide) (.inl (by decide))⟩
theorem deed4 {kept : Kept} {a b c d l n : Str} {r p : Int} (N : Knows (lk kept) a b c d l r) (hn : nameBad n = false ∧ n.length ≤ 8 ∧ 32 ∉ n.cps.toList) : DeedGo p kept [("small" : Str), ("7" : Str), ("0" : Str), ("1" : Str)] "NoSmall" := by
  refine ⟨⟨"small", _, "kdk", rfl, by decide +kernel, rfl, ?_, ?_⟩, List.forall_mem_cons.mpr ⟨clean_of (by decide +kernel), List.forall_mem_cons.mpr ⟨clean_of (by decide +kernel), List.forall_mem_cons.mpr ⟨clean_of (by decide +kernel), List.forall_mem_cons.mpr ⟨clean_of (by decide +kernel), fun _ q => nomatch q⟩⟩⟩⟩⟩
  · rw [ok_is (show ("kdk" : Str).cps.toList = [107, 100, 107] by decide +kernel)]
    show ((partOk (sg 107) ("7" : Str) && (partOk (sg 100) ("0" : Str) && (partOk (sg 107) ("1" : Str) && true)))) = true
    rw [show partOk (sg 107) ("7" : Str) = true from by decide +kernel, show partOk (sg 100) ("0" : Str) = true from by decide +kernel, show partOk (sg 107) ("1" : Str) = true from by decide +kernel]
    rfl
  · rw [pts_is (show ("kdk" : Str).cps.toList = [107, 100, 107] by decide +kernel)]
    show firstBad [partM (lk kept) (sg 107) ("7" : Str), partM (lk kept) (sg 100) ("0" : Str), partM (lk kept) (sg 107) ("1" : Str)] = none ∧ DeedR p kept _ _ [partM (lk kept) (sg 107) ("7" : Str), partM (lk kept) (sg 100) ("0" : Str), partM (lk kept) (sg 107) ("1" : Str)] _
    rw [show partM (lk kept) (sg 107) ("7" : Str) = _ from pm_k (n := 7) (by decide +kernel) (by decide +kernel), show partM (lk kept) (sg 100) ("0" : Str) = _ from pm_d (n := 0) (by decide +kernel) (by decide +kernel) (by decide) (by decide), show partM (lk kept) (sg 107) ("1" : Str) = _ from pm_k (n := 1) (by decide +kernel) (by decide +kernel)]
    exact ⟨rfl, .small _ 7 0 1 ⟨by decide, by decide⟩ (by decide) (.inr (by show p ^ 0 ≤ _; rw [Int.pow_zero]; decide))⟩
theorem deed5 {kept : Kept} {a b c d l n : Str} {r p : Int} (N : Knows (lk kept) a b c d l r) (hn : nameBad n = false ∧ n.length ≤ 8 ∧ 32 ∉ n.cps.toList) : DeedGo p kept [("parts" : Str), a, b, c, ("0" : Str)] "NoParts" := by
  refine ⟨⟨"parts", _, "oood", rfl, by decide +kernel, rfl, ?_, ?_⟩, List.forall_mem_cons.mpr ⟨clean_of (by decide +kernel), List.forall_mem_cons.mpr ⟨⟨(N.nm a (by simp)).2.2, by have := (N.nm a (by simp)).2.1; omega⟩, List.forall_mem_cons.mpr ⟨⟨(N.nm b (by simp)).2.2, by have := (N.nm b (by simp)).2.1; omega⟩, List.forall_mem_cons.mpr ⟨⟨(N.nm c (by simp)).2.2, by have := (N.nm c (by simp)).2.1; omega⟩, List.forall_mem_cons.mpr ⟨clean_of (by decide +kernel), fun _ q => nomatch q⟩⟩⟩⟩⟩⟩
  · rw [ok_is (show ("oood" : Str).cps.toList = [111, 111, 111, 100] by decide +kernel)]
    show ((partOk (sg 111) a && (partOk (sg 111) b && (partOk (sg 111) c && (partOk (sg 100) ("0" : Str) && true))))) = true
    rw [show partOk (sg 111) a = true from po_name (.inr rfl) (N.nm a (by simp)).2.1, show partOk (sg 111) b = true from po_name (.inr rfl) (N.nm b (by simp)).2.1, show partOk (sg 111) c = true from po_name (.inr rfl) (N.nm c (by simp)).2.1, show partOk (sg 100) ("0" : Str) = true from by decide +kernel]
    rfl
  · rw [pts_is (show ("oood" : Str).cps.toList = [111, 111, 111, 100] by decide +kernel)]
    show firstBad [partM (lk kept) (sg 111) a, partM (lk kept) (sg 111) b, partM (lk kept) (sg 111) c, partM (lk kept) (sg 100) ("0" : Str)] = none ∧ DeedR p kept _ _ [partM (lk kept) (sg 111) a, partM (lk kept) (sg 111) b, partM (lk kept) (sg 111) c, partM (lk kept) (sg 100) ("0" : Str)] _
    rw [show partM (lk kept) (sg 111) a = _ from pm_o (N.nm a (by simp)).1 N.ka, show partM (lk kept) (sg 111) b = _ from pm_o (N.nm b (by simp)).1 N.kb, show partM (lk kept) (sg 111) c = _ from pm_o (N.nm c (by simp)).1 N.kc, show partM (lk kept) (sg 100) ("0" : Str) = _ from pm_d (n := 0) (by decide +kernel) (by decide +kernel) (by decide) (by decide)]
    exact ⟨rfl, .parts _ _ _ _ 0 (.inl (by decide))⟩
theorem deed6 {kept : Kept} {a b c d l n : Str} {r p : Int} (N : Knows (lk kept) a b c d l r) (hn : nameBad n = false ∧ n.length ≤ 8 ∧ 32 ∉ n.cps.toList) : DeedGo p kept [("parts" : Str), c, c, c, ("3" : Str)] "NoParts" := by
  refine ⟨⟨"parts", _, "oood", rfl, by decide +kernel, rfl, ?_, ?_⟩, List.forall_mem_cons.mpr ⟨clean_of (by decide +kernel), List.forall_mem_cons.mpr ⟨⟨(N.nm c (by simp)).2.2, by have := (N.nm c (by simp)).2.1; omega⟩, List.forall_mem_cons.mpr ⟨⟨(N.nm c (by simp)).2.2, by have := (N.nm c (by simp)).2.1; omega⟩, List.forall_mem_cons.mpr ⟨⟨(N.nm c (by simp)).2.2, by have := (N.nm c (by simp)).2.1; omega⟩, List.forall_mem_cons.mpr ⟨clean_of (by decide +kernel), fun _ q => nomatch q⟩⟩⟩⟩⟩⟩
  · rw [ok_is (show ("oood" : Str).cps.toList = [111, 111, 111, 100] by decide +kernel)]
    show ((partOk (sg 111) c && (partOk (sg 111) c && (partOk (sg 111) c && (partOk (sg 100) ("3" : Str) && true))))) = true
    rw [show partOk (sg 111) c = true from po_name (.inr rfl) (N.nm c (by simp)).2.1, show partOk (sg 100) ("3" : Str) = true from by decide +kernel]
    rfl
  · rw [pts_is (show ("oood" : Str).cps.toList = [111, 111, 111, 100] by decide +kernel)]
    show firstBad [partM (lk kept) (sg 111) c, partM (lk kept) (sg 111) c, partM (lk kept) (sg 111) c, partM (lk kept) (sg 100) ("3" : Str)] = none ∧ DeedR p kept _ _ [partM (lk kept) (sg 111) c, partM (lk kept) (sg 111) c, partM (lk kept) (sg 111) c, partM (lk kept) (sg 100) ("3" : Str)] _
    rw [show partM (lk kept) (sg 111) c = _ from pm_o (N.nm c (by simp)).1 N.kc, show partM (lk kept) (sg 100) ("3" : Str) = _ from pm_d (n := 3) (by decide +kernel) (by decide +kernel) (by decide) (by decide)]
    exact ⟨rfl, .parts _ _ _ _ 3 (.inr (.inr (.inr (by decide))))⟩
theorem deed7 {kept : Kept} {a b c d l n : Str} {r p : Int} (N : Knows (lk kept) a b c d l r) (hn : nameBad n = false ∧ n.length ≤ 8 ∧ 32 ∉ n.cps.toList) : DeedGo p kept [("times" : Str), n, b, b] "TooGreat" := by
  refine ⟨⟨"times", _, "noo", rfl, by decide +kernel, rfl, ?_, ?_⟩, List.forall_mem_cons.mpr ⟨clean_of (by decide +kernel), List.forall_mem_cons.mpr ⟨⟨hn.2.2, by have := hn.2.1; omega⟩, List.forall_mem_cons.mpr ⟨⟨(N.nm b (by simp)).2.2, by have := (N.nm b (by simp)).2.1; omega⟩, List.forall_mem_cons.mpr ⟨⟨(N.nm b (by simp)).2.2, by have := (N.nm b (by simp)).2.1; omega⟩, fun _ q => nomatch q⟩⟩⟩⟩⟩
  · rw [ok_is (show ("noo" : Str).cps.toList = [110, 111, 111] by decide +kernel)]
    show ((partOk (sg 110) n && (partOk (sg 111) b && (partOk (sg 111) b && true)))) = true
    rw [show partOk (sg 110) n = true from po_name (.inl rfl) hn.2.1, show partOk (sg 111) b = true from po_name (.inr rfl) (N.nm b (by simp)).2.1]
    rfl
  · rw [pts_is (show ("noo" : Str).cps.toList = [110, 111, 111] by decide +kernel)]
    show firstBad [partM (lk kept) (sg 110) n, partM (lk kept) (sg 111) b, partM (lk kept) (sg 111) b] = none ∧ DeedR p kept _ _ [partM (lk kept) (sg 110) n, partM (lk kept) (sg 111) b, partM (lk kept) (sg 111) b] _
    rw [show partM (lk kept) (sg 110) n = _ from pm_n hn.1, show partM (lk kept) (sg 111) b = _ from pm_o (N.nm b (by simp)).1 N.kb]
    exact ⟨rfl, .times n _ _ _ (by decide)⟩
theorem deed8 {kept : Kept} {a b c d l n : Str} {r p : Int} (N : Knows (lk kept) a b c d l r) (hn : nameBad n = false ∧ n.length ≤ 8 ∧ 32 ∉ n.cps.toList) : DeedGo p kept [("seen" : Str), n, a, ("1" : Str), ("60" : Str)] "TooGreat" := by
  refine ⟨⟨"seen", _, "nokd", rfl, by decide +kernel, rfl, ?_, ?_⟩, List.forall_mem_cons.mpr ⟨clean_of (by decide +kernel), List.forall_mem_cons.mpr ⟨⟨hn.2.2, by have := hn.2.1; omega⟩, List.forall_mem_cons.mpr ⟨⟨(N.nm a (by simp)).2.2, by have := (N.nm a (by simp)).2.1; omega⟩, List.forall_mem_cons.mpr ⟨clean_of (by decide +kernel), List.forall_mem_cons.mpr ⟨clean_of (by decide +kernel), fun _ q => nomatch q⟩⟩⟩⟩⟩⟩
  · rw [ok_is (show ("nokd" : Str).cps.toList = [110, 111, 107, 100] by decide +kernel)]
    show ((partOk (sg 110) n && (partOk (sg 111) a && (partOk (sg 107) ("1" : Str) && (partOk (sg 100) ("60" : Str) && true))))) = true
    rw [show partOk (sg 110) n = true from po_name (.inl rfl) hn.2.1, show partOk (sg 111) a = true from po_name (.inr rfl) (N.nm a (by simp)).2.1, show partOk (sg 107) ("1" : Str) = true from by decide +kernel, show partOk (sg 100) ("60" : Str) = true from by decide +kernel]
    rfl
  · rw [pts_is (show ("nokd" : Str).cps.toList = [110, 111, 107, 100] by decide +kernel)]
    show firstBad [partM (lk kept) (sg 110) n, partM (lk kept) (sg 111) a, partM (lk kept) (sg 107) ("1" : Str), partM (lk kept) (sg 100) ("60" : Str)] = none ∧ DeedR p kept _ _ [partM (lk kept) (sg 110) n, partM (lk kept) (sg 111) a, partM (lk kept) (sg 107) ("1" : Str), partM (lk kept) (sg 100) ("60" : Str)] _
    rw [show partM (lk kept) (sg 110) n = _ from pm_n hn.1, show partM (lk kept) (sg 111) a = _ from pm_o (N.nm a (by simp)).1 N.ka, show partM (lk kept) (sg 107) ("1" : Str) = _ from pm_k (n := 1) (by decide +kernel) (by decide +kernel), show partM (lk kept) (sg 100) ("60" : Str) = _ from pm_d (n := 60) (by decide +kernel) (by decide +kernel) (by decide) (by decide)]
    exact ⟨rfl, .seen n _ r⟩
theorem deed9 {kept : Kept} {a b c d l n : Str} {r p : Int} (N : Knows (lk kept) a b c d l r) (hp : 2 ≤ p ∧ p ≤ 97) {m : Int} (h0 : 0 ≤ m) (h1 : m < 2 ^ 40) : DeedGo p kept [("small" : Str), numT m, ("2" : Str), numT (10 ^ 9 + m)] "NoSmall" := by
  obtain ⟨k, rfl⟩ := Int.eq_ofNat_of_zero_le h0
  have e9 : (10 : Int) ^ 9 + (k : Int) = ((10 ^ 9 + k : Nat) : Int) := by rw [Int.natCast_add]; rfl
  rw [e9]
  have hk1 : k < 2 ^ 62 := by omega
  have hk2 : 10 ^ 9 + k < 2 ^ 62 := by omega
  obtain ⟨n1, n2, n3⟩ := num_ok hk1
  obtain ⟨n4, n5, n6⟩ := num_ok hk2
  have l1 := num_len hk1
  have l2 := num_len hk2
  refine ⟨⟨"small", _, "kdk", rfl, by decide +kernel, rfl, ?_, ?_⟩, List.forall_mem_cons.mpr ⟨clean_of (by decide +kernel), List.forall_mem_cons.mpr ⟨⟨n3, by omega⟩, List.forall_mem_cons.mpr ⟨clean_of (by decide +kernel), List.forall_mem_cons.mpr ⟨⟨n6, by omega⟩, fun _ q => nomatch q⟩⟩⟩⟩⟩
  · rw [ok_is (show ("kdk" : Str).cps.toList = [107, 100, 107] by decide +kernel)]
    show (partOk (sg 107) (numT (k : Int)) && (partOk (sg 100) ("2" : Str) && (partOk (sg 107) (numT ((10 ^ 9 + k : Nat) : Int)) && true))) = true
    rw [po_num hk1, po_num hk2, show partOk (sg 100) ("2" : Str) = true by decide +kernel]
    rfl
  · rw [pts_is (show ("kdk" : Str).cps.toList = [107, 100, 107] by decide +kernel)]
    show firstBad [partM (lk kept) (sg 107) (numT (k : Int)), partM (lk kept) (sg 100) ("2" : Str), partM (lk kept) (sg 107) (numT ((10 ^ 9 + k : Nat) : Int))] = none ∧ DeedR p kept _ _ [partM (lk kept) (sg 107) (numT (k : Int)), partM (lk kept) (sg 100) ("2" : Str), partM (lk kept) (sg 107) (numT ((10 ^ 9 + k : Nat) : Int))] _
    rw [pm_k n1 n2, pm_k n4 n5, show partM (lk kept) (sg 100) ("2" : Str) = .int 2 from pm_d (by decide +kernel) (by decide +kernel) (by decide) (by decide)]
    refine ⟨rfl, .small _ _ 2 _ ⟨by decide, by decide⟩ (by omega) (.inr ?_)⟩
    have e1 : p ^ (2 : Int).toNat ≤ 97 * 97 := by
      show p ^ 2 ≤ _
      rw [Int.pow_succ, Int.pow_succ, Int.pow_zero, Int.one_mul]
      exact Int.mul_le_mul hp.2 hp.2 (by omega) (by decide)
    have e2 : (10 ^ 9 : Int) * 10 ^ 9 ≤ ((10 ^ 9 + k : Nat) : Int) * ((10 ^ 9 + k : Nat) : Int) := Int.mul_le_mul (by omega) (by omega) (by decide) (by omega)
    have e3 : (2 : Int) * ((10 ^ 9 + k : Nat) : Int) * ((10 ^ 9 + k : Nat) : Int) = 2 * (((10 ^ 9 + k : Nat) : Int) * ((10 ^ 9 + k : Nat) : Int)) := Int.mul_assoc _ _ _
    rw [e3]
    omega
theorem deed_go {kept : Kept} {a b c d l n : Str} {r p : Int} (N : Knows (lk kept) a b c d l r) (hn : nameBad n = false ∧ n.length ≤ 8 ∧ 32 ∉ n.cps.toList) (hp : 2 ≤ p ∧ p ≤ 97) {m : Int} (h0 : 0 ≤ m) (h1 : m < 2 ^ 40) : DeedGo p kept (deedW a b c d n m) (deedDue m) := by
  have h1 := Int.emod_nonneg m (show (10 : Int) ≠ 0 by decide)
  have h2 := Int.emod_lt_of_pos m (show (0 : Int) < 10 by decide)
  unfold deedW deedDue
  have q : (m % 10).toNat = 0 ∨ (m % 10).toNat = 1 ∨ (m % 10).toNat = 2 ∨ (m % 10).toNat = 3 ∨ (m % 10).toNat = 4 ∨ (m % 10).toNat = 5 ∨ (m % 10).toNat = 6 ∨ (m % 10).toNat = 7 ∨ (m % 10).toNat = 8 ∨ (m % 10).toNat = 9 := by omega
  rcases q with q | q | q | q | q | q | q | q | q | q
  · rw [q]; exact deed0 N hn
  · rw [q]; exact deed1 N hn
  · rw [q]; exact deed2 N hn
  · rw [q]; exact deed3 N hn
  · rw [q]; exact deed4 N hn
  · rw [q]; exact deed5 N hn
  · rw [q]; exact deed6 N hn
  · rw [q]; exact deed7 N hn
  · rw [q]; exact deed8 N hn
  · rw [q]; exact deed9 (n := n) N hp h0 (by assumption)
/-! ### every drawn row is refused so -/
theorem sp_row {ws : List Str} (hne : ws ≠ []) (hb : ∀ x ∈ ws, 32 ∉ x.cps.toList) : Txt.split (Txt.join blank ws) blank = ws := TL.split_join (s := 32) (S := []) (by decide +kernel) (by decide +kernel) hne hb
theorem row_len {ws : List Str} (h : ∀ x ∈ ws, x.length ≤ 200) (hl : ws.length ≤ 12) : (Txt.join blank ws).length ≤ 10000 := by
  rw [TL.join_eq]
  exact Nat.le_trans (StrLaws.join_length_le _ _) (join_small h hl)
theorem kinds_are {z : Str} (h : z ∈ firsts) : kindsM z = some (kindsD z) ∧ (kindsD z).length ≤ 4 ∧ (∀ c ∈ (kindsD z).cps.toList, c ∈ cods) ∧ Clean z := by
  have q : (firsts.all fun z => decide (kindsM z = some (kindsD z)) && (decide ((kindsD z).length ≤ 4) && ((kindsD z).cps.toList.all (fun c => decide (c ∈ cods)) && (!decide (32 ∈ z.cps.toList) && decide (z.length ≤ 100))))) = true := by decide +kernel
  have q2 := List.all_eq_true.mp q z h
  rw [Bool.and_eq_true, Bool.and_eq_true, Bool.and_eq_true, decide_eq_true_eq, decide_eq_true_eq] at q2
  exact ⟨q2.1, q2.2.1, fun c hc => of_decide_eq_true (List.all_eq_true.mp q2.2.2.1 c hc), clean_of q2.2.2.2⟩
theorem clean_menu {c : Nat} {m : Int} (hc : c ∈ cods) : 32 ∉ (badW (sg c) m).cps.toList := by
  have q : (cods.all fun c => (menu (sg c)).all fun z => !decide (32 ∈ z.cps.toList)) = true := by decide +kernel
  have q2 := List.all_eq_true.mp (List.all_eq_true.mp q c hc) _ (menu_mem (m := m) hc)
  exact of_decide_eq_false (by simpa using q2)
theorem clean_app {x t : Str} (hx : 32 ∉ x.cps.toList) (ht : 32 ∉ t.cps.toList) : 32 ∉ (x ++ t).cps.toList := by
  have e : (x ++ t).cps.toList = x.cps.toList ++ t.cps.toList := TL.tl_append x t
  rw [e]
  exact fun q => (List.mem_append.mp q).elim hx ht
theorem getD_clean {l : List Str} {i : Nat} (h : ∀ x ∈ l, 32 ∉ x.cps.toList) : 32 ∉ (l.getD i "").cps.toList := by
  rw [List.getD_eq_getElem?_getD]
  cases e : l[i]? with
  | none => decide +kernel
  | some x => exact h x (List.mem_of_getElem? e)
theorem spoilt_clean {kd : Str} {rest : List Str} {m : Int} (hc : ∀ c ∈ kd.cps.toList, c ∈ cods) (h0 : 0 < kd.length) (h : ∀ x ∈ rest, 32 ∉ x.cps.toList) : ∀ x ∈ spoiltR kd rest m, 32 ∉ x.cps.toList := by
  have ha0 := Int.emod_nonneg m (show (kd.length : Int) ≠ 0 by omega)
  have ha1 := Int.emod_lt_of_pos m (show (0 : Int) < (kd.length : Int) by omega)
  have hat : atN kd m < kd.length := by unfold atN; omega
  have hcd : ∀ i, i < kd.length → kd.cps.toList.getD i 0 ∈ cods := fun i hi => hc _ (List.mem_of_getElem? (getD_at (d := 0) (by rw [Array.length_toList]; exact hi)))
  have h1 : ∀ x ∈ spoilt1 kd rest m, 32 ∉ x.cps.toList := fun x hx => by
    unfold spoilt1 at hx
    by_cases c3 : laterN kd m < kd.length
    · rw [if_pos c3] at hx
      rcases List.mem_or_eq_of_mem_set hx with q | q
      · exact h x q
      · rw [q]
        exact clean_menu (hcd _ c3)
    · rw [if_neg c3] at hx
      exact h x hx
  intro x hx
  unfold spoiltR at hx
  rcases List.mem_or_eq_of_mem_set hx with q | q
  · exact h1 x q
  · rw [q]
    unfold spoiltX
    by_cases c5 : 0 < m / 6912 % 5
    · rw [if_pos c5]
      exact clean_menu (hcd _ hat)
    · rw [if_neg c5]
      exact clean_app (getD_clean h1) (getD_clean (l := tails) (by
        have q : (tails.all fun z => !decide (32 ∈ z.cps.toList)) = true := by decide +kernel
        exact fun z hz => of_decide_eq_false (by simpa using List.all_eq_true.mp q z hz)))
theorem due_errs (k w : Str) : wordDue k w ∈ errs := by
  unfold wordDue
  split
  · decide +kernel
  · split
    · decide +kernel
    · decide +kernel
theorem bad_row {K : PySem.W.Frag} {p : Int} {kept : Kept} {H : Hp} {ws : List Str} {first : Str} {rest : List Str} (e : ws = first :: rest) (hb : ∀ x ∈ ws, 32 ∉ x.cps.toList) (hs : ∀ x ∈ ws, x.length ≤ 200) (hl : ws.length ≤ 12) (h : rowBad first rest = true) : RefR K p kept (.str (Txt.join blank ws)) H "NoRow" := by
  refine .inr ⟨_, first, rest, rfl, row_len hs hl, ?_, ?_, .inl ⟨h, rfl⟩⟩
  · rw [sp_row (by rw [e]; exact List.cons_ne_nil _ _) hb, e]
  · rw [e, List.length_cons] at hl
    omega
theorem drawn_refused {K : PySem.W.Frag} {p : Int} {kept : Kept} {H : Hp} {a b c d l n : Str} {r : Int} {number : Int} {v : V} {due : Str} (N : Knows (lk kept) a b c d l r) (hn : nameBad n = false ∧ n.length ≤ 8 ∧ 32 ∉ n.cps.toList) (hp : 2 ≤ p ∧ p ≤ 97) (h0 : 0 ≤ number) (h1 : number < 2 ^ 40)
    (hD : DrawnR K H a b c d n number v due) : due ∈ errs ∧ RefR K p kept v H due := by
  have hm0 : 0 ≤ number / 8 / 15 := by omega
  have hm1 : number / 8 / 15 < 2 ^ 40 := by omega
  rcases hD with ⟨_, rfl, hv⟩ | ⟨c0, rfl, rfl⟩
  · refine ⟨by decide +kernel, ?_⟩
    rcases hv with hv | rfl | rfl
    · exact .inl ⟨rfl, hv⟩
    · exact .inr ⟨_, "", [], rfl, by decide +kernel, by decide +kernel, by decide, .inl ⟨by decide +kernel, rfl⟩⟩
    · exact .inr ⟨_, "", [("" : Str)], rfl, by decide +kernel, by decide +kernel, by decide, .inl ⟨by decide +kernel, rfl⟩⟩
  obtain ⟨⟨first, rest, ef, hfi, hfit⟩, hcl⟩ := form_fit N hn (number / 8)
  obtain ⟨hk, h4, hcod, hfc⟩ := kinds_are hfi
  have hrl : rest.length = (kindsD first).length := (fits_len hfit).symm.trans Array.length_toList
  have hrc : ∀ x ∈ rest, Clean x := fun x hx => hcl x (by rw [ef]; exact List.mem_cons_of_mem _ hx)
  have hlen : (first :: rest).length ≤ 5 := by rw [List.length_cons]; omega
  generalize hm : number / 8 / 15 = m at hm0 hm1
  unfold drawnW
  rw [ef, hm]
  by_cases c1 : number % 8 = 1
  · rw [if_pos c1]
    have q : (firstMenu.all fun z => rowBad z [] && (kindsM z).isNone && (!decide (32 ∈ z.cps.toList) && decide (z.length ≤ 100))) = true := by decide +kernel
    have hmem : firstOf m ∈ firstMenu := by
      have m0 := Int.emod_nonneg m (show (10 : Int) ≠ 0 by decide)
      have m1 := Int.emod_lt_of_pos m (show (0 : Int) < 10 by decide)
      exact List.mem_of_getElem? (getD_at (l := firstMenu) (d := "") (i := (m % 10).toNat) (by show _ < 10; omega))
    have q2 := List.all_eq_true.mp q _ hmem
    rw [Bool.and_eq_true, Bool.and_eq_true] at q2
    have cl1 := clean_of q2.2
    refine ⟨by show ("NoRow" : Str) ∈ errs; decide +kernel, bad_row (first := firstOf m) (rest := rest) rfl (List.forall_mem_cons.mpr ⟨cl1.1, fun x hx => (hrc x hx).1⟩) (List.forall_mem_cons.mpr ⟨Nat.le_trans cl1.2 (by decide), fun x hx => Nat.le_trans (hrc x hx).2 (by decide)⟩) (by show rest.length + 1 ≤ 12; omega) ?_⟩
    unfold rowBad
    rw [Option.isNone_iff_eq_none.mp q2.1.2]
  rw [if_neg c1]
  by_cases c2 : number % 8 = 2
  · rw [if_pos c2]
    refine ⟨by show ("NoRow" : Str) ∈ errs; decide +kernel, ?_⟩
    show RefR K p kept (.str (Txt.join blank (countedW (first :: rest) m))) H "NoRow"
    unfold countedW
    by_cases e2 : m % 2 = 0
    · rw [if_pos e2]
      cases hr : rest with
      | nil =>
        show RefR K p kept (.str (Txt.join blank [])) H "NoRow"
        exact .inr ⟨_, "", [], rfl, by decide +kernel, by decide +kernel, by decide, .inl ⟨by decide +kernel, rfl⟩⟩
      | cons y ys =>
        have sub : ∀ x ∈ (first :: y :: ys).dropLast, Clean x := fun x hx => by
          have := (List.dropLast_sublist _).subset hx
          rw [← hr] at this
          exact (List.forall_mem_cons.mpr ⟨hfc, hrc⟩ : ∀ x ∈ first :: rest, Clean x) x this
        refine bad_row (first := first) (rest := (y :: ys).dropLast) rfl (fun x hx => (sub x hx).1) (fun x hx => Nat.le_trans (sub x hx).2 (by decide)) ?_ ?_
        · rw [List.length_dropLast, ← hr]
          omega
        · unfold rowBad
          rw [hk]
          rw [hr] at hrl
          have e3 : ¬ (kindsD first).length = (y :: ys).dropLast.length := by
            rw [List.length_dropLast, ← hrl, List.length_cons]
            omega
          show (!decide ((kindsD first).length = (y :: ys).dropLast.length)) = true
          rw [decide_eq_false e3]
          rfl
    · rw [if_neg e2]
      have ht : 32 ∉ (tailW m).cps.toList := getD_clean (by
        have q : ([("" : Str), ("a" : Str), ("0" : Str), ("1,2" : Str)].all fun z => !decide (32 ∈ z.cps.toList)) = true := by decide +kernel
        exact fun z hz => of_decide_eq_false (by simpa using List.all_eq_true.mp q z hz))
      refine bad_row (first := first) (rest := rest ++ [tailW m]) rfl (fun x hx => ?_) (fun x hx => ?_) ?_ ?_
      · rcases List.mem_append.mp hx with z | z
        · exact ((List.forall_mem_cons.mpr ⟨hfc, hrc⟩ : ∀ x ∈ first :: rest, Clean x) x z).1
        · rw [List.mem_singleton.mp z]
          exact ht
      · rcases List.mem_append.mp hx with z | z
        · exact Nat.le_trans ((List.forall_mem_cons.mpr ⟨hfc, hrc⟩ : ∀ x ∈ first :: rest, Clean x) x z).2 (by decide)
        · rw [List.mem_singleton.mp z]
          exact Nat.le_trans tailW_short (by decide)
      · rw [List.length_append]
        show (first :: rest).length + 1 ≤ 12
        omega
      · unfold rowBad
        rw [hk]
        show (!decide ((kindsD first).length = (rest ++ [tailW m]).length)) = true
        rw [decide_eq_false (by rw [List.length_append, hrl]; show ¬ _ = _ + 1; omega)]
        rfl
  rw [if_neg c2]
  by_cases c6 : number % 8 < 6
  · rw [if_pos c6]
    show spoiltDue (kindsD first) rest m ∈ errs ∧ RefR K p kept (.str (Txt.join blank (spoiltW (kindsD first) first rest m))) H (spoiltDue (kindsD first) rest m)
    unfold spoiltW spoiltDue
    by_cases ce : kindsD first = ""
    · rw [if_pos ce, if_pos ce]
      refine ⟨by decide +kernel, bad_row (first := first) (rest := rest ++ [("a" : Str)]) rfl (fun x hx => ?_) (fun x hx => ?_) ?_ ?_⟩
      · rcases List.mem_append.mp hx with z | z
        · exact ((List.forall_mem_cons.mpr ⟨hfc, hrc⟩ : ∀ x ∈ first :: rest, Clean x) x z).1
        · rw [List.mem_singleton.mp z]
          decide +kernel
      · rcases List.mem_append.mp hx with z | z
        · exact Nat.le_trans ((List.forall_mem_cons.mpr ⟨hfc, hrc⟩ : ∀ x ∈ first :: rest, Clean x) x z).2 (by decide)
        · rw [List.mem_singleton.mp z]
          decide +kernel
      · rw [List.length_append]
        show (first :: rest).length + 1 ≤ 12
        omega
      · unfold rowBad
        rw [hk]
        show (!decide ((kindsD first).length = (rest ++ [("a" : Str)]).length)) = true
        rw [decide_eq_false (by rw [List.length_append, hrl]; show ¬ _ = _ + 1; omega)]
        rfl
    · rw [if_neg ce, if_neg ce]
      have hpos := str_pos ce
      obtain ⟨r1, r2, r3⟩ := spoilt_row (kn := lk kept) (number := m) N.no hcod hfit hpos
      have rc := spoilt_clean (m := m) hcod hpos (fun x hx => (hrc x hx).1)
      refine ⟨due_errs _ _, .inr ⟨_, first, spoiltR (kindsD first) rest m, rfl, row_len (fun x hx => ?_) ?_, sp_row (List.cons_ne_nil _ _) (List.forall_mem_cons.mpr ⟨hfc.1, rc⟩), by omega, .inr ⟨kindsD first, hk, r1.symm, r2, .inl r3⟩⟩⟩
      · have z := spoilt_short (kd := kindsD first) (first := first) (rest := rest) (m := m) hfc.2 (fun x hx => (hrc x hx).2) x
        unfold spoiltW at z
        rw [if_neg ce] at z
        exact z hx
      · rw [List.length_cons]
        omega
  · rw [if_neg c6]
    obtain ⟨⟨f1, r1, kd, e1, e2, e3, e4, e5, e6⟩, e7⟩ := deed_go (kept := kept) (p := p) (n := n) N hn hp hm0 hm1
    have hdl : (deedW a b c d n m).length ≤ 12 := by
      rw [e1, List.length_cons, ← e3]
      have := kinds_few e2
      omega
    refine ⟨?_, .inr ⟨_, f1, r1, rfl, row_len (fun x hx => Nat.le_trans (e7 x hx).2 (by decide)) hdl, ?_, ?_, .inr ⟨kd, e2, e3, e4, .inr ⟨e5, e6⟩⟩⟩⟩
    · have q : (duesL.all fun z => decide (z ∈ errs)) = true := by decide +kernel
      have m0 := Int.emod_nonneg m (show (10 : Int) ≠ 0 by decide)
      have m1 := Int.emod_lt_of_pos m (show (0 : Int) < 10 by decide)
      exact of_decide_eq_true (List.all_eq_true.mp q _ (List.mem_of_getElem? (getD_at (l := duesL) (d := "") (i := (m % 10).toNat) (by show _ < 10; omega))))
    · show Txt.split (Txt.join blank (deedW a b c d n m)) blank = f1 :: r1
      rw [sp_row (by rw [e1]; exact List.cons_ne_nil _ _) (fun x hx => (e7 x hx).1), e1]
    · rw [← e3]
      have := kinds_few e2
      omega
end Dr

namespace Dr
open PySem PySem.Spec PyProof.Rows L2
theorem str_ext {x y : Str} (h : x.cps.toList = y.cps.toList) : x = y := by
  cases x with
  | mk a =>
  cases y with
  | mk b =>
    have e : a = b := Array.toList_inj.mp h
    rw [e]
theorem tl_app (x y : Str) : (x ++ y).cps.toList = x.cps.toList ++ y.cps.toList := TL.tl_append x y
theorem join2 {u f x : Str} (hu : u.cps.toList = f.cps.toList ++ [32]) : u ++ x = Txt.join blank [f, x] := by
  rw [TL.join_eq]
  refine str_ext ?_
  show (u ++ x).cps.toList = (f ++ blank ++ x).cps.toList
  rw [tl_app, tl_app, tl_app, hu]
  rfl
theorem join3 {u f x s y : Str} (hu : u.cps.toList = f.cps.toList ++ [32]) (hs : s.cps.toList = 32 :: y.cps.toList) : u ++ x ++ s = Txt.join blank [f, x, y] := by
  rw [TL.join_eq]
  refine str_ext ?_
  show (u ++ x ++ s).cps.toList = (f ++ blank ++ (x ++ blank ++ y)).cps.toList
  rw [tl_app, tl_app, tl_app, tl_app, tl_app, tl_app, hu, hs]
  show _ = f.cps.toList ++ [32] ++ (x.cps.toList ++ [32] ++ y.cps.toList)
  simp
theorem join3' {u f x y : Str} (hu : u.cps.toList = f.cps.toList ++ [32]) : u ++ x ++ (" " : Str) ++ y = Txt.join blank [f, x, y] := by
  rw [TL.join_eq]
  refine str_ext ?_
  show (u ++ x ++ (" " : Str) ++ y).cps.toList = (f ++ blank ++ (x ++ blank ++ y)).cps.toList
  rw [tl_app, tl_app, tl_app, tl_app, tl_app, tl_app, tl_app, hu]
  show _ ++ [32] ++ _ = f.cps.toList ++ [32] ++ (x.cps.toList ++ [32] ++ y.cps.toList)
  simp
/-! ### the names -/
def nameIx (ns : List Str) (z : Str) : Nat := ns.findIdx fun y => decide (y = z)
def goodNames (a b c d l : Str) : Bool :=
  ([a, b, c, d, l].all fun x => !nameBad x && (decide (x.length ≤ 8) && (!decide (32 ∈ x.cps.toList) && !decide (x ∈ menuO)))) && (decide ([a, b, c, d, l].Nodup) &&
  (([a, b, c, d].all fun u => [a, b, c, d].all fun v => ltCps v.cps.toList u.cps.toList || decide (nameIx [a, b, c, d] u ≤ nameIx [a, b, c, d] v)) && ([a, b, c, d].all fun u => decide ([a, b, c, d][nameIx [a, b, c, d] u]? = some u))))
def goodL : List Str → Bool
  | [a, b, c, d, l] => goodNames a b c d l
  | _ => false
theorem good_all : ((List.range 8).all fun s => (List.range s).all fun p => goodL (namesAt (s : Int) (p : Int))) = true := by decide +kernel
theorem names_good (cell : Int) : ∃ a b c d l, namesM cell = [a, b, c, d, l] ∧ goodNames a b c d l = true := by
  have s7a := Int.emod_nonneg cell (show (7 : Int) ≠ 0 by decide)
  have s7b := Int.emod_lt_of_pos cell (show (0 : Int) < 7 by decide)
  have hsz : 1 ≤ sizeOf0 cell ∧ sizeOf0 cell ≤ 7 := by unfold sizeOf0; omega
  have hpa : 0 ≤ placeOf0 cell := Int.emod_nonneg _ (by omega)
  have hpb : placeOf0 cell < sizeOf0 cell := Int.emod_lt_of_pos _ (by omega)
  have q := List.all_eq_true.mp (List.all_eq_true.mp good_all (sizeOf0 cell).toNat (List.mem_range.mpr (by omega))) (placeOf0 cell).toNat (List.mem_range.mpr (by omega))
  rw [Int.toNat_of_nonneg (by omega), Int.toNat_of_nonneg hpa] at q
  exact ⟨_, _, _, _, _, rfl, q⟩
theorem sorted_names {a b c d l : Str} (hg : goodNames a b c d l = true) {ys : List Str} (hp : ys.Perm [a, b, c, d]) (hs : sortedS ys = true) : ys = [a, b, c, d] := by
  unfold goodNames at hg
  rw [Bool.and_eq_true, Bool.and_eq_true, Bool.and_eq_true, decide_eq_true_eq] at hg
  obtain ⟨_, hn, ho, hi⟩ := hg
  have hn4 : [a, b, c, d].Nodup := by
    have q := hn.sublist (l₁ := [a, b, c, d]) (List.sublist_append_left [a, b, c, d] [l])
    exact q
  have hl := hp.length_eq
  have hnd := hp.nodup_iff.mpr hn4
  match ys, hl with
  | [w, x, y, z], _ =>
    have mw : w ∈ [a, b, c, d] := hp.subset (by simp)
    have mx : x ∈ [a, b, c, d] := hp.subset (by simp)
    have my : y ∈ [a, b, c, d] := hp.subset (by simp)
    have mz : z ∈ [a, b, c, d] := hp.subset (by simp)
    have hs' : (!ltCps x.cps.toList w.cps.toList && (!ltCps y.cps.toList x.cps.toList && (!ltCps z.cps.toList y.cps.toList && true))) = true := hs
    rw [Bool.and_eq_true, Bool.and_eq_true, Bool.and_eq_true] at hs'
    have st : ∀ u v, u ∈ [a, b, c, d] → v ∈ [a, b, c, d] → (!ltCps v.cps.toList u.cps.toList) = true → nameIx [a, b, c, d] u ≤ nameIx [a, b, c, d] v := fun u v hu hv h => by
      have q := List.all_eq_true.mp (List.all_eq_true.mp ho u hu) v hv
      rw [Bool.or_eq_true, decide_eq_true_eq] at q
      exact q.resolve_left (fun e => by rw [e] at h; cases h)
    have gi : ∀ u, u ∈ [a, b, c, d] → [a, b, c, d][nameIx [a, b, c, d] u]? = some u := fun u hu => of_decide_eq_true (List.all_eq_true.mp hi u hu)
    have lt4 : ∀ u, u ∈ [a, b, c, d] → nameIx [a, b, c, d] u < 4 := fun u hu => (List.getElem?_eq_some_iff.mp (gi u hu)).1
    have inj : ∀ u v, u ∈ [a, b, c, d] → v ∈ [a, b, c, d] → nameIx [a, b, c, d] u = nameIx [a, b, c, d] v → u = v := fun u v hu hv e => Option.some.inj ((gi u hu).symm.trans (e ▸ gi v hv))
    have i1 := st w x mw mx hs'.1
    have i2 := st x y mx my hs'.2.1
    have i3 := st y z my mz hs'.2.2.1
    have d1 : w ≠ x := fun e => by rw [e] at hnd; simp at hnd
    have d2 : x ≠ y := fun e => by rw [e] at hnd; simp at hnd
    have d3 : y ≠ z := fun e => by rw [e] at hnd; simp at hnd
    have e1 : nameIx [a, b, c, d] w ≠ nameIx [a, b, c, d] x := fun e => d1 (inj w x mw mx e)
    have e2 : nameIx [a, b, c, d] x ≠ nameIx [a, b, c, d] y := fun e => d2 (inj x y mx my e)
    have e3 : nameIx [a, b, c, d] y ≠ nameIx [a, b, c, d] z := fun e => d3 (inj y z my mz e)
    have f4 := lt4 z mz
    have gw := gi w mw
    have gx := gi x mx
    have gy := gi y my
    have gz := gi z mz
    rw [show nameIx [a, b, c, d] w = 0 by omega] at gw
    rw [show nameIx [a, b, c, d] x = 1 by omega] at gx
    rw [show nameIx [a, b, c, d] y = 2 by omega] at gy
    rw [show nameIx [a, b, c, d] z = 3 by omega] at gz
    rw [← Option.some.inj gw, ← Option.some.inj gx, ← Option.some.inj gy, ← Option.some.inj gz]
theorem good_nm {a b c d l : Str} (hg : goodNames a b c d l = true) : ∀ x ∈ [a, b, c, d, l], (nameBad x = false ∧ x.length ≤ 8 ∧ 32 ∉ x.cps.toList) ∧ x ∉ menuO := fun x hx => by
  unfold goodNames at hg
  rw [Bool.and_eq_true] at hg
  have q := List.all_eq_true.mp hg.1 x hx
  rw [Bool.and_eq_true, Bool.and_eq_true, Bool.and_eq_true, decide_eq_true_eq] at q
  exact ⟨⟨by simpa using q.1, q.2.1, of_decide_eq_false (by simpa using q.2.2.1)⟩, of_decide_eq_false (by simpa using q.2.2.2)⟩
theorem good_nd {a b c d l : Str} (hg : goodNames a b c d l = true) : [a, b, c, d, l].Nodup := by
  unfold goodNames at hg
  rw [Bool.and_eq_true, Bool.and_eq_true] at hg
  exact of_decide_eq_true hg.2.1
/-! ### what is kept -/
abbrev Plan : Type := List (Str × List Int)
def planOf (kept : Kept) : Plan := kept.map fun e => (e.1, e.2.2)
def knOf (l : Plan) (z : Str) : Option (List Int) := (l.find? fun e => decide (e.1 = z)).map (·.2)
theorem lk_plan (kept : Kept) (z : Str) : lk kept z = knOf (planOf kept) z := by
  unfold lk look knOf planOf
  induction kept with
  | nil => rfl
  | cons e r ih =>
    rw [List.map_cons, List.find?_cons, List.find?_cons]
    cases decide (e.1 = z) with
    | true => rfl
    | false => exact ih
theorem look_none {kept : Kept} {z : Str} (h : lk kept z = none) : look kept z = none := by
  unfold lk at h
  cases e : look kept z with
  | none => rfl
  | some q => rw [e] at h; cases h
theorem look_some {kept : Kept} {z : Str} {ns : List Int} (h : lk kept z = some ns) : (look kept z).isSome = true := by
  unfold lk at h
  cases e : look kept z with
  | none => rw [e] at h; cases h
  | some q => rfl
def plan4 (a b c d : Str) (r : Int) : Plan := [(a, [r, 3, T58, 1]), (b, [1, 0, 0, 0, 0, 0, 0, 0]), (c, [0, 0, 1]), (d, [0, 0])]
theorem kn_cons (x : Str) (ns : List Int) (l : Plan) (z : Str) : knOf ((x, ns) :: l) z = if x = z then some ns else knOf l z := by
  unfold knOf
  rw [List.find?_cons]
  by_cases h : x = z
  · rw [if_pos h]
    show Option.map _ (match decide (x = z) with | true => _ | false => _) = _
    rw [decide_eq_true h]
    rfl
  · rw [if_neg h]
    show Option.map _ (match decide (x = z) with | true => _ | false => _) = _
    rw [decide_eq_false h]
theorem knows_of {kept : Kept} {a b c d l : Str} {r : Int} (hg : goodNames a b c d l = true) (h : planOf kept = plan4 a b c d r) : Knows (lk kept) a b c d l r := by
  have nd := good_nd hg
  have nm := good_nm hg
  have hab : a ≠ b := fun e => by rw [e] at nd; simp at nd
  have hac : a ≠ c := fun e => by rw [e] at nd; simp at nd
  have had : a ≠ d := fun e => by rw [e] at nd; simp at nd
  have hal : a ≠ l := fun e => by rw [e] at nd; simp at nd
  have hbc : b ≠ c := fun e => by rw [e] at nd; simp at nd
  have hbd : b ≠ d := fun e => by rw [e] at nd; simp at nd
  have hbl : b ≠ l := fun e => by rw [e] at nd; simp at nd
  have hcd : c ≠ d := fun e => by rw [e] at nd; simp at nd
  have hcl : c ≠ l := fun e => by rw [e] at nd; simp at nd
  have hdl : d ≠ l := fun e => by rw [e] at nd; simp at nd
  have e : ∀ z, lk kept z = knOf (plan4 a b c d r) z := fun z => by rw [lk_plan, h]
  refine ⟨?_, ?_, ?_, ?_, fun z hz => ?_, ?_, fun x hx => (nm x hx).1⟩
  · rw [e, plan4, kn_cons, if_pos rfl]
  · rw [e, plan4, kn_cons, if_neg hab, kn_cons, if_pos rfl]
  · rw [e, plan4, kn_cons, if_neg hac, kn_cons, if_neg hbc, kn_cons, if_pos rfl]
  · rw [e, plan4, kn_cons, if_neg had, kn_cons, if_neg hbd, kn_cons, if_neg hcd, kn_cons, if_pos rfl]
  · have n1 : a ≠ z := fun q => (nm a (by simp)).2 (q ▸ hz)
    have n2 : b ≠ z := fun q => (nm b (by simp)).2 (q ▸ hz)
    have n3 : c ≠ z := fun q => (nm c (by simp)).2 (q ▸ hz)
    have n4 : d ≠ z := fun q => (nm d (by simp)).2 (q ▸ hz)
    rw [e, plan4, kn_cons, if_neg n1, kn_cons, if_neg n2, kn_cons, if_neg n3, kn_cons, if_neg n4]
    rfl
  · rw [e, plan4, kn_cons, if_neg hal, kn_cons, if_neg hbl, kn_cons, if_neg hcl, kn_cons, if_neg hdl]
    rfl
/-! ### the polynomials' texts -/
def ten58 : Str := numT (10 ^ 58)
theorem t58_is : Str.ofString (toString ((10 : Int) ^ (58 : Int).toNat)) = ten58 := rfl
def text1 (r : Int) : Str := numT r ++ (",3," : Str) ++ ten58 ++ (",1" : Str)
def text2 : Str := ("1" : Str) ++ Txt.mul ",0" 7
def textOk (t : Str) (ns : List Int) : Bool := decide (polyM t = some ns) && (polyOk t && (decide (showM ns = t) && (decide (t.length ≤ 100) && (!decide (32 ∈ t.cps.toList) && (decide (ns.length ≤ 13) && (!ns.isEmpty && ns.all fun n => decide (n.natAbs < 10 ^ 60) && (decide (n.natAbs.log2 < 1920) && decide ((numT n).length ≤ 1000))))))))
theorem text1_ok : ((List.range 9).all fun r => textOk (text1 (r : Int)) [(r : Int), 3, T58, 1]) = true := by decide +kernel
theorem text2_ok : textOk text2 [1, 0, 0, 0, 0, 0, 0, 0] = true := by decide +kernel
theorem text3_ok : textOk "0,0,1" [0, 0, 1] = true := by decide +kernel
theorem text4_ok : textOk "0,0" [0, 0] = true := by decide +kernel
theorem text5_ok : textOk "5" [5] = true := by decide +kernel
structure TextIs (t : Str) (ns : List Int) : Prop where
  rd : polyM t = some ns
  ok : polyOk t = true
  sh : showM ns = t
  cl : Clean t
  l13 : ns.length ≤ 13
  ne : ns ≠ []
  bd : ∀ n ∈ ns, n.natAbs < 10 ^ 60
  sm : smallPoly ns
theorem text_of {t : Str} {ns : List Int} (h : textOk t ns = true) : TextIs t ns := by
  unfold textOk at h
  simp only [Bool.and_eq_true, decide_eq_true_eq] at h
  obtain ⟨h1, h2, h3, h4, h5, h6, h7, h8⟩ := h
  refine ⟨h1, h2, h3, ⟨of_decide_eq_false (by simpa using h5), h4⟩, h6, (fun e => by rw [e] at h7; cases h7), fun n hn => ?_, ⟨by omega, fun n hn => ?_⟩⟩
  · have q := List.all_eq_true.mp h8 n hn
    simp only [Bool.and_eq_true, decide_eq_true_eq] at q
    exact q.1
  · have q := List.all_eq_true.mp h8 n hn
    simp only [Bool.and_eq_true, decide_eq_true_eq] at q
    exact q.2
end Dr

namespace Dr
open PySem PySem.Spec PyProof.Rows L2
/-! ### the law's own rows -/
theorem say_of {K : PySem.W.Frag} {H : Hp} {Q : VK} {E : XK} {d k : Addr} {p : Int} {kept : Kept} {z first kd : Str} {rest : List Str} {o : DOut} (D : DeskAt K H d k p kept) (hp : 2 ≤ p ∧ p ≤ 97) (ez : z = Txt.join blank (first :: rest)) (hc : ∀ x ∈ first :: rest, Clean x) (hl : rest.length ≤ 4)
    (hk : kindsM first = some kd) (hl2 : kd.length = rest.length) (ho : ptsOk kd rest = true) (hf : firstBad (ptsM (lk kept) kd rest) = none ∧ DeedR p kept first rest (ptsM (lk kept) kd rest) o) (hE : SayEnds K H Q E k kept o) : spSay K [.ref d, .str z] H Q E := by
  subst ez
  refine ⟨d, k, p, kept, _, rfl, D, hp, .inr ⟨_, first, rest, rfl, row_len (fun x hx => Nat.le_trans (hc x hx).2 (by decide)) ?_, sp_row (List.cons_ne_nil _ _) (fun x hx => (hc x hx).1), by omega, .inr ⟨kd, hk, hl2, ho, .inr ⟨hf.1, o, hf.2, hE⟩⟩⟩⟩
  rw [List.length_cons]
  omega
def NameOk (x : Str) : Prop := nameBad x = false ∧ x.length ≤ 8 ∧ 32 ∉ x.cps.toList
theorem NameOk.clean {x : Str} (h : NameOk x) : Clean x := ⟨h.2.2, by have := h.2.1; omega⟩
theorem say_poly {K : PySem.W.Frag} {H : Hp} {Q : VK} {E : XK} {d k : Addr} {p : Int} {kept : Kept} {z x t : Str} {ns : List Int} (D : DeskAt K H d k p kept) (hp : 2 ≤ p ∧ p ≤ 97) (hx : NameOk x) (ht : TextIs t ns) (hn : lk kept x = none) (ez : z = Txt.join blank [("poly" : Str), x, t])
    (h : ∀ H' a, (∀ b o, b ≠ k → H b = some o → H' b = some o) → H' k = some (.dK (dKV (kept ++ [(x, a, ns)]))) → H' a = some (lI ns) → Q (.str "ok") H') : spSay K [.ref d, .str z] H Q E := by
  refine say_of (o := .put x ns) D hp ez (List.forall_mem_cons.mpr ⟨clean_of (by decide +kernel), List.forall_mem_cons.mpr ⟨hx.clean, List.forall_mem_cons.mpr ⟨ht.cl, fun _ q => nomatch q⟩⟩⟩) (by show 2 ≤ 4; decide) (show kindsM "poly" = some "nf" by decide +kernel) rfl ?_ ?_ h
  · rw [ok_is (show ("nf" : Str).cps.toList = [110, 102] by decide +kernel)]
    show (partOk (sg 110) x && (partOk (sg 102) t && true)) = true
    rw [po_name (.inl rfl) hx.2.1]
    unfold partOk
    have hl := ht.cl.2
    rw [decide_eq_true (show t.length ≤ 640 by omega), if_pos (show sg 102 = "f" by decide +kernel), ht.ok]
    rfl
  · rw [pts_is (show ("nf" : Str).cps.toList = [110, 102] by decide +kernel)]
    show firstBad [partM (lk kept) (sg 110) x, partM (lk kept) (sg 102) t] = none ∧ DeedR p kept _ _ [partM (lk kept) (sg 110) x, partM (lk kept) (sg 102) t] _
    rw [pm_n hx.1, pm_f ht.rd]
    exact ⟨rfl, .poly x t ns (look_none hn) ht.ne ht.l13 ht.bd⟩
theorem o_ok {x : Str} (hx : NameOk x) : ptsOk ("o" : Str) [x] = true := by
  rw [ok_is (show ("o" : Str).cps.toList = [111] by decide +kernel)]
  show (partOk (sg 111) x && true) = true
  rw [po_name (.inr rfl) hx.2.1]
  rfl
theorem o_is {kn : Str → Option (List Int)} {x : Str} : ptsM kn ("o" : Str) [x] = [partM kn (sg 111) x] := pts_is (show ("o" : Str).cps.toList = [111] by decide +kernel)
theorem say_show {K : PySem.W.Frag} {H : Hp} {Q : VK} {E : XK} {d k : Addr} {p : Int} {kept : Kept} {z x t : Str} {ns : List Int} (D : DeskAt K H d k p kept) (hp : 2 ≤ p ∧ p ≤ 97) (hx : NameOk x) (ht : TextIs t ns) (hn : lk kept x = some ns) (ez : z = Txt.join blank [("show" : Str), x])
    (h : ∀ H', Same H H' → Q (.str t) H') : spSay K [.ref d, .str z] H Q E := by
  refine say_of (o := .txt (showM ns)) D hp ez (List.forall_mem_cons.mpr ⟨clean_of (by decide +kernel), List.forall_mem_cons.mpr ⟨hx.clean, fun _ q => nomatch q⟩⟩) (by show 1 ≤ 4; decide) (show kindsM "show" = some "o" by decide +kernel) rfl (o_ok hx) ?_ ?_
  · rw [o_is, pm_o hx.1 hn]
    exact ⟨rfl, .show _ ns ht.sm⟩
  · rw [ht.sh]
    exact h
theorem say_drop {K : PySem.W.Frag} {H : Hp} {Q : VK} {E : XK} {d k : Addr} {p : Int} {kept : Kept} {z x : Str} {ns : List Int} (D : DeskAt K H d k p kept) (hp : 2 ≤ p ∧ p ≤ 97) (hx : NameOk x) (hn : lk kept x = some ns) (ez : z = Txt.join blank [("drop" : Str), x])
    (h : ∀ H', (∀ b o, b ≠ k → H b = some o → H' b = some o) → H' k = some (.dK (dKV (dropKept kept x))) → Q (.str "ok") H') : spSay K [.ref d, .str z] H Q E := by
  refine say_of (o := .drop x) D hp ez (List.forall_mem_cons.mpr ⟨clean_of (by decide +kernel), List.forall_mem_cons.mpr ⟨hx.clean, fun _ q => nomatch q⟩⟩) (by show 1 ≤ 4; decide) (show kindsM "drop" = some "o" by decide +kernel) rfl (o_ok hx) ?_ h
  rw [o_is, pm_o hx.1 hn]
  exact ⟨rfl, .drop x ns (look_some hn)⟩
theorem say_solve {K : PySem.W.Frag} {H : Hp} {Q : VK} {E : XK} {d k : Addr} {p : Int} {kept : Kept} {z x : Str} {ns : List Int} (D : DeskAt K H d k p kept) (hp : 2 ≤ p ∧ p ≤ 97) (hx : NameOk x) (hn : lk kept x = some ns) (ez : z = Txt.join blank [("solve" : Str), x, ("0" : Str)])
    (h : ∀ H', Same H H' → Q (.str "0@0") H') : spSay K [.ref d, .str z] H Q E := by
  refine say_of (o := .txt "0@0") D hp ez (List.forall_mem_cons.mpr ⟨clean_of (by decide +kernel), List.forall_mem_cons.mpr ⟨hx.clean, List.forall_mem_cons.mpr ⟨clean_of (by decide +kernel), fun _ q => nomatch q⟩⟩⟩) (by show 2 ≤ 4; decide) (show kindsM "solve" = some "od" by decide +kernel) rfl ?_ ?_ h
  · rw [ok_is (show ("od" : Str).cps.toList = [111, 100] by decide +kernel)]
    show (partOk (sg 111) x && (partOk (sg 100) ("0" : Str) && true)) = true
    rw [po_name (.inr rfl) hx.2.1]
    decide +kernel
  · rw [pts_is (show ("od" : Str).cps.toList = [111, 100] by decide +kernel)]
    show firstBad [partM (lk kept) (sg 111) x, partM (lk kept) (sg 100) ("0" : Str)] = none ∧ DeedR p kept _ _ [partM (lk kept) (sg 111) x, partM (lk kept) (sg 100) ("0" : Str)] _
    rw [pm_o hx.1 hn, show partM (lk kept) (sg 100) ("0" : Str) = .int 0 from pm_d (by decide +kernel) (by decide +kernel) (by decide) (by decide)]
    exact ⟨rfl, .solve _ ns⟩
theorem say_names {K : PySem.W.Frag} {H : Hp} {Q : VK} {E : XK} {d k : Addr} {p : Int} {kept : Kept} {a b c e l : Str} {r : Int} (D : DeskAt K H d k p kept) (hp : 2 ≤ p ∧ p ≤ 97) (hg : goodNames a b c e l = true) (hk : planOf kept = plan4 a b c e r)
    (h : ∀ H', Same H H' → Q (.str (Txt.join blank [a, b, c, e])) H') : spSay K [.ref d, .str "names"] H Q E := by
  have e1 : kept.map (·.1) = [a, b, c, e] := by
    have q := congrArg (List.map fun x : Str × List Int => x.1) hk
    unfold planOf at q
    rw [List.map_map] at q
    exact q
  have e2 : kept.length = 4 := by
    have q := congrArg List.length e1
    rw [List.length_map] at q
    exact q
  have nm := good_nm hg
  refine say_of (o := .txt (Txt.join blank [a, b, c, e])) (first := "names") (rest := []) D hp (by decide +kernel) (List.forall_mem_cons.mpr ⟨clean_of (by decide +kernel), fun _ q => nomatch q⟩) (by decide) (show kindsM "names" = some "" by decide +kernel) rfl rfl ⟨rfl, .names _ (fun ys hp1 hp2 => ?_) (by omega)⟩ h
  rw [e1] at hp1
  have z := sorted_names hg hp1 hp2
  rw [z]
  exact ⟨rfl, Nat.le_trans (join_small (fun x hx => Nat.le_trans (nm x (List.mem_append_left [l] hx)).1.2.1 (by decide)) (by show 4 ≤ 12; decide)) (by decide)⟩
/-- a name that is not kept -/
theorem ref_solve {K : PySem.W.Frag} {H : Hp} {p : Int} {kept : Kept} {z x : Str} (hx : NameOk x) (hn : lk kept x = none) (ez : z = Txt.join blank [("solve" : Str), x, ("3" : Str)]) : RefR K p kept (.str z) H "NoName" := by
  subst ez
  have hc : ∀ y ∈ [("solve" : Str), x, ("3" : Str)], Clean y := List.forall_mem_cons.mpr ⟨clean_of (by decide +kernel), List.forall_mem_cons.mpr ⟨hx.clean, List.forall_mem_cons.mpr ⟨clean_of (by decide +kernel), fun _ q => nomatch q⟩⟩⟩
  refine .inr ⟨_, "solve", [x, ("3" : Str)], rfl, row_len (fun y hy => Nat.le_trans (hc y hy).2 (by decide)) (by show 3 ≤ 12; decide), sp_row (List.cons_ne_nil _ _) (fun y hy => (hc y hy).1), (by show 2 ≤ 100; decide), .inr ⟨"od", by decide +kernel, rfl, ?_, .inl ?_⟩⟩
  · rw [ok_is (show ("od" : Str).cps.toList = [111, 100] by decide +kernel)]
    show (partOk (sg 111) x && (partOk (sg 100) ("3" : Str) && true)) = true
    rw [po_name (.inr rfl) hx.2.1]
    decide +kernel
  · rw [pts_is (show ("od" : Str).cps.toList = [111, 100] by decide +kernel)]
    show firstBad [partM (lk kept) (sg 111) x, partM (lk kept) (sg 100) ("3" : Str)] = _
    rw [partM_o, hx.1, hn]
    rfl
theorem ref_show {K : PySem.W.Frag} {H : Hp} {p : Int} {kept : Kept} {z x : Str} (hx : NameOk x) (hn : lk kept x = none) (ez : z = Txt.join blank [("show" : Str), x]) : RefR K p kept (.str z) H "NoName" := by
  subst ez
  have hc : ∀ y ∈ [("show" : Str), x], Clean y := List.forall_mem_cons.mpr ⟨clean_of (by decide +kernel), List.forall_mem_cons.mpr ⟨hx.clean, fun _ q => nomatch q⟩⟩
  refine .inr ⟨_, "show", [x], rfl, row_len (fun y hy => Nat.le_trans (hc y hy).2 (by decide)) (by show 2 ≤ 12; decide), sp_row (List.cons_ne_nil _ _) (fun y hy => (hc y hy).1), (by show 1 ≤ 100; decide), .inr ⟨"o", by decide +kernel, rfl, o_ok hx, .inl ?_⟩⟩
  rw [o_is, partM_o, hx.1, hn]
  rfl
/-- after a put or a drop: the desk with what is kept now -/
theorem DeskAt.put {K : PySem.W.Frag} {H H' : Hp} {d k : Addr} {p : Int} {kept : Kept} {x : Str} {a : Addr} {ns : List Int} (D : DeskAt K H d k p kept) (hl : kept.length ≤ 50) (h1 : ∀ b o, b ≠ k → H b = some o → H' b = some o) (h2 : H' k = some (.dK (dKV (kept ++ [(x, a, ns)])))) (h3 : H' a = some (lI ns)) :
    DeskAt K H' d k p (kept ++ [(x, a, ns)]) := by
  obtain ⟨dx, hd⟩ := D.ins
  refine ⟨⟨dx, h1 _ _ (fun q => ?_) hd⟩, h2, fun e he => ?_, by rw [List.length_append]; show _ + 1 ≤ 100; omega⟩
  · rw [q, D.dic] at hd
    cases hd
  · rcases List.mem_append.mp he with he | he
    · refine h1 _ _ (fun q => ?_) (D.pol e he)
      have z := D.pol e he
      rw [q, D.dic] at z
      cases z
    · rw [List.mem_singleton.mp he]
      exact h3
theorem DeskAt.drop {K : PySem.W.Frag} {H H' : Hp} {d k : Addr} {p : Int} {kept : Kept} {x : Str} (D : DeskAt K H d k p kept) (h1 : ∀ b o, b ≠ k → H b = some o → H' b = some o) (h2 : H' k = some (.dK (dKV (dropKept kept x)))) : DeskAt K H' d k p (dropKept kept x) := by
  obtain ⟨dx, hd⟩ := D.ins
  refine ⟨⟨dx, h1 _ _ (fun q => ?_) hd⟩, h2, fun e he => ?_, Nat.le_trans (List.length_filter_le _ _) D.few⟩
  · rw [q, D.dic] at hd
    cases hd
  · have he' : e ∈ kept := (List.mem_filter.mp he).1
    refine h1 _ _ (fun q => ?_) (D.pol e he')
    have z := D.pol e he'
    rw [q, D.dic] at z
    cases z
theorem drop_none (kept : Kept) (x : Str) : lk (dropKept kept x) x = none := by
  unfold lk look dropKept
  have e : (kept.filter fun e => decide (e.1 ≠ x)).find? (fun e => decide (e.1 = x)) = none := by
    rw [List.find?_eq_none]
    intro e he q
    have h1 := (List.mem_filter.mp he).2
    exact of_decide_eq_true h1 (of_decide_eq_true q)
  rw [e]
  rfl
theorem plan_put (kept : Kept) (x : Str) (a : Addr) (ns : List Int) : planOf (kept ++ [(x, a, ns)]) = planOf kept ++ [(x, ns)] := by
  unfold planOf
  rw [List.map_append]
  rfl
theorem primes_ok (cell : Int) : primeM (primeAt cell) = true ∧ 2 ≤ primeAt cell ∧ primeAt cell ≤ 97 := by
  have q : (primes.all fun p => primeM p && (decide (2 ≤ p) && decide (p ≤ 97))) = true := by decide +kernel
  have hm : primeAt cell ∈ primes := by
    have h4a := Int.emod_nonneg (cell / 2) (show (4 : Int) ≠ 0 by decide)
    have h4b := Int.emod_lt_of_pos (cell / 2) (show (0 : Int) < 4 by decide)
    have h25a := Int.emod_nonneg (cell / 2) (show (25 : Int) ≠ 0 by decide)
    have h25b := Int.emod_lt_of_pos (cell / 2) (show (0 : Int) < 25 by decide)
    unfold primeAt
    split
    · exact List.mem_of_getElem? (getD_at (by show _ < 25; omega))
    · exact List.mem_of_getElem? (getD_at (by show _ < 25; omega))
  have z := List.all_eq_true.mp q _ hm
  rw [Bool.and_eq_true, Bool.and_eq_true, decide_eq_true_eq, decide_eq_true_eq] at z
  exact z
theorem mixed_ok (c : Int) (k : Nat) : 0 ≤ mixedN c k ∧ mixedN c k < 2 ^ 40 := by
  unfold mixedN
  have h0 := Int.emod_nonneg (c * 48271 + 104729 * (k : Int) * k + 7919 * k + 1) (show (2147483647 : Int) ≠ 0 by decide)
  have h1 := Int.emod_lt_of_pos (c * 48271 + 104729 * (k : Int) * k + 7919 * k + 1) (show (0 : Int) < 2147483647 by decide)
  generalize (c * 48271 + 104729 * (k : Int) * k + 7919 * k + 1) % 2147483647 = n at h0 h1
  have h2 := Int.emod_nonneg (n * n) (show (2147483629 : Int) ≠ 0 by decide)
  have h3 := Int.emod_lt_of_pos (n * n) (show (0 : Int) < 2147483629 by decide)
  show 0 ≤ n * n % 2147483629 + n ∧ n * n % 2147483629 + n < 2 ^ 40
  omega
end Dr

namespace Dr
open PySem PySem.Spec PyProof.Rows L2
theorem neF {x : V} {A B : Prop} (h : B) : if (!decide (x = x)) = true then A else B := by
  rw [decide_eq_true rfl]
  exact iteF h
theorem sql_but {K : PySem.W.Frag} {H H' : Hp} {p k : Addr} {xs : List V} {kvs : List (Key × V)} (h : SqL K H p xs) (hk : H k = some (.dK kvs)) (h1 : ∀ b o, b ≠ k → H b = some o → H' b = some o) : SqL K H' p xs := by
  have ne : ∀ {o : HO}, H p = some o → (∀ kvs, o ≠ .dK kvs) → H' p = some o := fun {o} e n => h1 _ _ (fun q => by
    rw [q, hk] at e
    exact n _ (Option.some.inj e).symm) e
  rcases h with h | h
  · rcases h with h | ⟨o, h⟩
    · exact .inl (.inl (ne h (fun _ q => nomatch q)))
    · exact .inl (.inr ⟨o, ne h (fun _ q => nomatch q)⟩)
  · exact .inr h
structure LawAt (K : PySem.W.Frag) (H : Hp) (sb nb tb d k : Addr) (p : Int) (xs : List Int) (ns ts : List Str) (kept : Kept) : Prop where
  D : DeskAt K H d k p kept
  hn : H nb = some (lS ns)
  ht : H tb = some (lS ts)
  hs : SqL K H sb (xs.map V.int)
section
variable {K : PySem.W.Frag} {H H' : Hp} {sb nb tb d k : Addr} {p : Int} {xs : List Int} {ns ts : List Str} {kept kept' : Kept}
theorem LawAt.same (L : LawAt K H sb nb tb d k p xs ns ts kept) (s : Same H H') : LawAt K H' sb nb tb d k p xs ns ts kept := ⟨L.D.same s, s _ _ L.hn, s _ _ L.ht, s.seq L.hs⟩
theorem LawAt.but (L : LawAt K H sb nb tb d k p xs ns ts kept) (h1 : ∀ b o, b ≠ k → H b = some o → H' b = some o) (D : DeskAt K H' d k p kept') : LawAt K H' sb nb tb d k p xs ns ts kept' := by
  refine ⟨D, h1 _ _ (fun q => ?_) L.hn, h1 _ _ (fun q => ?_) L.ht, sql_but L.hs L.D.dic h1⟩
  · have z := L.hn
    rw [q, L.D.dic] at z
    cases z
  · have z := L.ht
    rw [q, L.D.dic] at z
    cases z
theorem LawAt.fld (L : LawAt K H sb nb tb d k p xs ns ts kept) : ∃ dx, H d = some (.ins (He.ga K "Desk") dx (dF p k)) := L.D.ins
end
theorem form_ok {kn : Str → Option (List Int)} {ws : List Str} (h : RowFit kn ws) : FormOk ws := by
  obtain ⟨⟨first, rest, e, hf, hp⟩, hc⟩ := h
  exact ⟨⟨first, rest, e, hf, (fits_len hp).symm.trans Array.length_toList, (kinds_are hf).2.1⟩, fun x hx => (hc x hx).2⟩
theorem deed_short {p : Int} {kept : Kept} {ws : List Str} {due : Str} (h : DeedGo p kept ws due) : (∀ x ∈ ws, x.length ≤ 200) ∧ ws.length ≤ 12 := by
  obtain ⟨⟨f1, r1, kd, e1, e2, e3, _⟩, e7⟩ := h
  refine ⟨fun x hx => Nat.le_trans (e7 x hx).2 (by decide), ?_⟩
  rw [e1, List.length_cons, ← e3]
  have := kinds_few e2
  omega
def textsL (r : Int) : List Str := [text1 r, text2, ("0,0,1" : Str), ("0,0" : Str)]
/-- the j-th of the four -/
theorem ent_at {a b c e l : Str} {r : Int} (hg : goodNames a b c e l = true) (hr : 0 ≤ r ∧ r < 9) {j : Nat} (hj : j < 4) : ∃ (z t : Str) (ns : List Int), [a, b, c, e, l][j]? = some z ∧ [a, b, c, e][j]? = some z ∧ (textsL r)[j]? = some t ∧ NameOk z ∧ TextIs t ns ∧
    (plan4 a b c e r).take (j + 1) = (plan4 a b c e r).take j ++ [(z, ns)] ∧ knOf ((plan4 a b c e r).take j) z = none ∧ knOf (plan4 a b c e r) z = some ns := by
  have nd := good_nd hg
  have nm := good_nm hg
  have hab : a ≠ b := fun e => by rw [e] at nd; simp at nd
  have hac : a ≠ c := fun e => by rw [e] at nd; simp at nd
  have had : a ≠ e := fun e => by rw [e] at nd; simp at nd
  have hbc : b ≠ c := fun e => by rw [e] at nd; simp at nd
  have hbd : b ≠ e := fun e => by rw [e] at nd; simp at nd
  have hcd : c ≠ e := fun e => by rw [e] at nd; simp at nd
  have t1 : TextIs (text1 r) [r, 3, T58, 1] := by
    obtain ⟨m, rfl⟩ := Int.eq_ofNat_of_zero_le hr.1
    exact text_of (List.all_eq_true.mp text1_ok m (List.mem_range.mpr (by omega)))
  match j, hj with
  | 0, _ => exact ⟨a, _, _, rfl, rfl, rfl, (nm a (by simp)).1, t1, rfl, rfl, by rw [plan4, kn_cons, if_pos rfl]⟩
  | 1, _ => exact ⟨b, _, _, rfl, rfl, rfl, (nm b (by simp)).1, text_of text2_ok, rfl, by show knOf [(a, _)] b = none; rw [kn_cons, if_neg hab]; rfl, by rw [plan4, kn_cons, if_neg hab, kn_cons, if_pos rfl]⟩
  | 2, _ => exact ⟨c, _, _, rfl, rfl, rfl, (nm c (by simp)).1, text_of text3_ok, rfl, by show knOf [(a, _), (b, _)] c = none; rw [kn_cons, if_neg hac, kn_cons, if_neg hbc]; rfl, by rw [plan4, kn_cons, if_neg hac, kn_cons, if_neg hbc, kn_cons, if_pos rfl]⟩
  | 3, _ => exact ⟨e, _, _, rfl, rfl, rfl, (nm e (by simp)).1, text_of text4_ok, rfl, by show knOf [(a, _), (b, _), (c, _)] e = none; rw [kn_cons, if_neg had, kn_cons, if_neg hbd, kn_cons, if_neg hcd]; rfl, by rw [plan4, kn_cons, if_neg had, kn_cons, if_neg hbd, kn_cons, if_neg hcd, kn_cons, if_pos rfl]⟩
  | n + 4, h => omega
theorem kn_snoc {l : Plan} {z : Str} {ns : List Int} (h : knOf l z = none) : knOf (l ++ [(z, ns)]) z = some ns := by
  induction l with
  | nil =>
    show knOf [(z, ns)] z = _
    rw [kn_cons, if_pos rfl]
  | cons q r ih =>
    obtain ⟨x, m⟩ := q
    show knOf ((x, m) :: (r ++ [(z, ns)])) z = _
    rw [kn_cons] at h ⊢
    by_cases c : x = z
    · rw [if_pos c] at h
      cases h
    · rw [if_neg c] at h ⊢
      exact ih h
theorem add_short {x y : Str} (hx : x.length ≤ 400) (hy : y.length ≤ 400) : x.length + y.length ≤ sizeLine := short (Nat.ble_eq_true_of_le (by omega))
section
variable {P : Program} {w : World} {K : PySem.W.Frag} {mg : Str → Option Value} {base : Heap}
def spLaw (K : PySem.W.Frag) : Sp := fun vs H Q _ => ∃ (sb : Addr) (xs : List Int), vs = [.ref sb] ∧ SqL K H sb (xs.map V.int) ∧ ∀ H', Q (.bl true) H'
abbrev nmLaw : List Str := ["script", "names", "cell", "desk", "texts", "name", "text", "k", "number", "new", "row", "due", "place", "n"]
theorem scLaw : FnScope nmLaw ["script"] (defScope sLaw) := ⟨rfl, rfl, rfl, by decide +kernel, rfl, by decide +kernel, by decide +kernel⟩
theorem law_of (T : TX K mg) {fd : FuncData} (F : FunD K "law" "law" (defArgs sLaw) (defBody sLaw) (defScope sLaw) [] [] (He.ga K "law") fd) : FnOk P w K mg base CX0 8 (He.ga K "law") fd ["script"] (spLaw K) := by
  obtain ⟨fdS, GS, bS⟩ := ok_Say (P := P) (w := w) (base := base) T
  obtain ⟨fdI, GI, bI⟩ := ok_Init (P := P) (w := w) (base := base) T
  obtain ⟨fdC, GC, bC, kC, gC⟩ := ok_Cell (P := P) (w := w) (base := base) T
  obtain ⟨fdN, GN, bN, kN, gN⟩ := ok_Names (P := P) (w := w) (base := base) T
  obtain ⟨fdP, GP, bP, kP, gP⟩ := ok_Prime (P := P) (w := w) (base := base) T
  obtain ⟨fdM, GM, bM, kM, gM⟩ := ok_Mixed (P := P) (w := w) (base := base) T
  obtain ⟨fdD, GD, bD, kD, gD⟩ := ok_NoDesk (P := P) (w := w) (base := base) T
  obtain ⟨fdW, GW, bW, kW, gW⟩ := ok_Drawn (P := P) (w := w) (base := base) T
  obtain ⟨fdR, GR, bR, kR, gR⟩ := ok_Refused (P := P) (w := w) (base := base) T
  refine F.ok scLaw (fun vs H Q E h => ?_) (fun cdv A outer s H vs Q E hr7 h => ?_)
  · obtain ⟨sb, xs, rfl, _⟩ := h
    rfl
  · obtain ⟨sb, xs, rfl, hS, h⟩ := h
    have nd := scLaw.nd
    have hr1 : Room 1 _ := hr7.mono (by decide)
    have hr3 : Room 3 _ := hr7.mono (by decide)
    have hr4 : Room 4 _ := hr7.mono (by decide)
    have hr6 : Room 6 _ := hr7.mono (by decide)
    refine ⟨_, PSs.nox (pss_cons (ps_set (i := 1) nd rfl (.inl rfl) (pe_call GN hr1 (by rfl) gN kN bN .nil pass0 (pa_cons (pe_call GC hr1 (by rfl) gC kC bC .nil pass0 (pa_cons (pv 0) (pa_cons pe_int pa_nil))) pa_nil)))
      (pss_cons (ps_set (i := 2) nd rfl (.inl rfl) (pe_op op_fdiv (pe_call GC hr1 (by rfl) gC kC bC .nil pass0 (pa_cons (pv 0) (pa_cons pe_int pa_nil))) pe_int))
      (pss_cons (ps_set (i := 3) nd rfl (.inl rfl) (pe_make T.mkr GI hr3 rfl T.gDesk bI .nil passL (pa_cons (pe_call GP hr1 (by rfl) gP kP bP .nil pass0 (pa_cons (pv 2) pa_nil)) pa_nil)))
      (pss_cons (ps_set (i := 4) nd rfl (.inl rfl) (pe_lst (pa_cons (pe_op op_add_str (pe_op op_add_str (pe_op op_add_str (pe_callTy call_str_int (by rfl) T.nstr PyProof.Rows.boot_str (pa_cons (pe_op op_mod (pv 2) pe_int) pa_nil)) pe_str) (pe_callTy call_str_int (by rfl) T.nstr PyProof.Rows.boot_str (pa_cons (pe_op op_pow pe_int pe_int) pa_nil))) pe_str) (pa_cons (pe_op op_add_str pe_str (pe_op op_times pe_str pe_int)) (pa_cons pe_str (pa_cons pe_str pa_nil))))))
      (pss_cons (ps_for PassesOwn.never rfl (pi_zip (by rfl) T.nzip (pa_cons (pe_slice sl_list (pv 1) po_none (po_some pe_int)) (pa_cons (pv 4) pa_nil))) (pg_tup rfl (pgs_cons (pg_name (i := 5) nd rfl (.inl rfl)) (pgs_cons (pg_name (i := 6) nd rfl (.inl rfl)) pgs_nil))) (pss_one (ps_if (PW.pt (pw_or (pt_cmpR op_ne (pe_meth (pv 3) T.cls T.mSay GS hr6 bS .nil passL (pa_cons (pe_op op_add_str (pe_op op_add_str (pe_op op_add_str pe_str (pv 5)) pe_str) (pv 6)) pa_nil)) pe_str (nomark _)) (pw_or1 (pt_cmpR op_ne (pe_meth (pv 3) T.cls T.mSay GS hr6 bS .nil passL (pa_cons (pe_op op_add_str pe_str (pv 5)) pa_nil)) (pv 6) (nomark _))))) (pss_one (ps_ret pe_bl)) pss_nil)))
      (pss_cons (ps_for PassesOwn.never rfl (pi_range2 (by rfl) T.nrange (pa_cons pe_int (pa_cons (pe_callB (call_max2 rfl) (by rfl) T.nmax PyProof.Rows.boot_max (pa_cons pe_int (pa_cons (pe_callB (call_min2 rfl) (by rfl) T.nmin PyProof.Rows.boot_min (pa_cons (pe_callB call_len_seq (by rfl) T.nlen PySem.boot_len (pa_cons (pv 0) pa_nil)) (pa_cons pe_int pa_nil))) pa_nil))) pa_nil))) (pg_name (i := 7) nd rfl (.inl rfl)) (pss_cons (ps_set (i := 8) nd rfl (.inl rfl) (pe_call GM hr1 (by rfl) gM kM bM .nil pass0 (pa_cons (pe_call GC hr1 (by rfl) gC kC bC .nil pass0 (pa_cons (pv 0) (pa_cons (pv 7) pa_nil))) (pa_cons (pv 7) pa_nil))))
      (pss_cons (ps_if (pt_not (pt_val (pe_call GD hr4 (by rfl) gD kD bD .nil pass0 (pa_cons (pe_call GC hr1 (by rfl) gC kC bC .nil pass0 (pa_cons (pv 0) (pa_cons (pv 7) pa_nil))) pa_nil)))) (pss_one (ps_ret pe_bl)) pss_nil)
      (pss_cons (ps_set (i := 9) nd rfl (.inl rfl) (pe_op op_mod (pe_op op_fdiv (pv 8) pe_int) pe_int))
      (pss_cons (ps_asg (pe_call GW hr3 (by rfl) gW kW bW .nil pass0 (pa_cons (pv 1) (pa_cons (pv 8) (pa_cons (pe_ix (r := rIxL K) ix_list (pv 1) (pe_callB (call_min2 rfl) (by rfl) T.nmin PyProof.Rows.boot_min (pa_cons (pv 9) (pa_cons pe_int pa_nil))) (fun _ _ => rfl)) pa_nil)))) (pg_lst rfl (pgs_cons (pg_name (i := 10) nd rfl (.inl rfl)) (pgs_cons (pg_name (i := 11) nd rfl (.inl rfl)) pgs_nil))))
      (pss_cons (ps_if (PW.pt (pw_or (pt_not (pt_val (pe_call GR hr7 (by rfl) gR kR bR .nil pass0 (pa_cons (pv 3) (pa_cons (pv 10) (pa_cons (pv 11) pa_nil)))))) (pw_or1 (pt_cmpR op_ne (pe_meth (pv 3) T.cls T.mSay GS hr6 bS .nil passL (pa_cons pe_str pa_nil)) (pe_join pe_str (pe_slice sl_list (pv 1) po_none (po_some pe_int))) (nomark _))))) (pss_one (ps_ret pe_bl)) pss_nil)
      (pss_one (ps_for PassesOwn.never rfl (pi_list (pe_lst (pa_cons (pe_op op_mod (pv 8) pe_int) (pa_cons (pe_op op_mod (pv 9) pe_int) pa_nil)))) (pg_name (i := 12) nd rfl (.inl rfl)) (pss_one (ps_if (pt_cmpR op_ne (pe_meth (pv 3) T.cls T.mSay GS hr6 bS .nil passL (pa_cons (pe_op op_add_str pe_str (pe_ix (r := rIxL K) ix_list (pv 1) (pv 12) (fun _ _ => rfl))) pa_nil)) (pe_ix (r := rIxL K) ix_list (pv 4) (pv 12) (fun _ _ => rfl)) (nomark _)) (pss_one (ps_ret pe_bl)) pss_nil))))))))))
      (pss_cons (ps_set (i := 13) nd rfl (.inl rfl) (pe_ix (r := rIxL K) ix_list (pv 1) pe_int (fun _ _ => rfl)))
      (pss_cons (ps_if (PW.pt (pw_or (pt_not (pt_val (pe_call GR hr7 (by rfl) gR kR bR .nil pass0 (pa_cons (pv 3) (pa_cons (pe_op op_add_str (pe_op op_add_str pe_str (pv 13)) pe_str) (pa_cons pe_str pa_nil)))))) (pw_or1 (pt_cmpR op_ne (pe_meth (pv 3) T.cls T.mSay GS hr6 bS .nil passL (pa_cons (pe_op op_add_str (pe_op op_add_str pe_str (pv 13)) pe_str) pa_nil)) pe_str (nomark _))))) (pss_one (ps_ret pe_bl)) pss_nil)
      (pss_cons (ps_if (PW.pt (pw_or (pt_cmpR op_ne (pe_meth (pv 3) T.cls T.mSay GS hr6 bS .nil passL (pa_cons (pe_op op_add_str (pe_op op_add_str pe_str (pv 13)) pe_str) pa_nil)) pe_str (nomark _)) (pw_or1 (pt_cmpR op_ne (pe_meth (pv 3) T.cls T.mSay GS hr6 bS .nil passL (pa_cons (pe_op op_add_str pe_str (pv 13)) pa_nil)) pe_str (nomark _))))) (pss_one (ps_ret pe_bl)) pss_nil)
      (pss_one (ps_ret (pe_call GR hr7 (by rfl) gR kR bR .nil pass0 (pa_cons (pv 3) (pa_cons (pe_op op_add_str pe_str (pv 13)) (pa_cons pe_str pa_nil))))))))))))))), ?_⟩
    obtain ⟨a, b, c, e, l, enm, hg⟩ := names_good (cellAt xs 0)
    refine ⟨_, rfl, sb, xs, 0, rfl, hS, by decide, _, rfl, fun H1 nb s1 hn => ?_⟩
    rw [enm] at hn
    refine ⟨_, rfl, sb, xs, 0, rfl, s1.seq hS, by decide, _, _, rfl, rfl, parted rfl, ?_⟩
    have hpr := primes_ok (cellAt xs 0 / 49)
    refine ⟨_, rfl, _, rfl, fun H2 s2 => fun d dx hd hdx hne => ?_⟩
    refine ⟨d, dx, _, rfl, upd_same, .inr ⟨primeAt (cellAt xs 0 / 49), rfl, hpr.2.2, hpr.1, fun H3 k hk hkeep hd3 hk3 => ⟨rfl, ?_⟩⟩⟩
    have s3 : Same H2 H3 := fun q o hq => by
      have n1 : q ≠ d := fun z => by rw [z, hd] at hq; cases hq
      have n2 : q ≠ dx := fun z => by rw [z, hdx] at hq; cases hq
      exact hkeep _ _ n1 (by rw [upd_ne n1, upd_ne n2]; exact hq)
    generalize hpp : primeAt (cellAt xs 0 / 49) = p at hpr hd3 ⊢
    have D3 : DeskAt K H3 d k p [] := ⟨⟨dx, hd3⟩, hk3, fun _ q => (nomatch q), by decide⟩
    have r0 := Int.emod_nonneg (cellAt xs 0 / 49) (show (9 : Int) ≠ 0 by decide)
    have r1 := Int.emod_lt_of_pos (cellAt xs 0 / 49) (show (0 : Int) < 9 by decide)
    have lr : (numT (cellAt xs 0 / 49 % 9)).length ≤ 19 := by
      obtain ⟨m, hm⟩ := Int.eq_ofNat_of_zero_le r0
      rw [hm]
      exact num_len (by omega)
    have l58 : ten58.length ≤ 100 := by decide +kernel
    have l1 : (numT (cellAt xs 0 / 49 % 9) ++ (",3," : Str)).length ≤ 30 := by
      rw [len_app]
      have : (",3," : Str).length = 3 := by decide +kernel
      omega
    have l2 : (numT (cellAt xs 0 / 49 % 9) ++ (",3," : Str) ++ ten58).length ≤ 130 := by
      rw [len_app]
      omega
    refine ⟨_, rfl, _, _, rfl, rfl, over rfl, _, rfl, log_ok r0 (by omega), _, _, rfl, rfl, ?_, _, _, rfl, rfl, ⟨by decide, by decide, by decide⟩, _, rfl, ?_, ?_⟩
    · exact add_short (show (numT (cellAt xs 0 / 49 % 9)).length ≤ 400 by omega) (by decide +kernel)
    · decide +kernel
    rw [t58_is]
    refine ⟨_, _, rfl, rfl, ?_, _, _, rfl, rfl, ?_, _, _, rfl, rfl, few_ok (by decide +kernel) (by decide) (by decide), _, _, rfl, rfl, add_short (by decide +kernel) (by decide +kernel), short rfl, fun tb htb => ?_⟩
    · exact add_short (show (numT (cellAt xs 0 / 49 % 9) ++ (",3," : Str)).length ≤ 400 by omega) (by omega)
    · exact add_short (show (numT (cellAt xs 0 / 49 % 9) ++ (",3," : Str) ++ ten58).length ≤ 400 by omega) (by decide +kernel)
    obtain ⟨H4, hH4⟩ : ∃ H4, H4 = upd H3 tb (lS (textsL (cellAt xs 0 / 49 % 9))) := ⟨_, rfl⟩
    have s4 : Same H3 H4 := by rw [hH4]; exact same_new htb
    have ht4 : H4 tb = some (lS (textsL (cellAt xs 0 / 49 % 9))) := by rw [hH4]; exact upd_same
    have eH : upd H3 tb (.lst [.str (Str.ofString (toString (cellAt xs 0 / 49 % 9)) ++ (",3," : Str) ++ ten58 ++ (",1" : Str)), .str (("1" : Str) ++ Txt.mul ",0" 7), .str ("0,0,1"), .str ("0,0")]) = H4 := hH4.symm
    rw [eH]
    clear eH hH4
    generalize hrr : cellAt xs 0 / 49 % 9 = r at ht4 r0 r1
    have hr : 0 ≤ r ∧ r < 9 := ⟨r0, r1⟩
    have L4 : LawAt K H4 sb nb tb d k p xs [a, b, c, e, l] (textsL r) [] := ⟨D3.same s4, (s2.trans (s3.trans s4)) _ _ hn, ht4, (s1.trans (s2.trans (s3.trans s4))).seq hS⟩
    refine ⟨_, rfl, 4, rfl, nb, _, rfl, SqL.of L4.hn, fun pz hpz => ?_⟩
    have ecut : cutV ([a, b, c, e, l].map V.str) none (some 4) = [a, b, c, e].map V.str := rfl
    rw [ecut]
    refine (⟨_, rfl, pz, tb, [a, b, c, e].map V.str, (textsL r).map V.str, rfl, SqL.of upd_same, SqL.of (same_new hpz _ _ L4.ht), ?_⟩)
    have L4z : LawAt K (upd H4 pz (lS [a, b, c, e])) sb nb tb d k p xs [a, b, c, e, l] (textsL r) [] := L4.same (same_new hpz)
    rw [show ((((L2.start nmLaw [.ref sb]).set 1 (some (.ref nb))).set 2 (some (.int (cellAt xs 0 / 49)))).set 3 (some (.ref d))).set 4 (some (.ref tb)) = [some (.ref sb), some (.ref nb), some (.int (cellAt xs 0 / 49)), some (.ref d), some (.ref tb), none, none, none, none, none, none, none, none, none] from rfl]
    refine RZ.for_zipL (K := K) (a := pz) (b := tb) (xs := [a, b, c, e].map V.str) (ys := (textsL r).map V.str) (Eq.trans (show ([a, b, c, e].map V.str).length = 4 from rfl) (show 4 = ((textsL r).map V.str).length from rfl)) (fun i σ H' => ∃ kept v5 v6, σ = [some (.ref sb), some (.ref nb), some (.int (cellAt xs 0 / 49)), some (.ref d), some (.ref tb), v5, v6, none, none, none, none, none, none, none] ∧
      LawAt K H' sb nb tb d k p xs [a, b, c, e, l] (textsL r) kept ∧ planOf kept = (plan4 a b c e r).take i ∧ H' pz = some (lS [a, b, c, e])) ⟨[], none, none, rfl, L4z, rfl, upd_same⟩ (fun i σ H' q => by
        obtain ⟨kept, v5, v6, _, L, _, hz⟩ := q
        exact ⟨SqL.of hz, SqL.of L.ht⟩) ?_ ?_
    · rintro i x y Tp σ H' hx hy ⟨kept, v5, v6, rfl, L, hpl, hz⟩ hTp
      have hi : i < 4 := (List.getElem?_eq_some_iff.mp hx).1
      obtain ⟨z, t, ns, g1, g2, g3, hz1, ht1, hp1, hp2, _⟩ := ent_at hg hr hi
      rw [List.getElem?_map, g2] at hx
      rw [List.getElem?_map, g3] at hy
      obtain rfl := Option.some.inj hx
      obtain rfl := Option.some.inj hy
      have L1 := L.same (same_new (o := .tup [.str z, .str t]) hTp)
      obtain ⟨dx1, hd1⟩ := L1.fld
      have hkl : kept.length ≤ 50 := by
        have q := congrArg List.length hpl
        unfold planOf at q
        rw [List.length_map, List.length_take] at q
        omega
      have hnone : lk kept z = none := by rw [lk_plan, hpl]; exact hp2
      have lz := hz1.2.1
      have lt := ht1.cl.2
      have b1 : (("poly " : Str) ++ z).length ≤ 20 := by
        rw [len_app]
        have : ("poly " : Str).length = 5 := by decide +kernel
        omega
      have b2 : (("poly " : Str) ++ z ++ (" " : Str)).length ≤ 30 := by
        rw [len_app]
        have : (" " : Str).length = 1 := by decide +kernel
        omega
      refine ⟨Tp, _, rfl, SqT.of upd_same, rfl, _, _, rfl, _, _, rfl, rfl, ?_⟩
      refine ⟨_, rfl, d, _, _, rfl, hd1, dF_no p k (by decide +kernel) (by decide +kernel), _, rfl, _, _, rfl, rfl, add_short (by decide +kernel) (by omega), _, _, rfl, rfl, add_short (Nat.le_trans b1 (by decide)) (by decide +kernel), _, rfl, _, _, rfl, rfl, add_short (Nat.le_trans b2 (by decide)) (by omega),
        say_poly L1.D hpr.2 hz1 ht1 hnone (join3' (by decide +kernel)) fun H2 a2 k1 k2 k3 => ?_⟩
      have L2 := L1.but k1 (L1.D.put hkl k1 k2 k3)
      have hpl2 : planOf (kept ++ [(z, a2, ns)]) = (plan4 a b c e r).take (i + 1) := by rw [plan_put, hpl, hp1]
      obtain ⟨dx2, hd2⟩ := L2.fld
      have hsome : lk (kept ++ [(z, a2, ns)]) z = some ns := by
        rw [lk_plan, plan_put]
        exact kn_snoc (by rw [hpl]; exact hp2)
      have hz2 : H2 pz = some (lS [a, b, c, e]) := k1 _ _ (fun q => by
        have w := L1.D.dic
        rw [← q, same_new (o := .tup [.str z, .str t]) hTp _ _ hz] at w
        cases w) (same_new (o := .tup [.str z, .str t]) hTp _ _ hz)
      refine ⟨rfl, _, rfl, neF ⟨_, rfl, d, _, _, rfl, hd2, dF_no p k (by decide +kernel) (by decide +kernel), _, rfl, _, _, rfl, rfl, add_short (by decide +kernel) (by omega), say_show L2.D hpr.2 hz1 ht1 hsome (join2 (by decide +kernel)) fun H5 s5 => ⟨_, rfl, rfl, _, rfl, neF ?_⟩⟩⟩
      exact ⟨_, _, _, rfl, L2.same s5, hpl2, s5 _ _ hz2⟩
    rintro σ H5 ⟨kept, v5, v6, rfl, L5, hpl, _⟩
    have hpl5 : planOf kept = plan4 a b c e r := hpl
    clear hpl L4z L4 hpz
    have N5 := knows_of (l := l) hg hpl5
    have nmall := good_nm hg
    refine ⟨_, rfl, sb, _, rfl, .inl L5.hs, _, _, rfl, _, _, rfl, ?_⟩
    rw [List.length_map]
    obtain ⟨M, hM, hM4, hM59⟩ : ∃ M : Int, M = (if (if (59 : Int) < (xs.length : Int) then (59 : Int) else (xs.length : Int)) > 4 then (if (59 : Int) < (xs.length : Int) then (59 : Int) else (xs.length : Int)) else 4) ∧ 4 ≤ M ∧ M ≤ 59 := by
      refine ⟨_, rfl, ?_, ?_⟩
      · split <;> split <;> omega
      · split <;> split <;> omega
    rw [← hM]
    refine ⟨1, M, rfl, ⟨by decide, by decide, by omega, by omega⟩, for_range (lo := 1) (n := (M - 1).toNat) (fun i σ H' => ∃ kept v5 v6 v7 v8 v9 v10 v11 v12, σ = [some (.ref sb), some (.ref nb), some (.int (cellAt xs 0 / 49)), some (.ref d), some (.ref tb), v5, v6, v7, v8, v9, v10, v11, v12, none] ∧
      LawAt K H' sb nb tb d k p xs [a, b, c, e, l] (textsL r) kept ∧ planOf kept = plan4 a b c e r) ⟨kept, v5, v6, none, none, none, none, none, none, rfl, L5, hpl5⟩ ?_ ?_⟩
    · rintro i σ H6 hi ⟨kept, v5, v6, v7, v8, v9, v10, v11, v12, rfl, L, hpl⟩
      have N := knows_of (l := l) hg hpl
      have hi2 : 1 + i < 1000 := by omega
      have ei : (1 : Int) + (i : Int) = ((1 + i : Nat) : Int) := by omega
      show gName 7 (.int (1 + (i : Int))) _ _ _
      rw [ei]
      refine ⟨_, rfl, _, rfl, sb, xs, 1 + i, rfl, L.hs, hi2, _, rfl, cellAt xs (1 + i), 1 + i, rfl, hi2, ?_⟩
      obtain ⟨m0, m1⟩ := mixed_ok (cellAt xs (1 + i)) (1 + i)
      generalize mixedN (cellAt xs (1 + i)) (1 + i) = number at m0 m1 ⊢
      refine ⟨_, rfl, _, rfl, sb, xs, 1 + i, rfl, L.hs, hi2, _, rfl, fun H7 s7 => ⟨true, rfl, iteF ?_⟩⟩
      have L7 := L.same s7
      refine ⟨_, rfl, _, _, rfl, rfl, parted rfl, _, _, rfl, rfl, over rfl, ?_⟩
      have w0 := Int.emod_nonneg (number / 16) (show (8 : Int) ≠ 0 by decide)
      have w1 := Int.emod_lt_of_pos (number / 16) (show (0 : Int) < 8 by decide)
      obtain ⟨j, hj, hj4⟩ : ∃ j : Nat, (if (4 : Int) < number / 16 % 8 then (4 : Int) else number / 16 % 8) = (j : Int) ∧ j < 5 := by
        refine ⟨(if (4 : Int) < number / 16 % 8 then (4 : Int) else number / 16 % 8).toNat, ?_, ?_⟩
        · split <;> omega
        · split <;> omega
      have hgn : [a, b, c, e, l][j]? = some ([a, b, c, e, l].getD j "") := getD_at (by show j < 5; omega)
      have hnn := (nmall _ (List.mem_of_getElem? hgn)).1
      generalize [a, b, c, e, l].getD j "" = n at hgn hnn
      refine ⟨_, rfl, _, rfl, _, rfl, _, rfl, _, _, rfl, nb, _, (j : Int), .str n, rfl, congrArg V.int hj, SqL.of L7.hn, atI_nat (by rw [List.getElem?_map, hgn]; rfl), number, nb, a, b, c, e, l, n, rfl, L7.hn, ⟨m0, m1⟩, form_ok (form_fit N hnn _), deed_short (deed_go (p := p) N hnn hpr.2 (by omega) (by omega)), fun H8 pp v due s8 hpp hD =>
        ⟨pp, _, rfl, SqL.of hpp, rfl, _, _, rfl, _, _, rfl, rfl, ?_⟩⟩
      have L8 := L7.same s8
      obtain ⟨hdue, hR⟩ := drawn_refused (p := p) N hnn hpr.2 m0 m1 hD
      refine ⟨_, rfl, _, rfl, _, rfl, d, k, p, kept, v, due, rfl, L8.D, hpr.2, hdue, hR, fun H9 s9 => ⟨true, rfl, iteF ?_⟩⟩
      have L9 := L8.same s9
      obtain ⟨dx9, hd9⟩ := L9.fld
      refine ⟨_, rfl, d, _, _, rfl, hd9, dF_no p k (by decide +kernel) (by decide +kernel), say_names L9.D hpr.2 hg hpl fun H10 s10 => ?_⟩
      have L10 := L9.same s10
      refine ⟨⟨_, rfl⟩, _, rfl, 4, rfl, nb, _, rfl, SqL.of L10.hn, fun q hq => ?_⟩
      rw [show cutV ([a, b, c, e, l].map V.str) none (some 4) = [a, b, c, e].map V.str from rfl]
      refine ⟨blank, q, [a, b, c, e], rfl, rfl, .inl (SqL.of upd_same), Nat.le_trans (join_small (fun x hx => Nat.le_trans (nmall x (List.mem_append_left [l] hx)).1.2.1 (by decide)) (by show 4 ≤ 12; decide)) (by decide), rfl, _, rfl, neF ?_⟩
      have L11 := L10.same (same_new (o := lS [a, b, c, e]) hq)
      refine ⟨_, rfl, _, _, rfl, rfl, over rfl, _, rfl, _, _, rfl, rfl, over rfl, short rfl, fun ql hql => ?_⟩
      have L12 := L11.same (same_new (o := .lst [.int (number % 4), .int (number / 16 % 8 % 4)]) hql)
      have q0 := Int.emod_nonneg number (show (4 : Int) ≠ 0 by decide)
      have q1 := Int.emod_lt_of_pos number (show (0 : Int) < 4 by decide)
      have q2 := Int.emod_nonneg (number / 16 % 8) (show (4 : Int) ≠ 0 by decide)
      have q3 := Int.emod_lt_of_pos (number / 16 % 8) (show (0 : Int) < 4 by decide)
      obtain ⟨u1, hu1⟩ := Int.eq_ofNat_of_zero_le q0
      obtain ⟨u2, hu2⟩ := Int.eq_ofNat_of_zero_le q2
      have hql2 : upd (upd H10 q (lS [a, b, c, e])) ql (.lst [.int (number % 4), .int (number / 16 % 8 % 4)]) ql = some (.lst [.int (number % 4), .int (number / 16 % 8 % 4)]) := upd_same
      refine ⟨ql, rfl, ⟨_, SqL.of upd_same⟩, for_list (K := K) (a := ql) (xs := [.int (number % 4), .int (number / 16 % 8 % 4)]) (fun i' σ H' => ∃ v12, σ = [some (.ref sb), some (.ref nb), some (.int (cellAt xs 0 / 49)), some (.ref d), some (.ref tb), v5, v6, some (.int ((1 + i : Nat) : Int)), some (.int number), some (.int (number / 16 % 8)), some v, some (.str due), v12, none] ∧
        LawAt K H' sb nb tb d k p xs [a, b, c, e, l] (textsL r) kept ∧ H' ql = some (.lst [.int (number % 4), .int (number / 16 % 8 % 4)])) ⟨v12, rfl, L12, hql2⟩ (fun i2 σ H2 _ q2 => by obtain ⟨_, _, _, q2⟩ := q2; exact SqL.of q2) ?_ ?_⟩
      · rintro i2 x σ H13 hx ⟨v12', rfl, L13, hql3⟩
        obtain ⟨j2, hj2, rfl⟩ : ∃ j2 : Nat, j2 < 4 ∧ x = .int (j2 : Int) := by
          match i2, hx with
          | 0, hx => exact ⟨u1, by omega, by rw [← Option.some.inj hx, hu1]⟩
          | 1, hx => exact ⟨u2, by omega, by rw [← Option.some.inj hx, hu2]⟩
          | n + 2, hx => simp at hx
        obtain ⟨z, t, ns, g1, _, g3, hz1, ht1, _, _, hkn⟩ := ent_at hg hr hj2
        have hsome : lk kept z = some ns := by rw [lk_plan, hpl]; exact hkn
        obtain ⟨dx13, hd13⟩ := L13.fld
        have lz := hz1.2.1
        refine ⟨_, rfl, d, _, _, rfl, hd13, dF_no p k (by decide +kernel) (by decide +kernel), _, rfl, _, rfl, nb, _, (j2 : Int), .str z, rfl, rfl, SqL.of L13.hn, atI_nat (by rw [List.getElem?_map, g1]; rfl), _, _, rfl, rfl, add_short (by decide +kernel) (by omega), say_show L13.D hpr.2 hz1 ht1 hsome (join2 (by decide +kernel)) fun H14 s14 => ?_⟩
        have L14 := L13.same s14
        refine ⟨_, rfl, _, rfl, tb, _, (j2 : Int), .str t, rfl, rfl, SqL.of L14.ht, atI_nat (by rw [List.getElem?_map, g3]; rfl), rfl, _, rfl, neF ?_⟩
        exact ⟨_, rfl, L14, s14 _ _ hql3⟩
      · rintro σ H13 ⟨v12', rfl, L13, _⟩
        exact ⟨kept, _, _, _, _, _, _, _, _, rfl, L13, hpl⟩
    rintro σ H6 ⟨kept, v5, v6, v7, v8, v9, v10, v11, v12, rfl, L, hpl⟩
    have N := knows_of (l := l) hg hpl
    have hl1 := (nmall l (by simp)).1
    have hl1' : NameOk l := hl1
    have ll := hl1.2.1
    have hkl : kept.length ≤ 50 := by
      have q := congrArg List.length hpl
      unfold planOf at q
      rw [List.length_map] at q
      have q2 : (plan4 a b c e r).length = 4 := rfl
      omega
    have c1 : (("solve " : Str) ++ l).length ≤ 20 := by
      rw [len_app]
      have : ("solve " : Str).length = 6 := by decide +kernel
      omega
    have c2 : (("poly " : Str) ++ l).length ≤ 20 := by
      rw [len_app]
      have : ("poly " : Str).length = 5 := by decide +kernel
      omega
    refine ⟨_, rfl, nb, _, 4, .str l, rfl, rfl, SqL.of L.hn, atI_nat (j := 4) rfl, ?_⟩
    refine ⟨_, rfl, _, rfl, _, _, rfl, rfl, add_short (by decide +kernel) (by omega), _, _, rfl, rfl, add_short (Nat.le_trans c1 (by decide)) (by decide +kernel), d, k, p, kept, _, "NoName", rfl, L.D, hpr.2, by decide +kernel, ref_solve hl1' N.nl (join3 (by decide +kernel) (by decide +kernel)), fun H7 s7 => ⟨true, rfl, iteF ?_⟩⟩
    have L7 := L.same s7
    obtain ⟨dx7, hd7⟩ := L7.fld
    refine ⟨_, rfl, d, _, _, rfl, hd7, dF_no p k (by decide +kernel) (by decide +kernel), _, rfl, _, _, rfl, rfl, add_short (by decide +kernel) (by omega), _, _, rfl, rfl, add_short (Nat.le_trans c2 (by decide)) (by decide +kernel), say_poly L7.D hpr.2 hl1' (text_of text5_ok) N.nl (join3 (by decide +kernel) (by decide +kernel)) fun H8 a8 k1 k2 k3 => ⟨rfl, _, rfl, neF ?_⟩⟩
    have L8 := L7.but k1 (L7.D.put hkl k1 k2 k3)
    have hsome : lk (kept ++ [(l, a8, [5])]) l = some [5] := by
      rw [lk_plan, plan_put]
      exact kn_snoc (by rw [← lk_plan]; exact N.nl)
    obtain ⟨dx8, hd8⟩ := L8.fld
    refine ⟨_, rfl, d, _, _, rfl, hd8, dF_no p k (by decide +kernel) (by decide +kernel), _, rfl, _, _, rfl, rfl, add_short (by decide +kernel) (by omega), _, _, rfl, rfl, add_short (Nat.le_trans c1 (by decide)) (by decide +kernel), say_solve L8.D hpr.2 hl1' hsome (join3 (by decide +kernel) (by decide +kernel)) fun H9 s9 => ⟨rfl, _, rfl, neF ?_⟩⟩
    have L9 := L8.same s9
    obtain ⟨dx9, hd9⟩ := L9.fld
    refine ⟨_, rfl, d, _, _, rfl, hd9, dF_no p k (by decide +kernel) (by decide +kernel), _, rfl, _, _, rfl, rfl, add_short (by decide +kernel) (by omega), say_drop L9.D hpr.2 hl1' hsome (join2 (by decide +kernel)) fun H10 k1 k2 => ⟨rfl, _, rfl, neF ?_⟩⟩
    have D10 := L9.D.drop k1 k2
    refine ⟨_, rfl, _, rfl, _, _, rfl, rfl, add_short (by decide +kernel) (by omega), d, k, p, _, _, "NoName", rfl, D10, hpr.2, by decide +kernel, ref_show hl1' (drop_none _ _) (join2 (by decide +kernel)), fun H11 s11 => h _⟩
end
end Dr

set_option maxHeartbeats 0
namespace Dr
open PySem PySem.Spec PyProof.Rows L2
def obsX (K : PySem.W.Frag) : He.AlD := (((fa.all fun f => f.ok K) && fn.all fun d => d.ok K) && exB K, fn.map fun d => He.fnW K d.at_)
def SaysX (K : PySem.W.Frag) : Prop := obsX K = He.valD fn
def obsXG (n : Nat) (g : Addr → Option Obj) : He.AlD := obsX (He.frG g (He.asD g n))
def hookX (n : Nat) : PySem.W.Hook where
  α := He.AlD
  obs := fun s => obsXG n s.heap.get?
  val := fun _ => He.valD fn
  says := fun _ h => ∃ K : PySem.W.Frag, K.In h ∧ SaysX K
  of := fun _ _ e => ⟨_, He.frG_in, e⟩
  keeps := fun _ _ _ ⟨K, hK, c⟩ k => ⟨K, PySem.W.Frag.In.keeps hK k, c⟩
theorem obsXG_eq {n : Nat} {g : Addr → Option Obj} {s : Shared} (h : ∀ a, g a = s.heap.get? a) : obsXG n g = (hookX n).obs s := by
  have e : g = s.heap.get? := funext h
  rw [e] <;> rfl
theorem says_D {K : PySem.W.Frag} (c : SaysX K) : He.SaysD fa fn K ∧ exB K = true := by
  have e1 : (((fa.all fun f => f.ok K) && fn.all fun d => d.ok K) && exB K) = true := congrArg (fun z : He.AlD => z.1) c
  have e2 : (fn.map fun d => He.fnW K d.at_) = fn.map He.DefD.val := congrArg (fun z : He.AlD => z.2) c
  obtain ⟨e3, e4⟩ := He.ba e1
  refine ⟨?_, e4⟩
  show ((fa.all fun f => f.ok K) && fn.all fun d => d.ok K, fn.map fun d => He.fnW K d.at_) = (true, fn.map He.DefD.val)
  rw [e3, e2]
abbrev R : PySem.W.OpenRow := PySem.W.OpenLaw.row PySem.Challenge.rw_deeprests_k84_desk_refused
abbrev hk : PySem.W.Hook := hookX 5
def ob (s : PySem.W.SharedT) : He.AlD := obsXG 5 (HandSHeadRun.getT s)
theorem ob_eq (s : PySem.W.SharedT) : ob s = hk.obs s.abs := obsXG_eq (HandSHeadRun.getT_eq s)
def names : List Str := ([("RestError" : Str), ("NoDepth" : Str), ("NoInverse" : Str), ("NoBall" : Str), ("NoSingle" : Str), ("TooDeep" : Str), ("NoSmall" : Str), ("NoParts" : Str), ("NoPrime" : Str), ("NoText" : Str), ("NoName" : Str), ("NoRow" : Str), ("TooGreat" : Str), ("MOST" : Str), ("is_prime" : Str), ("taken_out" : Str), ("depth_of" : Str), ("power_of" : Str), ("inverse_of" : Str), ("ball_of" : Str), ("marks_over" : Str), ("bends_up" : Str), ("border_of" : Str), ("shared_by" : Str), ("small_fraction" : Str), ("worth_at" : Str), ("poly_product" : Str), ("slope_of" : Str), ("seen_from" : Str), ("content_of" : Str), ("by_prime" : Str), ("poly_less" : Str), ("poly_times" : Str), ("poly_parted" : Str), ("poly_turned" : Str)] : List Str) ++ ([("need_parts" : Str), ("with_more" : Str), ("parts_at" : Str), ("DEEPEST" : Str), ("single_depth" : Str), ("root_of" : Str), ("without_content" : Str), ("near_roots" : Str), ("endless_roots" : Str), ("lightened" : Str), ("leading_rests" : Str), ("balls_walked" : Str), ("made_fewer" : Str), ("solving_balls" : Str), ("solving_rests" : Str), ("MOST_FIGURES" : Str), ("MOST_NUMBERS" : Str), ("read_number" : Str), ("read_poly" : Str), ("show_poly" : Str), ("words_wanted" : Str), ("need_name" : Str), ("made_poly" : Str), ("words_or_none" : Str), ("roots_answered" : Str), ("answered" : Str), ("Desk" : Str), ("_law_cell" : Str), ("_law_prime" : Str), ("_law_whole" : Str), ("_law_mixed" : Str), ("_law_names" : Str), ("_law_form" : Str), ("_law_kinds" : Str), ("_law_bad" : Str)] : List Str) ++ ([("_law_word_due" : Str), ("_law_spoilt" : Str), ("_law_counted" : Str), ("_law_deed" : Str), ("_law_drawn" : Str), ("_law_refused" : Str), ("_law_no_desk" : Str)] : List Str)
theorem run (w : World) : HandSHeadRun.RunEq R (PySem.W.view R.prog [89]) hk ob 12000 names w := by
  intro os
  kernel_rfl
end Dr

namespace Dr
open PySem PySem.Spec PyProof.Rows L2
/-- what the law's def is, and what it keeps -/
theorem at_law {P : Program} {w : World} {K : PySem.W.Frag} {h : Heap} {mg : Str → Option Value} {f : Addr} (X : K.In h) (G : h.Ns mainGlobals mg) (hf : mg ("law" : Str) = some (.ref f)) (c : SaysX K) :
    ∃ fd : FuncData, (∀ (s : Shared) (v : Value), BindsTo s fd ⟨[v], []⟩ [("script", v)]) ∧ ∀ bs : Heap, K.In bs → bs.Ns mainGlobals mg → FnOk P w K mg bs CX0 8 f fd ["script"] (spLaw K) := by
  have c2 := says_D c
  have T : TX K mg := ⟨c2.1, c2.2, fun x q => He.glo_ok X G q, fun x q => He.free_ok X G q, fun x i q => He.int_ok X G q⟩
  obtain ⟨fd, F⟩ := T.fLaw
  have e := hf.symm.trans T.gLaw
  cases e
  have bb := FunD.bindsA (ps := ["script"]) F fun _ _ _ _ _ _ us hl => match us, hl with | [_], _ => rfl
  exact ⟨fd, fun s v => bb s [v] rfl, fun bs _ _ => law_of T F⟩
end Dr
open PySem PySem.W PySem.Calls PyProof.Rows
theorem PySem.Challenge.cw_deeprests_k84_desk_refused_holds : PySem.Challenge.rw_deeprests_k84_desk_refused.Holds := by
  w_on; o_law
  refine HandSHeadRun.head_any (r := OpenLaw.row PySem.Challenge.rw_deeprests_k84_desk_refused) (q := view (OpenLaw.row PySem.Challenge.rw_deeprests_k84_desk_refused).prog [89]) (H := Dr.hk) (ob := Dr.ob) (M := 12000) (loose := Dr.names)
    (d := HandSHeadRun.topDef (OpenLaw.row PySem.Challenge.rw_deeprests_k84_desk_refused).prog 89) (kwd := []) Dr.ob_eq (by kernel_rfl) (fun s => by kernel_rfl) Dr.run (by kernel_rfl) (by kernel_rfl) (by kernel_rfl) (by rfl)
    (by first | assumption | decide +kernel) (by decide +kernel) ⟨rfl, rfl, rfl, rfl, rfl, by decide +kernel⟩ ?hw ?hc
  case hw => w_witness2
  case hc =>
    refine L2.walk_ofE (l := PySem.Challenge.rw_deeprests_k84_desk_refused) (n := 63) (k := 8) (x := "script") (CX := L2.CX0) rfl (by decide) (by kernel_rfl) ⟨rfl, by decide, by decide⟩ ?F (fun _ _ _ _ z => z)
    intro w mg fa h Y G q0
    obtain ⟨K, KX, c⟩ := Y
    have q1 : mg ("law" : PySem.Str) = some (.ref fa) := by
      have e : (HandSHeadRun.topDef (OpenLaw.row PySem.Challenge.rw_deeprests_k84_desk_refused).prog 89).name = ("law" : PySem.Str) := by kernel_rfl
      rw [← e]
      exact q0
    obtain ⟨fd, hb, hF⟩ := Dr.at_law (P := (PySem.Challenge.rw_deeprests_k84_desk_refused).prog) (w := w) KX G q1 c
    exact ⟨K, fd, Dr.spLaw K, KX, hb, fun H a ns hl _ hS => ⟨a, ns, rfl, hS, fun _ => rfl⟩, hF⟩
