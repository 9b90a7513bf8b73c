import PyProof.Rows.All
import Wide.All
import OpenK.AllK
import Wide.FinOn
import HandS.ForMost
import HandS.Conv
import HandS.NoneIn
import HandS.Style
import HandS.Exc
import HandS.ExcInit
import HandS.TryOnly
import HandS.WordsExc
import HandS.TupAny
import HandS.Walk
import HandS.Wide
import PySem.Challenge.RW_galleypapers_k64_whole_no_rule_is_broken
import KE.DataMinMax
import KE.DataFind
import KE.KDictDisplayH
import HandS.TupSets
import HandS.WordsDict
set_option Elab.async false
set_option linter.all false
set_option maxRecDepth 100000
/-! Words for this program: the text by places, calls by name, what callers ask, data in the heap. -/
namespace G
open PySem L2
def topS (i : Nat) : Stmt := PySem.Challenge.pw_galleypapers_k64_whole_no_rule_is_broken.main.body.getD i (.Pass ⟨0, 0, 0, 0⟩)
/-- a def of the module by its name, at a level, with its promise -/
def Cl (P : Program) (w : World) (K : PySem.W.Frag) (mg : Str → Option Value) (base : Heap) (CX : CXT) (x : Str) (k : Nat) (ps : List Str) (sp : Sp) : Prop :=
  ∃ (f : Addr) (fd : FuncData), mg x = some (.ref f) ∧ FnOk P w K mg base CX k f fd ps sp ∧ PySem.W.keepIn K (.ref f) = true ∧ Binds K fd ps []
/-- a method of the class at C -/
def Cm (P : Program) (w : World) (K : PySem.W.Frag) (mg : Str → Option Value) (base : Heap) (C : Addr) (m : Str) (k : Nat) (ps : List Str) (sp : Sp) : Prop :=
  Cls K C ∧ ∃ (f : Addr) (fd : FuncData), Meth K C m f ∧ FnOk P w K mg base CX0 k f fd ps sp ∧ Binds K fd ps []
section
variable {X : Cx} {CX : CXT} {k j : Nat} {C : Addr} {ps : List Str} {sp : Sp} {E : XK} {x m : Str} {p pos apos : Pos} {e o : Expr} {es : List Expr} {ta : TE} {t : TA}
theorem pe_cl (C : Cl X.prog X.w X.K X.mg X.base CX x k ps sp) (hr : Room j X.A) (hg : Gl X x) (hx : Passes CX X E) (ha : PA X (e :: es) t) (hk : k ≤ j := by decide)
    (hdb : (x == ("__debug__" : Str)) = false := by decide) (he : starEach (e :: es) X.env = (false, eval e X.env) :: starEach es X.env := by rfl) (hpl : (backTo pos (starEach es X.env)).any (·.1) = false := by rfl) :
    PE X (.Call (.Name x p) (e :: es) [] pos) (tCall sp [] E t) := by
  obtain ⟨f, fd, g, F, kp, b⟩ := C
  exact pe_call F (hr.mono hk) hg g kp b .nil hx ha hdb he hpl
theorem pe_cm {pl : Sem Bool} (M : Cm X.prog X.w X.K X.mg X.base C m k ps sp) (hr : Room j X.A) (hx : Passes CX0 X E) (he : PE X o ta) (ha : PA X (e :: es) t) (hk : k ≤ j := by decide)
    (hst : starEach (e :: es) X.env = (false, eval e X.env) :: starEach es X.env := by rfl) (hpl : (backTo pos (starEach es X.env)).any (·.1) = false := by rfl)
    (ht : eval (.Call (.Attribute o m apos) (e :: es) [] pos) X.env = (do
      let ov ← eval o X.env
      standAt apos.atName
      let (f, first) ← holding [ov] (getMethod ov m pl)
      callWith pos f first (backTo pos (starEach (e :: es) X.env)) (backToKw pos (keywordEach [] X.env))) := by rfl) :
    PE X (.Call (.Attribute o m apos) (e :: es) [] pos) (tMeth C m sp [] E ta t) := by
  obtain ⟨c, f, fd, hm, F, b⟩ := M
  exact pe_meth he c hm F (hr.mono hk) b .nil hx ha hst hpl ht
end
theorem hu64 {A : Around} {k : Nat} (hr : Room k A) : A.units + 64 < cLine := hr.units
section
open PyProof.Rows
variable {X : Cx} {a b c d : Expr} {ta tb tc td : TE} {pos : Pos}
/-- a op1 b op2 c op3 d as a test -/
def tChain3 (r r' r'' : R2) (ta tb tc td : TE) : TE := fun σ H Q => ta σ H fun x H1 => tb σ H1 fun y H2 => r x y H2 fun z H3 => ∃ k, z = .bl k ∧
  (if k = true then tc σ H3 fun w' H4 => r' y w' H4 fun z' H5 => ∃ k', z' = .bl k' ∧ (if k' = true then td σ H5 fun u' H6 => r'' w' u' H6 Q else Q (.bl false) H5) else Q (.bl false) H3)
theorem pt_chain3 {op op' op'' : CmpOp} {r r' r'' : R2} (ho : OpR X (compareOp op) r) (ho' : OpR X (compareOp op') r') (ho'' : OpR X (compareOp op'') r'') (ha : PE X a ta) (hb : PE X b tb) (hc : PE X c tc) (hd : PE X d td)
    (hm : lastMarks [op, op', op''] [b, c, d] = false := by with_unfolding_all rfl) : PT X (.Compare a [op, op', op''] [b, c, d] pos) (tTest (tChain3 r r' r'' ta tb tc td)) := by
  refine ⟨fun pins s σ H Q I h => ?_⟩
  refine isTrue_chain (thn (ha.run pins s σ H _ I h) fun v s1 ⟨x, H1, I1, r1, q1⟩ => test_link (thn (hb.run pins s1 σ H1 _ I1 q1) fun u s2 ⟨y, H2, I2, r2, q2⟩ =>
    thn (ho pins s2 σ H2 x y v u _ I2 r1 r2 q2) fun d s3 ⟨z, H3, I3, r3, k, e, q3⟩ => ?_)) hm
  subst e
  cases r3
  refine wpAny_truthy_bool ?_
  cases k with
  | false =>
    obtain ⟨k', e', q'⟩ := q3
    cases e'
    exact ite_ff ⟨H3, I3, q'⟩
  | true =>
    refine ite_tt (test_link (thn (hc.run pins s3 σ H3 _ I3 q3) fun w' s4 ⟨z', H4, I4, r4, q4⟩ => thn (ho' pins s4 σ H4 y z' u w' _ I4 r2 r4 q4) fun d' s5 ⟨z2, H5, I5, r5, k2, e2, q5⟩ => ?_))
    subst e2
    cases r5
    refine wpAny_truthy_bool ?_
    cases k2 with
    | false =>
      obtain ⟨k', e', q'⟩ := q5
      cases e'
      exact ite_ff ⟨H5, I5, q'⟩
    | true =>
      refine ite_tt (test_last (thn (hd.run pins s5 σ H5 _ I5 q5) fun w6 s6 ⟨z6, H6, I6, r6, q6⟩ => thn (ho'' pins s6 σ H6 z' z6 w' w6 _ I6 r4 r6 q6) fun d' s7 ⟨z7, H7, I7, r7, k7, e7, q7⟩ => ?_))
      subst e7
      cases r7
      exact wpAny_truthy_bool ⟨H7, I7, q7⟩
end
/-! ### what the module's names hold -/
structure Txt (mg : Str → Option Value) : Prop where
  max : mg "max" = none
  min : mg "min" = none
  len : mg "len" = none
  sum : mg "sum" = none
  range : mg "range" = none
  enumerate : mg "enumerate" = none
  zip : mg "zip" = none
  list : mg "list" = none
  tuple : mg "tuple" = none
  int : mg "int" = none
  all : mg "all" = none
  gFORBIDDEN : ∃ t, mg "FORBIDDEN" = some (.int 10000 t)
  gFORCED : ∃ t, mg "FORCED" = some (.int (-10000) t)
  gWORST : ∃ t, mg "WORST" = some (.int 10000 t)
theorem pe_gI {X : Cx} {x : Str} {i : Int} {pos : Pos} (hg : Gl X x) (hm : ∃ t, X.mg x = some (.int i t)) (hd : (x == ("__debug__" : Str)) = false := by decide) : PE X (.Name x pos) (tC (.int i)) := by
  obtain ⟨t, h⟩ := hm
  exact pe_glob (v := .int i) hg h ⟨t, rfl⟩ hd
/-! ### built-in calls under names of their own -/
def rLen (K : PySem.W.Frag) : List V → Hp → VK → Prop := fun xs H Q => ∃ p ys, xs = [.ref p] ∧ (SqL K H p ys ∨ SqT K H p ys) ∧ Q (.int (ys.length : Int)) H
def rMax2 : List V → Hp → VK → Prop := fun xs H Q => ∃ i j, xs = [.int i, .int j] ∧ Q (.int (if j > i then j else i)) H
def rMin2 : List V → Hp → VK → Prop := fun xs H Q => ∃ i j, xs = [.int i, .int j] ∧ Q (.int (if j < i then j else i)) H
def rInt1 : List V → Hp → VK → Prop := fun xs H Q => (∃ i, xs = [.int i] ∧ Q (.int i) H) ∨ ∃ k, xs = [.bl k] ∧ Q (.int (if k then 1 else 0)) H
def rListOf (K : PySem.W.Frag) : List V → Hp → VK → Prop := fun xs H Q => ∃ p ys, xs = [.ref p] ∧ (SqL K H p ys ∨ SqT K H p ys) ∧ ∀ l, H l = none → Q (.ref l) (upd H l (.lst ys))
theorem c_len {X : Cx} : CallR X (.builtin "len") (rLen X.K) := call_len_seq
theorem c_max2 {X : Cx} (hc : X.calm = true) : CallR X (.builtin "max") rMax2 := call_max2 hc
theorem c_min2 {X : Cx} (hc : X.calm = true) : CallR X (.builtin "min") rMin2 := call_min2 hc
theorem c_int1 {X : Cx} : CallR X (.type "int") rInt1 := call_int1
theorem c_list {X : Cx} : CallR X (.type "list") (rListOf X.K) := call_list_of
section
variable {K : PySem.W.Frag} {H : Hp} {Q : VK} {p : Addr} {xs : List V} {i j : Int} {k : Bool} {t : Addr}
theorem s_lenL (h : SqL K H p xs) (q : Q (.int xs.length) H) : rLen K [.ref p] H Q := ⟨p, xs, rfl, .inl h, q⟩
theorem s_lenT (h : SqT K H p xs) (q : Q (.int xs.length) H) : rLen K [.ref p] H Q := ⟨p, xs, rfl, .inr h, q⟩
theorem s_max2 (q : Q (.int (if j > i then j else i)) H) : rMax2 [.int i, .int j] H Q := ⟨i, j, rfl, q⟩
theorem s_min2 (q : Q (.int (if j < i then j else i)) H) : rMin2 [.int i, .int j] H Q := ⟨i, j, rfl, q⟩
theorem s_intI (q : Q (.int i) H) : rInt1 [.int i] H Q := .inl ⟨i, rfl, q⟩
theorem s_intB (q : Q (.int (if k then 1 else 0)) H) : rInt1 [.bl k] H Q := .inr ⟨k, rfl, q⟩
theorem s_listL (h : SqL K H p xs) (q : ∀ l, H l = none → Q (.ref l) (upd H l (.lst xs))) : rListOf K [.ref p] H Q := ⟨p, xs, rfl, .inl h, q⟩
theorem s_listT (h : SqT K H p xs) (q : ∀ l, H l = none → Q (.ref l) (upd H l (.lst xs))) : rListOf K [.ref p] H Q := ⟨p, xs, rfl, .inr h, q⟩
end
/-- two statements, with a word of one's own between them -/
def tCut (t u : TS) : TS := fun D σ H => ∃ Mid : L2.St → Hp → Prop, t { D with nx := Mid } σ H ∧ ∀ σ' H', Mid σ' H' → u D σ' H'
theorem pss_cut {X : Cx} {st : Stmt} {rest : List Stmt} {t u : TS} (h1 : PS X st t) (h2 : PSs X rest u) : PSs X (st :: rest) (tCut t u) := by
  refine ⟨fun pins s σ H D I h => ?_⟩
  obtain ⟨Mid, hm, hu⟩ := h
  refine wpAny_execs_cons (thn (h1.run pins s σ H { D with nx := Mid } I hm) fun f s1 q => ?_)
  cases f with
  | next =>
    obtain ⟨σ', H', I', q⟩ := q
    exact h2.run pins s1 σ' H' D I' (hu σ' H' q)
  | ret v => exact q
  | brk => exact q
  | cont => exact q
end G
/-! Data: blocks, rows of the vertical list, flows; in the heap. -/
namespace G
open PySem L2
/-! ### plain data -/
inductive Kd where
  | para | item | head | row | float | page
  deriving DecidableEq
def Kd.str : Kd → Str
  | .para => "para" | .item => "item" | .head => "head" | .row => "row" | .float => "float" | .page => "page"
structure Ln where
  h : Int
  d : Int
  ns : List Int
  hy : Bool
structure Bk where
  kd : Kd
  ls : List Ln
def Kd.txt : Kd → Bool
  | .float => false | .page => false | _ => true
structure Gp where
  h : Int
  s : Int
  k : Int
inductive Gn where
  | para | item | above | below | note | float
  deriving DecidableEq
def Gn.str : Gn → Str
  | .para => "para" | .item => "item" | .above => "above" | .below => "below" | .note => "note" | .float => "float"
inductive Cn where
  | widow | orphan | hyphen | head | late
  deriving DecidableEq
def Cn.str : Cn → Str
  | .widow => "widow" | .orphan => "orphan" | .hyphen => "hyphen" | .head => "head" | .late => "late"
structure Fw where
  lead : Int
  least : Int
  gap : Gn → Gp
  cost : Cn → Int
  height : Int
  most : Int
  notes : Int
  keep : Int
inductive Rw where
  | line (b l : Nat) (h d : Int) (ns : List Int)
  | cost (c : Int)
  | gap (h s k : Int)
  | float (n : Nat)
/-! ### lists of values for lists of data -/
def Ls {α : Type} (R : V → α → Prop) (vs : List V) (as : List α) : Prop := vs.length = as.length ∧ ∀ (i : Nat) (v : V) (a : α), vs[i]? = some v → as[i]? = some a → R v a
section
variable {α : Type} {R S : V → α → Prop} {vs ws : List V} {as bs : List α} {i : Nat} {v : V} {a : α}
theorem Ls.nil : Ls R [] [] := ⟨rfl, fun i v a h => by simp at h⟩
theorem Ls.len (h : Ls R vs as) : vs.length = as.length := h.1
theorem Ls.get (h : Ls R vs as) (e : as[i]? = some a) : ∃ v, vs[i]? = some v ∧ R v a := by
  have hi : i < as.length := (List.getElem?_eq_some_iff.mp e).1
  have hv : i < vs.length := by rw [h.1]; exact hi
  exact ⟨vs[i], List.getElem?_eq_getElem hv, h.2 i _ a (List.getElem?_eq_getElem hv) e⟩
theorem Ls.getV (h : Ls R vs as) (e : vs[i]? = some v) : ∃ a, as[i]? = some a ∧ R v a := by
  have hi : i < vs.length := (List.getElem?_eq_some_iff.mp e).1
  have hv : i < as.length := by rw [← h.1]; exact hi
  exact ⟨as[i], List.getElem?_eq_getElem hv, h.2 i v _ e (List.getElem?_eq_getElem hv)⟩
theorem Ls.mono (h : Ls R vs as) (k : ∀ v a, R v a → S v a) : Ls S vs as := ⟨h.1, fun i v a e1 e2 => k _ _ (h.2 i v a e1 e2)⟩
theorem Ls.append (h : Ls R vs as) (k : Ls R ws bs) : Ls R (vs ++ ws) (as ++ bs) := by
  refine ⟨by rw [List.length_append, List.length_append, h.1, k.1], fun i v a e1 e2 => ?_⟩
  by_cases hi : i < vs.length
  · rw [List.getElem?_append_left hi] at e1
    rw [List.getElem?_append_left (by rw [← h.1]; exact hi)] at e2
    exact h.2 i v a e1 e2
  · have hi : vs.length ≤ i := Nat.le_of_not_lt hi
    rw [List.getElem?_append_right hi] at e1
    rw [List.getElem?_append_right (by rw [← h.1]; exact hi), ← h.1] at e2
    exact k.2 _ v a e1 e2
theorem Ls.one (h : R v a) : Ls R [v] [a] := ⟨rfl, fun i w b e1 e2 => by
  cases i with
  | zero => cases e1; cases e2; exact h
  | succ i => simp at e1⟩
theorem Ls.snoc (h : Ls R vs as) (k : R v a) : Ls R (vs ++ [v]) (as ++ [a]) := h.append (.one k)
theorem Ls.int {ns : List Int} : Ls (fun v (n : Int) => v = .int n) (ns.map V.int) ns := ⟨List.length_map .., fun i v a e1 e2 => by
  rw [List.getElem?_map, e2] at e1
  exact (Option.some.inj e1).symm⟩
end
/-! ### heaps -/
/-- tuples stand -/
def TSm (H H' : Hp) : Prop := ∀ b xs, Rd H b (.tup xs) → Rd H' b (.tup xs)
theorem TSm.refl (H : Hp) : TSm H H := fun _ _ h => h
theorem TSm.trans {H H1 H2 : Hp} (a : TSm H H1) (b : TSm H1 H2) : TSm H H2 := fun c xs h => b c xs (a c xs h)
theorem TSm.of {H H' : Hp} (e : Same H H') : TSm H H' := fun b xs h => by
  rcases h with h | ⟨o, h⟩
  · exact .inl (e _ _ h)
  · exact .inr ⟨o, e _ _ h⟩
/-- what is no tuple was written -/
theorem TSm.put {H : Hp} {r : Addr} {o u : HO} (h : H r = some u) (h1 : ∀ xs, u ≠ .tup xs) (h2 : ∀ ob v, u ≠ .frz ob v) : TSm H (upd H r o) := fun b xs e => by
  rcases e with e | ⟨ob, e⟩
  · exact .inl (by rw [upd_ne (ne_of e h fun z => h1 _ z.symm)]; exact e)
  · exact .inr ⟨ob, by rw [upd_ne (ne_of e h fun z => h2 _ _ z.symm)]; exact e⟩
theorem TSm.lst {H : Hp} {r : Addr} {o : HO} {xs : List V} (h : H r = some (.lst xs)) : TSm H (upd H r o) := TSm.put h (fun _ z => by cases z) fun _ _ z => by cases z
theorem TSm.new {H : Hp} {r : Addr} {o : HO} (h : H r = none) : TSm H (upd H r o) := fun b xs e => by
  rcases e with e | ⟨ob, e⟩
  · exact .inl (by rw [upd_ne (ne_of_none e h)]; exact e)
  · exact .inr ⟨ob, by rw [upd_ne (ne_of_none e h)]; exact e⟩
theorem Same.new {H : Hp} {r : Addr} {o : HO} (h : H r = none) : Same H (upd H r o) := fun b u e => by
  rw [upd_ne (ne_of_none e h)]
  exact e
theorem _root_.L2.Same.put {H H' : Hp} {r : Addr} {o : HO} (s : Same H H') (h : H r = none) : Same H (upd H' r o) := fun b u e => by
  rw [upd_ne (ne_of_none e h)]
  exact s b u e
section
variable {K : PySem.W.Frag} {H H' : Hp} {a : Addr} {xs : List V}
theorem TSm.seq (t : TSm H H') (h : SqT K H a xs) : SqT K H' a xs := by
  rcases h with h | h
  · exact .inl (t _ _ h)
  · exact .inr h
theorem sqT (e : Same H H') (h : SqT K H a xs) : SqT K H' a xs := (TSm.of e).seq h
theorem sqL (e : Same H H') (h : SqL K H a xs) : SqL K H' a xs := e.seq h
end
/-! ### data in the heap -/
def IsT (K : PySem.W.Frag) (H : Hp) (v : V) (xs : List V) : Prop := ∃ t, v = .ref t ∧ SqT K H t xs
def NsAt (K : PySem.W.Frag) (H : Hp) (v : V) (ns : List Int) : Prop := IsT K H v (ns.map V.int)
def LnAt (K : PySem.W.Frag) (H : Hp) (v : V) (l : Ln) : Prop := ∃ n, IsT K H v [.int l.h, .int l.d, n, .bl l.hy] ∧ NsAt K H n l.ns
def LsAt (K : PySem.W.Frag) (H : Hp) (v : V) (ls : List Ln) : Prop := ∃ p vs, v = .ref p ∧ SqL K H p vs ∧ Ls (LnAt K H) vs ls
def BkAt (K : PySem.W.Frag) (H : Hp) (v : V) (b : Bk) : Prop := (b.kd.txt = true → ∃ q, IsT K H v [.str b.kd.str, q] ∧ LsAt K H q b.ls) ∧ (b.kd.txt = false → IsT K H v [.str b.kd.str])
def GpAt (K : PySem.W.Frag) (H : Hp) (v : V) (g : Gp) : Prop := IsT K H v [.int g.h, .int g.s, .int g.k]
def RwAt (K : PySem.W.Frag) (H : Hp) (v : V) : Rw → Prop
  | .line b l h d ns => ∃ n, IsT K H v [.str "line", .int b, .int l, .int h, .int d, n] ∧ NsAt K H n ns
  | .cost c => IsT K H v [.str "cost", .int c]
  | .gap h s k => IsT K H v [.str "gap", .int h, .int s, .int k]
  | .float n => IsT K H v [.str "float", .int n]
structure FwAt (K : PySem.W.Frag) (H : Hp) (v : V) (F : Fw) (g c : Addr) : Prop where
  tup : IsT K H v [.str "flow", .int F.lead, .int F.least, .ref g, .ref c, .int F.height, .int F.most, .int F.notes, .int F.keep]
  gap : ∀ n : Gn, ∃ u, DGet H g (.str n.str) (some u) ∧ GpAt K H u (F.gap n)
  cost : ∀ n : Cn, DGet H c (.str n.str) (some (.int (F.cost n)))
section
variable {K : PySem.W.Frag} {H H' : Hp} {v : V} {xs : List V} {ns : List Int}
theorem IsT.mono (t : TSm H H') (h : IsT K H v xs) : IsT K H' v xs := let ⟨a, e, q⟩ := h; ⟨a, e, t.seq q⟩
theorem LnAt.mono {l : Ln} (t : TSm H H') (h : LnAt K H v l) : LnAt K H' v l := let ⟨n, a, b⟩ := h; ⟨n, a.mono t, b.mono t⟩
theorem LsAt.mono {l : List Ln} (e : Same H H') (h : LsAt K H v l) : LsAt K H' v l := let ⟨p, vs, a, b, c⟩ := h; ⟨p, vs, a, e.seq b, c.mono fun _ _ z => z.mono (TSm.of e)⟩
theorem BkAt.mono {b : Bk} (e : Same H H') (h : BkAt K H v b) : BkAt K H' v b :=
  ⟨fun z => let ⟨q, a, c⟩ := h.1 z; ⟨q, a.mono (TSm.of e), c.mono e⟩, fun z => (h.2 z).mono (TSm.of e)⟩
theorem RwAt.mono {r : Rw} (t : TSm H H') (h : RwAt K H v r) : RwAt K H' v r := by
  cases r with
  | line => obtain ⟨n, a, b⟩ := h; exact ⟨n, a.mono t, b.mono t⟩
  | cost => exact IsT.mono t h
  | gap => exact IsT.mono t h
  | float => exact IsT.mono t h
theorem dget_mono {a : Addr} {y : V} {r : Option V} (e : Same H H') (h : DGet H a y r) : DGet H' a y r := by
  have rd : ∀ {u : HO}, Rd H a u → Rd H' a u := fun h => by
    rcases h with h | ⟨o, h⟩
    · exact .inl (e _ _ h)
    · exact .inr ⟨o, e _ _ h⟩
  rcases h with ⟨kvs, k, h, ey, q⟩ | ⟨kvs, k, b, h, ey, eb, q⟩
  · exact .inl ⟨kvs, k, rd h, ey, q⟩
  · exact .inr ⟨kvs, k, b, rd h, ey, e _ _ eb, q⟩
theorem FwAt.mono {F : Fw} {g c : Addr} (e : Same H H') (h : FwAt K H v F g c) : FwAt K H' v F g c :=
  ⟨h.tup.mono (TSm.of e), fun n => let ⟨u, a, b⟩ := h.gap n; ⟨u, dget_mono e a, IsT.mono (TSm.of e) b⟩, fun n => dget_mono e (h.cost n)⟩
theorem IsT.of {a : Addr} (h : H a = some (.tup xs)) : IsT K H (.ref a) xs := ⟨a, rfl, SqT.of h⟩
end
end G
/-! Steps through a reading. -/
namespace G
open PySem L2
def rDG : V → V → Hp → VK → Prop := fun x y H Q => ∃ a v, x = .ref a ∧ DGet H a y (some v) ∧ Q v H
section
variable {K : PySem.W.Frag} {σ : L2.St} {H : Hp} {Q : VK} {D : L2.Ends} {ta tb tc te : TE} {t u : TS} {r : R2} {x y v w : V} {i j : Int} {n : Nat} {xs ys : List V} {a p : Addr}
theorem s_op (h : ta σ H fun x H1 => tb σ H1 fun y H2 => r x y H2 Q) : tOp r ta tb σ H Q := h
theorem s_un {r : V → Hp → VK → Prop} (h : ta σ H fun x H1 => r x H1 Q) : tUn r ta σ H Q := h
theorem s_var {n : Nat} {v : V} (e : σ[n]? = some (some v)) (h : Q v H) : tVar n σ H Q := ⟨v, e, h⟩
theorem s_c (h : Q v H) : tC v σ H Q := h
theorem s_I0 {g : Int → Int → V} (h : Q (g i j) H) : rI0 g (.int i) (.int j) H Q := ⟨i, j, rfl, rfl, h⟩
theorem s_I {C : Int → Int → Prop} {g : Int → Int → V} (c : C i j) (h : Q (g i j) H) : rI C g (.int i) (.int j) H Q := ⟨i, j, rfl, rfl, c, h⟩
theorem s_U {g : Int → V} (h : Q (g i) H) : rU g (.int i) H Q := ⟨i, rfl, h⟩
theorem s_eqS {a b : Str} (h : Q (.bl (decide (V.str a = V.str b))) H) : rEq (.str a) (.str b) H Q := ⟨rfl, h⟩
theorem s_eqI (h : Q (.bl (decide (V.int i = V.int j))) H) : rEq (.int i) (.int j) H Q := ⟨rfl, h⟩
theorem s_neI (h : Q (.bl (!decide (V.int i = V.int j))) H) : rNe (.int i) (.int j) H Q := ⟨rfl, h⟩
theorem s_neS {a b : Str} (h : Q (.bl (!decide (V.str a = V.str b))) H) : rNe (.str a) (.str b) H Q := ⟨rfl, h⟩
theorem s_ixT (h : IsT K H x xs) (e : atI xs i = some w) (q : Q w H) : rIxT K x (.int i) H Q := by
  obtain ⟨t, rfl, z⟩ := h
  exact ⟨t, xs, i, w, rfl, rfl, z, e, q⟩
theorem s_ixL (h : SqL K H p xs) (e : atI xs i = some w) (q : Q w H) : rIxL K (.ref p) (.int i) H Q := ⟨p, xs, i, w, rfl, rfl, h, e, q⟩
theorem s_dget {td ty : TE} (h : td σ H fun x H1 => ty σ H1 fun y H2 => rDG x y H2 Q) : tDGet td ty σ H Q := h
theorem s_dgot {Q : VK} (h : DGet H a y (some v)) (q : Q v H) : rDG (.ref a) y H Q := ⟨a, v, rfl, h, q⟩
theorem s_cb {r : List V → Hp → VK → Prop} {t : TA} (h : t σ H fun vs H1 => r vs H1 Q) : tCB r t σ H Q := h
theorem s_nil {Q : List V → Hp → Prop} (h : Q [] H) : tNil σ H Q := h
theorem s_cons {Q : List V → Hp → Prop} {tr : TA} (h : ta σ H fun x H1 => tr σ H1 fun xs H2 => Q (x :: xs) H2) : tCons ta tr σ H Q := h
theorem s_test {te : TE} {Q : Bool → Hp → Prop} (h : te σ H fun x H1 => ∃ k, x = .bl k ∧ Q k H1) : tTest te σ H Q := h
theorem s_B {te : TE} {Q : Bool → Hp → Prop} (h : te σ H fun x H1 => ∃ k, x = .bl k ∧ Q k H1) : tB te σ H Q := h
theorem s_bl {Q : Bool → Prop} {b : Bool} (h : Q b) : ∃ k, V.bl b = .bl k ∧ Q k := ⟨b, rfl, h⟩
theorem s_and {t u : TT} {Q : Bool → Hp → Prop} (h : t σ H fun c H1 => if c = true then u σ H1 Q else Q false H1) : tAnd t u σ H Q := h
theorem s_or {t u : TT} {Q : Bool → Hp → Prop} (h : t σ H fun c H1 => if c = true then Q true H1 else u σ H1 Q) : tOr t u σ H Q := h
theorem s_not {t : TT} {Q : Bool → Hp → Prop} (h : t σ H fun c H1 => Q (!c) H1) : tNot t σ H Q := h
theorem s_if {t : TT} (h : t σ H fun c H1 => if c = true then ta σ H1 Q else tb σ H1 Q) : tIf t ta tb σ H Q := h
theorem s_tup {t : TA} (h : t σ H fun xs H1 => xs.length ≤ sizeLine ∧ ∀ p, H1 p = none → Q (.ref p) (upd H1 p (.tup xs))) : tTup t σ H Q := h
theorem s_lst {t : TA} (h : t σ H fun xs H1 => xs.length ≤ sizeLine ∧ ∀ p, H1 p = none → Q (.ref p) (upd H1 p (.lst xs))) : tLst t σ H Q := h
theorem s_seq (h : t { D with nx := u D } σ H) : tSeq t u D σ H := h
theorem s_next (h : D.nx σ H) : tNext D σ H := h
theorem s_ret (h : te σ H D.rt) : tRet te D σ H := h
theorem s_drop (h : te σ H fun _ H1 => D.nx σ H1) : tDrop te D σ H := h
theorem s_asg {g : TG} (h : te σ H fun x H1 => g x σ H1 D.nx) : tAsg te g D σ H := h
theorem s_gname {Q : L2.St → Hp → Prop} (h : Q (σ.set n (some v)) H) : gName n v σ H Q := h
theorem s_ifS {c : TT} (h : c σ H fun b H1 => if b = true then t D σ H1 else u D σ H1) : tIfS c t u D σ H := h
theorem s_call {sp : Sp} {dvs : List V} {E : XK} {t : TA} (h : t σ H fun vs H1 => sp (vs ++ dvs) H1 Q E) : tCall sp dvs E t σ H Q := h
theorem s_brk (h : D.bk σ H) : tBreak D σ H := h
theorem s_cont (h : D.ct σ H) : tCont D σ H := h
end
section
variable {K : PySem.W.Frag} {σ : L2.St} {H H' : Hp} {Q : VK} {x y v w : V} {xs : List V} {A B : Prop} {b : Bool}
theorem s_ifT (h : b = true) (k : A) : if b = true then A else B := by
  rw [if_pos h]
  exact k
theorem s_ifF (h : b = false) (k : B) : if b = true then A else B := by
  rw [if_neg (by rw [h]; exact Bool.false_ne_true)]
  exact k
theorem s_ifB (h1 : b = true → A) (h2 : b = false → B) : if b = true then A else B := by
  cases b with
  | true => exact h1 rfl
  | false => exact h2 rfl
theorem tnew {p : Addr} {o : HO} (hp : H p = none) (h : IsT K H v xs) : IsT K (upd H p o) v xs := h.mono (TSm.new hp)
theorem tsame (e : Same H H') (h : IsT K H v xs) : IsT K H' v xs := h.mono (TSm.of e)
theorem lnew {p a : Addr} {o : HO} (hp : H p = none) (h : SqL K H a xs) : SqL K (upd H p o) a xs := (Same.new hp).seq h
theorem s_inT {p : Addr} (h : SqT K H p xs) (hx : flatV x = true) (hf : xs.all flatV = true) (q : Q (.bl (inV x xs)) H) : rIn K false x (.ref p) H Q := ⟨p, xs, rfl, .inr h, hx, hf, q⟩
theorem s_inL {p : Addr} (h : SqL K H p xs) (hx : flatV x = true) (hf : xs.all flatV = true) (q : Q (.bl (inV x xs)) H) : rIn K false x (.ref p) H Q := ⟨p, xs, rfl, .inl h, hx, hf, q⟩
theorem s_ninL {p : Addr} (h : SqL K H p xs) (hx : flatV x = true) (hf : xs.all flatV = true) (q : Q (.bl (!inV x xs)) H) : rIn K true x (.ref p) H Q := ⟨p, xs, rfl, .inl h, hx, hf, q⟩
theorem s_tup2 {t : TA} (h : t σ H fun xs H1 => xs.length ≤ 1000 ∧ ∀ p, H1 p = none → Q (.ref p) (upd H1 p (.tup xs))) (mono : ∀ Q Q' : List V → Hp → Prop, (∀ a b, Q a b → Q' a b) → t σ H Q → t σ H Q') : tTup t σ H Q :=
  mono _ _ (fun _ _ z => ⟨Nat.le_trans z.1 (by decide), z.2⟩) h
theorem s_gtup {t : TGs} {n : Nat} {Q : L2.St → Hp → Prop} (h : IsT K H v xs) (hn : xs.length = n) (q : t xs σ H Q) : gTup K n t v σ H Q := by
  obtain ⟨p, rfl, z⟩ := h
  exact ⟨p, xs, rfl, z, hn, q⟩
theorem s_gunl {t : TGs} {n : Nat} {p : Addr} {Q : L2.St → Hp → Prop} (h : SqL K H p xs) (hn : xs.length = n) (q : t xs σ H Q) : gUnl K n t (.ref p) σ H Q := ⟨p, xs, rfl, h, hn, q⟩
theorem s_len {xs : List V} {B : Prop} (h : Nat.ble xs.length 100 = true) (k : B) : xs.length ≤ sizeLine ∧ B := ⟨Nat.le_trans (Nat.le_of_ble_eq_true h) (by decide), k⟩
theorem s_cut {t u : TS} {D : L2.Ends} (Mid : L2.St → Hp → Prop) (h1 : t { D with nx := Mid } σ H) (h2 : ∀ σ' H', Mid σ' H' → u D σ' H') : tCut t u D σ H := ⟨Mid, h1, h2⟩
theorem s_forE {g : TG} {tb : L2.TS} {ta : TA} {D : L2.Ends} (h : ta σ H fun vs H1 => ∃ a xs, vs = [.ref a] ∧ SqL K H1 a xs ∧ ∃ W : Nat → Nat → L2.St → Hp → Prop, (∃ m, W 0 m σ H1) ∧ ∀ i m σ H, W i m σ H →
      ((Ite K a).stop i H ∧ D.nx σ H) ∨ ((Ite K a).go i H ∧ ∃ N : L2.St → Hp → Prop, (∀ σ' H', N σ' H' → ∃ m', m' < m ∧ W (i + 1) m' σ' H') ∧ ∀ x H', (Ite K a).yld i H x H' → g x σ H' fun σ2 H2 => tb { D with nx := N, ct := N, bk := D.nx } σ2 H2)) : tFor (iEnum K ta) g tb D σ H := h
theorem s_forL {g : TG} {tb : L2.TS} {te : TE} {D : L2.Ends} (h : te σ H fun x H1 => ∃ a, x = .ref a ∧ (∃ xs, SqL K H1 a xs) ∧ ∃ W : Nat → Nat → L2.St → Hp → Prop, (∃ m, W 0 m σ H1) ∧ ∀ i m σ H, W i m σ H →
      ((Itl K a).stop i H ∧ D.nx σ H) ∨ ((Itl K a).go i H ∧ ∃ N : L2.St → Hp → Prop, (∀ σ' H', N σ' H' → ∃ m', m' < m ∧ W (i + 1) m' σ' H') ∧ ∀ x H', (Itl K a).yld i H x H' → g x σ H' fun σ2 H2 => tb { D with nx := N, ct := N, bk := D.nx } σ2 H2)) : tFor (iList K te) g tb D σ H := h
theorem s_forT {g : TG} {tb : L2.TS} {te : TE} {D : L2.Ends} (h : te σ H fun x H1 => ∃ a, x = .ref a ∧ (∃ xs, SqT K H1 a xs) ∧ ∃ W : Nat → Nat → L2.St → Hp → Prop, (∃ m, W 0 m σ H1) ∧ ∀ i m σ H, W i m σ H →
      ((Itt K a).stop i H ∧ D.nx σ H) ∨ ((Itt K a).go i H ∧ ∃ N : L2.St → Hp → Prop, (∀ σ' H', N σ' H' → ∃ m', m' < m ∧ W (i + 1) m' σ' H') ∧ ∀ x H', (Itt K a).yld i H x H' → g x σ H' fun σ2 H2 => tb { D with nx := N, ct := N, bk := D.nx } σ2 H2)) : tFor (iTup K te) g tb D σ H := h
theorem s_forR1 {g : TG} {tb : L2.TS} {ta : TA} {D : L2.Ends} (h : ta σ H fun vs H1 => ∃ j : Int, vs = [.int j] ∧ -(2 ^ 62) ≤ j ∧ j < 2 ^ 62 ∧ ∃ W : Nat → Nat → L2.St → Hp → Prop, (∃ m, W 0 m σ H1) ∧ ∀ i m σ H, W i m σ H →
      ((Itr 0 j.toNat).stop i H ∧ D.nx σ H) ∨ ((Itr 0 j.toNat).go i H ∧ ∃ N : L2.St → Hp → Prop, (∀ σ' H', N σ' H' → ∃ m', m' < m ∧ W (i + 1) m' σ' H') ∧ ∀ x H', (Itr 0 j.toNat).yld i H x H' → g x σ H' fun σ2 H2 => tb { D with nx := N, ct := N, bk := D.nx } σ2 H2)) : tFor (iRng1 ta) g tb D σ H := h
theorem s_forR2 {g : TG} {tb : L2.TS} {ta : TA} {D : L2.Ends} (h : ta σ H fun vs H1 => ∃ i j : Int, vs = [.int i, .int j] ∧ (-(2 ^ 62) ≤ i ∧ i < 2 ^ 62 ∧ -(2 ^ 62) ≤ j ∧ j < 2 ^ 62) ∧ ∃ W : Nat → Nat → L2.St → Hp → Prop, (∃ m, W 0 m σ H1) ∧ ∀ k m σ H, W k m σ H →
      ((Itr i (j - i).toNat).stop k H ∧ D.nx σ H) ∨ ((Itr i (j - i).toNat).go k H ∧ ∃ N : L2.St → Hp → Prop, (∀ σ' H', N σ' H' → ∃ m', m' < m ∧ W (k + 1) m' σ' H') ∧ ∀ x H', (Itr i (j - i).toNat).yld k H x H' → g x σ H' fun σ2 H2 => tb { D with nx := N, ct := N, bk := D.nx } σ2 H2)) : tFor (iRng2 ta) g tb D σ H := h
theorem s_bm {T : String} {r : V → List V → Hp → VK → Prop} {to : TE} {t : TA} {Q : VK} (h : to σ H fun x H1 => tyV K T x H1 ∧ t σ H1 fun xs H2 => r x xs H2 Q) : tBM K T r to t σ H Q := h
theorem s_tyL {r : Addr} {xs : List V} {B : Prop} (h : H r = some (.lst xs)) (k : B) : tyV K "list" (.ref r) H ∧ B := ⟨.inl ⟨rfl, _, SqL.of h⟩, k⟩
theorem s_append {r : Addr} {xs : List V} {y : V} {Q : VK} (h : H r = some (.lst xs)) (hl : xs.length < 16000000) (q : Q .non (upd H r (.lst (xs ++ [y])))) : rAppend (.ref r) [y] H Q :=
  ⟨r, xs, y, rfl, rfl, h, Nat.lt_of_lt_of_le hl (by decide), q⟩
theorem s_extend {r b : Addr} {xs zs : List V} {Q : VK} (h : H r = some (.lst xs)) (hb : H b = some (.lst zs)) (hl : xs.length + zs.length ≤ 1000000) (q : Q .non (upd H r (.lst (xs ++ zs)))) : rExtend (.ref r) [.ref b] H Q :=
  ⟨r, b, xs, zs, rfl, rfl, h, hb, Nat.le_trans hl (by decide), q⟩
theorem s_cat {r b : Addr} {xs zs : List V} {Q : VK} (h : H r = some (.lst xs)) (hb : H b = some (.lst zs)) (hl : xs.length + zs.length ≤ 1000000) (q : ∀ p, H p = none → Q (.ref p) (upd H p (.lst (xs ++ zs)))) : rCat (.ref r) (.ref b) H Q :=
  ⟨r, b, xs, zs, rfl, rfl, h, hb, Nat.le_trans hl (by decide), q⟩
theorem s_notN {ta : TE} {Q : VK} (h : ta σ H fun x H1 => Q (.bl (!decide (x = V.non))) H1) : tNotN ta σ H Q := h
theorem s_isN {ta : TE} {Q : VK} (h : ta σ H fun x H1 => Q (.bl (decide (x = V.non))) H1) : tIsN ta σ H Q := h
/-- a comprehension's loop over J, its list at D -/
def LcR (J : It) (g : TG) (tt : TT) (te : TE) (vs : List Nat) (σ : L2.St) (H1 : Hp) (D : Addr) (Q : VK) : Prop := ∃ W : Nat → Nat → Hp → Prop, (∃ m, W 0 m (upd H1 D (.lst []))) ∧ ∀ i m H, W i m H →
  (J.stop i H ∧ Q (.ref D) H) ∨ (J.go i H ∧ ∃ Nx : Hp → Prop, (∀ H', Nx H' → ∃ m', m' < m ∧ W (i + 1) m' H') ∧ ∀ x H', J.yld i H x H' → g x (wipe σ vs) H' fun σ2 H2 => wipe σ2 vs = wipe σ vs ∧ tt σ2 H2 fun b H3 =>
    if b = true then te σ2 H3 fun y H4 => ∃ acc, H4 D = some (.lst acc) ∧ acc.length < sizeLine ∧ Nx (upd H4 D (.lst (acc ++ [y]))) else Nx H3)
theorem s_lcL {tl : TE} {g : TG} {tt : TT} {te : TE} {vs : List Nat} (h : tl σ H fun x H1 => ∃ a, x = .ref a ∧ (∃ xs, SqL K H1 a xs) ∧ ∀ D, H1 D = none → LcR (Itl K a) g tt te vs σ H1 D Q) : tLc (iList K tl) g tt te vs σ H Q := h
theorem s_lcT {tl : TE} {g : TG} {tt : TT} {te : TE} {vs : List Nat} (h : tl σ H fun x H1 => ∃ a, x = .ref a ∧ (∃ xs, SqT K H1 a xs) ∧ ∀ D, H1 D = none → LcR (Itt K a) g tt te vs σ H1 D Q) : tLc (iTup K tl) g tt te vs σ H Q := h
theorem s_lcE {ta : TA} {g : TG} {tt : TT} {te : TE} {vs : List Nat} (h : ta σ H fun zs H1 => ∃ a xs, zs = [.ref a] ∧ SqL K H1 a xs ∧ ∀ D, H1 D = none → LcR (Ite K a) g tt te vs σ H1 D Q) : tLc (iEnum K ta) g tt te vs σ H Q := h
theorem s_lcZ {ta : TA} {g : TG} {tt : TT} {te : TE} {vs : List Nat} (h : ta σ H fun zs H1 => ∃ a b xs ys, zs = [.ref a, .ref b] ∧ SqL K H1 a xs ∧ SqL K H1 b ys ∧ ∀ D, H1 D = none → LcR (Itz K a b) g tt te vs σ H1 D Q) : tLc (iZip K ta) g tt te vs σ H Q := h
theorem s_lcR1 {ta : TA} {g : TG} {tt : TT} {te : TE} {vs : List Nat} (h : ta σ H fun zs H1 => ∃ j : Int, zs = [.int j] ∧ -(2 ^ 62) ≤ j ∧ j < 2 ^ 62 ∧ ∀ D, H1 D = none → LcR (Itr 0 j.toNat) g tt te vs σ H1 D Q) : tLc (iRng1 ta) g tt te vs σ H Q := h
theorem s_lcR2 {ta : TA} {g : TG} {tt : TT} {te : TE} {vs : List Nat} (h : ta σ H fun zs H1 => ∃ i j : Int, zs = [.int i, .int j] ∧ (-(2 ^ 62) ≤ i ∧ i < 2 ^ 62 ∧ -(2 ^ 62) ≤ j ∧ j < 2 ^ 62) ∧ ∀ D, H1 D = none → LcR (Itr i (j - i).toNat) g tt te vs σ H1 D Q) : tLc (iRng2 ta) g tt te vs σ H Q := h
theorem s_yes {Q : Bool → Hp → Prop} (h : Q true H) : tYes σ H Q := h
theorem lt1M {n : Nat} (h : n < 1000000) : n < sizeLine := Nat.lt_of_lt_of_le h (by decide)
def rFld (K : PySem.W.Frag) (f : Str) : V → Hp → VK → Prop := fun x H Q => ∃ a C dx fs v, x = .ref a ∧ H a = some (.ins C dx fs) ∧ Cls K C ∧ NoAttr K C f ∧ fs.lookup f = some v ∧ Q v H
theorem s_fld {ta : TE} {f : Str} (h : ta σ H fun x H1 => rFld K f x H1 Q) : tFld K ta f σ H Q := h
theorem s_fldAt {f : Str} {C dx : Addr} {fs : List (Str × V)} (h : H a = some (.ins C dx fs)) (c : Cls K C) (n : NoAttr K C f) (l : fs.lookup f = some v) (q : Q v H) : rFld K f (.ref a) H Q := ⟨a, C, dx, fs, v, rfl, h, c, n, l, q⟩
theorem s_meth {C : Addr} {m : Str} {sp : Sp} {dvs : List V} {E : XK} {ta : TE} {t : TA} (h : ta σ H fun x H1 => ∃ a dx fs, x = .ref a ∧ H1 a = some (.ins C dx fs) ∧ fs.lookup m = none ∧ t σ H1 fun vs H2 => sp (x :: (vs ++ dvs)) H2 Q E) : tMeth C m sp dvs E ta t σ H Q := h
theorem s_sum {p : Addr} {ns : List Int} (h : SqL K H p (ns.map V.int)) (q : Q (.int ns.sum) H) : rSum K [.ref p] H Q := ⟨p, ns, rfl, h, q⟩
theorem s_all {p : Addr} {bs : List Bool} (h : SqL K H p (bs.map V.bl)) (q : Q (.bl (bs.all id)) H) : rAll K [.ref p] H Q := ⟨p, bs, rfl, h, q⟩
theorem s_andV {ta tb : TE} (h : ta σ H fun x H1 => ∃ c, x = .bl c ∧ if c = true then tb σ H1 Q else Q (.bl false) H1) : tAndV ta tb σ H Q := h
theorem s_orV {ta tb : TE} (h : ta σ H fun x H1 => ∃ c, x = .bl c ∧ if c = true then Q (.bl true) H1 else tb σ H1 Q) : tOrV ta tb σ H Q := h
theorem s_setL {p : Addr} {xs : List V} {j : Int} {k : Nat} {v : V} {Q : Hp → Prop} (h : H p = some (.lst xs)) (e : ixN xs.length j = some k) (q : Q (upd H p (.lst (xs.set k v)))) : rSetL (.ref p) (.int j) v H Q := ⟨p, xs, j, k, rfl, rfl, h, e, q⟩
theorem s_gsub {to ti : TE} {t : TSet} {Q : L2.St → Hp → Prop} (h : to σ H fun o H1 => ti σ H1 fun i H2 => t o i v H2 fun H3 => Q σ H3) : gSub to ti t v σ H Q := h
theorem s_chain {r r' : R2} {ta tb tc : TE} (h : ta σ H fun x H1 => tb σ H1 fun y H2 => r x y H2 fun z H3 => ∃ k, z = .bl k ∧ (if k = true then tc σ H3 fun w' H4 => r' y w' H4 Q else Q (.bl false) H3)) : tChain r r' ta tb tc σ H Q := h
theorem s_chain3 {r r' r'' : R2} {ta tb tc td : TE} (h : ta σ H fun x H1 => tb σ H1 fun y H2 => r x y H2 fun z H3 => ∃ k, z = .bl k ∧
  (if k = true then tc σ H3 fun w' H4 => r' y w' H4 fun z' H5 => ∃ k', z' = .bl k' ∧ (if k' = true then td σ H5 fun u' H6 => r'' w' u' H6 Q else Q (.bl false) H5) else Q (.bl false) H3)) : tChain3 r r' r'' ta tb tc td σ H Q := h
theorem s_sl {r : V → Option Int → Option Int → Hp → VK → Prop} {te : TE} {tl th : TO} (h : te σ H fun x H1 => tl σ H1 fun l H2 => th σ H2 fun u H3 => r x l u H3 Q) : tSl r te tl th σ H Q := h
theorem s_part {t : TE} {Q : Option Int → Hp → Prop} (h : t σ H fun x H1 => ∃ i, x = .int i ∧ Q (some i) H1) : tPart t σ H Q := h
theorem s_noPart {Q : Option Int → Hp → Prop} (h : Q none H) : tNoPart σ H Q := h
theorem s_exI {P : Int → Prop} {i : Int} (h : P i) : ∃ i', V.int i = V.int i' ∧ P i' := ⟨i, rfl, h⟩
theorem s_slL {a : Addr} {lo hi : Option Int} (h : SqL K H a xs) (q : ∀ p, H p = none → Q (.ref p) (upd H p (.lst (cutV xs lo hi)))) : rSlL K (.ref a) lo hi H Q := ⟨a, xs, rfl, h, q⟩
theorem s_gcons {t : TG} {u : TGs} {Q : L2.St → Hp → Prop} (h : t v σ H fun σ' H' => u xs σ' H' Q) : gCons t u (v :: xs) σ H Q := ⟨v, xs, rfl, h⟩
theorem s_gnil {Q : L2.St → Hp → Prop} (h : Q σ H) : gNil [] σ H Q := ⟨rfl, h⟩
theorem atI_last {xs : List V} {v : V} (h : xs[xs.length - 1]? = some v) : atI xs (-1) = some v := by
  have hl : 0 < xs.length := by
    have := (List.getElem?_eq_some_iff.mp h).1
    omega
  have e : ixN xs.length (-1) = some (xs.length - 1) := by
    unfold ixN
    rw [if_neg (by omega), if_pos (by omega)]
    congr 1
    omega
  unfold atI
  rw [e]
  exact h
end
/-- goes on through a reading as far as it decides itself -/
local macro_rules | `(tactic| walk_at "fact") => `(tactic| first | assumption | ((refine tnew ?_ ?_); assumption; (first | assumption | ((refine tnew ?_ ?_); assumption; (first | assumption | ((refine tnew ?_ ?_); assumption; assumption))))) | ((refine tsame ?_ ?_); assumption; assumption))
local macro_rules | `(tactic| walk_at "go1") => `(tactic| first
  | with_reducible refine s_op ?_ | ((with_reducible refine s_var (v := ?v) ?e ?_); (case e => rfl)) | with_reducible refine s_c ?_
  | with_reducible refine s_cb ?_ | with_reducible refine s_cons ?_ | with_reducible refine s_nil ?_ | with_reducible refine s_ret ?_ | with_reducible refine s_asg ?_ | with_reducible refine s_gname ?_
  | with_reducible refine s_ifS ?_ | with_reducible refine s_test ?_ | with_reducible refine s_B ?_ | with_reducible refine s_bl ?_ | with_reducible refine s_and ?_ | with_reducible refine s_or ?_ | with_reducible refine s_not ?_ | with_reducible refine s_if ?_
  | with_reducible refine s_un ?_ | with_reducible refine s_U ?_ | with_reducible refine s_drop ?_ | with_reducible refine s_next ?_ | with_reducible refine s_tup ?_ | with_reducible refine s_lst ?_ | with_reducible refine s_call ?_ | with_reducible refine s_dget ?_
  | ((with_reducible refine s_len ?h ?_); (case h => rfl)) | with_reducible refine s_notN ?_ | with_reducible refine s_isN ?_ | with_reducible refine s_yes ?_ | with_reducible refine s_fld ?_ | with_reducible refine s_meth ?_ | with_reducible refine s_andV ?_ | with_reducible refine s_orV ?_ | with_reducible refine s_gsub ?_ | with_reducible refine s_chain ?_ | with_reducible refine s_chain3 ?_ | with_reducible refine s_sl ?_ | with_reducible refine s_part ?_ | with_reducible refine s_noPart ?_ | with_reducible refine s_exI ?_ | with_reducible refine s_bm ?_ | ((with_reducible refine s_tyL (xs := ?xs) ?h ?_); (case h => assumption)) | with_reducible refine s_gcons ?_ | with_reducible refine s_gnil ?_ | with_reducible refine s_brk ?_ | with_reducible refine s_cont ?_
  | ((with_reducible refine s_ixT (xs := ?xs) (w := ?w) ?h ?e ?_); (case h => walk_at "fact"); (case e => rfl))
  | with_reducible refine s_max2 ?_ | with_reducible refine s_min2 ?_ | with_reducible refine s_intI ?_ | with_reducible refine s_intB ?_ | with_reducible refine s_I0 ?_ | with_reducible refine s_eqI ?_ | with_reducible refine s_eqS ?_ | with_reducible refine s_neI ?_)
local macro_rules | `(tactic| walk_at "go") => `(tactic| repeat walk_at "go1")
/-- the next statement -/
local macro_rules | `(tactic| walk_at "st") => `(tactic| (walk_at "go"; (with_reducible refine s_seq ?_); walk_at "go"))
/-- the next statement, cut off by a word -/
local macro_rules | `(tactic| walk_at "cut") => `(tactic| with_reducible refine s_cut ?_ ?_ ?_)
/-! ### texts of kinds -/
theorem kd_head (k : Kd) : decide (V.str k.str = V.str "head") = decide (k = .head) := by cases k <;> decide +kernel
theorem kd_page (k : Kd) : decide (V.str k.str = V.str "page") = decide (k = .page) := by cases k <;> decide +kernel
theorem kd_float (k : Kd) : decide (V.str k.str = V.str "float") = decide (k = .float) := by cases k <;> decide +kernel
theorem kd_para (k : Kd) : decide (V.str k.str = V.str "para") = decide (k = .para) := by cases k <;> decide +kernel
theorem kd_kd (k l : Kd) : decide (V.str k.str = V.str l.str) = decide (k = l) := by cases k <;> cases l <;> decide +kernel
theorem kd_headrow (k : Kd) : inV (V.str k.str) [V.str "head", V.str "row"] = (decide (k = .head) || decide (k = .row)) := by cases k <;> decide +kernel
theorem kd_itemrow (k : Kd) : inV (V.str k.str) [V.str "item", V.str "row"] = (decide (k = .item) || decide (k = .row)) := by cases k <;> decide +kernel
/-! ### line_gap -/
def lineGap (F : Fw) (u l : Ln) : Int := if F.lead - u.d - l.h > F.least then F.lead - u.d - l.h else F.least
def spLineGap (K : PySem.W.Frag) : Sp := fun vs H Q _ => ∃ (vf vu vl : V) (F : Fw) (g c : Addr) (u l : Ln), vs = [vf, vu, vl] ∧ FwAt K H vf F g c ∧ LnAt K H vu u ∧ LnAt K H vl l ∧ Q (.int (lineGap F u l)) H
abbrev s_line_gap : Stmt := topS 6
theorem sc_line_gap : FnScope ["flow", "upper", "lower"] ["flow", "upper", "lower"] (defScope s_line_gap) := ⟨rfl, rfl, rfl, by decide +kernel, rfl, by decide +kernel, by decide +kernel⟩
section
variable {P : Program} {w : World} {K : PySem.W.Frag} {mg : Str → Option Value} {base : Heap}
theorem ok_line_gap {f : Addr} {fd : FuncData} (F0 : Fun K "line_gap" "line_gap" s_line_gap f fd) (T : Txt mg) : FnOk P w K mg base CX0 1 f fd ["flow", "upper", "lower"] (spLineGap K) := by
  refine F0.ok sc_line_gap (fun vs H Q E h => ?_) (fun cdv A outer s H vs Q E hr h => ?_)
  · obtain ⟨_, _, _, _, _, _, _, _, rfl, _⟩ := h
    rfl
  · obtain ⟨vf, vu, vl, F, g, c, u, l, rfl, hF, ⟨nu, hu, _⟩, ⟨nl, hl, _⟩, q⟩ := h
    refine ⟨_, (pss_one (ps_ret (pe_callB (c_max2 rfl) (by rfl) T.max (by decide +kernel) (pa_cons (pe_ix ix_tup (pv 0) pe_int (fun _ _ => rfl)) (pa_cons (pe_op op_sub (pe_op op_sub (pe_ix ix_tup (pv 0) pe_int (fun _ _ => rfl)) (pe_ix ix_tup (pv 1) pe_int (fun _ _ => rfl))) (pe_ix ix_tup (pv 2) pe_int (fun _ _ => rfl))) pa_nil))))), ?_⟩
    have hT := hF.tup
    dsimp only [cxOf, L2.Cx.nox, L2.Cx.wish]
    walk_at "go"
    exact q
/-! ### cost_within, cost_between, gap_between -/
/-- the cost of a page end behind the line at, of a block of text -/
def costWithin (F : Fw) (b : Bk) (at_ : Nat) : Int :=
  if (b.kd = .head ∨ b.kd = .row) ∨ min ((at_ : Int) + 1) ((b.ls.length : Int) - at_ - 1) < F.keep then 10000
  else (if (b.ls.getD at_ ⟨0, 0, [], false⟩).hy = true then F.cost .hyphen else 0) + (if at_ = 0 then F.cost .orphan else 0) + (if (at_ : Int) = (b.ls.length : Int) - 2 then F.cost .widow else 0)
def spCostWithin (K : PySem.W.Frag) : Sp := fun vs H Q _ => ∃ (vb vf : V) (at_ : Nat) (F : Fw) (g c : Addr) (b : Bk), vs = [vb, .int at_, vf] ∧ FwAt K H vf F g c ∧ BkAt K H vb b ∧ b.kd.txt = true ∧ at_ < b.ls.length ∧ ∀ H', Same H H' → Q (.int (costWithin F b at_)) H'
abbrev s_cost_within : Stmt := topS 7
theorem sc_cost_within : FnScope ["block", "at", "flow", "cost"] ["block", "at", "flow"] (defScope s_cost_within) := ⟨rfl, rfl, rfl, by decide +kernel, rfl, by decide +kernel, by decide +kernel⟩
theorem min_py (i j : Int) : (if j < i then j else i) = min i j := by omega
theorem ok_cost_within {f : Addr} {fd : FuncData} (F0 : Fun K "cost_within" "cost_within" s_cost_within f fd) (T : Txt mg) : FnOk P w K mg base CX0 1 f fd ["block", "at", "flow"] (spCostWithin K) := by
  refine F0.ok sc_cost_within (fun vs H Q E h => ?_) (fun cdv A outer s H vs Q E hr h => ?_)
  · obtain ⟨_, _, _, _, _, _, _, rfl, _⟩ := h
    rfl
  · obtain ⟨vb, vf, at_, F, g, c, b, rfl, hF, hB, hb, hat, q⟩ := h
    have hu := hu_of hr
    have hT := hF.tup
    obtain ⟨q1, hB1, p, vs, rfl, hL, hLs⟩ := hB.1 hb
    have hlen : vs.length = b.ls.length := hLs.len
    refine ⟨_, (pss_cons (ps_if (PW.pt (pw_or (pt_cmpR op_in_seq (pe_ix ix_tup (pv 0) pe_int (fun _ _ => rfl)) (pe_tup (pa_cons pe_str (pa_cons pe_str pa_nil))) (by rfl)) (pw_or1 (pt_cmpR op_lt (pe_callB (c_min2 rfl) (by rfl) T.min (by decide +kernel) (pa_cons (pe_op op_add (pv 1) pe_int) (pa_cons (pe_op op_sub (pe_op op_sub (pe_callB c_len (by rfl) T.len (by decide +kernel) (pa_cons (pe_ix ix_tup (pv 0) pe_int (fun _ _ => rfl)) pa_nil)) (pv 1)) pe_int) pa_nil))) (pe_ix ix_tup (pv 2) pe_int (fun _ _ => rfl)) (nomark _)))))
        (pss_one (ps_ret (pe_gI rfl T.gFORBIDDEN)))
        pss_nil)
      (pss_cut (ps_set (i := 3) sc_cost_within.nd rfl (Or.inl rfl) (pe_ifExp (pt_val (pe_ix ix_tup (pe_ix ix_list (pe_ix ix_tup (pv 0) pe_int (fun _ _ => rfl)) (pv 1) (fun _ _ => rfl)) pe_int (fun _ _ => rfl))) (pe_dget hu (pe_ix ix_tup (pv 2) pe_int (fun _ _ => rfl)) pe_str (fun _ _ => rfl)) pe_int))
      (pss_cut (ps_if (pt_cmpR op_eq (pv 1) pe_int (nomark _))
        (pss_one (ps_set (i := 3) sc_cost_within.nd rfl (Or.inl rfl) (pe_op op_add (pv 3) (pe_dget hu (pe_ix ix_tup (pv 2) pe_int (fun _ _ => rfl)) pe_str (fun _ _ => rfl)))))
        pss_nil)
      (pss_cut (ps_if (pt_cmpR op_eq (pv 1) (pe_op op_sub (pe_callB c_len (by rfl) T.len (by decide +kernel) (pa_cons (pe_ix ix_tup (pv 0) pe_int (fun _ _ => rfl)) pa_nil)) pe_int) (nomark _))
        (pss_one (ps_set (i := 3) sc_cost_within.nd rfl (Or.inl rfl) (pe_op op_add (pv 3) (pe_dget hu (pe_ix ix_tup (pv 2) pe_int (fun _ _ => rfl)) pe_str (fun _ _ => rfl)))))
        pss_nil)
      (pss_one (ps_ret (pv 3))))))), ?_⟩
    dsimp only [cxOf, L2.Cx.nox, L2.Cx.wish]
    walk_at "st"
    intro p1 hp1
    have s1 : Same H (upd H p1 (.tup [.str "head", .str "row"])) := Same.new hp1
    generalize hH1 : upd H p1 (.tup [.str "head", .str "row"]) = H1 at s1
    have ht1 : H1 p1 = some (.tup [.str "head", .str "row"]) := by rw [← hH1, upd_same]
    have hT := tsame s1 hT
    have hB1 := tsame s1 hB1
    have hL := s1.seq hL
    refine s_inT (SqT.of ht1) rfl (by rfl) ?_
    rw [kd_headrow]
    walk_at "go"
    by_cases hk : b.kd = .head ∨ b.kd = .row
    · refine s_ifT (by simpa using hk) ?_
      refine s_ifT rfl ?_
      walk_at "go"
      have e : costWithin F b at_ = 10000 := by unfold costWithin; rw [if_pos (Or.inl hk)]
      rw [← e]
      exact q _ s1
    refine s_ifF (by simpa using hk) ?_
    walk_at "go"
    refine s_lenL hL ?_
    walk_at "go"
    rw [min_py, hlen]
    by_cases hm : min ((at_ : Int) + 1) ((b.ls.length : Int) - at_ - 1) < F.keep
    · refine s_ifT (decide_eq_true hm) ?_
      walk_at "go"
      have e : costWithin F b at_ = 10000 := by unfold costWithin; rw [if_pos (Or.inr hm)]
      rw [← e]
      exact q _ s1
    refine s_ifF (decide_eq_false hm) ?_
    walk_at "go"
    obtain ⟨vl, hvl, n1, hl1, _⟩ := hLs.get (List.getElem?_eq_getElem hat)
    have hl1 := tsame s1 hl1
    have hF1 := hF.mono s1
    have eg : b.ls.getD at_ ⟨0, 0, [], false⟩ = b.ls[at_] := by
      rw [List.getD_eq_getElem?_getD, List.getElem?_eq_getElem hat]
      rfl
    have e0 : costWithin F b at_ = (if (b.ls[at_]).hy = true then F.cost .hyphen else 0) + (if at_ = 0 then F.cost .orphan else 0) + (if (at_ : Int) = (b.ls.length : Int) - 2 then F.cost .widow else 0) := by
      unfold costWithin
      rw [if_neg (by rintro (z | z); exact hk z; exact hm z), eg]
    -- cost = .. if block[1][at][3] else 0
    refine s_cut (fun σ' H' => σ' = [some vb, some (.int at_), some vf, some (.int (if (b.ls[at_]).hy = true then F.cost .hyphen else 0))] ∧ H1 = H') ?_ ?_
    · walk_at "go"
      refine s_ixL (w := vl) hL (at_of rfl hvl) ?_
      walk_at "go"
      by_cases hy : b.ls[at_].hy = true
      · refine s_ifT hy ?_
        walk_at "go"
        refine s_dgot (hF1.cost .hyphen) ?_
        exact ⟨by rw [if_pos hy]; rfl, rfl⟩
      · refine s_ifF (by simpa using hy) ?_
        walk_at "go"
        exact ⟨by rw [if_neg hy]; rfl, rfl⟩
    rintro σ' H' ⟨rfl, rfl⟩
    -- if at == 0
    refine s_cut (fun σ' H' => σ' = [some vb, some (.int at_), some vf, some (.int ((if (b.ls[at_]).hy = true then F.cost .hyphen else 0) + (if at_ = 0 then F.cost .orphan else 0)))] ∧ H1 = H') ?_ ?_
    · walk_at "go"
      by_cases h0 : at_ = 0
      · refine s_ifT (by rw [h0]; exact decide_eq_true rfl) ?_
        walk_at "go"
        refine s_dgot (hF1.cost .orphan) ?_
        walk_at "go"
        exact ⟨by rw [if_pos h0]; rfl, rfl⟩
      · refine s_ifF (decide_eq_false fun z => h0 (by have := V.int.inj z; omega)) ?_
        walk_at "go"
        exact ⟨by rw [if_neg h0, Int.add_zero], rfl⟩
    rintro σ' H' ⟨rfl, rfl⟩
    -- if at == len(block[1]) - 2
    refine s_cut (fun σ' H' => σ' = [some vb, some (.int at_), some vf, some (.int (costWithin F b at_))] ∧ H1 = H') ?_ ?_
    · walk_at "go"
      refine s_lenL hL ?_
      walk_at "go"
      rw [hlen]
      by_cases hw : (at_ : Int) = (b.ls.length : Int) - 2
      · refine s_ifT (by rw [hw]; exact decide_eq_true rfl) ?_
        walk_at "go"
        refine s_dgot (hF1.cost .widow) ?_
        walk_at "go"
        exact ⟨by rw [e0, if_pos hw]; rfl, rfl⟩
      · refine s_ifF (decide_eq_false fun z => hw (V.int.inj z)) ?_
        walk_at "go"
        exact ⟨by rw [e0, if_neg hw, Int.add_zero], rfl⟩
    rintro σ' H' ⟨rfl, rfl⟩
    walk_at "go"
    exact q _ s1
end
end G
/-! cost_between, gap_between. -/
namespace G
open PySem L2
/-- goes on through a reading as far as it decides itself -/
local macro_rules | `(tactic| walk_at "fact") => `(tactic| first | assumption | ((refine tnew ?_ ?_); assumption; (first | assumption | ((refine tnew ?_ ?_); assumption; (first | assumption | ((refine tnew ?_ ?_); assumption; assumption))))) | ((refine tsame ?_ ?_); assumption; assumption))
local macro_rules | `(tactic| walk_at "go1") => `(tactic| first
  | with_reducible refine s_op ?_ | ((with_reducible refine s_var (v := ?v) ?e ?_); (case e => rfl)) | with_reducible refine s_c ?_
  | with_reducible refine s_cb ?_ | with_reducible refine s_cons ?_ | with_reducible refine s_nil ?_ | with_reducible refine s_ret ?_ | with_reducible refine s_asg ?_ | with_reducible refine s_gname ?_
  | with_reducible refine s_ifS ?_ | with_reducible refine s_test ?_ | with_reducible refine s_B ?_ | with_reducible refine s_bl ?_ | with_reducible refine s_and ?_ | with_reducible refine s_or ?_ | with_reducible refine s_not ?_ | with_reducible refine s_if ?_
  | with_reducible refine s_un ?_ | with_reducible refine s_U ?_ | with_reducible refine s_drop ?_ | with_reducible refine s_next ?_ | with_reducible refine s_tup ?_ | with_reducible refine s_lst ?_ | with_reducible refine s_call ?_ | with_reducible refine s_dget ?_
  | ((with_reducible refine s_len ?h ?_); (case h => rfl)) | with_reducible refine s_notN ?_ | with_reducible refine s_isN ?_ | with_reducible refine s_yes ?_ | with_reducible refine s_fld ?_ | with_reducible refine s_meth ?_ | with_reducible refine s_andV ?_ | with_reducible refine s_orV ?_ | with_reducible refine s_gsub ?_ | with_reducible refine s_chain ?_ | with_reducible refine s_chain3 ?_ | with_reducible refine s_sl ?_ | with_reducible refine s_part ?_ | with_reducible refine s_noPart ?_ | with_reducible refine s_exI ?_ | with_reducible refine s_bm ?_ | ((with_reducible refine s_tyL (xs := ?xs) ?h ?_); (case h => assumption)) | with_reducible refine s_gcons ?_ | with_reducible refine s_gnil ?_ | with_reducible refine s_brk ?_ | with_reducible refine s_cont ?_
  | ((with_reducible refine s_ixT (xs := ?xs) (w := ?w) ?h ?e ?_); (case h => walk_at "fact"); (case e => rfl))
  | with_reducible refine s_max2 ?_ | with_reducible refine s_min2 ?_ | with_reducible refine s_intI ?_ | with_reducible refine s_intB ?_ | with_reducible refine s_I0 ?_ | with_reducible refine s_eqI ?_ | with_reducible refine s_eqS ?_ | with_reducible refine s_neI ?_)
local macro_rules | `(tactic| walk_at "go") => `(tactic| repeat walk_at "go1")
/-- the next statement -/
local macro_rules | `(tactic| walk_at "st") => `(tactic| (walk_at "go"; (with_reducible refine s_seq ?_); walk_at "go"))
/-- the next statement, cut off by a word -/
local macro_rules | `(tactic| walk_at "cut") => `(tactic| with_reducible refine s_cut ?_ ?_ ?_)
section
variable {P : Program} {w : World} {K : PySem.W.Frag} {mg : Str → Option Value} {base : Heap}
def costBetween (F : Fw) (u l : Bk) (forced : Bool) : Int := if forced = true then -10000 else if u.kd = .head then 10000 else if l.kd = .head then F.cost .head else 0
def spCostBetween (K : PySem.W.Frag) : Sp := fun vs H Q _ => ∃ (vu vl vf : V) (fo : Bool) (F : Fw) (g c : Addr) (u l : Bk), vs = [vu, vl, .bl fo, vf] ∧ FwAt K H vf F g c ∧ BkAt K H vu u ∧ u.kd.txt = true ∧ BkAt K H vl l ∧ l.kd.txt = true ∧ Q (.int (costBetween F u l fo)) H
abbrev s_cost_between : Stmt := topS 8
theorem sc_cost_between : FnScope ["upper", "lower", "forced", "flow"] ["upper", "lower", "forced", "flow"] (defScope s_cost_between) := ⟨rfl, rfl, rfl, by decide +kernel, rfl, by decide +kernel, by decide +kernel⟩
theorem ok_cost_between {f : Addr} {fd : FuncData} (F0 : Fun K "cost_between" "cost_between" s_cost_between f fd) (T : Txt mg) : FnOk P w K mg base CX0 1 f fd ["upper", "lower", "forced", "flow"] (spCostBetween K) := by
  refine F0.ok sc_cost_between (fun vs H Q E h => ?_) (fun cdv A outer s H vs Q E hr h => ?_)
  · obtain ⟨_, _, _, _, _, _, _, _, _, rfl, _⟩ := h
    rfl
  · obtain ⟨vu, vl, vf, fo, F, g, c, u, l, rfl, hF, hU, hu1, hL, hl1, q⟩ := h
    have hu := hu_of hr
    have hT := hF.tup
    obtain ⟨q1, hU1, _⟩ := hU.1 hu1
    obtain ⟨q2, hL1, _⟩ := hL.1 hl1
    refine ⟨_, (pss_cons (ps_if (pt_val (pv 2))
        (pss_one (ps_ret (pe_gI rfl T.gFORCED)))
        pss_nil)
      (pss_cons (ps_if (pt_cmpR op_eq (pe_ix ix_tup (pv 0) pe_int (fun _ _ => rfl)) pe_str (nomark _))
        (pss_one (ps_ret (pe_gI rfl T.gFORBIDDEN)))
        pss_nil)
      (pss_one (ps_ret (pe_ifExp (pt_cmpR op_eq (pe_ix ix_tup (pv 1) pe_int (fun _ _ => rfl)) pe_str (nomark _)) (pe_dget hu (pe_ix ix_tup (pv 3) pe_int (fun _ _ => rfl)) pe_str (fun _ _ => rfl)) pe_int))))), ?_⟩
    dsimp only [cxOf, L2.Cx.nox, L2.Cx.wish]
    walk_at "st"
    cases fo with
    | true =>
      refine s_ifT rfl ?_
      walk_at "go"
      exact q
    | false =>
      refine s_ifF rfl ?_
      walk_at "go"
      walk_at "st"
      rw [kd_head]
      by_cases h1 : u.kd = .head
      · refine s_ifT (decide_eq_true h1) ?_
        walk_at "go"
        have e : costBetween F u l false = 10000 := by unfold costBetween; rw [if_neg Bool.false_ne_true, if_pos h1]
        rw [← e]
        exact q
      · refine s_ifF (decide_eq_false h1) ?_
        walk_at "go"
        rw [kd_head]
        by_cases h2 : l.kd = .head
        · refine s_ifT (decide_eq_true h2) ?_
          walk_at "go"
          refine s_dgot (hF.cost .head) ?_
          have e : costBetween F u l false = F.cost .head := by unfold costBetween; rw [if_neg Bool.false_ne_true, if_neg h1, if_pos h2]
          rw [← e]
          exact q
        · refine s_ifF (decide_eq_false h2) ?_
          walk_at "go"
          have e : costBetween F u l false = 0 := by unfold costBetween; rw [if_neg Bool.false_ne_true, if_neg h1, if_neg h2]
          rw [← e]
          exact q
/-- the gap between two blocks of text -/
def gapName (u l : Kd) : Gn := if l = .head then .above else if u = .head then .below else if u = l ∧ (l = .item ∨ l = .row) then .item else .para
def dLn : Ln := ⟨0, 0, [], false⟩
def gapBetween (F : Fw) (u l : Bk) : Rw :=
  let g := F.gap (gapName u.kd l.kd)
  .gap (g.h + lineGap F (u.ls.getD (u.ls.length - 1) dLn) (l.ls.getD 0 dLn)) g.s g.k
def spGapBetween (K : PySem.W.Frag) : Sp := fun vs H Q _ => ∃ (vu vl vf : V) (F : Fw) (g c : Addr) (u l : Bk), vs = [vu, vl, vf] ∧ FwAt K H vf F g c ∧ BkAt K H vu u ∧ u.kd.txt = true ∧ BkAt K H vl l ∧ l.kd.txt = true ∧ u.ls ≠ [] ∧ l.ls ≠ [] ∧ ∀ v H', Same H H' → RwAt K H' v (gapBetween F u l) → Q v H'
abbrev s_gap_between : Stmt := topS 9
theorem sc_gap_between : FnScope ["upper", "lower", "flow", "name", "height", "stretch", "shrink"] ["upper", "lower", "flow"] (defScope s_gap_between) := ⟨rfl, rfl, rfl, by decide +kernel, rfl, by decide +kernel, by decide +kernel⟩
theorem ok_gap_between {f : Addr} {fd : FuncData} (F0 : Fun K "gap_between" "gap_between" s_gap_between f fd) (T : Txt mg) (Cline_gap : Cl P w K mg base CX0 "line_gap" 1 ["flow", "upper", "lower"] (spLineGap K)) : FnOk P w K mg base CX0 2 f fd ["upper", "lower", "flow"] (spGapBetween K) := by
  refine F0.ok sc_gap_between (fun vs H Q E h => ?_) (fun cdv A outer s H vs Q E hr h => ?_)
  · obtain ⟨_, _, _, _, _, _, _, _, rfl, _⟩ := h
    rfl
  · obtain ⟨vu, vl, vf, F, g, c, u, l, rfl, hF, hU, hu1, hL, hl1, nu, nl, q⟩ := h
    have hu := hu_of hr
    obtain ⟨q1, hU1, pu, vsu, rfl, hUL, hUs⟩ := hU.1 hu1
    obtain ⟨q2, hL1, pl, vsl, rfl, hLL, hLs⟩ := hL.1 hl1
    have u0 : u.ls.length - 1 < u.ls.length := by
      have := List.length_pos_iff.mpr nu
      omega
    have l0 : 0 < l.ls.length := List.length_pos_iff.mpr nl
    obtain ⟨wu, hwu, hwu2⟩ := hUs.get (List.getElem?_eq_getElem u0)
    obtain ⟨wl, hwl, hwl2⟩ := hLs.get (List.getElem?_eq_getElem l0)
    refine ⟨_, (pss_cons (ps_set (i := 3) sc_gap_between.nd rfl (Or.inl rfl) pe_str)
      (pss_cut (ps_if (pt_cmpR op_eq (pe_ix ix_tup (pv 1) pe_int (fun _ _ => rfl)) pe_str (nomark _))
        (pss_one (ps_set (i := 3) sc_gap_between.nd rfl (Or.inl rfl) pe_str))
        (pss_one (ps_if (pt_cmpR op_eq (pe_ix ix_tup (pv 0) pe_int (fun _ _ => rfl)) pe_str (nomark _))
          (pss_one (ps_set (i := 3) sc_gap_between.nd rfl (Or.inl rfl) pe_str))
          (pss_one (ps_if (PW.pt (pw_and (pt_cmpR op_eq (pe_ix ix_tup (pv 0) pe_int (fun _ _ => rfl)) (pe_ix ix_tup (pv 1) pe_int (fun _ _ => rfl)) (nomark _)) (pw_and1 (pt_cmpR op_in_seq (pe_ix ix_tup (pv 1) pe_int (fun _ _ => rfl)) (pe_tup (pa_cons pe_str (pa_cons pe_str pa_nil))) (by rfl)))))
            (pss_one (ps_set (i := 3) sc_gap_between.nd rfl (Or.inl rfl) pe_str))
            pss_nil)))))
      (pss_cons (ps_asg (pe_dget hu (pe_ix ix_tup (pv 2) pe_int (fun _ _ => rfl)) (pv 3) (fun _ _ => rfl)) (pg_tup (n := 3) rfl (pgs_cons (pg_name (i := 4) sc_gap_between.nd rfl (Or.inl rfl)) (pgs_cons (pg_name (i := 5) sc_gap_between.nd rfl (Or.inl rfl)) (pgs_cons (pg_name (i := 6) sc_gap_between.nd rfl (Or.inl rfl)) pgs_nil)))))
      (pss_one (ps_ret (pe_tup (pa_cons pe_str (pa_cons (pe_op op_add (pv 4) (pe_cl Cline_gap hr (by rfl) pass0 (pa_cons (pv 2) (pa_cons (pe_ix ix_list (pe_ix ix_tup (pv 0) pe_int (fun _ _ => rfl)) (pe_un un_neg pe_int) (fun _ _ => rfl)) (pa_cons (pe_ix ix_list (pe_ix ix_tup (pv 1) pe_int (fun _ _ => rfl)) pe_int (fun _ _ => rfl)) pa_nil))))) (pa_cons (pv 5) (pa_cons (pv 6) pa_nil)))))))))), ?_⟩
    dsimp only [cxOf, L2.Cx.nox, L2.Cx.wish]
    walk_at "st"
    refine s_cut (fun σ' H' => σ' = [some vu, some vl, some vf, some (.str (gapName u.kd l.kd).str), none, none, none] ∧ Same H H') ?_ ?_
    · walk_at "go"
      rw [kd_head]
      by_cases h1 : l.kd = .head
      · refine s_ifT (decide_eq_true h1) ?_
        walk_at "go"
        exact ⟨by unfold gapName; rw [if_pos h1]; rfl, Same.refl H⟩
      · refine s_ifF (decide_eq_false h1) ?_
        walk_at "go"
        rw [kd_head]
        by_cases h2 : u.kd = .head
        · refine s_ifT (decide_eq_true h2) ?_
          walk_at "go"
          exact ⟨by unfold gapName; rw [if_neg h1, if_pos h2]; rfl, Same.refl H⟩
        · refine s_ifF (decide_eq_false h2) ?_
          walk_at "go"
          rw [kd_kd]
          by_cases h3 : u.kd = l.kd
          · refine s_ifT (decide_eq_true h3) ?_
            walk_at "go"
            intro p hp
            refine s_inT (SqT.of upd_same) rfl (by rfl) ?_
            rw [kd_itemrow]
            walk_at "go"
            by_cases h4 : l.kd = .item ∨ l.kd = .row
            · refine s_ifT (by simpa using h4) ?_
              walk_at "go"
              exact ⟨by unfold gapName; rw [if_neg h1, if_neg h2, if_pos ⟨h3, h4⟩]; rfl, Same.new hp⟩
            · refine s_ifF (by simpa using h4) ?_
              walk_at "go"
              exact ⟨by unfold gapName; rw [if_neg h1, if_neg h2, if_neg fun z => h4 z.2]; rfl, Same.new hp⟩
          · refine s_ifF (decide_eq_false h3) ?_
            refine s_ifF rfl ?_
            walk_at "go"
            exact ⟨by unfold gapName; rw [if_neg h1, if_neg h2, if_neg fun z => h3 z.1]; rfl, Same.refl H⟩
    rintro σ' H1 ⟨rfl, s1⟩
    have hF := hF.mono s1
    have hU1 := tsame s1 hU1
    have hL1 := tsame s1 hL1
    have hUL := s1.seq hUL
    have hLL := s1.seq hLL
    have hT := hF.tup
    obtain ⟨v, hv, hg⟩ := hF.gap (gapName u.kd l.kd)
    walk_at "st"
    refine s_dgot hv ?_
    refine s_gtup hg rfl ?_
    walk_at "go"
    refine s_ixL (w := wu) hUL (atI_last (by rw [hUs.len]; exact hwu)) ?_
    walk_at "go"
    refine s_ixL (w := wl) hLL (atI_nat (j := 0) hwl) ?_
    walk_at "go"
    refine ⟨vf, wu, wl, F, g, c, _, _, rfl, hF, hwu2.mono (TSm.of s1), hwl2.mono (TSm.of s1), ?_⟩
    walk_at "go"
    intro p hp
    refine q _ _ (s1.trans (Same.new hp)) ?_
    have e1 : u.ls.getD (u.ls.length - 1) dLn = u.ls[u.ls.length - 1] := by rw [List.getD_eq_getElem?_getD, List.getElem?_eq_getElem u0]; rfl
    have e2 : l.ls.getD 0 dLn = l.ls[0] := by rw [List.getD_eq_getElem?_getD, List.getElem?_eq_getElem l0]; rfl
    show IsT K _ _ _
    rw [e1, e2]
    exact IsT.of upd_same
end
end G
/-! block_rows. -/
namespace G
open PySem L2
/-- goes on through a reading as far as it decides itself -/
local macro_rules | `(tactic| walk_at "fact") => `(tactic| first | assumption | ((refine tnew ?_ ?_); assumption; (first | assumption | ((refine tnew ?_ ?_); assumption; (first | assumption | ((refine tnew ?_ ?_); assumption; assumption))))) | ((refine tsame ?_ ?_); assumption; assumption))
local macro_rules | `(tactic| walk_at "go1") => `(tactic| first
  | with_reducible refine s_op ?_ | ((with_reducible refine s_var (v := ?v) ?e ?_); (case e => rfl)) | with_reducible refine s_c ?_
  | with_reducible refine s_cb ?_ | with_reducible refine s_cons ?_ | with_reducible refine s_nil ?_ | with_reducible refine s_ret ?_ | with_reducible refine s_asg ?_ | with_reducible refine s_gname ?_
  | with_reducible refine s_ifS ?_ | with_reducible refine s_test ?_ | with_reducible refine s_B ?_ | with_reducible refine s_bl ?_ | with_reducible refine s_and ?_ | with_reducible refine s_or ?_ | with_reducible refine s_not ?_ | with_reducible refine s_if ?_
  | with_reducible refine s_un ?_ | with_reducible refine s_U ?_ | with_reducible refine s_drop ?_ | with_reducible refine s_next ?_ | with_reducible refine s_tup ?_ | with_reducible refine s_lst ?_ | with_reducible refine s_call ?_ | with_reducible refine s_dget ?_
  | ((with_reducible refine s_len ?h ?_); (case h => rfl)) | with_reducible refine s_notN ?_ | with_reducible refine s_isN ?_ | with_reducible refine s_yes ?_ | with_reducible refine s_fld ?_ | with_reducible refine s_meth ?_ | with_reducible refine s_andV ?_ | with_reducible refine s_orV ?_ | with_reducible refine s_gsub ?_ | with_reducible refine s_chain ?_ | with_reducible refine s_chain3 ?_ | with_reducible refine s_sl ?_ | with_reducible refine s_part ?_ | with_reducible refine s_noPart ?_ | with_reducible refine s_exI ?_ | with_reducible refine s_bm ?_ | ((with_reducible refine s_tyL (xs := ?xs) ?h ?_); (case h => assumption)) | with_reducible refine s_gcons ?_ | with_reducible refine s_gnil ?_ | with_reducible refine s_brk ?_ | with_reducible refine s_cont ?_
  | ((with_reducible refine s_ixT (xs := ?xs) (w := ?w) ?h ?e ?_); (case h => walk_at "fact"); (case e => rfl))
  | with_reducible refine s_max2 ?_ | with_reducible refine s_min2 ?_ | with_reducible refine s_intI ?_ | with_reducible refine s_intB ?_ | with_reducible refine s_I0 ?_ | with_reducible refine s_eqI ?_ | with_reducible refine s_eqS ?_ | with_reducible refine s_neI ?_)
local macro_rules | `(tactic| walk_at "go") => `(tactic| repeat walk_at "go1")
/-- the next statement -/
local macro_rules | `(tactic| walk_at "st") => `(tactic| (walk_at "go"; (with_reducible refine s_seq ?_); walk_at "go"))
/-- the next statement, cut off by a word -/
local macro_rules | `(tactic| walk_at "cut") => `(tactic| with_reducible refine s_cut ?_ ?_ ?_)
section
variable {P : Program} {w : World} {K : PySem.W.Frag} {mg : Str → Option Value} {base : Heap}
/-- what stands ahead of the i-th line of a block -/
def ahead (F : Fw) (b : Bk) (i : Nat) : List Rw := if i = 0 then [] else [.cost (costWithin F b (i - 1)), .gap (lineGap F (b.ls.getD (i - 1) dLn) (b.ls.getD i dLn)) 0 0]
def lineRow (nb i : Nat) (l : Ln) : Rw := .line nb i l.h l.d l.ns
def brUp (F : Fw) (nb : Nat) (b : Bk) : Nat → List Rw
  | 0 => []
  | i + 1 => brUp F nb b i ++ ahead F b i ++ [lineRow nb i (b.ls.getD i dLn)]
theorem ahead_len (F : Fw) (b : Bk) (i : Nat) : (ahead F b i).length ≤ 2 := by
  unfold ahead
  split
  · exact Nat.zero_le _
  · exact Nat.le_refl _
theorem brUp_len (F : Fw) (nb : Nat) (b : Bk) : ∀ i, (brUp F nb b i).length ≤ 3 * i
  | 0 => Nat.le_refl _
  | i + 1 => by
    have h := brUp_len F nb b i
    have h2 := ahead_len F b i
    show (brUp F nb b i ++ ahead F b i ++ [_]).length ≤ _
    rw [List.length_append, List.length_append, List.length_singleton]
    omega
def blockRows (F : Fw) (nb : Nat) (b : Bk) : List Rw := brUp F nb b b.ls.length
def spBlockRows (K : PySem.W.Frag) : Sp := fun vs H Q _ => ∃ (vb vf : V) (nb : Nat) (F : Fw) (g c : Addr) (b : Bk), vs = [.int nb, vb, vf] ∧ FwAt K H vf F g c ∧ BkAt K H vb b ∧ b.kd.txt = true ∧ b.ls.length ≤ 1000 ∧
  ∀ p ws H', Same H H' → H p = none → H' p = some (.lst ws) → Ls (RwAt K H') ws (blockRows F nb b) → Q (.ref p) H'
theorem getD_at {α : Type} {l : List α} {i : Nat} {d : α} (h : i < l.length) : l[i]? = some (l.getD i d) := by
  rw [List.getD_eq_getElem?_getD, List.getElem?_eq_getElem h]
  rfl
abbrev s_block_rows : Stmt := topS 10
theorem sc_block_rows : FnScope ["number", "block", "flow", "rows", "at", "line"] ["number", "block", "flow"] (defScope s_block_rows) := ⟨rfl, rfl, rfl, by decide +kernel, rfl, by decide +kernel, by decide +kernel⟩
theorem ok_block_rows {f : Addr} {fd : FuncData} (F0 : Fun K "block_rows" "block_rows" s_block_rows f fd) (T : Txt mg) (Cline_gap : Cl P w K mg base CX0 "line_gap" 1 ["flow", "upper", "lower"] (spLineGap K))
    (Ccost_within : Cl P w K mg base CX0 "cost_within" 1 ["block", "at", "flow"] (spCostWithin K)) : FnOk P w K mg base CX0 2 f fd ["number", "block", "flow"] (spBlockRows K) := by
  refine F0.ok sc_block_rows (fun vs H Q E h => ?_) (fun cdv A outer s H vs Q E hr h => ?_)
  · obtain ⟨_, _, _, _, _, _, _, rfl, _⟩ := h
    rfl
  · obtain ⟨vb, vf, nb, F, g, c, b, rfl, hF, hB, hb, hz, q⟩ := h
    have hu := hu_of hr
    obtain ⟨q1, hB1, pb, vsb, rfl, hBL, hLs⟩ := hB.1 hb
    refine ⟨_, (pss_cons (ps_set (i := 3) sc_block_rows.nd rfl (Or.inl rfl) (pe_lst pa_nil))
      (pss_cons (ps_for PassesOwn.never rfl (pi_enum (by rfl) T.enumerate (pa_cons (pe_ix ix_tup (pv 1) pe_int (fun _ _ => rfl)) pa_nil)) (pg_tup (n := 2) rfl (pgs_cons (pg_name (i := 4) sc_block_rows.nd rfl (Or.inl rfl)) (pgs_cons (pg_name (i := 5) sc_block_rows.nd rfl (Or.inl rfl)) pgs_nil)))
        (pss_cut (ps_if (pt_cmpR op_gt (pv 4) pe_int (nomark _))
          (pss_cons (ps_expr (pe_bm PySem.F.plainAttrs_list PySem.F.slot_list_append PySem.F.type_list_append mt_append (pv 3) (pa_cons (pe_tup (pa_cons pe_str (pa_cons (pe_cl Ccost_within hr (by rfl) pass0 (pa_cons (pv 1) (pa_cons (pe_op op_sub (pv 4) pe_int) (pa_cons (pv 2) pa_nil)))) pa_nil))) pa_nil)))
          (pss_one (ps_expr (pe_bm PySem.F.plainAttrs_list PySem.F.slot_list_append PySem.F.type_list_append mt_append (pv 3) (pa_cons (pe_tup (pa_cons pe_str (pa_cons (pe_cl Cline_gap hr (by rfl) pass0 (pa_cons (pv 2) (pa_cons (pe_ix ix_list (pe_ix ix_tup (pv 1) pe_int (fun _ _ => rfl)) (pe_op op_sub (pv 4) pe_int) (fun _ _ => rfl)) (pa_cons (pv 5) pa_nil)))) (pa_cons pe_int (pa_cons pe_int pa_nil))))) pa_nil)))))
          pss_nil)
        (pss_one (ps_expr (pe_bm PySem.F.plainAttrs_list PySem.F.slot_list_append PySem.F.type_list_append mt_append (pv 3) (pa_cons (pe_tup (pa_cons pe_str (pa_cons (pv 0) (pa_cons (pv 4) (pa_cons (pe_ix ix_tup (pv 5) pe_int (fun _ _ => rfl)) (pa_cons (pe_ix ix_tup (pv 5) pe_int (fun _ _ => rfl)) (pa_cons (pe_ix ix_tup (pv 5) pe_int (fun _ _ => rfl)) pa_nil))))))) pa_nil))))))
      (pss_one (ps_ret (pv 3))))), ?_⟩
    dsimp only [cxOf, L2.Cx.nox, L2.Cx.wish]
    walk_at "st"
    intro r hr0
    walk_at "st"
    have s0 : Same H (upd H r (.lst [])) := Same.new hr0
    refine s_forE ?_
    have hB1' := tsame s0 hB1
    walk_at "go"
    refine ⟨pb, vsb, rfl, s0.seq hBL, for_it walk_enum (fun i σ H2 => ∃ v4 v5 ws, σ = [some (.int nb), some vb, some vf, some (.ref r), v4, v5] ∧ Same H H2 ∧ H2 r = some (.lst ws) ∧ Ls (RwAt K H2) ws (brUp F nb b i)) ⟨_, _, [], rfl, s0, upd_same, .nil⟩ (fun i σ H2 _ ⟨_, _, _, _, s2, _⟩ => s2.seq hBL) ?_ ?_⟩
    · rintro i x σ H2 H3 hi ⟨v4, v5, ws, rfl, s2, hw, hws⟩ ⟨T1, z, y, rfl, nT, rfl, hz1, hy⟩
      obtain rfl : V.int i = z := Option.some.inj hz1
      obtain ⟨l, hl, hly⟩ := hLs.getV hy
      have hi' : i < b.ls.length := by rw [← hLs.len]; exact hi
      have el : b.ls.getD i dLn = l := Option.some.inj ((getD_at hi').symm.trans hl)
      have s3 : Same H2 (upd H2 T1 (.tup [.int i, y])) := Same.new nT
      have hwz : ws.length ≤ 3 * i := by rw [hws.len]; exact brUp_len F nb b i
      refine s_gtup (IsT.of upd_same) rfl ?_
      walk_at "go"
      generalize hH3 : upd H2 T1 (.tup [.int i, y]) = H3 at s3
      have hw3 := s3 _ _ hw
      have hws3 := hws.mono fun _ _ z => RwAt.mono (TSm.of s3) z
      have s3' := s2.trans s3
      refine s_cut (fun σ' H' => ∃ ws, σ' = [some (.int nb), some vb, some vf, some (.ref r), some (.int i), some y] ∧ Same H H' ∧ H' r = some (.lst ws) ∧ Ls (RwAt K H') ws (brUp F nb b i ++ ahead F b i)) ?_ ?_
      · walk_at "go"
        by_cases h0 : i = 0
        · refine s_ifF (decide_eq_false (by omega)) ?_
          walk_at "go"
          exact ⟨ws, rfl, s3', hw3, by unfold ahead; rw [if_pos h0, List.append_nil]; exact hws3⟩
        · refine s_ifT (decide_eq_true (by omega)) ?_
          have e1 : (i : Int) - 1 = ((i - 1 : Nat) : Int) := by omega
          have hF3 := hF.mono s3'
          have hB3 := hB.mono s3'
          have hi1 : i - 1 < b.ls.length := by omega
          walk_at "st"
          refine ⟨vb, vf, i - 1, F, g, c, b, by rw [e1]; rfl, hF3, hB3, hb, hi1, fun H4 s4 => ?_⟩
          walk_at "go"
          intro p1 np1
          have s5 : Same H4 (upd H4 p1 (.tup [.str "cost", .int (costWithin F b (i - 1))])) := Same.new np1
          generalize hH5 : upd H4 p1 (.tup [.str "cost", .int (costWithin F b (i - 1))]) = H5 at s5
          have ht1 : H5 p1 = some (.tup [.str "cost", .int (costWithin F b (i - 1))]) := by rw [← hH5, upd_same]
          have s35 := s4.trans s5
          walk_at "go"
          refine s_append (s35 _ _ hw3) (by omega) ?_
          have hws5 := hws3.mono fun _ _ z => RwAt.mono (TSm.of s35) z
          have t6 : TSm H5 (upd H5 r (.lst (ws ++ [.ref p1]))) := TSm.lst (s35 _ _ hw3)
          have s6 : Same H (upd H5 r (.lst (ws ++ [.ref p1]))) := (s3'.trans s35).put hr0
          have hws6 : Ls (RwAt K (upd H5 r (.lst (ws ++ [.ref p1])))) (ws ++ [.ref p1]) (brUp F nb b i ++ [.cost (costWithin F b (i - 1))]) :=
            (hws5.mono fun _ _ z => RwAt.mono t6 z).snoc (IsT.mono t6 (IsT.of ht1))
          generalize hH6 : upd H5 r (.lst (ws ++ [.ref p1])) = H6 at s6 hws6
          have hw6 : H6 r = some (.lst (ws ++ [.ref p1])) := by rw [← hH6, upd_same]
          have hF6 := hF.mono s6
          have hB6 := tsame s6 hB1
          have hBL6 := s6.seq hBL
          obtain ⟨yu, hyu, hyu2⟩ := hLs.get (getD_at (d := dLn) hi1)
          walk_at "go"
          refine s_ixL (w := yu) hBL6 (at_of e1 hyu) ?_
          walk_at "go"
          refine ⟨vf, yu, y, F, g, c, _, _, rfl, hF6, hyu2.mono (TSm.of s6), hly.mono (TSm.of s6), ?_⟩
          walk_at "go"
          intro p2 np2
          have s7 : Same H6 (upd H6 p2 (.tup [.str "gap", .int (lineGap F (b.ls.getD (i - 1) dLn) l), .int 0, .int 0])) := Same.new np2
          generalize hH7 : upd H6 p2 (.tup [.str "gap", .int (lineGap F (b.ls.getD (i - 1) dLn) l), .int 0, .int 0]) = H7 at s7
          have ht2 : H7 p2 = some (.tup [.str "gap", .int (lineGap F (b.ls.getD (i - 1) dLn) l), .int 0, .int 0]) := by rw [← hH7, upd_same]
          walk_at "go"
          refine s_append (s7 _ _ hw6) (by rw [List.length_append, List.length_singleton]; omega) ?_
          have t8 : TSm H7 (upd H7 r (.lst (ws ++ [.ref p1] ++ [.ref p2]))) := TSm.lst (s7 _ _ hw6)
          refine ⟨_, rfl, (s6.trans s7).put hr0, upd_same, ?_⟩
          have e2 : brUp F nb b i ++ ahead F b i = (brUp F nb b i ++ [.cost (costWithin F b (i - 1))]) ++ [.gap (lineGap F (b.ls.getD (i - 1) dLn) l) 0 0] := by
            unfold ahead
            rw [if_neg h0, el, List.append_assoc]
            rfl
          rw [e2]
          exact ((hws6.mono fun _ _ z => RwAt.mono (TSm.of s7) z).mono fun _ _ z => RwAt.mono t8 z).snoc (IsT.mono t8 (IsT.of ht2))
      · rintro σ' H4 ⟨ws4, rfl, s4, hw4, hws4⟩
        have hly4 := hly.mono (TSm.of s4)
        obtain ⟨n, hl1, hl2⟩ := hly4
        have hwz4 : ws4.length ≤ 3 * i + 2 := by
          rw [hws4.len, List.length_append]
          have h1 := brUp_len F nb b i
          have h2 := ahead_len F b i
          omega
        walk_at "go"
        intro p1 np1
        have s5 : Same H4 (upd H4 p1 (.tup [.str "line", .int nb, .int i, .int l.h, .int l.d, n])) := Same.new np1
        generalize hH5 : upd H4 p1 (.tup [.str "line", .int nb, .int i, .int l.h, .int l.d, n]) = H5 at s5
        have ht1 : H5 p1 = some (.tup [.str "line", .int nb, .int i, .int l.h, .int l.d, n]) := by rw [← hH5, upd_same]
        walk_at "go"
        refine s_append (s5 _ _ hw4) (by omega) ?_
        have t6 : TSm H5 (upd H5 r (.lst (ws4 ++ [.ref p1]))) := TSm.lst (s5 _ _ hw4)
        refine ⟨_, _, _, rfl, (s4.trans s5).put hr0, upd_same, ?_⟩
        refine ((hws4.mono fun _ _ z => RwAt.mono (TSm.of s5) z).mono fun _ _ z => RwAt.mono t6 z).snoc ?_
        rw [el]
        exact ⟨n, (IsT.of ht1).mono t6, hl2.mono ((TSm.of s5).trans t6)⟩
    · rintro σ H2 ⟨v4, v5, ws, rfl, s2, hw, hws⟩
      walk_at "go"
      rw [hLs.len] at hws
      exact q r ws H2 s2 hr0 hw hws
end
end G
/-! vertical. -/
namespace G
open PySem L2
/-- goes on through a reading as far as it decides itself -/
local macro_rules | `(tactic| walk_at "fact") => `(tactic| first | assumption | ((refine tnew ?_ ?_); assumption; (first | assumption | ((refine tnew ?_ ?_); assumption; (first | assumption | ((refine tnew ?_ ?_); assumption; assumption))))) | ((refine tsame ?_ ?_); assumption; assumption))
local macro_rules | `(tactic| walk_at "go1") => `(tactic| first
  | with_reducible refine s_op ?_ | ((with_reducible refine s_var (v := ?v) ?e ?_); (case e => rfl)) | with_reducible refine s_c ?_
  | with_reducible refine s_cb ?_ | with_reducible refine s_cons ?_ | with_reducible refine s_nil ?_ | with_reducible refine s_ret ?_ | with_reducible refine s_asg ?_ | with_reducible refine s_gname ?_
  | with_reducible refine s_ifS ?_ | with_reducible refine s_test ?_ | with_reducible refine s_B ?_ | with_reducible refine s_bl ?_ | with_reducible refine s_and ?_ | with_reducible refine s_or ?_ | with_reducible refine s_not ?_ | with_reducible refine s_if ?_
  | with_reducible refine s_un ?_ | with_reducible refine s_U ?_ | with_reducible refine s_drop ?_ | with_reducible refine s_next ?_ | with_reducible refine s_tup ?_ | with_reducible refine s_lst ?_ | with_reducible refine s_call ?_ | with_reducible refine s_dget ?_
  | ((with_reducible refine s_len ?h ?_); (case h => rfl)) | with_reducible refine s_notN ?_ | with_reducible refine s_isN ?_ | with_reducible refine s_yes ?_ | with_reducible refine s_fld ?_ | with_reducible refine s_meth ?_ | with_reducible refine s_andV ?_ | with_reducible refine s_orV ?_ | with_reducible refine s_gsub ?_ | with_reducible refine s_chain ?_ | with_reducible refine s_chain3 ?_ | with_reducible refine s_sl ?_ | with_reducible refine s_part ?_ | with_reducible refine s_noPart ?_ | with_reducible refine s_exI ?_ | with_reducible refine s_bm ?_ | ((with_reducible refine s_tyL (xs := ?xs) ?h ?_); (case h => assumption)) | with_reducible refine s_gcons ?_ | with_reducible refine s_gnil ?_ | with_reducible refine s_brk ?_ | with_reducible refine s_cont ?_
  | ((with_reducible refine s_ixT (xs := ?xs) (w := ?w) ?h ?e ?_); (case h => walk_at "fact"); (case e => rfl))
  | with_reducible refine s_max2 ?_ | with_reducible refine s_min2 ?_ | with_reducible refine s_intI ?_ | with_reducible refine s_intB ?_ | with_reducible refine s_I0 ?_ | with_reducible refine s_eqI ?_ | with_reducible refine s_eqS ?_ | with_reducible refine s_neI ?_)
local macro_rules | `(tactic| walk_at "go") => `(tactic| repeat walk_at "go1")
/-- the next statement -/
local macro_rules | `(tactic| walk_at "st") => `(tactic| (walk_at "go"; (with_reducible refine s_seq ?_); walk_at "go"))
/-- the next statement, cut off by a word -/
local macro_rules | `(tactic| walk_at "cut") => `(tactic| with_reducible refine s_cut ?_ ?_ ?_)
section
variable {P : Program} {w : World} {K : PySem.W.Frag} {mg : Str → Option Value} {base : Heap}
structure VS where
  rows : List Rw
  held : List Rw
  fl : Nat
  last : Option Nat
  fo : Bool
def dBk : Bk := ⟨.page, []⟩
def between (F : Fw) (bs : List Bk) (s : VS) (b : Bk) : List Rw :=
  match s.last with
  | none => []
  | some j => [.cost (costBetween F (bs.getD j dBk) b s.fo), gapBetween F (bs.getD j dBk) b]
def vstep (F : Fw) (bs : List Bk) (s : VS) (i : Nat) (b : Bk) : VS :=
  if b.kd = .page then { s with fo := s.last.isSome }
  else if b.kd = .float then (if s.fo = true then { s with held := s.held ++ [.float s.fl], fl := s.fl + 1 } else { s with rows := s.rows ++ [.float s.fl], fl := s.fl + 1 })
  else { rows := s.rows ++ between F bs s b ++ (s.held ++ blockRows F i b), held := [], fl := s.fl, last := some i, fo := false }
def vUp (F : Fw) (bs : List Bk) : Nat → VS
  | 0 => ⟨[], [], 0, none, false⟩
  | i + 1 => vstep F bs (vUp F bs i) i (bs.getD i dBk)
def vertical (F : Fw) (bs : List Bk) : List Rw := (vUp F bs bs.length).rows ++ (vUp F bs bs.length).held
structure BsOk (bs : List Bk) : Prop where
  few : bs.length ≤ 20
  ls : ∀ b ∈ bs, b.kd.txt = true → b.ls ≠ [] ∧ b.ls.length ≤ 10
theorem blockRows_len (F : Fw) (i : Nat) (b : Bk) : (blockRows F i b).length ≤ 3 * b.ls.length := brUp_len F i b _
theorem between_len (F : Fw) (bs : List Bk) (s : VS) (b : Bk) : (between F bs s b).length ≤ 2 := by
  unfold between
  split
  · exact Nat.zero_le _
  · exact Nat.le_refl _
theorem txt_of {k : Kd} (h1 : k ≠ .page) (h2 : k ≠ .float) : k.txt = true := by cases k <;> first | rfl | exact absurd rfl h1 | exact absurd rfl h2
theorem vUp_len (F : Fw) (bs : List Bk) (h : BsOk bs) : ∀ i, i ≤ bs.length → (vUp F bs i).rows.length + (vUp F bs i).held.length ≤ 33 * i
  | 0, _ => Nat.le_refl _
  | i + 1, hi => by
    have ih := vUp_len F bs h i (by omega)
    have hb : bs.getD i dBk ∈ bs := List.mem_of_getElem? (getD_at (by omega))
    show (vstep F bs (vUp F bs i) i (bs.getD i dBk)).rows.length + (vstep F bs (vUp F bs i) i (bs.getD i dBk)).held.length ≤ _
    unfold vstep
    split
    · show (vUp F bs i).rows.length + (vUp F bs i).held.length ≤ _
      omega
    · split
      · split
        · show (vUp F bs i).rows.length + ((vUp F bs i).held ++ [_]).length ≤ _
          rw [List.length_append, List.length_singleton]
          omega
        · show ((vUp F bs i).rows ++ [_]).length + (vUp F bs i).held.length ≤ _
          rw [List.length_append, List.length_singleton]
          omega
      · rename_i h1 h2
        have ht := (h.ls _ hb (txt_of h1 h2)).2
        have h3 := blockRows_len F i (bs.getD i dBk)
        have h4 := between_len F bs (vUp F bs i) (bs.getD i dBk)
        show ((vUp F bs i).rows ++ between F bs (vUp F bs i) (bs.getD i dBk) ++ ((vUp F bs i).held ++ blockRows F i (bs.getD i dBk))).length + 0 ≤ _
        rw [List.length_append, List.length_append, List.length_append]
        omega
/-- the last block of text is one of the blocks -/
theorem vUp_last (F : Fw) (bs : List Bk) : ∀ i, i ≤ bs.length → ∀ j, (vUp F bs i).last = some j → j < i ∧ (bs.getD j dBk).kd.txt = true
  | 0, _, j, h => by cases h
  | i + 1, hi, j, h => by
    have ih := vUp_last F bs i (by omega)
    have h : (vstep F bs (vUp F bs i) i (bs.getD i dBk)).last = some j := h
    unfold vstep at h
    split at h
    · obtain ⟨a, b⟩ := ih j h
      exact ⟨by omega, b⟩
    · split at h
      · split at h
        · obtain ⟨a, b⟩ := ih j h
          exact ⟨by omega, b⟩
        · obtain ⟨a, b⟩ := ih j h
          exact ⟨by omega, b⟩
      · rename_i h1 h2
        cases h
        exact ⟨by omega, txt_of h1 h2⟩
def BksAt (K : PySem.W.Frag) (H : Hp) (v : V) (bs : List Bk) : Prop := ∃ p vs, v = .ref p ∧ SqL K H p vs ∧ Ls (BkAt K H) vs bs
theorem BksAt.mono {H H' : Hp} {v : V} {bs : List Bk} (e : Same H H') (h : BksAt K H v bs) : BksAt K H' v bs := let ⟨p, vs, a, b, c⟩ := h; ⟨p, vs, a, e.seq b, c.mono fun _ _ z => z.mono e⟩
def RwsAt (K : PySem.W.Frag) (H : Hp) (v : V) (rs : List Rw) : Prop := ∃ p vs, v = .ref p ∧ H p = some (.lst vs) ∧ Ls (RwAt K H) vs rs
def spVertical (K : PySem.W.Frag) : Sp := fun vs H Q _ => ∃ (vb vf : V) (F : Fw) (g c : Addr) (bs : List Bk), vs = [vb, vf] ∧ FwAt K H vf F g c ∧ BksAt K H vb bs ∧ BsOk bs ∧
  ∀ v H', Same H H' → RwsAt K H' v (vertical F bs) → Q v H'
theorem Ls.ts {H H' : Hp} {vs : List V} {rs : List Rw} (t : TSm H H') (h : Ls (RwAt K H) vs rs) : Ls (RwAt K H') vs rs := h.mono fun _ _ z => RwAt.mono t z
theorem lastV_non {x : V} {t : Addr} (h : x = .ref t) : (!decide (x = V.non)) = true := by rw [h]; rfl
theorem BkAt.ref {H : Hp} {v : V} {b : Bk} (h : BkAt K H v b) : ∃ t, v = .ref t := by
  cases hb : b.kd.txt with
  | true =>
    obtain ⟨q, ⟨t, e, _⟩, _⟩ := h.1 hb
    exact ⟨t, e⟩
  | false =>
    obtain ⟨t, e, _⟩ := h.2 hb
    exact ⟨t, e⟩
/-- the kind of any block -/
theorem BkAt.kd0 {H : Hp} {v : V} {b : Bk} (h : BkAt K H v b) : ∃ xs, IsT K H v (.str b.kd.str :: xs) := by
  cases hb : b.kd.txt with
  | true =>
    obtain ⟨q, a, _⟩ := h.1 hb
    exact ⟨_, a⟩
  | false => exact ⟨_, h.2 hb⟩
/-- between two turns of vertical -/
def VInv (K : PySem.W.Frag) (vb vf : V) (vbs : List V) (H : Hp) (r : Addr) (s : VS) (σ : L2.St) (H2 : Hp) : Prop :=
  ∃ hl ws hs vl v7 v8, σ = [some vb, some vf, some (.ref r), some (.ref hl), some (.int s.fl), some vl, some (.bl s.fo), v7, v8] ∧ Same H H2 ∧ H r = none ∧ H hl = none ∧ r ≠ hl ∧
    H2 r = some (.lst ws) ∧ H2 hl = some (.lst hs) ∧ Ls (RwAt K H2) ws s.rows ∧ Ls (RwAt K H2) hs s.held ∧ (match s.last with | none => vl = .non | some j => vbs[j]? = some vl)
abbrev s_vertical : Stmt := topS 11
theorem sc_vertical : FnScope ["blocks", "flow", "rows", "held", "floats", "last", "forced", "number", "block"] ["blocks", "flow"] (defScope s_vertical) := ⟨rfl, rfl, rfl, by decide +kernel, rfl, by decide +kernel, by decide +kernel⟩
set_option maxHeartbeats 1000000 in
theorem ok_vertical {f : Addr} {fd : FuncData} (F0 : Fun K "vertical" "vertical" s_vertical f fd) (T : Txt mg) (Cblock_rows : Cl P w K mg base CX0 "block_rows" 2 ["number", "block", "flow"] (spBlockRows K))
    (Ccost_between : Cl P w K mg base CX0 "cost_between" 1 ["upper", "lower", "forced", "flow"] (spCostBetween K)) (Cgap_between : Cl P w K mg base CX0 "gap_between" 2 ["upper", "lower", "flow"] (spGapBetween K)) :
    FnOk P w K mg base CX0 3 f fd ["blocks", "flow"] (spVertical K) := by
  refine F0.ok sc_vertical (fun vs H Q E h => ?_) (fun cdv A outer s H vs Q E hr h => ?_)
  · obtain ⟨_, _, _, _, _, _, rfl, _⟩ := h
    rfl
  · obtain ⟨vb, vf, F, g, c, bs, rfl, hF, ⟨pb, vbs, rfl, hBL, hBs⟩, ok, q⟩ := h
    have hu := hu_of hr
    refine ⟨_, (pss_cons (ps_set (i := 2) sc_vertical.nd rfl (Or.inl rfl) (pe_lst pa_nil))
      (pss_cons (ps_set (i := 3) sc_vertical.nd rfl (Or.inl rfl) (pe_lst pa_nil))
      (pss_cons (ps_set (i := 4) sc_vertical.nd rfl (Or.inl rfl) pe_int)
      (pss_cons (ps_set (i := 5) sc_vertical.nd rfl (Or.inl rfl) pe_non)
      (pss_cons (ps_set (i := 6) sc_vertical.nd rfl (Or.inl rfl) pe_bl)
      (pss_cons (ps_for PassesOwn.never rfl (pi_enum (by rfl) T.enumerate (pa_cons (pv 0) pa_nil)) (pg_tup (n := 2) rfl (pgs_cons (pg_name (i := 7) sc_vertical.nd rfl (Or.inl rfl)) (pgs_cons (pg_name (i := 8) sc_vertical.nd rfl (Or.inl rfl)) pgs_nil)))
        (pss_one (ps_if (pt_cmpR op_eq (pe_ix ix_tup (pv 8) pe_int (fun _ _ => rfl)) pe_str (nomark _))
          (pss_one (ps_set (i := 6) sc_vertical.nd rfl (Or.inl rfl) (pe_cmp (pc_notN (pv 5)))))
          (pss_one (ps_if (pt_cmpR op_eq (pe_ix ix_tup (pv 8) pe_int (fun _ _ => rfl)) pe_str (nomark _))
            (pss_cons (ps_expr (pe_bm PySem.F.plainAttrs_list PySem.F.slot_list_append PySem.F.type_list_append mt_append (pe_ifExp (pt_val (pv 6)) (pv 3) (pv 2)) (pa_cons (pe_tup (pa_cons pe_str (pa_cons (pv 4) pa_nil))) pa_nil)))
            (pss_one (ps_set (i := 4) sc_vertical.nd rfl (Or.inl rfl) (pe_op op_add (pv 4) pe_int))))
            (pss_cut (ps_if (pt_cmp (pc_notN (pv 5)))
              (pss_cons (ps_expr (pe_bm PySem.F.plainAttrs_list PySem.F.slot_list_append PySem.F.type_list_append mt_append (pv 2) (pa_cons (pe_tup (pa_cons pe_str (pa_cons (pe_cl Ccost_between hr (by rfl) pass0 (pa_cons (pv 5) (pa_cons (pv 8) (pa_cons (pv 6) (pa_cons (pv 1) pa_nil))))) pa_nil))) pa_nil)))
              (pss_one (ps_expr (pe_bm PySem.F.plainAttrs_list PySem.F.slot_list_append PySem.F.type_list_append mt_append (pv 2) (pa_cons (pe_cl Cgap_between hr (by rfl) pass0 (pa_cons (pv 5) (pa_cons (pv 8) (pa_cons (pv 1) pa_nil)))) pa_nil)))))
              pss_nil)
            (pss_cons (ps_expr (pe_bm PySem.F.plainAttrs_list PySem.F.slot_list_extend PySem.F.type_list_extend mt_extend (pv 2) (pa_cons (pe_op op_cat (pv 3) (pe_cl Cblock_rows hr (by rfl) pass0 (pa_cons (pv 7) (pa_cons (pv 8) (pa_cons (pv 1) pa_nil))))) pa_nil)))
            (pss_cons (ps_set (i := 3) sc_vertical.nd rfl (Or.inl rfl) (pe_lst pa_nil))
            (pss_cons (ps_set (i := 5) sc_vertical.nd rfl (Or.inl rfl) (pv 8))
            (pss_one (ps_set (i := 6) sc_vertical.nd rfl (Or.inl rfl) pe_bl)))))))))))
      (pss_one (ps_ret (pe_op op_cat (pv 2) (pv 3)))))))))), ?_⟩
    dsimp only [cxOf, L2.Cx.nox, L2.Cx.wish]
    walk_at "st"
    intro r nr
    walk_at "st"
    intro hl nhl
    have nrh : r ≠ hl := fun z => by rw [z, upd_same] at nhl; cases nhl
    have nhl0 : H hl = none := by rw [upd_ne nrh.symm] at nhl; exact nhl
    walk_at "st"
    walk_at "st"
    walk_at "st"
    walk_at "st"
    refine s_forE ?_
    walk_at "go"
    have s0 : Same H (upd (upd H r (.lst [])) hl (.lst [])) := (Same.new nr).put nhl0
    refine ⟨pb, vbs, rfl, s0.seq hBL, for_it walk_enum (fun i σ H2 => VInv K (.ref pb) vf vbs H r (vUp F bs i) σ H2) ⟨hl, [], [], .non, _, _, rfl, s0, nr, nhl0, nrh, by rw [upd_ne nrh, upd_same], upd_same, .nil, .nil, rfl⟩
      (fun i σ H2 _ ⟨_, _, _, _, _, _, _, s2, _⟩ => s2.seq hBL) ?_ ?_⟩
    · rintro i x σ H2 H3 hi ⟨hl, ws, hs, vl, v7, v8, rfl, s2, _, nhl, nrh, hw, hh, hws, hhs, hvl⟩ ⟨T1, z, y, rfl, nT, rfl, hz1, hy⟩
      obtain rfl : V.int i = z := Option.some.inj hz1
      obtain ⟨b, hb, hby⟩ := hBs.getV hy
      have hi' : i < bs.length := by rw [← hBs.len]; exact hi
      have eb : bs.getD i dBk = b := Option.some.inj ((getD_at hi').symm.trans hb)
      have e1 : vUp F bs (i + 1) = vstep F bs (vUp F bs i) i b := by rw [← eb]; rfl
      have hlen := vUp_len F bs ok i (by omega)
      have hlast := vUp_last F bs i (by omega)
      have hbm : b ∈ bs := List.mem_of_getElem? hb
      have few := ok.few
      generalize vUp F bs i = S at e1 hlen hlast hws hhs hvl ⊢
      have hwl := hws.len
      have hhl := hhs.len
      have s3 : Same H2 (upd H2 T1 (.tup [.int i, y])) := Same.new nT
      refine s_gtup (IsT.of upd_same) rfl ?_
      walk_at "go"
      generalize hH3 : upd H2 T1 (.tup [.int i, y]) = H3 at s3
      have hw3 := s3 _ _ hw
      have hh3 := s3 _ _ hh
      have hws3 := hws.ts (TSm.of s3)
      have hhs3 := hhs.ts (TSm.of s3)
      have s3' := s2.trans s3
      have hb3 := hby.mono s3'
      obtain ⟨xs0, hk0⟩ := hb3.kd0
      walk_at "go"
      refine s_ixT hk0 (atI_nat (j := 0) rfl) ?_
      walk_at "go"
      rw [kd_page]
      by_cases hpg : b.kd = .page
      · refine s_ifT (decide_eq_true hpg) ?_
        walk_at "go"
        have ef : (!decide (vl = V.non)) = S.last.isSome := by
          cases e : S.last with
          | none =>
            rw [e] at hvl
            rw [hvl]
            rfl
          | some j =>
            rw [e] at hvl
            obtain ⟨bj, _, hbj⟩ := hBs.getV hvl
            obtain ⟨t, et⟩ := hbj.ref
            exact lastV_non et
        rw [ef]
        show VInv K (.ref pb) vf vbs H r (vUp F bs (i + 1)) _ _
        rw [e1]
        unfold vstep
        rw [if_pos hpg]
        exact ⟨hl, ws, hs, vl, _, _, rfl, s3', nr, nhl, nrh, hw3, hh3, hws3, hhs3, hvl⟩
      refine s_ifF (decide_eq_false hpg) ?_
      walk_at "go"
      refine s_ixT hk0 (atI_nat (j := 0) rfl) ?_
      walk_at "go"
      rw [kd_float]
      by_cases hfl : b.kd = .float
      · refine s_ifT (decide_eq_true hfl) ?_
        walk_at "st"
        cases hfo : S.fo with
        | true =>
          refine s_ifT rfl ?_
          walk_at "go"
          intro p1 np1
          have s5 : Same H3 (upd H3 p1 (.tup [.str "float", .int S.fl])) := Same.new np1
          generalize hH5 : upd H3 p1 (.tup [.str "float", .int S.fl]) = H5 at s5
          have ht1 : H5 p1 = some (.tup [.str "float", .int S.fl]) := by rw [← hH5, upd_same]
          walk_at "go"
          refine s_append (s5 _ _ hh3) (by omega) ?_
          walk_at "go"
          have t6 : TSm H5 (upd H5 hl (.lst (hs ++ [.ref p1]))) := TSm.lst (s5 _ _ hh3)
          show VInv K (.ref pb) vf vbs H r (vUp F bs (i + 1)) _ _
          rw [e1]
          unfold vstep
          rw [if_neg hpg, if_pos hfl, if_pos hfo]
          refine ⟨hl, ws, _, vl, some (.int i), some y, ?_, (s3'.trans s5).put nhl, nr, nhl, nrh, by rw [upd_ne nrh]; exact s5 _ _ hw3, upd_same, (hws3.ts (TSm.of s5)).ts t6, ((hhs3.ts (TSm.of s5)).ts t6).snoc ((IsT.of ht1).mono t6), hvl⟩
          rw [hfo]
          rfl
        | false =>
          refine s_ifF rfl ?_
          walk_at "go"
          intro p1 np1
          have s5 : Same H3 (upd H3 p1 (.tup [.str "float", .int S.fl])) := Same.new np1
          generalize hH5 : upd H3 p1 (.tup [.str "float", .int S.fl]) = H5 at s5
          have ht1 : H5 p1 = some (.tup [.str "float", .int S.fl]) := by rw [← hH5, upd_same]
          walk_at "go"
          refine s_append (s5 _ _ hw3) (by omega) ?_
          walk_at "go"
          have t6 : TSm H5 (upd H5 r (.lst (ws ++ [.ref p1]))) := TSm.lst (s5 _ _ hw3)
          show VInv K (.ref pb) vf vbs H r (vUp F bs (i + 1)) _ _
          rw [e1]
          unfold vstep
          rw [if_neg hpg, if_pos hfl, if_neg (by rw [hfo]; exact Bool.false_ne_true)]
          refine ⟨hl, _, hs, vl, some (.int i), some y, ?_, (s3'.trans s5).put nr, nr, nhl, nrh, upd_same, by rw [upd_ne nrh.symm]; exact s5 _ _ hh3, ((hws3.ts (TSm.of s5)).ts t6).snoc ((IsT.of ht1).mono t6), (hhs3.ts (TSm.of s5)).ts t6, hvl⟩
          rw [hfo]
          rfl
      refine s_ifF (decide_eq_false hfl) ?_
      have htx := txt_of hpg hfl
      have hls := ok.ls b hbm htx
      refine s_cut (fun σ' H' => ∃ ws, σ' = [some (.ref pb), some vf, some (.ref r), some (.ref hl), some (.int S.fl), some vl, some (.bl S.fo), some (.int i), some y] ∧ Same H H' ∧ H' r = some (.lst ws) ∧ H' hl = some (.lst hs) ∧
        Ls (RwAt K H') ws (S.rows ++ between F bs S b) ∧ Ls (RwAt K H') hs S.held) ?_ ?_
      · walk_at "go"
        cases e : S.last with
        | none =>
          rw [e] at hvl
          refine s_ifF (by rw [hvl]; rfl) ?_
          walk_at "go"
          refine ⟨ws, rfl, s3', hw3, hh3, ?_, hhs3⟩
          unfold between
          rw [e]
          show Ls _ _ (S.rows ++ [])
          rw [List.append_nil]
          exact hws3
        | some j =>
          rw [e] at hvl
          obtain ⟨bj, hbj0, hbj⟩ := hBs.getV hvl
          obtain ⟨hj1, hj2⟩ := hlast j e
          have ebj : bs.getD j dBk = bj := Option.some.inj ((getD_at (by omega)).symm.trans hbj0)
          rw [ebj] at hj2
          obtain ⟨tj, etj⟩ := hbj.ref
          refine s_ifT (lastV_non etj) ?_
          walk_at "st"
          refine ⟨vl, y, vf, S.fo, F, g, c, bj, b, rfl, hF.mono s3', hbj.mono s3', hj2, hb3, htx, ?_⟩
          walk_at "go"
          intro p1 np1
          have s5 : Same H3 (upd H3 p1 (.tup [.str "cost", .int (costBetween F bj b S.fo)])) := Same.new np1
          generalize hH5 : upd H3 p1 (.tup [.str "cost", .int (costBetween F bj b S.fo)]) = H5 at s5
          have ht1 : H5 p1 = some (.tup [.str "cost", .int (costBetween F bj b S.fo)]) := by rw [← hH5, upd_same]
          walk_at "go"
          refine s_append (s5 _ _ hw3) (by omega) ?_
          have t6 : TSm H5 (upd H5 r (.lst (ws ++ [.ref p1]))) := TSm.lst (s5 _ _ hw3)
          have s6 : Same H (upd H5 r (.lst (ws ++ [.ref p1]))) := (s3'.trans s5).put nr
          have hws6 := ((hws3.ts (TSm.of s5)).ts t6).snoc (a := Rw.cost (costBetween F bj b S.fo)) ((IsT.of ht1).mono t6)
          have hhs6 := (hhs3.ts (TSm.of s5)).ts t6
          have hh6 : upd H5 r (.lst (ws ++ [.ref p1])) hl = some (.lst hs) := by rw [upd_ne nrh.symm]; exact s5 _ _ hh3
          generalize hH6 : upd H5 r (.lst (ws ++ [.ref p1])) = H6 at s6 hws6 hhs6 hh6
          have hw6 : H6 r = some (.lst (ws ++ [.ref p1])) := by rw [← hH6, upd_same]
          walk_at "go"
          refine ⟨vl, y, vf, F, g, c, bj, b, rfl, hF.mono s6, hbj.mono s6, hj2, hby.mono s6, htx, (ok.ls bj (List.mem_of_getElem? hbj0) hj2).1, hls.1, fun v7 H7 s7 hg7 => ?_⟩
          walk_at "go"
          refine s_append (s7 _ _ hw6) (by rw [List.length_append, List.length_singleton]; omega) ?_
          walk_at "go"
          have t8 : TSm H7 (upd H7 r (.lst (ws ++ [.ref p1] ++ [v7]))) := TSm.lst (s7 _ _ hw6)
          refine ⟨_, rfl, (s6.trans s7).put nr, upd_same, by rw [upd_ne nrh.symm]; exact s7 _ _ hh6, ?_, (hhs6.ts (TSm.of s7)).ts t8⟩
          have e2 : S.rows ++ between F bs S b = S.rows ++ [.cost (costBetween F bj b S.fo)] ++ [gapBetween F bj b] := by
            unfold between
            rw [e, List.append_assoc]
            show S.rows ++ [.cost (costBetween F (bs.getD j dBk) b S.fo), gapBetween F (bs.getD j dBk) b] = _
            rw [ebj]
            rfl
          rw [e2]
          exact ((hws6.ts (TSm.of s7)).ts t8).snoc (hg7.mono t8)
      · rintro σ' H4 ⟨ws4, rfl, s4, hw4, hh4, hws4, hhs4⟩
        have hwl4 := hws4.len
        have h2 := between_len F bs S b
        have h3 := blockRows_len F i b
        rw [List.length_append] at hwl4
        walk_at "st"
        refine ⟨y, vf, i, F, g, c, b, rfl, hF.mono s4, hby.mono s4, htx, by omega, fun p5 ws5 H5 s5 np5 hp5 hws5 => ?_⟩
        have hwl5 := hws5.len
        refine s_cat (s5 _ _ hh4) hp5 (by omega) fun p6 np6 => ?_
        have s6 : Same H5 (upd H5 p6 (.lst (hs ++ ws5))) := Same.new np6
        generalize hH6 : upd H5 p6 (.lst (hs ++ ws5)) = H6 at s6
        have hp6 : H6 p6 = some (.lst (hs ++ ws5)) := by rw [← hH6, upd_same]
        walk_at "go"
        have s46 := s5.trans s6
        have nr6 : r ≠ p6 := fun z => by
          rw [← z] at np6
          rw [s5 _ _ hw4] at np6
          cases np6
        refine s_extend (s46 _ _ hw4) hp6 (by rw [List.length_append]; omega) ?_
        have t7 : TSm H6 (upd H6 r (.lst (ws4 ++ (hs ++ ws5)))) := TSm.lst (s46 _ _ hw4)
        have s7 : Same H (upd H6 r (.lst (ws4 ++ (hs ++ ws5)))) := (s4.trans s46).put nr
        have hws7 := ((hws4.ts (TSm.of s46)).append ((hhs4.ts (TSm.of s46)).append (hws5.ts (TSm.of s6)))).ts t7
        generalize hH7 : upd H6 r (.lst (ws4 ++ (hs ++ ws5))) = H7 at s7 hws7
        have hw7 : H7 r = some (.lst (ws4 ++ (hs ++ ws5))) := by rw [← hH7, upd_same]
        walk_at "st"
        intro hl' nhl'
        have nr8 : r ≠ hl' := fun z => by
          rw [← z, hw7] at nhl'
          cases nhl'
        have s8 : Same H7 (upd H7 hl' (.lst [])) := Same.new nhl'
        walk_at "st"
        show VInv K (.ref pb) vf vbs H r (vUp F bs (i + 1)) _ _
        rw [e1]
        unfold vstep
        rw [if_neg hpg, if_neg hfl]
        refine ⟨hl', _, [], y, _, _, rfl, s7.trans s8, nr, s7.free nhl', nr8, s8 _ _ hw7, upd_same, hws7.ts (TSm.of s8), .nil, hy⟩
    · rintro σ H2 ⟨hl, ws, hs, vl, v7, v8, rfl, s2, _, nhl, nrh, hw, hh, hws, hhs, hvl⟩
      have hlen := vUp_len F bs ok bs.length (Nat.le_refl _)
      have few := ok.few
      rw [hBs.len] at hws hhs
      have hwl := hws.len
      have hhl := hhs.len
      walk_at "go"
      refine s_cat hw hh (by omega) fun p np => ?_
      have s3 : Same H2 (upd H2 p (.lst (ws ++ hs))) := Same.new np
      exact q _ _ (s2.trans s3) ⟨p, _, rfl, upd_same, (hws.append hhs).ts (TSm.of s3)⟩
end
end G
/-! counts_of, added, bad. -/
namespace G
open PySem L2
/-- goes on through a reading as far as it decides itself -/
local macro_rules | `(tactic| walk_at "fact") => `(tactic| first | assumption | ((refine tnew ?_ ?_); assumption; (first | assumption | ((refine tnew ?_ ?_); assumption; (first | assumption | ((refine tnew ?_ ?_); assumption; assumption))))) | ((refine tsame ?_ ?_); assumption; assumption))
local macro_rules | `(tactic| walk_at "go1") => `(tactic| first
  | with_reducible refine s_op ?_ | ((with_reducible refine s_var (v := ?v) ?e ?_); (case e => rfl)) | with_reducible refine s_c ?_
  | with_reducible refine s_cb ?_ | with_reducible refine s_cons ?_ | with_reducible refine s_nil ?_ | with_reducible refine s_ret ?_ | with_reducible refine s_asg ?_ | with_reducible refine s_gname ?_
  | with_reducible refine s_ifS ?_ | with_reducible refine s_test ?_ | with_reducible refine s_B ?_ | with_reducible refine s_bl ?_ | with_reducible refine s_and ?_ | with_reducible refine s_or ?_ | with_reducible refine s_not ?_ | with_reducible refine s_if ?_
  | with_reducible refine s_un ?_ | with_reducible refine s_U ?_ | with_reducible refine s_drop ?_ | with_reducible refine s_next ?_ | with_reducible refine s_tup ?_ | with_reducible refine s_lst ?_ | with_reducible refine s_call ?_ | with_reducible refine s_dget ?_
  | ((with_reducible refine s_len ?h ?_); (case h => rfl)) | with_reducible refine s_notN ?_ | with_reducible refine s_isN ?_ | with_reducible refine s_yes ?_ | with_reducible refine s_fld ?_ | with_reducible refine s_meth ?_ | with_reducible refine s_andV ?_ | with_reducible refine s_orV ?_ | with_reducible refine s_gsub ?_ | with_reducible refine s_chain ?_ | with_reducible refine s_chain3 ?_ | with_reducible refine s_sl ?_ | with_reducible refine s_part ?_ | with_reducible refine s_noPart ?_ | with_reducible refine s_exI ?_ | with_reducible refine s_bm ?_ | ((with_reducible refine s_tyL (xs := ?xs) ?h ?_); (case h => assumption)) | with_reducible refine s_gcons ?_ | with_reducible refine s_gnil ?_ | with_reducible refine s_brk ?_ | with_reducible refine s_cont ?_
  | ((with_reducible refine s_ixT (xs := ?xs) (w := ?w) ?h ?e ?_); (case h => walk_at "fact"); (case e => rfl))
  | with_reducible refine s_max2 ?_ | with_reducible refine s_min2 ?_ | with_reducible refine s_intI ?_ | with_reducible refine s_intB ?_ | with_reducible refine s_I0 ?_ | with_reducible refine s_eqI ?_ | with_reducible refine s_eqS ?_ | with_reducible refine s_neI ?_)
local macro_rules | `(tactic| walk_at "go") => `(tactic| repeat walk_at "go1")
/-- the next statement -/
local macro_rules | `(tactic| walk_at "st") => `(tactic| (walk_at "go"; (with_reducible refine s_seq ?_); walk_at "go"))
/-- the next statement, cut off by a word -/
local macro_rules | `(tactic| walk_at "cut") => `(tactic| with_reducible refine s_cut ?_ ?_ ?_)
section
variable {P : Program} {w : World} {K : PySem.W.Frag} {mg : Str → Option Value} {base : Heap}
def IntsAt (K : PySem.W.Frag) (H : Hp) (v : V) (ns : List Int) : Prop := ∃ p, v = .ref p ∧ SqL K H p (ns.map V.int)
theorem IntsAt.mono {H H' : Hp} {v : V} {ns : List Int} (e : Same H H') (h : IntsAt K H v ns) : IntsAt K H' v ns := let ⟨p, a, b⟩ := h; ⟨p, a, e.seq b⟩
theorem IntsAt.of {H : Hp} {p : Addr} {ns : List Int} (h : H p = some (.lst (ns.map V.int))) : IntsAt K H (.ref p) ns := ⟨p, rfl, SqL.of h⟩
/-! ### counts_of -/
def cB (bs : List Bool) : Nat → Int
  | 0 => 0
  | i + 1 => cB bs i + (if bs.getD i false = true then 1 else 0)
def countsUp (bs : List Bool) (i : Nat) : List Int := (List.range (i + 1)).map (cB bs)
theorem countsUp_succ (bs : List Bool) (i : Nat) : countsUp bs (i + 1) = countsUp bs i ++ [cB bs (i + 1)] := by
  unfold countsUp
  rw [List.range_succ, List.map_append]
  rfl
theorem countsUp_len (bs : List Bool) (i : Nat) : (countsUp bs i).length = i + 1 := by unfold countsUp; rw [List.length_map, List.length_range]
theorem countsUp_get (bs : List Bool) {i k : Nat} (h : k ≤ i) : (countsUp bs i)[k]? = some (cB bs k) := by
  unfold countsUp
  rw [List.getElem?_map, List.getElem?_range (by omega)]
  rfl
def counts (bs : List Bool) : List Int := countsUp bs bs.length
def spCounts (K : PySem.W.Frag) : Sp := fun vs H Q _ => ∃ (p : Addr) (bs : List Bool), vs = [.ref p] ∧ SqL K H p (bs.map V.bl) ∧ bs.length ≤ 100000 ∧ ∀ q H', Same H H' → H q = none → H' q = some (.lst ((counts bs).map V.int)) → Q (.ref q) H'
abbrev s_counts_of : Stmt := topS 15
theorem sc_counts_of : FnScope ["marks", "counts", "mark"] ["marks"] (defScope s_counts_of) := ⟨rfl, rfl, rfl, by decide +kernel, rfl, by decide +kernel, by decide +kernel⟩
theorem ok_counts_of {f : Addr} {fd : FuncData} (F0 : Fun K "counts_of" "counts_of" s_counts_of f fd) (T : Txt mg) : FnOk P w K mg base CX0 1 f fd ["marks"] (spCounts K) := by
  refine F0.ok sc_counts_of (fun vs H Q E h => ?_) (fun cdv A outer s H vs Q E hr h => ?_)
  · obtain ⟨_, _, rfl, _⟩ := h
    rfl
  · obtain ⟨p, bs, rfl, hL, hz, q⟩ := h
    refine ⟨_, (pss_cons (ps_set (i := 1) sc_counts_of.nd rfl (Or.inl rfl) (pe_lst (pa_cons pe_int pa_nil)))
      (pss_cons (ps_for PassesOwn.never rfl (pi_list (pv 0)) (pg_name (i := 2) sc_counts_of.nd rfl (Or.inl rfl))
        (pss_one (ps_expr (pe_bm PySem.F.plainAttrs_list PySem.F.slot_list_append PySem.F.type_list_append mt_append (pv 1) (pa_cons (pe_op op_add (pe_ix ix_list (pv 1) (pe_un un_neg pe_int) (fun _ _ => rfl)) (pe_callTy c_int1 (by rfl) T.int (by decide +kernel) (pa_cons (pv 2) pa_nil))) pa_nil)))))
      (pss_one (ps_ret (pv 1))))), ?_⟩
    dsimp only [cxOf, L2.Cx.nox, L2.Cx.wish]
    walk_at "st"
    intro r nr
    walk_at "st"
    refine s_forL ?_
    walk_at "go"
    have s0 : Same H (upd H r (.lst [.int 0])) := Same.new nr
    refine ⟨p, rfl, ⟨_, s0.seq hL⟩, for_it walk_list (fun i σ H2 => ∃ v2, σ = [some (.ref p), some (.ref r), v2] ∧ Same H H2 ∧ H2 r = some (.lst ((countsUp bs i).map V.int))) ⟨_, rfl, s0, upd_same⟩ (fun i σ H2 _ ⟨_, _, s2, _⟩ => s2.seq hL) ?_ ?_⟩
    · rintro i x σ H2 H3 hi ⟨v2, rfl, s2, hc⟩ ⟨rfl, hx⟩
      rw [List.length_map] at hi
      obtain rfl : x = .bl (bs.getD i false) := by
        rw [List.getElem?_map, getD_at (d := false) hi] at hx
        exact (Option.some.inj hx).symm
      walk_at "go"
      have hl : ((countsUp bs i).map V.int)[((countsUp bs i).map V.int).length - 1]? = some (.int (cB bs i)) := by
        rw [List.length_map, countsUp_len, List.getElem?_map, countsUp_get bs (by omega)]
        rfl
      refine s_ixL (SqL.of hc) (atI_last hl) ?_
      walk_at "go"
      refine s_append hc (by rw [List.length_map, countsUp_len]; omega) ?_
      refine ⟨_, rfl, s2.put nr, ?_⟩
      rw [upd_same, countsUp_succ, List.map_append]
      rfl
    · rintro σ H2 ⟨v2, rfl, s2, hc⟩
      rw [List.length_map] at hc
      walk_at "go"
      exact q r H2 s2 nr hc
/-! ### added -/
def spAdded (K : PySem.W.Frag) : Sp := fun vs H Q _ => ∃ (p : Addr) (v : V) (a b c d e f : Int), vs = [.ref p, v] ∧ SqL K H p [.int a, .int b, .int c] ∧ IsT K H v [.int d, .int e, .int f] ∧
  ∀ q H', Same H H' → H q = none → H' q = some (.lst [.int (a + d), .int (b + e), .int (c + f)]) → Q (.ref q) H'
abbrev s_added : Stmt := topS 16
theorem sc_added : FnScope ["first", "second"] ["first", "second"] (defScope s_added) := ⟨rfl, rfl, rfl, by decide +kernel, rfl, by decide +kernel, by decide +kernel⟩
theorem ok_added {f : Addr} {fd : FuncData} (F0 : Fun K "added" "added" s_added f fd) (T : Txt mg) : FnOk P w K mg base CX0 1 f fd ["first", "second"] (spAdded K) := by
  refine F0.ok sc_added (fun vs H Q E h => ?_) (fun cdv A outer s H vs Q E hr h => ?_)
  · obtain ⟨_, _, _, _, _, _, _, _, rfl, _⟩ := h
    rfl
  · obtain ⟨p, v, a, b, c, d, e, f, rfl, hL, hT, q⟩ := h
    refine ⟨_, (pss_one (ps_ret (pe_lst (pa_cons (pe_op op_add (pe_ix ix_list (pv 0) pe_int (fun _ _ => rfl)) (pe_ix ix_tup (pv 1) pe_int (fun _ _ => rfl))) (pa_cons (pe_op op_add (pe_ix ix_list (pv 0) pe_int (fun _ _ => rfl)) (pe_ix ix_tup (pv 1) pe_int (fun _ _ => rfl))) (pa_cons (pe_op op_add (pe_ix ix_list (pv 0) pe_int (fun _ _ => rfl)) (pe_ix ix_tup (pv 1) pe_int (fun _ _ => rfl))) pa_nil)))))), ?_⟩
    dsimp only [cxOf, L2.Cx.nox, L2.Cx.wish]
    walk_at "go"
    refine s_ixL (w := .int a) hL rfl ?_
    walk_at "go"
    refine s_ixL (w := .int b) hL rfl ?_
    walk_at "go"
    refine s_ixL (w := .int c) hL rfl ?_
    walk_at "go"
    intro r nr
    exact q r _ (Same.new nr) nr upd_same
/-! ### bad -/
def spBad (K : PySem.W.Frag) : Sp := fun vs H Q _ => ∃ (h a b c : Int) (l : Bool) (p : Addr), vs = [.int h, .ref p, .bl l] ∧ SqL K H p [.int a, .int b, .int c] ∧ (0 ≤ h ∧ h < 2 ^ 50) ∧ (0 ≤ a ∧ a < 2 ^ 50) ∧ (0 ≤ b ∧ b < 2 ^ 50) ∧ (0 ≤ c ∧ c < 2 ^ 50) ∧
  Q .non H ∧ ∀ z, a - c ≤ h → Q (.int z) H
theorem pow3 {x : Int} (h0 : 0 < x) (h : x < 2 ^ 50) : CDivW y (x ^ (3 : Int).toNat) := by
  have e : x ^ (3 : Int).toNat = x * x * x := by
    show x ^ 3 = x * x * x
    rw [Int.pow_succ, Int.pow_succ, Int.pow_succ, Int.pow_zero, Int.one_mul]
  have hx : x.natAbs < 2 ^ 50 := by omega
  rw [e]
  exact wide_div (b := 150) (Int.mul_pos (Int.mul_pos h0 h0) h0) (wide_lt (a := 100) (b := 50) (wide_lt (a := 50) (b := 50) hx hx) hx) (by decide) (by decide)
abbrev s_bad : Stmt := topS 17
theorem sc_bad : FnScope ["height", "total", "loose", "room"] ["height", "total", "loose"] (defScope s_bad) := ⟨rfl, rfl, rfl, by decide +kernel, rfl, by decide +kernel, by decide +kernel⟩
theorem ok_bad {f : Addr} {fd : FuncData} (F0 : Fun K "bad" "bad" s_bad f fd) (T : Txt mg) : FnOk P w K mg base CX0 1 f fd ["height", "total", "loose"] (spBad K) := by
  refine F0.ok sc_bad (fun vs H Q E h => ?_) (fun cdv A outer s H vs Q E hr h => ?_)
  · obtain ⟨_, _, _, _, _, _, rfl, _⟩ := h
    rfl
  · obtain ⟨h, a, b, c, l, p, rfl, hL, hh, ha, hb, hc, q1, q2⟩ := h
    have e0 : (2 : Int) ^ 50 = 1125899906842624 := by decide
    have e1 : (2 : Int) ^ 64 = 18446744073709551616 := by decide
    have e2 : (2 : Nat) ^ 64 = 18446744073709551616 := by decide
    refine ⟨_, (pss_cons (ps_set (i := 3) sc_bad.nd rfl (Or.inl rfl) (pe_op op_sub (pv 0) (pe_ix ix_list (pv 1) pe_int (fun _ _ => rfl))))
      (pss_cons (ps_if (pt_cmpR op_lt (pv 3) pe_int (nomark _))
        (pss_one (ps_ret (pe_ifExp (pt_cmpR op_lt (pe_ix ix_list (pv 1) pe_int (fun _ _ => rfl)) (pe_un un_neg (pv 3)) (nomark _)) pe_non (pe_op op_fdivW (pe_op op_mul pe_int (pe_op op_pow (pe_un un_neg (pv 3)) pe_int)) (pe_op op_pow (pe_ix ix_list (pv 1) pe_int (fun _ _ => rfl)) pe_int)))))
        pss_nil)
      (pss_cons (ps_if (PW.pt (pw_or (pt_val (pv 2)) (pw_or1 (pt_cmpR op_eq (pv 3) pe_int (nomark _)))))
        (pss_one (ps_ret pe_int))
        pss_nil)
      (pss_one (ps_ret (pe_ifExp (pt_cmpR op_eq (pe_ix ix_list (pv 1) pe_int (fun _ _ => rfl)) pe_int (nomark _)) (pe_gI rfl T.gWORST) (pe_callB (c_min2 rfl) (by rfl) T.min (by decide +kernel) (pa_cons (pe_gI rfl T.gWORST) (pa_cons (pe_op op_fdivW (pe_op op_mul pe_int (pe_op op_pow (pv 3) pe_int)) (pe_op op_pow (pe_ix ix_list (pv 1) pe_int (fun _ _ => rfl)) pe_int)) pa_nil))))))))), ?_⟩
    dsimp only [cxOf, L2.Cx.nox, L2.Cx.wish]
    walk_at "st"
    refine s_ixL (w := .int a) hL rfl ?_
    walk_at "st"
    by_cases h1 : h - a < 0
    · refine s_ifT (decide_eq_true h1) ?_
      walk_at "go"
      refine s_ixL (w := .int c) hL rfl ?_
      walk_at "go"
      by_cases h2 : c < -(h - a)
      · refine s_ifT (decide_eq_true h2) ?_
        walk_at "go"
        exact q1
      · refine s_ifF (decide_eq_false h2) ?_
        walk_at "go"
        refine s_I ⟨by decide, by decide, by omega⟩ ?_
        refine s_I (.inl ⟨by decide, by decide⟩) ?_
        walk_at "go"
        refine s_ixL (w := .int c) hL rfl ?_
        walk_at "go"
        refine s_I ⟨by decide, by decide, by omega⟩ ?_
        refine s_I (pow3 (by omega) hc.2) ?_
        exact q2 _ (by omega)
    refine s_ifF (decide_eq_false h1) ?_
    walk_at "st"
    have le : a - c ≤ h := by omega
    cases l with
    | true =>
      refine s_ifT rfl ?_
      refine s_ifT rfl ?_
      walk_at "go"
      exact q2 _ le
    | false =>
      refine s_ifF rfl ?_
      walk_at "go"
      by_cases h3 : h - a = 0
      · refine s_ifT (by rw [h3]; exact decide_eq_true rfl) ?_
        walk_at "go"
        exact q2 _ le
      · refine s_ifF (decide_eq_false fun z => h3 (V.int.inj z)) ?_
        walk_at "go"
        refine s_ixL (w := .int b) hL rfl ?_
        walk_at "go"
        by_cases h4 : b = 0
        · refine s_ifT (by rw [h4]; exact decide_eq_true rfl) ?_
          walk_at "go"
          exact q2 _ le
        · refine s_ifF (decide_eq_false fun z => h4 (V.int.inj z)) ?_
          walk_at "go"
          refine s_I ⟨by decide, by decide, by omega⟩ ?_
          refine s_I (.inl ⟨by decide, by decide⟩) ?_
          walk_at "go"
          refine s_ixL (w := .int b) hL rfl ?_
          walk_at "go"
          refine s_I ⟨by decide, by decide, by omega⟩ ?_
          refine s_I (pow3 (by omega) hb.2) ?_
          walk_at "go"
          exact q2 _ le
end
end G
/-! A sheet: its data, its instance; parts, is_forced, cost_at. -/
namespace G
open PySem L2
/-- goes on through a reading as far as it decides itself -/
local macro_rules | `(tactic| walk_at "fact") => `(tactic| first | assumption | ((refine tnew ?_ ?_); assumption; (first | assumption | ((refine tnew ?_ ?_); assumption; (first | assumption | ((refine tnew ?_ ?_); assumption; assumption))))) | ((refine tsame ?_ ?_); assumption; assumption))
local macro_rules | `(tactic| walk_at "go1") => `(tactic| first
  | with_reducible refine s_op ?_ | ((with_reducible refine s_var (v := ?v) ?e ?_); (case e => rfl)) | with_reducible refine s_c ?_
  | with_reducible refine s_cb ?_ | with_reducible refine s_cons ?_ | with_reducible refine s_nil ?_ | with_reducible refine s_ret ?_ | with_reducible refine s_asg ?_ | with_reducible refine s_gname ?_
  | with_reducible refine s_ifS ?_ | with_reducible refine s_test ?_ | with_reducible refine s_B ?_ | with_reducible refine s_bl ?_ | with_reducible refine s_and ?_ | with_reducible refine s_or ?_ | with_reducible refine s_not ?_ | with_reducible refine s_if ?_
  | with_reducible refine s_un ?_ | with_reducible refine s_U ?_ | with_reducible refine s_drop ?_ | with_reducible refine s_next ?_ | with_reducible refine s_tup ?_ | with_reducible refine s_lst ?_ | with_reducible refine s_call ?_ | with_reducible refine s_dget ?_
  | ((with_reducible refine s_len ?h ?_); (case h => rfl)) | with_reducible refine s_notN ?_ | with_reducible refine s_isN ?_ | with_reducible refine s_yes ?_ | with_reducible refine s_fld ?_ | with_reducible refine s_meth ?_ | with_reducible refine s_andV ?_ | with_reducible refine s_orV ?_ | with_reducible refine s_gsub ?_ | with_reducible refine s_chain ?_ | with_reducible refine s_chain3 ?_ | with_reducible refine s_sl ?_ | with_reducible refine s_part ?_ | with_reducible refine s_noPart ?_ | with_reducible refine s_exI ?_ | with_reducible refine s_bm ?_ | ((with_reducible refine s_tyL (xs := ?xs) ?h ?_); (case h => assumption)) | with_reducible refine s_gcons ?_ | with_reducible refine s_gnil ?_ | with_reducible refine s_brk ?_ | with_reducible refine s_cont ?_
  | ((with_reducible refine s_ixT (xs := ?xs) (w := ?w) ?h ?e ?_); (case h => walk_at "fact"); (case e => rfl))
  | with_reducible refine s_max2 ?_ | with_reducible refine s_min2 ?_ | with_reducible refine s_intI ?_ | with_reducible refine s_intB ?_ | with_reducible refine s_I0 ?_ | with_reducible refine s_eqI ?_ | with_reducible refine s_eqS ?_ | with_reducible refine s_neI ?_)
local macro_rules | `(tactic| walk_at "go") => `(tactic| repeat walk_at "go1")
/-- the next statement -/
local macro_rules | `(tactic| walk_at "st") => `(tactic| (walk_at "go"; (with_reducible refine s_seq ?_); walk_at "go"))
/-- the next statement, cut off by a word -/
local macro_rules | `(tactic| walk_at "cut") => `(tactic| with_reducible refine s_cut ?_ ?_ ?_)
/-! ### a sheet as data -/
structure Sh where
  rows : List Rw
  notes : List Int
  floats : List Int
  F : Fw
def dRw : Rw := .cost 0
def isLine : Rw → Bool
  | .line .. => true
  | _ => false
def isFloat : Rw → Bool
  | .float _ => true
  | _ => false
def isEnd : Rw → Bool
  | .cost c => decide (c < 10000)
  | _ => false
def isForced : Rw → Bool
  | .cost c => decide (c ≤ -10000)
  | _ => false
def posBy (p : Rw → Bool) (d : Int) (rs : List Rw) : Nat → List Int
  | 0 => []
  | i + 1 => posBy p d rs i ++ (if p (rs.getD i dRw) = true then [(i : Int) + d] else [])
theorem posBy_len (p : Rw → Bool) (d : Int) (rs : List Rw) : ∀ i, (posBy p d rs i).length ≤ i
  | 0 => Nat.le_refl _
  | i + 1 => by
    have h := posBy_len p d rs i
    show (posBy p d rs i ++ _).length ≤ _
    rw [List.length_append]
    split
    · rw [List.length_singleton]; omega
    · rw [List.length_nil]; omega
def parts (notes : List Int) : Rw → List Int
  | .gap h s k => [h, s, k, 0, 0]
  | .line _ _ h d ns => [h + d, 0, 0, (ns.map fun n => notes.getD n.toNat 0).sum, ns.length]
  | _ => [0, 0, 0, 0, 0]
def Sh.n (S : Sh) : Nat := S.rows.length
def Sh.ends (S : Sh) : List Int := posBy isEnd 1 S.rows S.n ++ [(S.n : Int)]
def Sh.places (S : Sh) : List Int := posBy isFloat 0 S.rows S.n
def Sh.lines (S : Sh) : List Int := posBy isLine 0 S.rows S.n
def Sh.start (S : Sh) : Int := if S.lines = [] then S.n else 0
def Sh.sumV (S : Sh) : Nat → List Int
  | 0 => [0, 0, 0, 0, 0]
  | i + 1 => List.zipWith (· + ·) (S.sumV i) (parts S.notes (S.rows.getD i dRw))
def Sh.sums (S : Sh) (i : Nat) : List (List Int) := (List.range (i + 1)).map S.sumV
def Sh.above (S : Sh) : List Int := counts (S.rows.map isLine)
def Sh.forced (S : Sh) : List Int := counts (S.rows.map isForced)
/-! ### its instance -/
structure Sv where
  (r n f w en es pl li st su ab fo : V)
def svFs (v : Sv) : List (Str × V) := [("rows", v.r), ("notes", v.n), ("floats", v.f), ("flow", v.w), ("end", v.en), ("ends", v.es), ("places", v.pl), ("lines", v.li), ("start", v.st), ("sums", v.su), ("above", v.ab), ("forced", v.fo)]
theorem fl_rows (v : Sv) : (svFs v).lookup ("rows" : Str) = some v.r := by rfl
theorem fl_notes (v : Sv) : (svFs v).lookup ("notes" : Str) = some v.n := by rfl
theorem fl_floats (v : Sv) : (svFs v).lookup ("floats" : Str) = some v.f := by rfl
theorem fl_flow (v : Sv) : (svFs v).lookup ("flow" : Str) = some v.w := by rfl
theorem fl_end (v : Sv) : (svFs v).lookup ("end" : Str) = some v.en := by rfl
theorem fl_ends (v : Sv) : (svFs v).lookup ("ends" : Str) = some v.es := by rfl
theorem fl_places (v : Sv) : (svFs v).lookup ("places" : Str) = some v.pl := by rfl
theorem fl_lines (v : Sv) : (svFs v).lookup ("lines" : Str) = some v.li := by rfl
theorem fl_start (v : Sv) : (svFs v).lookup ("start" : Str) = some v.st := by rfl
theorem fl_sums (v : Sv) : (svFs v).lookup ("sums" : Str) = some v.su := by rfl
theorem fl_above (v : Sv) : (svFs v).lookup ("above" : Str) = some v.ab := by rfl
theorem fl_forced (v : Sv) : (svFs v).lookup ("forced" : Str) = some v.fo := by rfl
theorem fm_parts (v : Sv) : (svFs v).lookup ("parts" : Str) = none := by rfl
theorem fm_is_forced (v : Sv) : (svFs v).lookup ("is_forced" : Str) = none := by rfl
theorem fm_cost_at (v : Sv) : (svFs v).lookup ("cost_at" : Str) = none := by rfl
theorem fm_text (v : Sv) : (svFs v).lookup ("text" : Str) = none := by rfl
theorem fm_whole (v : Sv) : (svFs v).lookup ("whole" : Str) = none := by rfl
theorem fm_waiting (v : Sv) : (svFs v).lookup ("waiting" : Str) = none := by rfl
theorem fm_has_place (v : Sv) : (svFs v).lookup ("has_place" : Str) = none := by rfl
theorem fm_cost (v : Sv) : (svFs v).lookup ("cost" : Str) = none := by rfl
theorem fm_onward (v : Sv) : (svFs v).lookup ("onward" : Str) = none := by rfl
/-- the class, as the top has made it -/
structure SC (K : PySem.W.Frag) (C : Addr) : Prop where
  cls : Cls K C
  n_rows : NoAttr K C "rows"
  n_notes : NoAttr K C "notes"
  n_floats : NoAttr K C "floats"
  n_flow : NoAttr K C "flow"
  n_end : NoAttr K C "end"
  n_ends : NoAttr K C "ends"
  n_places : NoAttr K C "places"
  n_lines : NoAttr K C "lines"
  n_start : NoAttr K C "start"
  n_sums : NoAttr K C "sums"
  n_above : NoAttr K C "above"
  n_forced : NoAttr K C "forced"
def SumsAt (K : PySem.W.Frag) (H : Hp) (v : V) (ss : List (List Int)) : Prop := ∃ p vs, v = .ref p ∧ SqL K H p vs ∧ Ls (IntsAt K H) vs ss
theorem SumsAt.mono {K : PySem.W.Frag} {H H' : Hp} {v : V} {ss : List (List Int)} (e : Same H H') (h : SumsAt K H v ss) : SumsAt K H' v ss := let ⟨p, vs, a, b, c⟩ := h; ⟨p, vs, a, e.seq b, c.mono fun _ _ z => z.mono e⟩
def RowsAt (K : PySem.W.Frag) (H : Hp) (v : V) (rs : List Rw) : Prop := ∃ p vs, v = .ref p ∧ SqL K H p vs ∧ Ls (RwAt K H) vs rs
theorem RowsAt.mono {K : PySem.W.Frag} {H H' : Hp} {v : V} {rs : List Rw} (e : Same H H') (h : RowsAt K H v rs) : RowsAt K H' v rs := let ⟨p, vs, a, b, c⟩ := h; ⟨p, vs, a, e.seq b, c.ts (TSm.of e)⟩
structure ShB (K : PySem.W.Frag) (C : Addr) (H : Hp) (x : Addr) (S : Sh) (dx : Addr) (v : Sv) : Prop where
  ins : H x = some (.ins C dx (svFs v))
  rows : RowsAt K H v.r S.rows
  notes : IntsAt K H v.n S.notes
  floats : IntsAt K H v.f S.floats
  flow : ∃ g c, FwAt K H v.w S.F g c
  en : v.en = .int S.n
  ends : IntsAt K H v.es S.ends
  places : IntsAt K H v.pl S.places
  lines : IntsAt K H v.li S.lines
  st : v.st = .int S.start
  sums : SumsAt K H v.su (S.sums S.n)
  above : IntsAt K H v.ab S.above
  forced : IntsAt K H v.fo S.forced
theorem ShB.mono {K : PySem.W.Frag} {C : Addr} {H H' : Hp} {x : Addr} {S : Sh} {dx : Addr} {v : Sv} (e : Same H H') (h : ShB K C H x S dx v) : ShB K C H' x S dx v :=
  ⟨e _ _ h.ins, h.rows.mono e, h.notes.mono e, h.floats.mono e, let ⟨g, c, z⟩ := h.flow; ⟨g, c, z.mono e⟩, h.en, h.ends.mono e, h.places.mono e, h.lines.mono e, h.st, h.sums.mono e, h.above.mono e, h.forced.mono e⟩
def ShAt (K : PySem.W.Frag) (C : Addr) (H : Hp) (x : Addr) (S : Sh) : Prop := ∃ dx v, ShB K C H x S dx v
theorem ShAt.mono {K : PySem.W.Frag} {C : Addr} {H H' : Hp} {x : Addr} {S : Sh} (e : Same H H') (h : ShAt K C H x S) : ShAt K C H' x S := let ⟨dx, v, z⟩ := h; ⟨dx, v, z.mono e⟩
def Rw.ns : Rw → List Int
  | .line _ _ _ _ ns => ns
  | _ => []
/-- sizes -/
def Sz (x : Int) : Prop := 0 ≤ x ∧ x ≤ 1000
structure ShOk (S : Sh) : Prop where
  few : S.rows.length ≤ 1000
  nfew : ∀ r ∈ S.rows, r.ns.length ≤ 1000
  nts : ∀ r ∈ S.rows, ∀ n ∈ r.ns, 0 ≤ n ∧ n.toNat < S.notes.length
  psz : ∀ r ∈ S.rows, ∀ z ∈ parts S.notes r, 0 ≤ z ∧ z ≤ 1000000
  fl : S.places.length = S.floats.length
  fsz : ∀ z ∈ S.floats, Sz z
  gsz : ∀ n, Sz (S.F.gap n).h ∧ Sz (S.F.gap n).s ∧ Sz (S.F.gap n).k
  hsz : Sz S.F.height
  msz : Sz S.F.most
  lsz : 0 ≤ S.F.cost .late ∧ S.F.cost .late ≤ 10000
/-- the text at the beginning of a row -/
def Rw.str : Rw → Str
  | .line .. => "line" | .cost _ => "cost" | .gap .. => "gap" | .float _ => "float"
section
variable {P : Program} {w : World} {K : PySem.W.Frag} {mg : Str → Option Value} {base : Heap} {C : Addr}
/-! ### parts -/
def spParts (K : PySem.W.Frag) (C : Addr) : Sp := fun vs H Q _ => ∃ (x dx : Addr) (fs : List (Str × V)) (vn vr : V) (notes : List Int) (r : Rw), vs = [.ref x, vr] ∧ H x = some (.ins C dx fs) ∧ fs.lookup ("notes" : Str) = some vn ∧ IntsAt K H vn notes ∧ RwAt K H vr r ∧
  (∀ n ∈ r.ns, 0 ≤ n ∧ n.toNat < notes.length) ∧ r.ns.length ≤ 1000 ∧ ∀ p H', Same H H' → H p = none → H' p = some (.lst ((parts notes r).map V.int)) → Q (.ref p) H'
abbrev s_Sheet_parts : Stmt := inClass (topS 14) 1
theorem sc_Sheet_parts : FnScope ["self", "row", "number"] ["self", "row"] (defScope s_Sheet_parts) := ⟨rfl, rfl, rfl, by decide +kernel, rfl, by decide +kernel, by decide +kernel⟩
theorem ok_parts {f : Addr} {fd : FuncData} (F0 : Fun K "parts" "Sheet.parts" s_Sheet_parts f fd) (T : Txt mg) (SK : SC K C) : FnOk P w K mg base CX0 1 f fd ["self", "row"] (spParts K C) := by
  refine F0.ok sc_Sheet_parts (fun vs H Q E h => ?_) (fun cdv A outer s H vs Q E hr h => ?_)
  · obtain ⟨_, _, _, _, _, _, _, rfl, _⟩ := h
    rfl
  · obtain ⟨x, dx, fs, vn, vr, notes, r, rfl, hx, hfn, ⟨pn, rfl, hn⟩, hR, hns, hz, q⟩ := h
    refine ⟨_, (pss_cons (ps_if (pt_cmpR op_eq (pe_ix ix_tup (pv 1) pe_int (fun _ _ => rfl)) pe_str (nomark _))
        (pss_one (ps_ret (pe_lst (pa_cons (pe_ix ix_tup (pv 1) pe_int (fun _ _ => rfl)) (pa_cons (pe_ix ix_tup (pv 1) pe_int (fun _ _ => rfl)) (pa_cons (pe_ix ix_tup (pv 1) pe_int (fun _ _ => rfl)) (pa_cons pe_int (pa_cons pe_int pa_nil))))))))
        pss_nil)
      (pss_cons (ps_if (pt_cmpR op_eq (pe_ix ix_tup (pv 1) pe_int (fun _ _ => rfl)) pe_str (nomark _))
        (pss_one (ps_ret (pe_lst (pa_cons (pe_op op_add (pe_ix ix_tup (pv 1) pe_int (fun _ _ => rfl)) (pe_ix ix_tup (pv 1) pe_int (fun _ _ => rfl))) (pa_cons pe_int (pa_cons pe_int (pa_cons (pe_callB (cr_sum rfl) (by rfl) T.sum (by decide +kernel) (pa_cons (pe_lc (own := [("number", 2)]) (g := (gName 2)) (tt := tYes) (te := (tOp (rIxL K) (tFld K (tVar 0) "notes") (tVar 2))) rfl sc_Sheet_parts.nd (pi_tup (pe_ix ix_tup (pv 1) pe_int (fun _ _ => rfl))) (blkOk_by (by kernel_rfl)) (fun _ _ _ _ _ => (pg_name (i := 2) sc_Sheet_parts.nd rfl (Or.inl rfl))) (fun _ _ _ _ _ => pts_nil) (fun _ _ _ _ _ => (pe_ix ix_list (pe_fld (pv 0) rfl) (pv 2) (fun _ _ => rfl)))) pa_nil)) (pa_cons (pe_callB c_len (by rfl) T.len (by decide +kernel) (pa_cons (pe_ix ix_tup (pv 1) pe_int (fun _ _ => rfl)) pa_nil)) pa_nil))))))))
        pss_nil)
      (pss_one (ps_ret (pe_lst (pa_cons pe_int (pa_cons pe_int (pa_cons pe_int (pa_cons pe_int (pa_cons pe_int pa_nil)))))))))), ?_⟩
    dsimp only [cxOf, L2.Cx.nox, L2.Cx.wish]
    walk_at "st"
    cases r with
    | gap h1 s1 k1 =>
      obtain hR : IsT K H vr [.str "gap", .int h1, .int s1, .int k1] := hR
      walk_at "go"
      refine s_ifT (by decide +kernel) ?_
      walk_at "go"
      intro p np
      exact q p _ (Same.new np) np upd_same
    | cost c1 =>
      obtain hR : IsT K H vr [.str "cost", .int c1] := hR
      walk_at "go"
      refine s_ifF (by decide +kernel) ?_
      walk_at "st"
      refine s_ifF (by decide +kernel) ?_
      walk_at "go"
      intro p np
      exact q p _ (Same.new np) np upd_same
    | float n1 =>
      obtain hR : IsT K H vr [.str "float", .int n1] := hR
      walk_at "go"
      refine s_ifF (by decide +kernel) ?_
      walk_at "st"
      refine s_ifF (by decide +kernel) ?_
      walk_at "go"
      intro p np
      exact q p _ (Same.new np) np upd_same
    | line b1 l1 h1 d1 ns =>
      obtain ⟨tn0, hR, tn, rfl, hN⟩ := hR
      walk_at "go"
      refine s_ifF (by decide +kernel) ?_
      walk_at "st"
      refine s_ifT (by decide +kernel) ?_
      walk_at "go"
      refine s_lcT ?_
      walk_at "go"
      refine ⟨tn, rfl, ⟨_, hN⟩, fun D nD => lc_it walk_tup (fun i H2 => Same H H2 ∧ H2 D = some (.lst (((ns.take i).map fun n => notes.getD n.toNat 0).map V.int))) ⟨Same.new nD, upd_same⟩ (fun i H2 _ h => sqT h.1 hN) ?_ ?_⟩
      · rintro i y H2 H3 hi ⟨s2, hD⟩ ⟨rfl, hy⟩
        rw [List.length_map] at hi
        have hni : ns[i]? = some (ns.getD i 0) := getD_at hi
        obtain rfl : y = .int (ns.getD i 0) := by
          rw [List.getElem?_map, hni] at hy
          exact (Option.some.inj hy).symm
        obtain ⟨h0, h2⟩ := hns _ (List.mem_of_getElem? hni)
        walk_at "go"
        refine ⟨rfl, ?_⟩
        walk_at "go"
        refine s_ifT rfl ?_
        walk_at "go"
        refine s_fldAt (s2 _ _ hx) SK.cls SK.n_notes hfn ?_
        walk_at "go"
        refine s_ixL (w := .int (notes.getD (ns.getD i 0).toNat 0)) (s2.seq hn) (at_of (j := (ns.getD i 0).toNat) (by omega) (by rw [List.getElem?_map, getD_at h2]; rfl)) ?_
        have hz : ns.length ≤ 1000 := hz
        refine ⟨_, hD, lt1M (by rw [List.length_map, List.length_map, List.length_take]; omega), ?_⟩
        refine ⟨s2.put nD, ?_⟩
        rw [upd_same, List.take_add_one, hni, List.map_append, List.map_append]
        rfl
      · rintro H2 ⟨s2, hD⟩
        rw [List.length_map, List.take_of_length_le (Nat.le_refl _)] at hD
        walk_at "go"
        refine s_sum (SqL.of hD) ?_
        have hR2 := tsame s2 hR
        walk_at "go"
        refine s_lenT (sqT s2 hN) ?_
        walk_at "go"
        intro p np
        refine q p _ (s2.trans (Same.new np)) (s2.free np) ?_
        rw [upd_same, List.length_map]
        rfl
/-- every row has an int behind its text -/
theorem RwAt.one {H : Hp} {v : V} {r : Rw} (h : RwAt K H v r) : ∃ z xs, IsT K H v (.str r.str :: .int z :: xs) := by
  cases r with
  | line => obtain ⟨n, a, _⟩ := h; exact ⟨_, _, a⟩
  | cost => exact ⟨_, _, h⟩
  | gap => exact ⟨_, _, h⟩
  | float => exact ⟨_, _, h⟩
/-! ### is_forced, cost_at: only that they answer -/
def spIsForced (K : PySem.W.Frag) (C : Addr) : Sp := fun vs H Q _ => ∃ (x : Addr) (S : Sh) (last : Nat), vs = [.ref x, .int last] ∧ ShAt K C H x S ∧ last ≤ S.n ∧ (0 < last ∨ S.n = 0) ∧ ∀ b, Q (.bl b) H
abbrev s_Sheet_is_forced : Stmt := inClass (topS 14) 2
theorem sc_Sheet_is_forced : FnScope ["self", "last"] ["self", "last"] (defScope s_Sheet_is_forced) := ⟨rfl, rfl, rfl, by decide +kernel, rfl, by decide +kernel, by decide +kernel⟩
theorem ok_is_forced {f : Addr} {fd : FuncData} (F0 : Fun K "is_forced" "Sheet.is_forced" s_Sheet_is_forced f fd) (T : Txt mg) (SK : SC K C) : FnOk P w K mg base CX0 1 f fd ["self", "last"] (spIsForced K C) := by
  refine F0.ok sc_Sheet_is_forced (fun vs H Q E h => ?_) (fun cdv A outer s H vs Q E hr h => ?_)
  · obtain ⟨_, _, _, rfl, _⟩ := h
    rfl
  · obtain ⟨x, S, last, rfl, ⟨dx, v, B⟩, hl, h0, q⟩ := h
    refine ⟨_, (pss_one (ps_ret (pe_and (pe_cmpR op_lt (pv 1) (pe_fld (pv 0) rfl) (nomark _)) (pe_one (pe_cmpR op_le (pe_ix ix_tup (pe_ix ix_list (pe_fld (pv 0) rfl) (pe_op op_sub (pv 1) pe_int) (fun _ _ => rfl)) pe_int (fun _ _ => rfl)) (pe_gI rfl T.gFORCED) (nomark _)))))), ?_⟩
    dsimp only [cxOf, L2.Cx.nox, L2.Cx.wish]
    walk_at "go"
    refine s_fldAt B.ins SK.cls SK.n_end (fl_end v) ?_
    rw [B.en]
    walk_at "go"
    by_cases h1 : (last : Int) < S.n
    · refine s_ifT (decide_eq_true h1) ?_
      obtain ⟨pr, vsr, er, hL, hRs⟩ := B.rows
      have hi : last - 1 < S.rows.length := by
        have : S.n = S.rows.length := rfl
        omega
      obtain ⟨vr, hvr, hvr2⟩ := hRs.get (List.getElem?_eq_getElem hi)
      obtain ⟨z, xs, ht⟩ := hvr2.one
      walk_at "go"
      refine s_fldAt B.ins SK.cls SK.n_rows (fl_rows v) ?_
      rw [er]
      walk_at "go"
      refine s_ixL (w := vr) hL (at_of (j := last - 1) (by have : S.n = S.rows.length := rfl; omega) hvr) ?_
      walk_at "go"
      refine s_ixT (w := .int z) ht (atI_nat (j := 1) rfl) ?_
      walk_at "go"
      exact q _
    · refine s_ifF (decide_eq_false h1) ?_
      exact q _
def spCostAt (K : PySem.W.Frag) (C : Addr) : Sp := fun vs H Q _ => ∃ (x : Addr) (S : Sh) (last : Nat), vs = [.ref x, .int last] ∧ ShAt K C H x S ∧ last ≤ S.n ∧ (0 < last ∨ S.n = 0) ∧ ∀ z, Q (.int z) H
abbrev s_Sheet_cost_at : Stmt := inClass (topS 14) 3
theorem sc_Sheet_cost_at : FnScope ["self", "last"] ["self", "last"] (defScope s_Sheet_cost_at) := ⟨rfl, rfl, rfl, by decide +kernel, rfl, by decide +kernel, by decide +kernel⟩
theorem ok_cost_at {f : Addr} {fd : FuncData} (F0 : Fun K "cost_at" "Sheet.cost_at" s_Sheet_cost_at f fd) (T : Txt mg) (SK : SC K C) (Mis_forced : Cm P w K mg base C "is_forced" 1 ["self", "last"] (spIsForced K C)) : FnOk P w K mg base CX0 2 f fd ["self", "last"] (spCostAt K C) := by
  refine F0.ok sc_Sheet_cost_at (fun vs H Q E h => ?_) (fun cdv A outer s H vs Q E hr h => ?_)
  · obtain ⟨_, _, _, rfl, _⟩ := h
    rfl
  · obtain ⟨x, S, last, rfl, ⟨dx, v, B⟩, hl, h0, q⟩ := h
    refine ⟨_, (pss_one (ps_ret (pe_ifExp (PW.pt (pw_or (pt_cmpR op_eq (pv 1) (pe_fld (pv 0) rfl) (nomark _)) (pw_or1 (pt_val (pe_cm Mis_forced hr pass0 (pv 0) (pa_cons (pv 1) pa_nil)))))) pe_int (pe_ix ix_tup (pe_ix ix_list (pe_fld (pv 0) rfl) (pe_op op_sub (pv 1) pe_int) (fun _ _ => rfl)) pe_int (fun _ _ => rfl))))), ?_⟩
    dsimp only [cxOf, L2.Cx.nox, L2.Cx.wish]
    walk_at "go"
    refine s_fldAt B.ins SK.cls SK.n_end (fl_end v) ?_
    rw [B.en]
    walk_at "go"
    by_cases h1 : (last : Int) = S.n
    · refine s_ifT (by rw [h1]; exact decide_eq_true rfl) ?_
      refine s_ifT rfl ?_
      walk_at "go"
      exact q _
    · refine s_ifF (decide_eq_false fun z => h1 (V.int.inj z)) ?_
      walk_at "go"
      refine ⟨x, dx, _, rfl, B.ins, fm_is_forced v, ?_⟩
      walk_at "go"
      refine ⟨x, S, last, rfl, ⟨dx, v, B⟩, hl, h0, fun b => ?_⟩
      walk_at "go"
      cases b with
      | true =>
        refine s_ifT rfl ?_
        walk_at "go"
        exact q _
      | false =>
        refine s_ifF rfl ?_
        obtain ⟨pr, vsr, er, hL, hRs⟩ := B.rows
        have hi : last - 1 < S.rows.length := by
          have : S.n = S.rows.length := rfl
          omega
        obtain ⟨vr, hvr, hvr2⟩ := hRs.get (List.getElem?_eq_getElem hi)
        obtain ⟨z, xs, ht⟩ := hvr2.one
        walk_at "go"
        refine s_fldAt B.ins SK.cls SK.n_rows (fl_rows v) ?_
        rw [er]
        walk_at "go"
        refine s_ixL (w := vr) hL (at_of (j := last - 1) (by have : S.n = S.rows.length := rfl; omega) hvr) ?_
        walk_at "go"
        refine s_ixT (w := .int z) ht (atI_nat (j := 1) rfl) ?_
        exact q _
end
end G
/-! text, whole. -/
namespace G
open PySem L2
/-- goes on through a reading as far as it decides itself -/
local macro_rules | `(tactic| walk_at "fact") => `(tactic| first | assumption | ((refine tnew ?_ ?_); assumption; (first | assumption | ((refine tnew ?_ ?_); assumption; (first | assumption | ((refine tnew ?_ ?_); assumption; assumption))))) | ((refine tsame ?_ ?_); assumption; assumption))
local macro_rules | `(tactic| walk_at "go1") => `(tactic| first
  | with_reducible refine s_op ?_ | ((with_reducible refine s_var (v := ?v) ?e ?_); (case e => rfl)) | with_reducible refine s_c ?_
  | with_reducible refine s_cb ?_ | with_reducible refine s_cons ?_ | with_reducible refine s_nil ?_ | with_reducible refine s_ret ?_ | with_reducible refine s_asg ?_ | with_reducible refine s_gname ?_
  | with_reducible refine s_ifS ?_ | with_reducible refine s_test ?_ | with_reducible refine s_B ?_ | with_reducible refine s_bl ?_ | with_reducible refine s_and ?_ | with_reducible refine s_or ?_ | with_reducible refine s_not ?_ | with_reducible refine s_if ?_
  | with_reducible refine s_un ?_ | with_reducible refine s_U ?_ | with_reducible refine s_drop ?_ | with_reducible refine s_next ?_ | with_reducible refine s_tup ?_ | with_reducible refine s_lst ?_ | with_reducible refine s_call ?_ | with_reducible refine s_dget ?_
  | ((with_reducible refine s_len ?h ?_); (case h => rfl)) | with_reducible refine s_notN ?_ | with_reducible refine s_isN ?_ | with_reducible refine s_yes ?_ | with_reducible refine s_fld ?_ | with_reducible refine s_meth ?_ | with_reducible refine s_andV ?_ | with_reducible refine s_orV ?_ | with_reducible refine s_gsub ?_ | with_reducible refine s_chain ?_ | with_reducible refine s_chain3 ?_ | with_reducible refine s_sl ?_ | with_reducible refine s_part ?_ | with_reducible refine s_noPart ?_ | with_reducible refine s_exI ?_ | with_reducible refine s_bm ?_ | ((with_reducible refine s_tyL (xs := ?xs) ?h ?_); (case h => assumption)) | with_reducible refine s_gcons ?_ | with_reducible refine s_gnil ?_ | with_reducible refine s_brk ?_ | with_reducible refine s_cont ?_
  | ((with_reducible refine s_ixT (xs := ?xs) (w := ?w) ?h ?e ?_); (case h => walk_at "fact"); (case e => rfl))
  | with_reducible refine s_max2 ?_ | with_reducible refine s_min2 ?_ | with_reducible refine s_intI ?_ | with_reducible refine s_intB ?_ | with_reducible refine s_I0 ?_ | with_reducible refine s_eqI ?_ | with_reducible refine s_eqS ?_ | with_reducible refine s_neI ?_)
local macro_rules | `(tactic| walk_at "go") => `(tactic| repeat walk_at "go1")
/-- the next statement -/
local macro_rules | `(tactic| walk_at "st") => `(tactic| (walk_at "go"; (with_reducible refine s_seq ?_); walk_at "go"))
/-- the next statement, cut off by a word -/
local macro_rules | `(tactic| walk_at "cut") => `(tactic| with_reducible refine s_cut ?_ ?_ ?_)
/-! ### counts and places -/
theorem cB_succ_le (bs : List Bool) (i : Nat) : cB bs i ≤ cB bs (i + 1) := by
  show cB bs i ≤ cB bs i + _
  split <;> omega
theorem cB_mono (bs : List Bool) {i j : Nat} (h : i ≤ j) : cB bs i ≤ cB bs j := by
  induction j with
  | zero => rw [show i = 0 by omega]; exact Int.le_refl _
  | succ j ih =>
    by_cases e : i = j + 1
    · rw [e]; exact Int.le_refl _
    · exact Int.le_trans (ih (by omega)) (cB_succ_le bs j)
theorem cB_nn (bs : List Bool) (i : Nat) : 0 ≤ cB bs i := cB_mono bs (Nat.zero_le i)
theorem getD_map {rs : List Rw} (p : Rw → Bool) {i : Nat} (h : i < rs.length) : (rs.map p).getD i false = p (rs.getD i dRw) := by
  rw [List.getD_eq_getElem?_getD, List.getElem?_map, getD_at (d := dRw) h]
  rfl
theorem posBy_cB (p : Rw → Bool) (d : Int) (rs : List Rw) : ∀ i, i ≤ rs.length → ((posBy p d rs i).length : Int) = cB (rs.map p) i
  | 0, _ => rfl
  | i + 1, h => by
    have ih := posBy_cB p d rs i (by omega)
    show ((posBy p d rs i ++ _).length : Int) = cB (rs.map p) i + _
    rw [getD_map p (by omega), List.length_append, ← ih]
    split
    · rw [List.length_singleton]; rfl
    · rw [List.length_nil]; rfl
theorem posBy_at (p : Rw → Bool) (d : Int) (rs : List Rw) : ∀ i, i ≤ rs.length → ∀ (j : Nat) (z : Int), (posBy p d rs i)[j]? = some z → ∃ k : Nat, k < i ∧ z = (k : Int) + d ∧ p (rs.getD k dRw) = true ∧ cB (rs.map p) k = j
  | 0, _, j, z, h => by simp [posBy] at h
  | i + 1, hi, j, z, h => by
    have ih := posBy_at p d rs i (by omega)
    have hc := posBy_cB p d rs i (by omega)
    have h : (posBy p d rs i ++ (if p (rs.getD i dRw) = true then [(i : Int) + d] else []))[j]? = some z := h
    by_cases hj : j < (posBy p d rs i).length
    · rw [List.getElem?_append_left hj] at h
      obtain ⟨k, a, b⟩ := ih j z h
      exact ⟨k, by omega, b⟩
    · rw [List.getElem?_append_right (by omega)] at h
      split at h
      · rename_i hp
        have hj0 : j - (posBy p d rs i).length = 0 := by
          have := (List.getElem?_eq_some_iff.mp h).1
          rw [List.length_singleton] at this
          omega
        rw [hj0] at h
        cases h
        exact ⟨i, by omega, rfl, hp, by omega⟩
      · simp at h
def Sh.cntL (S : Sh) (k : Nat) : Int := cB (S.rows.map isLine) k
def Sh.cntF (S : Sh) (k : Nat) : Int := cB (S.rows.map isForced) k
theorem Sh.lines_len (S : Sh) : ((S.lines).length : Int) = S.cntL S.n := posBy_cB isLine 0 S.rows S.n (Nat.le_refl _)
theorem Sh.lines_at (S : Sh) {j : Nat} (h : (j : Int) < S.cntL S.n) : ∃ k : Nat, S.lines[j]? = some (k : Int) ∧ k < S.n ∧ S.cntL k = j := by
  have hj : j < S.lines.length := by have := S.lines_len; omega
  obtain ⟨k, a, b, c, d⟩ := posBy_at isLine 0 S.rows S.n (Nat.le_refl _) j _ (List.getElem?_eq_getElem hj)
  exact ⟨k, by rw [List.getElem?_eq_getElem hj]; exact congrArg some (b.trans (Int.add_zero _)), a, d⟩
theorem Sh.above_at (S : Sh) {k : Nat} (h : k ≤ S.n) : S.above[k]? = some (S.cntL k) := by
  unfold Sh.above counts
  exact countsUp_get _ (by rw [List.length_map]; exact h)
theorem Sh.forced_at (S : Sh) {k : Nat} (h : k ≤ S.n) : S.forced[k]? = some (S.cntF k) := by
  unfold Sh.forced counts
  exact countsUp_get _ (by rw [List.length_map]; exact h)
theorem Sh.sums_at (S : Sh) {k : Nat} (h : k ≤ S.n) : (S.sums S.n)[k]? = some (S.sumV k) := by
  unfold Sh.sums
  rw [List.getElem?_map, List.getElem?_range (by omega)]
  rfl
theorem parts_len (notes : List Int) (r : Rw) : (parts notes r).length = 5 := by cases r <;> rfl
theorem Sh.sumV_len (S : Sh) : ∀ i, (S.sumV i).length = 5
  | 0 => rfl
  | i + 1 => by
    show (List.zipWith _ _ _).length = 5
    rw [List.length_zipWith, S.sumV_len i, parts_len]
    rfl
def Sh.lineAt (S : Sh) (j : Int) : Nat := (S.lines.getD j.toNat 0).toNat
def Sh.text (S : Sh) (first last : Nat) : List Int :=
  if S.cntL first = S.cntL last then [0, 0, 0, 0, 0] else List.zipWith (· - ·) (S.sumV (S.lineAt (S.cntL last - 1) + 1)) (S.sumV (S.lineAt (S.cntL first)))
theorem Sh.text_len (S : Sh) (f l : Nat) : (S.text f l).length = 5 := by
  unfold Sh.text
  split
  · rfl
  · rw [List.length_zipWith, S.sumV_len, S.sumV_len]
    rfl
def Sh.tx (S : Sh) (f l k : Nat) : Int := (S.text f l).getD k 0
theorem five {l : List Int} (h : l.length = 5) : l = [l.getD 0 0, l.getD 1 0, l.getD 2 0, l.getD 3 0, l.getD 4 0] := by
  match l, h with
  | [a, b, c, d, e], _ => rfl
theorem Sh.text_five (S : Sh) (f l : Nat) : S.text f l = [S.tx f l 0, S.tx f l 1, S.tx f l 2, S.tx f l 3, S.tx f l 4] := five (S.text_len f l)
/-- of two places: the line there, its place -/
theorem Sh.line_is (S : Sh) {j : Int} (h0 : 0 ≤ j) (h : j < S.cntL S.n) : S.lines[j.toNat]? = some (S.lineAt j : Int) ∧ S.lineAt j < S.n ∧ S.cntL (S.lineAt j) = j := by
  obtain ⟨k, a, b, c⟩ := S.lines_at (j := j.toNat) (by omega)
  have e : S.lineAt j = k := by
    unfold Sh.lineAt
    rw [List.getD_eq_getElem?_getD, a]
    exact Int.toNat_natCast k
  rw [e]
  exact ⟨a, b, by omega⟩
section
variable {P : Program} {w : World} {K : PySem.W.Frag} {mg : Str → Option Value} {base : Heap} {C : Addr}
def spText (K : PySem.W.Frag) (C : Addr) : Sp := fun vs H Q _ => ∃ (x : Addr) (S : Sh) (f l : Nat), vs = [.ref x, .int f, .int l] ∧ ShAt K C H x S ∧ f ≤ l ∧ l ≤ S.n ∧
  ∀ p H', Same H H' → H p = none → H' p = some (.lst ((S.text f l).map V.int)) → Q (.ref p) H'
theorem zip_at {f : Int → Int → Int} {ms ns : List Int} {i : Nat} {a b : Int} (h1 : ms[i]? = some a) (h2 : ns[i]? = some b) : (List.zipWith f ms ns)[i]? = some (f a b) := by
  rw [List.getElem?_zipWith, h1, h2]
theorem map_int {ns : List Int} {i : Nat} {x : V} (h : (ns.map V.int)[i]? = some x) : ∃ z, ns[i]? = some z ∧ x = .int z := by
  rw [List.getElem?_map] at h
  cases e : ns[i]? with
  | none => rw [e] at h; cases h
  | some z => rw [e] at h; exact ⟨z, rfl, (Option.some.inj h).symm⟩
abbrev s_Sheet_text : Stmt := inClass (topS 14) 4
theorem sc_Sheet_text : FnScope ["self", "first", "last", "begin", "behind", "a", "b"] ["self", "first", "last"] (defScope s_Sheet_text) := ⟨rfl, rfl, rfl, by decide +kernel, rfl, by decide +kernel, by decide +kernel⟩
theorem ok_text {f : Addr} {fd : FuncData} (F0 : Fun K "text" "Sheet.text" s_Sheet_text f fd) (T : Txt mg) (SK : SC K C) : FnOk P w K mg base CX0 1 f fd ["self", "first", "last"] (spText K C) := by
  refine F0.ok sc_Sheet_text (fun vs H Q E h => ?_) (fun cdv A outer s H vs Q E hr h => ?_)
  · obtain ⟨_, _, _, _, rfl, _⟩ := h
    rfl
  · obtain ⟨x, S, f, l, rfl, ⟨dx, v, B⟩, hfl, hln, q⟩ := h
    obtain ⟨pa, ea, hA⟩ := B.above
    obtain ⟨pl, el, hLn⟩ := B.lines
    obtain ⟨ps, vss, es, hSu, hSs⟩ := B.sums
    have ga : ∀ {k : Nat}, k ≤ S.n → atI (S.above.map V.int) (k : Int) = some (.int (S.cntL k)) := fun {k} h => atI_nat (by rw [List.getElem?_map, S.above_at h]; rfl)
    refine ⟨_, (pss_cons (ps_if (pt_cmpR op_eq (pe_ix ix_list (pe_fld (pv 0) rfl) (pv 1) (fun _ _ => rfl)) (pe_ix ix_list (pe_fld (pv 0) rfl) (pv 2) (fun _ _ => rfl)) (nomark _))
        (pss_one (ps_ret (pe_lst (pa_cons pe_int (pa_cons pe_int (pa_cons pe_int (pa_cons pe_int (pa_cons pe_int pa_nil))))))))
        pss_nil)
      (pss_cons (ps_set (i := 3) sc_Sheet_text.nd rfl (Or.inl rfl) (pe_ix ix_list (pe_fld (pv 0) rfl) (pe_ix ix_list (pe_fld (pv 0) rfl) (pe_ix ix_list (pe_fld (pv 0) rfl) (pv 1) (fun _ _ => rfl)) (fun _ _ => rfl)) (fun _ _ => rfl)))
      (pss_cons (ps_set (i := 4) sc_Sheet_text.nd rfl (Or.inl rfl) (pe_ix ix_list (pe_fld (pv 0) rfl) (pe_op op_add (pe_ix ix_list (pe_fld (pv 0) rfl) (pe_op op_sub (pe_ix ix_list (pe_fld (pv 0) rfl) (pv 2) (fun _ _ => rfl)) pe_int) (fun _ _ => rfl)) pe_int) (fun _ _ => rfl)))
      (pss_one (ps_ret (pe_lc (own := [("a", 5), ("b", 6)]) (g := (gTup K 2 (gCons (gName 5) (gCons (gName 6) gNil)))) (tt := tYes) (te := (tOp (rI0 fun i j => .int (i - j)) (tVar 5) (tVar 6))) rfl sc_Sheet_text.nd (pi_zip (by rfl) T.zip (pa_cons (pv 4) (pa_cons (pv 3) pa_nil))) (blkOk_by (by kernel_rfl)) (fun _ _ _ _ _ => (pg_tup (n := 2) rfl (pgs_cons (pg_name (i := 5) sc_Sheet_text.nd rfl (Or.inl rfl)) (pgs_cons (pg_name (i := 6) sc_Sheet_text.nd rfl (Or.inl rfl)) pgs_nil)))) (fun _ _ _ _ _ => pts_nil) (fun _ _ _ _ _ => (pe_op op_sub (pv 5) (pv 6))))))))), ?_⟩
    dsimp only [cxOf, L2.Cx.nox, L2.Cx.wish]
    walk_at "st"
    refine s_fldAt B.ins SK.cls SK.n_above (fl_above v) ?_
    rw [ea]
    walk_at "go"
    refine s_ixL hA (ga (by omega)) ?_
    walk_at "go"
    refine s_fldAt B.ins SK.cls SK.n_above (fl_above v) ?_
    rw [ea]
    walk_at "go"
    refine s_ixL hA (ga hln) ?_
    walk_at "go"
    by_cases h0 : S.cntL f = S.cntL l
    · refine s_ifT (by rw [h0]; exact decide_eq_true rfl) ?_
      walk_at "go"
      intro p np
      refine q p _ (Same.new np) np ?_
      rw [upd_same]
      unfold Sh.text
      rw [if_pos h0]
      rfl
    refine s_ifF (decide_eq_false fun z => h0 (V.int.inj z)) ?_
    have m1 : S.cntL f ≤ S.cntL l := cB_mono _ hfl
    have m2 : S.cntL l ≤ S.cntL S.n := cB_mono _ hln
    have m3 : 0 ≤ S.cntL f := cB_nn _ _
    obtain ⟨g1, g2, _⟩ := S.line_is m3 (by omega)
    obtain ⟨g3, g4, _⟩ := S.line_is (j := S.cntL l - 1) (by omega) (by omega)
    obtain ⟨v1, hv1, p1, rfl, hp1⟩ := hSs.get (S.sums_at (k := S.lineAt (S.cntL f)) (by omega))
    obtain ⟨v2, hv2, p2, rfl, hp2⟩ := hSs.get (S.sums_at (k := S.lineAt (S.cntL l - 1) + 1) (by omega))
    -- begin
    walk_at "st"
    refine s_fldAt B.ins SK.cls SK.n_sums (fl_sums v) ?_
    rw [es]
    walk_at "go"
    refine s_fldAt B.ins SK.cls SK.n_lines (fl_lines v) ?_
    rw [el]
    walk_at "go"
    refine s_fldAt B.ins SK.cls SK.n_above (fl_above v) ?_
    rw [ea]
    walk_at "go"
    refine s_ixL hA (ga (by omega)) ?_
    refine s_ixL (w := .int (S.lineAt (S.cntL f))) hLn (at_of (j := (S.cntL f).toNat) (by omega) (by rw [List.getElem?_map, g1]; rfl)) ?_
    refine s_ixL hSu (at_of rfl hv1) ?_
    -- behind
    walk_at "st"
    refine s_fldAt B.ins SK.cls SK.n_sums (fl_sums v) ?_
    rw [es]
    walk_at "go"
    refine s_fldAt B.ins SK.cls SK.n_lines (fl_lines v) ?_
    rw [el]
    walk_at "go"
    refine s_fldAt B.ins SK.cls SK.n_above (fl_above v) ?_
    rw [ea]
    walk_at "go"
    refine s_ixL hA (ga hln) ?_
    walk_at "go"
    refine s_ixL (w := .int (S.lineAt (S.cntL l - 1))) hLn (at_of (j := (S.cntL l - 1).toNat) (by omega) (by rw [List.getElem?_map, g3]; rfl)) ?_
    walk_at "go"
    refine s_ixL hSu (at_of (j := S.lineAt (S.cntL l - 1) + 1) (by omega) hv2) ?_
    walk_at "go"
    refine s_lcZ ?_
    walk_at "go"
    generalize hms : S.sumV (S.lineAt (S.cntL l - 1) + 1) = ms at hp2 hv2
    generalize hns : S.sumV (S.lineAt (S.cntL f)) = ns at hp1 hv1
    have lm : ms.length = 5 := by rw [← hms]; exact S.sumV_len _
    have ln : ns.length = 5 := by rw [← hns]; exact S.sumV_len _
    have et : S.text f l = List.zipWith (· - ·) ms ns := by
      unfold Sh.text
      rw [if_neg h0, hms, hns]
    refine ⟨p2, p1, _, _, rfl, hp2, hp1, fun D nD => lc_it (walk_zip (n := 5) (by rw [List.length_map, List.length_map, lm, ln]; rfl)) (fun i H2 => Same H H2 ∧ H2 D = some (.lst (((List.zipWith (· - ·) ms ns).take i).map V.int))) ⟨Same.new nD, upd_same⟩ (fun i H2 _ h => ⟨h.1.seq hp2, h.1.seq hp1⟩) ?_ ?_⟩
    · rintro i y H2 H3 hi ⟨s2, hD⟩ ⟨T1, a, b, rfl, nT, rfl, hxa, hyb⟩
      obtain ⟨za, hza, rfl⟩ := map_int hxa
      obtain ⟨zb, hzb, rfl⟩ := map_int hyb
      have s3 : Same H2 (upd H2 T1 (.tup [.int za, .int zb])) := Same.new nT
      refine s_gtup (IsT.of upd_same) rfl ?_
      walk_at "go"
      refine ⟨rfl, ?_⟩
      walk_at "go"
      refine s_ifT rfl ?_
      walk_at "go"
      refine ⟨_, s3 _ _ hD, lt1M (by rw [List.length_map, List.length_take]; omega), ?_⟩
      refine ⟨(s2.trans s3).put nD, ?_⟩
      rw [upd_same, List.take_add_one, zip_at hza hzb, List.map_append]
      rfl
    · rintro H2 ⟨s2, hD⟩
      refine q D H2 s2 nD ?_
      rw [hD, et, List.take_of_length_le (by rw [List.length_zipWith]; omega)]
end
end G
/-! whole; its size. -/
namespace G
open PySem L2
/-- goes on through a reading as far as it decides itself -/
local macro_rules | `(tactic| walk_at "fact") => `(tactic| first | assumption | ((refine tnew ?_ ?_); assumption; (first | assumption | ((refine tnew ?_ ?_); assumption; (first | assumption | ((refine tnew ?_ ?_); assumption; assumption))))) | ((refine tsame ?_ ?_); assumption; assumption))
local macro_rules | `(tactic| walk_at "go1") => `(tactic| first
  | with_reducible refine s_op ?_ | ((with_reducible refine s_var (v := ?v) ?e ?_); (case e => rfl)) | with_reducible refine s_c ?_
  | with_reducible refine s_cb ?_ | with_reducible refine s_cons ?_ | with_reducible refine s_nil ?_ | with_reducible refine s_ret ?_ | with_reducible refine s_asg ?_ | with_reducible refine s_gname ?_
  | with_reducible refine s_ifS ?_ | with_reducible refine s_test ?_ | with_reducible refine s_B ?_ | with_reducible refine s_bl ?_ | with_reducible refine s_and ?_ | with_reducible refine s_or ?_ | with_reducible refine s_not ?_ | with_reducible refine s_if ?_
  | with_reducible refine s_un ?_ | with_reducible refine s_U ?_ | with_reducible refine s_drop ?_ | with_reducible refine s_next ?_ | with_reducible refine s_tup ?_ | with_reducible refine s_lst ?_ | with_reducible refine s_call ?_ | with_reducible refine s_dget ?_
  | ((with_reducible refine s_len ?h ?_); (case h => rfl)) | with_reducible refine s_notN ?_ | with_reducible refine s_isN ?_ | with_reducible refine s_yes ?_ | with_reducible refine s_fld ?_ | with_reducible refine s_meth ?_ | with_reducible refine s_andV ?_ | with_reducible refine s_orV ?_ | with_reducible refine s_gsub ?_ | with_reducible refine s_chain ?_ | with_reducible refine s_chain3 ?_ | with_reducible refine s_sl ?_ | with_reducible refine s_part ?_ | with_reducible refine s_noPart ?_ | with_reducible refine s_exI ?_ | with_reducible refine s_bm ?_ | ((with_reducible refine s_tyL (xs := ?xs) ?h ?_); (case h => assumption)) | with_reducible refine s_gcons ?_ | with_reducible refine s_gnil ?_ | with_reducible refine s_brk ?_ | with_reducible refine s_cont ?_
  | ((with_reducible refine s_ixT (xs := ?xs) (w := ?w) ?h ?e ?_); (case h => walk_at "fact"); (case e => rfl))
  | with_reducible refine s_max2 ?_ | with_reducible refine s_min2 ?_ | with_reducible refine s_intI ?_ | with_reducible refine s_intB ?_ | with_reducible refine s_I0 ?_ | with_reducible refine s_eqI ?_ | with_reducible refine s_eqS ?_ | with_reducible refine s_neI ?_)
local macro_rules | `(tactic| walk_at "go") => `(tactic| repeat walk_at "go1")
/-- the next statement -/
local macro_rules | `(tactic| walk_at "st") => `(tactic| (walk_at "go"; (with_reducible refine s_seq ?_); walk_at "go"))
/-- the next statement, cut off by a word -/
local macro_rules | `(tactic| walk_at "cut") => `(tactic| with_reducible refine s_cut ?_ ?_ ?_)
/-! ### how large it gets -/
def Sh.cp (S : Sh) (k c : Nat) : Int := (S.sumV k).getD c 0
def Sh.pt (S : Sh) (k c : Nat) : Int := (parts S.notes (S.rows.getD k dRw)).getD c 0
theorem zw_getD {f : Int → Int → Int} {ms ns : List Int} {c : Nat} (h1 : c < ms.length) (h2 : c < ns.length) : (List.zipWith f ms ns).getD c 0 = f (ms.getD c 0) (ns.getD c 0) := by
  rw [List.getD_eq_getElem?_getD, zip_at (getD_at h1) (getD_at h2)]
  rfl
theorem Sh.cp_succ (S : Sh) (k : Nat) {c : Nat} (hc : c < 5) : S.cp (k + 1) c = S.cp k c + S.pt k c :=
  zw_getD (by rw [S.sumV_len]; exact hc) (by rw [parts_len]; exact hc)
theorem Sh.cp_zero (S : Sh) {c : Nat} (hc : c < 5) : S.cp 0 c = 0 := by
  match c, hc with
  | 0, _ => rfl
  | 1, _ => rfl
  | 2, _ => rfl
  | 3, _ => rfl
  | 4, _ => rfl
theorem Sh.pt_sz {S : Sh} (ok : ShOk S) {k c : Nat} (hk : k < S.n) (hc : c < 5) : 0 ≤ S.pt k c ∧ S.pt k c ≤ 1000000 := by
  have hr : S.rows.getD k dRw ∈ S.rows := List.mem_of_getElem? (getD_at hk)
  exact ok.psz _ hr _ (List.mem_of_getElem? (getD_at (by rw [parts_len]; exact hc)))
theorem Sh.cp_sz {S : Sh} (ok : ShOk S) {c : Nat} (hc : c < 5) : ∀ k, k ≤ S.n → 0 ≤ S.cp k c ∧ S.cp k c ≤ 1000000 * k
  | 0, _ => by rw [S.cp_zero hc]; omega
  | k + 1, h => by
    have ih := Sh.cp_sz ok hc k (by omega)
    have hp := Sh.pt_sz ok (k := k) (by omega) hc
    rw [S.cp_succ k hc]
    omega
theorem Sh.cp_mono {S : Sh} (ok : ShOk S) {c : Nat} (hc : c < 5) {i : Nat} : ∀ j, i ≤ j → j ≤ S.n → S.cp i c ≤ S.cp j c
  | 0, h, _ => by rw [show i = 0 by omega]; exact Int.le_refl _
  | j + 1, h, hn => by
    by_cases e : i = j + 1
    · rw [e]; exact Int.le_refl _
    · have ih := Sh.cp_mono ok hc (i := i) j (by omega) (by omega)
      have hp := Sh.pt_sz ok (k := j) (by omega) hc
      rw [S.cp_succ j hc]
      omega
theorem Sh.cntL_succ (S : Sh) {k : Nat} (h : k < S.n) : S.cntL (k + 1) = S.cntL k + (if isLine (S.rows.getD k dRw) = true then 1 else 0) := by
  show cB (S.rows.map isLine) k + _ = _
  rw [getD_map isLine h]
  rfl
theorem Sh.lineAt_line (S : Sh) {j : Int} (h0 : 0 ≤ j) (h : j < S.cntL S.n) : isLine (S.rows.getD (S.lineAt j) dRw) = true := by
  obtain ⟨k, a, b, c⟩ := S.lines_at (j := j.toNat) (by omega)
  have e : S.lineAt j = k := by
    unfold Sh.lineAt
    rw [List.getD_eq_getElem?_getD, a]
    exact Int.toNat_natCast k
  obtain ⟨k', a', b', c', d'⟩ := posBy_at isLine 0 S.rows S.n (Nat.le_refl _) _ _ a
  rw [e, show k = k' by omega]
  exact c'
theorem Sh.lineAt_le (S : Sh) {i j : Int} (h0 : 0 ≤ i) (hij : i ≤ j) (h : j < S.cntL S.n) : S.lineAt i ≤ S.lineAt j := by
  obtain ⟨_, a2, a3⟩ := S.line_is h0 (by omega)
  obtain ⟨_, b2, b3⟩ := S.line_is (show 0 ≤ j by omega) h
  by_cases hc : S.lineAt i ≤ S.lineAt j
  · exact hc
  · have h1 := S.cntL_succ b2
    rw [if_pos (S.lineAt_line (by omega) h)] at h1
    have h2 : S.cntL (S.lineAt j + 1) ≤ S.cntL (S.lineAt i) := cB_mono _ (by omega)
    omega
theorem Sh.tx_eq (S : Sh) (f l : Nat) {c : Nat} (hc : c < 5) : S.tx f l c = if S.cntL f = S.cntL l then 0 else S.cp (S.lineAt (S.cntL l - 1) + 1) c - S.cp (S.lineAt (S.cntL f)) c := by
  unfold Sh.tx Sh.text
  split
  · match c, hc with
    | 0, _ => rfl
    | 1, _ => rfl
    | 2, _ => rfl
    | 3, _ => rfl
    | 4, _ => rfl
  · exact zw_getD (by rw [S.sumV_len]; exact hc) (by rw [S.sumV_len]; exact hc)
theorem Sh.tx_sz {S : Sh} (ok : ShOk S) {f l c : Nat} (hfl : f ≤ l) (hl : l ≤ S.n) (hc : c < 5) : 0 ≤ S.tx f l c ∧ S.tx f l c ≤ 1000000000 := by
  rw [S.tx_eq f l hc]
  split
  · omega
  · rename_i h0
    have m1 : S.cntL f ≤ S.cntL l := cB_mono _ hfl
    have m2 : S.cntL l ≤ S.cntL S.n := cB_mono _ hl
    have m3 : 0 ≤ S.cntL f := cB_nn _ _
    obtain ⟨_, g2, _⟩ := S.line_is m3 (by omega)
    obtain ⟨_, g4, _⟩ := S.line_is (j := S.cntL l - 1) (by omega) (by omega)
    have h1 := S.lineAt_le m3 (show S.cntL f ≤ S.cntL l - 1 by omega) (by omega)
    have h2 := Sh.cp_mono ok hc (i := S.lineAt (S.cntL f)) (S.lineAt (S.cntL l - 1) + 1) (by omega) (by omega)
    have h3 := Sh.cp_sz ok hc (S.lineAt (S.cntL f)) (by omega)
    have h4 := Sh.cp_sz ok hc (S.lineAt (S.cntL l - 1) + 1) (by omega)
    have few : S.n ≤ 1000 := ok.few
    omega
/-! ### whole -/
structure T3 where
  a : Int
  b : Int
  c : Int
def T3.add (t : T3) (g : Gp) : T3 := ⟨t.a + g.h, t.b + g.s, t.c + g.k⟩
def Sh.wUp (S : Sh) (f l st : Nat) : Nat → T3
  | 0 => ⟨S.tx f l 0 + S.tx f l 3, S.tx f l 1, S.tx f l 2⟩
  | i + 1 => ((S.wUp f l st i).add (S.F.gap .float)).add ⟨S.floats.getD (st + i) 0, 0, 0⟩
def Sh.whole (S : Sh) (f l st sp : Nat) : T3 := if S.tx f l 4 > 0 then (S.wUp f l st (sp - st)).add (S.F.gap .note) else S.wUp f l st (sp - st)
def T3.Ok (t : T3) (z : Int) : Prop := (0 ≤ t.a ∧ t.a ≤ z) ∧ (0 ≤ t.b ∧ t.b ≤ z) ∧ (0 ≤ t.c ∧ t.c ≤ z)
theorem Sh.wUp_sz {S : Sh} (ok : ShOk S) {f l st : Nat} (hfl : f ≤ l) (hl : l ≤ S.n) : ∀ i, st + i ≤ S.floats.length → (S.wUp f l st i).Ok (2000000000 + 3000 * i)
  | 0, _ => by
    have h0 := Sh.tx_sz ok hfl hl (c := 0) (by decide)
    have h1 := Sh.tx_sz ok hfl hl (c := 1) (by decide)
    have h2 := Sh.tx_sz ok hfl hl (c := 2) (by decide)
    have h3 := Sh.tx_sz ok hfl hl (c := 3) (by decide)
    unfold T3.Ok Sh.wUp
    dsimp only
    omega
  | i + 1, h => by
    obtain ⟨⟨a1, a2⟩, ⟨b1, b2⟩, c1, c2⟩ := Sh.wUp_sz ok hfl hl (st := st) i (by omega)
    obtain ⟨g1, g2, g3⟩ := ok.gsz .float
    have hf := ok.fsz _ (List.mem_of_getElem? (getD_at (d := 0) (show st + i < S.floats.length by omega)))
    unfold Sz at g1 g2 g3 hf
    refine ⟨⟨?_, ?_⟩, ⟨?_, ?_⟩, ?_, ?_⟩
    · show 0 ≤ (S.wUp f l st i).a + (S.F.gap .float).h + S.floats.getD (st + i) 0
      omega
    · show (S.wUp f l st i).a + (S.F.gap .float).h + S.floats.getD (st + i) 0 ≤ _
      omega
    · show 0 ≤ (S.wUp f l st i).b + (S.F.gap .float).s + 0
      omega
    · show (S.wUp f l st i).b + (S.F.gap .float).s + 0 ≤ _
      omega
    · show 0 ≤ (S.wUp f l st i).c + (S.F.gap .float).k + 0
      omega
    · show (S.wUp f l st i).c + (S.F.gap .float).k + 0 ≤ _
      omega
theorem Sh.few_floats {S : Sh} (ok : ShOk S) : S.floats.length ≤ 1000 := by
  rw [← ok.fl]
  exact Nat.le_trans (posBy_len isFloat 0 S.rows S.n) ok.few
theorem Sh.whole_sz {S : Sh} (ok : ShOk S) {f l st sp : Nat} (hfl : f ≤ l) (hl : l ≤ S.n) (hst : st ≤ sp) (hsp : sp ≤ S.floats.length) : (S.whole f l st sp).Ok 2100000000 := by
  have few := Sh.few_floats ok
  obtain ⟨⟨a1, a2⟩, ⟨b1, b2⟩, c1, c2⟩ := Sh.wUp_sz ok hfl hl (st := st) (sp - st) (by omega)
  obtain ⟨g1, g2, g3⟩ := ok.gsz .note
  unfold Sz at g1 g2 g3
  unfold Sh.whole
  split
  · refine ⟨⟨?_, ?_⟩, ⟨?_, ?_⟩, ?_, ?_⟩
    · show 0 ≤ (S.wUp f l st (sp - st)).a + (S.F.gap .note).h
      omega
    · show (S.wUp f l st (sp - st)).a + (S.F.gap .note).h ≤ _
      omega
    · show 0 ≤ (S.wUp f l st (sp - st)).b + (S.F.gap .note).s
      omega
    · show (S.wUp f l st (sp - st)).b + (S.F.gap .note).s ≤ _
      omega
    · show 0 ≤ (S.wUp f l st (sp - st)).c + (S.F.gap .note).k
      omega
    · show (S.wUp f l st (sp - st)).c + (S.F.gap .note).k ≤ _
      omega
  · exact ⟨⟨a1, by omega⟩, ⟨b1, by omega⟩, c1, by omega⟩
section
variable {P : Program} {w : World} {K : PySem.W.Frag} {mg : Str → Option Value} {base : Heap} {C : Addr}
def T3.vs (t : T3) : List V := [.int t.a, .int t.b, .int t.c]
def spWhole (K : PySem.W.Frag) (C : Addr) : Sp := fun vs H Q _ => ∃ (x : Addr) (S : Sh) (f l st sp : Nat), vs = [.ref x, .int f, .int l, .int st, .int sp] ∧ ShAt K C H x S ∧ ShOk S ∧ f ≤ l ∧ l ≤ S.n ∧ st ≤ sp ∧ sp ≤ S.floats.length ∧
  ∀ p H', Same H H' → H p = none → H' p = some (.lst (S.whole f l st sp).vs) → Q (.ref p) H'
abbrev s_Sheet_whole : Stmt := inClass (topS 14) 5
theorem sc_Sheet_whole : FnScope ["self", "first", "last", "start", "stop", "height", "stretch", "shrink", "notes", "many", "total", "number"] ["self", "first", "last", "start", "stop"] (defScope s_Sheet_whole) := ⟨rfl, rfl, rfl, by decide +kernel, rfl, by decide +kernel, by decide +kernel⟩
theorem ok_whole {f : Addr} {fd : FuncData} (F0 : Fun K "whole" "Sheet.whole" s_Sheet_whole f fd) (T : Txt mg) (SK : SC K C) (Mtext : Cm P w K mg base C "text" 1 ["self", "first", "last"] (spText K C))
    (Cadded : Cl P w K mg base CX0 "added" 1 ["first", "second"] (spAdded K)) : FnOk P w K mg base CX0 2 f fd ["self", "first", "last", "start", "stop"] (spWhole K C) := by
  refine F0.ok sc_Sheet_whole (fun vs H Q E h => ?_) (fun cdv A outer s H vs Q E hr h => ?_)
  · obtain ⟨_, _, _, _, _, _, rfl, _⟩ := h
    rfl
  · obtain ⟨x, S, f, l, st, sp, rfl, ⟨dx, v, B⟩, ok, hfl, hln, hst, hsp, q⟩ := h
    have hu := hu_of hr
    have few := Sh.few_floats ok
    obtain ⟨gw, cw, hF⟩ := B.flow
    obtain ⟨pf, ef, hFl⟩ := B.floats
    refine ⟨_, (pss_cons (ps_asg (pe_cm Mtext hr pass0 (pv 0) (pa_cons (pv 1) (pa_cons (pv 2) pa_nil))) (pg_unl (n := 5) rfl (pgs_cons (pg_name (i := 5) sc_Sheet_whole.nd rfl (Or.inl rfl)) (pgs_cons (pg_name (i := 6) sc_Sheet_whole.nd rfl (Or.inl rfl)) (pgs_cons (pg_name (i := 7) sc_Sheet_whole.nd rfl (Or.inl rfl)) (pgs_cons (pg_name (i := 8) sc_Sheet_whole.nd rfl (Or.inl rfl)) (pgs_cons (pg_name (i := 9) sc_Sheet_whole.nd rfl (Or.inl rfl)) pgs_nil)))))))
      (pss_cons (ps_set (i := 10) sc_Sheet_whole.nd rfl (Or.inl rfl) (pe_lst (pa_cons (pe_op op_add (pv 5) (pv 8)) (pa_cons (pv 6) (pa_cons (pv 7) pa_nil)))))
      (pss_cons (ps_for PassesOwn.never rfl (pi_range2 rfl T.range (pa_cons (pv 3) (pa_cons (pv 4) pa_nil))) (pg_name (i := 11) sc_Sheet_whole.nd rfl (Or.inl rfl))
        (pss_one (ps_set (i := 10) sc_Sheet_whole.nd rfl (Or.inl rfl) (pe_cl Cadded hr (by rfl) pass0 (pa_cons (pe_cl Cadded hr (by rfl) pass0 (pa_cons (pv 10) (pa_cons (pe_dget hu (pe_ix ix_tup (pe_fld (pv 0) rfl) pe_int (fun _ _ => rfl)) pe_str (fun _ _ => rfl)) pa_nil))) (pa_cons (pe_tup (pa_cons (pe_ix ix_list (pe_fld (pv 0) rfl) (pv 11) (fun _ _ => rfl)) (pa_cons pe_int (pa_cons pe_int pa_nil)))) pa_nil))))))
      (pss_one (ps_ret (pe_ifExp (pt_cmpR op_gt (pv 9) pe_int (nomark _)) (pe_cl Cadded hr (by rfl) pass0 (pa_cons (pv 10) (pa_cons (pe_dget hu (pe_ix ix_tup (pe_fld (pv 0) rfl) pe_int (fun _ _ => rfl)) pe_str (fun _ _ => rfl)) pa_nil))) (pv 10))))))), ?_⟩
    dsimp only [cxOf, L2.Cx.nox, L2.Cx.wish]
    walk_at "st"
    refine ⟨x, dx, _, rfl, B.ins, fm_text v, ?_⟩
    walk_at "go"
    refine ⟨x, S, f, l, rfl, ⟨dx, v, B⟩, hfl, hln, fun p1 H1 s1 np1 hp1 => ?_⟩
    rw [S.text_five] at hp1
    have hp1 : H1 p1 = some (.lst [.int (S.tx f l 0), .int (S.tx f l 1), .int (S.tx f l 2), .int (S.tx f l 3), .int (S.tx f l 4)]) := hp1
    refine s_gunl (SqL.of hp1) rfl ?_
    walk_at "st"
    intro p2 np2
    have s2 := s1.trans (Same.new (o := .lst [.int (S.tx f l 0 + S.tx f l 3), .int (S.tx f l 1), .int (S.tx f l 2)]) np2)
    generalize hH2 : upd H1 p2 (.lst [.int (S.tx f l 0 + S.tx f l 3), .int (S.tx f l 1), .int (S.tx f l 2)]) = H2 at s2
    have hp2 : H2 p2 = some (.lst (S.wUp f l st 0).vs) := by rw [← hH2, upd_same]; rfl
    walk_at "st"
    refine s_forR2 ?_
    walk_at "go"
    have e1 : ((sp : Int) - st).toNat = sp - st := by omega
    refine ⟨st, sp, rfl, by omega, ?_⟩
    rw [e1]
    refine for_it walk_range (fun i σ H3 => ∃ p v11, σ = [some (.ref x), some (.int f), some (.int l), some (.int st), some (.int sp), some (.int (S.tx f l 0)), some (.int (S.tx f l 1)), some (.int (S.tx f l 2)), some (.int (S.tx f l 3)), some (.int (S.tx f l 4)), some (.ref p), v11] ∧
      Same H H3 ∧ H p = none ∧ H3 p = some (.lst (S.wUp f l st i).vs)) ⟨p2, _, rfl, s2, s1.free np2, hp2⟩ (fun _ _ _ _ _ => trivial) ?_ ?_
    · rintro i y σ H3 H4 hi ⟨p, v11, rfl, s3, np, hp⟩ ⟨rfl, rfl⟩
      have hF3 := hF.mono s3
      have hT3 := hF3.tup
      obtain ⟨ug, hug, hgg⟩ := hF3.gap .float
      have hf := getD_at (d := 0) (show st + i < S.floats.length by omega)
      have B3 := B.mono s3
      walk_at "go"
      refine s_fldAt B3.ins SK.cls SK.n_flow (fl_flow v) ?_
      walk_at "go"
      refine s_dgot hug ?_
      walk_at "go"
      refine ⟨p, ug, _, _, _, _, _, _, rfl, SqL.of hp, hgg, fun p5 H5 s5 np5 hp5 => ?_⟩
      have B5 := B3.mono s5
      obtain ⟨pf, ef, hFl⟩ := B5.floats
      walk_at "go"
      refine s_fldAt B5.ins SK.cls SK.n_floats (fl_floats v) ?_
      rw [ef]
      walk_at "go"
      refine s_ixL (w := .int (S.floats.getD (st + i) 0)) hFl (at_of (j := st + i) (by omega) (by rw [List.getElem?_map, hf]; rfl)) ?_
      walk_at "go"
      intro p6 np6
      have s6 := Same.new (o := .tup [.int (S.floats.getD (st + i) 0), .int 0, .int 0]) np6
      refine ⟨p5, .ref p6, _, _, _, _, _, _, rfl, SqL.of (s6 _ _ hp5), IsT.of upd_same, fun p7 H7 s7 np7 hp7 => ?_⟩
      have s37 := (s3.trans s5).trans (s6.trans s7)
      exact ⟨p7, _, rfl, s37, (s3.trans (s5.trans s6)).free np7, hp7⟩
    · rintro σ H3 ⟨p, v11, rfl, s3, np, hp⟩
      walk_at "go"
      by_cases h4 : S.tx f l 4 > 0
      · refine s_ifT (decide_eq_true h4) ?_
        have hF3 := hF.mono s3
        have hT3 := hF3.tup
        obtain ⟨ug, hug, hgg⟩ := hF3.gap .note
        have B3 := B.mono s3
        walk_at "go"
        refine s_fldAt B3.ins SK.cls SK.n_flow (fl_flow v) ?_
        walk_at "go"
        refine s_dgot hug ?_
        walk_at "go"
        refine ⟨p, ug, _, _, _, _, _, _, rfl, SqL.of hp, hgg, fun p5 H5 s5 np5 hp5 => ?_⟩
        refine q p5 H5 (s3.trans s5) (s3.free np5) ?_
        unfold Sh.whole
        rw [if_pos h4]
        exact hp5
      · refine s_ifF (decide_eq_false h4) ?_
        walk_at "go"
        refine q p H3 s3 np ?_
        unfold Sh.whole
        rw [if_neg h4]
        exact hp
end
end G
/-! waiting, has_place. -/
namespace G
open PySem L2
/-- goes on through a reading as far as it decides itself -/
local macro_rules | `(tactic| walk_at "fact") => `(tactic| first | assumption | ((refine tnew ?_ ?_); assumption; (first | assumption | ((refine tnew ?_ ?_); assumption; (first | assumption | ((refine tnew ?_ ?_); assumption; assumption))))) | ((refine tsame ?_ ?_); assumption; assumption))
local macro_rules | `(tactic| walk_at "go1") => `(tactic| first
  | with_reducible refine s_op ?_ | ((with_reducible refine s_var (v := ?v) ?e ?_); (case e => rfl)) | with_reducible refine s_c ?_
  | with_reducible refine s_cb ?_ | with_reducible refine s_cons ?_ | with_reducible refine s_nil ?_ | with_reducible refine s_ret ?_ | with_reducible refine s_asg ?_ | with_reducible refine s_gname ?_
  | with_reducible refine s_ifS ?_ | with_reducible refine s_test ?_ | with_reducible refine s_B ?_ | with_reducible refine s_bl ?_ | with_reducible refine s_and ?_ | with_reducible refine s_or ?_ | with_reducible refine s_not ?_ | with_reducible refine s_if ?_
  | with_reducible refine s_un ?_ | with_reducible refine s_U ?_ | with_reducible refine s_drop ?_ | with_reducible refine s_next ?_ | with_reducible refine s_tup ?_ | with_reducible refine s_lst ?_ | with_reducible refine s_call ?_ | with_reducible refine s_dget ?_
  | ((with_reducible refine s_len ?h ?_); (case h => rfl)) | with_reducible refine s_notN ?_ | with_reducible refine s_isN ?_ | with_reducible refine s_yes ?_ | with_reducible refine s_fld ?_ | with_reducible refine s_meth ?_ | with_reducible refine s_andV ?_ | with_reducible refine s_orV ?_ | with_reducible refine s_gsub ?_ | with_reducible refine s_chain ?_ | with_reducible refine s_chain3 ?_ | with_reducible refine s_sl ?_ | with_reducible refine s_part ?_ | with_reducible refine s_noPart ?_ | with_reducible refine s_exI ?_ | with_reducible refine s_bm ?_ | ((with_reducible refine s_tyL (xs := ?xs) ?h ?_); (case h => assumption)) | with_reducible refine s_gcons ?_ | with_reducible refine s_gnil ?_ | with_reducible refine s_brk ?_ | with_reducible refine s_cont ?_
  | ((with_reducible refine s_ixT (xs := ?xs) (w := ?w) ?h ?e ?_); (case h => walk_at "fact"); (case e => rfl))
  | with_reducible refine s_max2 ?_ | with_reducible refine s_min2 ?_ | with_reducible refine s_intI ?_ | with_reducible refine s_intB ?_ | with_reducible refine s_I0 ?_ | with_reducible refine s_eqI ?_ | with_reducible refine s_eqS ?_ | with_reducible refine s_neI ?_)
local macro_rules | `(tactic| walk_at "go") => `(tactic| repeat walk_at "go1")
/-- the next statement -/
local macro_rules | `(tactic| walk_at "st") => `(tactic| (walk_at "go"; (with_reducible refine s_seq ?_); walk_at "go"))
/-- the next statement, cut off by a word -/
local macro_rules | `(tactic| walk_at "cut") => `(tactic| with_reducible refine s_cut ?_ ?_ ?_)
theorem inV_int {a : Int} : ∀ {ns : List Int}, inV (.int a) (ns.map V.int) = decide (a ∈ ns)
  | [] => by
    show false = _
    simp
  | n :: ns => by
    show (eqV (.int n) (.int a) || inV (.int a) (ns.map V.int)) = _
    rw [inV_int]
    show ((n == a) || decide (a ∈ ns)) = decide (a ∈ n :: ns)
    by_cases e : n = a
    · subst e
      rw [beq_self_eq_true, Bool.true_or]
      exact (decide_eq_true List.mem_cons_self).symm
    · rw [beq_eq_false_iff_ne.mpr e, Bool.false_or]
      exact decide_eq_decide.mpr ⟨fun m => .tail _ m, fun m => (List.mem_cons.mp m).resolve_left fun z => e z.symm⟩
theorem flat_ints : ∀ ns : List Int, (ns.map V.int).all flatV = true
  | [] => rfl
  | n :: ns => flat_ints ns
theorem cut_last (xs : List V) : cutV xs none (some (-1)) = xs.dropLast := by
  have e1 : HT.sIx xs.length 0 none = 0 := rfl
  have e2 : HT.sIx xs.length xs.length (some (-1)) = xs.length - 1 := by
    show (if (-1 : Int) < 0 then ((-1 : Int) + (xs.length : Int)).toNat else min (-1 : Int).toNat xs.length) = _
    rw [if_pos (by decide)]
    omega
  unfold cutV
  rw [e1, e2, List.drop_zero, Nat.sub_zero, List.dropLast_eq_take]
theorem cut_at {xs : List V} {a b j : Nat} {x : V} (hab : a ≤ b) (h : (cutV xs (some (a : Int)) (some (b : Int)))[j]? = some x) : xs[a + j]? = some x ∧ a + j < b := by
  unfold cutV at h
  rw [HT.sIx_nat, HT.sIx_nat] at h
  have hj := (List.getElem?_eq_some_iff.mp h).1
  rw [List.length_take, List.length_drop] at hj
  rw [List.getElem?_take_of_lt (by omega), List.getElem?_drop] at h
  rw [show a + j = min a xs.length + j by omega]
  exact ⟨h, by omega⟩
theorem cut_len {xs : List V} {a b : Nat} : (cutV xs (some (a : Int)) (some (b : Int))).length ≤ xs.length := by
  unfold cutV
  rw [List.length_take, List.length_drop]
  omega
theorem cut_of {xs : List V} {a b k : Nat} (h1 : a ≤ k) (h2 : k < b) {x : V} (h : xs[k]? = some x) : (cutV xs (some (a : Int)) (some (b : Int)))[k - a]? = some x := by
  have hk := (List.getElem?_eq_some_iff.mp h).1
  unfold cutV
  rw [HT.sIx_nat, HT.sIx_nat, List.getElem?_take_of_lt (by omega), List.getElem?_drop, show min a xs.length + (k - a) = k by omega]
  exact h
/-- a page may have these rows and floats, whatever its height -/
def HasPlace (S : Sh) (f l st sp : Nat) : Prop :=
  (f = l ∧ l = S.n ∧ st < sp ∧ sp ≤ S.places.length ∧ (sp : Int) ≤ st + S.F.most) ∨
  (((f : Int) = S.start ∨ (f : Int) ∈ S.ends.dropLast) ∧ (l : Int) ∈ S.ends ∧ f < l ∧ S.cntF (l - 1) ≤ S.cntF f ∧ st ≤ sp ∧ sp ≤ S.places.length ∧ (sp : Int) ≤ st + S.F.most ∧ ∀ k z, st ≤ k → k < sp → S.places[k]? = some z → z < l)
theorem Sh.end_is (S : Sh) {z : Int} (h : z ∈ S.ends) : ∃ l : Nat, z = l ∧ l ≤ S.n ∧ (0 < l ∨ S.n = 0) := by
  rcases List.mem_append.mp h with h | h
  · obtain ⟨j, hj⟩ := List.mem_iff_getElem?.mp h
    obtain ⟨k, a, b, _⟩ := posBy_at isEnd 1 S.rows S.n (Nat.le_refl _) j z hj
    exact ⟨k + 1, by omega, by omega, .inl (by omega)⟩
  · have e : z = (S.n : Int) := by simpa using h
    exact ⟨S.n, e, Nat.le_refl _, by omega⟩
theorem Sh.ends_len (S : Sh) : S.ends.length ≤ S.n + 1 := by
  show (posBy isEnd 1 S.rows S.n ++ [(S.n : Int)]).length ≤ _
  have h := posBy_len isEnd 1 S.rows S.n
  rw [List.length_append, List.length_singleton]
  omega
theorem Sh.places_len (S : Sh) : S.places.length ≤ S.n := posBy_len isFloat 0 S.rows S.n
section
variable {P : Program} {w : World} {K : PySem.W.Frag} {mg : Str → Option Value} {base : Heap} {C : Addr}
/-! ### waiting: only that it answers -/
def spWaiting (K : PySem.W.Frag) (C : Addr) : Sp := fun vs H Q _ => ∃ (x : Addr) (S : Sh) (l sp : Int), vs = [.ref x, .int l, .int sp] ∧ ShAt K C H x S ∧ ShOk S ∧ ∀ z H', Same H H' → Q (.int z) H'
abbrev s_Sheet_waiting : Stmt := inClass (topS 14) 6
theorem sc_Sheet_waiting : FnScope ["self", "last", "stop", "number", "at"] ["self", "last", "stop"] (defScope s_Sheet_waiting) := ⟨rfl, rfl, rfl, by decide +kernel, rfl, by decide +kernel, by decide +kernel⟩
theorem ok_waiting {f : Addr} {fd : FuncData} (F0 : Fun K "waiting" "Sheet.waiting" s_Sheet_waiting f fd) (T : Txt mg) (SK : SC K C) : FnOk P w K mg base CX0 1 f fd ["self", "last", "stop"] (spWaiting K C) := by
  refine F0.ok sc_Sheet_waiting (fun vs H Q E h => ?_) (fun cdv A outer s H vs Q E hr h => ?_)
  · obtain ⟨_, _, _, _, rfl, _⟩ := h
    rfl
  · obtain ⟨x, S, l, sp, rfl, ⟨dx, v, B⟩, ok, q⟩ := h
    obtain ⟨pp, ep, hP⟩ := B.places
    refine ⟨_, (pss_one (ps_ret (pe_callB c_len (by rfl) T.len (by decide +kernel) (pa_cons (pe_lc (own := [("number", 3), ("at", 4)]) (g := (gTup K 2 (gCons (gName 3) (gCons (gName 4) gNil)))) (tt := (tAnd (tTest (tOp (rI0 fun i j => .bl (decide (j ≤ i))) (tVar 3) (tVar 2))) (tTest (tOp (rI0 fun i j => .bl (decide (i < j))) (tVar 4) (tVar 1))))) (te := (tVar 4)) rfl sc_Sheet_waiting.nd (pi_enum (by rfl) T.enumerate (pa_cons (pe_fld (pv 0) rfl) pa_nil)) (blkOk_by (by kernel_rfl)) (fun _ _ _ _ _ => (pg_tup (n := 2) rfl (pgs_cons (pg_name (i := 3) sc_Sheet_waiting.nd rfl (Or.inl rfl)) (pgs_cons (pg_name (i := 4) sc_Sheet_waiting.nd rfl (Or.inl rfl)) pgs_nil)))) (fun _ _ _ _ _ => (pts_one (PW.pt (pw_and (pt_cmpR op_ge (pv 3) (pv 2) (nomark _)) (pw_and1 (pt_cmpR op_lt (pv 4) (pv 1) (nomark _))))))) (fun _ _ _ _ _ => (pv 4))) pa_nil)))), ?_⟩
    dsimp only [cxOf, L2.Cx.nox, L2.Cx.wish]
    walk_at "go"
    refine s_lcE ?_
    walk_at "go"
    refine s_fldAt B.ins SK.cls SK.n_places (fl_places v) ?_
    rw [ep]
    walk_at "go"
    have few : S.n ≤ 1000 := ok.few
    have hpl := S.places_len
    refine ⟨pp, _, rfl, hP, fun D nD => lc_it walk_enum (fun i H2 => Same H H2 ∧ ∃ ws, H2 D = some (.lst ws) ∧ ws.length ≤ i) ⟨Same.new nD, [], upd_same, Nat.le_refl _⟩ (fun i H2 _ h => h.1.seq hP) ?_ ?_⟩
    · rintro i y H2 H3 hi ⟨s2, ws, hD, hw⟩ ⟨T1, a, b, rfl, nT, rfl, ha, hb⟩
      obtain rfl : V.int i = a := Option.some.inj ha
      obtain ⟨z, hz, rfl⟩ := map_int hb
      rw [List.length_map] at hi
      have s3 : Same H2 (upd H2 T1 (.tup [.int i, .int z])) := Same.new nT
      have st : Same H (upd H2 T1 (.tup [.int i, .int z])) := s2.trans s3
      refine s_gtup (IsT.of upd_same) rfl ?_
      walk_at "go"
      refine ⟨rfl, ?_⟩
      walk_at "go"
      refine s_ifB (fun e1 => ?_) fun e1 => ?_
      · walk_at "go"
        refine s_ifB (fun e2 => ?_) fun e2 => ?_
        · walk_at "go"
          exact ⟨ws, s3 _ _ hD, lt1M (by omega), st.put nD, _, upd_same, by rw [List.length_append, List.length_singleton]; omega⟩
        · exact ⟨st, ws, s3 _ _ hD, by omega⟩
      · refine s_ifF rfl ?_
        exact ⟨st, ws, s3 _ _ hD, by omega⟩
    · rintro H2 ⟨s2, ws, hD, hw⟩
      walk_at "go"
      refine s_lenL (SqL.of hD) ?_
      exact q _ _ s2
/-! ### has_place -/
def spHasPlace (K : PySem.W.Frag) (C : Addr) : Sp := fun vs H Q _ => ∃ (x : Addr) (S : Sh) (f l st sp : Nat), vs = [.ref x, .int f, .int l, .int st, .int sp] ∧ ShAt K C H x S ∧ ShOk S ∧ f ≤ l ∧ l ≤ S.n ∧ st ≤ sp ∧
  ∀ b H', Same H H' → (b = true → HasPlace S f l st sp) → Q (.bl b) H'
abbrev s_Sheet_has_place : Stmt := inClass (topS 14) 7
theorem sc_Sheet_has_place : FnScope ["self", "first", "last", "start", "stop", "at"] ["self", "first", "last", "start", "stop"] (defScope s_Sheet_has_place) := ⟨rfl, rfl, rfl, by decide +kernel, rfl, by decide +kernel, by decide +kernel⟩
set_option maxHeartbeats 1000000 in
theorem ok_has_place {f : Addr} {fd : FuncData} (F0 : Fun K "has_place" "Sheet.has_place" s_Sheet_has_place f fd) (T : Txt mg) (SK : SC K C) : FnOk P w K mg base CX0 1 f fd ["self", "first", "last", "start", "stop"] (spHasPlace K C) := by
  refine F0.ok sc_Sheet_has_place (fun vs H Q E h => ?_) (fun cdv A outer s H vs Q E hr h => ?_)
  · obtain ⟨_, _, _, _, _, _, rfl, _⟩ := h
    rfl
  · obtain ⟨x, S, f, l, st, sp, rfl, ⟨dx, v, B⟩, ok, hfl, hln, hst, q⟩ := h
    obtain ⟨pp, ep, hP⟩ := B.places
    obtain ⟨pe, ee, hE⟩ := B.ends
    obtain ⟨pf, ef, hFo⟩ := B.forced
    obtain ⟨gw, cw, hF⟩ := B.flow
    have hT := hF.tup
    have few : S.n ≤ 1000 := ok.few
    have hpl := S.places_len
    have hel := S.ends_len
    refine ⟨_, (pss_cons (ps_if (pt_chain op_eq op_eq (pv 1) (pv 2) (pe_fld (pv 0) rfl))
        (pss_one (ps_ret (pe_chain op_lt op_le (pv 3) (pv 4) (pe_callB (c_min2 rfl) (by rfl) T.min (by decide +kernel) (pa_cons (pe_callB c_len (by rfl) T.len (by decide +kernel) (pa_cons (pe_fld (pv 0) rfl) pa_nil)) (pa_cons (pe_op op_add (pv 3) (pe_ix ix_tup (pe_fld (pv 0) rfl) pe_int (fun _ _ => rfl))) pa_nil))))))
        pss_nil)
      (pss_cons (ps_if (PW.pt (pw_or (pt_cmpR op_notIn_seq (pv 1) (pe_op op_cat (pe_lst (pa_cons (pe_fld (pv 0) rfl) pa_nil)) (pe_slice sl_list (pe_fld (pv 0) rfl) po_none (po_some (pe_un un_neg pe_int)))) (by rfl)) (pw_or (pt_cmpR op_notIn_seq (pv 2) (pe_fld (pv 0) rfl) (by rfl)) (pw_or1 (pt_cmpR op_ge (pv 1) (pv 2) (nomark _))))))
        (pss_one (ps_ret pe_bl))
        pss_nil)
      (pss_cons (ps_if (pt_cmpR op_gt (pe_ix ix_list (pe_fld (pv 0) rfl) (pe_op op_sub (pv 2) pe_int) (fun _ _ => rfl)) (pe_ix ix_list (pe_fld (pv 0) rfl) (pv 1) (fun _ _ => rfl)) (nomark _))
        (pss_one (ps_ret pe_bl))
        pss_nil)
      (pss_cons (ps_if (pt_not (pt_chain3 op_le op_le op_le pe_int (pv 3) (pv 4) (pe_callB (c_min2 rfl) (by rfl) T.min (by decide +kernel) (pa_cons (pe_callB c_len (by rfl) T.len (by decide +kernel) (pa_cons (pe_fld (pv 0) rfl) pa_nil)) (pa_cons (pe_op op_add (pv 3) (pe_ix ix_tup (pe_fld (pv 0) rfl) pe_int (fun _ _ => rfl))) pa_nil)))))
        (pss_one (ps_ret pe_bl))
        pss_nil)
      (pss_one (ps_ret (pe_callB (cr_all rfl) (by rfl) T.all (by decide +kernel) (pa_cons (pe_lc (own := [("at", 5)]) (g := (gName 5)) (tt := tYes) (te := (tOp (rI0 fun i j => .bl (decide (i < j))) (tVar 5) (tVar 2))) rfl sc_Sheet_has_place.nd (pi_list (pe_slice sl_list (pe_fld (pv 0) rfl) (po_some (pv 3)) (po_some (pv 4)))) (blkOk_by (by kernel_rfl)) (fun _ _ _ _ _ => (pg_name (i := 5) sc_Sheet_has_place.nd rfl (Or.inl rfl))) (fun _ _ _ _ _ => pts_nil) (fun _ _ _ _ _ => (pe_cmpR op_lt (pv 5) (pv 2) (nomark _)))) pa_nil)))))))), ?_⟩
    dsimp only [cxOf, L2.Cx.nox, L2.Cx.wish]
    -- the chain's last test: stop at most ..
    have fmin : ∀ {H1 : Hp}, Same H H1 → IsT K H1 v.w [.str "flow", .int S.F.lead, .int S.F.least, .ref gw, .ref cw, .int S.F.height, .int S.F.most, .int S.F.notes, .int S.F.keep] := fun s1 => tsame s1 hT
    walk_at "st"
    by_cases h1 : f = l ∧ l = S.n
    · obtain ⟨rfl, h2⟩ := h1
      refine s_ifT (decide_eq_true rfl) ?_
      walk_at "go"
      refine s_fldAt B.ins SK.cls SK.n_end (fl_end v) ?_
      rw [B.en]
      walk_at "go"
      refine s_ifT (by rw [← h2]; exact decide_eq_true rfl) ?_
      walk_at "go"
      by_cases h3 : (st : Int) < sp
      · refine s_ifT (decide_eq_true h3) ?_
        walk_at "go"
        refine s_fldAt B.ins SK.cls SK.n_places (fl_places v) ?_
        rw [ep]
        walk_at "go"
        refine s_lenL hP ?_
        walk_at "go"
        refine s_fldAt B.ins SK.cls SK.n_flow (fl_flow v) ?_
        walk_at "go"
        rw [min_py, List.length_map]
        exact q _ H (Same.refl H) fun e => .inl ⟨rfl, h2, by omega, by have := of_decide_eq_true e; omega, by have := of_decide_eq_true e; omega⟩
      · refine s_ifF (decide_eq_false h3) ?_
        exact q _ H (Same.refl H) fun e => absurd e Bool.false_ne_true
    -- not the end's own page
    have next : (tSeq (tIfS (tOr (tTest (tOp (rIn K true) (tVar 1) (tOp rCat (tLst (tCons (tFld K (tVar 0) "start") tNil)) (tSl (rSlL K) (tFld K (tVar 0) "ends") tNoPart (tPart (tUn (rU fun i => V.int (-i)) (tC (.int 1)))))))) (tOr (tTest (tOp (rIn K true) (tVar 2) (tFld K (tVar 0) "ends"))) (tTest (tOp (rI0 fun i j => V.bl (decide (j ≤ i))) (tVar 1) (tVar 2))))) (tRet (tC (.bl false))) tNext)
      (tSeq (tIfS (tTest (tOp (rI0 fun i j => V.bl (decide (j < i))) (tOp (rIxL K) (tFld K (tVar 0) "forced") (tOp (rI0 fun i j => V.int (i - j)) (tVar 2) (tC (.int 1)))) (tOp (rIxL K) (tFld K (tVar 0) "forced") (tVar 1)))) (tRet (tC (.bl false))) tNext)
        (tSeq (tIfS (tNot (tTest (tChain3 (rI0 fun i j => V.bl (decide (i ≤ j))) (rI0 fun i j => V.bl (decide (i ≤ j))) (rI0 fun i j => V.bl (decide (i ≤ j))) (tC (.int 0)) (tVar 3) (tVar 4) (tCB rMin2 (tCons (tCB (rLen K) (tCons (tFld K (tVar 0) "places") tNil)) (tCons (tOp (rI0 fun i j => V.int (i + j)) (tVar 3) (tOp (rIxT K) (tFld K (tVar 0) "flow") (tC (.int 6)))) tNil)))))) (tRet (tC (.bl false))) tNext)
          (tRet (tCB (rAll K) (tCons (tLc (iList K (tSl (rSlL K) (tFld K (tVar 0) "places") (tPart (tVar 3)) (tPart (tVar 4)))) (gName 5) tYes (tOp (rI0 fun i j => V.bl (decide (i < j))) (tVar 5) (tVar 2)) [5]) tNil)))))) { nx := fun _ H' => Q .non H', rt := Q } [some (.ref x), some (.int f), some (.int l), some (.int st), some (.int sp), none] H := by
      walk_at "st"
      refine s_fldAt B.ins SK.cls SK.n_start (fl_start v) ?_
      rw [B.st]
      walk_at "go"
      intro p1 np1
      have s1 : Same H (upd H p1 (.lst [.int S.start])) := Same.new np1
      generalize hH1 : upd H p1 (.lst [.int S.start]) = H1 at s1
      have hp1 : H1 p1 = some (.lst [.int S.start]) := by rw [← hH1, upd_same]
      walk_at "go"
      have B1 := B.mono s1
      refine s_fldAt B1.ins SK.cls SK.n_ends (fl_ends v) ?_
      rw [ee]
      walk_at "go"
      refine s_slL (s1.seq hE) fun p2 np2 => ?_
      rw [cut_last]
      have s2 : Same H1 (upd H1 p2 (.lst (S.ends.map V.int).dropLast)) := Same.new np2
      generalize hH2 : upd H1 p2 (.lst (S.ends.map V.int).dropLast) = H2 at s2
      have hp2 : H2 p2 = some (.lst (S.ends.dropLast.map V.int)) := by rw [← hH2, upd_same, List.map_dropLast]
      refine s_cat (s2 _ _ hp1) hp2 (by rw [List.length_map, List.length_dropLast, List.length_singleton]; omega) fun p3 np3 => ?_
      have s3 : Same H2 (upd H2 p3 (.lst ([.int S.start] ++ S.ends.dropLast.map V.int))) := Same.new np3
      have s03 := s1.trans (s2.trans s3)
      generalize hH3 : upd H2 p3 (.lst ([.int S.start] ++ S.ends.dropLast.map V.int)) = H3 at s3 s03
      have hp3 : H3 p3 = some (.lst ((S.start :: S.ends.dropLast).map V.int)) := by rw [← hH3, upd_same]; rfl
      have B3 := B.mono s03
      have stop : Q (.bl false) H3 := q _ _ s03 fun e => absurd e Bool.false_ne_true
      refine s_ninL (SqL.of hp3) rfl (flat_ints _) ?_
      rw [inV_int]
      walk_at "go"
      by_cases h2 : (f : Int) ∈ S.start :: S.ends.dropLast
      · refine s_ifF (by rw [decide_eq_true h2]; rfl) ?_
        walk_at "go"
        refine s_fldAt B3.ins SK.cls SK.n_ends (fl_ends v) ?_
        rw [ee]
        refine s_ninL (s03.seq hE) rfl (flat_ints _) ?_
        rw [inV_int]
        walk_at "go"
        by_cases h3 : (l : Int) ∈ S.ends
        · refine s_ifF (by rw [decide_eq_true h3]; rfl) ?_
          walk_at "go"
          by_cases h4 : f < l
          · refine s_ifF (decide_eq_false (by omega)) ?_
            walk_at "st"
            refine s_fldAt B3.ins SK.cls SK.n_forced (fl_forced v) ?_
            rw [ef]
            walk_at "go"
            refine s_ixL (w := .int (S.cntF (l - 1))) (s03.seq hFo) (at_of (j := l - 1) (by omega) (by rw [List.getElem?_map, S.forced_at (by omega)]; rfl)) ?_
            walk_at "go"
            refine s_fldAt B3.ins SK.cls SK.n_forced (fl_forced v) ?_
            rw [ef]
            walk_at "go"
            refine s_ixL (w := .int (S.cntF f)) (s03.seq hFo) (at_of rfl (by rw [List.getElem?_map, S.forced_at (by omega)]; rfl)) ?_
            walk_at "go"
            by_cases h5 : S.cntF (l - 1) ≤ S.cntF f
            · refine s_ifF (decide_eq_false (by omega)) ?_
              walk_at "st"
              refine s_ifT (decide_eq_true (by omega)) ?_
              walk_at "go"
              refine s_ifT (decide_eq_true (by omega)) ?_
              walk_at "go"
              refine s_fldAt B3.ins SK.cls SK.n_places (fl_places v) ?_
              rw [ep]
              walk_at "go"
              refine s_lenL (s03.seq hP) ?_
              have hT3 := fmin s03
              walk_at "go"
              refine s_fldAt B3.ins SK.cls SK.n_flow (fl_flow v) ?_
              walk_at "go"
              rw [min_py, List.length_map]
              by_cases h6 : (sp : Int) ≤ min (S.places.length : Int) (st + S.F.most)
              · refine s_ifF (by rw [decide_eq_true h6]; rfl) ?_
                walk_at "go"
                refine s_lcL ?_
                walk_at "go"
                refine s_fldAt B3.ins SK.cls SK.n_places (fl_places v) ?_
                rw [ep]
                walk_at "go"
                refine s_slL (s03.seq hP) fun p4 np4 => ⟨p4, rfl, ⟨_, SqL.of upd_same⟩, ?_⟩
                have s4 : Same H3 (upd H3 p4 (.lst (cutV (S.places.map V.int) (some (st : Int)) (some (sp : Int))))) := Same.new np4
                generalize hH4 : upd H3 p4 (.lst (cutV (S.places.map V.int) (some (st : Int)) (some (sp : Int)))) = H4 at s4
                have hp4 : H4 p4 = some (.lst (cutV (S.places.map V.int) (some (st : Int)) (some (sp : Int)))) := by rw [← hH4, upd_same]
                have hcl := cut_len (xs := S.places.map V.int) (a := st) (b := sp)
                rw [List.length_map] at hcl
                generalize hcut : cutV (S.places.map V.int) (some (st : Int)) (some (sp : Int)) = cs at hp4 hcl
                intro D nD
                refine lc_it walk_list (fun i H5 => Same H4 H5 ∧ ∃ bs : List Bool, H5 D = some (.lst (bs.map V.bl)) ∧ bs.length = i ∧ ∀ (k : Nat) (z : Int), k < i → cs[k]? = some (.int z) → bs[k]? = some (decide (z < l))) ⟨Same.new nD, [], upd_same, rfl, fun k z h _ => by omega⟩ (fun i H5 _ h => SqL.of (h.1 _ _ hp4)) ?_ ?_
                · rintro i y H5 H6 hi ⟨s5, bs, hD, hbl, hbs⟩ ⟨rfl, hy⟩
                  obtain ⟨z, rfl⟩ : ∃ z, y = .int z := by
                    rw [← hcut] at hy
                    obtain ⟨z, _, e⟩ := map_int (cut_at (by omega) hy).1
                    exact ⟨z, e⟩
                  walk_at "go"
                  refine ⟨rfl, ?_⟩
                  walk_at "go"
                  refine s_ifT rfl ?_
                  walk_at "go"
                  refine ⟨_, hD, lt1M (by rw [List.length_map]; omega), s5.put nD, bs ++ [decide (z < l)], ?_, ?_, fun k z' hk hz' => ?_⟩
                  · rw [upd_same, List.map_append]
                    rfl
                  · rw [List.length_append, List.length_singleton, hbl]
                  · by_cases e : k = i
                    · subst e
                      rw [hy] at hz'
                      cases hz'
                      rw [List.getElem?_append_right (by omega), hbl, Nat.sub_self]
                      rfl
                    · rw [List.getElem?_append_left (by omega)]
                      exact hbs k z' (by omega) hz'
                · rintro H5 ⟨s5, bs, hD, hbl, hbs⟩
                  walk_at "go"
                  refine s_all (SqL.of hD) ?_
                  refine q _ _ ((s03.trans s4).trans s5) fun e => .inr ⟨List.mem_cons.mp h2, h3, h4, h5, hst, by omega, by omega, fun k z hk1 hk2 hz => ?_⟩
                  have hc : cs[k - st]? = some (.int z) := by
                    rw [← hcut]
                    exact cut_of hk1 hk2 (by rw [List.getElem?_map, hz]; rfl)
                  have hb := hbs (k - st) z (List.getElem?_eq_some_iff.mp hc).1 hc
                  have := List.all_eq_true.mp e _ (List.mem_of_getElem? hb)
                  exact of_decide_eq_true this
              · refine s_ifT (by rw [decide_eq_false h6]; rfl) ?_
                walk_at "go"
                exact stop
            · refine s_ifT (decide_eq_true (by omega)) ?_
              walk_at "go"
              exact stop
          · refine s_ifT (decide_eq_true (by omega)) ?_
            walk_at "go"
            exact stop
        · refine s_ifT (by rw [decide_eq_false h3]; rfl) ?_
          refine s_ifT rfl ?_
          walk_at "go"
          exact stop
      · refine s_ifT (by rw [decide_eq_false h2]; rfl) ?_
        refine s_ifT rfl ?_
        walk_at "go"
        exact stop
    by_cases h2 : f = l
    · refine s_ifT (by rw [h2]; exact decide_eq_true rfl) ?_
      walk_at "go"
      refine s_fldAt B.ins SK.cls SK.n_end (fl_end v) ?_
      rw [B.en]
      walk_at "go"
      refine s_ifF (decide_eq_false fun z => h1 ⟨h2, by have := V.int.inj z; omega⟩) ?_
      walk_at "go"
      exact next
    · refine s_ifF (decide_eq_false fun z => h2 (by have := V.int.inj z; omega)) ?_
      walk_at "go"
      refine s_ifF rfl ?_
      walk_at "go"
      exact next
end
end G
/-! cost, onward. -/
namespace G
open PySem L2
/-- goes on through a reading as far as it decides itself -/
local macro_rules | `(tactic| walk_at "fact") => `(tactic| first | assumption | ((refine tnew ?_ ?_); assumption; (first | assumption | ((refine tnew ?_ ?_); assumption; (first | assumption | ((refine tnew ?_ ?_); assumption; assumption))))) | ((refine tsame ?_ ?_); assumption; assumption))
local macro_rules | `(tactic| walk_at "go1") => `(tactic| first
  | with_reducible refine s_op ?_ | ((with_reducible refine s_var (v := ?v) ?e ?_); (case e => rfl)) | with_reducible refine s_c ?_
  | with_reducible refine s_cb ?_ | with_reducible refine s_cons ?_ | with_reducible refine s_nil ?_ | with_reducible refine s_ret ?_ | with_reducible refine s_asg ?_ | with_reducible refine s_gname ?_
  | with_reducible refine s_ifS ?_ | with_reducible refine s_test ?_ | with_reducible refine s_B ?_ | with_reducible refine s_bl ?_ | with_reducible refine s_and ?_ | with_reducible refine s_or ?_ | with_reducible refine s_not ?_ | with_reducible refine s_if ?_
  | with_reducible refine s_un ?_ | with_reducible refine s_U ?_ | with_reducible refine s_drop ?_ | with_reducible refine s_next ?_ | with_reducible refine s_tup ?_ | with_reducible refine s_lst ?_ | with_reducible refine s_call ?_ | with_reducible refine s_dget ?_
  | ((with_reducible refine s_len ?h ?_); (case h => rfl)) | with_reducible refine s_notN ?_ | with_reducible refine s_isN ?_ | with_reducible refine s_yes ?_ | with_reducible refine s_fld ?_ | with_reducible refine s_meth ?_ | with_reducible refine s_andV ?_ | with_reducible refine s_orV ?_ | with_reducible refine s_gsub ?_ | with_reducible refine s_chain ?_ | with_reducible refine s_chain3 ?_ | with_reducible refine s_sl ?_ | with_reducible refine s_part ?_ | with_reducible refine s_noPart ?_ | with_reducible refine s_exI ?_ | with_reducible refine s_bm ?_ | ((with_reducible refine s_tyL (xs := ?xs) ?h ?_); (case h => assumption)) | with_reducible refine s_gcons ?_ | with_reducible refine s_gnil ?_ | with_reducible refine s_brk ?_ | with_reducible refine s_cont ?_
  | ((with_reducible refine s_ixT (xs := ?xs) (w := ?w) ?h ?e ?_); (case h => walk_at "fact"); (case e => rfl))
  | with_reducible refine s_max2 ?_ | with_reducible refine s_min2 ?_ | with_reducible refine s_intI ?_ | with_reducible refine s_intB ?_ | with_reducible refine s_I0 ?_ | with_reducible refine s_eqI ?_ | with_reducible refine s_eqS ?_ | with_reducible refine s_neI ?_)
local macro_rules | `(tactic| walk_at "go") => `(tactic| repeat walk_at "go1")
/-- the next statement -/
local macro_rules | `(tactic| walk_at "st") => `(tactic| (walk_at "go"; (with_reducible refine s_seq ?_); walk_at "go"))
/-- the next statement, cut off by a word -/
local macro_rules | `(tactic| walk_at "cut") => `(tactic| with_reducible refine s_cut ?_ ?_ ?_)
/-- a page that is allowed -/
structure Allowed (S : Sh) (f l st sp : Nat) : Prop where
  le : f ≤ l
  ln : l ≤ S.n
  place : HasPlace S f l st sp
  notes : S.tx f l 3 ≤ S.F.notes
  high : (S.whole f l st sp).a - (S.whole f l st sp).c ≤ S.F.height
section
variable {P : Program} {w : World} {K : PySem.W.Frag} {mg : Str → Option Value} {base : Heap} {C : Addr}
def spCost (K : PySem.W.Frag) (C : Addr) : Sp := fun vs H Q _ => ∃ (x : Addr) (S : Sh) (f l st sp : Nat), vs = [.ref x, .int f, .int l, .int st, .int sp] ∧ ShAt K C H x S ∧ ShOk S ∧ f ≤ l ∧ l ≤ S.n ∧ (0 < l ∨ S.n = 0) ∧ st ≤ sp ∧ sp ≤ S.places.length ∧
  ∀ H', Same H H' → Q .non H' ∧ ∀ z, Allowed S f l st sp → Q (.int z) H'
theorem mul64 {a b : Int} (h1 : 0 ≤ a) (h2 : a ≤ 10000) : CMul a b := .inl ⟨by have : (0 : Int) < 2 ^ 64 := (by decide); omega, by have : (10000 : Int) < 2 ^ 64 := (by decide); omega⟩
abbrev s_Sheet_cost : Stmt := inClass (topS 14) 8
theorem sc_Sheet_cost : FnScope ["self", "first", "last", "start", "stop", "badness"] ["self", "first", "last", "start", "stop"] (defScope s_Sheet_cost) := ⟨rfl, rfl, rfl, by decide +kernel, rfl, by decide +kernel, by decide +kernel⟩
theorem ok_cost {f : Addr} {fd : FuncData} (F0 : Fun K "cost" "Sheet.cost" s_Sheet_cost f fd) (T : Txt mg) (SK : SC K C) (Mtext : Cm P w K mg base C "text" 1 ["self", "first", "last"] (spText K C))
    (Mhas_place : Cm P w K mg base C "has_place" 1 ["self", "first", "last", "start", "stop"] (spHasPlace K C)) (Mwhole : Cm P w K mg base C "whole" 2 ["self", "first", "last", "start", "stop"] (spWhole K C))
    (Mcost_at : Cm P w K mg base C "cost_at" 2 ["self", "last"] (spCostAt K C)) (Mwaiting : Cm P w K mg base C "waiting" 1 ["self", "last", "stop"] (spWaiting K C)) (Cbad : Cl P w K mg base CX0 "bad" 1 ["height", "total", "loose"] (spBad K)) :
    FnOk P w K mg base CX0 3 f fd ["self", "first", "last", "start", "stop"] (spCost K C) := by
  refine F0.ok sc_Sheet_cost (fun vs H Q E h => ?_) (fun cdv A outer s H vs Q E hr h => ?_)
  · obtain ⟨_, _, _, _, _, _, rfl, _⟩ := h
    rfl
  · obtain ⟨x, S, f, l, st, sp, rfl, ⟨dx, v, B⟩, ok, hfl, hln, h0, hst, hsp, q⟩ := h
    have hu := hu_of hr
    obtain ⟨gw, cw, hF⟩ := B.flow
    have hT := hF.tup
    refine ⟨_, (pss_cons (ps_if (PW.pt (pw_or (pt_not (pt_val (pe_cm Mhas_place hr pass0 (pv 0) (pa_cons (pv 1) (pa_cons (pv 2) (pa_cons (pv 3) (pa_cons (pv 4) pa_nil))))))) (pw_or1 (pt_cmpR op_gt (pe_ix ix_list (pe_cm Mtext hr pass0 (pv 0) (pa_cons (pv 1) (pa_cons (pv 2) pa_nil))) pe_int (fun _ _ => rfl)) (pe_ix ix_tup (pe_fld (pv 0) rfl) pe_int (fun _ _ => rfl)) (nomark _)))))
        (pss_one (ps_ret pe_non))
        pss_nil)
      (pss_cons (ps_set (i := 5) sc_Sheet_cost.nd rfl (Or.inl rfl) (pe_cl Cbad hr (by rfl) pass0 (pa_cons (pe_ix ix_tup (pe_fld (pv 0) rfl) pe_int (fun _ _ => rfl)) (pa_cons (pe_cm Mwhole hr pass0 (pv 0) (pa_cons (pv 1) (pa_cons (pv 2) (pa_cons (pv 3) (pa_cons (pv 4) pa_nil))))) (pa_cons (pe_cmpR op_eq (pv 2) (pe_fld (pv 0) rfl) (nomark _)) pa_nil)))))
      (pss_cons (ps_if (pt_cmp (pc_isN (pv 5)))
        (pss_one (ps_ret pe_non))
        pss_nil)
      (pss_one (ps_ret (pe_op op_add (pe_op op_add (pv 5) (pe_cm Mcost_at hr pass0 (pv 0) (pa_cons (pv 2) pa_nil))) (pe_op op_mul (pe_dget hu (pe_ix ix_tup (pe_fld (pv 0) rfl) pe_int (fun _ _ => rfl)) pe_str (fun _ _ => rfl)) (pe_cm Mwaiting hr pass0 (pv 0) (pa_cons (pv 2) (pa_cons (pv 4) pa_nil)))))))))), ?_⟩
    dsimp only [cxOf, L2.Cx.nox, L2.Cx.wish]
    walk_at "st"
    refine ⟨x, dx, _, rfl, B.ins, fm_has_place v, ?_⟩
    walk_at "go"
    refine ⟨x, S, f, l, st, sp, rfl, ⟨dx, v, B⟩, ok, hfl, hln, hst, fun b H1 s1 hb => ?_⟩
    walk_at "go"
    cases b with
    | false =>
      refine s_ifT rfl ?_
      refine s_ifT rfl ?_
      walk_at "go"
      exact (q H1 s1).1
    | true =>
      have hpl := hb rfl
      refine s_ifF rfl ?_
      have B1 := B.mono s1
      walk_at "go"
      refine ⟨x, dx, _, rfl, B1.ins, fm_text v, ?_⟩
      walk_at "go"
      refine ⟨x, S, f, l, rfl, ⟨dx, v, B1⟩, hfl, hln, fun p2 H2 s2 np2 hp2 => ?_⟩
      rw [S.text_five] at hp2
      walk_at "go"
      refine s_ixL (w := .int (S.tx f l 3)) (SqL.of hp2) rfl ?_
      have s02 := s1.trans s2
      have B2 := B.mono s02
      have hT2 := tsame s02 hT
      walk_at "go"
      refine s_fldAt B2.ins SK.cls SK.n_flow (fl_flow v) ?_
      walk_at "go"
      by_cases hn : S.F.notes < S.tx f l 3
      · refine s_ifT (decide_eq_true hn) ?_
        walk_at "go"
        exact (q H2 s02).1
      refine s_ifF (decide_eq_false hn) ?_
      walk_at "st"
      refine s_fldAt B2.ins SK.cls SK.n_flow (fl_flow v) ?_
      walk_at "go"
      refine ⟨x, dx, _, rfl, B2.ins, fm_whole v, ?_⟩
      walk_at "go"
      refine ⟨x, S, f, l, st, sp, rfl, ⟨dx, v, B2⟩, ok, hfl, hln, hst, by rw [← ok.fl]; exact hsp, fun p3 H3 s3 np3 hp3 => ?_⟩
      have s03 := s02.trans s3
      have B3 := B.mono s03
      walk_at "go"
      refine s_fldAt B3.ins SK.cls SK.n_end (fl_end v) ?_
      rw [B3.en]
      walk_at "go"
      obtain ⟨⟨a1, a2⟩, ⟨b1, b2⟩, c1, c2⟩ := Sh.whole_sz ok hfl hln hst (by rw [← ok.fl]; exact hsp)
      have hh := ok.hsz
      unfold Sz at hh
      have e0 : (2 : Int) ^ 50 = 1125899906842624 := by decide
      refine ⟨S.F.height, _, _, _, decide (V.int l = V.int S.n), p3, rfl, SqL.of hp3, by omega, by omega, by omega, by omega, ?_, fun z hz => ?_⟩
      · walk_at "go"
        walk_at "st"
        refine s_ifT (decide_eq_true rfl) ?_
        walk_at "go"
        exact (q H3 s03).1
      · have al : Allowed S f l st sp := ⟨hfl, hln, hpl, by omega, hz⟩
        walk_at "go"
        walk_at "st"
        refine s_ifF (by rfl) ?_
        walk_at "go"
        refine ⟨x, dx, _, rfl, B3.ins, fm_cost_at v, ?_⟩
        walk_at "go"
        refine ⟨x, S, l, rfl, ⟨dx, v, B3⟩, hln, h0, fun z2 => ?_⟩
        have hF3 := hF.mono s03
        have hT3 := hF3.tup
        walk_at "go"
        refine s_fldAt B3.ins SK.cls SK.n_flow (fl_flow v) ?_
        walk_at "go"
        refine s_dgot (hF3.cost .late) ?_
        walk_at "go"
        refine ⟨x, dx, _, rfl, B3.ins, fm_waiting v, ?_⟩
        walk_at "go"
        refine ⟨x, S, l, sp, rfl, ⟨dx, v, B3⟩, ok, fun z3 H4 s4 => ?_⟩
        refine s_I (mul64 ok.lsz.1 ok.lsz.2) ?_
        walk_at "go"
        exact (q H4 (s03.trans s4)).2 _ al
/-! ### onward -/
def TripAt (K : PySem.W.Frag) (S : Sh) (f st : Nat) (H : Hp) (v : V) : Prop := ∃ (l sp : Nat) (c : Int), IsT K H v [.int l, .int sp, .int c] ∧ Allowed S f l st sp
theorem TripAt.mono {S : Sh} {f st : Nat} {H H' : Hp} {v : V} (t : TSm H H') (h : TripAt K S f st H v) : TripAt K S f st H' v := let ⟨l, sp, c, a, b⟩ := h; ⟨l, sp, c, a.mono t, b⟩
def spOnward (K : PySem.W.Frag) (C : Addr) : Sp := fun vs H Q _ => ∃ (x : Addr) (S : Sh) (f st : Nat), vs = [.ref x, .int f, .int st] ∧ ShAt K C H x S ∧ ShOk S ∧ f ≤ S.n ∧ st ≤ S.places.length ∧
  ∀ p ws H', Same H H' → H p = none → H' p = some (.lst ws) → (∀ v ∈ ws, TripAt K S f st H' v) → Q (.ref p) H'
theorem fnr (i : Int) {a b : Nat} (h : i = (a : Int)) (h2 : a ≤ b) : 0 ≤ i := by omega
abbrev s_Sheet_onward : Stmt := inClass (topS 14) 9
theorem sc_Sheet_onward : FnScope ["self", "first", "start", "rows", "last", "stop", "cost", "at"] ["self", "first", "start"] (defScope s_Sheet_onward) := ⟨rfl, rfl, rfl, by decide +kernel, rfl, by decide +kernel, by decide +kernel⟩
set_option maxHeartbeats 1000000 in
theorem ok_onward {f : Addr} {fd : FuncData} (F0 : Fun K "onward" "Sheet.onward" s_Sheet_onward f fd) (T : Txt mg) (SK : SC K C) (Mcost : Cm P w K mg base C "cost" 3 ["self", "first", "last", "start", "stop"] (spCost K C))
    (Mwhole : Cm P w K mg base C "whole" 2 ["self", "first", "last", "start", "stop"] (spWhole K C)) (Mis_forced : Cm P w K mg base C "is_forced" 1 ["self", "last"] (spIsForced K C)) (Cbad : Cl P w K mg base CX0 "bad" 1 ["height", "total", "loose"] (spBad K)) :
    FnOk P w K mg base CX0 4 f fd ["self", "first", "start"] (spOnward K C) := by
  refine F0.ok sc_Sheet_onward (fun vs H Q E h => ?_) (fun cdv A outer s H vs Q E hr h => ?_)
  · obtain ⟨_, _, _, _, rfl, _⟩ := h
    rfl
  · obtain ⟨x, S, f, st, rfl, ⟨dx, v, B⟩, ok, hfn, hst, q⟩ := h
    have hu := hu_of hr
    obtain ⟨gw, cw, hF⟩ := B.flow
    obtain ⟨pe, ee, hE⟩ := B.ends
    obtain ⟨pp, ep, hP⟩ := B.places
    have hT := hF.tup
    have few : S.n ≤ 1000 := ok.few
    have hel := S.ends_len
    have hpl := S.places_len
    refine ⟨_, (pss_cons (ps_set (i := 3) sc_Sheet_onward.nd rfl (Or.inl rfl) (pe_lst pa_nil))
      (pss_cons (ps_for PassesOwn.never rfl (pi_list (pe_lc (own := [("at", 7)]) (g := (gName 7)) (tt := (tOr (tTest (tOp (rI0 fun i j => .bl (decide (j < i))) (tVar 7) (tVar 1))) (tTest (tChain rEq rEq (tVar 7) (tVar 1) (tFld K (tVar 0) "end"))))) (te := (tVar 7)) rfl sc_Sheet_onward.nd (pi_list (pe_fld (pv 0) rfl)) (blkOk_by (by kernel_rfl)) (fun _ _ _ _ _ => (pg_name (i := 7) sc_Sheet_onward.nd rfl (Or.inl rfl))) (fun _ _ _ _ _ => (pts_one (PW.pt (pw_or (pt_cmpR op_gt (pv 7) (pv 1) (nomark _)) (pw_or1 (pt_chain op_eq op_eq (pv 7) (pv 1) (pe_fld (pv 0) rfl))))))) (fun _ _ _ _ _ => (pv 7)))) (pg_name (i := 4) sc_Sheet_onward.nd rfl (Or.inl rfl))
        (pss_cons (ps_if (pt_cmp (pc_isN (pe_cl Cbad hr (by rfl) pass0 (pa_cons (pe_ix ix_tup (pe_fld (pv 0) rfl) pe_int (fun _ _ => rfl)) (pa_cons (pe_cm Mwhole hr pass0 (pv 0) (pa_cons (pv 1) (pa_cons (pv 4) (pa_cons (pv 2) (pa_cons (pv 2) pa_nil))))) (pa_cons pe_bl pa_nil))))))
          (pss_one ps_break)
          pss_nil)
        (pss_cons (ps_for PassesOwn.never rfl (pi_range2 rfl T.range (pa_cons (pv 2) (pa_cons (pe_op op_add (pe_callB (c_min2 rfl) (by rfl) T.min (by decide +kernel) (pa_cons (pe_callB c_len (by rfl) T.len (by decide +kernel) (pa_cons (pe_fld (pv 0) rfl) pa_nil)) (pa_cons (pe_op op_add (pv 2) (pe_ix ix_tup (pe_fld (pv 0) rfl) pe_int (fun _ _ => rfl))) pa_nil))) pe_int) pa_nil))) (pg_name (i := 5) sc_Sheet_onward.nd rfl (Or.inl rfl))
          (pss_cons (ps_set (i := 6) sc_Sheet_onward.nd rfl (Or.inl rfl) (pe_cm Mcost hr pass0 (pv 0) (pa_cons (pv 1) (pa_cons (pv 4) (pa_cons (pv 2) (pa_cons (pv 5) pa_nil))))))
          (pss_one (ps_if (pt_cmp (pc_notN (pv 6)))
            (pss_one (ps_expr (pe_bm PySem.F.plainAttrs_list PySem.F.slot_list_append PySem.F.type_list_append mt_append (pv 3) (pa_cons (pe_tup (pa_cons (pv 4) (pa_cons (pv 5) (pa_cons (pv 6) pa_nil)))) pa_nil))))
            pss_nil))))
        (pss_one (ps_if (pt_val (pe_cm Mis_forced hr pass0 (pv 0) (pa_cons (pv 4) pa_nil)))
          (pss_one ps_break)
          pss_nil)))))
      (pss_one (ps_ret (pv 3))))), ?_⟩
    dsimp only [cxOf, L2.Cx.nox, L2.Cx.wish]
    walk_at "st"
    intro r nr
    have s0 : Same H (upd H r (.lst [])) := Same.new nr
    generalize hH0 : upd H r (.lst []) = H0 at s0
    have hr0 : H0 r = some (.lst []) := by rw [← hH0, upd_same]
    have B0 := B.mono s0
    walk_at "st"
    refine s_forL ?_
    refine s_lcL ?_
    walk_at "go"
    refine s_fldAt B0.ins SK.cls SK.n_ends (fl_ends v) ?_
    rw [ee]
    refine ⟨pe, rfl, ⟨_, s0.seq hE⟩, fun D nD => lc_it walk_list (fun i H2 => Same H0 H2 ∧ ∃ ls : List Int, H2 D = some (.lst (ls.map V.int)) ∧ ls.length ≤ i ∧ ∀ z ∈ ls, z ∈ S.ends ∧ (f : Int) ≤ z) ⟨Same.new nD, [], upd_same, Nat.le_refl _, fun z h => by cases h⟩ (fun i H2 _ h => h.1.seq (s0.seq hE)) ?_ ?_⟩
    · rintro i y H2 H3 hi ⟨s2, ls, hD, hl, hls⟩ ⟨rfl, hy⟩
      obtain ⟨z, hz, rfl⟩ := map_int hy
      rw [List.length_map] at hi
      have hze := List.mem_of_getElem? hz
      have take : (f : Int) ≤ z → Same H0 (upd H3 D (.lst (ls.map V.int ++ [.int z]))) ∧ ∃ ls' : List Int, upd H3 D (.lst (ls.map V.int ++ [.int z])) D = some (.lst (ls'.map V.int)) ∧ ls'.length ≤ i + 1 ∧ ∀ z ∈ ls', z ∈ S.ends ∧ (f : Int) ≤ z := fun hf =>
        ⟨s2.put nD, ls ++ [z], by rw [upd_same, List.map_append]; rfl, by rw [List.length_append, List.length_singleton]; omega, fun z' h' => by
          rcases List.mem_append.mp h' with h' | h'
          · exact hls z' h'
          · rw [List.mem_singleton.mp h']
            exact ⟨hze, hf⟩⟩
      have skip : Same H0 H3 ∧ ∃ ls' : List Int, H3 D = some (.lst (ls'.map V.int)) ∧ ls'.length ≤ i + 1 ∧ ∀ z ∈ ls', z ∈ S.ends ∧ (f : Int) ≤ z := ⟨s2, ls, hD, by omega, hls⟩
      have B2 := B0.mono s2
      walk_at "go"
      refine ⟨rfl, ?_⟩
      walk_at "go"
      by_cases h1 : (f : Int) < z
      · refine s_ifT (decide_eq_true h1) ?_
        refine s_ifT rfl ?_
        walk_at "go"
        exact ⟨_, hD, lt1M (by rw [List.length_map]; omega), take (by omega)⟩
      · refine s_ifF (decide_eq_false h1) ?_
        walk_at "go"
        by_cases h2 : z = f
        · refine s_ifT (by rw [h2]; exact decide_eq_true rfl) ?_
          walk_at "go"
          refine s_fldAt B2.ins SK.cls SK.n_end (fl_end v) ?_
          rw [B2.en]
          walk_at "go"
          refine s_ifB (fun e1 => ?_) fun e1 => ?_
          · walk_at "go"
            exact ⟨_, hD, lt1M (by rw [List.length_map]; omega), take (by omega)⟩
          · exact skip
        · refine s_ifF (decide_eq_false fun z => h2 (V.int.inj z)) ?_
          walk_at "go"
          refine s_ifF rfl ?_
          exact skip
    · rintro H2 ⟨s2, ls, hD, hl, hls⟩
      rw [List.length_map] at hl
      have s02 := s0.trans s2
      -- the loop over the page ends
      refine ⟨D, rfl, ⟨_, SqL.of hD⟩, ?_⟩
      have fin : ∀ (σ : L2.St) (H3 : Hp) (ws : List V), σ[3]? = some (some (.ref r)) → Same H H3 → H3 r = some (.lst ws) → (∀ v ∈ ws, TripAt K S f st H3 v) → tRet (tVar 3) { nx := fun _ H' => Q .non H', rt := Q } σ H3 := fun σ H3 ws e s3 hw hws => by
        refine s_ret ?_
        refine s_var e ?_
        exact q r ws H3 s3 nr hw hws
      refine for_it walk_list (fun i σ H3 => ∃ v4 v5 v6 v7 ws, σ = [some (.ref x), some (.int f), some (.int st), some (.ref r), v4, v5, v6, v7] ∧ Same H H3 ∧ H3 D = some (.lst (ls.map V.int)) ∧ H3 r = some (.lst ws) ∧ ws.length ≤ 1001 * i ∧ ∀ v ∈ ws, TripAt K S f st H3 v)
        ⟨_, _, _, _, [], rfl, s02, hD, s2 _ _ hr0, Nat.zero_le _, fun v h => by cases h⟩ (fun i σ H3 _ ⟨_, _, _, _, _, _, _, h, _⟩ => SqL.of h) ?_ ?_
      · rintro i y σ H3 H4 hi ⟨v4, v5, v6, v7, ws, rfl, s3, hD3, hw3, hwl, hws⟩ ⟨rfl, hy⟩
        obtain ⟨z, hz, rfl⟩ := map_int hy
        rw [List.length_map] at hi
        obtain ⟨hze, hfz⟩ := hls z (List.mem_of_getElem? hz)
        obtain ⟨l, rfl, hln, hl0⟩ := S.end_is hze
        have hfl : f ≤ l := by omega
        have B3 := B.mono s3
        have hT3 := tsame s3 hT
        have rD : r ≠ D := fun z => by
          rw [z] at hr0
          rw [hr0] at nD
          cases nD
        have nD0 : H D = none := s0.free nD
        have hh := ok.hsz
        unfold Sz at hh
        have e0 : (2 : Int) ^ 50 = 1125899906842624 := by decide
        walk_at "st"
        refine s_fldAt B3.ins SK.cls SK.n_flow (fl_flow v) ?_
        walk_at "go"
        refine ⟨x, dx, _, rfl, B3.ins, fm_whole v, ?_⟩
        walk_at "go"
        refine ⟨x, S, f, l, st, st, rfl, ⟨dx, v, B3⟩, ok, hfl, hln, Nat.le_refl _, by rw [← ok.fl]; exact hst, fun p5 H5 s5 np5 hp5 => ?_⟩
        have s05 := s3.trans s5
        obtain ⟨⟨a1, a2⟩, ⟨b1, b2⟩, c1, c2⟩ := Sh.whole_sz ok hfl hln (Nat.le_refl st) (by rw [← ok.fl]; exact hst)
        have hws5 : ∀ v ∈ ws, TripAt K S f st H5 v := fun v h => (hws v h).mono (TSm.of s5)
        walk_at "go"
        refine ⟨S.F.height, _, _, _, true, p5, rfl, SqL.of hp5, by omega, by omega, by omega, by omega, ?_, fun z _ => ?_⟩
        · walk_at "go"
          refine s_ifT (by rfl) ?_
          walk_at "go"
          exact q r ws _ s05 nr (s5 _ _ hw3) hws5
        walk_at "go"
        refine s_ifF (by rfl) ?_
        have B5 := B.mono s05
        have hT5 := tsame s05 hT
        walk_at "st"
        refine s_forR2 ?_
        walk_at "go"
        refine s_fldAt B5.ins SK.cls SK.n_places (fl_places v) ?_
        rw [ep]
        walk_at "go"
        refine s_lenL (s05.seq hP) ?_
        walk_at "go"
        refine s_fldAt B5.ins SK.cls SK.n_flow (fl_flow v) ?_
        walk_at "go"
        rw [min_py, List.length_map]
        have hm := ok.msz
        unfold Sz at hm
        have e2 : (2 : Int) ^ 62 = 4611686018427387904 := by decide
        refine ⟨_, _, rfl, by omega, ?_⟩
        generalize hnn : (min (S.places.length : Int) (st + S.F.most) + 1 - st).toNat = nn
        refine for_it walk_range (fun j σ H6 => ∃ v5 v6 v7 ws, σ = [some (.ref x), some (.int f), some (.int st), some (.ref r), some (.int l), v5, v6, v7] ∧ Same H H6 ∧ H6 D = some (.lst (ls.map V.int)) ∧ H6 r = some (.lst ws) ∧ ws.length ≤ 1001 * i + j ∧ ∀ v ∈ ws, TripAt K S f st H6 v)
          ⟨_, _, _, ws, rfl, s05, s5 _ _ hD3, s5 _ _ hw3, by omega, hws5⟩ (fun _ _ _ _ _ => trivial) ?_ ?_
        · rintro j y σ H6 H7 hj ⟨v5, v6, v7, ws, rfl, s6, hD6, hw6, hwl6, hws6⟩ ⟨rfl, rfl⟩
          have B6 := B.mono s6
          have hj2 : st + j ≤ S.places.length := by omega
          walk_at "st"
          refine ⟨x, dx, _, rfl, B6.ins, fm_cost v, ?_⟩
          walk_at "go"
          refine ⟨x, S, f, l, st, st + j, rfl, ⟨dx, v, B6⟩, ok, hfl, hln, hl0, by omega, hj2, fun H8 s8 => ⟨?_, fun z al => ?_⟩⟩
          · walk_at "go"
            refine s_ifF (by rfl) ?_
            walk_at "go"
            exact ⟨_, _, _, ws, rfl, s6.trans s8, s8 _ _ hD6, s8 _ _ hw6, by omega, fun v h => (hws6 v h).mono (TSm.of s8)⟩
          · walk_at "go"
            refine s_ifT (by rfl) ?_
            walk_at "go"
            have hw8 := s8 _ _ hw6
            walk_at "go"
            intro p9 np9
            have s9 : Same H8 (upd H8 p9 (.tup [.int l, .int ((st : Int) + j), .int z])) := Same.new np9
            generalize hH9 : upd H8 p9 (.tup [.int l, .int ((st : Int) + j), .int z]) = H9 at s9
            have hp9 : H9 p9 = some (.tup [.int l, .int ((st : Int) + j), .int z]) := by rw [← hH9, upd_same]
            have hw9 := s9 _ _ hw8
            walk_at "go"
            refine s_append hw9 (by omega) ?_
            have t10 : TSm H9 (upd H9 r (.lst (ws ++ [.ref p9]))) := TSm.lst hw9
            refine ⟨_, _, _, _, rfl, ((s6.trans s8).trans s9).put nr, by rw [upd_ne rD.symm]; exact s9 _ _ (s8 _ _ hD6), upd_same, by rw [List.length_append, List.length_singleton]; omega, fun v hv => ?_⟩
            rcases List.mem_append.mp hv with hv | hv
            · exact ((hws6 v hv).mono (TSm.of (s8.trans s9))).mono t10
            · rw [List.mem_singleton.mp hv]
              exact ⟨l, st + j, z, IsT.mono t10 (IsT.of (by rw [hp9]; rfl)), al⟩
        · rintro σ H6 ⟨v5, v6, v7, ws, rfl, s6, hD6, hw6, hwl6, hws6⟩
          have B6 := B.mono s6
          walk_at "go"
          refine ⟨x, dx, _, rfl, B6.ins, fm_is_forced v, ?_⟩
          walk_at "go"
          refine ⟨x, S, l, rfl, ⟨dx, v, B6⟩, hln, hl0, fun b => ?_⟩
          walk_at "go"
          refine s_ifB (fun e => ?_) fun e => ?_
          · walk_at "go"
            exact q r ws _ s6 nr hw6 hws6
          · walk_at "go"
            exact ⟨_, _, _, _, ws, rfl, s6, hD6, hw6, by omega, hws6⟩
      · rintro σ H3 ⟨v4, v5, v6, v7, ws, rfl, s3, hD3, hw3, hwl, hws⟩
        refine fin _ _ ws ?_ s3 hw3 hws
        rfl
end
end G
/-! Sheet.__init__. -/
namespace G
open PySem L2
/-- goes on through a reading as far as it decides itself -/
local macro_rules | `(tactic| walk_at "fact") => `(tactic| first | assumption | ((refine tnew ?_ ?_); assumption; (first | assumption | ((refine tnew ?_ ?_); assumption; (first | assumption | ((refine tnew ?_ ?_); assumption; assumption))))) | ((refine tsame ?_ ?_); assumption; assumption))
local macro_rules | `(tactic| walk_at "go1") => `(tactic| first
  | with_reducible refine s_op ?_ | ((with_reducible refine s_var (v := ?v) ?e ?_); (case e => rfl)) | with_reducible refine s_c ?_
  | with_reducible refine s_cb ?_ | with_reducible refine s_cons ?_ | with_reducible refine s_nil ?_ | with_reducible refine s_ret ?_ | with_reducible refine s_asg ?_ | with_reducible refine s_gname ?_
  | with_reducible refine s_ifS ?_ | with_reducible refine s_test ?_ | with_reducible refine s_B ?_ | with_reducible refine s_bl ?_ | with_reducible refine s_and ?_ | with_reducible refine s_or ?_ | with_reducible refine s_not ?_ | with_reducible refine s_if ?_
  | with_reducible refine s_un ?_ | with_reducible refine s_U ?_ | with_reducible refine s_drop ?_ | with_reducible refine s_next ?_ | with_reducible refine s_tup ?_ | with_reducible refine s_lst ?_ | with_reducible refine s_call ?_ | with_reducible refine s_dget ?_
  | ((with_reducible refine s_len ?h ?_); (case h => rfl)) | with_reducible refine s_notN ?_ | with_reducible refine s_isN ?_ | with_reducible refine s_yes ?_ | with_reducible refine s_fld ?_ | with_reducible refine s_meth ?_ | with_reducible refine s_andV ?_ | with_reducible refine s_orV ?_ | with_reducible refine s_gsub ?_ | with_reducible refine s_chain ?_ | with_reducible refine s_chain3 ?_ | with_reducible refine s_sl ?_ | with_reducible refine s_part ?_ | with_reducible refine s_noPart ?_ | with_reducible refine s_exI ?_ | with_reducible refine s_bm ?_ | ((with_reducible refine s_tyL (xs := ?xs) ?h ?_); (case h => assumption)) | with_reducible refine s_gcons ?_ | with_reducible refine s_gnil ?_ | with_reducible refine s_brk ?_ | with_reducible refine s_cont ?_
  | ((with_reducible refine s_ixT (xs := ?xs) (w := ?w) ?h ?e ?_); (case h => walk_at "fact"); (case e => rfl))
  | with_reducible refine s_max2 ?_ | with_reducible refine s_min2 ?_ | with_reducible refine s_intI ?_ | with_reducible refine s_intB ?_ | with_reducible refine s_I0 ?_ | with_reducible refine s_eqI ?_ | with_reducible refine s_eqS ?_ | with_reducible refine s_neI ?_)
local macro_rules | `(tactic| walk_at "go") => `(tactic| repeat walk_at "go1")
/-- the next statement -/
local macro_rules | `(tactic| walk_at "st") => `(tactic| (walk_at "go"; (with_reducible refine s_seq ?_); walk_at "go"))
/-- the next statement, cut off by a word -/
local macro_rules | `(tactic| walk_at "cut") => `(tactic| with_reducible refine s_cut ?_ ?_ ?_)
theorem pf_rows (y : V) : putF "rows" y ([] : List (Str × V)) = ([("rows", y)] : List (Str × V)) := by kernel_rfl
theorem pf_notes (a0 y : V) : putF "notes" y ([("rows", a0)] : List (Str × V)) = ([("rows", a0), ("notes", y)] : List (Str × V)) := by kernel_rfl
theorem pf_floats (a0 a1 y : V) : putF "floats" y ([("rows", a0), ("notes", a1)] : List (Str × V)) = ([("rows", a0), ("notes", a1), ("floats", y)] : List (Str × V)) := by kernel_rfl
theorem pf_flow (a0 a1 a2 y : V) : putF "flow" y ([("rows", a0), ("notes", a1), ("floats", a2)] : List (Str × V)) = ([("rows", a0), ("notes", a1), ("floats", a2), ("flow", y)] : List (Str × V)) := by kernel_rfl
theorem pf_end (a0 a1 a2 a3 y : V) : putF "end" y ([("rows", a0), ("notes", a1), ("floats", a2), ("flow", a3)] : List (Str × V)) = ([("rows", a0), ("notes", a1), ("floats", a2), ("flow", a3), ("end", y)] : List (Str × V)) := by kernel_rfl
theorem pf_ends (a0 a1 a2 a3 a4 y : V) : putF "ends" y ([("rows", a0), ("notes", a1), ("floats", a2), ("flow", a3), ("end", a4)] : List (Str × V)) = ([("rows", a0), ("notes", a1), ("floats", a2), ("flow", a3), ("end", a4), ("ends", y)] : List (Str × V)) := by kernel_rfl
theorem pf_places (a0 a1 a2 a3 a4 a5 y : V) : putF "places" y ([("rows", a0), ("notes", a1), ("floats", a2), ("flow", a3), ("end", a4), ("ends", a5)] : List (Str × V)) = ([("rows", a0), ("notes", a1), ("floats", a2), ("flow", a3), ("end", a4), ("ends", a5), ("places", y)] : List (Str × V)) := by kernel_rfl
theorem pf_lines (a0 a1 a2 a3 a4 a5 a6 y : V) : putF "lines" y ([("rows", a0), ("notes", a1), ("floats", a2), ("flow", a3), ("end", a4), ("ends", a5), ("places", a6)] : List (Str × V)) = ([("rows", a0), ("notes", a1), ("floats", a2), ("flow", a3), ("end", a4), ("ends", a5), ("places", a6), ("lines", y)] : List (Str × V)) := by kernel_rfl
theorem pf_start (a0 a1 a2 a3 a4 a5 a6 a7 y : V) : putF "start" y ([("rows", a0), ("notes", a1), ("floats", a2), ("flow", a3), ("end", a4), ("ends", a5), ("places", a6), ("lines", a7)] : List (Str × V)) = ([("rows", a0), ("notes", a1), ("floats", a2), ("flow", a3), ("end", a4), ("ends", a5), ("places", a6), ("lines", a7), ("start", y)] : List (Str × V)) := by kernel_rfl
theorem pf_sums (a0 a1 a2 a3 a4 a5 a6 a7 a8 y : V) : putF "sums" y ([("rows", a0), ("notes", a1), ("floats", a2), ("flow", a3), ("end", a4), ("ends", a5), ("places", a6), ("lines", a7), ("start", a8)] : List (Str × V)) = ([("rows", a0), ("notes", a1), ("floats", a2), ("flow", a3), ("end", a4), ("ends", a5), ("places", a6), ("lines", a7), ("start", a8), ("sums", y)] : List (Str × V)) := by kernel_rfl
theorem pf_above (a0 a1 a2 a3 a4 a5 a6 a7 a8 a9 y : V) : putF "above" y ([("rows", a0), ("notes", a1), ("floats", a2), ("flow", a3), ("end", a4), ("ends", a5), ("places", a6), ("lines", a7), ("start", a8), ("sums", a9)] : List (Str × V)) = ([("rows", a0), ("notes", a1), ("floats", a2), ("flow", a3), ("end", a4), ("ends", a5), ("places", a6), ("lines", a7), ("start", a8), ("sums", a9), ("above", y)] : List (Str × V)) := by kernel_rfl
theorem pf_forced (a0 a1 a2 a3 a4 a5 a6 a7 a8 a9 a10 y : V) : putF "forced" y ([("rows", a0), ("notes", a1), ("floats", a2), ("flow", a3), ("end", a4), ("ends", a5), ("places", a6), ("lines", a7), ("start", a8), ("sums", a9), ("above", a10)] : List (Str × V)) = ([("rows", a0), ("notes", a1), ("floats", a2), ("flow", a3), ("end", a4), ("ends", a5), ("places", a6), ("lines", a7), ("start", a8), ("sums", a9), ("above", a10), ("forced", y)] : List (Str × V)) := by kernel_rfl
/-! ### the heap without the sheet -/
theorem Same.sub {N H : Hp} {p : Addr} {o : HO} (h : Same N H) (hp : H p = some o) : Same (upd N p o) H := fun b u e => by
  by_cases hb : b = p
  · subst hb
    rw [upd_same] at e
    cases e
    exact hp
  · rw [upd_ne hb] at e
    exact h b u e
/-- N: what stands beside the sheet at x -/
structure Beside (x : Addr) (N H : Hp) : Prop where
  sub : Same N H
  off : N x = none
theorem Beside.put {x : Addr} {N H : Hp} {o : HO} (h : Beside x N H) : Beside x N (upd H x o) := ⟨h.sub.put h.off, h.off⟩
theorem Beside.grow {x p : Addr} {N H H' : Hp} {o u : HO} (h : Beside x N H) (e : Same H H') (hp : H p = none) (hp' : H' p = some o) (hx : H x = some u) : Beside x (upd N p o) H' ∧ Same N (upd N p o) := by
  have hpx : x ≠ p := ne_of_none hx hp
  exact ⟨⟨Same.sub (h.sub.trans e) hp', by rw [upd_ne hpx]; exact h.off⟩, Same.new (h.sub.free hp)⟩
/-! ### texts of rows -/
theorem rw_cost (r : Rw) : decide (V.str r.str = V.str "cost") = (match r with | .cost _ => true | _ => false) := by cases r <;> kernel_rfl
theorem rw_float (r : Rw) : decide (V.str r.str = V.str "float") = isFloat r := by cases r <;> kernel_rfl
theorem rw_line (r : Rw) : decide (V.str r.str = V.str "line") = isLine r := by cases r <;> kernel_rfl
def MatterAt (K : PySem.W.Frag) (H : Hp) (v : V) (S : Sh) : Prop := ∃ vr vn vf vw g c, IsT K H v [.str "matter", vr, vn, vf, vw] ∧ RowsAt K H vr S.rows ∧ IntsAt K H vn S.notes ∧ IntsAt K H vf S.floats ∧ FwAt K H vw S.F g c
theorem s_sfld {K : PySem.W.Frag} {ta tv : TE} {f : Str} {D : L2.Ends} {σ : L2.St} {H : Hp} (h : tv σ H fun y H1 => ta σ H1 fun x H2 => ∃ a C dx fs, x = .ref a ∧ H2 a = some (.ins C dx fs) ∧ Cls K C ∧ NoAttr K C f ∧ fs.length < 1000 ∧ D.nx σ (upd H2 a (.ins C dx (putF f y fs)))) : sFld K ta tv f D σ H := h
theorem s_sput {K : PySem.W.Frag} {C a dx : Addr} {f : Str} {H : Hp} {fs fs' : List (Str × V)} {y : V} {Q : Hp → Prop} (h : H a = some (.ins C dx fs)) (c : Cls K C) (n : NoAttr K C f) (hl : Nat.ble fs.length 100 = true) (e : putF f y fs = fs') (q : Q (upd H a (.ins C dx fs'))) :
    ∃ a' C' dx' fs0, V.ref a = .ref a' ∧ H a' = some (.ins C' dx' fs0) ∧ Cls K C' ∧ NoAttr K C' f ∧ fs0.length < 1000 ∧ Q (upd H a' (.ins C' dx' (putF f y fs0))) :=
  ⟨a, C, dx, fs, rfl, h, c, n, Nat.lt_of_le_of_lt (Nat.le_of_ble_eq_true hl) (by decide), by rw [e]; exact q⟩
section
variable {P : Program} {w : World} {K : PySem.W.Frag} {mg : Str → Option Value} {base : Heap} {C : Addr}
/-- [.. for at, row in enumerate(self.rows) if ..] -/
theorem enum_rows {p : Rw → Bool} {d : Int} {tt : TT} {te : TE} {H1 : Hp} {Q1 : VK} {x dx : Addr} {fs : List (Str × V)} {vr vm : V} {rs : List Rw} {v2 v3 v4 v5 : Option V} (SK : SC K C) (hx : H1 x = some (.ins C dx fs)) (hf : fs.lookup ("rows" : Str) = some vr) (hR : RowsAt K H1 vr rs) (few : rs.length ≤ 1000)
    (ht : ∀ (i : Nat) (r : Rw) (y : V) (H2 : Hp) (Q : Bool → Hp → Prop), RwAt K H2 y r → Q (p r) H2 → tt [some (.ref x), some vm, some y, some (.int i), v4, v5] H2 Q)
    (he : ∀ (i : Nat) (r : Rw) (y : V) (H2 : Hp) (Q : VK), Q (.int ((i : Int) + d)) H2 → te [some (.ref x), some vm, some y, some (.int i), v4, v5] H2 Q)
    (q : ∀ D H2, H1 D = none → Same H1 H2 → H2 D = some (.lst ((posBy p d rs rs.length).map V.int)) → Q1 (.ref D) H2) :
    tLc (iEnum K (tCons (tFld K (tVar 0) "rows") tNil)) (gTup K 2 (gCons (gName 3) (gCons (gName 2) gNil))) tt te [3, 2] [some (.ref x), some vm, v2, v3, v4, v5] H1 Q1 := by
  obtain ⟨pr, vsr, rfl, hL, hLs⟩ := hR
  refine s_lcE ?_
  walk_at "go"
  refine s_fldAt hx SK.cls SK.n_rows hf ?_
  walk_at "go"
  refine ⟨pr, vsr, rfl, hL, fun D nD => lc_it walk_enum (fun i H2 => Same H1 H2 ∧ H2 D = some (.lst ((posBy p d rs i).map V.int))) ⟨Same.new nD, upd_same⟩ (fun i H2 _ h => h.1.seq hL) ?_ ?_⟩
  · rintro i y H2 H3 hi ⟨s2, hD⟩ ⟨T1, a, b, rfl, nT, rfl, ha, hb⟩
    obtain rfl : V.int i = a := Option.some.inj ha
    obtain ⟨r, hr, hrb⟩ := hLs.getV hb
    have hi' : i < rs.length := by rw [← hLs.len]; exact hi
    have er : rs.getD i dRw = r := Option.some.inj ((getD_at hi').symm.trans hr)
    have s3 : Same H2 (upd H2 T1 (.tup [.int i, b])) := Same.new nT
    have hpl := posBy_len p d rs i
    refine s_gtup (IsT.of upd_same) rfl ?_
    walk_at "go"
    refine ⟨rfl, ?_⟩
    refine ht i r b _ _ (hrb.mono (TSm.of (s2.trans s3))) ?_
    have st := s2.trans s3
    have hD3 := s3 _ _ hD
    by_cases hp : p r = true
    · refine s_ifT hp ?_
      refine he i r b _ _ ?_
      refine ⟨_, hD3, lt1M (by rw [List.length_map]; omega), st.put nD, ?_⟩
      rw [upd_same]
      show _ = some (HO.lst ((posBy p d rs i ++ (if p (rs.getD i dRw) = true then [(i : Int) + d] else [])).map V.int))
      rw [er, if_pos hp, List.map_append]
      rfl
    · refine s_ifF (by simpa using hp) ?_
      refine ⟨st, ?_⟩
      rw [hD3]
      show _ = some (HO.lst ((posBy p d rs i ++ (if p (rs.getD i dRw) = true then [(i : Int) + d] else [])).map V.int))
      rw [er, if_neg hp, List.append_nil]
  · rintro H2 ⟨s2, hD⟩
    rw [hLs.len] at hD
    exact q D H2 nD s2 hD
/-- [.. for row in self.rows], a bool each -/
theorem list_rows {p : Rw → Bool} {te : TE} {H1 : Hp} {Q1 : VK} {x dx : Addr} {fs : List (Str × V)} {vr vm : V} {rs : List Rw} {v2 v3 v4 v5 : Option V} (SK : SC K C) (hx : H1 x = some (.ins C dx fs)) (hf : fs.lookup ("rows" : Str) = some vr) (hR : RowsAt K H1 vr rs) (few : rs.length ≤ 1000)
    (he : ∀ (r : Rw) (y : V) (H2 : Hp) (Q : VK), RwAt K H2 y r → Q (.bl (p r)) H2 → te [some (.ref x), some vm, some y, v3, v4, v5] H2 Q)
    (q : ∀ D H2, H1 D = none → Same H1 H2 → H2 D = some (.lst ((rs.map p).map V.bl)) → Q1 (.ref D) H2) :
    tLc (iList K (tFld K (tVar 0) "rows")) (gName 2) tYes te [2] [some (.ref x), some vm, v2, v3, v4, v5] H1 Q1 := by
  obtain ⟨pr, vsr, rfl, hL, hLs⟩ := hR
  refine s_lcL ?_
  walk_at "go"
  refine s_fldAt hx SK.cls SK.n_rows hf ?_
  refine ⟨pr, rfl, ⟨_, hL⟩, fun D nD => lc_it walk_list (fun i H2 => Same H1 H2 ∧ H2 D = some (.lst (((rs.take i).map p).map V.bl))) ⟨Same.new nD, upd_same⟩ (fun i H2 _ h => h.1.seq hL) ?_ ?_⟩
  · rintro i y H2 H3 hi ⟨s2, hD⟩ ⟨rfl, hy⟩
    obtain ⟨r, hr, hrb⟩ := hLs.getV hy
    walk_at "go"
    refine ⟨rfl, ?_⟩
    walk_at "go"
    refine s_ifT rfl ?_
    refine he r y _ _ (hrb.mono (TSm.of s2)) ?_
    refine ⟨_, hD, lt1M (by rw [List.length_map, List.length_map, List.length_take]; omega), s2.put nD, ?_⟩
    rw [upd_same, List.take_add_one, hr, List.map_append, List.map_append]
    rfl
  · rintro H2 ⟨s2, hD⟩
    rw [hLs.len, List.take_of_length_le (Nat.le_refl _)] at hD
    exact q D H2 nD s2 hD
def spInit (K : PySem.W.Frag) (C : Addr) : Sp := fun vs H Q _ => ∃ (x dx : Addr) (vm : V) (Hb : Hp) (S : Sh), vs = [.ref x, vm] ∧ H x = some (.ins C dx []) ∧ Same Hb H ∧ Hb x = none ∧ MatterAt K Hb vm S ∧ ShOk S ∧ ∀ H', Same Hb H' → ShAt K C H' x S → Q .non H'
theorem s_setS (S : Sh) (i : Nat) : S.sums (i + 1) = S.sums i ++ [S.sumV (i + 1)] := by
  unfold Sh.sums
  rw [List.range_succ, List.map_append]
  rfl
theorem Sh.sums_len (S : Sh) (i : Nat) : (S.sums i).length = i + 1 := by unfold Sh.sums; rw [List.length_map, List.length_range]
abbrev s_Sheet___init__ : Stmt := inClass (topS 14) 0
theorem sc_Sheet___init__ : FnScope ["self", "matter", "row", "at", "a", "b"] ["self", "matter"] (defScope s_Sheet___init__) := ⟨rfl, rfl, rfl, by decide +kernel, rfl, by decide +kernel, by decide +kernel⟩
set_option maxHeartbeats 2000000 in
theorem ok_init {f : Addr} {fd : FuncData} (F0 : Fun K "__init__" "Sheet.__init__" s_Sheet___init__ f fd) (T : Txt mg) (SK : SC K C) (Mparts : Cm P w K mg base C "parts" 1 ["self", "row"] (spParts K C)) (Ccounts_of : Cl P w K mg base CX0 "counts_of" 1 ["marks"] (spCounts K)) :
    FnOk P w K mg base CX0 2 f fd ["self", "matter"] (spInit K C) := by
  refine F0.ok sc_Sheet___init__ (fun vs H Q E h => ?_) (fun cdv A outer s H vs Q E hr h => ?_)
  · obtain ⟨_, _, _, _, _, rfl, _⟩ := h
    rfl
  · obtain ⟨x, dx, vm, N0, S, rfl, hx, hs, hn, ⟨vr, vn, vf, vw, gw, cw, hM, hR, hNo, hFl, hF⟩, ok, q⟩ := h
    have few : S.n ≤ 1000 := ok.few
    have few' : S.rows.length ≤ 1000 := ok.few
    refine ⟨_, (pss_cons (ps_fld (pv 0) (pe_ix ix_tup (pv 1) pe_int (fun _ _ => rfl)) rfl)
      (pss_cons (ps_fld (pv 0) (pe_ix ix_tup (pv 1) pe_int (fun _ _ => rfl)) rfl)
      (pss_cons (ps_fld (pv 0) (pe_ix ix_tup (pv 1) pe_int (fun _ _ => rfl)) rfl)
      (pss_cons (ps_fld (pv 0) (pe_ix ix_tup (pv 1) pe_int (fun _ _ => rfl)) rfl)
      (pss_cons (ps_fld (pv 0) (pe_callB c_len (by rfl) T.len (by decide +kernel) (pa_cons (pe_fld (pv 0) rfl) pa_nil)) rfl)
      (pss_cons (ps_fld (pv 0) (pe_op op_cat (pe_lc (own := [("at", 3), ("row", 2)]) (g := (gTup K 2 (gCons (gName 3) (gCons (gName 2) gNil)))) (tt := (tAnd (tTest (tOp rEq (tOp (rIxT K) (tVar 2) (tC (.int 0))) (tC (.str "cost")))) (tTest (tOp (rI0 fun i j => .bl (decide (i < j))) (tOp (rIxT K) (tVar 2) (tC (.int 1))) (tC (.int 10000)))))) (te := (tOp (rI0 fun i j => .int (i + j)) (tVar 3) (tC (.int 1)))) rfl sc_Sheet___init__.nd (pi_enum (by rfl) T.enumerate (pa_cons (pe_fld (pv 0) rfl) pa_nil)) (blkOk_by (by kernel_rfl)) (fun _ _ _ _ _ => (pg_tup (n := 2) rfl (pgs_cons (pg_name (i := 3) sc_Sheet___init__.nd rfl (Or.inl rfl)) (pgs_cons (pg_name (i := 2) sc_Sheet___init__.nd rfl (Or.inl rfl)) pgs_nil)))) (fun _ _ _ _ _ => (pts_one (PW.pt (pw_and (pt_cmpR op_eq (pe_ix ix_tup (pv 2) pe_int (fun _ _ => rfl)) pe_str (nomark _)) (pw_and1 (pt_cmpR op_lt (pe_ix ix_tup (pv 2) pe_int (fun _ _ => rfl)) (pe_gI rfl T.gFORBIDDEN) (nomark _))))))) (fun _ _ _ _ _ => (pe_op op_add (pv 3) pe_int))) (pe_lst (pa_cons (pe_fld (pv 0) rfl) pa_nil))) rfl)
      (pss_cons (ps_fld (pv 0) (pe_lc (own := [("at", 3), ("row", 2)]) (g := (gTup K 2 (gCons (gName 3) (gCons (gName 2) gNil)))) (tt := (tTest (tOp rEq (tOp (rIxT K) (tVar 2) (tC (.int 0))) (tC (.str "float"))))) (te := (tVar 3)) rfl sc_Sheet___init__.nd (pi_enum (by rfl) T.enumerate (pa_cons (pe_fld (pv 0) rfl) pa_nil)) (blkOk_by (by kernel_rfl)) (fun _ _ _ _ _ => (pg_tup (n := 2) rfl (pgs_cons (pg_name (i := 3) sc_Sheet___init__.nd rfl (Or.inl rfl)) (pgs_cons (pg_name (i := 2) sc_Sheet___init__.nd rfl (Or.inl rfl)) pgs_nil)))) (fun _ _ _ _ _ => (pts_one (pt_cmpR op_eq (pe_ix ix_tup (pv 2) pe_int (fun _ _ => rfl)) pe_str (nomark _)))) (fun _ _ _ _ _ => (pv 3))) rfl)
      (pss_cons (ps_fld (pv 0) (pe_lc (own := [("at", 3), ("row", 2)]) (g := (gTup K 2 (gCons (gName 3) (gCons (gName 2) gNil)))) (tt := (tTest (tOp rEq (tOp (rIxT K) (tVar 2) (tC (.int 0))) (tC (.str "line"))))) (te := (tVar 3)) rfl sc_Sheet___init__.nd (pi_enum (by rfl) T.enumerate (pa_cons (pe_fld (pv 0) rfl) pa_nil)) (blkOk_by (by kernel_rfl)) (fun _ _ _ _ _ => (pg_tup (n := 2) rfl (pgs_cons (pg_name (i := 3) sc_Sheet___init__.nd rfl (Or.inl rfl)) (pgs_cons (pg_name (i := 2) sc_Sheet___init__.nd rfl (Or.inl rfl)) pgs_nil)))) (fun _ _ _ _ _ => (pts_one (pt_cmpR op_eq (pe_ix ix_tup (pv 2) pe_int (fun _ _ => rfl)) pe_str (nomark _)))) (fun _ _ _ _ _ => (pv 3))) rfl)
      (pss_cut (ps_fld (pv 0) (pe_ifExp (pt_truth (pe_fld (pv 0) rfl) (by intro _; rfl)) pe_int (pe_fld (pv 0) rfl)) rfl)
      (pss_cons (ps_fld (pv 0) (pe_lst (pa_cons (pe_lst (pa_cons pe_int (pa_cons pe_int (pa_cons pe_int (pa_cons pe_int (pa_cons pe_int pa_nil)))))) pa_nil)) rfl)
      (pss_cons (ps_for PassesOwn.never rfl (pi_list (pe_fld (pv 0) rfl)) (pg_name (i := 2) sc_Sheet___init__.nd rfl (Or.inl rfl))
        (pss_one (ps_expr (pe_bm PySem.F.plainAttrs_list PySem.F.slot_list_append PySem.F.type_list_append mt_append (pe_fld (pv 0) rfl) (pa_cons (pe_lc (own := [("a", 4), ("b", 5)]) (g := (gTup K 2 (gCons (gName 4) (gCons (gName 5) gNil)))) (tt := tYes) (te := (tOp (rI0 fun i j => .int (i + j)) (tVar 4) (tVar 5))) rfl sc_Sheet___init__.nd (pi_zip (by rfl) T.zip (pa_cons (pe_ix ix_list (pe_fld (pv 0) rfl) (pe_un un_neg pe_int) (fun _ _ => rfl)) (pa_cons (pe_cm Mparts hr pass0 (pv 0) (pa_cons (pv 2) pa_nil)) pa_nil))) (blkOk_by (by kernel_rfl)) (fun _ _ _ _ _ => (pg_tup (n := 2) rfl (pgs_cons (pg_name (i := 4) sc_Sheet___init__.nd rfl (Or.inl rfl)) (pgs_cons (pg_name (i := 5) sc_Sheet___init__.nd rfl (Or.inl rfl)) pgs_nil)))) (fun _ _ _ _ _ => pts_nil) (fun _ _ _ _ _ => (pe_op op_add (pv 4) (pv 5)))) pa_nil)))))
      (pss_cons (ps_fld (pv 0) (pe_cl Ccounts_of hr (by rfl) pass0 (pa_cons (pe_lc (own := [("row", 2)]) (g := (gName 2)) (tt := tYes) (te := (tOp rEq (tOp (rIxT K) (tVar 2) (tC (.int 0))) (tC (.str "line")))) rfl sc_Sheet___init__.nd (pi_list (pe_fld (pv 0) rfl)) (blkOk_by (by kernel_rfl)) (fun _ _ _ _ _ => (pg_name (i := 2) sc_Sheet___init__.nd rfl (Or.inl rfl))) (fun _ _ _ _ _ => pts_nil) (fun _ _ _ _ _ => (pe_cmpR op_eq (pe_ix ix_tup (pv 2) pe_int (fun _ _ => rfl)) pe_str (nomark _)))) pa_nil)) rfl)
      (pss_one (ps_fld (pv 0) (pe_cl Ccounts_of hr (by rfl) pass0 (pa_cons (pe_lc (own := [("row", 2)]) (g := (gName 2)) (tt := tYes) (te := (tAndV (tOp rEq (tOp (rIxT K) (tVar 2) (tC (.int 0))) (tC (.str "cost"))) (tOp (rI0 fun i j => .bl (decide (i ≤ j))) (tOp (rIxT K) (tVar 2) (tC (.int 1))) (tC (.int (-10000)))))) rfl sc_Sheet___init__.nd (pi_list (pe_fld (pv 0) rfl)) (blkOk_by (by kernel_rfl)) (fun _ _ _ _ _ => (pg_name (i := 2) sc_Sheet___init__.nd rfl (Or.inl rfl))) (fun _ _ _ _ _ => pts_nil) (fun _ _ _ _ _ => (pe_and (pe_cmpR op_eq (pe_ix ix_tup (pv 2) pe_int (fun _ _ => rfl)) pe_str (nomark _)) (pe_one (pe_cmpR op_le (pe_ix ix_tup (pv 2) pe_int (fun _ _ => rfl)) (pe_gI rfl T.gFORCED) (nomark _)))))) pa_nil)) rfl)))))))))))))), ?_⟩
    dsimp only [cxOf, L2.Cx.nox, L2.Cx.wish]
    have b0 : Beside x N0 H := ⟨hs, hn⟩
    obtain ⟨pr, vsr, rfl, hL, hLs⟩ := hR
    have hR : RowsAt K N0 (.ref pr) S.rows := ⟨pr, vsr, rfl, hL, hLs⟩
    have hx0 := hx
    -- self.rows
    walk_at "st"
    refine s_sfld ?_
    have hM0 := hM.mono (TSm.of b0.sub)
    walk_at "go"
    refine s_sput hx0 SK.cls SK.n_rows rfl (pf_rows _) ?_
    have b1 : Beside x N0 (upd H x (.ins C dx [("rows", .ref pr)])) := b0.put
    generalize hH1 : upd H x (.ins C dx [("rows", .ref pr)]) = H1 at b1
    have hx1 : H1 x = some (.ins C dx [("rows", .ref pr)]) := by rw [← hH1, upd_same]
    -- self.notes
    walk_at "st"
    refine s_sfld ?_
    have hM1 := hM.mono (TSm.of b1.sub)
    walk_at "go"
    refine s_sput hx1 SK.cls SK.n_notes rfl (pf_notes (.ref pr) _) ?_
    have b2 : Beside x N0 (upd H1 x (.ins C dx [("rows", .ref pr), ("notes", vn)])) := b1.put
    generalize hH2 : upd H1 x (.ins C dx [("rows", .ref pr), ("notes", vn)]) = H2 at b2
    have hx2 : H2 x = some (.ins C dx [("rows", .ref pr), ("notes", vn)]) := by rw [← hH2, upd_same]
    -- self.floats
    walk_at "st"
    refine s_sfld ?_
    have hM2 := hM.mono (TSm.of b2.sub)
    walk_at "go"
    refine s_sput hx2 SK.cls SK.n_floats rfl (pf_floats (.ref pr) vn _) ?_
    have b3 : Beside x N0 (upd H2 x (.ins C dx [("rows", .ref pr), ("notes", vn), ("floats", vf)])) := b2.put
    generalize hH3 : upd H2 x (.ins C dx [("rows", .ref pr), ("notes", vn), ("floats", vf)]) = H3 at b3
    have hx3 : H3 x = some (.ins C dx [("rows", .ref pr), ("notes", vn), ("floats", vf)]) := by rw [← hH3, upd_same]
    -- self.flow
    walk_at "st"
    refine s_sfld ?_
    have hM3 := hM.mono (TSm.of b3.sub)
    walk_at "go"
    refine s_sput hx3 SK.cls SK.n_flow rfl (pf_flow (.ref pr) vn vf _) ?_
    have b4 : Beside x N0 (upd H3 x (.ins C dx [("rows", .ref pr), ("notes", vn), ("floats", vf), ("flow", vw)])) := b3.put
    generalize hH4 : upd H3 x (.ins C dx [("rows", .ref pr), ("notes", vn), ("floats", vf), ("flow", vw)]) = H4 at b4
    have hx4 : H4 x = some (.ins C dx [("rows", .ref pr), ("notes", vn), ("floats", vf), ("flow", vw)]) := by rw [← hH4, upd_same]
    -- self.end
    walk_at "st"
    refine s_sfld ?_
    walk_at "go"
    refine s_fldAt hx4 SK.cls SK.n_rows (by rfl) ?_
    walk_at "go"
    refine s_lenL (b4.sub.seq hL) ?_
    rw [show vsr.length = S.n from hLs.len]
    walk_at "go"
    refine s_sput hx4 SK.cls SK.n_end rfl (pf_end (.ref pr) vn vf vw _) ?_
    have b5 : Beside x N0 (upd H4 x (.ins C dx [("rows", .ref pr), ("notes", vn), ("floats", vf), ("flow", vw), ("end", .int S.n)])) := b4.put
    generalize hH5 : upd H4 x (.ins C dx [("rows", .ref pr), ("notes", vn), ("floats", vf), ("flow", vw), ("end", .int S.n)]) = H5 at b5
    have hx5 : H5 x = some (.ins C dx [("rows", .ref pr), ("notes", vn), ("floats", vf), ("flow", vw), ("end", .int S.n)]) := by rw [← hH5, upd_same]
    -- self.ends
    walk_at "st"
    refine s_sfld ?_
    walk_at "go"
    refine enum_rows (p := isEnd) (d := 1) SK hx5 (by rfl) (hR.mono b5.sub) few' ?_ ?_ fun D H6 nD s6 hD => ?_
    · intro i r y H2 Q hr q
      cases r with
      | cost c =>
        have hr : IsT K H2 y [.str "cost", .int c] := hr
        walk_at "go"
        refine s_ifT (by decide +kernel) ?_
        walk_at "go"
        exact q
      | line b l h d ns =>
        obtain ⟨n, hr, _⟩ := hr
        walk_at "go"
        refine s_ifF (by decide +kernel) ?_
        exact q
      | gap h s k =>
        have hr : IsT K H2 y [.str "gap", .int h, .int s, .int k] := hr
        walk_at "go"
        refine s_ifF (by decide +kernel) ?_
        exact q
      | float n =>
        have hr : IsT K H2 y [.str "float", .int n] := hr
        walk_at "go"
        refine s_ifF (by decide +kernel) ?_
        exact q
    · intro i r y H2 Q q
      walk_at "go"
      exact q
    have h6x := s6 _ _ hx5
    walk_at "go"
    refine s_fldAt h6x SK.cls SK.n_end (by rfl) ?_
    walk_at "go"
    intro p5a np5a
    have s6a : Same H6 (upd H6 p5a (.lst [.int S.n])) := Same.new np5a
    have hpl := posBy_len isEnd 1 S.rows S.rows.length
    refine s_cat (s6a _ _ hD) upd_same (by rw [List.length_map, List.length_singleton]; omega) fun p5 np5 => ?_
    have s6b : Same (upd H6 p5a (.lst [.int S.n])) (upd (upd H6 p5a (.lst [.int S.n])) p5 (.lst ((posBy isEnd 1 S.rows S.rows.length).map V.int ++ [.int S.n]))) := Same.new np5
    generalize hH6c : upd (upd H6 p5a (.lst [.int S.n])) p5 (.lst ((posBy isEnd 1 S.rows S.rows.length).map V.int ++ [.int S.n])) = H6c at s6b
    have hp5 : H6c p5 = some (.lst (S.ends.map V.int)) := by
      rw [← hH6c, upd_same]
      show _ = some (HO.lst ((posBy isEnd 1 S.rows S.rows.length ++ [(S.n : Int)]).map V.int))
      rw [List.map_append]
      rfl
    have s56 := s6.trans (s6a.trans s6b)
    obtain ⟨b5', c6⟩ := b5.grow s56 ((s6.trans s6a).free np5) hp5 hx5
    generalize hN6 : upd N0 p5 (.lst (S.ends.map V.int)) = N6 at b5' c6
    have i5 : IntsAt K N6 (.ref p5) S.ends := IntsAt.of (by rw [← hN6, upd_same])
    walk_at "go"
    have hx5' := s56 _ _ hx5
    clear hx5
    have hx5 := hx5'
    refine s_sput hx5 SK.cls SK.n_ends rfl (pf_ends (.ref pr) vn vf vw (.int S.n) _) ?_
    have b6 : Beside x N6 (upd H6c x (.ins C dx [("rows", .ref pr), ("notes", vn), ("floats", vf), ("flow", vw), ("end", .int S.n), ("ends", .ref p5)])) := b5'.put
    generalize hH6 : upd H6c x (.ins C dx [("rows", .ref pr), ("notes", vn), ("floats", vf), ("flow", vw), ("end", .int S.n), ("ends", .ref p5)]) = H6 at b6
    have hx6 : H6 x = some (.ins C dx [("rows", .ref pr), ("notes", vn), ("floats", vf), ("flow", vw), ("end", .int S.n), ("ends", .ref p5)]) := by rw [← hH6, upd_same]
    -- self.places
    walk_at "st"
    refine s_sfld ?_
    walk_at "go"
    refine enum_rows (p := isFloat) (d := 0) SK hx6 (by rfl) (hR.mono (c6.trans b6.sub)) few' ?_ ?_ fun p6 H6a np6 s6 hp6 => ?_
    · intro i r y H2 Q hr q
      obtain ⟨z, xs, hz⟩ := hr.one
      walk_at "go"
      refine s_ixT hz (atI_nat (j := 0) rfl) ?_
      walk_at "go"
      rw [rw_float]
      exact q
    · intro i r y H2 Q q
      rw [Int.add_zero] at q
      walk_at "go"
      exact q
    obtain ⟨b6', c7⟩ := b6.grow s6 np6 hp6 hx6
    generalize hN7 : upd N6 p6 (.lst ((posBy isFloat 0 S.rows S.rows.length).map V.int)) = N7 at b6' c7
    have i6 : IntsAt K N7 (.ref p6) S.places := IntsAt.of (by rw [← hN7, upd_same]; rfl)
    have hx6' := s6 _ _ hx6
    clear hx6
    have hx6 := hx6'
    walk_at "go"
    refine s_sput hx6 SK.cls SK.n_places rfl (pf_places (.ref pr) vn vf vw (.int S.n) (.ref p5) _) ?_
    have b7 : Beside x N7 (upd H6a x (.ins C dx [("rows", .ref pr), ("notes", vn), ("floats", vf), ("flow", vw), ("end", .int S.n), ("ends", .ref p5), ("places", .ref p6)])) := b6'.put
    generalize hH7 : upd H6a x (.ins C dx [("rows", .ref pr), ("notes", vn), ("floats", vf), ("flow", vw), ("end", .int S.n), ("ends", .ref p5), ("places", .ref p6)]) = H7 at b7
    have hx7 : H7 x = some (.ins C dx [("rows", .ref pr), ("notes", vn), ("floats", vf), ("flow", vw), ("end", .int S.n), ("ends", .ref p5), ("places", .ref p6)]) := by rw [← hH7, upd_same]
    -- self.lines
    walk_at "st"
    refine s_sfld ?_
    walk_at "go"
    refine enum_rows (p := isLine) (d := 0) SK hx7 (by rfl) (hR.mono ((c6.trans c7).trans b7.sub)) few' ?_ ?_ fun p7 H7a np7 s7 hp7 => ?_
    · intro i r y H2 Q hr q
      obtain ⟨z, xs, hz⟩ := hr.one
      walk_at "go"
      refine s_ixT hz (atI_nat (j := 0) rfl) ?_
      walk_at "go"
      rw [rw_line]
      exact q
    · intro i r y H2 Q q
      rw [Int.add_zero] at q
      walk_at "go"
      exact q
    obtain ⟨b7', c8⟩ := b7.grow s7 np7 hp7 hx7
    generalize hN8 : upd N7 p7 (.lst ((posBy isLine 0 S.rows S.rows.length).map V.int)) = N8 at b7' c8
    have i7 : IntsAt K N8 (.ref p7) S.lines := IntsAt.of (by rw [← hN8, upd_same]; rfl)
    have hx7' := s7 _ _ hx7
    clear hx7
    have hx7 := hx7'
    walk_at "go"
    refine s_sput hx7 SK.cls SK.n_lines rfl (pf_lines (.ref pr) vn vf vw (.int S.n) (.ref p5) (.ref p6) _) ?_
    have b8 : Beside x N8 (upd H7a x (.ins C dx [("rows", .ref pr), ("notes", vn), ("floats", vf), ("flow", vw), ("end", .int S.n), ("ends", .ref p5), ("places", .ref p6), ("lines", .ref p7)])) := b7'.put
    generalize hH8 : upd H7a x (.ins C dx [("rows", .ref pr), ("notes", vn), ("floats", vf), ("flow", vw), ("end", .int S.n), ("ends", .ref p5), ("places", .ref p6), ("lines", .ref p7)]) = H8 at b8
    have hx8 : H8 x = some (.ins C dx [("rows", .ref pr), ("notes", vn), ("floats", vf), ("flow", vw), ("end", .int S.n), ("ends", .ref p5), ("places", .ref p6), ("lines", .ref p7)]) := by rw [← hH8, upd_same]
    -- self.start
    obtain ⟨pi7, ei7, hi7⟩ := i7
    cases ei7
    have hst : S.start = if S.lines = [] then (S.n : Int) else 0 := rfl
    refine s_cut (fun σ' H' => σ' = [some (.ref x), some vm, none, none, none, none] ∧ H' = upd H8 x (.ins C dx [("rows", .ref pr), ("notes", vn), ("floats", vf), ("flow", vw), ("end", .int S.n), ("ends", .ref p5), ("places", .ref p6), ("lines", .ref p7), ("start", .int S.start)])) ?_ ?_
    · refine s_sfld ?_
      walk_at "go"
      refine s_fldAt hx8 SK.cls SK.n_lines (by rfl) ?_
      refine ⟨!(S.lines.map V.int).isEmpty, .inl ⟨_, b8.sub.seq hi7, rfl⟩, ?_⟩
      by_cases hl : S.lines = []
      · refine s_ifF (by rw [hl]; rfl) ?_
        walk_at "go"
        refine s_fldAt hx8 SK.cls SK.n_end (by rfl) ?_
        walk_at "go"
        refine s_sput hx8 SK.cls SK.n_start rfl (pf_start (.ref pr) vn vf vw (.int S.n) (.ref p5) (.ref p6) (.ref p7) _) ?_
        exact ⟨rfl, by rw [hst, if_pos hl]⟩
      · refine s_ifT (by cases e : S.lines with | nil => exact absurd e hl | cons a b => rfl) ?_
        walk_at "go"
        refine s_sput hx8 SK.cls SK.n_start rfl (pf_start (.ref pr) vn vf vw (.int S.n) (.ref p5) (.ref p6) (.ref p7) _) ?_
        exact ⟨rfl, by rw [hst, if_neg hl]⟩
    rintro σ' H9 ⟨rfl, rfl⟩
    have i7 : IntsAt K N8 (.ref p7) S.lines := ⟨p7, rfl, hi7⟩
    have b9 : Beside x N8 (upd H8 x (.ins C dx [("rows", .ref pr), ("notes", vn), ("floats", vf), ("flow", vw), ("end", .int S.n), ("ends", .ref p5), ("places", .ref p6), ("lines", .ref p7), ("start", .int S.start)])) := b8.put
    generalize hH9 : upd H8 x (.ins C dx [("rows", .ref pr), ("notes", vn), ("floats", vf), ("flow", vw), ("end", .int S.n), ("ends", .ref p5), ("places", .ref p6), ("lines", .ref p7), ("start", .int S.start)]) = H9 at b9
    have hx9 : H9 x = some (.ins C dx [("rows", .ref pr), ("notes", vn), ("floats", vf), ("flow", vw), ("end", .int S.n), ("ends", .ref p5), ("places", .ref p6), ("lines", .ref p7), ("start", .int S.start)]) := by rw [← hH9, upd_same]
    -- self.sums
    walk_at "st"
    refine s_sfld ?_
    walk_at "go"
    intro p9a np9a
    walk_at "go"
    intro p9 np9
    have s9a : Same H9 (upd H9 p9a (.lst [.int 0, .int 0, .int 0, .int 0, .int 0])) := Same.new np9a
    have s9b : Same (upd H9 p9a (.lst [.int 0, .int 0, .int 0, .int 0, .int 0])) (upd (upd H9 p9a (.lst [.int 0, .int 0, .int 0, .int 0, .int 0])) p9 (.lst [.ref p9a])) := Same.new np9
    obtain ⟨b9a, c9a⟩ := b9.grow s9a np9a upd_same hx9
    generalize hN9a : upd N8 p9a (.lst [.int 0, .int 0, .int 0, .int 0, .int 0]) = N9 at b9a c9a
    have i9a : IntsAt K N9 (.ref p9a) (S.sumV 0) := IntsAt.of (by rw [← hN9a, upd_same]; rfl)
    generalize hH9a : upd H9 p9a (.lst [.int 0, .int 0, .int 0, .int 0, .int 0]) = H9a at s9a s9b b9a np9
    generalize hH9b : upd H9a p9 (.lst [.ref p9a]) = H9b at s9b
    have hp9 : H9b p9 = some (.lst [.ref p9a]) := by rw [← hH9b, upd_same]
    have nN9 : N9 p9 = none := b9a.sub.free np9
    have b9b : Beside x N9 H9b := ⟨b9a.sub.trans s9b, b9a.off⟩
    have hx9' := (s9a.trans s9b) _ _ hx9
    have x9 : x ≠ p9 := ne_of_none (s9a _ _ hx9) np9
    clear hx9
    have hx9 := hx9'
    walk_at "go"
    refine s_sput hx9 SK.cls SK.n_sums rfl (pf_sums (.ref pr) vn vf vw (.int S.n) (.ref p5) (.ref p6) (.ref p7) (.int S.start) _) ?_
    have b10 : Beside x N9 (upd H9b x (.ins C dx [("rows", .ref pr), ("notes", vn), ("floats", vf), ("flow", vw), ("end", .int S.n), ("ends", .ref p5), ("places", .ref p6), ("lines", .ref p7), ("start", .int S.start), ("sums", .ref p9)])) := b9b.put
    generalize hH10 : upd H9b x (.ins C dx [("rows", .ref pr), ("notes", vn), ("floats", vf), ("flow", vw), ("end", .int S.n), ("ends", .ref p5), ("places", .ref p6), ("lines", .ref p7), ("start", .int S.start), ("sums", .ref p9)]) = H10 at b10
    have hx10 : H10 x = some (.ins C dx [("rows", .ref pr), ("notes", vn), ("floats", vf), ("flow", vw), ("end", .int S.n), ("ends", .ref p5), ("places", .ref p6), ("lines", .ref p7), ("start", .int S.start), ("sums", .ref p9)]) := by rw [← hH10, upd_same]
    have hp9 : H10 p9 = some (.lst [.ref p9a]) := by rw [← hH10, upd_ne x9.symm]; exact hp9
    -- for row in self.rows
    have c09 : Same N0 N9 := ((c6.trans c7).trans c8).trans c9a
    walk_at "st"
    refine s_forL ?_
    walk_at "go"
    refine s_fldAt hx10 SK.cls SK.n_rows (by rfl) ?_
    refine ⟨pr, rfl, ⟨_, b10.sub.seq (c09.seq hL)⟩, for_it walk_list (fun i σ H2 => ∃ v2 v4 v5 N2 vss, σ = [some (.ref x), some vm, v2, none, v4, v5] ∧ Same N9 N2 ∧ Same N2 H2 ∧ N2 x = none ∧ N2 p9 = none ∧ H2 x = some (.ins C dx [("rows", .ref pr), ("notes", vn), ("floats", vf), ("flow", vw), ("end", .int S.n), ("ends", .ref p5), ("places", .ref p6), ("lines", .ref p7), ("start", .int S.start), ("sums", .ref p9)]) ∧ H2 p9 = some (.lst vss) ∧ Ls (IntsAt K N2) vss (S.sums i))
      ⟨_, _, _, N9, [.ref p9a], rfl, Same.refl _, b10.sub, b10.off, nN9, hx10, hp9, .one i9a⟩ (fun i σ H2 _ ⟨_, _, _, N2, _, _, e1, e2, _⟩ => e2.seq ((c09.trans e1).seq hL)) ?_ ?_⟩
    · rintro i y σ H2 H3 hi ⟨v2, v4, v5, N2, vss, rfl, e1, e2, ox, op, hx2, hp2, hvs⟩ ⟨rfl, hy⟩
      obtain ⟨r, hr, hrb⟩ := hLs.getV hy
      have hi' : i < S.rows.length := by rw [← hLs.len]; exact hi
      have er : S.rows.getD i dRw = r := Option.some.inj ((getD_at hi').symm.trans hr)
      have hrm : r ∈ S.rows := List.mem_of_getElem? hr
      have hvl := hvs.len
      rw [S.sums_len] at hvl
      obtain ⟨vl, hvl1, pl, rfl, hvl2⟩ := hvs.get (show (S.sums i)[i]? = some (S.sumV i) by unfold Sh.sums; rw [List.getElem?_map, List.getElem?_range (by omega)]; rfl)
      have hR2 : RwAt K H3 y r := (hrb.mono (TSm.of (c09.trans e1))).mono (TSm.of e2)
      walk_at "go"
      refine s_fldAt hx2 SK.cls SK.n_sums (by rfl) ?_
      walk_at "go"
      refine s_lcZ ?_
      walk_at "go"
      refine s_fldAt hx2 SK.cls SK.n_sums (by rfl) ?_
      walk_at "go"
      refine s_ixL (w := .ref pl) (SqL.of hp2) (atI_last (by rw [hvl]; exact hvl1)) ?_
      walk_at "go"
      refine ⟨x, dx, _, rfl, hx2, by rfl, ?_⟩
      walk_at "go"
      have hNo2 : IntsAt K H3 vn S.notes := (hNo.mono (c09.trans e1)).mono e2
      refine ⟨x, dx, _, vn, y, S.notes, r, rfl, hx2, by rfl, hNo2, hR2, ok.nts r hrm, ?_, fun p4 H4 s4 np4 hp4 => ?_⟩
      · cases r with
        | line b l h d ns =>
          have := (ok.psz _ hrm (ns.length : Int) (by unfold parts; simp)).2
          show ns.length ≤ 1000
          exact ok.nfew _ hrm
        | _ => exact Nat.zero_le _
      walk_at "go"
      have h5 : (parts S.notes r).length = 5 := parts_len _ _
      have h6 : (S.sumV i).length = 5 := S.sumV_len i
      refine ⟨pl, p4, _, _, rfl, s4.seq (e2.seq hvl2), SqL.of hp4, fun D nD => lc_it (walk_zip (n := 5) (by rw [List.length_map, List.length_map, h5, h6]; rfl)) (fun j H5 => Same H4 H5 ∧ H5 D = some (.lst (((List.zipWith (· + ·) (S.sumV i) (parts S.notes r)).take j).map V.int))) ⟨Same.new nD, upd_same⟩
        (fun j H5 _ h => ⟨h.1.seq (s4.seq (e2.seq hvl2)), SqL.of (h.1 _ _ hp4)⟩) ?_ ?_⟩
      · rintro j y H5 H6 hj ⟨s5, hD⟩ ⟨T1, a, b, rfl, nT, rfl, hxa, hyb⟩
        obtain ⟨za, hza, rfl⟩ := map_int hxa
        obtain ⟨zb, hzb, rfl⟩ := map_int hyb
        have s6 : Same H5 (upd H5 T1 (.tup [.int za, .int zb])) := Same.new nT
        refine s_gtup (IsT.of upd_same) rfl ?_
        walk_at "go"
        refine ⟨rfl, ?_⟩
        walk_at "go"
        refine s_ifT rfl ?_
        walk_at "go"
        refine ⟨_, s6 _ _ hD, lt1M (by rw [List.length_map, List.length_take]; omega), ?_⟩
        refine ⟨(s5.trans s6).put nD, ?_⟩
        rw [upd_same, List.take_add_one, zip_at hza hzb, List.map_append]
        rfl
      · rintro H5 ⟨s5, hD⟩
        have e5 : (List.zipWith (· + ·) (S.sumV i) (parts S.notes r)).take 5 = S.sumV (i + 1) := by
          rw [List.take_of_length_le (by rw [List.length_zipWith]; omega)]
          show _ = List.zipWith (· + ·) (S.sumV i) (parts S.notes (S.rows.getD i dRw))
          rw [er]
        rw [e5] at hD
        have s25 := s4.trans s5
        have nD2 : H3 D = none := s4.free nD
        have hp5 := s25 _ _ hp2
        have hx5 := s25 _ _ hx2
        have xD : x ≠ D := ne_of_none hx2 nD2
        have pD : p9 ≠ D := ne_of_none hp2 nD2
        have ND : N2 D = none := e2.free nD2
        have e3 : Same N2 (upd N2 D (.lst ((S.sumV (i + 1)).map V.int))) := Same.new ND
        have e4 : Same (upd N2 D (.lst ((S.sumV (i + 1)).map V.int))) H5 := Same.sub (e2.trans s25) hD
        have op4 : upd N2 D (.lst ((S.sumV (i + 1)).map V.int)) p9 = none := by rw [upd_ne pD]; exact op
        walk_at "go"
        refine s_append hp5 (by omega) ?_
        walk_at "go"
        refine ⟨_, _, _, upd N2 D (.lst ((S.sumV (i + 1)).map V.int)), vss ++ [.ref D], rfl, e1.trans e3, e4.put op4, by rw [upd_ne xD]; exact ox, op4, by rw [upd_ne x9]; exact hx5, upd_same, ?_⟩
        rw [s_setS]
        exact (hvs.mono fun _ _ z => z.mono e3).snoc (IntsAt.of upd_same)
    rintro σ H11 ⟨v2, v4, v5, N10, vss, rfl, c10, e2, ox, op, hx11, hp11, hvs⟩
    rw [hLs.len] at hvs
    have c10b : Same N10 (upd N10 p9 (.lst vss)) := Same.new op
    have b11 : Beside x (upd N10 p9 (.lst vss)) H11 := ⟨Same.sub e2 hp11, by rw [upd_ne x9]; exact ox⟩
    have i9 : SumsAt K (upd N10 p9 (.lst vss)) (.ref p9) (S.sums S.n) := ⟨p9, vss, rfl, SqL.of upd_same, hvs.mono fun _ _ z => z.mono c10b⟩
    generalize hN11 : upd N10 p9 (.lst vss) = N11 at b11 c10b i9
    have hx10 := hx11
    have c011 : Same N0 N11 := c09.trans (c10.trans c10b)
    -- self.above
    walk_at "st"
    refine s_sfld ?_
    walk_at "go"
    refine list_rows (p := isLine) SK hx10 (by rfl) (hR.mono (c011.trans b11.sub)) few' ?_ fun D10 H10a nD10 s10a hD10 => ?_
    · intro r y H2 Q hr q
      obtain ⟨z, xs, hz⟩ := hr.one
      walk_at "go"
      refine s_ixT hz (atI_nat (j := 0) rfl) ?_
      walk_at "go"
      rw [rw_line]
      exact q
    walk_at "go"
    refine ⟨D10, S.rows.map isLine, rfl, SqL.of hD10, by rw [List.length_map]; omega, fun p10 H10b s10b np10 hp10 => ?_⟩
    obtain ⟨b11', c12⟩ := b11.grow (s10a.trans s10b) (s10a.free np10) hp10 hx10
    generalize hN12 : upd N11 p10 (.lst ((counts (S.rows.map isLine)).map V.int)) = N12 at b11' c12
    have i10 : IntsAt K N12 (.ref p10) S.above := IntsAt.of (by rw [← hN12, upd_same]; rfl)
    have hxq := (s10a.trans s10b) _ _ hx10
    clear hx10 hx11
    have hx10 := hxq
    walk_at "go"
    refine s_sput hx10 SK.cls SK.n_above rfl (pf_above (.ref pr) vn vf vw (.int S.n) (.ref p5) (.ref p6) (.ref p7) (.int S.start) (.ref p9) _) ?_
    have b12 : Beside x N12 (upd H10b x (.ins C dx [("rows", .ref pr), ("notes", vn), ("floats", vf), ("flow", vw), ("end", .int S.n), ("ends", .ref p5), ("places", .ref p6), ("lines", .ref p7), ("start", .int S.start), ("sums", .ref p9), ("above", .ref p10)])) := b11'.put
    generalize hH12 : upd H10b x (.ins C dx [("rows", .ref pr), ("notes", vn), ("floats", vf), ("flow", vw), ("end", .int S.n), ("ends", .ref p5), ("places", .ref p6), ("lines", .ref p7), ("start", .int S.start), ("sums", .ref p9), ("above", .ref p10)]) = H12 at b12
    have hx11 : H12 x = some (.ins C dx [("rows", .ref pr), ("notes", vn), ("floats", vf), ("flow", vw), ("end", .int S.n), ("ends", .ref p5), ("places", .ref p6), ("lines", .ref p7), ("start", .int S.start), ("sums", .ref p9), ("above", .ref p10)]) := by rw [← hH12, upd_same]
    -- self.forced
    dsimp only
    refine s_sfld ?_
    walk_at "go"
    refine list_rows (p := isForced) SK hx11 (by rfl) (hR.mono ((c011.trans c12).trans b12.sub)) few' ?_ fun D11 H11a nD11 s11a hD11 => ?_
    · intro r y H2 Q hr q
      cases r with
      | cost c =>
        have hr : IsT K H2 y [.str "cost", .int c] := hr
        walk_at "go"
        refine s_ifT (by decide +kernel) ?_
        walk_at "go"
        exact q
      | line b l h d ns =>
        obtain ⟨n, hr, _⟩ := hr
        walk_at "go"
        refine s_ifF (by decide +kernel) ?_
        exact q
      | gap h s k =>
        have hr : IsT K H2 y [.str "gap", .int h, .int s, .int k] := hr
        walk_at "go"
        refine s_ifF (by decide +kernel) ?_
        exact q
      | float n =>
        have hr : IsT K H2 y [.str "float", .int n] := hr
        walk_at "go"
        refine s_ifF (by decide +kernel) ?_
        exact q
    walk_at "go"
    refine ⟨D11, S.rows.map isForced, rfl, SqL.of hD11, by rw [List.length_map]; omega, fun p11 H11b s11b np11 hp11 => ?_⟩
    obtain ⟨b12', c13⟩ := b12.grow (s11a.trans s11b) (s11a.free np11) hp11 hx11
    generalize hN13 : upd N12 p11 (.lst ((counts (S.rows.map isForced)).map V.int)) = N13 at b12' c13
    have i11 : IntsAt K N13 (.ref p11) S.forced := IntsAt.of (by rw [← hN13, upd_same]; rfl)
    have hxq := (s11a.trans s11b) _ _ hx11
    clear hx11
    have hx11 := hxq
    walk_at "go"
    refine s_sput hx11 SK.cls SK.n_forced rfl (pf_forced (.ref pr) vn vf vw (.int S.n) (.ref p5) (.ref p6) (.ref p7) (.int S.start) (.ref p9) (.ref p10) _) ?_
    have b13 : Beside x N13 (upd H11b x (.ins C dx [("rows", .ref pr), ("notes", vn), ("floats", vf), ("flow", vw), ("end", .int S.n), ("ends", .ref p5), ("places", .ref p6), ("lines", .ref p7), ("start", .int S.start), ("sums", .ref p9), ("above", .ref p10), ("forced", .ref p11)])) := b12'.put
    generalize hH13 : upd H11b x (.ins C dx [("rows", .ref pr), ("notes", vn), ("floats", vf), ("flow", vw), ("end", .int S.n), ("ends", .ref p5), ("places", .ref p6), ("lines", .ref p7), ("start", .int S.start), ("sums", .ref p9), ("above", .ref p10), ("forced", .ref p11)]) = H13 at b13
    have hx12 : H13 x = some (.ins C dx [("rows", .ref pr), ("notes", vn), ("floats", vf), ("flow", vw), ("end", .int S.n), ("ends", .ref p5), ("places", .ref p6), ("lines", .ref p7), ("start", .int S.start), ("sums", .ref p9), ("above", .ref p10), ("forced", .ref p11)]) := by rw [← hH13, upd_same]
    have d13 := b13.sub
    have d12 := c13.trans d13
    have d11 := c12.trans d12
    have d9 := (c10.trans c10b).trans d11
    have d8 := c9a.trans d9
    have d7 := c8.trans d8
    have d6 := c7.trans d7
    have d0 := c6.trans d6
    refine q H13 d0 ⟨dx, ⟨.ref pr, vn, vf, vw, .int S.n, .ref p5, .ref p6, .ref p7, .int S.start, .ref p9, .ref p10, .ref p11⟩, hx12, hR.mono d0, hNo.mono d0, hFl.mono d0, ⟨gw, cw, hF.mono d0⟩, rfl, i5.mono d6, i6.mono d7, i7.mono d8, rfl, i9.mono d11, i10.mono d12, i11.mono d13⟩
end
end G
set_option maxHeartbeats 4000000
/-! Rules: sum(list of lists, []), min(list of pairs), list.remove(pair), max(dict with pair keys), {pair: value}. -/
namespace G
open PySem L2 PySem.Spec PyProof.Rows
/-! ### sum(xs, []) -/
def preL (ls : Nat → List Value) : Nat → List Value
  | 0 => []
  | i + 1 => preL ls i ++ ls i
def lsObj (its : List Value) (c : Nat) : Obj := { cls := .type "list", dict := none, data := .seq its.toArray c, slots := #[] }
section
variable {prog : Program} {w : World} {A : Around} {R : Result → Shared → Prop} {I : Addr} {fp wr : List Addr} {Gn : Array GenState → Array GenState → Prop} {n : Nat} {P : Nat → Value → Prop} {St : Nat → Shared → Prop}
theorem sumL_loop (W : WalksS prog w A.in1 I fp wr Gn n P St) (H0 : Heap) (ls : Nat → List Value) (hls : ∀ i v, P i v → ∃ b c, v = .ref b ∧ b ∉ wr ∧ H0.get? b = some (lsObj (ls i) c)) (S : Addr) (hSf : S ∉ fp) (hSH : H0.get? S = none) (hwS : ∀ b ∈ wr, b < S) (hw : ∀ b o, H0.get? b = some o → b ∉ wr)
    (hsz : ∀ i, i ≤ n → (preL ls i).length ≤ sizeLine) :
    ∀ (k i : Nat) (s : Shared) (a : Addr) (c ca : Nat), n - i = k → i ≤ n → (∀ b o, H0.get? b = some o → s.heap.get? b = some o) → St i s → a ∉ wr → a ≠ S → s.heap.get? a = some (lsObj (preL ls i) ca) →
    s.heap.get? S = some { cls := .type "list", dict := none, data := .seq #[.ref a] c, slots := #[] } →
    (∀ s' a' c', Moved (S :: wr) Gn s s' → (i < n → S < a') → (i = n → a' = a) → s'.heap.get? a' = some (lsObj (preL ls n) c') → R (.ok (.ret (.ref a'))) s') →
    codeAny (model prog w) A (.builtin "sum.loop" ⟨[.ref I, .ref S, rawInt 2, rawInt 0], []⟩) R s := by
  have hSw : S ∉ wr := fun h => hSf (W.sub _ h)
  have hsub : ∀ b ∈ wr, b ∈ S :: wr := fun b hb => List.mem_cons_of_mem _ hb
  intro k
  induction k with
  | zero =>
    intro i s a c ca hk hi hkeep hst haw haS ha hS hR
    have hin : i = n := by omega
    subst hin
    refine codeAny_builtin F.entry_sum_loop ?_
    rw [Around.under_plainId F.plain_sum_loop _]
    show wpAny _ A.in1 (seqItems? (.ref S) >>= _) _ _ s
    refine wpAny_bind (wpAny_seqItems hS rfl ?_)
    show wpAny _ A.in1 (tryCatch (pyNext (.ref I)) _ >>= _) _ _ s
    refine wpAny_bind (wpAny_tryCatch (W.done s _ _ hst fun s' hm => ?_))
    exact wpAny_pure (hR s' a ca (hm.mono hsub) (fun h => absurd h (Nat.lt_irrefl _)) (fun _ => rfl) (hm.heap _ _ haw ha))
  | succ k ih =>
    intro i s a c ca hk hi hkeep hst haw haS ha hS hR
    have hlt : i < n := by omega
    refine codeAny_builtin F.entry_sum_loop ?_
    rw [Around.under_plainId F.plain_sum_loop _]
    show wpAny _ A.in1 (seqItems? (.ref S) >>= _) _ _ s
    refine wpAny_bind (wpAny_seqItems hS rfl ?_)
    show wpAny _ A.in1 (tryCatch (pyNext (.ref I)) _ >>= _) _ _ s
    refine wpAny_bind (wpAny_tryCatch (W.item i s _ _ hlt hst fun v s' hP hst' hm => ?_))
    obtain ⟨b, cb, rfl, hbw, hb⟩ := hls i v hP
    have hS' := hm.heap S _ hSw hS
    have ha' := hm.heap a _ haw ha
    have hb' := hm.heap b _ hbw (hkeep b _ hb)
    have hkeep' : ∀ b o, H0.get? b = some o → s'.heap.get? b = some o := fun b o e => hm.heap b o (hw b o e) (hkeep b o e)
    have hSlt : S < s'.heap.objs.size := Heap.lt_size hS'
    have hz := hsz (i + 1) hlt
    have hz2 : (preL ls i).length + (ls i).length ≤ sizeLine := by
      have e : preL ls (i + 1) = preL ls i ++ ls i := rfl
      rw [e, List.length_append] at hz
      exact hz
    show wpAny _ A.in1 ((holding [Value.ref b] (binaryOp .Add (.ref a) (.ref b))).attempt >>= _) _ _ _
    refine wpAny_bind (wpAny_attempt (wpAny_holding (PySem.P.add_list ha' hb' ?_ (by rw [List.size_toArray, List.size_toArray]; exact hz2))))
    have eapp : (preL ls i).toArray ++ (ls i).toArray = (preL ls (i + 1)).toArray := by
      show _ = (preL ls i ++ ls i).toArray
      simp
    rw [eapp]
    have hS2 := Heap.get?_push_of_some ({ cls := .type "list", data := .seq (preL ls (i + 1)).toArray } : Obj) hS'
    show wpAny _ A.in1 (updateSeq S (fun _ => #[.ref s'.heap.objs.size]) >>= _) _ _ _
    refine wpAny_bind (wpAny_updateSeq hS2 rfl ?_)
    have hS₂ := Heap.get?_update_self (Obj.mapSeq fun _ => #[Value.ref s'.heap.objs.size]) hS2 rfl
    refine wpAny_bind (wpAny_letGo ?_)
    have nS : S ≠ s'.heap.objs.size := Nat.ne_of_lt hSlt
    have old : ∀ d o, S ≠ d → s'.heap.get? d = some o → (((s'.heap.push ({ cls := .type "list", data := .seq (preL ls (i + 1)).toArray } : Obj)).update S (Obj.mapSeq fun _ => #[Value.ref s'.heap.objs.size])).update S (Obj.mapSeq fun _ => #[Value.ref s'.heap.objs.size])).get? d = some o := fun d o hd e =>
      (Heap.get?_update_other _ _ hd).trans ((Heap.get?_update_other _ _ hd).trans (Heap.get?_push_of_some _ e))
    refine wpAny_bind (wpAny_updateSeq hS₂ rfl (wpAny_pure ⟨plainId_quiet F.plain_sum_loop _, ih (i + 1) _ s'.heap.objs.size _ 0 (by omega) hlt (fun d o e => ?_) (W.frame _ s' _ _ hst' (Nat.le_refl _) fun d hd o e => ?_) (fun hd => ?_) nS.symm ?_ (Heap.get?_update_self _ hS₂ rfl) fun s'' a'' c'' hm'' g1 g2 g3 => ?_⟩))
    · exact old d o (fun h => by rw [← h, hSH] at e; cases e) (hkeep' d o e)
    · exact old d o (fun h => hSf (by rw [h]; exact hd)) e
    · exact absurd (hwS _ hd) (Nat.not_lt.mpr (Nat.le_of_lt hSlt))
    · exact (Heap.get?_update_other _ _ nS).trans ((Heap.get?_update_other _ _ nS).trans (Heap.get?_push_size _ rfl))
    · refine hR s'' a'' c'' (Moved.trans W.gtrans ((hm.mono hsub).then_heap (tk := s'.toks) (Nat.le_refl _) fun d o hd e => old d o (fun h => hd (by rw [h]; exact List.mem_cons_self)) e) hm'') (fun _ => ?_) (fun h => absurd h (by omega)) g3
      by_cases h9 : i + 1 < n
      · exact g1 h9
      · rw [g2 (by omega)]
        exact hSlt
end
section
variable {prog : Program} {w : World} {A : Around} {E : Value → Shared → Prop} {s : Shared}
theorem args_sum2 (a v : Value) : argsOk "sum" ⟨[a, v], []⟩ := by unfold argsOk; kernel_rfl
/-- sum(xs, start) of a list of lists -/
theorem sumL_raw {l b0 : Addr} {its : Array Value} {c0 : Nat} {ls : Nat → List Value} {Q : Value → Shared → Prop} (hh : A.handled = none) (hl : s.heap.IsList l its) (h0 : s.heap.get? b0 = some (lsObj [] c0))
    (hls : ∀ i v, its[i]? = some v → ∃ b c, v = .ref b ∧ s.heap.get? b = some (lsObj (ls i) c)) (hsz : ∀ i, i ≤ its.size → (preL ls i).length ≤ sizeLine)
    (h : ∀ h' tk a' c', (∀ b o, s.heap.get? b = some o → h'.get? b = some o) → (0 < its.size → s.heap.objs.size ≤ a') → (its.size = 0 → a' = b0) → h'.get? a' = some (lsObj (preL ls its.size) c') → Q (.ref a') { s with heap := h', toks := tk }) :
    wpAny (model prog w) A (call (.builtin "sum") [.ref l, .ref b0]) Q E s := by
  refine call_function_tree F.kind_sum F.plain_sum F.entry_sum (args_sum2 _ _) ?_
  unfold Builtin.«sum»
  simp only [List.length_cons, List.length_nil]
  rw [if_neg (by decide)]
  refine wpAny_bind (wpAny_of_eq (show Builtin.Builtins.bindParams "sum" ["start"] 0 { pos := [.ref b0] } = pure [some (.ref b0)] from rfl) ?_)
  refine wpAny_bind (PySem.W.iter_listW (A := A.in1) hh hl fun s₂ e W st hfp hw hk => ?_)
  refine wpAny_bind (wpAny_pure ?_)
  have t0 : s₂.TypeIs (.ref b0) "list" := ⟨_, hk _ _ h0, rfl⟩
  simp only [List.forIn_cons, List.forIn_nil]
  refine wpAny_bind (wpAny_bind (wpAny_bind (wpAny_isInstance (T := "list") (b := false) t0 F.sub_list_str ?_)))
  simp only [Bool.false_eq_true, if_false]
  refine wpAny_pure (wpAny_bind (wpAny_bind (wpAny_isInstance (T := "list") (b := false) t0 F.sub_list_bytes ?_)))
  simp only [Bool.false_eq_true, if_false]
  refine wpAny_pure (wpAny_bind (wpAny_bind (wpAny_isInstance (T := "list") (b := false) t0 F.sub_list_bytearray ?_)))
  simp only [Bool.false_eq_true, if_false]
  refine wpAny_pure (wpAny_pure ?_)
  refine wpAny_bind (wpAny_newObj_type ?_)
  have hSf : s₂.heap.objs.size ∉ [s.heap.objs.size, l] := fun hm => Nat.lt_irrefl _ (hfp _ hm)
  have hb0 : b0 < s₂.heap.objs.size := Heap.lt_size (hk _ _ h0)
  refine wpAny_pure ⟨plainId_quiet F.plain_sum_loop _, sumL_loop W s.heap ls (fun i v hv => ?_) s₂.heap.objs.size hSf ?_ ?_ hw hsz its.size 0 _ b0 0 c0 rfl (Nat.zero_le _) (fun b o e => Heap.get?_push_of_some _ (hk b o e))
    (W.frame 0 s₂ _ _ st (Nat.le_refl _) fun b _ o e => Heap.get?_push_of_some _ e) (hw _ _ h0) (Nat.ne_of_lt hb0) (Heap.get?_push_of_some _ (hk _ _ h0)) (Heap.get?_push_size _ rfl) fun s' a' c' hm g1 g2 g3 => ?_⟩
  · obtain ⟨b, c, e1, e2⟩ := hls i v hv
    exact ⟨b, c, e1, hw _ _ e2, e2⟩
  · subst e
    exact Heap.get?_none_of_le (by show s.heap.objs.size ≤ (s.heap.push _).objs.size; rw [Heap.size_push]; exact Nat.le_succ _)
  · intro b hb
    exact hfp b (W.sub b hb)
  · have hm2 := Moved.drop_new hm (Nat.le_refl _)
    have hs : s.heap.objs.size ≤ s₂.heap.objs.size := by
      subst e
      show s.heap.objs.size ≤ (s.heap.push _).objs.size
      rw [Heap.size_push]
      exact Nat.le_succ _
    obtain ⟨h', tk, rfl, hk'⟩ := PySem.W.moved_old e rfl hm2
    exact h h' tk a' c' hk' (fun z => Nat.le_trans hs (Nat.le_of_lt (g1 z))) (fun z => g2 z.symm) g3
end
end G
set_option maxHeartbeats 4000000
/-! The rules as words of the walk. -/
namespace G
open PySem L2 PySem.Spec PyProof.Rows
/-! ### pairs of ints -/
def PairAt (K : PySem.W.Frag) (H : Hp) (v : V) (p : Int × Int) : Prop := IsT K H v [.int p.1, .int p.2]
theorem PairAt.mono {K : PySem.W.Frag} {H H' : Hp} {v : V} {p : Int × Int} (h : PairAt K H v p) (t : TSm H H') : PairAt K H' v p := IsT.mono t h
def pairD (p : Int × Int) : PyData := .tuple [.int p.1, .int p.2]
theorem PairAt.dp {K : PySem.W.Frag} {H : Hp} {v : V} {p : Int × Int} (h : PairAt K H v p) : Dp K H v (pairD p) := by
  obtain ⟨a, rfl, ht⟩ := h
  exact .tup ht (.cons (.int _) (.cons (.int _) .nil))
theorem pairs_dp {K : PySem.W.Frag} {H : Hp} : ∀ {vs : List V} {ps : List (Int × Int)}, Ls (PairAt K H) vs ps → DpAll K H vs (ps.map pairD)
  | [], [], _ => .nil
  | [], _ :: _, h => by cases h.len
  | _ :: _, [], h => by cases h.len
  | v :: vs, p :: ps, h => .cons (h.2 0 v p rfl rfl).dp (pairs_dp ⟨Nat.succ.inj h.len, fun i x a e1 e2 => h.2 (i + 1) x a e1 e2⟩)
theorem pairD_eqv (p q : Int × Int) : PyData.eqv (pairD p) (pairD q) = decide (p = q) := by
  obtain ⟨a, b⟩ := p
  obtain ⟨c, d⟩ := q
  by_cases h1 : a = c <;> by_cases h2 : b = d <;> simp [pairD, PyData.eqv, PyData.eqvAll, h1, h2]
theorem pairD_plain : ∀ ps : List (Int × Int), PyData.plainAll (ps.map pairD) = true
  | [] => rfl
  | p :: ps => by
    show (PyData.plain (pairD p) && PyData.plainAll (ps.map pairD)) = true
    rw [pairD_plain ps]
    rfl
theorem pairD_depth : ∀ ps : List (Int × Int), PyData.depthAll (ps.map pairD) ≤ 1
  | [] => by decide
  | p :: ps => by
    have ih := pairD_depth ps
    show max (PyData.depth (pairD p)) (PyData.depthAll (ps.map pairD)) ≤ 1
    have : PyData.depth (pairD p) = 1 := rfl
    omega
theorem pairD_alike (ps : List (Int × Int)) : PySem.W.AlikeAll (ps.map pairD) := by
  refine ⟨fun x hx y hy => ?_, fun x hx => ?_⟩
  · obtain ⟨p, _, rfl⟩ := List.mem_map.mp hx
    obtain ⟨q, _, rfl⟩ := List.mem_map.mp hy
    rfl
  · obtain ⟨p, _, rfl⟩ := List.mem_map.mp hx
    exact fun h => by cases h
theorem Vals.getU : ∀ {xs : List V} {us : List Value} {i : Nat} {u : Value}, Vals xs us → us[i]? = some u → ∃ x, xs[i]? = some x ∧ RelV x u
  | _, _, _, _, .nil, e => by cases e
  | _, _, 0, _, .cons r _, e => by cases e; exact ⟨_, rfl, r⟩
  | _, _, i + 1, u, .cons _ t, e => Vals.getU (i := i) (u := u) t e
section
variable {X : Cx}
/-- min(xs) of a list of pairs: one of them -/
def rMinP (K : PySem.W.Frag) : List V → Hp → VK → Prop := fun vs H Q => ∃ (a : Addr) (xs : List V) (ps : List (Int × Int)), vs = [.ref a] ∧ SqL K H a xs ∧ Ls (PairAt K H) xs ps ∧ ps ≠ [] ∧ ∀ (i : Nat) x, xs[i]? = some x → Q x H
theorem c_minP (hc : X.calm = true) (hu : X.A.units + 64 < cLine) : CallR X (.builtin "min") (rMinP X.K) := by
  intro pins s σ H vs us Q I r h
  obtain ⟨a, xs, ps, rfl, hs, hp, hne, q⟩ := h
  obtain ⟨its, rv, hl, _⟩ := I.list hs
  rw [Vals.ref1 r]
  obtain ⟨as, hr⟩ := Dp.readsAll I _ _ its (pairs_dp hp) rv
  cases ps with
  | nil => exact absurd rfl hne
  | cons p ps =>
    have hd := pairD_depth (p :: ps)
    have h9 : X.A.units + 1 + PyData.depthAll (pairD p :: ps.map pairD) < cLine := Nat.lt_of_le_of_lt (Nat.add_le_add_left hd _) (Nat.lt_of_le_of_lt (by omega) hu)
    refine PySem.W.min_list_data (I.ok.hd hc) hl.isList (x := pairD p) (xs := ps.map pairD) hr (pairD_alike (p :: ps)) h9 fun i v h' tk bs hv _ hk => ?_
    obtain ⟨x, hx, rx⟩ := Vals.getU rv (u := v) (i := i) (by simpa using hv)
    exact ⟨x, H, I.kept hk, rx, q i x hx⟩
/-- xs.remove(p) of a list of pairs: one that is p is gone -/
def rRemP (K : PySem.W.Frag) : V → List V → Hp → VK → Prop := fun x xs H Q => ∃ (l : Addr) (vs : List V) (b : V) (ps : List (Int × Int)) (p : Int × Int), x = .ref l ∧ xs = [b] ∧ H l = some (.lst vs) ∧ Ls (PairAt K H) vs ps ∧ PairAt K H b p ∧ p ∈ ps ∧
  ∀ j, ps[j]? = some p → Q .non (upd H l (.lst (vs.eraseIdx j)))
theorem mt_removeP (hu : X.A.units + 64 < cLine) : MtM X "list.remove" (rRemP X.K) := by
  intro pins s σ H x xs v us Q I rx rxs h
  obtain ⟨l, vs, b, ps, p, rfl, rfl, hH, hp, hb, hm, q⟩ := h
  cases rx
  obtain ⟨u, rfl, ru⟩ := rxs.one
  obtain ⟨z, its, n, r, hl, e⟩ := I.lstM hH
  obtain ⟨as, hr⟩ := Dp.readsAll I _ _ its (pairs_dp hp) r
  obtain ⟨bs, hrb⟩ := Dp.reads I _ _ u hb.dp ru
  obtain ⟨j, hj, hpj⟩ : ∃ j, PySem.SeqAt.dataPlace (ps.map pairD) (pairD p) = some j ∧ ps[j]? = some p := by
    unfold PySem.SeqAt.dataPlace
    cases hf : (ps.map pairD).findIdx? fun y => PyData.eqv y (pairD p) with
    | none =>
      rw [List.findIdx?_eq_none_iff] at hf
      have := hf (pairD p) (List.mem_map.mpr ⟨p, hm, rfl⟩)
      rw [pairD_eqv, decide_eq_true rfl] at this
      cases this
    | some j =>
      refine ⟨j, rfl, ?_⟩
      obtain ⟨h1, h2, _⟩ := List.findIdx?_eq_some_iff_getElem.mp hf
      rw [List.getElem_map, pairD_eqv] at h2
      have h3 : j < ps.length := by simpa using h1
      rw [List.getElem?_eq_getElem h3, of_decide_eq_true h2]
  have hd := pairD_depth ps
  have h9 : X.A.units + 1 + min (PyData.depthAll (ps.map pairD)) (PyData.depth (pairD p)) < cLine := Nat.lt_of_le_of_lt (Nat.add_le_add_left (Nat.le_trans (Nat.min_le_left _ _) hd) _) (Nat.lt_of_le_of_lt (by omega) hu)
  refine PySem.SeqAt.remove_list_data (vs := its.toArray) ⟨_, e, rfl, n, rfl⟩ hr hrb (pairD_plain ps) rfl h9 hj (by rw [List.size_toArray]; omega) ⟨.non, _, I.lset (its' := its.eraseIdx j) (t' := s.toks) hH e ?_ (r.eraseIdx j) ?_, rfl, q j hpj⟩
  · show its.toArray.eraseIdxIfInBounds j = (its.eraseIdx j).toArray
    rw [List.eraseIdxIfInBounds_toArray]
  · exact Nat.le_trans (len_erase vs j) z
/-- sum(xs, []) of a list of lists -/
def rSumL (K : PySem.W.Frag) : List V → Hp → VK → Prop := fun vs H Q => ∃ (a b0 : Addr) (xs : List V) (yss : List (List V)), vs = [.ref a, .ref b0] ∧ SqL K H a xs ∧ H b0 = some (.lst []) ∧ Ls (fun x ys => ∃ b, x = .ref b ∧ H b = some (.lst ys)) xs yss ∧ yss.flatten.length ≤ 1000000 ∧
  ∀ p H', Same H H' → H' p = some (.lst yss.flatten) → Q (.ref p) H'
theorem preL_len (ls : Nat → List Value) {i n : Nat} (h : i ≤ n) : (preL ls i).length ≤ (preL ls n).length := by
  induction n with
  | zero => rw [Nat.le_zero.mp h]; exact Nat.le_refl _
  | succ n ih =>
    rcases Nat.lt_or_ge i (n + 1) with h1 | h1
    · refine Nat.le_trans (ih (by omega)) ?_
      show _ ≤ (preL ls n ++ ls n).length
      rw [List.length_append]
      omega
    · rw [Nat.le_antisymm h h1]
      exact Nat.le_refl _
theorem c_sumL (hc : X.calm = true) : CallR X (.builtin "sum") (rSumL X.K) := by
  intro pins s σ H vs us Q I r h
  obtain ⟨a, b0, xs, yss, rfl, hs, h0, hx, hz, q⟩ := h
  obtain ⟨its, rv, hl, _⟩ := I.list hs
  cases r with
  | cons r1 r2 =>
    cases r1
    obtain ⟨u2, rfl, ru2⟩ := Vals.one r2
    cases ru2
    obtain ⟨_, its0, n0, rv0, _, e0⟩ := I.lstM h0
    cases rv0
    have hch : ∀ i : Nat, ∃ l : List Value, ∀ v, its[i]? = some v → ∃ b c ys, v = .ref b ∧ s.heap.get? b = some (lsObj l c) ∧ yss[i]? = some ys ∧ Vals ys l := by
      intro i
      cases hi : its[i]? with
      | none => exact ⟨[], fun v hv => by cases hv⟩
      | some v =>
        obtain ⟨x, ex, rx⟩ := Vals.getU rv hi
        obtain ⟨ys, ey, b, rfl, hb⟩ := hx.getV ex
        cases rx
        obtain ⟨_, l, n, rl, _, el⟩ := I.lstM hb
        exact ⟨l, fun v hv => by cases hv; exact ⟨b, n, ys, rfl, el, ey, rl⟩⟩
    obtain ⟨ls, hls⟩ := Classical.axiomOfChoice hch
    have hlen : its.length = yss.length := by rw [← rv.length, hx.len]
    have hpre : ∀ i, i ≤ its.length → Vals (yss.take i).flatten (preL ls i) := by
      intro i
      induction i with
      | zero => intro _; exact .nil
      | succ i ih =>
        intro hi
        have hv : its[i]? = some its[i] := List.getElem?_eq_getElem (by omega)
        obtain ⟨b, c, ys, _, _, ey, rl⟩ := hls i _ hv
        rw [List.take_add_one, ey, List.flatten_append]
        have e1 : (some ys).toList.flatten = ys := by simp
        rw [e1]
        exact (ih (by omega)).append rl
    have hfull := hpre its.length (Nat.le_refl _)
    rw [hlen, List.take_of_length_le (Nat.le_refl _), ← hlen] at hfull
    have hb : (1000000 : Nat) ≤ sizeLine := by decide
    have hsz : ∀ i, i ≤ its.toArray.size → (preL ls i).length ≤ sizeLine := fun i hi => by
      rw [List.size_toArray] at hi
      have h1 := preL_len ls hi
      have h2 := hfull.length
      omega
    refine sumL_raw (I.ok.hd hc) hl.isList e0 (ls := ls) (fun i v hv => ?_) hsz fun h' tk a' c' hk g1 g2 g3 => ?_
    · obtain ⟨b, c, ys, e1, e2, _⟩ := hls i v (by simpa using hv)
      exact ⟨b, c, e1, e2⟩
    · rw [List.size_toArray] at g1 g2 g3
      rcases Nat.eq_zero_or_pos its.length with hn | hn
      · obtain rfl := g2 hn
        refine ⟨.ref a', H, I.kept hk, rfl, q a' H (Same.refl _) ?_⟩
        have : yss = [] := List.eq_nil_of_length_eq_zero (by omega)
        rw [this]
        exact h0
      · have hn' := g1 hn
        have hno := I.hok.fresh hn'
        exact ⟨.ref a', _, I.laid (t' := tk) (o := .lst yss.flatten) hk hn' ⟨Nat.le_trans hz hb, preL ls its.length, c', hfull, g3⟩, rfl, q a' _ (Same.new hno) upd_same⟩
/-- max(d) of a dict with pairs for keys: one of the keys -/
def rMaxT : List V → Hp → VK → Prop := fun vs H Q => ∃ (a : Addr) (kvs : List (List L2.Key × V)), vs = [.ref a] ∧ H a = some (.dT kvs) ∧ kvs ≠ [] ∧ (∀ kv ∈ kvs, ∃ i j : Int, kv.1 = [.inl i, .inl j]) ∧
  ∀ (b : Addr) (kv : List L2.Key × V), kv ∈ kvs → H b = some (.tup (kv.1.map kV)) → Q (.ref b) H
end
end G
set_option maxHeartbeats 4000000
/-! max(d) over pairs, {pair: value}. -/
namespace G
open PySem L2 PySem.Spec PyProof.Rows
theorem paired_at {α β : Type} {R : α → β → Prop} : ∀ {xs : List α} {ys : List β} {i : Nat} {x : α} {y : β}, Paired R xs ys → xs[i]? = some x → ys[i]? = some y → R x y
  | _, _, _, _, _, .nil, e, _ => by cases e
  | _, _, 0, _, _, .cons r _, e, e2 => by cases e; cases e2; exact r
  | _, _, i + 1, x, y, .cons _ t, e, e2 => paired_at (i := i) t e e2
section
variable {X : Cx}
theorem c_maxT (hc : X.calm = true) (hu : X.A.units + 64 < cLine) : CallR X (.builtin "max") rMaxT := by
  intro pins s σ H vs us Q I r h
  obtain ⟨a, kvs, rfl, ha, hne, hk2, q⟩ := h
  rw [Vals.ref1 r]
  obtain ⟨z, hsys, ks, pr, o, es, ep, ho, hx, hdt, he, hn⟩ := (show ObjOk X.prog X.w H s.heap a (.dT kvs) from I.hok a _ ha)
  have hkl : kvs.length = ks.length := Paired.length pr
  have hes : es.size = ks.length := size_of_entries he
  have hpos : 0 < kvs.length := List.length_pos_iff.mpr hne
  have hlt : a < s.heap.objs.size := Heap.lt_size ho
  obtain ⟨ps, hps⟩ : ∃ ps : List (Int × Int), Ls (PairAt X.K H) (ks.map fun x => V.ref x.2.1) ps := by
    clear hn he hes hkl hpos hne q ha z
    induction pr with
    | nil => exact ⟨[], .nil⟩
    | @cons p x ps xs h t ih =>
      obtain ⟨i, j, e⟩ := hk2 p List.mem_cons_self
      obtain ⟨qs, hq⟩ := ih (fun kv hm => hk2 kv (List.mem_cons_of_mem _ hm))
      refine ⟨(i, j) :: qs, Ls.append (Ls.one ⟨x.2.1, rfl, SqT.of ?_⟩) hq⟩
      have h2 := h.2.1
      rw [e] at h2
      exact h2
  have hlen : ps.length = ks.length := by rw [← hps.len, List.length_map]
  obtain ⟨as, hr⟩ := Dp.readsAll I _ _ _ (pairs_dp hps) (show Vals (ks.map fun x => V.ref x.2.1) (ks.map fun x => Value.ref x.2.1) from by
    have := vals_refs (ks.map fun x => x.2.1)
    rw [List.map_map, List.map_map] at this
    exact this)
  have h9 : X.A.units + PyData.depthAll (ps.map pairD) < cLine := Nat.lt_of_le_of_lt (Nat.add_le_add_left (pairD_depth ps) _) (Nat.lt_of_le_of_lt (by omega) hu)
  have h9' : X.A.in1.units + PyData.depthAll (ps.map pairD) < cLine := by
    show X.A.units + 1 + _ < _
    exact Nat.lt_of_le_of_lt (Nat.add_le_add_left (pairD_depth ps) _) (Nat.lt_of_le_of_lt (by omega) hu)
  have hent : ∀ (i : Nat) (v : Value), (∃ en : DictEntry, es[i]? = some en ∧ v = en.key) → ∃ x, ks[i]? = some x ∧ v = .ref x.2.1 := by
    rintro i v ⟨en, h1, rfl⟩
    have e1 : es.toList[i]? = some en := by rw [Array.getElem?_toList]; exact h1
    rw [he, List.getElem?_map] at e1
    obtain ⟨x, h2, h3⟩ := Option.map_eq_some_iff.mp e1
    exact ⟨x, h2, by rw [← h3]; rfl⟩
  have hcmp : CmpIn X.prog X.w X.A.in1 .Gt s.heap (fun i v => ∃ en : DictEntry, es[i]? = some en ∧ v = en.key) _ := fun i j vi vj s' Q' E hk hi hj hq => by
    obtain ⟨x, h1, h2⟩ := hent i vi hi
    obtain ⟨y, h3, h4⟩ := hent j vj hj
    refine PySem.W.cmpIn_gt (prog := X.prog) (w := X.w) (A := X.A.in1) (vs := (ks.map fun x => Value.ref x.2.1).toArray) (xs := ps.map pairD) hr (pairD_alike ps) h9' i j vi vj s' Q' E hk ?_ ?_ hq
    · show (ks.map fun x => Value.ref x.2.1).toArray[i]? = some vi
      rw [List.getElem?_toArray, List.getElem?_map, h1, h2]; rfl
    · show (ks.map fun x => Value.ref x.2.1).toArray[j]? = some vj
      rw [List.getElem?_toArray, List.getElem?_map, h3, h4]; rfl
  refine call_max_walkH (iter_keys (A := X.A.in1) hsys ho hx hdt ?_)
  refine ⟨_, _, _, _, _, _, _, s.heap, _, rfl, (walks_raw (prog := X.prog) (w := X.w) (A := X.A.in1) (I.ok.hd hc) s.heap.objs.size a (Nat.ne_of_lt hlt) hdt).toS, ⟨⟨_, Heap.get?_push_size _ rfl, rfl, rfl⟩, Heap.get?_push_of_some _ ho⟩, fun b hb => ?_, by omega, fun b u e hb => ?_, fun b u e => Heap.get?_push_of_some _ e, hcmp, fun v s' hv hm => ?_⟩
  · show b < (s.heap.push _).objs.size
    rw [Heap.size_push]
    rcases List.mem_cons.mp hb with e | hb
    · rw [e]
      exact Nat.lt_succ_self _
    · rw [List.mem_singleton.mp hb]
      exact Nat.lt_succ_of_lt hlt
  · rw [List.mem_singleton.mp hb] at e
    exact absurd (Heap.lt_size e) (Nat.lt_irrefl _)
  · obtain ⟨x, h1, rfl⟩ := hent _ v hv
    obtain ⟨h', tk, rfl, hk'⟩ := PySem.W.moved_old (s := s) rfl rfl hm
    have hi := (List.getElem?_eq_some_iff.mp h1).1
    obtain ⟨kv, hkv⟩ : ∃ kv, kvs[argBest (fun i j => PySem.W.dataLt ((ps.map pairD).getD j .none) ((ps.map pairD).getD i .none)) (es.size - 1)]? = some kv := ⟨_, List.getElem?_eq_getElem (by omega)⟩
    have hpr := paired_at pr hkv h1
    exact ⟨.ref x.2.1, H, I.kept hk', rfl, q x.2.1 kv (List.mem_of_getElem? hkv) hpr.2.1⟩
/-- {pair: v} -/
def tDisp1T (tk tv : TE) : TE := fun σ H Q => ∀ p, H p = none → tk σ (upd H p (.dT [])) fun x H1 => tv σ H1 fun y H2 => ∃ (b : Addr) (k : List L2.Key), x = .ref b ∧ H2 b = some (.tup (k.map kV)) ∧ H2 p = some (.dT []) ∧ Q (.ref p) (upd H2 p (.dT [(k, y)]))
theorem pe_disp1T {k v : Expr} {pos : Pos} {tk tv : TE} (hu : X.A.units + 64 < cLine) (hk : PE X k tk) (hv : PE X v tv) : PE X (.Dict [some k] [v] pos) (tDisp1T tk tv) := by
  refine ⟨fun pins s σ H Q I q => ?_⟩
  have hn := I.hok.fresh (Nat.le_refl s.heap.objs.size)
  have I1 := I.laid (a := s.heap.objs.size) (o := .dT []) (h' := s.heap.push { cls := .type "dict", data := .dict #[] }) (t' := s.toks) (fun _ _ q => Heap.get?_push_of_some _ q) (Nat.le_refl _) (dt_empty s.heap I.big)
  rw [arm_eval_Dict, zip_pairTrees [some k] [v] X.env pos rfl rfl, dictDisplay_pairs (pairTrees [some k] [v] X.env pos) (fun h => by cases h) (by show 1 < 17; decide)]
  refine wpAny_bind (wpAny_standAt (wpAny_bind (wpAny_subDictH (knd := tupleKind (mixKind X.prog X.w)) (show X.A.units < cLine from Nat.lt_of_le_of_lt (Nat.le_add_right _ _) hu) (by show 1 ≤ 15; decide) ?_)))
  refine pairTrees_cons_walk (thn (hk.run pins _ σ _ _ I1 (q _ hn)) fun u s1 ⟨x, H1, I2, rx, q1⟩ => thn (hv.run pins s1 σ H1 _ I2 q1) fun w2 s2 ⟨y, H2, I3, ry, b, kk, ex, eb, ep, q2⟩ => pairTrees_nil_walk ?_)
  subst ex
  cases rx
  obtain ⟨z, hd, xs, r0, dd⟩ := dt_of I3.hok ep
  cases r0
  refine ⟨[(kk, b, w2)], ⟨rfl, rfl, key_of I3.hok eb, True.intro⟩, dd, fun h' tk hd' hs => wpAny_pure ⟨.ref s.heap.objs.size, _, ?_, rfl, q2⟩⟩
  have hbp : b ≠ s.heap.objs.size := fun h => by rw [h, ep] at eb; cases eb
  obtain ⟨o, es, ee, g1, g2, g3, g4, _, g5⟩ := hd'
  refine d_write I3 (by rw [ep]; exact True.intro) hs ⟨_, g1⟩ ⟨by show 1 ≤ _; rw [sizeLine_eq]; omega, hd, [(kk, b, w2)], .cons ⟨rfl, by rw [upd_ne hbp]; exact eb, ry⟩ .nil, o, es, ee, g1, g2, g3, g4, g5⟩
end
end G
/-! lowest: what is known. -/
namespace G
open PySem L2
abbrev Pt := Nat × Nat
def kT (p : Pt) : List L2.Key := [.inl (p.1 : Int), .inl (p.2 : Int)]
theorem kT_inj {p q : Pt} (h : kT p = kT q) : p = q := by
  obtain ⟨a, b⟩ := p
  obtain ⟨c, d⟩ := q
  unfold kT at h
  simp only [List.cons.injEq, Sum.inl.injEq, and_true] at h
  obtain ⟨h1, h2⟩ := h
  rw [Int.ofNat.inj h1, Int.ofNat.inj h2]
/-- a tuple of its own -/
def TupX (H : Hp) (v : V) (xs : List V) : Prop := ∃ t, v = .ref t ∧ H t = some (.tup xs)
def PtAt (H : Hp) (v : V) (p : Pt) : Prop := TupX H v ((kT p).map kV)
/-- own tuples stand -/
def TSo (H H' : Hp) : Prop := ∀ b xs, H b = some (.tup xs) → H' b = some (.tup xs)
theorem TSo.refl (H : Hp) : TSo H H := fun _ _ h => h
theorem TSo.trans {H H1 H2 : Hp} (a : TSo H H1) (b : TSo H1 H2) : TSo H H2 := fun c xs h => b c xs (a c xs h)
theorem TSo.of {H H' : Hp} (e : Same H H') : TSo H H' := fun b xs h => e _ _ h
theorem TSo.put {H : Hp} {r : Addr} {o u : HO} (h : H r = some u) (h1 : ∀ xs, u ≠ .tup xs) : TSo H (upd H r o) := fun b xs e => by
  rw [upd_ne (ne_of e h fun z => h1 _ z.symm)]
  exact e
theorem TSo.lst {H : Hp} {r : Addr} {o : HO} {xs : List V} (h : H r = some (.lst xs)) : TSo H (upd H r o) := TSo.put h fun _ z => by cases z
theorem TSo.dT {H : Hp} {r : Addr} {o : HO} {xs : List (List L2.Key × V)} (h : H r = some (.dT xs)) : TSo H (upd H r o) := TSo.put h fun _ z => by cases z
theorem TSo.new {H : Hp} {r : Addr} {o : HO} (h : H r = none) : TSo H (upd H r o) := TSo.of (Same.new h)
theorem TSm.dT {H : Hp} {r : Addr} {o : HO} {xs : List (List L2.Key × V)} (h : H r = some (.dT xs)) : TSm H (upd H r o) := TSm.put h (fun _ z => by cases z) fun _ _ z => by cases z
theorem TupX.mono {H H' : Hp} {v : V} {xs : List V} (t : TSo H H') (h : TupX H v xs) : TupX H' v xs := let ⟨a, e, q⟩ := h; ⟨a, e, t _ _ q⟩
theorem TupX.isT {K : PySem.W.Frag} {H : Hp} {v : V} {xs : List V} (h : TupX H v xs) : IsT K H v xs := let ⟨a, e, q⟩ := h; ⟨a, e, SqT.of q⟩
def ci (p : Pt) : Int × Int := ((p.1 : Int), (p.2 : Int))
theorem ci_inj {p q : Pt} (h : ci p = ci q) : p = q := by
  have h1 : (p.1 : Int) = q.1 := congrArg Prod.fst h
  have h2 : (p.2 : Int) = q.2 := congrArg Prod.snd h
  exact Prod.ext (Int.ofNat.inj h1) (Int.ofNat.inj h2)
theorem PtAt.pair {K : PySem.W.Frag} {H : Hp} {v : V} {p : Pt} (h : PtAt H v p) : PairAt K H v (ci p) := TupX.isT h
theorem Ls.mapR {α β : Type} {R : V → β → Prop} {f : α → β} {vs : List V} {as : List α} (h : Ls (fun v a => R v (f a)) vs as) : Ls R vs (as.map f) :=
  ⟨by rw [List.length_map]; exact h.1, fun i v b e1 e2 => by
    rw [List.getElem?_map] at e2
    obtain ⟨a, h1, rfl⟩ := Option.map_eq_some_iff.mp e2
    exact h.2 i v a e1 h1⟩
theorem Ls.erase {α : Type} {R : V → α → Prop} : ∀ {vs : List V} {as : List α} (j : Nat), Ls R vs as → Ls R (vs.eraseIdx j) (as.eraseIdx j)
  | [], [], _, _ => .nil
  | [], _ :: _, _, h => by cases h.len
  | _ :: _, [], _, h => by cases h.len
  | v :: vs, a :: as, 0, h => ⟨Nat.succ.inj h.len, fun i x b e1 e2 => h.2 (i + 1) x b e1 e2⟩
  | v :: vs, a :: as, j + 1, h => by
    have t : Ls R vs as := ⟨Nat.succ.inj h.len, fun i x b e1 e2 => h.2 (i + 1) x b e1 e2⟩
    have hd : R v a := h.2 0 v a rfl rfl
    exact (Ls.one hd).append (Ls.erase j t)
theorem Ls.all {α : Type} {R : V → α → Prop} {vs : List V} {as : List α} (h : Ls R vs as) {v : V} (m : v ∈ vs) : ∃ a ∈ as, R v a := by
  obtain ⟨i, hi⟩ := List.mem_iff_getElem?.mp m
  obtain ⟨a, ha, hr⟩ := h.getV hi
  exact ⟨a, List.mem_of_getElem? ha, hr⟩
def AllowP (S : Sh) (p q : Pt) : Prop := Allowed S p.1 q.1 p.2 q.2
def KvAt (S : Sh) (H : Hp) (R : Pt → Prop) (p : Pt) (v : V) : Prop := ∃ (c : Int) (y : V), TupX H v [.int c, y] ∧ ((y = .non ∧ p.2 = 0 ∧ (p.1 : Int) = S.start) ∨ ∃ q, PtAt H y q ∧ R q ∧ AllowP S q p)
structure KnAt (S : Sh) (H : Hp) (kvs : List (List L2.Key × V)) : Prop where
  nd : (kvs.map (·.1)).Nodup
  ok : ∀ k v, valV kvs k = some v → ∃ p : Pt, k = kT p ∧ p.1 ≤ S.n ∧ p.2 ≤ S.places.length ∧ KvAt S H (fun q => (valV kvs (kT q)).isSome = true) p v
theorem KvAt.mono {S : Sh} {H H' : Hp} {R R' : Pt → Prop} {p : Pt} {v : V} (t : TSo H H') (r : ∀ q, R q → R' q) (h : KvAt S H R p v) : KvAt S H' R' p v := by
  obtain ⟨c, y, a, b⟩ := h
  refine ⟨c, y, a.mono t, ?_⟩
  rcases b with b | ⟨q, h1, h2, h3⟩
  · exact .inl b
  · exact .inr ⟨q, h1.mono t, r q h2, h3⟩
theorem KnAt.mono {S : Sh} {H H' : Hp} {kvs : List (List L2.Key × V)} (t : TSo H H') (h : KnAt S H kvs) : KnAt S H' kvs :=
  ⟨h.nd, fun k v e => let ⟨p, a, b, c, d⟩ := h.ok k v e; ⟨p, a, b, c, d.mono t fun _ z => z⟩⟩
theorem putK_keys {kvs : List (List L2.Key × V)} {k : List L2.Key} {v : V} (h : valV kvs k ≠ none) : (putK kvs k v).map (·.1) = kvs.map (·.1) := by
  have h1 : (valV kvs k).isSome = true := by
    cases e : valV kvs k with
    | none => exact absurd e h
    | some => rfl
  unfold putK
  rw [if_pos (by rw [valV_any]; exact h1), List.map_map]
  apply List.map_congr_left
  intro p _
  show (if p.1 = k then (p.1, v) else p).1 = p.1
  split <;> rfl
theorem KnAt.put {S : Sh} {H : Hp} {kvs : List (List L2.Key × V)} {p : Pt} {v : V} (h : KnAt S H kvs) (h1 : p.1 ≤ S.n) (h2 : p.2 ≤ S.places.length) (hv : KvAt S H (fun q => (valV kvs (kT q)).isSome = true) p v) : KnAt S H (putK kvs (kT p) v) := by
  have mo : ∀ q, (valV kvs (kT q)).isSome = true → (valV (putK kvs (kT p) v) (kT q)).isSome = true := fun q z => by
    rw [valV_put]
    split
    · rfl
    · exact z
  refine ⟨?_, fun k u e => ?_⟩
  · by_cases hk : valV kvs (kT p) = none
    · exact nd_putK v h.nd hk
    · rw [putK_keys hk]
      exact h.nd
  · rw [valV_put] at e
    by_cases hk : k = kT p
    · rw [if_pos hk] at e
      cases e
      exact ⟨p, hk, h1, h2, hv.mono (TSo.refl _) mo⟩
    · rw [if_neg hk] at e
      obtain ⟨q, a, b, c, d⟩ := h.ok k u e
      exact ⟨q, a, b, c, d.mono (TSo.refl _) mo⟩
theorem putK_len_new {kvs : List (List L2.Key × V)} {k : List L2.Key} {v : V} (h : valV kvs k = none) : (putK kvs k v).length = kvs.length + 1 := by
  unfold putK
  rw [if_neg (by rw [valV_any, h]; exact Bool.false_ne_true), List.length_append, List.length_singleton]
theorem putK_len_old {kvs : List (List L2.Key × V)} {k : List L2.Key} {v : V} (h : valV kvs k ≠ none) : (putK kvs k v).length = kvs.length := by
  have := congrArg List.length (putK_keys (v := v) h)
  rw [List.length_map, List.length_map] at this
  exact this
/-- how many may be known -/
def Sh.tot (S : Sh) : Nat := (S.n + 1) * (S.places.length + 1)
def codeK (M : Nat) : List L2.Key → Nat
  | [.inl a, .inl b] => a.toNat * M + b.toNat
  | _ => 0
theorem codeK_kT (M : Nat) (p : Pt) : codeK M (kT p) = p.1 * M + p.2 := rfl
theorem code_inj {M a b c d : Nat} (hb : b < M) (hd : d < M) (h : a * M + b = c * M + d) : a = c ∧ b = d := by
  have h1 : (a * M + b) / M = a := by rw [Nat.mul_comm, Nat.mul_add_div (by omega), Nat.div_eq_of_lt hb, Nat.add_zero]
  have h2 : (c * M + d) / M = c := by rw [Nat.mul_comm, Nat.mul_add_div (by omega), Nat.div_eq_of_lt hd, Nat.add_zero]
  have e : a = c := by rw [← h1, h, h2]
  subst e
  exact ⟨rfl, by omega⟩
theorem KnAt.few {S : Sh} {H : Hp} {kvs : List (List L2.Key × V)} (h : KnAt S H kvs) : kvs.length ≤ S.tot := by
  have key : ∀ k ∈ kvs.map (·.1), ∃ p : Pt, k = kT p ∧ p.1 ≤ S.n ∧ p.2 ≤ S.places.length := fun k hk => by
    cases e : valV kvs k with
    | none => exact absurd hk (valV_not e)
    | some v =>
      obtain ⟨p, a, b, c, _⟩ := h.ok k v e
      exact ⟨p, a, b, c⟩
  have nd : ((kvs.map (·.1)).map (codeK (S.places.length + 1))).Nodup := by
    unfold List.Nodup
    rw [List.pairwise_map]
    refine List.Pairwise.imp_of_mem (fun {x y} hx hy hne he => ?_) h.nd
    obtain ⟨p, rfl, _, hp⟩ := key x hx
    obtain ⟨q, rfl, _, hq⟩ := key y hy
    rw [codeK_kT, codeK_kT] at he
    obtain ⟨e1, e2⟩ := code_inj (by omega) (by omega) he
    exact hne (congrArg kT (Prod.ext e1 e2))
  have := nat_nodup_len _ (List.range S.tot) nd fun c hc => by
    obtain ⟨k, hk, rfl⟩ := List.mem_map.mp hc
    obtain ⟨p, rfl, h1, h2⟩ := key k hk
    rw [codeK_kT, List.mem_range]
    unfold Sh.tot
    have : p.1 * (S.places.length + 1) ≤ S.n * (S.places.length + 1) := Nat.mul_le_mul_right _ h1
    rw [Nat.add_mul]
    omega
  rw [List.length_map, List.length_map, List.length_range] at this
  exact this
theorem Sh.tot_le {S : Sh} (ok : ShOk S) : S.tot ≤ 1002001 := by
  have h1 : S.n ≤ 1000 := ok.few
  have h2 := S.places_len
  have h3 : S.places.length ≤ 1000 := Nat.le_trans h2 h1
  unfold Sh.tot
  exact Nat.mul_le_mul (show S.n + 1 ≤ 1001 by omega) (show S.places.length + 1 ≤ 1001 by omega)
theorem Sh.start_is (S : Sh) : ∃ s : Nat, S.start = (s : Int) ∧ s ≤ S.n := by
  by_cases h : S.lines = []
  · exact ⟨S.n, by unfold Sh.start; rw [if_pos h], Nat.le_refl _⟩
  · exact ⟨0, by unfold Sh.start; rw [if_neg h]; rfl, Nat.zero_le _⟩
end G
/-! lowest. -/
namespace G
open PySem L2
/-- goes on through a reading as far as it decides itself -/
local macro_rules | `(tactic| walk_at "fact") => `(tactic| first | assumption | ((refine tnew ?_ ?_); assumption; (first | assumption | ((refine tnew ?_ ?_); assumption; (first | assumption | ((refine tnew ?_ ?_); assumption; assumption))))) | ((refine tsame ?_ ?_); assumption; assumption))
local macro_rules | `(tactic| walk_at "go1") => `(tactic| first
  | with_reducible refine s_op ?_ | ((with_reducible refine s_var (v := ?v) ?e ?_); (case e => rfl)) | with_reducible refine s_c ?_
  | with_reducible refine s_cb ?_ | with_reducible refine s_cons ?_ | with_reducible refine s_nil ?_ | with_reducible refine s_ret ?_ | with_reducible refine s_asg ?_ | with_reducible refine s_gname ?_
  | with_reducible refine s_ifS ?_ | with_reducible refine s_test ?_ | with_reducible refine s_B ?_ | with_reducible refine s_bl ?_ | with_reducible refine s_and ?_ | with_reducible refine s_or ?_ | with_reducible refine s_not ?_ | with_reducible refine s_if ?_
  | with_reducible refine s_un ?_ | with_reducible refine s_U ?_ | with_reducible refine s_drop ?_ | with_reducible refine s_next ?_ | with_reducible refine s_tup ?_ | with_reducible refine s_lst ?_ | with_reducible refine s_call ?_ | with_reducible refine s_dget ?_
  | ((with_reducible refine s_len ?h ?_); (case h => rfl)) | with_reducible refine s_notN ?_ | with_reducible refine s_isN ?_ | with_reducible refine s_yes ?_ | with_reducible refine s_fld ?_ | with_reducible refine s_meth ?_ | with_reducible refine s_andV ?_ | with_reducible refine s_orV ?_ | with_reducible refine s_gsub ?_ | with_reducible refine s_chain ?_ | with_reducible refine s_chain3 ?_ | with_reducible refine s_sl ?_ | with_reducible refine s_part ?_ | with_reducible refine s_noPart ?_ | with_reducible refine s_exI ?_ | with_reducible refine s_bm ?_ | ((with_reducible refine s_tyL (xs := ?xs) ?h ?_); (case h => assumption)) | with_reducible refine s_gcons ?_ | with_reducible refine s_gnil ?_ | with_reducible refine s_brk ?_ | with_reducible refine s_cont ?_
  | ((with_reducible refine s_ixT (xs := ?xs) (w := ?w) ?h ?e ?_); (case h => walk_at "fact"); (case e => rfl))
  | with_reducible refine s_max2 ?_ | with_reducible refine s_min2 ?_ | with_reducible refine s_intI ?_ | with_reducible refine s_intB ?_ | with_reducible refine s_I0 ?_ | with_reducible refine s_eqI ?_ | with_reducible refine s_eqS ?_ | with_reducible refine s_neI ?_)
local macro_rules | `(tactic| walk_at "go") => `(tactic| repeat walk_at "go1")
/-- the next statement -/
local macro_rules | `(tactic| walk_at "st") => `(tactic| (walk_at "go"; (with_reducible refine s_seq ?_); walk_at "go"))
/-- the next statement, cut off by a word -/
local macro_rules | `(tactic| walk_at "cut") => `(tactic| with_reducible refine s_cut ?_ ?_ ?_)
section
variable {P : Program} {w : World} {K : PySem.W.Frag} {mg : Str → Option Value} {base : Heap} {C : Addr}
def spLowest (K : PySem.W.Frag) (C : Addr) : Sp := fun vs H Q _ => ∃ (x : Addr) (S : Sh), vs = [.ref x] ∧ ShAt K C H x S ∧ ShOk S ∧
  ∀ p kvs H', Same H H' → H' p = some (.dT kvs) → KnAt S H' kvs → kvs ≠ [] → Q (.ref p) H'
/-- the state between two turns; c: what todo.length and known.length keep apart -/
structure LwAt (S : Sh) (H H' : Hp) (pk pt : Addr) (m : Nat) (kvs : List (List L2.Key × V)) (vts : List V) (tps : List Pt) : Prop where
  s : Same H H'
  k : H' pk = some (.dT kvs)
  t : H' pt = some (.lst vts)
  kn : KnAt S H' kvs
  ts : Ls (PtAt H') vts tps
  mem : ∀ q ∈ tps, (valV kvs (kT q)).isSome = true
  ne : kvs ≠ []
  m : m + kvs.length = S.tot + vts.length
  le : vts.length ≤ kvs.length
theorem LwAt.mono {S : Sh} {H H1 H2 : Hp} {pk pt : Addr} {m : Nat} {kvs : List (List L2.Key × V)} {vts : List V} {tps : List Pt} (h : LwAt S H H1 pk pt m kvs vts tps) (s : Same H1 H2) : LwAt S H H2 pk pt m kvs vts tps :=
  ⟨h.s.trans s, s _ _ h.k, s _ _ h.t, h.kn.mono (TSo.of s), h.ts.mono fun _ _ z => z.mono (TSo.of s), h.mem, h.ne, h.m, h.le⟩
theorem dget_pt {H : Hp} {pk : Addr} {kvs : List (List L2.Key × V)} {y v : V} {p : Pt} (h : H pk = some (.dT kvs)) (hy : PtAt H y p) (hv : valV kvs (kT p) = some v) : DGet H pk y (some v) := by
  obtain ⟨b, rfl, hb⟩ := hy
  rw [← hv]
  exact DGet.t h hb
theorem dget_o {H : Hp} {pk b : Addr} {kvs : List (List L2.Key × V)} {p : Pt} (h : H pk = some (.dT kvs)) (hb : H b = some (.tup [.int p.1, .int p.2])) : DGet H pk (.ref b) (valV kvs (kT p)) := DGet.t h hb
theorem s_dnin {ty td : TE} {σ : L2.St} {H : Hp} {Q : VK} (h : ty σ H fun y H1 => td σ H1 fun x H2 => ∃ a o, x = .ref a ∧ DGet H2 a y o ∧ Q (.bl (!o.isSome)) H2) : tDNotIn ty td σ H Q := h
theorem s_dput {td ty tv : TE} {D : L2.Ends} {σ : L2.St} {H : Hp} (h : tv σ H fun v H1 => td σ H1 fun x H2 => ty σ H2 fun y H3 => ∃ a H4, x = .ref a ∧ DPut H3 a y v H4 ∧ D.nx σ H4) : sDPut td ty tv D σ H := h
abbrev s_lowest : Stmt := topS 18
theorem sc_lowest : FnScope ["sheet", "known", "todo", "here", "last", "stop", "cost", "there"] ["sheet"] (defScope s_lowest) := ⟨rfl, rfl, rfl, by decide +kernel, rfl, by decide +kernel, by decide +kernel⟩
set_option maxHeartbeats 2000000 in
theorem ok_lowest {f : Addr} {fd : FuncData} (F0 : Fun K "lowest" "lowest" s_lowest f fd) (T : Txt mg) (SK : SC K C) (Monward : Cm P w K mg base C "onward" 4 ["self", "first", "start"] (spOnward K C)) : FnOk P w K mg base CX0 5 f fd ["sheet"] (spLowest K C) := by
  refine F0.ok sc_lowest (fun vs H Q E h => ?_) (fun cdv A outer s H vs Q E hr h => ?_)
  · obtain ⟨_, _, rfl, _⟩ := h
    rfl
  · obtain ⟨x, S, rfl, ⟨dx, v, B⟩, ok, q⟩ := h
    have hu := hu_of hr
    obtain ⟨s0, es0, hs0⟩ := S.start_is
    refine ⟨_, (pss_cons (ps_set (i := 1) sc_lowest.nd rfl (Or.inl rfl) (pe_disp1T (hu64 hr) (pe_tup (pa_cons (pe_fld (pv 0) rfl) (pa_cons pe_int pa_nil))) (pe_tup (pa_cons pe_int (pa_cons pe_non pa_nil)))))
      (pss_cons (ps_set (i := 2) sc_lowest.nd rfl (Or.inl rfl) (pe_lst (pa_cons (pe_tup (pa_cons (pe_fld (pv 0) rfl) (pa_cons pe_int pa_nil))) pa_nil)))
      (pss_cons (ps_while PassesOwn.never (pt_truth (pv 2) (by intro _; rfl))
        (pss_cons (ps_set (i := 3) sc_lowest.nd rfl (Or.inl rfl) (pe_callB (c_minP rfl (hu64 hr)) (by rfl) T.min (by decide +kernel) (pa_cons (pv 2) pa_nil)))
        (pss_cons (ps_expr (pe_bm PySem.F.plainAttrs_list PySem.F.slot_list_remove PySem.F.type_list_remove (mt_removeP (hu64 hr)) (pv 2) (pa_cons (pv 3) pa_nil)))
        (pss_one (ps_for PassesOwn.never rfl (pi_list (pe_cm Monward hr pass0 (pv 0) (pa_cons (pe_ix ix_tup (pv 3) pe_int (fun _ _ => rfl)) (pa_cons (pe_ix ix_tup (pv 3) pe_int (fun _ _ => rfl)) pa_nil)))) (pg_tup (n := 3) rfl (pgs_cons (pg_name (i := 4) sc_lowest.nd rfl (Or.inl rfl)) (pgs_cons (pg_name (i := 5) sc_lowest.nd rfl (Or.inl rfl)) (pgs_cons (pg_name (i := 6) sc_lowest.nd rfl (Or.inl rfl)) pgs_nil))))
          (pss_cons (ps_set (i := 7) sc_lowest.nd rfl (Or.inl rfl) (pe_tup (pa_cons (pv 4) (pa_cons (pv 5) pa_nil))))
          (pss_cut (ps_if (pt_cmp (pc_dnotin hu (pv 7) (pv 1)))
            (pss_one (ps_expr (pe_bm PySem.F.plainAttrs_list PySem.F.slot_list_append PySem.F.type_list_append mt_append (pv 2) (pa_cons (pv 7) pa_nil))))
            pss_nil)
          (pss_one (ps_if (PW.pt (pw_or (pt_cmp (pc_dnotin hu (pv 7) (pv 1))) (pw_or1 (pt_cmpR op_lt (pe_op op_add (pe_ix ix_tup (pe_dget hu (pv 1) (pv 3) (fun _ _ => rfl)) pe_int (fun _ _ => rfl)) (pv 6)) (pe_ix ix_tup (pe_dget hu (pv 1) (pv 7) (fun _ _ => rfl)) pe_int (fun _ _ => rfl)) (nomark _)))))
            (pss_one (ps_dput hu (pv 1) (pv 7) (pe_tup (pa_cons (pe_op op_add (pe_ix ix_tup (pe_dget hu (pv 1) (pv 3) (fun _ _ => rfl)) pe_int (fun _ _ => rfl)) (pv 6)) (pa_cons (pv 3) pa_nil))) rfl))
            pss_nil)))))))))
      (pss_one (ps_ret (pv 1)))))), ?_⟩
    dsimp only [cxOf, L2.Cx.nox, L2.Cx.wish]
    walk_at "st"
    intro pk npk
    have s1 : Same H (upd H pk (.dT [])) := Same.new npk
    generalize hH1 : upd H pk (.dT []) = H1 at s1
    have hk1 : H1 pk = some (.dT []) := by rw [← hH1, upd_same]
    walk_at "go"
    refine s_fldAt (B.mono s1).ins SK.cls SK.n_start (fl_start v) ?_
    rw [B.st, es0]
    walk_at "go"
    intro b nb
    walk_at "go"
    intro u nu
    have s2 : Same H1 (upd (upd H1 b (.tup [.int s0, .int 0])) u (.tup [.int 0, .non])) := (Same.new nb).trans (Same.new nu)
    have hub : b ≠ u := fun h => by rw [← h, upd_same] at nu; cases nu
    generalize hH2 : upd (upd H1 b (.tup [.int s0, .int 0])) u (.tup [.int 0, .non]) = H2 at s2
    have hb2 : H2 b = some (.tup [.int s0, .int 0]) := by rw [← hH2, upd_ne hub, upd_same]
    have hu2 : H2 u = some (.tup [.int 0, .non]) := by rw [← hH2, upd_same]
    refine ⟨b, kT (s0, 0), rfl, hb2, s2 _ _ hk1, ?_⟩
    have s3 : Same H (upd H2 pk (.dT [(kT (s0, 0), .ref u)])) := (s1.trans s2).put npk
    have t3 : TSo H2 (upd H2 pk (.dT [(kT (s0, 0), .ref u)])) := TSo.dT (s2 _ _ hk1)
    generalize hH3 : upd H2 pk (.dT [(kT (s0, 0), .ref u)]) = H3 at s3 t3
    have hk3 : H3 pk = some (.dT [(kT (s0, 0), .ref u)]) := by rw [← hH3, upd_same]
    have hu3 := t3 _ _ hu2
    walk_at "st"
    refine s_fldAt (B.mono s3).ins SK.cls SK.n_start (fl_start v) ?_
    rw [B.st, es0]
    walk_at "go"
    intro b4 nb4
    walk_at "go"
    intro pt npt
    have s4 : Same H3 (upd (upd H3 b4 (.tup [.int s0, .int 0])) pt (.lst [.ref b4])) := (Same.new nb4).trans (Same.new npt)
    have hb4 : b4 ≠ pt := fun h => by rw [← h, upd_same] at npt; cases npt
    generalize hH4 : upd (upd H3 b4 (.tup [.int s0, .int 0])) pt (.lst [.ref b4]) = H4 at s4
    have h4b : H4 b4 = some (.tup [.int s0, .int 0]) := by rw [← hH4, upd_ne hb4, upd_same]
    have h4t : H4 pt = some (.lst [.ref b4]) := by rw [← hH4, upd_same]
    have npt' : H pt = none := (s3.trans (Same.new nb4)).free npt
    have vv : valV [(kT (s0, 0), V.ref u)] (kT (s0, 0)) = some (.ref u) := valV_pos rfl
    have kn4 : KnAt S H4 [(kT (s0, 0), V.ref u)] := by
      refine ⟨by simp, fun k v e => ?_⟩
      by_cases hk : k = kT (s0, 0)
      · subst hk
        rw [vv] at e
        cases e
        exact ⟨(s0, 0), rfl, hs0, Nat.zero_le _, 0, .non, ⟨u, rfl, s4 _ _ hu3⟩, .inl ⟨rfl, rfl, es0.symm⟩⟩
      · rw [valV_neg (fun h => hk h.symm)] at e
        cases e
    have tot1 : 1 ≤ S.tot := kn4.few
    have L0 : LwAt S H H4 pk pt S.tot [(kT (s0, 0), V.ref u)] [.ref b4] [(s0, 0)] :=
      ⟨s3.trans s4, s4 _ _ hk3, h4t, kn4, .one ⟨b4, rfl, h4b⟩, fun q hq => by rw [List.mem_singleton.mp hq, vv]; rfl, fun h => (by cases h), rfl, Nat.le_refl _⟩
    have htot := Sh.tot_le ok
    walk_at "st"
    refine ⟨fun m σ' H' => ∃ kvs vts tps v3 v4 v5 v6 v7, σ' = [some (.ref x), some (.ref pk), some (.ref pt), v3, v4, v5, v6, v7] ∧ LwAt S H H' pk pt m kvs vts tps, ⟨_, _, _, _, _, _, _, _, _, rfl, L0⟩, ?_⟩
    rintro m σ5 H5 ⟨kvs, vts, tps, v3, v4, v5, v6, v7, rfl, L5⟩
    walk_at "go"
    refine ⟨!vts.isEmpty, .inl ⟨_, SqL.of L5.t, rfl⟩, ?_⟩
    by_cases hv0 : vts = []
    · subst hv0
      refine s_ifF (by rfl) ?_
      walk_at "go"
      exact q pk kvs H5 L5.s L5.k L5.kn L5.ne
    refine s_ifT (by cases vts with | nil => exact absurd rfl hv0 | cons a b => rfl) ?_
    refine ⟨fun σ' H' => ∃ m', m' < m ∧ ∃ kvs vts tps v3 v4 v5 v6 v7, σ' = [some (.ref x), some (.ref pk), some (.ref pt), v3, v4, v5, v6, v7] ∧ LwAt S H H' pk pt m' kvs vts tps, fun _ _ n => n, ?_⟩
    walk_at "st"
    have hlen := L5.ts.len
    have htn : tps ≠ [] := fun h => hv0 (List.eq_nil_of_length_eq_zero (by rw [hlen, h]; rfl))
    have hpairs : Ls (PairAt K H5) vts (tps.map ci) := Ls.mapR (L5.ts.mono fun _ _ z => z.pair)
    refine ⟨pt, vts, tps.map ci, rfl, SqL.of L5.t, hpairs, (fun h => htn (List.map_eq_nil_iff.mp h)), fun i y hy => ?_⟩
    obtain ⟨p, hp, hyp⟩ := L5.ts.getV hy
    have hpm : p ∈ tps := List.mem_of_getElem? hp
    have h5t := L5.t
    walk_at "st"
    refine ⟨pt, vts, y, tps.map ci, ci p, rfl, rfl, L5.t, hpairs, hyp.pair, List.mem_map.mpr ⟨p, hpm, rfl⟩, fun j hj => ?_⟩
    have hjl : j < vts.length := by
      have := (List.getElem?_eq_some_iff.mp hj).1
      rw [List.length_map] at this
      omega
    have hel : (vts.eraseIdx j).length + 1 = vts.length := by
      rw [List.length_eraseIdx, if_pos hjl]
      omega
    obtain ⟨m', rfl⟩ : ∃ m', m = m' + 1 := ⟨m - 1, by have := L5.m; have := L5.kn.few; omega⟩
    have t6 : TSo H5 (upd H5 pt (.lst (vts.eraseIdx j))) := TSo.lst L5.t
    have hkt : pk ≠ pt := fun h => by have := L5.k; rw [h, L5.t] at this; cases this
    have L6 : LwAt S H (upd H5 pt (.lst (vts.eraseIdx j))) pk pt m' kvs (vts.eraseIdx j) (tps.eraseIdx j) :=
      ⟨L5.s.put npt', by rw [upd_ne hkt]; exact L5.k, upd_same, L5.kn.mono t6, (L5.ts.mono fun _ _ z => z.mono t6).erase j, fun z hz => L5.mem z (List.mem_of_mem_eraseIdx hz), L5.ne, by have := L5.m; omega, by have := L5.le; omega⟩
    have hyp6 := hyp.mono t6
    generalize hH6 : upd H5 pt (.lst (vts.eraseIdx j)) = H6 at L6 hyp6
    obtain ⟨vp, hvp⟩ := Option.isSome_iff_exists.mp (L5.mem p hpm)
    obtain ⟨p', ep, hp1, hp2, _⟩ := L5.kn.ok _ _ hvp
    obtain rfl := kT_inj ep
    have hvn : valV kvs (kT p) ≠ none := fun h => by rw [h] at hvp; cases hvp
    walk_at "go"
    dsimp only
    refine s_forL ?_
    walk_at "go"
    have B6 := B.mono L6.s
    refine ⟨x, dx, _, rfl, B6.ins, fm_onward v, ?_⟩
    walk_at "go"
    refine s_ixT (hyp6.isT) (atI_nat (j := 0) rfl) ?_
    walk_at "go"
    refine s_ixT (hyp6.isT) (atI_nat (j := 1) rfl) ?_
    walk_at "go"
    refine ⟨x, S, p.1, p.2, rfl, ⟨dx, v, B6⟩, ok, hp1, hp2, fun pw ws H7 s7 npw hpw htr => ?_⟩
    have L7 := L6.mono s7
    have hyp7 := hyp6.mono (TSo.of s7)
    have hwk : pw ≠ pk := fun h => by rw [h, L6.k] at npw; cases npw
    have hwt : pw ≠ pt := fun h => by rw [h, L6.t] at npw; cases npw
    refine ⟨pw, rfl, ⟨_, SqL.of hpw⟩, for_it walk_list (fun i σ8 H8 => ∃ kvs vts tps v4 v5 v6 v7, σ8 = [some (.ref x), some (.ref pk), some (.ref pt), some y, v4, v5, v6, v7] ∧ LwAt S H H8 pk pt m' kvs vts tps ∧ H8 pw = some (.lst ws) ∧ TSo H7 H8 ∧ TSm H7 H8 ∧ valV kvs (kT p) ≠ none)
      ⟨kvs, _, _, _, _, _, _, rfl, L7, hpw, TSo.refl _, TSm.refl _, hvn⟩ (fun i σ8 H8 _ ⟨_, _, _, _, _, _, _, _, _, z, _⟩ => SqL.of z) ?_ ?_⟩
    · rintro i y8 σ8 H8' H8 hi ⟨kvs, vts, tps, v4, v5, v6, v7, rfl, L8, hw8, o8, t8, hvn8⟩ ⟨rfl, hy8⟩
      obtain ⟨l, sp, c, hT8, al⟩ := (htr y8 (List.mem_of_getElem? hy8)).mono t8
      have hyp8 := hyp7.mono o8
      have hl : l ≤ S.n := al.ln
      have hsp : sp ≤ S.places.length := by
        rcases al.place with ⟨_, _, _, h, _⟩ | ⟨_, _, _, _, _, h, _⟩ <;> exact h
      refine s_gtup hT8 rfl ?_
      walk_at "st"
      intro b9 nb9
      have s9 : Same H8 (upd H8 b9 (.tup [.int l, .int sp])) := Same.new nb9
      have L9 := L8.mono s9
      have hyp9 := hyp8.mono (TSo.of s9)
      have hw9 := s9 _ _ hw8
      have o9 := o8.trans (TSo.of s9)
      have t9 := t8.trans (TSm.of s9)
      generalize hH9 : upd H8 b9 (.tup [.int l, .int sp]) = H9 at s9 L9 hyp9 hw9 o9 t9
      have hb9 : H9 b9 = some (.tup [.int l, .int sp]) := by rw [← hH9, upd_same]
      have hq9 : PtAt H9 (.ref b9) (l, sp) := ⟨b9, rfl, hb9⟩
      obtain ⟨v0, hv0'⟩ : ∃ v0, valV kvs (kT p) = some v0 := by
        cases e : valV kvs (kT p) with
        | none => exact absurd e hvn8
        | some u => exact ⟨u, rfl⟩
      obtain ⟨_, e0, _, _, c0, y0, hT0, _⟩ := L9.kn.ok _ _ hv0'
      cases hthere : valV kvs (kT (l, sp)) with
      | none =>
        refine s_cut (fun σ' H' => σ' = [some (.ref x), some (.ref pk), some (.ref pt), some y, some (.int l), some (.int sp), some (.int c), some (.ref b9)] ∧ H' = upd H9 pt (.lst (vts ++ [.ref b9]))) ?_ ?_
        · walk_at "go"
          refine s_dnin ?_
          walk_at "go"
          refine ⟨pk, _, rfl, dget_o (p := (l, sp)) L9.k hb9, ?_⟩
          rw [hthere]
          walk_at "go"
          refine s_ifT (by rfl) ?_
          have h9t := L9.t
          walk_at "go"
          refine s_append L9.t (by have := L9.le; have := L9.kn.few; omega) ?_
          walk_at "go"
          exact ⟨rfl, rfl⟩
        rintro σ' H' ⟨rfl, rfl⟩
        have t10 : TSo H9 (upd H9 pt (.lst (vts ++ [.ref b9]))) := TSo.lst L9.t
        have m10 : TSm H9 (upd H9 pt (.lst (vts ++ [.ref b9]))) := TSm.lst L9.t
        have s10 : Same H (upd H9 pt (.lst (vts ++ [.ref b9]))) := L9.s.put npt'
        have k10 : upd H9 pt (.lst (vts ++ [.ref b9])) pk = some (.dT kvs) := by rw [upd_ne hkt]; exact L9.k
        have w10 : upd H9 pt (.lst (vts ++ [.ref b9])) pw = some (.lst ws) := by rw [upd_ne hwt]; exact hw9
        have l10 : upd H9 pt (.lst (vts ++ [.ref b9])) pt = some (.lst (vts ++ [.ref b9])) := upd_same
        have kn10 := L9.kn.mono t10
        have ts10 := L9.ts.mono fun _ _ z => z.mono t10
        generalize hH10 : upd H9 pt (.lst (vts ++ [.ref b9])) = H10 at t10 m10 s10 k10 w10 l10 kn10 ts10
        walk_at "go"
        refine s_dnin ?_
        walk_at "go"
        refine ⟨pk, _, rfl, dget_o (p := (l, sp)) k10 (t10 _ _ hb9), ?_⟩
        rw [hthere]
        walk_at "go"
        refine s_ifT (by rfl) ?_
        refine s_ifT (by rfl) ?_
        refine s_dput ?_
        walk_at "go"
        refine s_dgot (dget_pt k10 (hyp9.mono t10) hv0') ?_
        walk_at "go"
        refine s_ixT ((hT0.mono t10).isT) (atI_nat (j := 0) rfl) ?_
        walk_at "go"
        intro b11 nb11
        have s11 : Same H10 (upd H10 b11 (.tup [.int (c0 + c), y])) := Same.new nb11
        generalize hH11 : upd H10 b11 (.tup [.int (c0 + c), y]) = H11 at s11
        have hb11 : H11 b11 = some (.tup [.int (c0 + c), y]) := by rw [← hH11, upd_same]
        walk_at "go"
        have k11 := s11 _ _ k10
        refine ⟨pk, _, rfl, DPut.t (k := kT (l, sp)) k11 (s11 _ _ (t10 _ _ hb9)) (Nat.lt_of_le_of_lt (Nat.le_trans L9.kn.few htot) (by decide)), ?_⟩
        have t12 : TSo H11 (upd H11 pk (.dT (putK kvs (kT (l, sp)) (.ref b11)))) := TSo.dT k11
        have m12 : TSm H11 (upd H11 pk (.dT (putK kvs (kT (l, sp)) (.ref b11)))) := TSm.dT k11
        have o10 := t10.trans ((TSo.of s11).trans t12)
        have knx := (kn10.mono (TSo.of s11)).put (p := (l, sp)) (v := .ref b11) hl hsp ⟨c0 + c, y, ⟨b11, rfl, hb11⟩, .inr ⟨p, hyp9.mono (t10.trans (TSo.of s11)), by show (valV kvs (kT p)).isSome = true; rw [hv0']; rfl, al⟩⟩
        have iss : ∀ z, (valV kvs z).isSome = true → (valV (putK kvs (kT (l, sp)) (.ref b11)) z).isSome = true := fun z hz => by
          rw [valV_put]
          split
          · rfl
          · exact hz
        refine ⟨putK kvs (kT (l, sp)) (.ref b11), vts ++ [.ref b9], tps ++ [(l, sp)], _, _, _, _, rfl, ⟨(s10.trans s11).put npk, upd_same, ?_, knx.mono t12, ?_, ?_, ?_, ?_, ?_⟩, ?_, o9.trans o10, t9.trans (m10.trans ((TSm.of s11).trans m12)), ?_⟩
        · rw [upd_ne hkt.symm]
          exact s11 _ _ l10
        · exact (L9.ts.mono fun _ _ z => z.mono o10).append (.one (hq9.mono o10))
        · intro z hz
          rcases List.mem_append.mp hz with hz | hz
          · exact iss _ (L9.mem z hz)
          · rw [List.mem_singleton.mp hz, valV_put, if_pos rfl]
            rfl
        · intro h
          have := congrArg List.length h
          rw [putK_len_new hthere] at this
          cases this
        · rw [putK_len_new hthere, List.length_append, List.length_singleton]
          have := L9.m
          omega
        · rw [putK_len_new hthere, List.length_append, List.length_singleton]
          have := L9.le
          omega
        · rw [upd_ne hwk]
          exact s11 _ _ w10
        · intro h
          have := iss (kT p) (by rw [hv0']; rfl)
          rw [h] at this
          cases this
      | some v1 =>
        refine s_cut (fun σ' H' => σ' = [some (.ref x), some (.ref pk), some (.ref pt), some y, some (.int l), some (.int sp), some (.int c), some (.ref b9)] ∧ H9 = H') ?_ ?_
        · walk_at "go"
          refine s_dnin ?_
          walk_at "go"
          refine ⟨pk, _, rfl, dget_o (p := (l, sp)) L9.k hb9, ?_⟩
          rw [hthere]
          walk_at "go"
          refine s_ifF (by rfl) ?_
          exact ⟨rfl, rfl⟩
        rintro σ' H' ⟨rfl, rfl⟩
        obtain ⟨_, _, _, _, c1, y1, hT1, _⟩ := L9.kn.ok _ _ hthere
        walk_at "go"
        refine s_dnin ?_
        walk_at "go"
        refine ⟨pk, _, rfl, dget_o (p := (l, sp)) L9.k hb9, ?_⟩
        rw [hthere]
        walk_at "go"
        refine s_ifF (by rfl) ?_
        walk_at "go"
        refine s_dgot (dget_pt L9.k hyp9 hv0') ?_
        walk_at "go"
        refine s_ixT hT0.isT (atI_nat (j := 0) rfl) ?_
        walk_at "go"
        refine s_dgot (dget_pt L9.k hq9 hthere) ?_
        walk_at "go"
        refine s_ixT hT1.isT (atI_nat (j := 0) rfl) ?_
        walk_at "go"
        by_cases hlt : c0 + c < c1
        · refine s_ifT (decide_eq_true hlt) ?_
          refine s_dput ?_
          walk_at "go"
          refine s_dgot (dget_pt L9.k hyp9 hv0') ?_
          walk_at "go"
          refine s_ixT hT0.isT (atI_nat (j := 0) rfl) ?_
          walk_at "go"
          intro b11 nb11
          have s11 : Same H9 (upd H9 b11 (.tup [.int (c0 + c), y])) := Same.new nb11
          generalize hH11 : upd H9 b11 (.tup [.int (c0 + c), y]) = H11 at s11
          have hb11 : H11 b11 = some (.tup [.int (c0 + c), y]) := by rw [← hH11, upd_same]
          walk_at "go"
          have L11 := L9.mono s11
          have hne : valV kvs (kT (l, sp)) ≠ none := fun h => by rw [h] at hthere; cases hthere
          refine ⟨pk, _, rfl, DPut.t (k := kT (l, sp)) L11.k (s11 _ _ hb9) (Nat.lt_of_le_of_lt (Nat.le_trans L9.kn.few htot) (by decide)), ?_⟩
          have t12 : TSo H11 (upd H11 pk (.dT (putK kvs (kT (l, sp)) (.ref b11)))) := TSo.dT L11.k
          have m12 : TSm H11 (upd H11 pk (.dT (putK kvs (kT (l, sp)) (.ref b11)))) := TSm.dT L11.k
          have knx := L11.kn.put (p := (l, sp)) (v := .ref b11) hl hsp ⟨c0 + c, y, ⟨b11, rfl, hb11⟩, .inr ⟨p, hyp9.mono (TSo.of s11), by show (valV kvs (kT p)).isSome = true; rw [hv0']; rfl, al⟩⟩
          have iss : ∀ z, (valV kvs z).isSome = true → (valV (putK kvs (kT (l, sp)) (.ref b11)) z).isSome = true := fun z hz => by
            rw [valV_put]
            split
            · rfl
            · exact hz
          refine ⟨putK kvs (kT (l, sp)) (.ref b11), vts, tps, _, _, _, _, rfl, ⟨L11.s.put npk, upd_same, ?_, knx.mono t12, L11.ts.mono fun _ _ z => z.mono t12, fun z hz => iss _ (L11.mem z hz), ?_, ?_, ?_⟩, ?_, o9.trans ((TSo.of s11).trans t12), t9.trans ((TSm.of s11).trans m12), ?_⟩
          · rw [upd_ne hkt.symm]
            exact L11.t
          · intro h
            have := congrArg List.length h
            rw [putK_len_old hne] at this
            exact L11.ne (List.eq_nil_of_length_eq_zero this)
          · rw [putK_len_old hne]
            exact L11.m
          · rw [putK_len_old hne]
            exact L11.le
          · rw [upd_ne hwk]
            exact s11 _ _ hw9
          · intro h
            have := iss (kT p) (by rw [hv0']; rfl)
            rw [h] at this
            cases this
        · refine s_ifF (decide_eq_false hlt) ?_
          exact ⟨kvs, vts, tps, _, _, _, _, rfl, L9, hw9, o9, t9, hvn8⟩
    · rintro σ8 H8 ⟨kvs, vts, tps, v4, v5, v6, v7, rfl, L8, _⟩
      exact ⟨m', Nat.lt_succ_self _, kvs, vts, tps, _, _, _, _, _, rfl, L8⟩
end
end G
/-! PageError.__init__, best_pages. -/
namespace G
open PySem L2
/-- goes on through a reading as far as it decides itself -/
local macro_rules | `(tactic| walk_at "fact") => `(tactic| first | assumption | ((refine tnew ?_ ?_); assumption; (first | assumption | ((refine tnew ?_ ?_); assumption; (first | assumption | ((refine tnew ?_ ?_); assumption; assumption))))) | ((refine tsame ?_ ?_); assumption; assumption))
local macro_rules | `(tactic| walk_at "go1") => `(tactic| first
  | with_reducible refine s_op ?_ | ((with_reducible refine s_var (v := ?v) ?e ?_); (case e => rfl)) | with_reducible refine s_c ?_
  | with_reducible refine s_cb ?_ | with_reducible refine s_cons ?_ | with_reducible refine s_nil ?_ | with_reducible refine s_ret ?_ | with_reducible refine s_asg ?_ | with_reducible refine s_gname ?_
  | with_reducible refine s_ifS ?_ | with_reducible refine s_test ?_ | with_reducible refine s_B ?_ | with_reducible refine s_bl ?_ | with_reducible refine s_and ?_ | with_reducible refine s_or ?_ | with_reducible refine s_not ?_ | with_reducible refine s_if ?_
  | with_reducible refine s_un ?_ | with_reducible refine s_U ?_ | with_reducible refine s_drop ?_ | with_reducible refine s_next ?_ | with_reducible refine s_tup ?_ | with_reducible refine s_lst ?_ | with_reducible refine s_call ?_ | with_reducible refine s_dget ?_
  | ((with_reducible refine s_len ?h ?_); (case h => rfl)) | with_reducible refine s_notN ?_ | with_reducible refine s_isN ?_ | with_reducible refine s_yes ?_ | with_reducible refine s_fld ?_ | with_reducible refine s_meth ?_ | with_reducible refine s_andV ?_ | with_reducible refine s_orV ?_ | with_reducible refine s_gsub ?_ | with_reducible refine s_chain ?_ | with_reducible refine s_chain3 ?_ | with_reducible refine s_sl ?_ | with_reducible refine s_part ?_ | with_reducible refine s_noPart ?_ | with_reducible refine s_exI ?_ | with_reducible refine s_bm ?_ | ((with_reducible refine s_tyL (xs := ?xs) ?h ?_); (case h => assumption)) | with_reducible refine s_gcons ?_ | with_reducible refine s_gnil ?_ | with_reducible refine s_brk ?_ | with_reducible refine s_cont ?_
  | ((with_reducible refine s_ixT (xs := ?xs) (w := ?w) ?h ?e ?_); (case h => walk_at "fact"); (case e => rfl))
  | with_reducible refine s_max2 ?_ | with_reducible refine s_min2 ?_ | with_reducible refine s_intI ?_ | with_reducible refine s_intB ?_ | with_reducible refine s_I0 ?_ | with_reducible refine s_eqI ?_ | with_reducible refine s_eqS ?_ | with_reducible refine s_neI ?_)
local macro_rules | `(tactic| walk_at "go") => `(tactic| repeat walk_at "go1")
/-- the next statement -/
local macro_rules | `(tactic| walk_at "st") => `(tactic| (walk_at "go"; (with_reducible refine s_seq ?_); walk_at "go"))
/-- the next statement, cut off by a word -/
local macro_rules | `(tactic| walk_at "cut") => `(tactic| with_reducible refine s_cut ?_ ?_ ?_)
section
variable {X : Cx}
/-- GalleyError.__init__(self, ..): the base's own maker is ValueError's -/
theorem pe_gei {e : Expr} {es : List Expr} {ta : TA} {x : Str} {Gc : Addr} {p1 p2 pos : Pos} {pl : Sem Bool} (hg : Gl X x) (hm : X.mg x = some (.ref Gc)) (sp : PySem.W.specialIn X.K (.ref Gc) "__getattribute__" = some (some (.builtin "type.__getattribute__")))
    (rd : PySem.W.readsIn X.K Gc (.type "type") = true) (vV : PySem.W.findCls X.K (.ref Gc) (.type "type") "__init__" = some (.val (.builtin "ValueError.__init__"))) (ha : PA X (e :: es) ta) (hdb : (x == ("__debug__" : Str)) = false := by decide)
    (hc : eval (.Call (.Attribute (.Name x p1) "__init__" p2) (e :: es) [] pos) X.env = (do
      let ov ← eval (.Name x p1) X.env
      standAt p2.atName
      let (f, first) ← holding [ov] (getMethod ov "__init__" pl)
      callWith pos f first (backTo pos (starEach (e :: es) X.env)) (backToKw pos (keywordEach [] X.env))) := by rfl)
    (he : starEach (e :: es) X.env = (false, eval e X.env) :: starEach es X.env := by rfl) (hpl : (backTo pos (starEach es X.env)).any (·.1) = false := by rfl) :
    PE X (.Call (.Attribute (.Name x p1) "__init__" p2) (e :: es) [] pos) (tVeI X.K ta) := by
  refine ⟨fun pins s σ H Q I h => ?_⟩
  refine PySem.W.methodCall_KW (ld_glob I hg hm ?_ hdb) hc
  refine PySem.W.method_cls I.kIn sp (PySem.W.cls_value I.kIn rd vV (by decide +kernel) ?_)
  show wpAny _ _ (callWith pos (Value.builtin "ValueError.__init__") [] (backTo pos (starEach (e :: es) X.env)) []) _ _ _
  refine PyProof.Rows.callWith_method1 (thn (ha.run pos pins _ σ H _ (I.tok _) h) fun us s1 ⟨vs, H1, I1, r1, a, C, ws, ev, hl, T, ea, q⟩ => ?_) he hpl
  subst ev
  cases r1 with
  | @cons _ u0 _ ur ra rw' =>
    obtain rfl : u0 = Value.ref a := ra
    exact oinit_ok T I1 ea (Nat.le_trans (Nat.le_of_eq (Paired.length rw').symm) (Nat.le_trans hl (by decide))) fun s' J => ⟨.non, H1, J, rfl, q⟩
end
/-- the own error, by what the top has written -/
structure Own (K : PySem.W.Frag) (mg : Str → Option Value) (C Gc fI : Addr) : Prop where
  gC : mg "PageError" = some (.ref C)
  gG : mg "GalleyError" = some (.ref Gc)
  T : OexC K C
  noAt : PySem.W.findIn K (.ref C) "at" = some none
  iC : PySem.W.findIn K (.ref C) "__init__" = some (some (.ref fI))
  tI : PySem.W.typeIn K (.ref fI) = some (.type "function")
  sp : PySem.W.specialIn K (.ref Gc) "__getattribute__" = some (some (.builtin "type.__getattribute__"))
  rd : PySem.W.readsIn K Gc (.type "type") = true
  vV : PySem.W.findCls K (.ref Gc) (.type "type") "__init__" = some (.val (.builtin "ValueError.__init__"))
  te : PySem.W.exmOne K (.ref C) (.ref C) = some true
section
variable {P : Program} {w : World} {K : PySem.W.Frag} {mg : Str → Option Value} {base : Heap} {C Ce Gc fI : Addr}
def spPE (C : Addr) : Sp := fun vs H Q _ => ∃ (a : Addr) (v : V), vs = [.ref a, v] ∧ H a = some (exo a C none) ∧ ∀ dx, H dx = none → dx ≠ a → Q .non (upd (upd H dx (exd dx [("at", v)])) a (exo a C (some dx)))
abbrev s_PageError___init__ : Stmt := inClass (topS 2) 0
theorem sc_PageError___init__ : FnScope ["self", "at"] ["self", "at"] (defScope s_PageError___init__) := ⟨rfl, rfl, rfl, by decide +kernel, rfl, by decide +kernel, by decide +kernel⟩
theorem ok_pe_init {f : Addr} {fd : FuncData} (F0 : Fun K "__init__" "PageError.__init__" s_PageError___init__ f fd) (O : Own K mg Ce Gc fI) : FnOk P w K mg base CX0 1 f fd ["self", "at"] (spPE Ce) := by
  refine F0.ok sc_PageError___init__ (fun vs H Q E h => ?_) (fun cdv A outer s H vs Q E hr h => ?_)
  · obtain ⟨_, _, rfl, _⟩ := h
    rfl
  · obtain ⟨a, v, rfl, ha, q⟩ := h
    refine ⟨_, (pss_cons (ps_expr (pe_gei (by rfl) O.gG O.sp O.rd O.vV (pa_cons (pv 0) (pa_cons pe_str pa_nil)))) (pss_one (ps_ost (pv 0) (pv 1)))), ?_⟩
    dsimp only [cxOf, L2.Cx.nox, L2.Cx.wish]
    refine ⟨_, rfl, a, Ce, [.str "no feasible pages"], rfl, by decide, O.T, ha, ?_⟩
    exact ⟨_, rfl, _, rfl, a, Ce, rfl, O.T, O.noAt, .inl ⟨ha, q⟩⟩
/-! ### best_pages -/
structure Pg where
  f : Nat
  l : Nat
  st : Nat
  sp : Nat
def PageAt (H : Hp) (v : V) (g : Pg) : Prop := ∃ t, TupX H v [.str "page", .int g.f, .int g.l, .ref t] ∧ H t = some (.tup (rgV g.st g.sp))
theorem PageAt.mono {H H' : Hp} {v : V} {g : Pg} (t : TSo H H') (h : PageAt H v g) : PageAt H' v g := let ⟨a, b, c⟩ := h; ⟨a, b.mono t, t _ _ c⟩
/-- allowed pages, one behind the other, to the end -/
def PChain (S : Sh) : Pt → List Pg → Prop
  | p, [] => p = (S.n, S.places.length)
  | p, g :: gs => p = (g.f, g.st) ∧ AllowP S p (g.l, g.sp) ∧ PChain S (g.l, g.sp) gs
theorem Ls.rev {α : Type} {R : V → α → Prop} : ∀ {vs : List V} {as : List α}, Ls R vs as → Ls R vs.reverse as.reverse
  | [], [], _ => .nil
  | [], _ :: _, h => by cases h.len
  | _ :: _, [], h => by cases h.len
  | v :: vs, a :: as, h => by
    rw [List.reverse_cons, List.reverse_cons]
    exact (Ls.rev (vs := vs) (as := as) ⟨Nat.succ.inj h.len, fun i x b e1 e2 => h.2 (i + 1) x b e1 e2⟩).snoc (h.2 0 v a rfl rfl)
theorem MatterAt.mono {H H' : Hp} {v : V} {S : Sh} (e : Same H H') (h : MatterAt K H v S) : MatterAt K H' v S := by
  obtain ⟨vr, vn, vf, vw, g, c, a1, a2, a3, a4, a5⟩ := h
  exact ⟨vr, vn, vf, vw, g, c, a1.mono (TSm.of e), a2.mono e, a3.mono e, a4.mono e, a5.mono e⟩
def spBest (K : PySem.W.Frag) (Ce : Addr) : Sp := fun vs H Q E => ∃ (vm : V) (S : Sh), vs = [vm] ∧ MatterAt K H vm S ∧ ShOk S ∧ (∀ d H', E (.ref Ce) (some d) H') ∧
  ∀ p vps gs H' s0, Same H H' → H' p = some (.lst vps) → Ls (PageAt H') vps gs → S.start = ((s0 : Nat) : Int) → PChain S (s0, 0) gs → Q (.ref p) H'
theorem s_mkO {Cx' : Addr} {sp : Sp} {dvs : List V} {ta : TA} {σ : L2.St} {H : Hp} {Q : XK} (h : ta σ H fun vs H1 => vs.length ≤ 1000 ∧ ∀ a, H1 a = none → sp (.ref a :: (vs ++ dvs)) (upd H1 a (exo a Cx' none))
  (fun v H2 => v = .non ∧ ∃ (d : Addr) (fs : List (Str × V)), H2 a = some (exo a Cx' (some d)) ∧ H2 d = some (exd d fs) ∧ H1 d = none ∧ Q (.ref Cx') (some d) (upd (del H2 a) d (.xd fs))) (fun _ _ _ => False)) : tMkO Cx' sp dvs ta σ H Q := h
theorem s_revL {te : TE} {σ : L2.St} {H : Hp} {Q : VK} (h : te σ H fun x H1 => ∃ a xs, x = .ref a ∧ SqL K H1 a xs ∧ ∀ p, H1 p = none → Q (.ref p) (upd H1 p (.lst xs.reverse))) : tRevL K te σ H Q := h
theorem s_tupRg {te : L2.St → Hp → (Int → Int → Hp → Prop) → Prop} {σ : L2.St} {H : Hp} {Q : VK} (h : te σ H fun a b H1 => RgOk a b ∧ ∀ q, H1 q = none → Q (.ref q) (upd H1 q (.tup (rgV a b)))) : tTupRg te σ H Q := h
theorem s_rg2 {ta tb : TE} {σ : L2.St} {H : Hp} {Q : Int → Int → Hp → Prop} (h : ta σ H fun x H1 => tb σ H1 fun y H2 => ∃ i j, x = .int i ∧ y = .int j ∧ Q i j H2) : tRg2 ta tb σ H Q := h
abbrev s_best_pages : Stmt := topS 19
theorem sc_best_pages : FnScope ["matter", "sheet", "known", "here", "pages", "before"] ["matter"] (defScope s_best_pages) := ⟨rfl, rfl, rfl, by decide +kernel, rfl, by decide +kernel, by decide +kernel⟩
theorem known_keys {S : Sh} {H : Hp} {kvs : List (List L2.Key × V)} (h : KnAt S H kvs) {kv : List L2.Key × V} (m : kv ∈ kvs) : ∃ p : Pt, kv.1 = kT p := by
  cases e : valV kvs kv.1 with
  | none => exact absurd (List.mem_map.mpr ⟨kv, m, rfl⟩) (valV_not e)
  | some v =>
    obtain ⟨p, a, _⟩ := h.ok _ v e
    exact ⟨p, a⟩
def Sh.cd (S : Sh) (p : Pt) : Nat := p.1 * (S.places.length + 1) + p.2
theorem Sh.cd_lt {S : Sh} {p q : Pt} (h : AllowP S p q) (hp : p.2 ≤ S.places.length) : S.cd p < S.cd q := by
  unfold Sh.cd
  rcases h.place with ⟨h1, _, h2, _⟩ | ⟨_, _, h1, _⟩
  · rw [h1]
    omega
  · have := Nat.mul_le_mul_right (S.places.length + 1) (show p.1 + 1 ≤ q.1 from h1)
    rw [Nat.add_mul] at this
    omega
set_option maxHeartbeats 2000000 in
theorem ok_best {f fe fm : Addr} {fd fde fdm : FuncData} (F0 : Fun K "best_pages" "best_pages" s_best_pages f fd) (T : Txt mg) (SK : SC K C) (O : Own K mg Ce Gc fe) (FE : FnOk P w K mg base CX0 1 fe fde ["self", "at"] (spPE Ce)) (bE : Binds K fde ["self", "at"] [])
    (MK : Mk K C fm) (FM : FnOk P w K mg base CX0 2 fm fdm ["self", "matter"] (spInit K C)) (gS : mg "Sheet" = some (.ref C)) (bM : Binds K fdm ["self", "matter"] [])
    (Clowest : Cl P w K mg base CX0 "lowest" 5 ["sheet"] (spLowest K C)) : FnOk P w K mg base (L2.CX P w) 6 f fd ["matter"] (spBest K Ce) := by
  refine F0.okX sc_best_pages (fun vs H Q E h => ?_) (fun cdv A outer s H vs Q E hr h => ?_)
  · obtain ⟨_, _, rfl, _⟩ := h
    rfl
  · obtain ⟨vm, S, rfl, hM, ok, qE, q⟩ := h
    have hu := hu_of hr
    obtain ⟨s0, es0, hs0⟩ := S.start_is
    refine ⟨_, (pss_cons (ps_set (i := 1) sc_best_pages.nd rfl (Or.inl rfl) (pe_make MK FM (hr.mono (by decide)) (by rfl) gS bM .nil pass0 (pa_cons (pv 0) pa_nil)))
      (pss_cons (ps_set (i := 2) sc_best_pages.nd rfl (Or.inl rfl) (pe_cl Clowest hr (by rfl) pass0 (pa_cons (pv 1) pa_nil)))
      (pss_cons (ps_set (i := 3) sc_best_pages.nd rfl (Or.inl rfl) (pe_tup (pa_cons (pe_fld (pv 1) rfl) (pa_cons (pe_callB c_len (by rfl) T.len (by decide +kernel) (pa_cons (pe_fld (pv 1) rfl) pa_nil)) pa_nil))))
      (pss_cons (ps_if (pt_cmp (pc_dnotin hu (pv 3) (pv 2)))
        (pss_one (ps_raise (W := fun cls d _ H => E cls d H) rfl (takes_of rfl rfl rfl rfl) (pmk_oex O.T O.iC O.tI FE (hr.mono (by decide)) bE .nil pass0 (by rfl) O.gC (pa_cons (pe_ix ix_tup (pe_callB (c_maxT rfl (hu64 hr)) (by rfl) T.max (by decide +kernel) (pa_cons (pv 2) pa_nil)) pe_int (fun _ _ => rfl)) pa_nil))))
        pss_nil)
      (PSs.nox (pss_cons (ps_set (i := 4) sc_best_pages.nd rfl (Or.inl rfl) (pe_lst pa_nil))
      (pss_cons (ps_while PassesOwn.never (pt_cmp (pc_notN (pe_ix ix_tup (pe_dget hu (pv 2) (pv 3) (fun _ _ => rfl)) pe_int (fun _ _ => rfl))))
        (pss_cons (ps_set (i := 5) sc_best_pages.nd rfl (Or.inl rfl) (pe_ix ix_tup (pe_dget hu (pv 2) (pv 3) (fun _ _ => rfl)) pe_int (fun _ _ => rfl)))
        (pss_cons (ps_expr (pe_bm PySem.F.plainAttrs_list PySem.F.slot_list_append PySem.F.type_list_append mt_append (pv 4) (pa_cons (pe_tup (pa_cons pe_str (pa_cons (pe_ix ix_tup (pv 5) pe_int (fun _ _ => rfl)) (pa_cons (pe_ix ix_tup (pv 3) pe_int (fun _ _ => rfl)) (pa_cons (pe_tupRg rfl rfl T.tuple (prg_2 rfl T.range (pe_ix ix_tup (pv 5) pe_int (fun _ _ => rfl)) (pe_ix ix_tup (pv 3) pe_int (fun _ _ => rfl)))) pa_nil))))) pa_nil)))
        (pss_one (ps_set (i := 3) sc_best_pages.nd rfl (Or.inl rfl) (pv 5))))))
      (pss_one (ps_ret (pe_revL (pv 4))))))))))), ?_⟩
    dsimp only [cxOf, L2.Cx.nox, L2.Cx.wish]
    walk_at "st"
    refine ⟨_, rfl, ?_⟩
    intro x dx nx ndx hxd
    have s0' : Same H (upd H dx (.own x)) := Same.new ndx
    refine ⟨x, dx, vm, upd H dx (.own x), S, rfl, upd_same, Same.new (by rw [upd_ne hxd.symm]; exact nx), by rw [upd_ne hxd.symm]; exact nx, hM.mono s0', ok, fun H1 s1' hSh => ⟨rfl, ?_⟩⟩
    have s1 := s0'.trans s1'
    walk_at "st"
    refine ⟨x, S, rfl, hSh, ok, fun pk kvs H2 s2 hk2 kn2 hne2 => ?_⟩
    obtain ⟨dx2, v, B⟩ := hSh.mono s2
    obtain ⟨pp, epp, hP⟩ := B.places
    walk_at "st"
    refine s_fldAt B.ins SK.cls SK.n_end (fl_end v) ?_
    rw [B.en]
    walk_at "go"
    refine s_fldAt B.ins SK.cls SK.n_places (fl_places v) ?_
    rw [epp]
    walk_at "go"
    refine s_lenL hP ?_
    rw [List.length_map]
    walk_at "go"
    intro b nb
    have s3 : Same H2 (upd H2 b (.tup [.int S.n, .int S.places.length])) := Same.new nb
    generalize hH3 : upd H2 b (.tup [.int S.n, .int S.places.length]) = H3 at s3
    have hb3 : H3 b = some (.tup [.int S.n, .int S.places.length]) := by rw [← hH3, upd_same]
    have k3 := s3 _ _ hk2
    have kn3 := kn2.mono (TSo.of s3)
    have s03 := s1.trans (s2.trans s3)
    walk_at "st"
    refine s_dnin ?_
    walk_at "go"
    refine ⟨pk, _, rfl, dget_o (p := (S.n, S.places.length)) k3 hb3, ?_⟩
    cases hhere : valV kvs (kT (S.n, S.places.length)) with
    | none =>
      walk_at "go"
      refine s_ifT (by rfl) ?_
      refine s_mkO ?_
      walk_at "go"
      refine ⟨pk, kvs, rfl, k3, hne2, fun kv hkv => ?_, fun b' kv hkv hb' => ?_⟩
      · obtain ⟨p, e⟩ := known_keys kn3 hkv
        exact ⟨p.1, p.2, e⟩
      · obtain ⟨p, e⟩ := known_keys kn3 hkv
        rw [e] at hb'
        walk_at "go"
        refine s_ixT (xs := [.int p.1, .int p.2]) ⟨b', rfl, SqT.of hb'⟩ (atI_nat (j := 0) rfl) ?_
        walk_at "go"
        refine ⟨Nat.le_of_ble_eq_true rfl, fun a na => ⟨a, _, rfl, upd_same, fun d nd hd => ⟨rfl, d, [("at", .int p.1)], upd_same, ?_, ?_, qE _ _⟩⟩⟩
        · rw [upd_ne hd, upd_same]
        · rw [upd_ne hd] at nd
          exact nd
    | some v1 =>
      walk_at "go"
      refine s_ifF (by rfl) ?_
      walk_at "st"
      intro pp' npp
      have s4 : Same H3 (upd H3 pp' (.lst [])) := Same.new npp
      generalize hH4 : upd H3 pp' (.lst []) = H4 at s4
      have hp4 : H4 pp' = some (.lst []) := by rw [← hH4, upd_same]
      have npp' : H pp' = none := s03.free npp
      walk_at "st"
      refine ⟨fun m σ' H' => ∃ here p vps gs v5, σ' = [some vm, some (.ref x), some (.ref pk), some here, some (.ref pp'), v5] ∧ Same H H' ∧ H' pk = some (.dT kvs) ∧ KnAt S H' kvs ∧ PtAt H' here p ∧ (valV kvs (kT p)).isSome = true ∧
        H' pp' = some (.lst vps) ∧ Ls (PageAt H') vps (List.reverse gs) ∧ PChain S p gs ∧ m = S.cd p ∧ vps.length + S.cd p ≤ S.cd (S.n, S.places.length),
        ⟨_, .ref b, (S.n, S.places.length), [], [], _, rfl, s03.trans s4, s4 _ _ k3, kn3.mono (TSo.of s4), ⟨b, rfl, s4 _ _ hb3⟩, by rw [hhere]; rfl, hp4, .nil, rfl, rfl, by rw [List.length_nil, Nat.zero_add]; exact Nat.le_refl _⟩, ?_⟩
      rintro m σ5 H5 ⟨here, p, vps, gs, v5, rfl, s5, k5, kn5, hh5, his, hp5, hvs, hch, rfl, hle⟩
      obtain ⟨v0, hv0⟩ := Option.isSome_iff_exists.mp his
      obtain ⟨p', ep, hpn, hpp, c0, y0, hT0, hy0⟩ := kn5.ok _ _ hv0
      obtain rfl := kT_inj ep
      walk_at "go"
      refine s_dgot (dget_pt k5 hh5 hv0) ?_
      walk_at "go"
      refine s_ixT hT0.isT (atI_nat (j := 1) rfl) ?_
      walk_at "go"
      rcases hy0 with ⟨rfl, h20, h1s⟩ | ⟨q', hq', hqis, hal⟩
      · refine s_ifF (by rfl) ?_
        walk_at "go"
        refine s_revL ?_
        walk_at "go"
        refine ⟨pp', vps, rfl, SqL.of hp5, fun r nr => q r vps.reverse gs _ s0 (s5.trans (Same.new nr)) upd_same ?_ es0 ?_⟩
        · have := hvs.rev
          rw [List.reverse_reverse] at this
          exact this.mono fun _ _ z => z.mono (TSo.of (Same.new nr))
        · have e : p = (s0, 0) := Prod.ext (Int.ofNat.inj (h1s.trans es0)) h20
          rw [← e]
          exact hch
      · obtain ⟨bq, rfl, hbq⟩ := id hq'
        obtain ⟨vq, hvq⟩ := Option.isSome_iff_exists.mp hqis
        obtain ⟨q2, eq2, _, hqp, _⟩ := kn5.ok _ _ hvq
        obtain rfl := kT_inj eq2
        have hlt := Sh.cd_lt hal hqp
        have hqT : IsT K H5 (.ref bq) [.int q'.1, .int q'.2] := hq'.isT
        have hhT : IsT K H5 here [.int p.1, .int p.2] := hh5.isT
        have htot := Sh.tot_le ok
        have hcdt : S.cd (S.n, S.places.length) < S.tot := by
          unfold Sh.cd Sh.tot
          rw [Nat.add_mul S.n 1]
          show S.n * (S.places.length + 1) + S.places.length < _
          omega
        refine s_ifT (by rfl) ?_
        refine ⟨_, fun _ _ n => n, ?_⟩
        walk_at "st"
        refine s_dgot (dget_pt k5 hh5 hv0) ?_
        walk_at "go"
        refine s_ixT hT0.isT (atI_nat (j := 1) rfl) ?_
        walk_at "st"
        refine s_tupRg (s_rg2 ?_)
        walk_at "go"
        refine ⟨_, _, rfl, rfl, ?_, fun t nt => ?_⟩
        · have hz := S.places_len
          have hf : S.n ≤ 1000 := ok.few
          have e1 : (2 : Int) ^ 62 = 4611686018427387904 := by decide
          have e2 : (2 : Nat) ^ 24 = 16777216 := by decide
          unfold RgOk
          rw [e1, e2]
          exact ⟨by omega, by omega, by omega, by omega, by omega⟩
        have s6 : Same H5 (upd H5 t (.tup (rgV q'.2 p.2))) := Same.new nt
        generalize hH6 : upd H5 t (.tup (rgV q'.2 p.2)) = H6 at s6
        have ht6 : H6 t = some (.tup (rgV q'.2 p.2)) := by rw [← hH6, upd_same]
        walk_at "go"
        intro u nu
        have s7 : Same H6 (upd H6 u (.tup [.str "page", .int q'.1, .int p.1, .ref t])) := Same.new nu
        generalize hH7 : upd H6 u (.tup [.str "page", .int q'.1, .int p.1, .ref t]) = H7 at s7
        have hu7 : H7 u = some (.tup [.str "page", .int q'.1, .int p.1, .ref t]) := by rw [← hH7, upd_same]
        have s57 := s6.trans s7
        have hp7 := s57 _ _ hp5
        walk_at "go"
        refine s_append hp7 (by omega) ?_
        have o8 : TSo H7 (upd H7 pp' (.lst (vps ++ [.ref u]))) := TSo.lst hp7
        have o58 := (TSo.of s57).trans o8
        have hpk : pk ≠ pp' := fun h => by rw [h, hp5] at k5; cases k5
        walk_at "go"
        refine ⟨_, hlt, .ref bq, q', _, ⟨q'.1, p.1, q'.2, p.2⟩ :: gs, _, rfl, (s5.trans s57).put npp', by rw [upd_ne hpk]; exact s57 _ _ k5, kn5.mono o58, hq'.mono o58, hqis, upd_same, ?_, ⟨rfl, hal, hch⟩, rfl, ?_⟩
        · rw [List.reverse_cons]
          exact (hvs.mono fun _ _ z => z.mono o58).snoc ⟨t, ⟨u, rfl, o8 _ _ hu7⟩, o8 _ _ (s7 _ _ ht6)⟩
        · rw [List.length_append, List.length_singleton]
          omega
end
end G
/-! The law's draws. -/
namespace G
open PySem L2
/-- goes on through a reading as far as it decides itself -/
local macro_rules | `(tactic| walk_at "fact") => `(tactic| first | assumption | ((refine tnew ?_ ?_); assumption; (first | assumption | ((refine tnew ?_ ?_); assumption; (first | assumption | ((refine tnew ?_ ?_); assumption; assumption))))) | ((refine tsame ?_ ?_); assumption; assumption))
local macro_rules | `(tactic| walk_at "go1") => `(tactic| first
  | with_reducible refine s_op ?_ | ((with_reducible refine s_var (v := ?v) ?e ?_); (case e => rfl)) | with_reducible refine s_c ?_
  | with_reducible refine s_cb ?_ | with_reducible refine s_cons ?_ | with_reducible refine s_nil ?_ | with_reducible refine s_ret ?_ | with_reducible refine s_asg ?_ | with_reducible refine s_gname ?_
  | with_reducible refine s_ifS ?_ | with_reducible refine s_test ?_ | with_reducible refine s_B ?_ | with_reducible refine s_bl ?_ | with_reducible refine s_and ?_ | with_reducible refine s_or ?_ | with_reducible refine s_not ?_ | with_reducible refine s_if ?_
  | with_reducible refine s_un ?_ | with_reducible refine s_U ?_ | with_reducible refine s_drop ?_ | with_reducible refine s_next ?_ | with_reducible refine s_tup ?_ | with_reducible refine s_lst ?_ | with_reducible refine s_call ?_ | with_reducible refine s_dget ?_
  | ((with_reducible refine s_len ?h ?_); (case h => rfl)) | with_reducible refine s_notN ?_ | with_reducible refine s_isN ?_ | with_reducible refine s_yes ?_ | with_reducible refine s_fld ?_ | with_reducible refine s_meth ?_ | with_reducible refine s_andV ?_ | with_reducible refine s_orV ?_ | with_reducible refine s_gsub ?_ | with_reducible refine s_chain ?_ | with_reducible refine s_chain3 ?_ | with_reducible refine s_sl ?_ | with_reducible refine s_part ?_ | with_reducible refine s_noPart ?_ | with_reducible refine s_exI ?_ | with_reducible refine s_bm ?_ | ((with_reducible refine s_tyL (xs := ?xs) ?h ?_); (case h => assumption)) | with_reducible refine s_gcons ?_ | with_reducible refine s_gnil ?_ | with_reducible refine s_brk ?_ | with_reducible refine s_cont ?_
  | ((with_reducible refine s_ixT (xs := ?xs) (w := ?w) ?h ?e ?_); (case h => walk_at "fact"); (case e => rfl))
  | with_reducible refine s_max2 ?_ | with_reducible refine s_min2 ?_ | with_reducible refine s_intI ?_ | with_reducible refine s_intB ?_ | with_reducible refine s_I0 ?_ | with_reducible refine s_eqI ?_ | with_reducible refine s_eqS ?_ | with_reducible refine s_neI ?_)
local macro_rules | `(tactic| walk_at "go") => `(tactic| repeat walk_at "go1")
/-- the next statement -/
local macro_rules | `(tactic| walk_at "st") => `(tactic| (walk_at "go"; (with_reducible refine s_seq ?_); walk_at "go"))
/-- the next statement, cut off by a word -/
local macro_rules | `(tactic| walk_at "cut") => `(tactic| with_reducible refine s_cut ?_ ?_ ?_)
/-- the list of draws stands at a (script at s), beside all of N -/
structure Dr (N : Hp) (a s : Addr) (zs : List Int) (H : Hp) : Prop where
  off : N a = none
  sub : Same N H
  scr : N s = some (.lst (zs.map V.int))
  st : ∃ (i : Nat) (b x : Int), H a = some (.lst [.ref s, .int i, .int b, .int x])
theorem Dr.step {N H : Hp} {a s : Addr} {zs : List Int} {b x : Int} (D : Dr N a s zs H) (i : Nat) : Dr N a s zs (upd H a (.lst [.ref s, .int i, .int b, .int x])) := ⟨D.off, D.sub.put D.off, D.scr, i, b, x, upd_same⟩
/-- what is new stands beside it -/
theorem Dr.new {N H : Hp} {a s p : Addr} {zs : List Int} {o : HO} (D : Dr N a s zs H) (h : H p = none) : Dr (upd N p o) a s zs (upd H p o) ∧ N p = none ∧ p ≠ a := by
  obtain ⟨i, b, x, hst⟩ := D.st
  have hpa : p ≠ a := fun e => by rw [e, hst] at h; cases h
  have hN := D.sub.free h
  refine ⟨⟨by rw [upd_ne hpa.symm]; exact D.off, fun c u e => ?_, ?_, i, b, x, by rw [upd_ne hpa.symm]; exact hst⟩, hN, hpa⟩
  · by_cases hc : c = p
    · subst hc
      rw [upd_same] at e ⊢
      exact e
    · rw [upd_ne hc] at e ⊢
      exact D.sub _ _ e
  · rw [upd_ne (ne_of_none D.scr hN)]
    exact D.scr
/-- what stands beside it is written -/
theorem Dr.put {N H : Hp} {a s p : Addr} {zs : List Int} {o u : HO} (D : Dr N a s zs H) (h : N p = some u) (hps : p ≠ s) : Dr (upd N p o) a s zs (upd H p o) := by
  obtain ⟨i, b, x, hst⟩ := D.st
  have hpa : p ≠ a := fun e => by rw [e, D.off] at h; cases h
  refine ⟨by rw [upd_ne hpa.symm]; exact D.off, fun c v e => ?_, by rw [upd_ne hps.symm]; exact D.scr, i, b, x, by rw [upd_ne hpa.symm]; exact hst⟩
  by_cases hc : c = p
  · subst hc
    rw [upd_same] at e ⊢
    exact e
  · rw [upd_ne hc] at e ⊢
    exact D.sub _ _ e
section
variable {P : Program} {w : World} {K : PySem.W.Frag} {mg : Str → Option Value} {base : Heap}
def spDraws (K : PySem.W.Frag) : Sp := fun vs H Q _ => ∃ (p : Addr) (zs : List Int), vs = [.ref p] ∧ SqL K H p (zs.map V.int) ∧ ∀ a s H', H a = none → H s = none → s ≠ a → Dr (upd H s (.lst (zs.map V.int))) a s zs H' → Q (.ref a) H'
abbrev s_law_draws : Stmt := topS 21
theorem sc_law_draws : FnScope ["_law_script"] ["_law_script"] (defScope s_law_draws) := ⟨rfl, rfl, rfl, by decide +kernel, rfl, by decide +kernel, by decide +kernel⟩
theorem ok_law_draws {f : Addr} {fd : FuncData} (F0 : Fun K "_law_draws" "_law_draws" s_law_draws f fd) (T : Txt mg) : FnOk P w K mg base CX0 1 f fd ["_law_script"] (spDraws K) := by
  refine F0.ok sc_law_draws (fun vs H Q E h => ?_) (fun cdv A outer s H vs Q E hr h => ?_)
  · obtain ⟨_, _, rfl, _⟩ := h
    rfl
  · obtain ⟨p, zs, rfl, hp, q⟩ := h
    refine ⟨_, (pss_one (ps_ret (pe_lst (pa_cons (pe_callTy c_list (by rfl) T.list (by decide +kernel) (pa_cons (pv 0) pa_nil)) (pa_cons pe_int (pa_cons pe_int (pa_cons pe_int pa_nil))))))), ?_⟩
    dsimp only [cxOf, L2.Cx.nox, L2.Cx.wish]
    walk_at "go"
    refine s_listL hp fun s0 ns => ?_
    walk_at "go"
    intro a na
    have hsa : s0 ≠ a := fun e => by rw [← e, upd_same] at na; cases na
    have na' : H a = none := by rw [upd_ne hsa.symm] at na; exact na
    exact q a s0 _ na' ns hsa ⟨na, Same.new na, upd_same, 0, 0, 1, upd_same⟩
def spDraw (K : PySem.W.Frag) : Sp := fun vs H Q _ => ∃ (a s : Addr) (zs : List Int) (N : Hp) (lim : Int), vs = [.ref a, .int lim] ∧ Dr N a s zs H ∧ 0 < lim ∧ lim < 1073741824 ∧ ∀ (v : Nat) H', (v : Int) < lim → Dr N a s zs H' → Q (.int v) H'
abbrev s_law_draw : Stmt := topS 22
theorem sc_law_draw : FnScope ["_law_draws_here", "_law_limit", "_law_cell", "_law_value"] ["_law_draws_here", "_law_limit"] (defScope s_law_draw) := ⟨rfl, rfl, rfl, by decide +kernel, rfl, by decide +kernel, by decide +kernel⟩
theorem ok_law_draw {f : Addr} {fd : FuncData} (F0 : Fun K "_law_draw" "_law_draw" s_law_draw f fd) (T : Txt mg) : FnOk P w K mg base CX0 1 f fd ["_law_draws_here", "_law_limit"] (spDraw K) := by
  refine F0.ok sc_law_draw (fun vs H Q E h => ?_) (fun cdv A outer s H vs Q E hr h => ?_)
  · obtain ⟨_, _, _, _, _, rfl, _⟩ := h
    rfl
  · obtain ⟨a, s0, zs, N, lim, rfl, D, hl0, hl1, q⟩ := h
    refine ⟨_, (pss_cut (ps_if (PW.pt (pw_and (pt_cmpR op_eq (pe_ix ix_list (pv 0) pe_int (fun _ _ => rfl)) pe_int (nomark _)) (pw_and1 (pt_cmpR op_lt (pe_ix ix_list (pv 0) pe_int (fun _ _ => rfl)) (pe_callB c_len (by rfl) T.len (by decide +kernel) (pa_cons (pe_ix ix_list (pv 0) pe_int (fun _ _ => rfl)) pa_nil)) (nomark _)))))
        (pss_cons (ps_set (i := 2) sc_law_draw.nd rfl (Or.inl rfl) (pe_ix ix_list (pe_ix ix_list (pv 0) pe_int (fun _ _ => rfl)) (pe_ix ix_list (pv 0) pe_int (fun _ _ => rfl)) (fun _ _ => rfl)))
        (pss_cons (ps_asg (pe_op op_add (pe_ix ix_list (pv 0) pe_int (fun _ _ => rfl)) pe_int) (pg_sub (pv 0) pe_int set_list (fun _ => rfl)))
        (pss_cut (ps_if (pt_cmpR op_ge (pv 2) (pe_op op_pow pe_int pe_int) (nomark _))
          (pss_one (ps_asg (pv 2) (pg_sub (pv 0) pe_int set_list (fun _ => rfl))))
          pss_nil)
        (pss_one (ps_asg (pe_op op_mod (pe_callTy c_int1 (by rfl) T.int (by decide +kernel) (pa_cons (pe_op op_add (pe_op op_add (pe_op op_mul (pe_ix ix_list (pv 0) pe_int (fun _ _ => rfl)) pe_int) (pv 2)) pe_int) pa_nil)) pe_int) (pg_sub (pv 0) pe_int set_list (fun _ => rfl)))))))
        pss_nil)
      (pss_cons (ps_if (pt_cmpR op_gt (pe_ix ix_list (pv 0) pe_int (fun _ _ => rfl)) pe_int (nomark _))
        (pss_cons (ps_set (i := 3) sc_law_draw.nd rfl (Or.inl rfl) (pe_op op_mod (pe_callTy c_int1 (by rfl) T.int (by decide +kernel) (pa_cons (pe_ix ix_list (pv 0) pe_int (fun _ _ => rfl)) pa_nil)) (pv 1)))
        (pss_cons (ps_asg (pe_op op_fdiv (pe_ix ix_list (pv 0) pe_int (fun _ _ => rfl)) (pv 1)) (pg_sub (pv 0) pe_int set_list (fun _ => rfl)))
        (pss_one (ps_ret (pv 3)))))
        pss_nil)
      (pss_cons (ps_asg (pe_op op_mod (pe_callTy c_int1 (by rfl) T.int (by decide +kernel) (pa_cons (pe_op op_add (pe_op op_mul (pe_ix ix_list (pv 0) pe_int (fun _ _ => rfl)) pe_int) pe_int) pa_nil)) pe_int) (pg_sub (pv 0) pe_int set_list (fun _ => rfl)))
      (pss_one (ps_ret (pe_op op_mod (pe_callTy c_int1 (by rfl) T.int (by decide +kernel) (pa_cons (pe_op op_fdiv (pe_ix ix_list (pv 0) pe_int (fun _ _ => rfl)) pe_int) pa_nil)) (pv 1))))))), ?_⟩
    dsimp only [cxOf, L2.Cx.nox, L2.Cx.wish]
    obtain ⟨i, b, x, hst⟩ := D.st
    walk_at "go"
    refine s_cut (fun σ' H' => ∃ v2, σ' = [some (.ref a), some (.int lim), v2, none] ∧ Dr N a s0 zs H') ?_ ?_
    · walk_at "go"
      refine s_ixL (w := .int b) (SqL.of hst) rfl ?_
      walk_at "go"
      by_cases hb : b = 0
      · subst hb
        refine s_ifT (by rfl) ?_
        walk_at "go"
        refine s_ixL (w := .int i) (SqL.of hst) rfl ?_
        walk_at "go"
        refine s_ixL (w := .ref s0) (SqL.of hst) rfl ?_
        have hs0 := D.sub _ _ D.scr
        walk_at "go"
        refine s_lenL (SqL.of hs0) ?_
        rw [List.length_map]
        walk_at "go"
        by_cases hi : i < zs.length
        · refine s_ifT (by simpa using hi) ?_
          walk_at "st"
          refine s_ixL (w := .ref s0) (SqL.of hst) rfl ?_
          walk_at "go"
          refine s_ixL (w := .int i) (SqL.of hst) rfl ?_
          walk_at "go"
          refine s_ixL (w := .int zs[i]) (SqL.of hs0) (atI_nat (j := i) (by rw [List.getElem?_map, List.getElem?_eq_getElem hi]; rfl)) ?_
          walk_at "st"
          refine s_ixL (w := .int i) (SqL.of hst) rfl ?_
          walk_at "go"
          refine s_setL hst (k := 1) rfl ?_
          have D1 : Dr N a s0 zs (upd H a (.lst [.ref s0, .int ((i + 1 : Nat) : Int), .int 0, .int x])) := D.step (i + 1)
          have hst1 : upd H a (.lst [.ref s0, .int ((i + 1 : Nat) : Int), .int 0, .int x]) a = some (.lst [.ref s0, .int ((i + 1 : Nat) : Int), .int 0, .int x]) := upd_same
          have e1 : ([.ref s0, .int (i : Int), .int 0, .int x] : List V).set 1 (.int ((i : Int) + 1)) = [.ref s0, .int ((i + 1 : Nat) : Int), .int 0, .int x] := rfl
          rw [e1]
          generalize hH1 : upd H a (.lst [.ref s0, .int ((i + 1 : Nat) : Int), .int 0, .int x]) = H1 at D1 hst1
          walk_at "go"
          refine s_cut (fun σ' H' => ∃ b', σ' = [some (.ref a), some (.int lim), some (.int zs[i]), none] ∧ Dr N a s0 zs H' ∧ H' a = some (.lst [.ref s0, .int ((i + 1 : Nat) : Int), .int b', .int x])) ?_ ?_
          · walk_at "go"
            refine s_I ⟨by decide, by decide, by decide⟩ ?_
            walk_at "go"
            by_cases hc : (10 : Int) ^ (18 : Int).toNat ≤ zs[i]
            · refine s_ifT (decide_eq_true hc) ?_
              walk_at "go"
              refine s_setL hst1 (k := 2) rfl ?_
              exact ⟨zs[i], rfl, D1.step (i + 1), upd_same⟩
            · refine s_ifF (decide_eq_false hc) ?_
              exact ⟨0, rfl, D1, hst1⟩
          rintro σ' H2 ⟨b', rfl, D2, hst2⟩
          walk_at "go"
          refine s_ixL (w := .int x) (SqL.of hst2) rfl ?_
          walk_at "go"
          refine s_I (.inr ⟨by decide, by decide⟩) ?_
          walk_at "go"
          refine s_I (by decide) ?_
          walk_at "go"
          refine s_setL hst2 (k := 3) rfl ?_
          exact ⟨_, rfl, D2.step (i + 1)⟩
        · refine s_ifF (by simpa using hi) ?_
          exact ⟨_, rfl, D⟩
      · refine s_ifF (decide_eq_false fun h => hb (by cases h; rfl)) ?_
        walk_at "go"
        refine s_ifF (by rfl) ?_
        exact ⟨_, rfl, D⟩
    rintro σ' H1 ⟨v2, rfl, D1⟩
    obtain ⟨i1, b1, x1, h1⟩ := D1.st
    walk_at "st"
    refine s_ixL (w := .int b1) (SqL.of h1) rfl ?_
    walk_at "go"
    by_cases hb : 0 < b1
    · refine s_ifT (decide_eq_true hb) ?_
      walk_at "st"
      refine s_ixL (w := .int b1) (SqL.of h1) rfl ?_
      walk_at "go"
      refine s_I hl0 ?_
      walk_at "st"
      refine s_ixL (w := .int b1) (SqL.of h1) rfl ?_
      walk_at "go"
      refine s_I ⟨hl0, hl1⟩ ?_
      walk_at "go"
      refine s_setL h1 (k := 2) rfl ?_
      have e2 : (((b1 % lim).toNat : Nat) : Int) = b1 % lim := Int.toNat_of_nonneg (Int.emod_nonneg _ (by omega))
      have := q (b1 % lim).toNat _ (by rw [e2]; exact Int.emod_lt_of_pos _ hl0) (D1.step (b := b1 / lim) (x := x1) i1)
      rw [e2] at this
      walk_at "go"
      exact this
    · refine s_ifF (decide_eq_false hb) ?_
      walk_at "st"
      refine s_ixL (w := .int x1) (SqL.of h1) rfl ?_
      walk_at "go"
      refine s_I (.inr ⟨by decide, by decide⟩) ?_
      walk_at "go"
      refine s_I (by decide) ?_
      walk_at "go"
      refine s_setL h1 (k := 3) rfl ?_
      have D2 := D1.step (b := b1) (x := (x1 * 69621 + 7) % 2147483629) i1
      have h2 : upd H1 a (.lst [.ref s0, .int i1, .int b1, .int ((x1 * 69621 + 7) % 2147483629)]) a = some (.lst [.ref s0, .int i1, .int b1, .int ((x1 * 69621 + 7) % 2147483629)]) := upd_same
      have e3 : ([.ref s0, .int (i1 : Int), .int b1, .int x1] : List V).set 3 (.int ((x1 * 69621 + 7) % 2147483629)) = [.ref s0, .int i1, .int b1, .int ((x1 * 69621 + 7) % 2147483629)] := rfl
      rw [e3]
      generalize upd H1 a (.lst [.ref s0, .int i1, .int b1, .int ((x1 * 69621 + 7) % 2147483629)]) = H2 at D2 h2
      walk_at "go"
      refine s_ixL (w := .int ((x1 * 69621 + 7) % 2147483629)) (SqL.of h2) rfl ?_
      walk_at "go"
      refine s_I ⟨by decide, by decide⟩ ?_
      walk_at "go"
      refine s_I hl0 ?_
      generalize (x1 * 69621 + 7) % 2147483629 / 11 = y
      have e2 : (((y % lim).toNat : Nat) : Int) = y % lim := Int.toNat_of_nonneg (Int.emod_nonneg _ (by omega))
      have := q (y % lim).toNat _ (by rw [e2]; exact Int.emod_lt_of_pos _ hl0) D2
      rw [e2] at this
      exact this
end
end G
/-! The law's gaps, its flow. -/
namespace G
open PySem L2
/-- goes on through a reading as far as it decides itself -/
local macro_rules | `(tactic| walk_at "fact") => `(tactic| first | assumption | ((refine tnew ?_ ?_); assumption; (first | assumption | ((refine tnew ?_ ?_); assumption; (first | assumption | ((refine tnew ?_ ?_); assumption; assumption))))) | ((refine tsame ?_ ?_); assumption; assumption))
local macro_rules | `(tactic| walk_at "go1") => `(tactic| first
  | with_reducible refine s_op ?_ | ((with_reducible refine s_var (v := ?v) ?e ?_); (case e => rfl)) | with_reducible refine s_c ?_
  | with_reducible refine s_cb ?_ | with_reducible refine s_cons ?_ | with_reducible refine s_nil ?_ | with_reducible refine s_ret ?_ | with_reducible refine s_asg ?_ | with_reducible refine s_gname ?_
  | with_reducible refine s_ifS ?_ | with_reducible refine s_test ?_ | with_reducible refine s_B ?_ | with_reducible refine s_bl ?_ | with_reducible refine s_and ?_ | with_reducible refine s_or ?_ | with_reducible refine s_not ?_ | with_reducible refine s_if ?_
  | with_reducible refine s_un ?_ | with_reducible refine s_U ?_ | with_reducible refine s_drop ?_ | with_reducible refine s_next ?_ | with_reducible refine s_tup ?_ | with_reducible refine s_lst ?_ | with_reducible refine s_call ?_ | with_reducible refine s_dget ?_
  | ((with_reducible refine s_len ?h ?_); (case h => rfl)) | with_reducible refine s_notN ?_ | with_reducible refine s_isN ?_ | with_reducible refine s_yes ?_ | with_reducible refine s_fld ?_ | with_reducible refine s_meth ?_ | with_reducible refine s_andV ?_ | with_reducible refine s_orV ?_ | with_reducible refine s_gsub ?_ | with_reducible refine s_chain ?_ | with_reducible refine s_chain3 ?_ | with_reducible refine s_sl ?_ | with_reducible refine s_part ?_ | with_reducible refine s_noPart ?_ | with_reducible refine s_exI ?_ | with_reducible refine s_bm ?_ | ((with_reducible refine s_tyL (xs := ?xs) ?h ?_); (case h => assumption)) | with_reducible refine s_gcons ?_ | with_reducible refine s_gnil ?_ | with_reducible refine s_brk ?_ | with_reducible refine s_cont ?_
  | ((with_reducible refine s_ixT (xs := ?xs) (w := ?w) ?h ?e ?_); (case h => walk_at "fact"); (case e => rfl))
  | with_reducible refine s_max2 ?_ | with_reducible refine s_min2 ?_ | with_reducible refine s_intI ?_ | with_reducible refine s_intB ?_ | with_reducible refine s_I0 ?_ | with_reducible refine s_eqI ?_ | with_reducible refine s_eqS ?_ | with_reducible refine s_neI ?_)
local macro_rules | `(tactic| walk_at "go") => `(tactic| repeat walk_at "go1")
/-- the next statement -/
local macro_rules | `(tactic| walk_at "st") => `(tactic| (walk_at "go"; (with_reducible refine s_seq ?_); walk_at "go"))
/-- the next statement, cut off by a word -/
local macro_rules | `(tactic| walk_at "cut") => `(tactic| with_reducible refine s_cut ?_ ?_ ?_)
section
variable {P : Program} {w : World} {K : PySem.W.Frag} {mg : Str → Option Value} {base : Heap}
def GpB (g : Gp) : Prop := (0 ≤ g.h ∧ g.h ≤ 5) ∧ (0 ≤ g.s ∧ g.s ≤ 4) ∧ 0 ≤ g.k ∧ g.k ≤ 4
def spLGap (K : PySem.W.Frag) : Sp := fun vs H Q _ => ∃ (a s : Addr) (zs : List Int) (N : Hp), vs = [.ref a, .int 5] ∧ Dr N a s zs H ∧ ∀ N' v g H', Same N N' → Dr N' a s zs H' → GpAt K N' v g → GpB g → Q v H'
abbrev s_law_gap : Stmt := topS 23
theorem sc_law_gap : FnScope ["_law_draws_here", "_law_most", "_law_height"] ["_law_draws_here", "_law_most"] (defScope s_law_gap) := ⟨rfl, rfl, rfl, by decide +kernel, rfl, by decide +kernel, by decide +kernel⟩
theorem ok_law_gap {f : Addr} {fd : FuncData} (F0 : Fun K "_law_gap" "_law_gap" s_law_gap f fd) (T : Txt mg) (Cl_draw : Cl P w K mg base CX0 "_law_draw" 1 ["_law_draws_here", "_law_limit"] (spDraw K)) : FnOk P w K mg base CX0 2 f fd ["_law_draws_here", "_law_most"] (spLGap K) := by
  refine F0.ok sc_law_gap (fun vs H Q E h => ?_) (fun cdv A outer s H vs Q E hr h => ?_)
  · obtain ⟨_, _, _, _, rfl, _⟩ := h
    rfl
  · obtain ⟨a, s0, zs, N, rfl, D, q⟩ := h
    refine ⟨_, (pss_cons (ps_set (i := 2) sc_law_gap.nd rfl (Or.inl rfl) (pe_cl Cl_draw hr (by rfl) pass0 (pa_cons (pv 0) (pa_cons (pe_op op_add (pv 1) pe_int) pa_nil))))
      (pss_one (ps_ret (pe_tup (pa_cons (pv 2) (pa_cons (pe_cl Cl_draw hr (by rfl) pass0 (pa_cons (pv 0) (pa_cons pe_int pa_nil))) (pa_cons (pe_cl Cl_draw hr (by rfl) pass0 (pa_cons (pv 0) (pa_cons (pe_op op_add (pe_callB (c_min2 rfl) (by rfl) T.min (by decide +kernel) (pa_cons pe_int (pa_cons (pv 2) pa_nil))) pe_int) pa_nil))) pa_nil))))))), ?_⟩
    try dsimp only [cxOf, L2.Cx.nox, L2.Cx.wish]
    walk_at "st"
    refine ⟨a, s0, zs, N, _, rfl, D, by decide, by decide, fun h H1 hh D1 => ?_⟩
    walk_at "go"
    refine ⟨a, s0, zs, N, _, rfl, D1, by decide, by decide, fun st H2 hst D2 => ?_⟩
    walk_at "go"
    refine ⟨a, s0, zs, N, _, rfl, D2, ?_, ?_, fun k H3 hk D3 => ?_⟩
    · split <;> omega
    · split <;> omega
    walk_at "go"
    intro p np
    obtain ⟨D4, hN, _⟩ := D3.new (o := .tup [.int h, .int st, .int k]) np
    refine q _ _ ⟨h, st, k⟩ _ (Same.new hN) D4 ⟨p, rfl, SqT.of upd_same⟩ ⟨⟨Int.natCast_nonneg _, by show (h : Int) ≤ 5; omega⟩, ⟨Int.natCast_nonneg _, by show (st : Int) ≤ 4; omega⟩, Int.natCast_nonneg _, ?_⟩
    show (k : Int) ≤ 4
    split at hk <;> omega
/-! ### _law_flow -/
def nmG : List Str := ["para", "item", "above", "below", "note", "float"]
def nmC : List Str := ["widow", "orphan", "hyphen", "head", "late"]
structure FwB (F : Fw) : Prop where
  lead : 6 ≤ F.lead ∧ F.lead ≤ 13
  least : 0 ≤ F.least ∧ F.least ≤ 2
  gap : ∀ n, GpB (F.gap n)
  cost : ∀ n, 0 ≤ F.cost n ∧ F.cost n ≤ 10000
  most : 1 ≤ F.most ∧ F.most ≤ 3
  notes : 0 ≤ F.notes ∧ F.notes ≤ 1000
  keep : 1 ≤ F.keep ∧ F.keep ≤ 3
/-- a dict with these names, for each a value that is as R says -/
def DcAt (N : Hp) (g : Addr) (xs : List Str) (R : V → Prop) : Prop := ∃ kvs : List (L2.Key × V), N g = some (.dK kvs) ∧ kvs.length ≤ xs.length ∧ ∀ x ∈ xs, ∃ u, valV kvs (.inr x) = some u ∧ R u
theorem DcAt.mono {N N' : Hp} {g : Addr} {xs : List Str} {R R' : V → Prop} (e : Same N N') (r : ∀ u, R u → R' u) (h : DcAt N g xs R) : DcAt N' g xs R' := by
  obtain ⟨kvs, a, b, c⟩ := h
  exact ⟨kvs, e _ _ a, b, fun x hx => let ⟨u, h1, h2⟩ := c x hx; ⟨u, h1, r u h2⟩⟩
theorem DcAt.put {N : Hp} {g : Addr} {xs : List Str} {R R' : V → Prop} {x : Str} {v : V} (h : DcAt N g xs R) (hl : xs.length ≤ 100) (hv : R' v) (r : ∀ u, R u → R' u) :
    ∃ kvs, N g = some (.dK kvs) ∧ (∀ H : Hp, H g = some (.dK kvs) → DPut H g (.str x) v (upd H g (.dK (putK kvs (.inr x) v)))) ∧ DcAt (upd N g (.dK (putK kvs (.inr x) v))) g (xs ++ [x]) R' := by
  obtain ⟨kvs, a, b, c⟩ := h
  refine ⟨kvs, a, fun H hH => DPut.k (k := .inr x) hH (Nat.lt_of_le_of_lt (Nat.le_trans b hl) (by decide)), _, upd_same, ?_, fun y hy => ?_⟩
  · have := length_putK kvs (.inr x) v
    rw [List.length_append, List.length_singleton]
    omega
  · rw [valV_put]
    by_cases e : y = x
    · rw [if_pos (by rw [e])]
      exact ⟨v, rfl, hv⟩
    · rw [if_neg (fun z => e (Sum.inr.inj z))]
      rcases List.mem_append.mp hy with hy | hy
      · obtain ⟨u, h1, h2⟩ := c y hy
        exact ⟨u, h1, r u h2⟩
      · exact absurd (List.mem_singleton.mp hy) e
theorem DcAt.get {N : Hp} {g : Addr} {xs : List Str} {R : V → Prop} (h : DcAt N g xs R) {x : Str} (hx : x ∈ xs) : ∃ u, DGet N g (.str x) (some u) ∧ R u := by
  obtain ⟨kvs, a, _, c⟩ := h
  obtain ⟨u, h1, h2⟩ := c x hx
  refine ⟨u, ?_, h2⟩
  have := DGet.k (k := .inr x) a
  rw [h1] at this
  exact this
theorem Gn.mem (n : Gn) : n.str ∈ nmG := by cases n <;> simp [Gn.str, nmG]
theorem Cn.mem (n : Cn) : n.str ∈ nmC := by cases n <;> simp [Cn.str, nmC]
def spLFlow (K : PySem.W.Frag) : Sp := fun vs H Q _ => ∃ (a s : Addr) (zs : List Int) (N : Hp) (ht : Int), vs = [.ref a, .int ht] ∧ Dr N a s zs H ∧ ∀ N' v F g c H', Same N N' → Dr N' a s zs H' → FwAt K N' v F g c → F.height = ht → FwB F → Q v H'
theorem s_dputK {td ty tv : TE} {D : L2.Ends} {σ : L2.St} {H : Hp} (h : tv σ H fun v H1 => td σ H1 fun x H2 => ty σ H2 fun y H3 => ∃ a H4, x = .ref a ∧ DPut H3 a y v H4 ∧ D.nx σ H4) : sDPut td ty tv D σ H := h
theorem str_at {xs : List Str} {i : Nat} {y : V} (h : (xs.map V.str)[i]? = some y) : ∃ x, xs[i]? = some x ∧ y = .str x := by
  rw [List.getElem?_map] at h
  obtain ⟨x, h1, h2⟩ := Option.map_eq_some_iff.mp h
  exact ⟨x, h1, h2.symm⟩
abbrev s_law_flow : Stmt := topS 24
theorem sc_law_flow : FnScope ["_law_draws_here", "_law_height", "_law_gaps", "_law_name", "_law_costs", "_law_rest"] ["_law_draws_here", "_law_height"] (defScope s_law_flow) := ⟨rfl, rfl, rfl, by decide +kernel, rfl, by decide +kernel, by decide +kernel⟩
set_option maxHeartbeats 2000000 in
theorem ok_law_flow {f : Addr} {fd : FuncData} (F0 : Fun K "_law_flow" "_law_flow" s_law_flow f fd) (T : Txt mg) (Cl_draw : Cl P w K mg base CX0 "_law_draw" 1 ["_law_draws_here", "_law_limit"] (spDraw K)) (Cl_gap : Cl P w K mg base CX0 "_law_gap" 2 ["_law_draws_here", "_law_most"] (spLGap K)) :
    FnOk P w K mg base CX0 3 f fd ["_law_draws_here", "_law_height"] (spLFlow K) := by
  refine F0.ok sc_law_flow (fun vs H Q E h => ?_) (fun cdv A outer s H vs Q E hr h => ?_)
  · obtain ⟨_, _, _, _, _, rfl, _⟩ := h
    rfl
  · obtain ⟨a, s0, zs, N, ht, rfl, D, q⟩ := h
    have hu := hu_of hr
    refine ⟨_, (pss_cons (ps_set (i := 2) sc_law_flow.nd rfl (Or.inl rfl) (pe_dnewK))
      (pss_cons (ps_for PassesOwn.never rfl (pi_list (pe_lst (pa_cons pe_str (pa_cons pe_str (pa_cons pe_str (pa_cons pe_str (pa_cons pe_str (pa_cons pe_str pa_nil)))))))) (pg_name (i := 3) sc_law_flow.nd rfl (Or.inl rfl))
        (pss_one (ps_dput hu (pv 2) (pv 3) (pe_cl Cl_gap hr (by rfl) pass0 (pa_cons (pv 0) (pa_cons pe_int pa_nil))) rfl)))
      (pss_cons (ps_set (i := 4) sc_law_flow.nd rfl (Or.inl rfl) (pe_dnewK))
      (pss_cons (ps_for PassesOwn.never rfl (pi_list (pe_lst (pa_cons pe_str (pa_cons pe_str (pa_cons pe_str (pa_cons pe_str (pa_cons pe_str pa_nil))))))) (pg_name (i := 3) sc_law_flow.nd rfl (Or.inl rfl))
        (pss_one (ps_dput hu (pv 4) (pv 3) (pe_ix ix_list (pe_lst (pa_cons pe_int (pa_cons pe_int (pa_cons pe_int (pa_cons pe_int (pa_cons pe_int pa_nil)))))) (pe_cl Cl_draw hr (by rfl) pass0 (pa_cons (pv 0) (pa_cons pe_int pa_nil))) (fun _ _ => rfl)) rfl)))
      (pss_cons (ps_set (i := 5) sc_law_flow.nd rfl (Or.inl rfl) (pe_tup (pa_cons (pe_op op_add pe_int (pe_cl Cl_draw hr (by rfl) pass0 (pa_cons (pv 0) (pa_cons pe_int pa_nil)))) (pa_cons (pe_ix ix_list (pe_lst (pa_cons pe_int (pa_cons pe_int pa_nil))) (pe_cl Cl_draw hr (by rfl) pass0 (pa_cons (pv 0) (pa_cons pe_int pa_nil))) (fun _ _ => rfl)) (pa_cons (pe_op op_add pe_int (pe_cl Cl_draw hr (by rfl) pass0 (pa_cons (pv 0) (pa_cons pe_int pa_nil)))) pa_nil)))))
      (pss_one (ps_ret (pe_op op_catT (pe_tup (pa_cons pe_str (pa_cons (pe_op op_add pe_int (pe_cl Cl_draw hr (by rfl) pass0 (pa_cons (pv 0) (pa_cons pe_int pa_nil)))) (pa_cons (pe_cl Cl_draw hr (by rfl) pass0 (pa_cons (pv 0) (pa_cons pe_int pa_nil))) (pa_cons (pv 2) (pa_cons (pv 4) (pa_cons (pv 1) pa_nil))))))) (pv 5))))))))), ?_⟩
    try dsimp only [cxOf, L2.Cx.nox, L2.Cx.wish]
    walk_at "st"
    intro g ng
    obtain ⟨D1, ngN, hga⟩ := D.new (o := .dK []) ng
    have hgs : g ≠ s0 := fun e => by rw [e, D.scr] at ngN; cases ngN
    generalize hH1 : upd H g (.dK []) = H1 at D1
    generalize hN1 : upd N g (.dK []) = N1 at D1
    have sN1 : Same N N1 := by rw [← hN1]; exact Same.new ngN
    have hg1 : N1 g = some (.dK []) := by rw [← hN1, upd_same]
    walk_at "st"
    refine s_forL ?_
    walk_at "go"
    intro pl npl
    obtain ⟨D2, nplN, hpa⟩ := D1.new (o := .lst (nmG.map V.str)) npl
    have sN2 : Same N1 (upd N1 pl (.lst (nmG.map V.str))) := Same.new nplN
    have hgp : g ≠ pl := fun e => by rw [e, nplN] at hg1; cases hg1
    walk_at "go"
    refine ⟨pl, rfl, ⟨_, SqL.of upd_same⟩, for_it walk_list (fun i σ' H' => ∃ N' v3, σ' = [some (.ref a), some (.int ht), some (.ref g), v3, none, none] ∧ Same N N' ∧ Dr N' a s0 zs H' ∧ N' pl = some (.lst (nmG.map V.str)) ∧ DcAt N' g (nmG.take i) fun u => ∃ gp, GpAt K N' u gp ∧ GpB gp)
      ⟨_, _, rfl, sN1.trans sN2, D2, upd_same, [], by rw [upd_ne hgp]; exact hg1, Nat.le_refl _, fun x hx => by cases hx⟩ (fun i σ' H' _ ⟨_, _, _, _, d, z, _⟩ => SqL.of (d.sub _ _ z)) ?_ ?_⟩
    · rintro i y σ' H4' H3 hi ⟨N3, v3, rfl, s3, D3, hpl3, dc3⟩ ⟨rfl, hy⟩
      obtain ⟨x, hx, rfl⟩ := str_at hy
      walk_at "go"
      refine s_dputK ?_
      walk_at "go"
      refine ⟨a, s0, zs, N3, rfl, D3, fun N4 u gp H4 s4 D4 hgp4 hgb => ?_⟩
      have dc4 := dc3.mono s4 (R' := fun u => ∃ gp, GpAt K N4 u gp ∧ GpB gp) fun u ⟨gp, h1, h2⟩ => ⟨gp, IsT.mono (TSm.of s4) h1, h2⟩
      obtain ⟨kvs, hk, dp, dc5⟩ := dc4.put (x := x) (v := u) (R' := fun u => ∃ gp, GpAt K N4 u gp ∧ GpB gp) (by rw [List.length_take]; exact Nat.le_trans (Nat.min_le_right _ _) (by decide)) ⟨gp, hgp4, hgb⟩ fun u z => z
      walk_at "go"
      refine ⟨g, _, rfl, dp _ (D4.sub _ _ hk), ?_⟩
      have t5 : TSm N4 (upd N4 g (.dK (putK kvs (.inr x) u))) := TSm.put hk (fun _ z => by cases z) fun _ _ z => by cases z
      refine ⟨_, _, rfl, (s3.trans s4).put ngN, D4.put hk hgs, by rw [upd_ne hgp.symm]; exact s4 _ _ hpl3, ?_⟩
      rw [List.take_add_one, hx]
      obtain ⟨kv5, h1, h2, h3⟩ := dc5
      exact ⟨kv5, h1, h2, fun y hy => let ⟨u, g1, gp, g2, g3⟩ := h3 y hy; ⟨u, g1, gp, IsT.mono t5 g2, g3⟩⟩
    rintro σ' H3 ⟨N3, v3, rfl, s3, D3, hpl3, dc3⟩
    rw [List.take_of_length_le (by rw [List.length_map]; exact Nat.le_refl _)] at dc3
    clear hH1 hN1 D1 D2 sN1 sN2 hg1
    walk_at "st"
    intro c nc
    obtain ⟨D4, ncN, hca⟩ := D3.new (o := .dK []) nc
    have hcs : c ≠ s0 := fun e => by rw [e, D3.scr] at ncN; cases ncN
    have sN4 : Same N3 (upd N3 c (.dK [])) := Same.new ncN
    generalize hH4 : upd H3 c (.dK []) = H4 at D4
    generalize hN4 : upd N3 c (.dK []) = N4 at D4 sN4
    have hc4 : N4 c = some (.dK []) := by rw [← hN4, upd_same]
    walk_at "st"
    refine s_forL ?_
    walk_at "go"
    intro pc npc
    obtain ⟨D5, npcN, hpca⟩ := D4.new (o := .lst (nmC.map V.str)) npc
    have sN5 : Same N4 (upd N4 pc (.lst (nmC.map V.str))) := Same.new npcN
    have hcp : c ≠ pc := fun e => by rw [e, npcN] at hc4; cases hc4
    walk_at "go"
    refine ⟨pc, rfl, ⟨_, SqL.of upd_same⟩, for_it walk_list (fun i σ' H' => ∃ N' v3, σ' = [some (.ref a), some (.int ht), some (.ref g), v3, some (.ref c), none] ∧ Same N3 N' ∧ Dr N' a s0 zs H' ∧ N' pc = some (.lst (nmC.map V.str)) ∧ DcAt N' c (nmC.take i) fun u => ∃ z : Int, u = .int z ∧ 0 ≤ z ∧ z ≤ 10000)
      ⟨_, _, rfl, sN4.trans sN5, D5, upd_same, [], by rw [upd_ne hcp]; exact hc4, Nat.le_refl _, fun x hx => by cases hx⟩ (fun i σ' H' _ ⟨_, _, _, _, d, z, _⟩ => SqL.of (d.sub _ _ z)) ?_ ?_⟩
    · rintro i y σ' H6' H6 hi ⟨N6, v3, rfl, s6, D6, hpc6, dc6⟩ ⟨rfl, hy⟩
      obtain ⟨x, hx, rfl⟩ := str_at hy
      walk_at "go"
      refine s_dputK ?_
      walk_at "go"
      intro l nl
      obtain ⟨D7, nlN, hla⟩ := D6.new (o := .lst [.int 0, .int 1, .int 20, .int 150, .int 10000]) nl
      have s7 : Same N6 (upd N6 l (.lst [.int 0, .int 1, .int 20, .int 150, .int 10000])) := Same.new nlN
      have hl7 : upd N6 l (.lst [.int 0, .int 1, .int 20, .int 150, .int 10000]) l = some (.lst [.int 0, .int 1, .int 20, .int 150, .int 10000]) := upd_same
      generalize upd H6 l (.lst [.int 0, .int 1, .int 20, .int 150, .int 10000]) = H7 at D7
      generalize upd N6 l (.lst [.int 0, .int 1, .int 20, .int 150, .int 10000]) = N7 at D7 s7 hl7
      walk_at "go"
      refine ⟨a, s0, zs, N7, _, rfl, D7, by decide, by decide, fun v H8 hv D8 => ?_⟩
      have hv5 : v < ([0, 1, 20, 150, 10000] : List Int).length := by show v < 5; omega
      have hz : ∀ z ∈ ([0, 1, 20, 150, 10000] : List Int), 0 ≤ z ∧ z ≤ 10000 := by decide
      have hzv := hz _ (List.getElem_mem hv5)
      walk_at "go"
      refine s_ixL (w := .int ([0, 1, 20, 150, 10000] : List Int)[v]) (SqL.of (D8.sub _ _ hl7)) (atI_nat (j := v) (show (([0, 1, 20, 150, 10000] : List Int).map V.int)[v]? = _ by rw [List.getElem?_map, List.getElem?_eq_getElem hv5]; rfl)) ?_
      walk_at "go"
      have dc7 := dc6.mono s7 (R' := fun u => ∃ z : Int, u = .int z ∧ 0 ≤ z ∧ z ≤ 10000) fun u z => z
      obtain ⟨kvs, hk, dp, dc8⟩ := dc7.put (x := x) (v := .int ([0, 1, 20, 150, 10000] : List Int)[v]) (R' := fun u => ∃ z : Int, u = .int z ∧ 0 ≤ z ∧ z ≤ 10000) (by rw [List.length_take]; exact Nat.le_trans (Nat.min_le_right _ _) (by decide)) ⟨_, rfl, hzv⟩ fun u z => z
      refine ⟨c, _, rfl, dp _ (D8.sub _ _ hk), ?_⟩
      refine ⟨_, _, rfl, (s6.trans s7).put ncN, D8.put hk hcs, by rw [upd_ne hcp.symm]; exact s7 _ _ hpc6, ?_⟩
      rw [List.take_add_one, hx]
      exact dc8
    rintro σ' H6 ⟨N6, v3', rfl, s6, D6, hpc6, dc6⟩
    rw [List.take_of_length_le (by rw [List.length_map]; exact Nat.le_refl _)] at dc6
    have dc3' := dc3.mono s6 (R' := fun u => ∃ gp, GpAt K N6 u gp ∧ GpB gp) fun u ⟨gp, h1, h2⟩ => ⟨gp, IsT.mono (TSm.of s6) h1, h2⟩
    clear hH4 hN4 D4 D5 sN4 sN5 hc4
    have s06 := s3.trans s6
    walk_at "st"
    refine ⟨a, s0, zs, N6, _, rfl, D6, by decide, by decide, fun v1 H7 hv1 D7 => ?_⟩
    walk_at "go"
    intro l nl
    obtain ⟨D8, nlN, hla⟩ := D7.new (o := .lst [.int 8, .int 1000]) nl
    have s8 : Same N6 (upd N6 l (.lst [.int 8, .int 1000])) := Same.new nlN
    have hl8 : upd N6 l (.lst [.int 8, .int 1000]) l = some (.lst [.int 8, .int 1000]) := upd_same
    generalize upd H7 l (.lst [.int 8, .int 1000]) = H8 at D8
    generalize upd N6 l (.lst [.int 8, .int 1000]) = N8 at D8 s8 hl8
    walk_at "go"
    refine ⟨a, s0, zs, N8, _, rfl, D8, by decide, by decide, fun v2 H9 hv2 D9 => ?_⟩
    have hv2' : v2 < ([8, 1000] : List Int).length := by show v2 < 2; omega
    have hz : ∀ z ∈ ([8, 1000] : List Int), 0 ≤ z ∧ z ≤ 1000 := by decide
    have hn := hz _ (List.getElem_mem hv2')
    walk_at "go"
    refine s_ixL (w := .int ([8, 1000] : List Int)[v2]) (SqL.of (D9.sub _ _ hl8)) (atI_nat (j := v2) (show (([8, 1000] : List Int).map V.int)[v2]? = _ by rw [List.getElem?_map, List.getElem?_eq_getElem hv2']; rfl)) ?_
    generalize ([8, 1000] : List Int)[v2] = nt at hn
    walk_at "go"
    refine ⟨a, s0, zs, N8, _, rfl, D9, by decide, by decide, fun v3 H10 hv3 D10 => ?_⟩
    walk_at "go"
    intro t nt'
    obtain ⟨D11, ntN, hta⟩ := D10.new (o := .tup [.int (1 + v1), .int nt, .int (1 + v3)]) nt'
    have s11 : Same N8 (upd N8 t (.tup [.int (1 + v1), .int nt, .int (1 + v3)])) := Same.new ntN
    have ht11 : upd N8 t (.tup [.int (1 + v1), .int nt, .int (1 + v3)]) t = some (.tup [.int (1 + v1), .int nt, .int (1 + v3)]) := upd_same
    generalize upd H10 t (.tup [.int (1 + v1), .int nt, .int (1 + v3)]) = H11 at D11
    generalize upd N8 t (.tup [.int (1 + v1), .int nt, .int (1 + v3)]) = N11 at D11 s11 ht11
    walk_at "go"
    refine ⟨a, s0, zs, N11, _, rfl, D11, by decide, by decide, fun v4 H12 hv4 D12 => ?_⟩
    walk_at "go"
    refine ⟨a, s0, zs, N11, _, rfl, D12, by decide, by decide, fun v5 H13 hv5 D13 => ?_⟩
    walk_at "go"
    intro u nu
    obtain ⟨D14, nuN, hua⟩ := D13.new (o := .tup [.str "flow", .int (6 + v4), .int v5, .ref g, .ref c, .int ht]) nu
    have s14 : Same N11 (upd N11 u (.tup [.str "flow", .int (6 + v4), .int v5, .ref g, .ref c, .int ht])) := Same.new nuN
    have hu14 : upd N11 u (.tup [.str "flow", .int (6 + v4), .int v5, .ref g, .ref c, .int ht]) u = some (.tup [.str "flow", .int (6 + v4), .int v5, .ref g, .ref c, .int ht]) := upd_same
    generalize upd H13 u (.tup [.str "flow", .int (6 + v4), .int v5, .ref g, .ref c, .int ht]) = H14 at D14
    generalize upd N11 u (.tup [.str "flow", .int (6 + v4), .int v5, .ref g, .ref c, .int ht]) = N14 at D14 s14 hu14
    walk_at "go"
    refine ⟨u, t, _, _, rfl, rfl, SqT.of (D14.sub _ _ hu14), SqT.of (D14.sub _ _ (s14 _ _ ht11)), fun h => (by cases h), (by show 6 + 3 ≤ sizeLine; decide), fun h => (by cases h), fun _ p np => ?_⟩
    have s16 := (s8.trans s11).trans s14
    obtain ⟨D15, npN, hpa⟩ := D14.new (o := .tup [.str "flow", .int (6 + v4), .int v5, .ref g, .ref c, .int ht, .int (1 + v1), .int nt, .int (1 + v3)]) np
    have s15 : Same N14 (upd N14 p (.tup [.str "flow", .int (6 + v4), .int v5, .ref g, .ref c, .int ht, .int (1 + v1), .int nt, .int (1 + v3)])) := Same.new npN
    have s17 := s16.trans s15
    obtain ⟨gf, hgf⟩ := Classical.axiomOfChoice fun n : Gn => let ⟨u, h1, gp, h2, h3⟩ := dc3'.get n.mem; (⟨gp, u, h1, h2, h3⟩ : ∃ gp u, DGet N6 g (.str n.str) (some u) ∧ GpAt K N6 u gp ∧ GpB gp)
    obtain ⟨cf, hcf⟩ := Classical.axiomOfChoice fun n : Cn => let ⟨u, h1, z, h2, h3⟩ := dc6.get n.mem; (⟨z, by rw [← h2]; exact h1, h3⟩ : ∃ z : Int, DGet N6 c (.str n.str) (some (.int z)) ∧ 0 ≤ z ∧ z ≤ 10000)
    refine q _ _ ⟨6 + v4, v5, gf, cf, ht, 1 + v1, nt, 1 + v3⟩ g c _ (s06.trans s17) D15 ⟨⟨p, rfl, SqT.of upd_same⟩, fun n => ?_, fun n => ?_⟩ rfl ⟨?_, ?_, fun n => ?_, fun n => (hcf n).2, ?_, hn, ?_⟩
    · obtain ⟨u, h1, h2, _⟩ := hgf n
      exact ⟨u, dget_mono s17 h1, IsT.mono (TSm.of s17) h2⟩
    · exact dget_mono s17 (hcf n).1
    · show (6 : Int) ≤ 6 + v4 ∧ (6 : Int) + v4 ≤ 13
      omega
    · show (0 : Int) ≤ v5 ∧ (v5 : Int) ≤ 2
      omega
    · obtain ⟨u, h1, h2, h3⟩ := hgf n
      exact h3
    · show (1 : Int) ≤ 1 + v1 ∧ (1 : Int) + v1 ≤ 3
      omega
    · show (1 : Int) ≤ 1 + v3 ∧ (1 : Int) + v3 ≤ 3
      omega
end
end G
/-! The law's blocks. -/
namespace G
open PySem L2
/-- goes on through a reading as far as it decides itself -/
local macro_rules | `(tactic| walk_at "fact") => `(tactic| first | assumption | ((refine tnew ?_ ?_); assumption; (first | assumption | ((refine tnew ?_ ?_); assumption; (first | assumption | ((refine tnew ?_ ?_); assumption; assumption))))) | ((refine tsame ?_ ?_); assumption; assumption))
local macro_rules | `(tactic| walk_at "go1") => `(tactic| first
  | with_reducible refine s_op ?_ | ((with_reducible refine s_var (v := ?v) ?e ?_); (case e => rfl)) | with_reducible refine s_c ?_
  | with_reducible refine s_cb ?_ | with_reducible refine s_cons ?_ | with_reducible refine s_nil ?_ | with_reducible refine s_ret ?_ | with_reducible refine s_asg ?_ | with_reducible refine s_gname ?_
  | with_reducible refine s_ifS ?_ | with_reducible refine s_test ?_ | with_reducible refine s_B ?_ | with_reducible refine s_bl ?_ | with_reducible refine s_and ?_ | with_reducible refine s_or ?_ | with_reducible refine s_not ?_ | with_reducible refine s_if ?_
  | with_reducible refine s_un ?_ | with_reducible refine s_U ?_ | with_reducible refine s_drop ?_ | with_reducible refine s_next ?_ | with_reducible refine s_tup ?_ | with_reducible refine s_lst ?_ | with_reducible refine s_call ?_ | with_reducible refine s_dget ?_
  | ((with_reducible refine s_len ?h ?_); (case h => rfl)) | with_reducible refine s_notN ?_ | with_reducible refine s_isN ?_ | with_reducible refine s_yes ?_ | with_reducible refine s_fld ?_ | with_reducible refine s_meth ?_ | with_reducible refine s_andV ?_ | with_reducible refine s_orV ?_ | with_reducible refine s_gsub ?_ | with_reducible refine s_chain ?_ | with_reducible refine s_chain3 ?_ | with_reducible refine s_sl ?_ | with_reducible refine s_part ?_ | with_reducible refine s_noPart ?_ | with_reducible refine s_exI ?_ | with_reducible refine s_bm ?_ | ((with_reducible refine s_tyL (xs := ?xs) ?h ?_); (case h => assumption)) | with_reducible refine s_gcons ?_ | with_reducible refine s_gnil ?_ | with_reducible refine s_brk ?_ | with_reducible refine s_cont ?_
  | ((with_reducible refine s_ixT (xs := ?xs) (w := ?w) ?h ?e ?_); (case h => walk_at "fact"); (case e => rfl))
  | with_reducible refine s_max2 ?_ | with_reducible refine s_min2 ?_ | with_reducible refine s_intI ?_ | with_reducible refine s_intB ?_ | with_reducible refine s_I0 ?_ | with_reducible refine s_eqI ?_ | with_reducible refine s_eqS ?_ | with_reducible refine s_neI ?_)
local macro_rules | `(tactic| walk_at "go") => `(tactic| repeat walk_at "go1")
/-- the next statement -/
local macro_rules | `(tactic| walk_at "st") => `(tactic| (walk_at "go"; (with_reducible refine s_seq ?_); walk_at "go"))
/-- the next statement, cut off by a word -/
local macro_rules | `(tactic| walk_at "cut") => `(tactic| with_reducible refine s_cut ?_ ?_ ?_)
theorem upd_comm {H : Hp} {a b : Addr} {x y : HO} (h : a ≠ b) : upd (upd H a x) b y = upd (upd H b y) a x := by
  funext c
  by_cases h1 : c = b
  · subst h1
    rw [upd_same, upd_ne h.symm, upd_same]
  · by_cases h2 : c = a
    · subst h2
      rw [upd_ne h1, upd_same, upd_same]
    · rw [upd_ne h1, upd_ne h2, upd_ne h2, upd_ne h1]
theorem upd_upd {H : Hp} {a : Addr} {x y : HO} : upd (upd H a x) a y = upd H a y := by
  funext c
  by_cases h1 : c = a
  · subst h1
    rw [upd_same, upd_same]
  · rw [upd_ne h1, upd_ne h1, upd_ne h1]
/-- a list in the making at pb, beside M, beside the draws -/
structure Bz (M : Hp) (pb : Addr) (vbs : List V) (a s : Addr) (zs : List Int) (H : Hp) : Prop where
  off : M pb = none
  dr : Dr (upd M pb (.lst vbs)) a s zs H
theorem Bz.pbs {M H : Hp} {pb a s : Addr} {vbs : List V} {zs : List Int} (h : Bz M pb vbs a s zs H) (hs : ∃ us, M s = some us) : pb ≠ s := fun e => by
  obtain ⟨us, hs⟩ := hs
  rw [← e, h.off] at hs
  cases hs
theorem Bz.get {M H : Hp} {pb a s b : Addr} {vbs : List V} {zs : List Int} {o : HO} (h : Bz M pb vbs a s zs H) (e : M b = some o) : H b = some o := h.dr.sub _ _ (by rw [upd_ne (ne_of_none e h.off)]; exact e)
theorem Bz.at {M H : Hp} {pb a s : Addr} {vbs : List V} {zs : List Int} (h : Bz M pb vbs a s zs H) : H pb = some (.lst vbs) := h.dr.sub _ _ upd_same
theorem Bz.new {M H : Hp} {pb a s p : Addr} {vbs : List V} {zs : List Int} {o : HO} (h : Bz M pb vbs a s zs H) (np : H p = none) : Bz (upd M p o) pb vbs a s zs (upd H p o) ∧ M p = none := by
  have hp : pb ≠ p := ne_of_none h.at np
  obtain ⟨d, n, _⟩ := h.dr.new (o := o) np
  rw [upd_ne hp.symm] at n
  exact ⟨⟨by rw [upd_ne hp]; exact h.off, by rw [upd_comm hp.symm]; exact d⟩, n⟩
theorem Bz.put {M H : Hp} {pb a s p : Addr} {vbs : List V} {zs : List Int} {o u : HO} (h : Bz M pb vbs a s zs H) (e : M p = some u) (hps : p ≠ s) : Bz (upd M p o) pb vbs a s zs (upd H p o) := by
  have hp : p ≠ pb := ne_of_none e h.off
  exact ⟨by rw [upd_ne hp.symm]; exact h.off, by rw [upd_comm hp]; exact h.dr.put (by rw [upd_ne hp]; exact e) hps⟩
theorem Bz.app {M H : Hp} {pb a s : Addr} {vbs ws : List V} {zs : List Int} (h : Bz M pb vbs a s zs H) (hs : pb ≠ s) : Bz M pb ws a s zs (upd H pb (.lst ws)) :=
  ⟨h.off, by have := h.dr.put (p := pb) (o := .lst ws) upd_same hs; rw [upd_upd] at this; exact this⟩
theorem Bz.keep {M H H' : Hp} {pb a s : Addr} {vbs : List V} {zs : List Int} (h : Bz M pb vbs a s zs H) (d : Dr (upd M pb (.lst vbs)) a s zs H') : Bz M pb vbs a s zs H' := ⟨h.off, d⟩
/-! ### what the blocks are -/
def manyLs (ls : List Ln) : Nat := (ls.map fun l => l.ns.length).sum
def manyBs (bs : List Bk) : Nat := (bs.map fun b => manyLs b.ls).sum
def LnB (m : Nat) (l : Ln) : Prop := (1 ≤ l.h ∧ l.h ≤ 9) ∧ (0 ≤ l.d ∧ l.d ≤ 3) ∧ l.ns.length ≤ 2 ∧ ∀ n ∈ l.ns, 0 ≤ n ∧ n < (m : Int)
theorem LnB.mono {m m' : Nat} {l : Ln} (h : LnB m l) (e : m ≤ m') : LnB m' l := ⟨h.1, h.2.1, h.2.2.1, fun n hn => let ⟨a, b⟩ := h.2.2.2 n hn; ⟨a, by omega⟩⟩
structure BlB (bs : List Bk) (m : Nat) : Prop where
  ls : ∀ b ∈ bs, b.kd.txt = true → b.ls ≠ [] ∧ b.ls.length ≤ 5
  nt : ∀ b ∈ bs, b.kd.txt = false → b.ls = []
  ln : ∀ b ∈ bs, ∀ l ∈ b.ls, LnB m l
  sum : manyBs bs = m
theorem BlB.snoc {bs : List Bk} {m m' : Nat} {b : Bk} (h : BlB bs m) (h1 : b.kd.txt = true → b.ls ≠ [] ∧ b.ls.length ≤ 5) (h2 : b.kd.txt = false → b.ls = []) (h3 : ∀ l ∈ b.ls, LnB m' l) (h4 : m' = m + manyLs b.ls) : BlB (bs ++ [b]) m' := by
  refine ⟨fun c hc => ?_, fun c hc => ?_, fun c hc => ?_, ?_⟩
  · rcases List.mem_append.mp hc with hc | hc
    · exact h.ls c hc
    · rw [List.mem_singleton.mp hc]
      exact h1
  · rcases List.mem_append.mp hc with hc | hc
    · exact h.nt c hc
    · rw [List.mem_singleton.mp hc]
      exact h2
  · rcases List.mem_append.mp hc with hc | hc
    · exact fun l hl => (h.ln c hc l hl).mono (by omega)
    · rw [List.mem_singleton.mp hc]
      exact h3
  · have := h.sum
    unfold manyBs at this ⊢
    rw [List.map_append, List.sum_append, this, h4]
    simp
def kdL : List Kd := [.para, .para, .item, .item, .head, .float, .page, .row, .row]
theorem kd_fp (k : Kd) : inV (V.str k.str) [V.str "float", V.str "page"] = !k.txt := by cases k <;> decide +kernel
def nsOf (m k : Nat) : List Int := (List.range k).map fun i => (m : Int) + (i : Nat)
theorem rg_ns (m k : Nat) : rgV (m : Int) ((m : Int) + (k : Int)) = (nsOf m k).map V.int := by
  unfold rgV nsOf
  rw [List.map_map, show ((m : Int) + k - m).toNat = k by omega]
  rfl
theorem nm_at {v : Nat} (h : v < 4) : ∃ k : Nat, ([.int 0, .int 0, .int 1, .int 2] : List V)[v]? = some (.int k) ∧ k ≤ 2 := by
  match v, h with
  | 0, _ => exact ⟨0, rfl, by omega⟩
  | 1, _ => exact ⟨0, rfl, by omega⟩
  | 2, _ => exact ⟨1, rfl, by omega⟩
  | 3, _ => exact ⟨2, rfl, by omega⟩
theorem kdL_at {v : Nat} (h : v < 9) : ∃ k : Kd, (kdL.map fun k => V.str k.str)[v]? = some (.str k.str) := by
  have h' : v < kdL.length := h
  exact ⟨kdL[v], by rw [List.getElem?_map, List.getElem?_eq_getElem h']; rfl⟩
section
variable {P : Program} {w : World} {K : PySem.W.Frag} {mg : Str → Option Value} {base : Heap}
def spLBlocks (K : PySem.W.Frag) : Sp := fun vs H Q _ => ∃ (a s : Addr) (zs : List Int) (N : Hp), vs = [.ref a] ∧ Dr N a s zs H ∧
  ∀ N' p vbs bs m H', Same N N' → Dr N' a s zs H' → N' p = some (.lst vbs) → Ls (BkAt K N') vbs bs → bs.length ≤ 9 → BlB bs m → Q (.ref p) H'
abbrev s_law_blocks : Stmt := topS 25
theorem sc_law_blocks : FnScope ["_law_draws_here", "_law_blocks_here", "_law_notes", "_law_k", "_law_kind", "_law_lines", "_law_j", "_law_many"] ["_law_draws_here"] (defScope s_law_blocks) := ⟨rfl, rfl, rfl, by decide +kernel, rfl, by decide +kernel, by decide +kernel⟩
set_option maxHeartbeats 2000000 in
theorem ok_law_blocks {f : Addr} {fd : FuncData} (F0 : Fun K "_law_blocks" "_law_blocks" s_law_blocks f fd) (T : Txt mg) (Cl_draw : Cl P w K mg base CX0 "_law_draw" 1 ["_law_draws_here", "_law_limit"] (spDraw K)) :
    FnOk P w K mg base CX0 2 f fd ["_law_draws_here"] (spLBlocks K) := by
  refine F0.ok sc_law_blocks (fun vs H Q E h => ?_) (fun cdv A outer s H vs Q E hr h => ?_)
  · obtain ⟨_, _, _, _, rfl, _⟩ := h
    rfl
  · obtain ⟨a, s0, zs, N, rfl, D, q⟩ := h
    refine ⟨_, (pss_cons (ps_set (i := 1) sc_law_blocks.nd rfl (Or.inl rfl) (pe_lst pa_nil))
      (pss_cons (ps_set (i := 2) sc_law_blocks.nd rfl (Or.inl rfl) pe_int)
      (pss_cons (ps_for PassesOwn.never rfl (pi_range1 rfl T.range (pa_cons (pe_cl Cl_draw hr (by rfl) pass0 (pa_cons (pv 0) (pa_cons pe_int pa_nil))) pa_nil)) (pg_name (i := 3) sc_law_blocks.nd rfl (Or.inl rfl))
        (pss_cons (ps_set (i := 4) sc_law_blocks.nd rfl (Or.inl rfl) (pe_ix ix_list (pe_lst (pa_cons pe_str (pa_cons pe_str (pa_cons pe_str (pa_cons pe_str (pa_cons pe_str (pa_cons pe_str (pa_cons pe_str (pa_cons pe_str (pa_cons pe_str pa_nil)))))))))) (pe_cl Cl_draw hr (by rfl) pass0 (pa_cons (pv 0) (pa_cons pe_int pa_nil))) (fun _ _ => rfl)))
        (pss_cons (ps_if (pt_cmpR op_in_seq (pv 4) (pe_lst (pa_cons pe_str (pa_cons pe_str pa_nil))) (by rfl))
          (pss_cons (ps_expr (pe_bm PySem.F.plainAttrs_list PySem.F.slot_list_append PySem.F.type_list_append mt_append (pv 1) (pa_cons (pe_tup (pa_cons (pv 4) pa_nil)) pa_nil)))
          (pss_one ps_continue))
          pss_nil)
        (pss_cons (ps_set (i := 5) sc_law_blocks.nd rfl (Or.inl rfl) (pe_lst pa_nil))
        (pss_cons (ps_for PassesOwn.never rfl (pi_range1 rfl T.range (pa_cons (pe_op op_add pe_int (pe_cl Cl_draw hr (by rfl) pass0 (pa_cons (pv 0) (pa_cons pe_int pa_nil)))) pa_nil)) (pg_name (i := 6) sc_law_blocks.nd rfl (Or.inl rfl))
          (pss_cons (ps_set (i := 7) sc_law_blocks.nd rfl (Or.inl rfl) (pe_ix ix_list (pe_lst (pa_cons pe_int (pa_cons pe_int (pa_cons pe_int (pa_cons pe_int pa_nil))))) (pe_cl Cl_draw hr (by rfl) pass0 (pa_cons (pv 0) (pa_cons pe_int pa_nil))) (fun _ _ => rfl)))
          (pss_cons (ps_expr (pe_bm PySem.F.plainAttrs_list PySem.F.slot_list_append PySem.F.type_list_append mt_append (pv 5) (pa_cons (pe_tup (pa_cons (pe_op op_add pe_int (pe_cl Cl_draw hr (by rfl) pass0 (pa_cons (pv 0) (pa_cons pe_int pa_nil)))) (pa_cons (pe_cl Cl_draw hr (by rfl) pass0 (pa_cons (pv 0) (pa_cons pe_int pa_nil))) (pa_cons (pe_tupRg rfl rfl T.tuple (prg_2 rfl T.range (pv 2) (pe_op op_add (pv 2) (pv 7)))) (pa_cons (pe_cmpR op_eq (pe_cl Cl_draw hr (by rfl) pass0 (pa_cons (pv 0) (pa_cons pe_int pa_nil))) pe_int (nomark _)) pa_nil))))) pa_nil)))
          (pss_one (ps_set (i := 2) sc_law_blocks.nd rfl (Or.inl rfl) (pe_op op_add (pv 2) (pv 7)))))))
        (pss_one (ps_expr (pe_bm PySem.F.plainAttrs_list PySem.F.slot_list_append PySem.F.type_list_append mt_append (pv 1) (pa_cons (pe_tup (pa_cons (pv 4) (pa_cons (pv 5) pa_nil))) pa_nil)))))))))
      (pss_one (ps_ret (pv 1)))))), ?_⟩
    try dsimp only [cxOf, L2.Cx.nox, L2.Cx.wish]
    walk_at "st"
    intro pb npb
    obtain ⟨D1, npbN, hpa⟩ := D.new (o := .lst []) npb
    have Z1 : Bz N pb [] a s0 zs (upd H pb (.lst [])) := ⟨npbN, D1⟩
    have hpbs := Z1.pbs ⟨_, D.scr⟩
    generalize upd H pb (.lst []) = H1 at Z1
    clear D1
    walk_at "st"
    walk_at "st"
    refine s_forR1 ?_
    walk_at "go"
    refine ⟨a, s0, zs, _, _, rfl, Z1.dr, by decide, by decide, fun v1 H2 hv1 D2 => ?_⟩
    have Z2 := Z1.keep D2
    walk_at "go"
    have e62 : (2 : Int) ^ 62 = 4611686018427387904 := by decide
    refine ⟨v1, rfl, by omega, by omega, for_it walk_range (fun i σ' H' => ∃ m : Nat, ∃ v3 v4 v5 v6 v7 M vbs bs, σ' = [some (.ref a), some (.ref pb), some (.int m), v3, v4, v5, v6, v7] ∧ Same N M ∧ Bz M pb vbs a s0 zs H' ∧ Ls (BkAt K M) vbs bs ∧ bs.length ≤ i ∧ BlB bs m ∧ m ≤ 10 * i)
      ⟨0, _, _, _, _, _, N, [], [], rfl, Same.refl _, Z2, .nil, Nat.le_refl _, ⟨fun _ h => (by cases h), fun _ h => (by cases h), fun _ h => (by cases h), rfl⟩, Nat.zero_le _⟩ (fun _ _ _ _ _ => trivial) ?_ ?_⟩
    · rintro i y σ' H3' H3 hi ⟨m, v3, v4, v5, v6, v7, M, vbs, bs, rfl, sM, Z3, hbs, hbl, B3, hm3⟩ ⟨rfl, rfl⟩
      walk_at "st"
      intro pk npk
      obtain ⟨Z4, nk⟩ := Z3.new (o := .lst (kdL.map fun k => V.str k.str)) npk
      have s4 : Same M (upd M pk (.lst (kdL.map fun k => V.str k.str))) := Same.new nk
      have hk4 : upd M pk (.lst (kdL.map fun k => V.str k.str)) pk = some (.lst (kdL.map fun k => V.str k.str)) := upd_same
      generalize hM4 : upd M pk (.lst (kdL.map fun k => V.str k.str)) = M4 at Z4 s4 hk4
      walk_at "go"
      refine ⟨a, s0, zs, _, _, rfl, Z4.dr, by decide, by decide, fun v5' H5 hv5 D5 => ?_⟩
      have Z5 := Z4.keep D5
      obtain ⟨kd, hkd⟩ := kdL_at (v := v5') (by omega)
      walk_at "go"
      refine s_ixL (w := .str kd.str) (SqL.of (Z5.get hk4)) (atI_nat (j := v5') hkd) ?_
      walk_at "st"
      intro pf npf
      obtain ⟨Z6, nf⟩ := Z5.new (o := .lst [.str "float", .str "page"]) npf
      have s6 : Same M4 (upd M4 pf (.lst [.str "float", .str "page"])) := Same.new nf
      have hf6 : upd M4 pf (.lst [.str "float", .str "page"]) pf = some (.lst [.str "float", .str "page"]) := upd_same
      generalize upd M4 pf (.lst [.str "float", .str "page"]) = M6 at Z6 s6 hf6
      generalize upd H5 pf (.lst [.str "float", .str "page"]) = H6 at Z6
      have sM6 := s4.trans s6
      have hbs6 := hbs.mono fun _ _ z => BkAt.mono sM6 z
      walk_at "go"
      refine s_inL (SqL.of (Z6.get hf6)) rfl rfl ?_
      rw [kd_fp]
      walk_at "go"
      cases hkt : kd.txt with
      | false =>
        refine s_ifT (by rfl) ?_
        have h6b := Z6.at
        walk_at "st"
        intro t nt
        obtain ⟨Z7, ntM⟩ := Z6.new (o := .tup [.str kd.str]) nt
        have s7 : Same M6 (upd M6 t (.tup [.str kd.str])) := Same.new ntM
        have ht7 : upd M6 t (.tup [.str kd.str]) t = some (.tup [.str kd.str]) := upd_same
        generalize upd M6 t (.tup [.str kd.str]) = M7 at Z7 s7 ht7
        generalize upd H6 t (.tup [.str kd.str]) = H7 at Z7
        walk_at "go"
        have hln := hbs.len
        refine s_append Z7.at (by rw [Int.toNat_natCast] at hi; omega) ?_
        walk_at "go"
        refine ⟨m, _, _, _, _, _, M7, _, bs ++ [⟨kd, []⟩], rfl, sM.trans (sM6.trans s7), Z7.app hpbs, (hbs6.mono fun _ _ z => BkAt.mono s7 z).snoc ⟨fun h => ?_, fun _ => ⟨t, rfl, SqT.of ht7⟩⟩, by rw [List.length_append, List.length_singleton]; omega,
          B3.snoc (fun h => ?_) (fun _ => rfl) (fun l hl => by cases hl) rfl, by omega⟩
        · rw [hkt] at h
          cases h
        · rw [hkt] at h
          cases h
      | true =>
        refine s_ifF (by rfl) ?_
        walk_at "st"
        intro pq npq
        obtain ⟨Z7, nq⟩ := Z6.new (o := .lst []) npq
        have s7 : Same M6 (upd M6 pq (.lst [])) := Same.new nq
        have hqs : pq ≠ s0 := fun e => by
          have := Z6.get (sM6 _ _ (sM _ _ D.scr))
          rw [← e, npq] at this
          cases this
        have hpqb : pq ≠ pb := (ne_of_none Z6.at npq).symm
        have hq7 : upd M6 pq (.lst []) pq = some (.lst []) := upd_same
        generalize upd M6 pq (.lst []) = M7 at Z7 s7 hq7
        generalize upd H6 pq (.lst []) = H7 at Z7
        walk_at "st"
        refine s_forR1 ?_
        walk_at "go"
        refine ⟨a, s0, zs, _, _, rfl, Z7.dr, by decide, by decide, fun v2 H8 hv2 D8 => ?_⟩
        have Z8 := Z7.keep D8
        walk_at "go"
        have e1 : ((1 : Int) + v2).toNat = v2 + 1 := by omega
        refine ⟨_, rfl, by omega, by omega, ?_⟩
        rw [e1]
        refine for_it walk_range (fun j σ' H' => ∃ m' : Nat, ∃ v6 v7 M' vls ls, σ' = [some (.ref a), some (.ref pb), some (.int m'), some (.int (0 + (i : Int))), some (.str kd.str), some (.ref pq), v6, v7] ∧ Same M6 M' ∧ Bz M' pb vbs a s0 zs H' ∧ M' pq = some (.lst vls) ∧ Ls (LnAt K M') vls ls ∧ ls.length = j ∧ m' = m + manyLs ls ∧ (∀ l ∈ ls, LnB m' l) ∧ m' ≤ m + 2 * j)
          ⟨m, _, _, M7, [], [], rfl, s7, Z8, hq7, .nil, rfl, rfl, fun l hl => (by cases hl), by omega⟩ (fun _ _ _ _ _ => trivial) ?_ ?_
        · rintro j y σ' H9' H9 hj ⟨m9, v6, v7, M9, vls, ls, rfl, s9, Z9, hq9, hls, hlj, hm9, hlb, hm10'⟩ ⟨rfl, rfl⟩
          walk_at "st"
          intro pm npm
          obtain ⟨Z10, nm⟩ := Z9.new (o := .lst [.int 0, .int 0, .int 1, .int 2]) npm
          have s10 : Same M9 (upd M9 pm (.lst [.int 0, .int 0, .int 1, .int 2])) := Same.new nm
          have hm10 : upd M9 pm (.lst [.int 0, .int 0, .int 1, .int 2]) pm = some (.lst [.int 0, .int 0, .int 1, .int 2]) := upd_same
          generalize upd M9 pm (.lst [.int 0, .int 0, .int 1, .int 2]) = M10 at Z10 s10 hm10
          generalize upd H9 pm (.lst [.int 0, .int 0, .int 1, .int 2]) = H10 at Z10
          walk_at "go"
          refine ⟨a, s0, zs, _, _, rfl, Z10.dr, by decide, by decide, fun w1 H11 hw1 D11 => ?_⟩
          have Z11 := Z10.keep D11
          obtain ⟨kk, hkk, hk2⟩ := nm_at (v := w1) (by omega)
          walk_at "go"
          refine s_ixL (w := .int kk) (SqL.of (Z11.get hm10)) (atI_nat (j := w1) hkk) ?_
          have h11q := Z11.get (s10 _ _ hq9)
          walk_at "st"
          refine ⟨a, s0, zs, _, _, rfl, Z11.dr, by decide, by decide, fun w2 H12 hw2 D12 => ?_⟩
          have Z12 := Z11.keep D12
          walk_at "go"
          refine ⟨a, s0, zs, _, _, rfl, Z12.dr, by decide, by decide, fun w3 H13 hw3 D13 => ?_⟩
          have Z13 := Z12.keep D13
          walk_at "go"
          refine s_tupRg (s_rg2 ?_)
          walk_at "go"
          refine ⟨_, _, rfl, rfl, ?_, fun tn ntn => ?_⟩
          · have e2 : (2 : Nat) ^ 24 = 16777216 := by decide
            unfold RgOk
            rw [e62, e2]
            rw [Int.toNat_natCast] at hi
            exact ⟨by omega, by omega, by omega, by omega, by omega⟩
          rw [rg_ns]
          obtain ⟨Z14, ntM⟩ := Z13.new (o := .tup ((nsOf m9 kk).map V.int)) ntn
          have s14 : Same M10 (upd M10 tn (.tup ((nsOf m9 kk).map V.int))) := Same.new ntM
          have ht14 : upd M10 tn (.tup ((nsOf m9 kk).map V.int)) tn = some (.tup ((nsOf m9 kk).map V.int)) := upd_same
          generalize upd M10 tn (.tup ((nsOf m9 kk).map V.int)) = M14 at Z14 s14 ht14
          generalize upd H13 tn (.tup ((nsOf m9 kk).map V.int)) = H14 at Z14
          walk_at "go"
          refine ⟨a, s0, zs, _, _, rfl, Z14.dr, by decide, by decide, fun w4 H15 hw4 D15 => ?_⟩
          have Z15 := Z14.keep D15
          walk_at "go"
          intro tl ntl
          obtain ⟨Z16, ntlM⟩ := Z15.new (o := .tup [.int (1 + w2), .int w3, .ref tn, .bl (decide (V.int w4 = V.int 0))]) ntl
          have s16 : Same M14 (upd M14 tl (.tup [.int (1 + w2), .int w3, .ref tn, .bl (decide (V.int w4 = V.int 0))])) := Same.new ntlM
          have ht16 : upd M14 tl (.tup [.int (1 + w2), .int w3, .ref tn, .bl (decide (V.int w4 = V.int 0))]) tl = some (.tup [.int (1 + w2), .int w3, .ref tn, .bl (decide (V.int w4 = V.int 0))]) := upd_same
          generalize upd M14 tl (.tup [.int (1 + w2), .int w3, .ref tn, .bl (decide (V.int w4 = V.int 0))]) = M16 at Z16 s16 ht16
          generalize upd H15 tl (.tup [.int (1 + w2), .int w3, .ref tn, .bl (decide (V.int w4 = V.int 0))]) = H16 at Z16
          have s916 := s10.trans (s14.trans s16)
          have hq16 := s916 _ _ hq9
          walk_at "go"
          have hln := hls.len
          refine s_append (Z16.get hq16) (by rw [hln]; omega) ?_
          have t17 : TSm M16 (upd M16 pq (.lst (vls ++ [.ref tl]))) := TSm.lst hq16
          walk_at "go"
          refine ⟨m9 + kk, _, _, _, _, ls ++ [⟨1 + w2, w3, nsOf m9 kk, decide (V.int w4 = V.int 0)⟩], rfl, (s9.trans s916).put nq, Z16.put hq16 hqs, upd_same, (hls.mono fun _ _ z => z.mono ((TSm.of s916).trans t17)).snoc ⟨.ref tn, IsT.mono t17 ⟨tl, rfl, SqT.of ht16⟩, IsT.mono t17 ⟨tn, rfl, SqT.of (s16 _ _ ht14)⟩⟩,
            by rw [List.length_append, List.length_singleton, hlj], ?_, fun l hl => ?_, by omega⟩
          · unfold manyLs at hm9 ⊢
            rw [List.map_append, List.sum_append, hm9]
            simp [nsOf]
            omega
          · rcases List.mem_append.mp hl with hl | hl
            · exact (hlb l hl).mono (by omega)
            · rw [List.mem_singleton.mp hl]
              refine ⟨?_, ?_, ?_, fun n hn => ?_⟩
              · show (1 : Int) ≤ 1 + w2 ∧ (1 : Int) + w2 ≤ 9
                omega
              · show (0 : Int) ≤ w3 ∧ (w3 : Int) ≤ 3
                omega
              · show (nsOf m9 kk).length ≤ 2
                unfold nsOf
                rw [List.length_map, List.length_range]
                exact hk2
              · obtain ⟨j, hj, rfl⟩ := List.mem_map.mp hn
                rw [List.mem_range] at hj
                omega
        · rintro σ' H9 ⟨m9, v6, v7, M9, vls, ls, rfl, s9, Z9, hq9, hls, hlj, hm9, hlb, hm10'⟩
          have h9b := Z9.at
          dsimp only
          walk_at "go"
          intro t nt
          obtain ⟨Z10, ntM⟩ := Z9.new (o := .tup [.str kd.str, .ref pq]) nt
          have s10 : Same M9 (upd M9 t (.tup [.str kd.str, .ref pq])) := Same.new ntM
          have ht10 : upd M9 t (.tup [.str kd.str, .ref pq]) t = some (.tup [.str kd.str, .ref pq]) := upd_same
          generalize upd M9 t (.tup [.str kd.str, .ref pq]) = M10 at Z10 s10 ht10
          generalize upd H9 t (.tup [.str kd.str, .ref pq]) = H10 at Z10
          walk_at "go"
          have hln := hbs.len
          refine s_append Z10.at (by rw [Int.toNat_natCast] at hi; omega) ?_
          walk_at "go"
          have s610 := s9.trans s10
          refine ⟨m9, _, _, _, _, _, M10, _, bs ++ [⟨kd, ls⟩], rfl, sM.trans (sM6.trans s610), Z10.app hpbs, (hbs6.mono fun _ _ z => BkAt.mono s610 z).snoc ⟨fun _ => ⟨.ref pq, ⟨t, rfl, SqT.of ht10⟩, pq, vls, rfl, SqL.of (s10 _ _ hq9), hls.mono fun _ _ z => z.mono (TSm.of s10)⟩, fun h => ?_⟩, by rw [List.length_append, List.length_singleton]; omega,
            B3.snoc (fun _ => ⟨fun h => ?_, ?_⟩) (fun h => ?_) hlb hm9, by omega⟩
          · rw [hkt] at h
            cases h
          · have h' : ls = [] := h
            rw [h'] at hlj
            cases hlj
          · show ls.length ≤ 5
            omega
          · rw [hkt] at h
            cases h
    · rintro σ' H3 ⟨m, v3, v4, v5, v6, v7, M, vbs, bs, rfl, sM, Z3, hbs, hbl, B3, hm3⟩
      walk_at "go"
      exact q (upd M pb (.lst vbs)) pb vbs bs m H3 (sM.put npbN) Z3.dr upd_same (hbs.mono fun _ _ z => BkAt.mono (Same.new Z3.off) z) (by rw [Int.toNat_natCast] at hbl; omega) B3
end
end G
/-! The law's reading of blocks: gap_of, high. -/
namespace G
open PySem L2
/-- goes on through a reading as far as it decides itself -/
local macro_rules | `(tactic| walk_at "fact") => `(tactic| first | assumption | ((refine tnew ?_ ?_); assumption; (first | assumption | ((refine tnew ?_ ?_); assumption; (first | assumption | ((refine tnew ?_ ?_); assumption; assumption))))) | ((refine tsame ?_ ?_); assumption; assumption))
local macro_rules | `(tactic| walk_at "go1") => `(tactic| first
  | with_reducible refine s_op ?_ | ((with_reducible refine s_var (v := ?v) ?e ?_); (case e => rfl)) | with_reducible refine s_c ?_
  | with_reducible refine s_cb ?_ | with_reducible refine s_cons ?_ | with_reducible refine s_nil ?_ | with_reducible refine s_ret ?_ | with_reducible refine s_asg ?_ | with_reducible refine s_gname ?_
  | with_reducible refine s_ifS ?_ | with_reducible refine s_test ?_ | with_reducible refine s_B ?_ | with_reducible refine s_bl ?_ | with_reducible refine s_and ?_ | with_reducible refine s_or ?_ | with_reducible refine s_not ?_ | with_reducible refine s_if ?_
  | with_reducible refine s_un ?_ | with_reducible refine s_U ?_ | with_reducible refine s_drop ?_ | with_reducible refine s_next ?_ | with_reducible refine s_tup ?_ | with_reducible refine s_lst ?_ | with_reducible refine s_call ?_ | with_reducible refine s_dget ?_
  | ((with_reducible refine s_len ?h ?_); (case h => rfl)) | with_reducible refine s_notN ?_ | with_reducible refine s_isN ?_ | with_reducible refine s_yes ?_ | with_reducible refine s_fld ?_ | with_reducible refine s_meth ?_ | with_reducible refine s_andV ?_ | with_reducible refine s_orV ?_ | with_reducible refine s_gsub ?_ | with_reducible refine s_chain ?_ | with_reducible refine s_chain3 ?_ | with_reducible refine s_sl ?_ | with_reducible refine s_part ?_ | with_reducible refine s_noPart ?_ | with_reducible refine s_exI ?_ | with_reducible refine s_bm ?_ | ((with_reducible refine s_tyL (xs := ?xs) ?h ?_); (case h => assumption)) | with_reducible refine s_gcons ?_ | with_reducible refine s_gnil ?_ | with_reducible refine s_brk ?_ | with_reducible refine s_cont ?_
  | ((with_reducible refine s_ixT (xs := ?xs) (w := ?w) ?h ?e ?_); (case h => walk_at "fact"); (case e => rfl))
  | with_reducible refine s_max2 ?_ | with_reducible refine s_min2 ?_ | with_reducible refine s_intI ?_ | with_reducible refine s_intB ?_ | with_reducible refine s_I0 ?_ | with_reducible refine s_eqI ?_ | with_reducible refine s_eqS ?_ | with_reducible refine s_neI ?_)
local macro_rules | `(tactic| walk_at "go") => `(tactic| repeat walk_at "go1")
/-- the next statement -/
local macro_rules | `(tactic| walk_at "st") => `(tactic| (walk_at "go"; (with_reducible refine s_seq ?_); walk_at "go"))
/-- the next statement, cut off by a word -/
local macro_rules | `(tactic| walk_at "cut") => `(tactic| with_reducible refine s_cut ?_ ?_ ?_)
/-- a line, by its block and its place there -/
abbrev Lr := Nat × Nat
def bkOf (bs : List Bk) (u : Lr) : Bk := bs.getD u.1 dBk
def lnOf (bs : List Bk) (u : Lr) : Ln := (bkOf bs u).ls.getD u.2 dLn
def VL (bs : List Bk) (u : Lr) : Prop := u.1 < bs.length ∧ (bkOf bs u).kd.txt = true ∧ u.2 < (bkOf bs u).ls.length
def lawName (u l : Kd) : Gn := if l = .head then .above else if u = .head then .below else if u = l ∧ u ≠ .para then .item else .para
def gapOf (F : Fw) (bs : List Bk) (u v : Lr) : Int × Int :=
  if u.1 = v.1 then (lineGap F (lnOf bs u) (lnOf bs v), 0) else (lineGap F (lnOf bs u) (lnOf bs v) + (F.gap (lawName (bkOf bs u).kd (bkOf bs v).kd)).h, (F.gap (lawName (bkOf bs u).kd (bkOf bs v).kd)).k)
section
variable {P : Program} {w : World} {K : PySem.W.Frag} {mg : Str → Option Value} {base : Heap}
def LrAt (K : PySem.W.Frag) (H : Hp) (v : V) (u : Lr) : Prop := IsT K H v [.int u.1, .int u.2]
theorem bk_get {H : Hp} {vbs : List V} {bs : List Bk} {b : Nat} (h : Ls (BkAt K H) vbs bs) (hb : b < bs.length) : ∃ v, vbs[b]? = some v ∧ BkAt K H v (bs.getD b dBk) := by
  obtain ⟨v, h1, h2⟩ := h.get (getD_at (d := dBk) hb)
  exact ⟨v, h1, h2⟩
theorem ln_get {H : Hp} {q : V} {ls : List Ln} {l : Nat} (h : LsAt K H q ls) (hl : l < ls.length) : ∃ p vls v, q = .ref p ∧ SqL K H p vls ∧ vls[l]? = some v ∧ LnAt K H v (ls.getD l dLn) := by
  obtain ⟨p, vls, e, h1, h2⟩ := h
  obtain ⟨v, h3, h4⟩ := h2.get (getD_at (d := dLn) hl)
  exact ⟨p, vls, v, e, h1, h3, h4⟩
/-- what stands at a line -/
theorem vl_get {H : Hp} {vbs : List V} {bs : List Bk} {u : Lr} (h : Ls (BkAt K H) vbs bs) (hu : VL bs u) : ∃ vb pq vls vl, vbs[u.1]? = some vb ∧ IsT K H vb [.str (bkOf bs u).kd.str, .ref pq] ∧ SqL K H pq vls ∧ vls[u.2]? = some vl ∧ LnAt K H vl (lnOf bs u) ∧ vls.length = (bkOf bs u).ls.length := by
  obtain ⟨vb, h1, h2⟩ := bk_get h hu.1
  obtain ⟨q, h3, p, vls, rfl, h5, h6⟩ := h2.1 hu.2.1
  obtain ⟨v, h7, h8⟩ := h6.get (getD_at (d := dLn) hu.2.2)
  exact ⟨vb, p, vls, v, h1, h3, h5, h7, h8, h6.len⟩
def spGapOf (K : PySem.W.Frag) : Sp := fun vs H Q _ => ∃ (vf vu vv : V) (pb : Addr) (F : Fw) (g c : Addr) (vbs : List V) (bs : List Bk) (u v : Lr), vs = [vf, .ref pb, vu, vv] ∧ FwAt K H vf F g c ∧ SqL K H pb vbs ∧ Ls (BkAt K H) vbs bs ∧ LrAt K H vu u ∧ LrAt K H vv v ∧ VL bs u ∧ VL bs v ∧
  ∀ p H', Same H H' → IsT K H' p [.int (gapOf F bs u v).1, .int (gapOf F bs u v).2] → Q p H'
theorem kd_ne_para (k : Kd) : (!decide (V.str k.str = V.str "para")) = !decide (k = .para) := by rw [kd_para]
theorem s_par {i j : Nat} {ta : TA} {D : L2.Ends} {σ : L2.St} {H : Hp} (h : ta σ H fun vs H1 => ∃ v w, vs = [v, w] ∧ D.nx ((σ.set i (some v)).set j (some w)) H1) : tPar i j ta D σ H := h
abbrev s_law_gap_of : Stmt := topS 26
theorem sc_law_gap_of : FnScope ["_law_flow_here", "_law_blocks_here", "_law_upper", "_law_lower", "_law_one", "_law_two", "_law_above", "_law_below", "_law_between", "_law_name"] ["_law_flow_here", "_law_blocks_here", "_law_upper", "_law_lower"] (defScope s_law_gap_of) := ⟨rfl, rfl, rfl, by decide +kernel, rfl, by decide +kernel, by decide +kernel⟩
set_option maxHeartbeats 1000000 in
theorem ok_law_gap_of {f : Addr} {fd : FuncData} (F0 : Fun K "_law_gap_of" "_law_gap_of" s_law_gap_of f fd) (T : Txt mg) : FnOk P w K mg base CX0 1 f fd ["_law_flow_here", "_law_blocks_here", "_law_upper", "_law_lower"] (spGapOf K) := by
  refine F0.ok sc_law_gap_of (fun vs H Q E h => ?_) (fun cdv A outer s H vs Q E hr h => ?_)
  · obtain ⟨_, _, _, _, _, _, _, _, _, _, _, rfl, _⟩ := h
    rfl
  · obtain ⟨vf, vu, vv, pb, F, g, c, vbs, bs, u, v, rfl, hF, hS, hB, hu, hv, Vu, Vv, q⟩ := h
    have hu' := hu_of hr
    obtain ⟨vb1, pq1, vls1, vl1, a1, a2, a3, a4, ⟨n1, a5, _⟩, _⟩ := vl_get hB Vu
    obtain ⟨vb2, pq2, vls2, vl2, b1, b2, b3, b4, ⟨n2, b5, _⟩, _⟩ := vl_get hB Vv
    have hT := hF.tup
    have hu0 : IsT K H vu [.int u.1, .int u.2] := hu
    have hv0 : IsT K H vv [.int v.1, .int v.2] := hv
    have hu := hu'
    refine ⟨_, (pss_cons (ps_par (i := 4) (j := 5) rfl sc_law_gap_of.nd rfl rfl (by decide) rfl rfl (pa_cons (pe_ix ix_list (pv 1) (pe_ix ix_tup (pv 2) pe_int (fun _ _ => rfl)) (fun _ _ => rfl)) (pa_cons (pe_ix ix_list (pv 1) (pe_ix ix_tup (pv 3) pe_int (fun _ _ => rfl)) (fun _ _ => rfl)) pa_nil)) (by rfl))
      (pss_cons (ps_par (i := 6) (j := 7) rfl sc_law_gap_of.nd rfl rfl (by decide) rfl rfl (pa_cons (pe_ix ix_list (pe_ix ix_tup (pv 4) pe_int (fun _ _ => rfl)) (pe_ix ix_tup (pv 2) pe_int (fun _ _ => rfl)) (fun _ _ => rfl)) (pa_cons (pe_ix ix_list (pe_ix ix_tup (pv 5) pe_int (fun _ _ => rfl)) (pe_ix ix_tup (pv 3) pe_int (fun _ _ => rfl)) (fun _ _ => rfl)) pa_nil)) (by rfl))
      (pss_cons (ps_set (i := 8) sc_law_gap_of.nd rfl (Or.inl rfl) (pe_callB (c_max2 rfl) (by rfl) T.max (by decide +kernel) (pa_cons (pe_ix ix_tup (pv 0) pe_int (fun _ _ => rfl)) (pa_cons (pe_op op_sub (pe_op op_sub (pe_ix ix_tup (pv 0) pe_int (fun _ _ => rfl)) (pe_ix ix_tup (pv 6) pe_int (fun _ _ => rfl))) (pe_ix ix_tup (pv 7) pe_int (fun _ _ => rfl))) pa_nil))))
      (pss_cons (ps_if (pt_cmpR op_eq (pe_ix ix_tup (pv 2) pe_int (fun _ _ => rfl)) (pe_ix ix_tup (pv 3) pe_int (fun _ _ => rfl)) (nomark _))
        (pss_one (ps_ret (pe_tup (pa_cons (pv 8) (pa_cons pe_int pa_nil)))))
        pss_nil)
      (pss_cut (ps_set (i := 9) sc_law_gap_of.nd rfl (Or.inl rfl) (pe_ifExp (pt_cmpR op_eq (pe_ix ix_tup (pv 5) pe_int (fun _ _ => rfl)) pe_str (nomark _)) pe_str (pe_ifExp (pt_cmpR op_eq (pe_ix ix_tup (pv 4) pe_int (fun _ _ => rfl)) pe_str (nomark _)) pe_str (pe_ifExp (PW.pt (pw_and (pt_cmpR op_eq (pe_ix ix_tup (pv 4) pe_int (fun _ _ => rfl)) (pe_ix ix_tup (pv 5) pe_int (fun _ _ => rfl)) (nomark _)) (pw_and1 (pt_cmpR op_ne (pe_ix ix_tup (pv 4) pe_int (fun _ _ => rfl)) pe_str (nomark _))))) pe_str pe_str))))
      (pss_one (ps_ret (pe_tup (pa_cons (pe_op op_add (pv 8) (pe_ix ix_tup (pe_dget hu (pe_ix ix_tup (pv 0) pe_int (fun _ _ => rfl)) (pv 9) (fun _ _ => rfl)) pe_int (fun _ _ => rfl))) (pa_cons (pe_ix ix_tup (pe_dget hu (pe_ix ix_tup (pv 0) pe_int (fun _ _ => rfl)) (pv 9) (fun _ _ => rfl)) pe_int (fun _ _ => rfl)) pa_nil)))))))))), ?_⟩
    try dsimp only [cxOf, L2.Cx.nox, L2.Cx.wish]
    walk_at "st"
    refine s_par ?_
    walk_at "go"
    refine s_ixL (w := vb1) hS (atI_nat (j := u.1) a1) ?_
    walk_at "go"
    refine s_ixL (w := vb2) hS (atI_nat (j := v.1) b1) ?_
    walk_at "go"
    refine ⟨_, _, rfl, ?_⟩
    walk_at "st"
    refine s_par ?_
    walk_at "go"
    refine s_ixL (w := vl1) a3 (atI_nat (j := u.2) a4) ?_
    walk_at "go"
    refine s_ixL (w := vl2) b3 (atI_nat (j := v.2) b4) ?_
    walk_at "go"
    refine ⟨_, _, rfl, ?_⟩
    walk_at "st"
    have eL : (if F.lead - (lnOf bs u).d - (lnOf bs v).h > F.least then F.lead - (lnOf bs u).d - (lnOf bs v).h else F.least) = lineGap F (lnOf bs u) (lnOf bs v) := rfl
    walk_at "st"
    by_cases e : u.1 = v.1
    · refine s_ifT (by rw [e]; exact decide_eq_true rfl) ?_
      walk_at "go"
      intro p np
      refine q _ _ (Same.new np) ⟨p, rfl, SqT.of ?_⟩
      unfold gapOf
      rw [if_pos e, upd_same]
      rfl
    · refine s_ifF (decide_eq_false fun h => e (by have h' := V.int.inj h; omega)) ?_
      walk_at "go"
      refine s_cut (fun σ' H' => σ' = [some vf, some (.ref pb), some vu, some vv, some vb1, some vb2, some vl1, some vl2, some (.int (lineGap F (lnOf bs u) (lnOf bs v))), some (.str (lawName (bkOf bs u).kd (bkOf bs v).kd).str)] ∧ H = H') ?_ ?_
      · walk_at "go"
        rw [kd_head]
        unfold lawName
        by_cases h1 : (bkOf bs v).kd = .head
        · refine s_ifT (decide_eq_true h1) ?_
          walk_at "go"
          rw [if_pos h1]
          exact ⟨rfl, rfl⟩
        refine s_ifF (decide_eq_false h1) ?_
        rw [if_neg h1]
        walk_at "go"
        rw [kd_head]
        by_cases h2 : (bkOf bs u).kd = .head
        · refine s_ifT (decide_eq_true h2) ?_
          walk_at "go"
          rw [if_pos h2]
          exact ⟨rfl, rfl⟩
        refine s_ifF (decide_eq_false h2) ?_
        rw [if_neg h2]
        walk_at "go"
        rw [kd_kd]
        by_cases h3 : (bkOf bs u).kd = (bkOf bs v).kd
        · refine s_ifT (decide_eq_true h3) ?_
          walk_at "go"
          refine s_neS ?_
          walk_at "go"
          rw [kd_para]
          by_cases h4 : (bkOf bs u).kd = .para
          · refine s_ifF (by rw [decide_eq_true h4]; rfl) ?_
            walk_at "go"
            rw [if_neg (fun z => z.2 h4)]
            exact ⟨rfl, rfl⟩
          · refine s_ifT (by rw [decide_eq_false h4]; rfl) ?_
            walk_at "go"
            rw [if_pos ⟨h3, h4⟩]
            exact ⟨rfl, rfl⟩
        · refine s_ifF (decide_eq_false h3) ?_
          walk_at "go"
          refine s_ifF (by rfl) ?_
          walk_at "go"
          rw [if_neg (fun z => h3 z.1)]
          exact ⟨rfl, rfl⟩
      rintro σ' H1 ⟨rfl, rfl⟩
      obtain ⟨ug, hug, hgg⟩ := hF.gap (lawName (bkOf bs u).kd (bkOf bs v).kd)
      have hgg' : IsT K H ug _ := hgg
      walk_at "go"
      refine s_dgot hug ?_
      walk_at "go"
      refine s_dgot hug ?_
      walk_at "go"
      intro p np
      refine q _ _ (Same.new np) ⟨p, rfl, SqT.of ?_⟩
      unfold gapOf
      rw [if_neg e, upd_same]
end
end G
/-! The law's reading of blocks: high. -/
namespace G
open PySem L2
/-- goes on through a reading as far as it decides itself -/
local macro_rules | `(tactic| walk_at "fact") => `(tactic| first | assumption | ((refine tnew ?_ ?_); assumption; (first | assumption | ((refine tnew ?_ ?_); assumption; (first | assumption | ((refine tnew ?_ ?_); assumption; assumption))))) | ((refine tsame ?_ ?_); assumption; assumption))
local macro_rules | `(tactic| walk_at "go1") => `(tactic| first
  | with_reducible refine s_op ?_ | ((with_reducible refine s_var (v := ?v) ?e ?_); (case e => rfl)) | with_reducible refine s_c ?_
  | with_reducible refine s_cb ?_ | with_reducible refine s_cons ?_ | with_reducible refine s_nil ?_ | with_reducible refine s_ret ?_ | with_reducible refine s_asg ?_ | with_reducible refine s_gname ?_
  | with_reducible refine s_ifS ?_ | with_reducible refine s_test ?_ | with_reducible refine s_B ?_ | with_reducible refine s_bl ?_ | with_reducible refine s_and ?_ | with_reducible refine s_or ?_ | with_reducible refine s_not ?_ | with_reducible refine s_if ?_
  | with_reducible refine s_un ?_ | with_reducible refine s_U ?_ | with_reducible refine s_drop ?_ | with_reducible refine s_next ?_ | with_reducible refine s_tup ?_ | with_reducible refine s_lst ?_ | with_reducible refine s_call ?_ | with_reducible refine s_dget ?_
  | ((with_reducible refine s_len ?h ?_); (case h => rfl)) | with_reducible refine s_notN ?_ | with_reducible refine s_isN ?_ | with_reducible refine s_yes ?_ | with_reducible refine s_fld ?_ | with_reducible refine s_meth ?_ | with_reducible refine s_andV ?_ | with_reducible refine s_orV ?_ | with_reducible refine s_gsub ?_ | with_reducible refine s_chain ?_ | with_reducible refine s_chain3 ?_ | with_reducible refine s_sl ?_ | with_reducible refine s_part ?_ | with_reducible refine s_noPart ?_ | with_reducible refine s_exI ?_ | with_reducible refine s_bm ?_ | ((with_reducible refine s_tyL (xs := ?xs) ?h ?_); (case h => assumption)) | with_reducible refine s_gcons ?_ | with_reducible refine s_gnil ?_ | with_reducible refine s_brk ?_ | with_reducible refine s_cont ?_
  | ((with_reducible refine s_ixT (xs := ?xs) (w := ?w) ?h ?e ?_); (case h => walk_at "fact"); (case e => rfl))
  | with_reducible refine s_max2 ?_ | with_reducible refine s_min2 ?_ | with_reducible refine s_intI ?_ | with_reducible refine s_intB ?_ | with_reducible refine s_I0 ?_ | with_reducible refine s_eqI ?_ | with_reducible refine s_eqS ?_ | with_reducible refine s_neI ?_)
local macro_rules | `(tactic| walk_at "go") => `(tactic| repeat walk_at "go1")
/-- the next statement -/
local macro_rules | `(tactic| walk_at "st") => `(tactic| (walk_at "go"; (with_reducible refine s_seq ?_); walk_at "go"))
/-- the next statement, cut off by a word -/
local macro_rules | `(tactic| walk_at "cut") => `(tactic| with_reducible refine s_cut ?_ ?_ ?_)
def dLr : Lr := (0, 0)
def hsUp (F : Fw) (bs : List Bk) (us : List Lr) : Nat → Int × Int
  | 0 => (0, 0)
  | k + 1 => if 0 < k then ((hsUp F bs us k).1 + (lnOf bs (us.getD k dLr)).h + (lnOf bs (us.getD k dLr)).d + (gapOf F bs (us.getD (k - 1) dLr) (us.getD k dLr)).1, (hsUp F bs us k).2 + (gapOf F bs (us.getD (k - 1) dLr) (us.getD k dLr)).2)
    else ((hsUp F bs us k).1 + (lnOf bs (us.getD k dLr)).h + (lnOf bs (us.getD k dLr)).d, (hsUp F bs us k).2)
def fsUp (F : Fw) (p : Int × Int) (fs : List Int) : Int × Int := fs.foldl (fun p z => (p.1 + z + (F.gap .float).h, p.2 + (F.gap .float).k)) p
def nsUp (F : Fw) (p : Int × Int) (ns : List Int) : Int × Int := if ns = [] then p else (p.1 + ns.sum + (F.gap .note).h, p.2 + (F.gap .note).k)
def high (F : Fw) (bs : List Bk) (us : List Lr) (ns fs : List Int) : Int := (nsUp F (fsUp F (hsUp F bs us us.length) fs) ns).1 - (nsUp F (fsUp F (hsUp F bs us us.length) fs) ns).2
section
variable {P : Program} {w : World} {K : PySem.W.Frag} {mg : Str → Option Value} {base : Heap}
def spHigh (K : PySem.W.Frag) : Sp := fun vs H Q _ => ∃ (vf : V) (pb pl pn pf : Addr) (F : Fw) (g c : Addr) (vbs vls : List V) (bs : List Bk) (us : List Lr) (ns fs : List Int), vs = [vf, .ref pb, .ref pl, .ref pn, .ref pf] ∧ FwAt K H vf F g c ∧ SqL K H pb vbs ∧ Ls (BkAt K H) vbs bs ∧ SqL K H pl vls ∧ Ls (LrAt K H) vls us ∧
  (∀ u ∈ us, VL bs u) ∧ SqL K H pn (ns.map V.int) ∧ SqL K H pf (fs.map V.int) ∧ us.length ≤ 1000 ∧ ∀ H', Same H H' → Q (.int (high F bs us ns fs)) H'
theorem LrAt.mono {H H' : Hp} {v : V} {u : Lr} (t : TSm H H') (h : LrAt K H v u) : LrAt K H' v u := IsT.mono t h
abbrev s_law_high : Stmt := topS 27
theorem sc_law_high : FnScope ["_law_flow_here", "_law_blocks_here", "_law_lines", "_law_notes", "_law_floats", "_law_height", "_law_shrink", "_law_k", "_law_line", "_law_gap_here", "_law_size"] ["_law_flow_here", "_law_blocks_here", "_law_lines", "_law_notes", "_law_floats"] (defScope s_law_high) := ⟨rfl, rfl, rfl, by decide +kernel, rfl, by decide +kernel, by decide +kernel⟩
set_option maxHeartbeats 1000000 in
theorem ok_law_high {f : Addr} {fd : FuncData} (F0 : Fun K "_law_high" "_law_high" s_law_high f fd) (T : Txt mg) (Cl_gap_of : Cl P w K mg base CX0 "_law_gap_of" 1 ["_law_flow_here", "_law_blocks_here", "_law_upper", "_law_lower"] (spGapOf K)) :
    FnOk P w K mg base CX0 2 f fd ["_law_flow_here", "_law_blocks_here", "_law_lines", "_law_notes", "_law_floats"] (spHigh K) := by
  refine F0.ok sc_law_high (fun vs H Q E h => ?_) (fun cdv A outer s H vs Q E hr h => ?_)
  · obtain ⟨_, _, _, _, _, _, _, _, _, _, _, _, _, _, rfl, _⟩ := h
    rfl
  · obtain ⟨vf, pb, pl, pn, pf, F, g, c, vbs, vls, bs, us, ns, fs, rfl, hF, hS, hB, hL, hU, hV, hN, hFl, few, q⟩ := h
    have hu := hu_of hr
    have hT := hF.tup
    refine ⟨_, (pss_cons (ps_set (i := 5) sc_law_high.nd rfl (Or.inl rfl) pe_int)
      (pss_cons (ps_set (i := 6) sc_law_high.nd rfl (Or.inl rfl) pe_int)
      (pss_cons (ps_for PassesOwn.never rfl (pi_range1 rfl T.range (pa_cons (pe_callB c_len (by rfl) T.len (by decide +kernel) (pa_cons (pv 2) pa_nil)) pa_nil)) (pg_name (i := 7) sc_law_high.nd rfl (Or.inl rfl))
        (pss_cons (ps_set (i := 8) sc_law_high.nd rfl (Or.inl rfl) (pe_ix ix_list (pe_ix ix_tup (pe_ix ix_list (pv 1) (pe_ix ix_tup (pe_ix ix_list (pv 2) (pv 7) (fun _ _ => rfl)) pe_int (fun _ _ => rfl)) (fun _ _ => rfl)) pe_int (fun _ _ => rfl)) (pe_ix ix_tup (pe_ix ix_list (pv 2) (pv 7) (fun _ _ => rfl)) pe_int (fun _ _ => rfl)) (fun _ _ => rfl)))
        (pss_cons (ps_set (i := 5) sc_law_high.nd rfl (Or.inl rfl) (pe_op op_add (pe_op op_add (pv 5) (pe_ix ix_tup (pv 8) pe_int (fun _ _ => rfl))) (pe_ix ix_tup (pv 8) pe_int (fun _ _ => rfl))))
        (pss_one (ps_if (pt_cmpR op_gt (pv 7) pe_int (nomark _))
          (pss_cons (ps_set (i := 9) sc_law_high.nd rfl (Or.inl rfl) (pe_cl Cl_gap_of hr (by rfl) pass0 (pa_cons (pv 0) (pa_cons (pv 1) (pa_cons (pe_ix ix_list (pv 2) (pe_op op_sub (pv 7) pe_int) (fun _ _ => rfl)) (pa_cons (pe_ix ix_list (pv 2) (pv 7) (fun _ _ => rfl)) pa_nil))))))
          (pss_cons (ps_set (i := 5) sc_law_high.nd rfl (Or.inl rfl) (pe_op op_add (pv 5) (pe_ix ix_tup (pv 9) pe_int (fun _ _ => rfl))))
          (pss_one (ps_set (i := 6) sc_law_high.nd rfl (Or.inl rfl) (pe_op op_add (pv 6) (pe_ix ix_tup (pv 9) pe_int (fun _ _ => rfl)))))))
          pss_nil)))))
      (pss_cons (ps_for PassesOwn.never rfl (pi_list (pv 4)) (pg_name (i := 10) sc_law_high.nd rfl (Or.inl rfl))
        (pss_cons (ps_set (i := 5) sc_law_high.nd rfl (Or.inl rfl) (pe_op op_add (pe_op op_add (pv 5) (pv 10)) (pe_ix ix_tup (pe_dget hu (pe_ix ix_tup (pv 0) pe_int (fun _ _ => rfl)) pe_str (fun _ _ => rfl)) pe_int (fun _ _ => rfl))))
        (pss_one (ps_set (i := 6) sc_law_high.nd rfl (Or.inl rfl) (pe_op op_add (pv 6) (pe_ix ix_tup (pe_dget hu (pe_ix ix_tup (pv 0) pe_int (fun _ _ => rfl)) pe_str (fun _ _ => rfl)) pe_int (fun _ _ => rfl)))))))
      (pss_cut (ps_if (pt_cmpR op_gt (pe_callB c_len (by rfl) T.len (by decide +kernel) (pa_cons (pv 3) pa_nil)) pe_int (nomark _))
        (pss_cons (ps_set (i := 5) sc_law_high.nd rfl (Or.inl rfl) (pe_op op_add (pe_op op_add (pv 5) (pe_callB (cr_sum rfl) (by rfl) T.sum (by decide +kernel) (pa_cons (pv 3) pa_nil))) (pe_ix ix_tup (pe_dget hu (pe_ix ix_tup (pv 0) pe_int (fun _ _ => rfl)) pe_str (fun _ _ => rfl)) pe_int (fun _ _ => rfl))))
        (pss_one (ps_set (i := 6) sc_law_high.nd rfl (Or.inl rfl) (pe_op op_add (pv 6) (pe_ix ix_tup (pe_dget hu (pe_ix ix_tup (pv 0) pe_int (fun _ _ => rfl)) pe_str (fun _ _ => rfl)) pe_int (fun _ _ => rfl))))))
        pss_nil)
      (pss_one (ps_ret (pe_op op_sub (pv 5) (pv 6))))))))), ?_⟩
    try dsimp only [cxOf, L2.Cx.nox, L2.Cx.wish]
    walk_at "st"
    walk_at "st"
    walk_at "st"
    refine s_forR1 ?_
    walk_at "go"
    refine s_lenL hL ?_
    rw [hU.len]
    walk_at "go"
    have e62 : (2 : Int) ^ 62 = 4611686018427387904 := by decide
    refine ⟨_, rfl, by omega, by omega, ?_⟩
    rw [Int.toNat_natCast]
    refine for_it walk_range (fun i σ' H' => ∃ v7 v8 v9, σ' = [some vf, some (.ref pb), some (.ref pl), some (.ref pn), some (.ref pf), some (.int (hsUp F bs us i).1), some (.int (hsUp F bs us i).2), v7, v8, v9, none] ∧ Same H H')
      ⟨_, _, _, rfl, Same.refl _⟩ (fun _ _ _ _ _ => trivial) ?_ ?_
    · rintro i y σ' H1' H1 hi ⟨v7, v8, v9, rfl, s1⟩ ⟨rfl, rfl⟩
      have hui := getD_at (d := dLr) hi
      obtain ⟨vu, hvu, hu1⟩ := hU.get hui
      have Vu := hV _ (List.mem_of_getElem? hui)
      have hB1 := hB.mono fun _ _ z => BkAt.mono s1 z
      obtain ⟨vb1, pq1, vls1, vl1, a1, a2, a3, a4, ⟨n1, a5, _⟩, _⟩ := vl_get hB1 Vu
      have hu1' : IsT K H1 vu [.int (us.getD i dLr).1, .int (us.getD i dLr).2] := IsT.mono (TSm.of s1) hu1
      show gName 7 (V.int (0 + (i : Int))) _ _ _
      rw [Int.zero_add]
      walk_at "st"
      refine s_ixL (w := vu) (s1.seq hL) (atI_nat (j := i) hvu) ?_
      walk_at "go"
      refine s_ixL (w := vb1) (s1.seq hS) (atI_nat (j := (us.getD i dLr).1) a1) ?_
      walk_at "go"
      refine s_ixL (w := vu) (s1.seq hL) (atI_nat (j := i) hvu) ?_
      walk_at "go"
      refine s_ixL (w := vl1) a3 (atI_nat (j := (us.getD i dLr).2) a4) ?_
      walk_at "st"
      dsimp only
      walk_at "go"
      by_cases h0 : 0 < i
      · refine s_ifT (decide_eq_true (by omega)) ?_
        have hi1 : i - 1 < us.length := by omega
        have huj := getD_at (d := dLr) hi1
        obtain ⟨vj, hvj, hj1⟩ := hU.get huj
        have Vj := hV _ (List.mem_of_getElem? huj)
        walk_at "st"
        refine s_ixL (w := vj) (s1.seq hL) (at_of (show (i : Int) - 1 = ((i - 1 : Nat) : Int) by omega) hvj) ?_
        walk_at "go"
        refine s_ixL (w := vu) (s1.seq hL) (atI_nat (j := i) hvu) ?_
        walk_at "go"
        refine ⟨vf, vj, vu, pb, F, g, c, vbs, bs, _, _, rfl, hF.mono s1, s1.seq hS, hB1, hj1.mono (TSm.of s1), hu1', Vj, Vu, fun p H2 s2 hp => ?_⟩
        have eh : hsUp F bs us (i + 1) = _ := if_pos h0
        walk_at "st"
        walk_at "go"
        rw [eh]
        exact ⟨_, _, _, rfl, s1.trans s2⟩
      · refine s_ifF (decide_eq_false (by omega)) ?_
        have eh : hsUp F bs us (i + 1) = _ := if_neg h0
        rw [eh]
        exact ⟨_, _, _, rfl, s1⟩
    · rintro σ' H1 ⟨v7, v8, v9, rfl, s1⟩
      have q' : ∀ H', Same H H' → Q (.int ((nsUp F (fsUp F (hsUp F bs us us.length) fs) ns).1 - (nsUp F (fsUp F (hsUp F bs us us.length) fs) ns).2)) H' := q
      clear q
      generalize hsUp F bs us us.length = p0 at q' ⊢
      walk_at "st"
      refine s_forL ?_
      walk_at "go"
      refine ⟨pf, rfl, ⟨_, s1.seq hFl⟩, for_it walk_list (fun i σ' H' => ∃ v10, σ' = [some vf, some (.ref pb), some (.ref pl), some (.ref pn), some (.ref pf), some (.int (fsUp F p0 (fs.take i)).1), some (.int (fsUp F p0 (fs.take i)).2), v7, v8, v9, v10] ∧ Same H1 H')
        ⟨_, rfl, Same.refl _⟩ (fun _ _ _ _ h => let ⟨_, _, z⟩ := h; (s1.trans z).seq hFl) ?_ ?_⟩
      · rintro i y σ' H2' H2 hi ⟨v10, rfl, s2⟩ ⟨rfl, hy⟩
        obtain ⟨z, hz, rfl⟩ := map_int hy
        have s12 := s1.trans s2
        have hF2 := hF.mono s12
        have hT2 := hF2.tup
        obtain ⟨ug, hug, hgg⟩ := hF2.gap .float
        have hgg' : IsT K H2 ug [.int (F.gap .float).h, .int (F.gap .float).s, .int (F.gap .float).k] := hgg
        have ef : fsUp F p0 (fs.take (i + 1)) = ((fsUp F p0 (fs.take i)).1 + z + (F.gap .float).h, (fsUp F p0 (fs.take i)).2 + (F.gap .float).k) := by
          unfold fsUp
          rw [List.take_add_one, hz, List.foldl_append]
          rfl
        walk_at "st"
        refine s_dgot hug ?_
        walk_at "go"
        refine s_dgot hug ?_
        walk_at "go"
        rw [ef]
        exact ⟨_, rfl, s2⟩
      rintro σ' H2 ⟨v10, rfl, s2⟩
      rw [List.length_map, List.take_of_length_le (Nat.le_refl _)]
      generalize fsUp F p0 fs = p1 at q' ⊢
      have s12 := s1.trans s2
      have hF2 := hF.mono s12
      have hT2 := hF2.tup
      walk_at "go"
      refine s_cut (fun σ' H' => σ' = [some vf, some (.ref pb), some (.ref pl), some (.ref pn), some (.ref pf), some (.int (nsUp F p1 ns).1), some (.int (nsUp F p1 ns).2), v7, v8, v9, v10] ∧ H2 = H') ?_ ?_
      · walk_at "go"
        refine s_lenL (s12.seq hN) ?_
        rw [List.length_map]
        walk_at "go"
        by_cases hn : ns = []
        · subst hn
          refine s_ifF (by rfl) ?_
          exact ⟨rfl, rfl⟩
        · have hp : 0 < ns.length := List.length_pos_iff.mpr hn
          refine s_ifT (decide_eq_true (by omega)) ?_
          obtain ⟨ug, hug, hgg⟩ := hF2.gap .note
          have hgg' : IsT K H2 ug [.int (F.gap .note).h, .int (F.gap .note).s, .int (F.gap .note).k] := hgg
          have en : nsUp F p1 ns = (p1.1 + ns.sum + (F.gap .note).h, p1.2 + (F.gap .note).k) := if_neg hn
          walk_at "st"
          refine s_sum (s12.seq hN) ?_
          walk_at "go"
          refine s_dgot hug ?_
          walk_at "go"
          dsimp only
          walk_at "go"
          refine s_dgot hug ?_
          walk_at "go"
          rw [en]
          exact ⟨rfl, rfl⟩
      rintro σ' H3 ⟨rfl, rfl⟩
      walk_at "go"
      exact q' H2 s12
end
end G
/-! The law's reading of blocks: divided. -/
namespace G
open PySem L2
/-- goes on through a reading as far as it decides itself -/
local macro_rules | `(tactic| walk_at "fact") => `(tactic| first | assumption | ((refine tnew ?_ ?_); assumption; (first | assumption | ((refine tnew ?_ ?_); assumption; (first | assumption | ((refine tnew ?_ ?_); assumption; assumption))))) | ((refine tsame ?_ ?_); assumption; assumption))
local macro_rules | `(tactic| walk_at "go1") => `(tactic| first
  | with_reducible refine s_op ?_ | ((with_reducible refine s_var (v := ?v) ?e ?_); (case e => rfl)) | with_reducible refine s_c ?_
  | with_reducible refine s_cb ?_ | with_reducible refine s_cons ?_ | with_reducible refine s_nil ?_ | with_reducible refine s_ret ?_ | with_reducible refine s_asg ?_ | with_reducible refine s_gname ?_
  | with_reducible refine s_ifS ?_ | with_reducible refine s_test ?_ | with_reducible refine s_B ?_ | with_reducible refine s_bl ?_ | with_reducible refine s_and ?_ | with_reducible refine s_or ?_ | with_reducible refine s_not ?_ | with_reducible refine s_if ?_
  | with_reducible refine s_un ?_ | with_reducible refine s_U ?_ | with_reducible refine s_drop ?_ | with_reducible refine s_next ?_ | with_reducible refine s_tup ?_ | with_reducible refine s_lst ?_ | with_reducible refine s_call ?_ | with_reducible refine s_dget ?_
  | ((with_reducible refine s_len ?h ?_); (case h => rfl)) | with_reducible refine s_notN ?_ | with_reducible refine s_isN ?_ | with_reducible refine s_yes ?_ | with_reducible refine s_fld ?_ | with_reducible refine s_meth ?_ | with_reducible refine s_andV ?_ | with_reducible refine s_orV ?_ | with_reducible refine s_gsub ?_ | with_reducible refine s_chain ?_ | with_reducible refine s_chain3 ?_ | with_reducible refine s_sl ?_ | with_reducible refine s_part ?_ | with_reducible refine s_noPart ?_ | with_reducible refine s_exI ?_ | with_reducible refine s_bm ?_ | ((with_reducible refine s_tyL (xs := ?xs) ?h ?_); (case h => assumption)) | with_reducible refine s_gcons ?_ | with_reducible refine s_gnil ?_ | with_reducible refine s_brk ?_ | with_reducible refine s_cont ?_
  | ((with_reducible refine s_ixT (xs := ?xs) (w := ?w) ?h ?e ?_); (case h => walk_at "fact"); (case e => rfl))
  | with_reducible refine s_max2 ?_ | with_reducible refine s_min2 ?_ | with_reducible refine s_intI ?_ | with_reducible refine s_intB ?_ | with_reducible refine s_I0 ?_ | with_reducible refine s_eqI ?_ | with_reducible refine s_eqS ?_ | with_reducible refine s_neI ?_)
local macro_rules | `(tactic| walk_at "go") => `(tactic| repeat walk_at "go1")
/-- the next statement -/
local macro_rules | `(tactic| walk_at "st") => `(tactic| (walk_at "go"; (with_reducible refine s_seq ?_); walk_at "go"))
/-- the next statement, cut off by a word -/
local macro_rules | `(tactic| walk_at "cut") => `(tactic| with_reducible refine s_cut ?_ ?_ ?_)
def kdV (k : Kd) : V := .str k.str
theorem eqV_page (k : Kd) : eqV (kdV k) (V.str "page") = decide (k = .page) := by cases k <;> decide +kernel
theorem inV_page : ∀ ks : List Kd, inV (V.str "page") (ks.map kdV) = decide (Kd.page ∈ ks)
  | [] => rfl
  | k :: ks => by
    show (eqV (kdV k) (V.str "page") || inV (V.str "page") (ks.map kdV)) = _
    rw [inV_page ks, eqV_page]
    by_cases e : k = .page
    · subst e
      simp
    · have e2 : ¬ Kd.page = k := fun h => e h.symm
      simp [e, e2]
theorem flat_kds : ∀ ks : List Kd, (ks.map kdV).all flatV = true
  | [] => rfl
  | k :: ks => by
    show (flatV (kdV k) && (ks.map kdV).all flatV) = true
    rw [flat_kds ks]
    rfl
/-- kinds of the blocks from i on, n of them -/
def kdsFrom (bs : List Bk) (i n : Nat) : List Kd := (List.range n).map fun j => (bs.getD (i + j) dBk).kd
def PgIn (bs : List Bk) (i j : Nat) : Prop := ∃ k, i ≤ k ∧ k < j ∧ (bs.getD k dBk).kd = .page
theorem pgIn_iff {bs : List Bk} {i j : Nat} : Kd.page ∈ kdsFrom bs i (j - i) ↔ PgIn bs i j := by
  unfold kdsFrom PgIn
  constructor
  · intro h
    obtain ⟨k, h1, h2⟩ := List.mem_map.mp h
    rw [List.mem_range] at h1
    exact ⟨i + k, by omega, by omega, h2⟩
  · rintro ⟨k, h1, h2, h3⟩
    exact List.mem_map.mpr ⟨k - i, by rw [List.mem_range]; omega, by rw [show i + (k - i) = k by omega]; exact h3⟩
structure Divided (F : Fw) (bs : List Bk) (u v : Lr) : Prop where
  ne : u.1 ≠ v.1 → PgIn bs u.1 v.1 ∨ (bkOf bs u).kd ≠ .head
  eq : u.1 = v.1 → (bkOf bs u).kd ≠ .head ∧ (bkOf bs u).kd ≠ .row ∧ F.keep ≤ v.2 ∧ F.keep ≤ ((bkOf bs u).ls.length : Int) - v.2
section
variable {P : Program} {w : World} {K : PySem.W.Frag} {mg : Str → Option Value} {base : Heap}
theorem bk_kd {H : Hp} {v : V} {b : Bk} (h : BkAt K H v b) : ∃ xs, IsT K H v (.str b.kd.str :: xs) ∧ (V.str b.kd.str :: xs).length = if b.kd.txt = true then 2 else 1 := by
  cases e : b.kd.txt with
  | true =>
    obtain ⟨q, h1, _⟩ := h.1 e
    exact ⟨[q], h1, rfl⟩
  | false => exact ⟨[], h.2 e, rfl⟩
def spDivided (K : PySem.W.Frag) : Sp := fun vs H Q _ => ∃ (vf vu vv : V) (pb : Addr) (F : Fw) (g c : Addr) (vbs : List V) (bs : List Bk) (u v : Lr), vs = [vf, .ref pb, vu, vv] ∧ FwAt K H vf F g c ∧ SqL K H pb vbs ∧ Ls (BkAt K H) vbs bs ∧ bs.length ≤ 1000 ∧ LrAt K H vu u ∧ LrAt K H vv v ∧ VL bs u ∧ VL bs v ∧
  Divided F bs u v ∧ ∀ H', Same H H' → Q (.bl true) H'
abbrev s_law_divided : Stmt := topS 28
theorem sc_law_divided : FnScope ["_law_flow_here", "_law_blocks_here", "_law_upper", "_law_lower", "_law_between", "_law_block", "_law_k"] ["_law_flow_here", "_law_blocks_here", "_law_upper", "_law_lower"] (defScope s_law_divided) := ⟨rfl, rfl, rfl, by decide +kernel, rfl, by decide +kernel, by decide +kernel⟩
set_option maxHeartbeats 1000000 in
theorem ok_law_divided {f : Addr} {fd : FuncData} (F0 : Fun K "_law_divided" "_law_divided" s_law_divided f fd) (T : Txt mg) : FnOk P w K mg base CX0 1 f fd ["_law_flow_here", "_law_blocks_here", "_law_upper", "_law_lower"] (spDivided K) := by
  refine F0.ok sc_law_divided (fun vs H Q E h => ?_) (fun cdv A outer s H vs Q E hr h => ?_)
  · obtain ⟨_, _, _, _, _, _, _, _, _, _, _, rfl, _⟩ := h
    rfl
  · obtain ⟨vf, vu, vv, pb, F, g, c, vbs, bs, u, v, rfl, hF, hS, hB, few, hu, hv, Vu, Vv, hd, q⟩ := h
    have hu' := hu_of hr
    have hT := hF.tup
    have hu0 : IsT K H vu [.int u.1, .int u.2] := hu
    have hv0 : IsT K H vv [.int v.1, .int v.2] := hv
    have hu := hu'
    have hv1 := Vv.1
    have hu1 := Vu.1
    have e62 : (2 : Int) ^ 62 = 4611686018427387904 := by decide
    refine ⟨_, (pss_cons (ps_setLc (i := 4) (own := [("_law_k", 6)]) (g := (gName 6)) (tt := tYes) (te := (tOp (rIxT K) (tOp (rIxL K) (tVar 1) (tVar 6)) (tC (.int 0)))) rfl sc_law_divided.nd rfl rfl (sw_true rfl rfl rfl (by decide +kernel)) (pi_range2 rfl T.range (pa_cons (pe_ix ix_tup (pv 2) pe_int (fun _ _ => rfl)) (pa_cons (pe_ix ix_tup (pv 3) pe_int (fun _ _ => rfl)) pa_nil))) (blkOk_by (by kernel_rfl)) (fun _ _ _ _ _ => (pg_name (i := 6) sc_law_divided.nd rfl (Or.inl rfl))) (fun _ _ _ _ _ => pts_nil) (fun _ _ _ _ _ => (pe_ix ix_tup (pe_ix ix_list (pv 1) (pv 6) (fun _ _ => rfl)) pe_int (fun _ _ => rfl))))
      (pss_cons (ps_if (pt_cmpR op_ne (pe_ix ix_tup (pv 2) pe_int (fun _ _ => rfl)) (pe_ix ix_tup (pv 3) pe_int (fun _ _ => rfl)) (nomark _))
        (pss_one (ps_ret (pe_or (pe_cmpR op_in_seq pe_str (pv 4) (by rfl)) (pe_one (pe_cmpR op_ne (pe_ix ix_tup (pe_ix ix_list (pv 1) (pe_ix ix_tup (pv 2) pe_int (fun _ _ => rfl)) (fun _ _ => rfl)) pe_int (fun _ _ => rfl)) pe_str (nomark _))))))
        pss_nil)
      (pss_cons (ps_set (i := 5) sc_law_divided.nd rfl (Or.inl rfl) (pe_ix ix_list (pv 1) (pe_ix ix_tup (pv 2) pe_int (fun _ _ => rfl)) (fun _ _ => rfl)))
      (pss_one (ps_ret (pe_and (pe_cmpR op_notIn_seq (pe_ix ix_tup (pv 5) pe_int (fun _ _ => rfl)) (pe_lst (pa_cons pe_str (pa_cons pe_str pa_nil))) (by rfl)) (pe_and (pe_cmpR op_ge (pe_ix ix_tup (pv 3) pe_int (fun _ _ => rfl)) (pe_ix ix_tup (pv 0) pe_int (fun _ _ => rfl)) (nomark _)) (pe_one (pe_cmpR op_ge (pe_op op_sub (pe_callB c_len (by rfl) T.len (by decide +kernel) (pa_cons (pe_ix ix_tup (pv 5) pe_int (fun _ _ => rfl)) pa_nil)) (pe_ix ix_tup (pv 3) pe_int (fun _ _ => rfl))) (pe_ix ix_tup (pv 0) pe_int (fun _ _ => rfl)) (nomark _)))))))))), ?_⟩
    try dsimp only [cxOf, L2.Cx.nox, L2.Cx.wish]
    walk_at "st"
    refine s_lcR2 ?_
    walk_at "go"
    have e1 : ((v.1 : Int) - u.1).toNat = v.1 - u.1 := by omega
    refine ⟨u.1, v.1, rfl, by omega, fun D nD => ?_⟩
    rw [e1]
    refine lc_it walk_range (fun i H2 => Same H H2 ∧ H2 D = some (.lst ((kdsFrom bs u.1 i).map kdV))) ⟨Same.new nD, upd_same⟩ (fun _ _ _ _ => trivial) ?_ ?_
    · rintro i y H2 H3 hi ⟨s2, hD⟩ ⟨rfl, rfl⟩
      have hB2 := hB.mono fun _ _ z => BkAt.mono s2 z
      obtain ⟨vb, hvb, hbk⟩ := bk_get hB2 (show u.1 + i < bs.length by omega)
      obtain ⟨xs, hxs, _⟩ := bk_kd hbk
      walk_at "go"
      refine ⟨rfl, ?_⟩
      walk_at "go"
      refine s_ifT rfl ?_
      walk_at "go"
      refine s_ixL (w := vb) (s2.seq hS) (at_of (show (u.1 : Int) + (i : Int) = ((u.1 + i : Nat) : Int) by omega) hvb) ?_
      walk_at "go"
      refine s_ixT hxs (atI_nat (j := 0) rfl) ?_
      refine ⟨_, hD, lt1M (by rw [List.length_map]; unfold kdsFrom; rw [List.length_map, List.length_range]; omega), s2.put nD, ?_⟩
      rw [upd_same]
      unfold kdsFrom
      rw [List.range_succ, List.map_append, List.map_append]
      rfl
    rintro H2 ⟨s2, hD⟩
    have hT2 := hT.mono (TSm.of s2)
    have hu2 := hu0.mono (TSm.of s2)
    have hv2 := hv0.mono (TSm.of s2)
    have hB2 := hB.mono fun _ _ z => BkAt.mono s2 z
    have hS2 := s2.seq hS
    obtain ⟨vb, hvb, hbk⟩ := bk_get hB2 hu1
    obtain ⟨qb, hqb, pq, vls, rfl, hvl, hls⟩ := hbk.1 Vu.2.1
    walk_at "st"
    by_cases e : u.1 = v.1
    · refine s_ifF (by rw [e, decide_eq_true rfl]; rfl) ?_
      obtain ⟨d1, d2, d3, d4⟩ := hd.eq e
      walk_at "st"
      refine s_ixL (w := vb) hS2 (atI_nat (j := u.1) hvb) ?_
      walk_at "go"
      dsimp only
      walk_at "go"
      intro ph nph
      have s3 : Same H2 (upd H2 ph (.lst [.str "head", .str "row"])) := Same.new nph
      have hh3 : upd H2 ph (.lst [.str "head", .str "row"]) ph = some (.lst [.str "head", .str "row"]) := upd_same
      generalize upd H2 ph (.lst [.str "head", .str "row"]) = H3 at s3 hh3
      have hT3 := hT2.mono (TSm.of s3)
      have hv3 := hv2.mono (TSm.of s3)
      have hqb3 := hqb.mono (TSm.of s3)
      walk_at "go"
      refine s_ninL (SqL.of hh3) rfl rfl ?_
      have k1 : (!inV (V.str (bs.getD u.1 dBk).kd.str) [V.str "head", V.str "row"]) = true := by
        rw [kd_headrow]
        have d1' : ¬ (bs.getD u.1 dBk).kd = .head := d1
        have d2' : ¬ (bs.getD u.1 dBk).kd = .row := d2
        rw [decide_eq_false d1', decide_eq_false d2']
        rfl
      rw [k1]
      refine ⟨_, rfl, ?_⟩
      refine s_ifT rfl ?_
      walk_at "go"
      refine s_ifT (decide_eq_true d3) ?_
      walk_at "go"
      refine s_lenL (s3.seq hvl) ?_
      walk_at "go"
      have e4 : decide (F.keep ≤ ((vls.length : Nat) : Int) - v.2) = true := decide_eq_true (by rw [hls.len]; exact d4)
      rw [e4]
      exact q _ (s2.trans s3)
    · refine s_ifT (by rw [decide_eq_false (fun h => e (by have h' := V.int.inj h; omega))]; rfl) ?_
      walk_at "go"
      refine s_inL (SqL.of hD) rfl (flat_kds _) ?_
      rw [inV_page]
      refine ⟨_, rfl, ?_⟩
      by_cases hp : Kd.page ∈ kdsFrom bs u.1 (v.1 - u.1)
      · refine s_ifT (decide_eq_true hp) ?_
        exact q _ s2
      · refine s_ifF (decide_eq_false hp) ?_
        walk_at "go"
        refine s_ixL (w := vb) hS2 (atI_nat (j := u.1) hvb) ?_
        walk_at "go"
        refine s_neS ?_
        rw [kd_head]
        have hk : ¬ (bs.getD u.1 dBk).kd = .head := by
          rcases hd.ne e with h | h
          · exact absurd (pgIn_iff.mpr h) hp
          · exact h
        rw [decide_eq_false hk]
        exact q _ s2
end
end G
/-! The law's look at floats. -/
namespace G
open PySem L2
/-- goes on through a reading as far as it decides itself -/
local macro_rules | `(tactic| walk_at "fact") => `(tactic| first | assumption | ((refine tnew ?_ ?_); assumption; (first | assumption | ((refine tnew ?_ ?_); assumption; (first | assumption | ((refine tnew ?_ ?_); assumption; assumption))))) | ((refine tsame ?_ ?_); assumption; assumption))
local macro_rules | `(tactic| walk_at "go1") => `(tactic| first
  | with_reducible refine s_op ?_ | ((with_reducible refine s_var (v := ?v) ?e ?_); (case e => rfl)) | with_reducible refine s_c ?_
  | with_reducible refine s_cb ?_ | with_reducible refine s_cons ?_ | with_reducible refine s_nil ?_ | with_reducible refine s_ret ?_ | with_reducible refine s_asg ?_ | with_reducible refine s_gname ?_
  | with_reducible refine s_ifS ?_ | with_reducible refine s_test ?_ | with_reducible refine s_B ?_ | with_reducible refine s_bl ?_ | with_reducible refine s_and ?_ | with_reducible refine s_or ?_ | with_reducible refine s_not ?_ | with_reducible refine s_if ?_
  | with_reducible refine s_un ?_ | with_reducible refine s_U ?_ | with_reducible refine s_drop ?_ | with_reducible refine s_next ?_ | with_reducible refine s_tup ?_ | with_reducible refine s_lst ?_ | with_reducible refine s_call ?_ | with_reducible refine s_dget ?_
  | ((with_reducible refine s_len ?h ?_); (case h => rfl)) | with_reducible refine s_notN ?_ | with_reducible refine s_isN ?_ | with_reducible refine s_yes ?_ | with_reducible refine s_fld ?_ | with_reducible refine s_meth ?_ | with_reducible refine s_andV ?_ | with_reducible refine s_orV ?_ | with_reducible refine s_gsub ?_ | with_reducible refine s_chain ?_ | with_reducible refine s_chain3 ?_ | with_reducible refine s_sl ?_ | with_reducible refine s_part ?_ | with_reducible refine s_noPart ?_ | with_reducible refine s_exI ?_ | with_reducible refine s_bm ?_ | ((with_reducible refine s_tyL (xs := ?xs) ?h ?_); (case h => assumption)) | with_reducible refine s_gcons ?_ | with_reducible refine s_gnil ?_ | with_reducible refine s_brk ?_ | with_reducible refine s_cont ?_
  | ((with_reducible refine s_ixT (xs := ?xs) (w := ?w) ?h ?e ?_); (case h => walk_at "fact"); (case e => rfl))
  | with_reducible refine s_max2 ?_ | with_reducible refine s_min2 ?_ | with_reducible refine s_intI ?_ | with_reducible refine s_intB ?_ | with_reducible refine s_I0 ?_ | with_reducible refine s_eqI ?_ | with_reducible refine s_eqS ?_ | with_reducible refine s_neI ?_)
local macro_rules | `(tactic| walk_at "go") => `(tactic| repeat walk_at "go1")
/-- the next statement -/
local macro_rules | `(tactic| walk_at "st") => `(tactic| (walk_at "go"; (with_reducible refine s_seq ?_); walk_at "go"))
/-- the next statement, cut off by a word -/
local macro_rules | `(tactic| walk_at "cut") => `(tactic| with_reducible refine s_cut ?_ ?_ ?_)
theorem canLay_ints : ∀ ns : List Int, PyData.canLayAll0 (ns.map PyData.int) = true
  | [] => rfl
  | n :: ns => by
    show (PyData.canLay0 (.int n) && PyData.canLayAll0 (ns.map PyData.int)) = true
    rw [canLay_ints ns]
    rfl
theorem depth_ints : ∀ ns : List Int, PyData.depthAll (ns.map PyData.int) = 0
  | [] => rfl
  | n :: ns => by
    show max (PyData.depth (.int n)) (PyData.depthAll (ns.map PyData.int)) = 0
    rw [depth_ints ns]
    rfl
theorem shaped_ints (ns : List Int) : SeqAt.shaped (.list (ns.map PyData.int)) = true := by
  show (PyData.canLayAll0 (ns.map PyData.int) && decide (PyData.depthAll (ns.map PyData.int) + 1 ≤ 64)) = true
  rw [canLay_ints, depth_ints]
  rfl
theorem eqv_ints (ns : List Int) : PyData.eqv (.list (ns.map PyData.int)) (.list (ns.map PyData.int)) = true := SeqAt.eqv_refl (.list (ns.map PyData.int)) (canLay_ints ns)
theorem filter_one {p : Nat → Bool} {i : Nat} (h : p i = true) : List.filter p [i] = [i] := by rw [List.filter_cons_of_pos h]; rfl
theorem filter_zero {p : Nat → Bool} {i : Nat} (h : p i = false) : List.filter p [i] = [] := by rw [List.filter_cons_of_neg (by rw [h]; exact Bool.false_ne_true)]; rfl
theorem dp_ints {K : PySem.W.Frag} {H : Hp} : ∀ ns : List Int, DpAll K H (ns.map V.int) (ns.map PyData.int)
  | [] => .nil
  | n :: ns => .cons (.int n) (dp_ints ns)
def nV (n : Nat) : V := .int n
def dPg : Pg := ⟨0, 0, 0, 0⟩
theorem cut_take (xs : List V) (k : Nat) : cutV xs none (some (k : Int)) = xs.take k := by
  unfold cutV
  rw [HT.sIx_nat, HT.sIx_none, List.drop_zero, Nat.sub_zero]
  exact (List.take_eq_take_min ..).symm
theorem Ls.take {α : Type} {R : V → α → Prop} {vs : List V} {as : List α} (k : Nat) (h : Ls R vs as) : Ls R (vs.take k) (as.take k) :=
  ⟨by rw [List.length_take, List.length_take, h.1], fun i v a e1 e2 => by
    rw [List.getElem?_take] at e1 e2
    by_cases hi : i < k
    · rw [if_pos hi] at e1 e2
      exact h.2 i v a e1 e2
    · rw [if_neg hi] at e1
      cases e1⟩
def flBs (bs : List Bk) : List Nat := (List.range bs.length).filter fun k => decide ((bs.getD k dBk).kd = .float)
/-- the last lines of the groups that have one -/
def lasts (gl : List (List Lr)) : List Lr := gl.filterMap fun us => us.getLast?
theorem lasts_one (us : List Lr) : List.filterMap (fun us : List Lr => us.getLast?) (some us).toList = us.getLast?.toList := by
  show List.filterMap (fun us : List Lr => us.getLast?) [us] = _
  cases h : us.getLast? with
  | none => rw [List.filterMap_cons_none h]; rfl
  | some u => rw [List.filterMap_cons_some h]; rfl
def before (bs : List Bk) (n : Nat) : List Nat := (List.range n).filter fun j => (bs.getD j dBk).kd.txt
structure FRight (F : Fw) (bs : List Bk) (gs : List Pg) (grs : List (List Lr)) : Prop where
  len : gs.length = grs.length
  few : gs.length ≤ 100000
  pg : ∀ (k : Nat) g, gs[k]? = some g → g.st ≤ g.sp ∧ (g.sp : Int) ≤ g.st + F.most ∧ g.sp ≤ (flBs bs).length
  cat : (gs.map fun g => nsOf g.st (g.sp - g.st)).flatten = nsOf 0 (flBs bs).length
  pos : ∀ (k : Nat) g (n : Nat), gs[k]? = some g → g.st ≤ n → n < g.sp → ∀ fb, (flBs bs)[n]? = some fb → ∀ j ∈ before bs fb, ∃ u, (lasts (grs.take (k + 1))).getLast? = some u ∧ j ≤ u.1
section
variable {P : Program} {w : World} {K : PySem.W.Frag} {mg : Str → Option Value} {base : Heap}
def GrAt (K : PySem.W.Frag) (H : Hp) (v : V) (us : List Lr) : Prop := ∃ p vls, v = .ref p ∧ SqL K H p vls ∧ Ls (LrAt K H) vls us
theorem GrAt.mono {H H' : Hp} {v : V} {us : List Lr} (e : Same H H') (h : GrAt K H v us) : GrAt K H' v us := let ⟨p, vls, a, b, c⟩ := h; ⟨p, vls, a, e.seq b, c.mono fun _ _ z => z.mono (TSm.of e)⟩
def spFloatsRight (K : PySem.W.Frag) : Sp := fun vs H Q _ => ∃ (vf : V) (pb pp pg : Addr) (F : Fw) (g c : Addr) (vbs vps vgs : List V) (bs : List Bk) (gs : List Pg) (grs : List (List Lr)), vs = [.ref pb, vf, .ref pp, .ref pg] ∧ FwAt K H vf F g c ∧ SqL K H pb vbs ∧ Ls (BkAt K H) vbs bs ∧ bs.length ≤ 1000 ∧
  SqL K H pp vps ∧ Ls (PageAt H) vps gs ∧ SqL K H pg vgs ∧ Ls (GrAt K H) vgs grs ∧ FRight F bs gs grs ∧ ∀ H', Same H H' → Q (.bl true) H'
theorem s_lstRg {te : L2.St → Hp → (Int → Int → Hp → Prop) → Prop} {σ : L2.St} {H : Hp} {Q : VK} (h : te σ H fun a b H1 => RgOk a b ∧ ∀ q, H1 q = none → Q (.ref q) (upd H1 q (.lst (rgV a b)))) : tLstRg te σ H Q := h
theorem s_rg1 {ta : TE} {σ : L2.St} {H : Hp} {Q : Int → Int → Hp → Prop} (h : ta σ H fun x H1 => ∃ n, x = .int n ∧ Q 0 n H1) : tRg1 ta σ H Q := h
abbrev s_law_floats_right : Stmt := topS 29
theorem sc_law_floats_right : FnScope ["_law_blocks_here", "_law_flow_here", "_law_pages", "_law_groups", "_law_done", "_law_floats", "_law_k", "_law_number", "_law_after", "_law_behind", "_law_lines", "_law_j"] ["_law_blocks_here", "_law_flow_here", "_law_pages", "_law_groups"] (defScope s_law_floats_right) := ⟨rfl, rfl, rfl, by decide +kernel, rfl, by decide +kernel, by decide +kernel⟩
set_option maxHeartbeats 2000000 in
theorem ok_law_floats_right {f : Addr} {fd : FuncData} (F0 : Fun K "_law_floats_right" "_law_floats_right" s_law_floats_right f fd) (T : Txt mg) : FnOk P w K mg base CX0 1 f fd ["_law_blocks_here", "_law_flow_here", "_law_pages", "_law_groups"] (spFloatsRight K) := by
  refine F0.ok sc_law_floats_right (fun vs H Q E h => ?_) (fun cdv A outer s H vs Q E hr h => ?_)
  · obtain ⟨_, _, _, _, _, _, _, _, _, _, _, _, _, rfl, _⟩ := h
    rfl
  · obtain ⟨vf, pb, pp, pg, F, g0, c0, vbs, vps, vgs, bs, gs, grs, rfl, hF, hS, hB, few, hP, hPs, hG, hGs, R, q⟩ := h
    have hu := hu_of hr
    have hT := hF.tup
    have e62 : (2 : Int) ^ 62 = 4611686018427387904 := by decide
    refine ⟨_, (pss_cons (ps_set (i := 4) sc_law_floats_right.nd rfl (Or.inl rfl) (pe_lst pa_nil))
      (pss_cons (ps_setLc (i := 5) (own := [("_law_k", 6)]) (g := (gName 6)) (tt := (tTest (tOp rEq (tOp (rIxT K) (tOp (rIxL K) (tVar 0) (tVar 6)) (tC (.int 0))) (tC (.str "float"))))) (te := (tVar 6)) rfl sc_law_floats_right.nd rfl rfl (sw_true rfl rfl rfl (by decide +kernel)) (pi_range1 rfl T.range (pa_cons (pe_callB c_len (by rfl) T.len (by decide +kernel) (pa_cons (pv 0) pa_nil)) pa_nil)) (blkOk_by (by kernel_rfl)) (fun _ _ _ _ _ => (pg_name (i := 6) sc_law_floats_right.nd rfl (Or.inl rfl))) (fun _ _ _ _ _ => (pts_one (pt_cmpR op_eq (pe_ix ix_tup (pe_ix ix_list (pv 0) (pv 6) (fun _ _ => rfl)) pe_int (fun _ _ => rfl)) pe_str (nomark _)))) (fun _ _ _ _ _ => (pv 6)))
      (pss_cons (ps_for PassesOwn.never rfl (pi_range1 rfl T.range (pa_cons (pe_callB c_len (by rfl) T.len (by decide +kernel) (pa_cons (pv 2) pa_nil)) pa_nil)) (pg_name (i := 6) sc_law_floats_right.nd rfl (Or.inl rfl))
        (pss_cons (ps_expr (pe_bm PySem.F.plainAttrs_list PySem.F.slot_list_extend PySem.F.type_list_extend mt_extend (pv 4) (pa_cons (pe_callTy c_list (by rfl) T.list (by decide +kernel) (pa_cons (pe_ix ix_tup (pe_ix ix_list (pv 2) (pv 6) (fun _ _ => rfl)) pe_int (fun _ _ => rfl)) pa_nil)) pa_nil)))
        (pss_cons (ps_if (pt_cmpR op_gt (pe_callB c_len (by rfl) T.len (by decide +kernel) (pa_cons (pe_ix ix_tup (pe_ix ix_list (pv 2) (pv 6) (fun _ _ => rfl)) pe_int (fun _ _ => rfl)) pa_nil)) (pe_ix ix_tup (pv 1) pe_int (fun _ _ => rfl)) (nomark _))
          (pss_one (ps_ret pe_bl))
          pss_nil)
        (pss_one (ps_for PassesOwn.never rfl (pi_tup (pe_ix ix_tup (pe_ix ix_list (pv 2) (pv 6) (fun _ _ => rfl)) pe_int (fun _ _ => rfl))) (pg_name (i := 7) sc_law_floats_right.nd rfl (Or.inl rfl))
          (pss_cons (ps_setLc (i := 8) (own := [("_law_lines", 10)]) (g := (gName 10)) (tt := (tTest (tOp (rI0 fun i j => .bl (decide (j < i))) (tCB (rLen K) (tCons (tVar 10) tNil)) (tC (.int 0))))) (te := (tOp (rIxL K) (tVar 10) (tUn (rU fun i => .int (-i)) (tC (.int 1))))) rfl sc_law_floats_right.nd rfl rfl (sw_true rfl rfl rfl (by decide +kernel)) (pi_list (pe_slice sl_list (pv 3) po_none (po_some (pe_op op_add (pv 6) pe_int)))) (blkOk_by (by kernel_rfl)) (fun _ _ _ _ _ => (pg_name (i := 10) sc_law_floats_right.nd rfl (Or.inl rfl))) (fun _ _ _ _ _ => (pts_one (pt_cmpR op_gt (pe_callB c_len (by rfl) T.len (by decide +kernel) (pa_cons (pv 10) pa_nil)) pe_int (nomark _)))) (fun _ _ _ _ _ => (pe_ix ix_list (pv 10) (pe_un un_neg pe_int) (fun _ _ => rfl))))
          (pss_cons (ps_setLc (i := 9) (own := [("_law_j", 11)]) (g := (gName 11)) (tt := (tTest (tOp rEq (tCB (rLen K) (tCons (tOp (rIxL K) (tVar 0) (tVar 11)) tNil)) (tC (.int 2))))) (te := (tVar 11)) rfl sc_law_floats_right.nd rfl rfl (sw_true rfl rfl rfl (by decide +kernel)) (pi_range1 rfl T.range (pa_cons (pe_ix ix_list (pv 5) (pv 7) (fun _ _ => rfl)) pa_nil)) (blkOk_by (by kernel_rfl)) (fun _ _ _ _ _ => (pg_name (i := 11) sc_law_floats_right.nd rfl (Or.inl rfl))) (fun _ _ _ _ _ => (pts_one (pt_cmpR op_eq (pe_callB c_len (by rfl) T.len (by decide +kernel) (pa_cons (pe_ix ix_list (pv 0) (pv 11) (fun _ _ => rfl)) pa_nil)) pe_int (nomark _)))) (fun _ _ _ _ _ => (pv 11)))
          (pss_one (ps_if (PW.pt (pw_and (pt_cmpR op_gt (pe_callB c_len (by rfl) T.len (by decide +kernel) (pa_cons (pv 9) pa_nil)) pe_int (nomark _)) (pw_and1 (PW.pt (pw_or (pt_cmpR op_eq (pe_callB c_len (by rfl) T.len (by decide +kernel) (pa_cons (pv 8) pa_nil)) pe_int (nomark _)) (pw_or1 (pt_cmpR op_lt (pe_ix ix_tup (pe_ix ix_list (pv 8) (pe_un un_neg pe_int) (fun _ _ => rfl)) pe_int (fun _ _ => rfl)) (pe_ix ix_list (pv 9) (pe_un un_neg pe_int) (fun _ _ => rfl)) (nomark _))))))))
            (pss_one (ps_ret pe_bl))
            pss_nil)))))))))
      (pss_one (ps_ret (pe_cmpR (op_eqD (hu64 hr)) (pv 4) (pe_listRg rfl rfl T.list (prg_1 rfl T.range (pe_callB c_len (by rfl) T.len (by decide +kernel) (pa_cons (pv 5) pa_nil)))) (nomark _))))))), ?_⟩
    try dsimp only [cxOf, L2.Cx.nox, L2.Cx.wish]
    walk_at "st"
    intro pd npd
    have s1 : Same H (upd H pd (.lst [])) := Same.new npd
    generalize hH1 : upd H pd (.lst []) = H1 at s1
    have hd1 : H1 pd = some (.lst []) := by rw [← hH1, upd_same]
    walk_at "st"
    refine s_lcR1 ?_
    walk_at "go"
    refine s_lenL (s1.seq hS) ?_
    rw [hB.len]
    walk_at "go"
    refine ⟨_, rfl, by omega, by omega, fun D nD => ?_⟩
    rw [Int.toNat_natCast]
    refine lc_it walk_range (fun i H2 => Same H1 H2 ∧ H2 D = some (.lst (((List.range i).filter fun k => decide ((bs.getD k dBk).kd = .float)).map nV))) ⟨Same.new nD, upd_same⟩ (fun _ _ _ _ => trivial) ?_ ?_
    · rintro i y H2' H2 hi ⟨s2, hD⟩ ⟨rfl, rfl⟩
      have s12 := s1.trans s2
      have hB2 := hB.mono fun _ _ z => BkAt.mono s12 z
      obtain ⟨vb, hvb, hbk⟩ := bk_get hB2 hi
      obtain ⟨xs, hxs, _⟩ := bk_kd hbk
      show gName 6 (V.int (0 + (i : Int))) _ _ _
      rw [Int.zero_add]
      walk_at "go"
      refine ⟨rfl, ?_⟩
      walk_at "go"
      refine s_ixL (w := vb) (s12.seq hS) (atI_nat (j := i) hvb) ?_
      walk_at "go"
      refine s_ixT hxs (atI_nat (j := 0) rfl) ?_
      walk_at "go"
      rw [kd_float]
      by_cases hk : (bs.getD i dBk).kd = .float
      · refine s_ifT (decide_eq_true hk) ?_
        walk_at "go"
        have hle := List.length_filter_le (fun k => decide ((bs.getD k dBk).kd = .float)) (List.range i)
        rw [List.length_range] at hle
        refine ⟨_, hD, lt1M (by rw [List.length_map]; omega), s2.put nD, ?_⟩
        rw [upd_same, List.range_succ, List.filter_append, List.map_append]
        have e1 : List.filter (fun k => decide ((bs.getD k dBk).kd = .float)) [i] = [i] := filter_one (decide_eq_true hk)
        rw [e1]
        rfl
      · refine s_ifF (decide_eq_false hk) ?_
        refine ⟨s2, ?_⟩
        rw [hD, List.range_succ, List.filter_append, List.map_append]
        have e1 : List.filter (fun k => decide ((bs.getD k dBk).kd = .float)) [i] = [] := filter_zero (decide_eq_false hk)
        rw [e1, List.map_nil, List.append_nil]
    rintro H2 ⟨s2, hD⟩
    have hfl : H2 D = some (.lst ((flBs bs).map nV)) := hD
    have hfln : (flBs bs).length ≤ bs.length := by
      have := List.length_filter_le (fun k => decide ((bs.getD k dBk).kd = .float)) (List.range bs.length)
      rw [List.length_range] at this
      exact this
    have hDp : D ≠ pd := (ne_of_none hd1 nD).symm
    have nDH : H D = none := s1.free nD
    -- N: all but the list done
    have sN : Same H (upd H D (.lst ((flBs bs).map nV))) := Same.new nDH
    have sN2 : Same (upd H D (.lst ((flBs bs).map nV))) H2 := Same.sub (s1.trans s2) hfl
    have hND : upd H D (.lst ((flBs bs).map nV)) D = some (.lst ((flBs bs).map nV)) := upd_same
    have nN : upd H D (.lst ((flBs bs).map nV)) pd = none := by rw [upd_ne hDp.symm]; exact npd
    generalize upd H D (.lst ((flBs bs).map nV)) = N at sN sN2 hND nN
    have hd2 := s2 _ _ hd1
    walk_at "st"
    refine s_forR1 ?_
    walk_at "go"
    refine s_lenL (sN2.seq (sN.seq hP)) ?_
    rw [hPs.len]
    walk_at "go"
    have hfew := R.few
    refine ⟨_, rfl, by omega, by omega, ?_⟩
    rw [Int.toNat_natCast]
    refine for_it walk_range (fun i σ' H' => ∃ v6 v7 v8 v9, σ' = [some (.ref pb), some vf, some (.ref pp), some (.ref pg), some (.ref pd), some (.ref D), v6, v7, v8, v9, none, none] ∧ Same N H' ∧ H' pd = some (.lst ((((gs.take i).map fun g => nsOf g.st (g.sp - g.st)).flatten).map V.int)))
      ⟨_, _, _, _, rfl, sN2, hd2⟩ (fun _ _ _ _ _ => trivial) ?_ ?_
    · rintro i y σ' H3' H3 hi ⟨v6, v7, v8, v9, rfl, s3, hd3⟩ ⟨rfl, rfl⟩
      show gName 6 (V.int (0 + (i : Int))) _ _ _
      rw [Int.zero_add]
      have hg := getD_at (d := dPg) hi
      generalize gs.getD i dPg = g at hg
      obtain ⟨r1, r2, r3⟩ := R.pg i g hg
      obtain ⟨vk, hvk, t, hvkX, htX⟩ := hPs.get hg
      have sH3 := sN.trans s3
      have hvk3 : IsT K H3 vk [.str "page", .int g.f, .int g.l, .ref t] := (hvkX.mono (TSo.of sH3)).isT
      have ht3 := sH3 _ _ htX
      have erg : rgV (g.st : Int) (g.sp : Int) = (nsOf g.st (g.sp - g.st)).map V.int := by
        have := rg_ns g.st (g.sp - g.st)
        rw [← this]
        congr 1
        omega
      rw [erg] at ht3 htX
      have hlns : ((nsOf g.st (g.sp - g.st)).map V.int).length = g.sp - g.st := by unfold nsOf; rw [List.length_map, List.length_map, List.length_range]
      walk_at "st"
      refine s_ixL (w := vk) (sH3.seq hP) (atI_nat (j := i) hvk) ?_
      walk_at "go"
      refine s_listT (SqT.of ht3) fun l nl => ?_
      walk_at "go"
      have hpl : pd ≠ l := ne_of_none hd3 nl
      refine s_extend (by rw [upd_ne hpl]; exact hd3) upd_same ?_ ?_
      · have h1 := congrArg List.length R.cat
        rw [← List.take_append_drop (i + 1) gs, List.map_append, List.flatten_append, List.length_append, List.take_add_one, hg, List.map_append, List.flatten_append, List.length_append] at h1
        have h2 : (nsOf 0 (flBs bs).length).length = (flBs bs).length := by unfold nsOf; rw [List.length_map, List.length_range]
        have h3 : (((some g).toList.map fun g => nsOf g.st (g.sp - g.st)).flatten).length = g.sp - g.st := by
          show ([nsOf g.st (g.sp - g.st)].flatten).length = _
          rw [List.flatten_cons, List.flatten_nil, List.append_nil]
          unfold nsOf
          rw [List.length_map, List.length_range]
        rw [h2] at h1
        rw [List.length_map, hlns]
        rw [h3] at h1
        omega
      have s4 : Same N (upd (upd H3 l (.lst ((nsOf g.st (g.sp - g.st)).map V.int))) pd (.lst ((((gs.take i).map fun g => nsOf g.st (g.sp - g.st)).flatten).map V.int ++ (nsOf g.st (g.sp - g.st)).map V.int))) := (s3.trans (Same.new nl)).put nN
      have hd4 : upd (upd H3 l (.lst ((nsOf g.st (g.sp - g.st)).map V.int))) pd (.lst ((((gs.take i).map fun g => nsOf g.st (g.sp - g.st)).flatten).map V.int ++ (nsOf g.st (g.sp - g.st)).map V.int)) pd = some (.lst ((((gs.take (i + 1)).map fun g => nsOf g.st (g.sp - g.st)).flatten).map V.int)) := by
        rw [upd_same, List.take_add_one, hg, List.map_append, List.flatten_append, List.map_append]
        simp
      generalize upd (upd H3 l (.lst ((nsOf g.st (g.sp - g.st)).map V.int))) pd (.lst ((((gs.take i).map fun g => nsOf g.st (g.sp - g.st)).flatten).map V.int ++ (nsOf g.st (g.sp - g.st)).map V.int)) = H4 at s4 hd4
      have sH4 := sN.trans s4
      have hT4 := hT.mono (TSm.of sH4)
      have hvk4 : IsT K H4 vk [.str "page", .int g.f, .int g.l, .ref t] := (hvkX.mono (TSo.of sH4)).isT
      have ht4 := sH4 _ _ htX
      walk_at "st"
      refine s_ixL (w := vk) (sH4.seq hP) (atI_nat (j := i) hvk) ?_
      walk_at "go"
      refine s_lenT (SqT.of ht4) ?_
      rw [hlns]
      walk_at "go"
      refine s_ifF (decide_eq_false (by omega)) ?_
      walk_at "go"
      try dsimp only
      refine s_forT ?_
      walk_at "go"
      refine s_ixL (w := vk) (sH4.seq hP) (atI_nat (j := i) hvk) ?_
      walk_at "go"
      refine ⟨t, rfl, ⟨_, SqT.of ht4⟩, for_it walk_tup (fun j σ' H' => ∃ v7 v8 v9, σ' = [some (.ref pb), some vf, some (.ref pp), some (.ref pg), some (.ref pd), some (.ref D), some (.int i), v7, v8, v9, none, none] ∧ Same H4 H')
        ⟨_, _, _, rfl, Same.refl _⟩ (fun _ _ _ _ h => let ⟨_, _, _, _, z⟩ := h; SqT.of (z _ _ ht4)) ?_ ?_⟩
      · rintro j y σ' H5' H5 hj ⟨v7, v8, v9, rfl, s5⟩ ⟨rfl, hy⟩
        rw [hlns] at hj
        obtain ⟨z, hz, rfl⟩ := map_int hy
        have ez : z = ((g.st + j : Nat) : Int) := by
          unfold nsOf at hz
          rw [List.getElem?_map, List.getElem?_range hj] at hz
          have e9 : (g.st : Int) + (j : Int) = z := Option.some.inj hz
          omega
        subst ez
        have hfb := List.getElem?_eq_getElem (show g.st + j < (flBs bs).length by omega)
        generalize hfbe : (flBs bs)[g.st + j]'(by omega) = fb at hfb
        have hfbl : fb < bs.length := by
          have := List.mem_of_getElem? hfb
          unfold flBs at this
          have := (List.mem_filter.mp this).1
          rw [List.mem_range] at this
          exact this
        have hpos := R.pos i g (g.st + j) hg (by omega) (by omega) fb hfb
        have s05 := sH4.trans s5
        have sN5 := s4.trans s5
        walk_at "st"
        refine s_lcL ?_
        walk_at "go"
        refine s_slL (s05.seq hG) fun p6 np6 => ?_
        rw [show (i : Int) + 1 = ((i + 1 : Nat) : Int) by omega, cut_take]
        have s6 : Same H5 (upd H5 p6 (.lst (vgs.take (i + 1)))) := Same.new np6
        have hp6 : upd H5 p6 (.lst (vgs.take (i + 1))) p6 = some (.lst (vgs.take (i + 1))) := upd_same
        generalize upd H5 p6 (.lst (vgs.take (i + 1))) = H6 at s6 hp6
        have hG6 : Ls (GrAt K H6) (vgs.take (i + 1)) (grs.take (i + 1)) := (hGs.take (i + 1)).mono fun _ _ z => GrAt.mono (s05.trans s6) z
        refine ⟨p6, rfl, ⟨_, SqL.of hp6⟩, fun D7 nD7 => lc_it walk_list (fun m H' => Same H6 H' ∧ ∃ vls, H' D7 = some (.lst vls) ∧ vls.length ≤ m ∧ Ls (LrAt K H') vls (lasts ((grs.take (i + 1)).take m))) ⟨Same.new nD7, [], upd_same, Nat.le_refl _, .nil⟩ (fun _ _ _ h => SqL.of (h.1 _ _ hp6)) ?_ ?_⟩
        · rintro m y H7' H7 hm ⟨s7, vls, hD7, hvl, hls⟩ ⟨rfl, hy7⟩
          obtain ⟨us, hus, pu, vus, rfl, hpu, hvus⟩ := hG6.getV hy7
          have hpu7 := s7.seq hpu
          have el : lasts ((grs.take (i + 1)).take (m + 1)) = lasts ((grs.take (i + 1)).take m) ++ (us.getLast?).toList := by
            unfold lasts
            rw [List.take_add_one, hus, List.filterMap_append]
            exact congrArg _ (lasts_one us)
          have hmg : m < grs.length := by
            have := (List.getElem?_eq_some_iff.mp hus).1
            rw [List.length_take] at this
            omega
          walk_at "go"
          refine ⟨rfl, ?_⟩
          walk_at "go"
          refine s_lenL hpu7 ?_
          walk_at "go"
          have hlu := hvus.len
          cases hl : us.getLast? with
          | none =>
            have : us = [] := List.getLast?_eq_none_iff.mp hl
            subst this
            refine s_ifF (decide_eq_false (by rw [hlu]; exact Int.lt_irrefl _)) ?_
            refine ⟨s7, vls, hD7, by omega, ?_⟩
            rw [el, hl]
            simpa using hls
          | some u =>
            rw [List.getLast?_eq_getElem?] at hl
            obtain ⟨vu, hvu, hlr⟩ := hvus.get hl
            have hul : 0 < us.length := by
              cases us with
              | nil => cases hl
              | cons a b => exact Nat.zero_lt_succ _
            refine s_ifT (decide_eq_true (by omega)) ?_
            walk_at "go"
            refine s_ixL (w := vu) hpu7 (atI_last (by rw [hlu]; exact hvu)) ?_
            have t8 : TSm H7 (upd H7 D7 (.lst (vls ++ [vu]))) := TSm.lst hD7
            refine ⟨_, hD7, lt1M (by have := R.few; have := R.len; omega), s7.put nD7, _, upd_same, by rw [List.length_append, List.length_singleton]; omega, ?_⟩
            rw [el, List.getLast?_eq_getElem?, hl]
            exact (hls.mono fun _ _ z => z.mono t8).snoc (hlr.mono ((TSm.of s7).trans t8))
        rintro H7 ⟨s7, vls, hD7, hvl, hls⟩
        rw [List.take_of_length_le (by rw [← hG6.len]; exact Nat.le_refl _)] at hls
        walk_at "st"
        refine s_lcR1 ?_
        have s67 := s6.trans s7
        walk_at "go"
        refine s_ixL (w := nV fb) (SqL.of ((sN5.trans s67) _ _ hND)) (atI_nat (j := g.st + j) (by rw [List.getElem?_map, hfb]; rfl)) ?_
        walk_at "go"
        refine ⟨fb, rfl, by omega, by omega, fun D8 nD8 => ?_⟩
        rw [Int.toNat_natCast]
        refine lc_it walk_range (fun m H' => Same H7 H' ∧ H' D8 = some (.lst ((before bs m).map nV))) ⟨Same.new nD8, upd_same⟩ (fun _ _ _ _ => trivial) ?_ ?_
        · rintro m y H8' H8 hm ⟨s8, hD8⟩ ⟨rfl, rfl⟩
          have s08 := (s05.trans s67).trans s8
          obtain ⟨vb, hvb, hbk⟩ := bk_get (hB.mono fun _ _ z => BkAt.mono s08 z) (show m < bs.length by omega)
          obtain ⟨xs, ⟨tb, rfl, htb⟩, hxl⟩ := bk_kd hbk
          show gName 11 (V.int (0 + (m : Int))) _ _ _
          rw [Int.zero_add]
          walk_at "go"
          refine ⟨rfl, ?_⟩
          walk_at "go"
          refine s_ixL (w := .ref tb) (s08.seq hS) (atI_nat (j := m) hvb) ?_
          walk_at "go"
          refine s_lenT htb ?_
          rw [hxl]
          walk_at "go"
          have hbl := List.length_filter_le (fun j => (bs.getD j dBk).kd.txt) (List.range m)
          rw [List.length_range] at hbl
          by_cases hk : (bs.getD m dBk).kd.txt = true
          · refine s_ifT (by rw [if_pos hk]; rfl) ?_
            walk_at "go"
            refine ⟨_, hD8, lt1M (by rw [List.length_map]; unfold before; omega), s8.put nD8, ?_⟩
            rw [upd_same]
            unfold before
            rw [List.range_succ, List.filter_append, List.map_append, filter_one (p := fun j => (bs.getD j dBk).kd.txt) hk]
            rfl
          · refine s_ifF (by rw [if_neg hk]; rfl) ?_
            refine ⟨s8, ?_⟩
            rw [hD8]
            unfold before
            rw [List.range_succ, List.filter_append, List.map_append, filter_zero (p := fun j => (bs.getD j dBk).kd.txt) (by simpa using hk), List.map_nil, List.append_nil]
        rintro H8 ⟨s8, hD8⟩
        have hlL := hls.len
        have t78 : TSm H7 H8 := TSm.of s8
        have hD78 := s8 _ _ hD7
        walk_at "go"
        refine s_lenL (SqL.of hD8) ?_
        rw [List.length_map]
        walk_at "go"
        have sfin : Same H4 H8 := s5.trans (s67.trans s8)
        by_cases hbe : before bs fb = []
        · refine s_ifF (by rw [hbe]; rfl) ?_
          walk_at "go"
          refine s_ifF (by rfl) ?_
          exact ⟨_, _, _, rfl, sfin⟩
        · have hbl : 0 < (before bs fb).length := List.length_pos_iff.mpr hbe
          refine s_ifT (decide_eq_true (by omega)) ?_
          have hj9 : (before bs fb)[(before bs fb).length - 1]? = some ((before bs fb)[(before bs fb).length - 1]'(by omega)) := List.getElem?_eq_getElem (by omega)
          obtain ⟨u, hu9, hju⟩ := hpos _ (List.mem_of_getElem? hj9)
          generalize (before bs fb)[(before bs fb).length - 1]'(by omega) = jl at hj9 hju
          rw [List.getLast?_eq_getElem?] at hu9
          obtain ⟨vu, hvu, hlr⟩ := hls.get hu9
          have hlr8 : IsT K H8 vu [.int u.1, .int u.2] := hlr.mono t78
          have hpos2 : 0 < vls.length := by
            cases vls with
            | nil => cases hvu
            | cons a b => exact Nat.zero_lt_succ _
          walk_at "go"
          refine s_lenL (SqL.of hD78) ?_
          walk_at "go"
          refine s_ifF (decide_eq_false fun h => by have h' := V.int.inj h; omega) ?_
          walk_at "go"
          refine s_ixL (w := vu) (SqL.of hD78) (atI_last (by rw [hlL]; exact hvu)) ?_
          walk_at "go"
          refine s_ixL (w := nV jl) (SqL.of hD8) (atI_last (by rw [List.length_map, List.getElem?_map, hj9]; rfl)) ?_
          walk_at "go"
          refine s_I0 ?_
          walk_at "go"
          refine s_ifF (decide_eq_false (by omega)) ?_
          exact ⟨_, _, _, rfl, sfin⟩
      · rintro σ' H5 ⟨v7, v8, v9, rfl, s5⟩
        exact ⟨_, _, _, _, rfl, s4.trans s5, s5 _ _ hd4⟩
    · rintro σ' H3 ⟨v6, v7, v8, v9, rfl, s3, hd3⟩
      rw [List.take_of_length_le (Nat.le_refl _), R.cat] at hd3
      walk_at "go"
      refine s_lstRg (s_rg1 ?_)
      walk_at "go"
      refine s_lenL (SqL.of (s3 _ _ hND)) ?_
      rw [List.length_map]
      refine ⟨_, rfl, ⟨by omega, by omega, by omega, by omega, ?_⟩, fun r nr => ?_⟩
      · have e2 : (2 : Nat) ^ 24 = 16777216 := by decide
        omega
      · have e3 : rgV 0 ((flBs bs).length : Int) = (nsOf 0 (flBs bs).length).map V.int := by
          have := rg_ns 0 (flBs bs).length
          rw [← this]
          congr 1
          omega
        rw [e3]
        have s4 : Same H3 (upd H3 r (.lst ((nsOf 0 (flBs bs).length).map V.int))) := Same.new nr
        refine ⟨.list ((nsOf 0 (flBs bs).length).map PyData.int), .list ((nsOf 0 (flBs bs).length).map PyData.int), .lst (SqL.of (s4 _ _ hd3)) (dp_ints _), .lst (SqL.of upd_same) (dp_ints _), shaped_ints _, shaped_ints _, ?_⟩
        rw [eqv_ints]
        exact q _ ((sN.trans s3).trans s4)
end
end G
/-! What the law wants of pages, in plain words; helps for its walk. -/
namespace G
open PySem L2
/-! ### plain -/
def lnsOf (bs : List Bk) (k : Nat) : List Lr := (List.range (bs.getD k dBk).ls.length).map fun j => (k, j)
def txtUp (bs : List Bk) (n : Nat) : List Nat := (List.range n).filter fun k => (bs.getD k dBk).kd.txt
def linesOf (bs : List Bk) : List Lr := ((txtUp bs bs.length).map (lnsOf bs)).flatten
def lrOf : Rw → Option Lr
  | .line b l _ _ _ => some (b, l)
  | _ => none
def lrsOf (rs : List Rw) : List Lr := rs.filterMap lrOf
def cutR (rs : List Rw) (f l : Nat) : List Rw := (rs.drop f).take (l - f)
def grp (rs : List Rw) (g : Pg) : List Lr := lrsOf (cutR rs g.f g.l)
def mineOf (bs : List Bk) (us : List Lr) : List Int := (us.map fun u => (lnOf bs u).ns).flatten
def pick (ns : List Int) (is : List Int) : List Int := is.map fun i => ns.getD i.toNat 0
def textsOf (grs : List (List Lr)) : List (List Lr) := grs.filter fun us => decide (0 < us.length)
structure PgOk (F : Fw) (bs : List Bk) (rs : List Rw) (nts fls : List Int) (g : Pg) : Prop where
  fl : g.f ≤ g.l ∧ g.l ≤ rs.length
  ss : g.st ≤ g.sp ∧ g.sp ≤ fls.length
  vl : ∀ u ∈ grp rs g, VL bs u
  ns : ∀ n ∈ mineOf bs (grp rs g), 0 ≤ n ∧ n.toNat < nts.length
  few : (grp rs g).length ≤ 100
  notes : (pick nts (mineOf bs (grp rs g))).sum ≤ F.notes
  high : high F bs (grp rs g) (pick nts (mineOf bs (grp rs g))) (pick fls (nsOf g.st (g.sp - g.st))) ≤ F.height
  inn : ∀ (j : Nat) u v, (grp rs g)[j]? = some u → (grp rs g)[j + 1]? = some v → ¬ PgIn bs u.1 v.1
structure PlainOk (F : Fw) (bs : List Bk) (rs : List Rw) (nts fls : List Int) (gs : List Pg) : Prop where
  pgs : ∀ g ∈ gs, PgOk F bs rs nts fls g
  cat : (gs.map (grp rs)).flatten = linesOf bs
  div : ∀ (k : Nat) us vs u v, (textsOf (gs.map (grp rs)))[k]? = some us → (textsOf (gs.map (grp rs)))[k + 1]? = some vs → us.getLast? = some u → vs[0]? = some v → Divided F bs u v
  fr : FRight F bs gs (gs.map (grp rs))
structure InOk (F : Fw) (bs : List Bk) (nts fls : List Int) : Prop where
  fb : FwB F
  ht : 24 ≤ F.height ∧ F.height ≤ 83
  few : bs.length ≤ 9
  bl : BlB bs nts.length
  nb : ∀ n ∈ nts, 1 ≤ n ∧ n ≤ 6
  fll : fls.length = (flBs bs).length
  flb : ∀ n ∈ fls, 1 ≤ n ∧ n ≤ 12
/-- the plain law: of pages in a chain all holds that is asked -/
def PlainLaw : Prop := ∀ (F : Fw) (bs : List Bk) (nts fls : List Int), InOk F bs nts fls → BsOk bs ∧ ShOk ⟨vertical F bs, nts, fls, F⟩ ∧
  ∀ (gs : List Pg) (s0 : Nat), Sh.start ⟨vertical F bs, nts, fls, F⟩ = (s0 : Int) → PChain ⟨vertical F bs, nts, fls, F⟩ (s0, 0) gs → PlainOk F bs (vertical F bs) nts fls gs
/-! ### heaps -/
theorem del_sub (H : Hp) (D : Addr) : Same (del H D) H := fun b u e => by
  by_cases h : b = D
  · rw [h, del_same] at e
    cases e
  · rw [del_ne h] at e
    exact e
theorem del_mono {H H' : Hp} {D : Addr} (e : Same H H') : Same (del H D) (del H' D) := fun b u h => by
  by_cases hb : b = D
  · rw [hb, del_same] at h
    cases h
  · rw [del_ne hb] at h ⊢
    exact e _ _ h
theorem del_upd {H : Hp} {D : Addr} {o : HO} : del (upd H D o) D = del H D := by
  funext b
  by_cases h : b = D
  · rw [h, del_same, del_same]
  · rw [del_ne h, del_ne h, upd_ne h]
theorem del_free {H : Hp} {D : Addr} (h : H D = none) : Same H (del H D) := fun b u e => by
  rw [del_ne (ne_of_none e h)]
  exact e
theorem del_get {H : Hp} {D b : Addr} {o : HO} (h : H b = some o) (n : b ≠ D) : del H D b = some o := by rw [del_ne n]; exact h
theorem Dr.grow {N H H' : Hp} {a s : Addr} {zs : List Int} (d : Dr N a s zs H) (e : Same H H') : Dr (del H' a) a s zs H' ∧ Same N (del H' a) := by
  have hN : Same N (del H' a) := fun b u h => by
    rw [del_ne (ne_of_none h d.off)]
    exact e _ _ (d.sub _ _ h)
  obtain ⟨i, b, x, h⟩ := d.st
  exact ⟨⟨del_same, del_sub _ _, hN _ _ d.scr, i, b, x, e _ _ h⟩, hN⟩
section
variable {K : PySem.W.Frag}
/-- a group in a list of its own -/
def GrO (K : PySem.W.Frag) (H : Hp) (v : V) (us : List Lr) : Prop := ∃ p vls, v = .ref p ∧ H p = some (.lst vls) ∧ Ls (LrAt K H) vls us
theorem GrO.mono {H H' : Hp} {v : V} {us : List Lr} (e : Same H H') (h : GrO K H v us) : GrO K H' v us := let ⟨p, vls, a, b, c⟩ := h; ⟨p, vls, a, e _ _ b, c.mono fun _ _ z => z.mono (TSm.of e)⟩
theorem GrO.gr {H : Hp} {v : V} {us : List Lr} (h : GrO K H v us) : GrAt K H v us := let ⟨p, vls, a, b, c⟩ := h; ⟨p, vls, a, SqL.of b, c⟩
theorem lists_of {α : Type} {H : Hp} {R : V → α → Prop} : ∀ {vs : List V} {gl : List (List α)}, Ls (fun v us => ∃ p vls, v = .ref p ∧ H p = some (.lst vls) ∧ Ls R vls us) vs gl → ∃ yss : List (List V), Ls (fun x ys => ∃ b, x = .ref b ∧ H b = some (.lst ys)) vs yss ∧ Ls R yss.flatten gl.flatten
  | [], [], _ => ⟨[], .nil, .nil⟩
  | [], _ :: _, h => by cases h.len
  | _ :: _, [], h => by cases h.len
  | v :: vs, us :: gl, h => by
    obtain ⟨p, vls, e1, e2, e3⟩ := h.2 0 v us rfl rfl
    obtain ⟨yss, h1, h2⟩ := lists_of (vs := vs) (gl := gl) ⟨Nat.succ.inj h.len, fun i x b e1 e2 => h.2 (i + 1) x b e1 e2⟩
    refine ⟨vls :: yss, (Ls.one ⟨p, e1, e2⟩).append h1, ?_⟩
    rw [List.flatten_cons, List.flatten_cons]
    exact e3.append h2
/-! ### comparing lists of lines -/
def lrD (u : Lr) : PyData := pairD (ci u)
theorem LrAt.dp {H : Hp} {v : V} {u : Lr} (h : LrAt K H v u) : Dp K H v (lrD u) := PairAt.dp (p := ci u) h
theorem lrs_dp {H : Hp} : ∀ {vs : List V} {us : List Lr}, Ls (LrAt K H) vs us → DpAll K H vs (us.map lrD)
  | [], [], _ => .nil
  | [], _ :: _, h => by cases h.len
  | _ :: _, [], h => by cases h.len
  | v :: vs, p :: ps, h => .cons (h.2 0 v p rfl rfl).dp (lrs_dp ⟨Nat.succ.inj h.len, fun i x a e1 e2 => h.2 (i + 1) x a e1 e2⟩)
theorem canLay_lrs : ∀ us : List Lr, PyData.canLayAll0 (us.map lrD) = true
  | [] => rfl
  | u :: us => by
    show (PyData.canLay0 (lrD u) && PyData.canLayAll0 (us.map lrD)) = true
    rw [canLay_lrs us]
    rfl
theorem depth_lrs : ∀ us : List Lr, PyData.depthAll (us.map lrD) ≤ 1
  | [] => by decide
  | u :: us => by
    have ih := depth_lrs us
    show max (PyData.depth (lrD u)) (PyData.depthAll (us.map lrD)) ≤ 1
    have : PyData.depth (lrD u) = 1 := rfl
    omega
theorem shaped_lrs (us : List Lr) : SeqAt.shaped (.list (us.map lrD)) = true := by
  have h := depth_lrs us
  show (PyData.canLayAll0 (us.map lrD) && decide (PyData.depthAll (us.map lrD) + 1 ≤ 64)) = true
  rw [canLay_lrs, Bool.true_and]
  exact decide_eq_true (by omega)
theorem eqv_lrs (us : List Lr) : PyData.eqv (.list (us.map lrD)) (.list (us.map lrD)) = true := SeqAt.eqv_refl (.list (us.map lrD)) (canLay_lrs us)
end
theorem mine_len {bs : List Bk} {us : List Lr} (h : ∀ u ∈ us, (lnOf bs u).ns.length ≤ 2) : ((us.map fun u => (lnOf bs u).ns).flatten).length ≤ 2 * us.length := by
  induction us with
  | nil => exact Nat.le_refl _
  | cons u us ih =>
    have h1 := h u List.mem_cons_self
    have h2 := ih fun x hx => h x (List.mem_cons_of_mem _ hx)
    rw [List.map_cons, List.flatten_cons, List.length_append, List.length_cons]
    omega
theorem vl_mem {bs : List Bk} {u : Lr} (h : VL bs u) : bkOf bs u ∈ bs ∧ lnOf bs u ∈ (bkOf bs u).ls := ⟨List.mem_of_getElem? (getD_at h.1), List.mem_of_getElem? (getD_at h.2.2)⟩
theorem ns_le {bs : List Bk} {m : Nat} {u : Lr} (hB : BlB bs m) (h : VL bs u) : (lnOf bs u).ns.length ≤ 2 := (hB.ln _ (vl_mem h).1 _ (vl_mem h).2).2.2.1
theorem lrs_snoc {rs : List Rw} {j : Nat} {r : Rw} (h : rs[j]? = some r) : lrsOf (rs.take (j + 1)) = lrsOf (rs.take j) ++ (lrOf r).toList := by
  unfold lrsOf
  rw [List.take_add_one, h, List.filterMap_append]
  show _ ++ List.filterMap lrOf [r] = _
  cases e : lrOf r with
  | none => rw [List.filterMap_cons_none e]; rfl
  | some u => rw [List.filterMap_cons_some e]; rfl
theorem lrs_len (rs : List Rw) : (lrsOf rs).length ≤ rs.length := List.length_filterMap_le ..
theorem lines_len {bs : List Bk} {m : Nat} (h : BlB bs m) : ∀ i, i ≤ bs.length → (((txtUp bs i).map (lnsOf bs)).flatten).length ≤ 5 * i
  | 0, _ => Nat.le_refl _
  | i + 1, hi => by
    have ih := lines_len h i (by omega)
    unfold txtUp at ih ⊢
    rw [List.range_succ, List.filter_append, List.map_append, List.flatten_append, List.length_append]
    by_cases hk : (bs.getD i dBk).kd.txt = true
    · have := (h.ls _ (List.mem_of_getElem? (getD_at (d := dBk) (show i < bs.length by omega))) hk).2
      rw [filter_one (p := fun k => (bs.getD k dBk).kd.txt) hk, List.map_cons, List.map_nil, List.flatten_cons, List.flatten_nil, List.append_nil]
      have e : (lnsOf bs i).length = (bs.getD i dBk).ls.length := by unfold lnsOf; rw [List.length_map, List.length_range]
      omega
    · rw [filter_zero (p := fun k => (bs.getD k dBk).kd.txt) (by simpa using hk), List.map_nil, List.flatten_nil, List.length_nil]
      omega
end G
/-! The law's walk. -/
namespace G
open PySem L2
/-- goes on through a reading as far as it decides itself -/
local macro_rules | `(tactic| walk_at "fact") => `(tactic| first | assumption | ((refine tnew ?_ ?_); assumption; (first | assumption | ((refine tnew ?_ ?_); assumption; (first | assumption | ((refine tnew ?_ ?_); assumption; assumption))))) | ((refine tsame ?_ ?_); assumption; assumption))
local macro_rules | `(tactic| walk_at "go1") => `(tactic| first
  | with_reducible refine s_op ?_ | ((with_reducible refine s_var (v := ?v) ?e ?_); (case e => rfl)) | with_reducible refine s_c ?_
  | with_reducible refine s_cb ?_ | with_reducible refine s_cons ?_ | with_reducible refine s_nil ?_ | with_reducible refine s_ret ?_ | with_reducible refine s_asg ?_ | with_reducible refine s_gname ?_
  | with_reducible refine s_ifS ?_ | with_reducible refine s_test ?_ | with_reducible refine s_B ?_ | with_reducible refine s_bl ?_ | with_reducible refine s_and ?_ | with_reducible refine s_or ?_ | with_reducible refine s_not ?_ | with_reducible refine s_if ?_
  | with_reducible refine s_un ?_ | with_reducible refine s_U ?_ | with_reducible refine s_drop ?_ | with_reducible refine s_next ?_ | with_reducible refine s_tup ?_ | with_reducible refine s_lst ?_ | with_reducible refine s_call ?_ | with_reducible refine s_dget ?_
  | ((with_reducible refine s_len ?h ?_); (case h => rfl)) | with_reducible refine s_notN ?_ | with_reducible refine s_isN ?_ | with_reducible refine s_yes ?_ | with_reducible refine s_fld ?_ | with_reducible refine s_meth ?_ | with_reducible refine s_andV ?_ | with_reducible refine s_orV ?_ | with_reducible refine s_gsub ?_ | with_reducible refine s_chain ?_ | with_reducible refine s_chain3 ?_ | with_reducible refine s_sl ?_ | with_reducible refine s_part ?_ | with_reducible refine s_noPart ?_ | with_reducible refine s_exI ?_ | with_reducible refine s_bm ?_ | ((with_reducible refine s_tyL (xs := ?xs) ?h ?_); (case h => assumption)) | with_reducible refine s_gcons ?_ | with_reducible refine s_gnil ?_ | with_reducible refine s_brk ?_ | with_reducible refine s_cont ?_
  | ((with_reducible refine s_ixT (xs := ?xs) (w := ?w) ?h ?e ?_); (case h => walk_at "fact"); (case e => rfl))
  | with_reducible refine s_max2 ?_ | with_reducible refine s_min2 ?_ | with_reducible refine s_intI ?_ | with_reducible refine s_intB ?_ | with_reducible refine s_I0 ?_ | with_reducible refine s_eqI ?_ | with_reducible refine s_eqS ?_ | with_reducible refine s_neI ?_)
local macro_rules | `(tactic| walk_at "go") => `(tactic| repeat walk_at "go1")
/-- the next statement -/
local macro_rules | `(tactic| walk_at "st") => `(tactic| (walk_at "go"; (with_reducible refine s_seq ?_); walk_at "go"))
/-- the next statement, cut off by a word -/
local macro_rules | `(tactic| walk_at "cut") => `(tactic| with_reducible refine s_cut ?_ ?_ ?_)
section
variable {P : Program} {w : World} {K : PySem.W.Frag} {mg : Str → Option Value} {base : Heap} {Ce Gc fe : Addr}
def spLaw (K : PySem.W.Frag) : Sp := fun vs H Q _ => ∃ (a : Addr) (ns : List Int), vs = [.ref a] ∧ SqL K H a (ns.map V.int) ∧ ns.length ≤ 63 ∧ ∀ H', Q (.bl true) H'
/-- the notes of the blocks so far, a number for each text -/
def manyUp (bs : List Bk) : List Int := (bs.filter fun b => b.kd.txt).map fun b => (manyLs b.ls : Int)
theorem sum_nat : ∀ ns : List Nat, (ns.map fun (n : Nat) => (n : Int)).sum = ((ns.sum : Nat) : Int)
  | [] => rfl
  | n :: ns => by
    rw [List.map_cons, List.sum_cons, List.sum_cons, sum_nat ns]
    omega
theorem many_sum : ∀ {bs : List Bk}, (∀ b ∈ bs, b.kd.txt = false → b.ls = []) → (manyUp bs).sum = (manyBs bs : Int)
  | [], _ => rfl
  | b :: bs, h => by
    have ih := many_sum (bs := bs) fun c hc => h c (List.mem_cons_of_mem _ hc)
    have e : manyBs (b :: bs) = manyLs b.ls + manyBs bs := rfl
    rw [e]
    unfold manyUp at ih ⊢
    cases hk : b.kd.txt with
    | true =>
      rw [List.filter_cons_of_pos (p := fun b : Bk => b.kd.txt) hk, List.map_cons, List.sum_cons, ih]
      omega
    | false =>
      rw [List.filter_cons_of_neg (p := fun b : Bk => b.kd.txt) (by rw [hk]; exact Bool.false_ne_true), ih, h b List.mem_cons_self hk]
      show _ = (((0 : Nat) + manyBs bs : Nat) : Int)
      omega
theorem TSm.del {H : Hp} {a : Addr} {xs : List V} (h : H a = some (.lst xs)) : TSm H (del H a) := fun b ys e => by
  rcases e with e | ⟨ob, e⟩
  · exact .inl (del_get e fun z => by rw [z, h] at e; cases e)
  · exact .inr ⟨ob, del_get e fun z => by rw [z, h] at e; cases e⟩
theorem lrs_ne {H : Hp} {p a : Addr} {vs : List V} {us : List Lr} {x y z u : V} {i : Int} (h : Ls (LrAt K H) vs us) (h1 : H p = some (.lst vs)) (h2 : H a = some (.lst [x, .int i, y, z])) : p ≠ a := fun e => by
  rw [e, h2] at h1
  have e1 := Option.some.inj h1
  injection e1 with e2
  rw [← e2] at h
  obtain ⟨u, _, ⟨t, e3, _⟩⟩ := h.getV (i := 1) (v := .int i) rfl
  cases e3
theorem manyLs_le {ls : List Ln} (h : ∀ l ∈ ls, l.ns.length ≤ 2) : manyLs ls ≤ 2 * ls.length := by
  induction ls with
  | nil => exact Nat.le_refl _
  | cons l ls ih =>
    have h1 := h l List.mem_cons_self
    have h2 := ih fun x hx => h x (List.mem_cons_of_mem _ hx)
    show l.ns.length + manyLs ls ≤ _
    rw [List.length_cons]
    omega
theorem manyBs_le {bs : List Bk} (h : ∀ b ∈ bs, manyLs b.ls ≤ 10) : manyBs bs ≤ 10 * bs.length := by
  induction bs with
  | nil => exact Nat.le_refl _
  | cons b bs ih =>
    have h1 := h b List.mem_cons_self
    have h2 := ih fun x hx => h x (List.mem_cons_of_mem _ hx)
    show manyLs b.ls + manyBs bs ≤ _
    rw [List.length_cons]
    omega
theorem many_le {bs : List Bk} {m : Nat} (h : BlB bs m) : manyBs bs ≤ 10 * bs.length := manyBs_le fun b hb => by
  have h1 := manyLs_le fun l hl => (h.ln b hb l hl).2.2.1
  cases hk : b.kd.txt with
  | true =>
    have := (h.ls b hb hk).2
    omega
  | false =>
    rw [h.nt b hb hk]
    exact Nat.zero_le _
theorem s_callS {sp : Sp} {E : L2.St → XK} {t : TA} {σ : L2.St} {H : Hp} {Q : VK} (h : t σ H fun vs H1 => sp vs H1 Q (E σ)) : tCallS sp E t σ H Q := h
theorem cut_fl {xs : List V} {f l : Nat} (h1 : f ≤ l) (h2 : l ≤ xs.length) : cutV xs (some (f : Int)) (some (l : Int)) = (xs.drop f).take (l - f) := by
  unfold cutV
  rw [HT.sIx_nat, HT.sIx_nat, Nat.min_eq_left h2, Nat.min_eq_left (Nat.le_trans h1 h2)]
theorem Ls.drop {α : Type} {R : V → α → Prop} {vs : List V} {as : List α} (k : Nat) (h : Ls R vs as) : Ls R (vs.drop k) (as.drop k) :=
  ⟨by rw [List.length_drop, List.length_drop, h.1], fun i v a e1 e2 => by
    rw [List.getElem?_drop] at e1 e2
    exact h.2 (k + i) v a e1 e2⟩
theorem s_slT {t : Addr} {xs : List V} {lo hi : Option Int} {H : Hp} {Q : VK} (h : SqT K H t xs) (hw : ¬ (HT.sIx xs.length 0 lo = 0 ∧ HT.sIx xs.length xs.length hi = xs.length)) (q : ∀ p, H p = none → Q (.ref p) (upd H p (.tup (cutV xs lo hi)))) : rSlT K (.ref t) lo hi H Q := ⟨t, xs, rfl, h, hw, q⟩
theorem ch_st {S : Sh} {p : Pt} {gs : List Pg} (h : PChain S p gs) : gs.length ≤ S.cd (S.n, S.places.length) - S.cd p ∨ ∃ g ∈ gs, ¬ g.st ≤ S.places.length := by
  induction gs generalizing p with
  | nil => exact .inl (Nat.zero_le _)
  | cons g gs ih =>
    obtain ⟨e, al, h2⟩ := h
    by_cases hg : g.st ≤ S.places.length
    · rcases ih h2 with h3 | ⟨x, hx, hy⟩
      · have h4 := Sh.cd_lt al (by rw [e]; exact hg)
        left
        rw [List.length_cons]
        have h5 : S.cd (g.l, g.sp) ≤ S.cd (S.n, S.places.length) := by
          have a1 := al.ln
          have a2 : g.sp ≤ S.places.length := by rcases al.place with ⟨_, _, _, z, _⟩ | ⟨_, _, _, _, _, z, _⟩ <;> exact z
          unfold Sh.cd
          have := Nat.mul_le_mul_right (S.places.length + 1) a1
          show g.l * (S.places.length + 1) + g.sp ≤ S.n * (S.places.length + 1) + S.places.length
          have a3 : g.l * (S.places.length + 1) ≤ S.n * (S.places.length + 1) := this
          omega
        omega
      · exact .inr ⟨x, List.mem_cons_of_mem _ hx, hy⟩
    · exact .inr ⟨g, List.mem_cons_self, hg⟩
theorem del_upd_ne {H : Hp} {D D2 : Addr} {o : HO} (h : D2 ≠ D) : del (upd H D2 o) D = upd (del H D) D2 o := by
  funext b
  by_cases hb : b = D
  · rw [hb, del_same, upd_ne h.symm, del_same]
  · rw [del_ne hb]
    by_cases hb2 : b = D2
    · rw [hb2, upd_same, upd_same]
    · rw [upd_ne hb2, upd_ne hb2, del_ne hb]
theorem ls_ints {vs : List V} {ns : List Int} (h : Ls (fun v (n : Int) => v = .int n) vs ns) : vs = ns.map V.int := by
  apply List.ext_getElem?
  intro i
  rw [List.getElem?_map]
  cases hv : vs[i]? with
  | none =>
    have := List.getElem?_eq_none_iff.mp hv
    rw [List.getElem?_eq_none (by have := h.len; omega)]
    rfl
  | some v =>
    obtain ⟨n, h1, h2⟩ := h.getV hv
    rw [h1, h2]
    rfl
abbrev s_law : Stmt := topS 30
theorem sc_law : FnScope ["_law_script", "_law_draws_here", "_law_flow_here", "_law_blocks_here", "_law_lines", "_law_many", "_law_notes", "_law_floats", "_law_rows", "_law_pages", "_law_groups", "_law_k", "_law_mine", "_law_sizes", "_law_j", "_law_texts", "_law_block", "_law_line", "_law_page", "_law_row", "_law_number", "_law_i", "_law_group"] ["_law_script"] (defScope s_law) := ⟨rfl, rfl, rfl, by decide +kernel, rfl, by decide +kernel, by decide +kernel⟩
set_option maxHeartbeats 4000000 in
theorem ok_law {f fb : Addr} {fd fdb : FuncData} (PL : PlainLaw) (F0 : Fun K "law" "law" s_law f fd) (T : Txt mg) (O : Own K mg Ce Gc fe) (Cl_draws : Cl P w K mg base CX0 "_law_draws" 1 ["_law_script"] (spDraws K)) (Cl_draw : Cl P w K mg base CX0 "_law_draw" 1 ["_law_draws_here", "_law_limit"] (spDraw K))
    (Cl_flow : Cl P w K mg base CX0 "_law_flow" 3 ["_law_draws_here", "_law_height"] (spLFlow K)) (Cl_blocks : Cl P w K mg base CX0 "_law_blocks" 2 ["_law_draws_here"] (spLBlocks K)) (Cvertical : Cl P w K mg base CX0 "vertical" 3 ["blocks", "flow"] (spVertical K))
    (FB : FnOk P w K mg base (L2.CX P w) 6 fb fdb ["matter"] (spBest K Ce)) (gB : mg "best_pages" = some (.ref fb)) (kB : PySem.W.keepIn K (.ref fb) = true) (bB : Binds K fdb ["matter"] [])
    (Cl_high : Cl P w K mg base CX0 "_law_high" 2 ["_law_flow_here", "_law_blocks_here", "_law_lines", "_law_notes", "_law_floats"] (spHigh K)) (Cl_divided : Cl P w K mg base CX0 "_law_divided" 1 ["_law_flow_here", "_law_blocks_here", "_law_upper", "_law_lower"] (spDivided K))
    (Cl_floats_right : Cl P w K mg base CX0 "_law_floats_right" 1 ["_law_blocks_here", "_law_flow_here", "_law_pages", "_law_groups"] (spFloatsRight K)) : FnOk P w K mg base CX0 7 f fd ["_law_script"] (spLaw K) := by
  refine F0.ok sc_law (fun vs H Q E h => ?_) (fun cdv A outer s H vs Q E hr h => ?_)
  · obtain ⟨_, _, rfl, _⟩ := h
    rfl
  · obtain ⟨p0, ns0, rfl, hp0, hn0, q⟩ := h
    have hu := hu_of hr
    have e62 : (2 : Int) ^ 62 = 4611686018427387904 := by decide
    refine ⟨_, (pss_cons (ps_set (i := 1) sc_law.nd rfl (Or.inr rfl) (pe_cl Cl_draws hr (by rfl) pass0 (pa_cons (pv 0) pa_nil)))
      (pss_cons (ps_set (i := 2) sc_law.nd rfl (Or.inl rfl) (pe_cl Cl_flow hr (by rfl) pass0 (pa_cons (pv 1) (pa_cons (pe_op op_add pe_int (pe_cl Cl_draw hr (by rfl) pass0 (pa_cons (pv 1) (pa_cons pe_int pa_nil)))) pa_nil))))
      (pss_cons (ps_set (i := 3) sc_law.nd rfl (Or.inr rfl) (pe_cl Cl_blocks hr (by rfl) pass0 (pa_cons (pv 1) pa_nil)))
      (pss_cons (ps_set (i := 4) sc_law.nd rfl (Or.inl rfl) (pe_callB (c_sumL rfl) (by rfl) T.sum (by decide +kernel) (pa_cons (pe_lc (own := [("_law_k", 11)]) (g := (gName 11)) (tt := (tTest (tOp rEq (tCB (rLen K) (tCons (tOp (rIxL K) (tVar 3) (tVar 11)) tNil)) (tC (.int 2))))) (te := (tLc (iRng1 (tCons (tCB (rLen K) (tCons (tOp (rIxT K) (tOp (rIxL K) (tVar 3) (tVar 11)) (tC (.int 1))) tNil)) tNil)) (gName 14) tYes (tTup (tCons (tVar 11) (tCons (tVar 14) tNil))) [14])) rfl sc_law.nd (pi_range1 rfl T.range (pa_cons (pe_callB c_len (by rfl) T.len (by decide +kernel) (pa_cons (pv 3) pa_nil)) pa_nil)) (blkOk_by (by kernel_rfl)) (fun _ _ _ _ _ => (pg_name (i := 11) sc_law.nd rfl (Or.inr rfl))) (fun _ _ _ _ _ => (pts_one (pt_cmpR op_eq (pe_callB c_len (by rfl) T.len (by decide +kernel) (pa_cons (pe_ix ix_list (pv 3) (pv 11) (fun _ _ => rfl)) pa_nil)) pe_int (nomark _)))) (fun _ _ _ _ _ => (pe_lc (own := [("_law_j", 14)]) (g := (gName 14)) (tt := tYes) (te := (tTup (tCons (tVar 11) (tCons (tVar 14) tNil)))) rfl sc_law.nd (pi_range1 rfl T.range (pa_cons (pe_callB c_len (by rfl) T.len (by decide +kernel) (pa_cons (pe_ix ix_tup (pe_ix ix_list (pv 3) (pv 11) (fun _ _ => rfl)) pe_int (fun _ _ => rfl)) pa_nil)) pa_nil)) (blkOk_by (by kernel_rfl)) (fun _ _ _ _ _ => (pg_name (i := 14) sc_law.nd rfl (Or.inl rfl))) (fun _ _ _ _ _ => pts_nil) (fun _ _ _ _ _ => (pe_tup (pa_cons (pv 11) (pa_cons (pv 14) pa_nil))))))) (pa_cons (pe_lst pa_nil) pa_nil))))
      (pss_cons (ps_set (i := 5) sc_law.nd rfl (Or.inl rfl) (pe_callB (cr_sum rfl) (by rfl) T.sum (by decide +kernel) (pa_cons (pe_lc (own := [("_law_block", 16)]) (g := (gName 16)) (tt := (tTest (tOp rEq (tCB (rLen K) (tCons (tVar 16) tNil)) (tC (.int 2))))) (te := (tCB (rSum K) (tCons (tLc (iList K (tOp (rIxT K) (tVar 16) (tC (.int 1)))) (gName 17) tYes (tCB (rLen K) (tCons (tOp (rIxT K) (tVar 17) (tC (.int 2))) tNil)) [17]) tNil))) rfl sc_law.nd (pi_list (pv 3)) (blkOk_by (by kernel_rfl)) (fun _ _ _ _ _ => (pg_name (i := 16) sc_law.nd rfl (Or.inl rfl))) (fun _ _ _ _ _ => (pts_one (pt_cmpR op_eq (pe_callB c_len (by rfl) T.len (by decide +kernel) (pa_cons (pv 16) pa_nil)) pe_int (nomark _)))) (fun _ _ _ _ _ => (pe_callB (cr_sum rfl) (by rfl) T.sum (by decide +kernel) (pa_cons (pe_lc (own := [("_law_line", 17)]) (g := (gName 17)) (tt := tYes) (te := (tCB (rLen K) (tCons (tOp (rIxT K) (tVar 17) (tC (.int 2))) tNil))) rfl sc_law.nd (pi_list (pe_ix ix_tup (pv 16) pe_int (fun _ _ => rfl))) (blkOk_by (by kernel_rfl)) (fun _ _ _ _ _ => (pg_name (i := 17) sc_law.nd rfl (Or.inl rfl))) (fun _ _ _ _ _ => pts_nil) (fun _ _ _ _ _ => (pe_callB c_len (by rfl) T.len (by decide +kernel) (pa_cons (pe_ix ix_tup (pv 17) pe_int (fun _ _ => rfl)) pa_nil)))) pa_nil)))) pa_nil)))
      (pss_cons (ps_set (i := 6) sc_law.nd rfl (Or.inr rfl) (pe_lc (own := [("_law_k", 11)]) (g := (gName 11)) (tt := tYes) (te := (tOp (rI0 fun i j => .int (i + j)) (tC (.int 1)) (tCall (spDraw K) [] E0 (tCons (tVar 1) (tCons (tC (.int 6)) tNil))))) rfl sc_law.nd (pi_range1 rfl T.range (pa_cons (pv 5) pa_nil)) (blkOk_by (by kernel_rfl)) (fun _ _ _ _ _ => (pg_name (i := 11) sc_law.nd rfl (Or.inl rfl))) (fun _ _ _ _ _ => pts_nil) (fun _ _ _ _ _ => (pe_op op_add pe_int (pe_cl Cl_draw hr (by rfl) pass0 (pa_cons (pv 1) (pa_cons pe_int pa_nil)))))))
      (pss_cons (ps_set (i := 7) sc_law.nd rfl (Or.inr rfl) (pe_lc (own := [("_law_block", 16)]) (g := (gName 16)) (tt := (tTest (tOp rEq (tOp (rIxT K) (tVar 16) (tC (.int 0))) (tC (.str "float"))))) (te := (tOp (rI0 fun i j => .int (i + j)) (tC (.int 1)) (tCall (spDraw K) [] E0 (tCons (tVar 1) (tCons (tC (.int 12)) tNil))))) rfl sc_law.nd (pi_list (pv 3)) (blkOk_by (by kernel_rfl)) (fun _ _ _ _ _ => (pg_name (i := 16) sc_law.nd rfl (Or.inl rfl))) (fun _ _ _ _ _ => (pts_one (pt_cmpR op_eq (pe_ix ix_tup (pv 16) pe_int (fun _ _ => rfl)) pe_str (nomark _)))) (fun _ _ _ _ _ => (pe_op op_add pe_int (pe_cl Cl_draw hr (by rfl) pass0 (pa_cons (pv 1) (pa_cons pe_int pa_nil)))))))
      (pss_cons (ps_set (i := 8) sc_law.nd rfl (Or.inr rfl) (pe_cl Cvertical hr (by rfl) pass0 (pa_cons (pv 3) (pa_cons (pv 2) pa_nil))))
      (pss_cons (ps_try_only (tb := fun W => tAsg (tCallS (spBest K Ce) (WE W) (tCons (tTup (tCons (tC (.str "matter")) (tCons (tVar 8) (tCons (tVar 6) (tCons (tVar 7) (tCons (tVar 2) tNil)))))) tNil)) (gName 9)) (ts := fun _ _ _ => tRet (tC (.bl true))) (Wout := fun _ _ _ _ => False) rfl rfl ⟨rfl, by decide, Or.inl O.gC⟩ takes0 (fun W pn xe tk _ => pss_one (ps_set (i := 9) sc_law.nd rfl (Or.inl rfl) (pe_callS FB (hr.mono (by decide)) (by rfl) gB kB bB (fun σ => passAt tk σ) (by exact (pa_cons (pe_tup (pa_cons pe_str (pa_cons (pv 8) (pa_cons (pv 6) (pa_cons (pv 7) (pa_cons (pv 2) pa_nil)))))) pa_nil))))) (fun _ _ _ _ _ _ _ => pss_one (ps_ret pe_bl)))
      (pss_cons (ps_setLc (i := 10) (own := [("_law_page", 18)]) (g := (gName 18)) (tt := tYes) (te := (tLc (iList K (tSl (rSlL K) (tVar 8) (tPart (tOp (rIxT K) (tVar 18) (tC (.int 1)))) (tPart (tOp (rIxT K) (tVar 18) (tC (.int 2)))))) (gName 19) (tTest (tOp rEq (tOp (rIxT K) (tVar 19) (tC (.int 0))) (tC (.str "line")))) (tSl (rSlT K) (tVar 19) (tPart (tC (.int 1))) (tPart (tC (.int 3)))) [19])) rfl sc_law.nd rfl rfl (sw_true rfl rfl rfl (by decide +kernel)) (pi_list (pv 9)) (blkOk_by (by kernel_rfl)) (fun _ _ _ _ _ => (pg_name (i := 18) sc_law.nd rfl (Or.inl rfl))) (fun _ _ _ _ _ => pts_nil) (fun _ _ _ _ _ => (pe_lc (own := [("_law_row", 19)]) (g := (gName 19)) (tt := (tTest (tOp rEq (tOp (rIxT K) (tVar 19) (tC (.int 0))) (tC (.str "line"))))) (te := (tSl (rSlT K) (tVar 19) (tPart (tC (.int 1))) (tPart (tC (.int 3))))) rfl sc_law.nd (pi_list (pe_slice sl_list (pv 8) (po_some (pe_ix ix_tup (pv 18) pe_int (fun _ _ => rfl))) (po_some (pe_ix ix_tup (pv 18) pe_int (fun _ _ => rfl))))) (blkOk_by (by kernel_rfl)) (fun _ _ _ _ _ => (pg_name (i := 19) sc_law.nd rfl (Or.inl rfl))) (fun _ _ _ _ _ => (pts_one (pt_cmpR op_eq (pe_ix ix_tup (pv 19) pe_int (fun _ _ => rfl)) pe_str (nomark _)))) (fun _ _ _ _ _ => (pe_slice sl_tup (pv 19) (po_some pe_int) (po_some pe_int))))))
      (pss_cons (ps_if (pt_cmpR (op_neD (hu64 hr)) (pe_callB (c_sumL rfl) (by rfl) T.sum (by decide +kernel) (pa_cons (pv 10) (pa_cons (pe_lst pa_nil) pa_nil))) (pv 4) (nomark _))
        (pss_one (ps_ret pe_bl))
        pss_nil)
      (pss_cons (ps_for PassesOwn.never rfl (pi_range1 rfl T.range (pa_cons (pe_callB c_len (by rfl) T.len (by decide +kernel) (pa_cons (pv 9) pa_nil)) pa_nil)) (pg_name (i := 11) sc_law.nd rfl (Or.inl rfl))
        (pss_cons (ps_set (i := 12) sc_law.nd rfl (Or.inl rfl) (pe_callB (c_sumL rfl) (by rfl) T.sum (by decide +kernel) (pa_cons (pe_lc (own := [("_law_line", 17)]) (g := (gName 17)) (tt := tYes) (te := (tCB (rListOf K) (tCons (tOp (rIxT K) (tOp (rIxL K) (tOp (rIxT K) (tOp (rIxL K) (tVar 3) (tOp (rIxT K) (tVar 17) (tC (.int 0)))) (tC (.int 1))) (tOp (rIxT K) (tVar 17) (tC (.int 1)))) (tC (.int 2))) tNil))) rfl sc_law.nd (pi_list (pe_ix ix_list (pv 10) (pv 11) (fun _ _ => rfl))) (blkOk_by (by kernel_rfl)) (fun _ _ _ _ _ => (pg_name (i := 17) sc_law.nd rfl (Or.inl rfl))) (fun _ _ _ _ _ => pts_nil) (fun _ _ _ _ _ => (pe_callTy c_list (by rfl) T.list (by decide +kernel) (pa_cons (pe_ix ix_tup (pe_ix ix_list (pe_ix ix_tup (pe_ix ix_list (pv 3) (pe_ix ix_tup (pv 17) pe_int (fun _ _ => rfl)) (fun _ _ => rfl)) pe_int (fun _ _ => rfl)) (pe_ix ix_tup (pv 17) pe_int (fun _ _ => rfl)) (fun _ _ => rfl)) pe_int (fun _ _ => rfl)) pa_nil)))) (pa_cons (pe_lst pa_nil) pa_nil))))
        (pss_cons (ps_setLc (i := 13) (own := [("_law_number", 20)]) (g := (gName 20)) (tt := tYes) (te := (tOp (rIxL K) (tVar 6) (tVar 20))) rfl sc_law.nd rfl rfl (sw_true rfl rfl rfl (by decide +kernel)) (pi_list (pv 12)) (blkOk_by (by kernel_rfl)) (fun _ _ _ _ _ => (pg_name (i := 20) sc_law.nd rfl (Or.inl rfl))) (fun _ _ _ _ _ => pts_nil) (fun _ _ _ _ _ => (pe_ix ix_list (pv 6) (pv 20) (fun _ _ => rfl))))
        (pss_cons (ps_if (PW.pt (pw_or (pt_cmpR op_gt (pe_callB (cr_sum rfl) (by rfl) T.sum (by decide +kernel) (pa_cons (pv 13) pa_nil)) (pe_ix ix_tup (pv 2) pe_int (fun _ _ => rfl)) (nomark _)) (pw_or1 (pt_cmpR op_gt (pe_cl Cl_high hr (by rfl) pass0 (pa_cons (pv 2) (pa_cons (pv 3) (pa_cons (pe_ix ix_list (pv 10) (pv 11) (fun _ _ => rfl)) (pa_cons (pv 13) (pa_cons (pe_lc (own := [("_law_number", 20)]) (g := (gName 20)) (tt := tYes) (te := (tOp (rIxL K) (tVar 7) (tVar 20))) rfl sc_law.nd (pi_tup (pe_ix ix_tup (pe_ix ix_list (pv 9) (pv 11) (fun _ _ => rfl)) pe_int (fun _ _ => rfl))) (blkOk_by (by kernel_rfl)) (fun _ _ _ _ _ => (pg_name (i := 20) sc_law.nd rfl (Or.inl rfl))) (fun _ _ _ _ _ => pts_nil) (fun _ _ _ _ _ => (pe_ix ix_list (pv 7) (pv 20) (fun _ _ => rfl)))) pa_nil)))))) (pe_ix ix_tup (pv 2) pe_int (fun _ _ => rfl)) (nomark _)))))
          (pss_one (ps_ret pe_bl))
          pss_nil)
        (pss_one (ps_for PassesOwn.never rfl (pi_range2 rfl T.range (pa_cons pe_int (pa_cons (pe_callB c_len (by rfl) T.len (by decide +kernel) (pa_cons (pe_ix ix_list (pv 10) (pv 11) (fun _ _ => rfl)) pa_nil)) pa_nil))) (pg_name (i := 14) sc_law.nd rfl (Or.inl rfl))
          (pss_one (ps_if (pt_cmpR op_in_seq pe_str (pe_lc (own := [("_law_i", 21)]) (g := (gName 21)) (tt := tYes) (te := (tOp (rIxT K) (tOp (rIxL K) (tVar 3) (tVar 21)) (tC (.int 0)))) rfl sc_law.nd (pi_range2 rfl T.range (pa_cons (pe_ix ix_tup (pe_ix ix_list (pe_ix ix_list (pv 10) (pv 11) (fun _ _ => rfl)) (pe_op op_sub (pv 14) pe_int) (fun _ _ => rfl)) pe_int (fun _ _ => rfl)) (pa_cons (pe_ix ix_tup (pe_ix ix_list (pe_ix ix_list (pv 10) (pv 11) (fun _ _ => rfl)) (pv 14) (fun _ _ => rfl)) pe_int (fun _ _ => rfl)) pa_nil))) (blkOk_by (by kernel_rfl)) (fun _ _ _ _ _ => (pg_name (i := 21) sc_law.nd rfl (Or.inl rfl))) (fun _ _ _ _ _ => pts_nil) (fun _ _ _ _ _ => (pe_ix ix_tup (pe_ix ix_list (pv 3) (pv 21) (fun _ _ => rfl)) pe_int (fun _ _ => rfl)))) (by rfl))
            (pss_one (ps_ret pe_bl))
            pss_nil))))))))
      (pss_cons (ps_setLc (i := 15) (own := [("_law_group", 22)]) (g := (gName 22)) (tt := (tTest (tOp (rI0 fun i j => .bl (decide (j < i))) (tCB (rLen K) (tCons (tVar 22) tNil)) (tC (.int 0))))) (te := (tVar 22)) rfl sc_law.nd rfl rfl (sw_true rfl rfl rfl (by decide +kernel)) (pi_list (pv 10)) (blkOk_by (by kernel_rfl)) (fun _ _ _ _ _ => (pg_name (i := 22) sc_law.nd rfl (Or.inl rfl))) (fun _ _ _ _ _ => (pts_one (pt_cmpR op_gt (pe_callB c_len (by rfl) T.len (by decide +kernel) (pa_cons (pv 22) pa_nil)) pe_int (nomark _)))) (fun _ _ _ _ _ => (pv 22)))
      (pss_cons (ps_for PassesOwn.never rfl (pi_range2 rfl T.range (pa_cons pe_int (pa_cons (pe_callB c_len (by rfl) T.len (by decide +kernel) (pa_cons (pv 15) pa_nil)) pa_nil))) (pg_name (i := 11) sc_law.nd rfl (Or.inl rfl))
        (pss_one (ps_if (pt_not (pt_val (pe_cl Cl_divided hr (by rfl) pass0 (pa_cons (pv 2) (pa_cons (pv 3) (pa_cons (pe_ix ix_list (pe_ix ix_list (pv 15) (pe_op op_sub (pv 11) pe_int) (fun _ _ => rfl)) (pe_un un_neg pe_int) (fun _ _ => rfl)) (pa_cons (pe_ix ix_list (pe_ix ix_list (pv 15) (pv 11) (fun _ _ => rfl)) pe_int (fun _ _ => rfl)) pa_nil)))))))
          (pss_one (ps_ret pe_bl))
          pss_nil)))
      (pss_one (ps_ret (pe_cl Cl_floats_right hr (by rfl) pass0 (pa_cons (pv 3) (pa_cons (pv 2) (pa_cons (pv 9) (pa_cons (pv 10) pa_nil))))))))))))))))))))), ?_⟩
    try dsimp only [cxOf, L2.Cx.nox, L2.Cx.wish]
    walk_at "st"
    refine ⟨p0, ns0, rfl, hp0, fun a s0 H1 na ns hsa D1 => ?_⟩
    generalize upd H s0 (.lst (ns0.map V.int)) = N1 at D1
    walk_at "st"
    refine ⟨a, s0, _, N1, _, rfl, D1, by decide, by decide, fun v1 H2 hv1 D2 => ?_⟩
    walk_at "go"
    refine ⟨a, s0, _, N1, _, rfl, D2, fun N3 vf F g0 c0 H3 s3 D3 hF3 hht hFB => ?_⟩
    walk_at "st"
    refine ⟨a, s0, _, N3, rfl, D3, fun N4 pb vbs bs m H4 s4 D4 hpb4 hbs4 hbl hBl => ?_⟩
    have hF4 := hF3.mono s4
    have hF4H := hF4.mono D4.sub
    have hB4H := hbs4.mono fun _ _ z => BkAt.mono D4.sub z
    have hpb4H := D4.sub _ _ hpb4
    walk_at "st"
    refine s_lcR1 ?_
    walk_at "go"
    refine s_lenL (SqL.of hpb4H) ?_
    rw [hB4H.len]
    walk_at "go"
    refine ⟨_, rfl, by omega, by omega, fun D nD => ?_⟩
    rw [Int.toNat_natCast]
    refine lc_it walk_range (fun i H' => Same H4 H' ∧ ∃ vxs, H' D = some (.lst vxs) ∧ vxs.length ≤ i ∧ Ls (GrO K (del H' D)) vxs ((txtUp bs i).map (lnsOf bs))) ⟨Same.new nD, [], upd_same, Nat.le_refl _, .nil⟩ (fun _ _ _ _ => trivial) ?_ ?_
    · rintro i y H5' H5 hi ⟨s5, vxs, hD, hvl, hgs⟩ ⟨rfl, rfl⟩
      obtain ⟨vb, hvb, hbk⟩ := bk_get (hB4H.mono fun _ _ z => BkAt.mono s5 z) hi
      obtain ⟨xs, ⟨tb, rfl, htb⟩, hxl⟩ := bk_kd hbk
      show gName 11 (V.int (0 + (i : Int))) _ _ _
      rw [Int.zero_add]
      walk_at "go"
      refine ⟨rfl, ?_⟩
      walk_at "go"
      refine s_ixL (w := .ref tb) (SqL.of (s5 _ _ hpb4H)) (atI_nat (j := i) hvb) ?_
      walk_at "go"
      refine s_lenT htb ?_
      rw [hxl]
      walk_at "go"
      by_cases hk : (bs.getD i dBk).kd.txt = true
      · refine s_ifT (by rw [if_pos hk]; rfl) ?_
        obtain ⟨qb, hqb, pq, vls, rfl, hvls, hlls⟩ := hbk.1 hk
        have hls5 := hBl.ls _ (List.mem_of_getElem? (getD_at (d := dBk) hi)) hk
        refine s_lcR1 ?_
        walk_at "go"
        refine s_ixL (w := .ref tb) (SqL.of (s5 _ _ hpb4H)) (atI_nat (j := i) hvb) ?_
        walk_at "go"
        refine s_lenL hvls ?_
        rw [hlls.len]
        walk_at "go"
        refine ⟨_, rfl, by omega, by omega, fun D2 nD2 => ?_⟩
        rw [Int.toNat_natCast]
        refine lc_it walk_range (fun j H' => Same H5 H' ∧ ∃ vus, H' D2 = some (.lst vus) ∧ vus.length ≤ j ∧ Ls (LrAt K (del H' D)) vus ((List.range j).map fun j => ((i, j) : Lr))) ⟨Same.new nD2, [], upd_same, Nat.le_refl _, .nil⟩ (fun _ _ _ _ => trivial) ?_ ?_
        · rintro j y H6' H6 hj ⟨s6, vus, hD2, hvu, hus⟩ ⟨rfl, rfl⟩
          show gName 14 (V.int (0 + (j : Int))) _ _ _
          rw [Int.zero_add]
          walk_at "go"
          refine ⟨rfl, ?_⟩
          walk_at "go"
          refine s_ifT rfl ?_
          walk_at "go"
          intro t nt
          have s7 : Same H6 (upd H6 t (.tup [.int i, .int j])) := Same.new nt
          have ht7 : upd H6 t (.tup [.int i, .int j]) t = some (.tup [.int i, .int j]) := upd_same
          have htD : t ≠ D := fun e => by have := s6 _ _ hD; rw [← e, nt] at this; cases this
          generalize upd H6 t (.tup [.int i, .int j]) = H7 at s7 ht7
          have hD27 := s7 _ _ hD2
          have hD2D : D2 ≠ D := fun e => by rw [e, hD] at nD2; cases nD2
          have t8 : TSm (del H7 D) (del (upd H7 D2 (.lst (vus ++ [.ref t]))) D) := by
            rw [del_upd_ne hD2D]
            exact TSm.lst (del_get hD27 hD2D)
          refine ⟨_, hD27, lt1M (by omega), (s6.trans s7).put nD2, _, upd_same, by rw [List.length_append, List.length_singleton]; omega, ?_⟩
          rw [List.range_succ, List.map_append]
          exact ((hus.mono fun _ _ z => (z.mono (TSm.of (del_mono s7))).mono t8)).snoc (LrAt.mono t8 ⟨t, rfl, SqT.of (del_get ht7 htD)⟩)
        rintro H6 ⟨s6, vus, hD2, hvu, hus⟩
        have hD6 := s6 _ _ hD
        have hD2D : D2 ≠ D := fun e => by rw [e, hD] at nD2; cases nD2
        refine ⟨_, hD6, lt1M (by omega), (s5.trans s6).put nD, _, upd_same, by rw [List.length_append, List.length_singleton]; omega, ?_⟩
        rw [del_upd]
        unfold txtUp
        rw [List.range_succ, List.filter_append, List.map_append, filter_one (p := fun k => (bs.getD k dBk).kd.txt) hk]
        exact (hgs.mono fun _ _ z => z.mono (del_mono s6)).snoc ⟨D2, vus, rfl, del_get hD2 hD2D, hus⟩
      · refine s_ifF (by rw [if_neg hk]; rfl) ?_
        refine ⟨s5, vxs, hD, by omega, ?_⟩
        unfold txtUp
        rw [List.range_succ, List.filter_append, List.map_append, filter_zero (p := fun k => (bs.getD k dBk).kd.txt) (by simpa using hk), List.map_nil, List.append_nil]
        exact hgs
    rintro H5 ⟨s5, vxs, hD, hvl, hgs⟩
    walk_at "go"
    intro b0 nb0
    have s6 : Same H5 (upd H5 b0 (.lst [])) := Same.new nb0
    have hb06 : upd H5 b0 (.lst []) b0 = some (.lst []) := upd_same
    generalize upd H5 b0 (.lst []) = H6 at s6 hb06
    obtain ⟨yss, hy1, hy2⟩ := lists_of (hgs.mono fun _ _ z => GrO.mono ((del_sub H5 D).trans s6) z)
    walk_at "go"
    refine ⟨D, b0, vxs, yss, rfl, SqL.of (s6 _ _ hD), hb06, hy1, ?_, fun pL H7 s7 hpL => ?_⟩
    · rw [hy2.len]
      have := lines_len hBl bs.length (Nat.le_refl _)
      omega
    have hlines : Ls (LrAt K H7) yss.flatten (linesOf bs) := hy2.mono fun _ _ z => z.mono (TSm.of s7)
    generalize yss.flatten = vlines at hpL hlines
    clear hy1 hy2 hb06 hgs
    have s47 := s5.trans (s6.trans s7)
    clear nD hD hvl s5 s6 s7
    walk_at "st"
    refine s_lcL ?_
    walk_at "go"
    refine ⟨pb, rfl, ⟨_, SqL.of (s47 _ _ hpb4H)⟩, fun D8 nD8 => lc_it walk_list (fun i H' => Same H7 H' ∧ H' D8 = some (.lst ((manyUp (bs.take i)).map V.int))) ⟨Same.new nD8, upd_same⟩ (fun _ _ _ h => SqL.of (h.1 _ _ (s47 _ _ hpb4H))) ?_ ?_⟩
    · rintro i y H8' H8 hi ⟨s8, hD8⟩ ⟨rfl, hy⟩
      obtain ⟨b, hb, hbk⟩ := (hB4H.mono fun _ _ z => BkAt.mono (s47.trans s8) z).getV hy
      obtain ⟨xs, ⟨tb, rfl, htb⟩, hxl⟩ := bk_kd hbk
      have hib := (List.getElem?_eq_some_iff.mp hb).1
      have hbm := List.mem_of_getElem? hb
      have hml : (manyUp (bs.take i)).length ≤ i := by
        unfold manyUp
        rw [List.length_map]
        have := List.length_filter_le (fun b : Bk => b.kd.txt) (bs.take i)
        rw [List.length_take] at this
        omega
      walk_at "go"
      refine ⟨rfl, ?_⟩
      walk_at "go"
      refine s_lenT htb ?_
      rw [hxl]
      walk_at "go"
      by_cases hk : b.kd.txt = true
      · refine s_ifT (by rw [if_pos hk]; rfl) ?_
        obtain ⟨qb, hqb, pq, vls, rfl, hvls, hlls⟩ := hbk.1 hk
        walk_at "go"
        refine s_lcL ?_
        walk_at "go"
        refine ⟨pq, rfl, ⟨_, hvls⟩, fun D9 nD9 => lc_it walk_list (fun j H' => Same H8 H' ∧ H' D9 = some (.lst (((b.ls.take j).map fun l => (l.ns.length : Int)).map V.int))) ⟨Same.new nD9, upd_same⟩ (fun _ _ _ h => h.1.seq hvls) ?_ ?_⟩
        · rintro j y H9' H9 hj ⟨s9, hD9⟩ ⟨rfl, hy9⟩
          obtain ⟨l, hl, n, hlT, tn, rfl, htn⟩ := hlls.getV hy9
          have hlT9 := hlT.mono (TSm.of s9)
          have hjl := (List.getElem?_eq_some_iff.mp hl).1
          have h5 := (hBl.ls _ hbm hk).2
          walk_at "go"
          refine ⟨rfl, ?_⟩
          walk_at "go"
          refine s_ifT rfl ?_
          walk_at "go"
          refine s_lenT (sqT s9 htn) ?_
          rw [List.length_map]
          refine ⟨_, hD9, lt1M (by rw [List.length_map, List.length_map, List.length_take]; omega), s9.put nD9, ?_⟩
          rw [upd_same, List.take_add_one, hl, List.map_append, List.map_append]
          rfl
        rintro H9 ⟨s9, hD9⟩
        rw [hlls.len, List.take_of_length_le (Nat.le_refl _)] at hD9
        walk_at "go"
        refine s_sum (SqL.of hD9) ?_
        have e1 : (b.ls.map fun l => (l.ns.length : Int)).sum = (manyLs b.ls : Int) := by
          unfold manyLs
          rw [← sum_nat, List.map_map]
          rfl
        rw [e1]
        refine ⟨_, s9 _ _ hD8, lt1M (by rw [List.length_map]; omega), (s8.trans s9).put nD8, ?_⟩
        rw [upd_same, List.take_add_one, hb]
        unfold manyUp
        rw [List.filter_append, List.map_append, List.map_append]
        show _ = some (HO.lst (_ ++ (([b].filter fun b => b.kd.txt).map fun b => (manyLs b.ls : Int)).map V.int))
        rw [List.filter_cons_of_pos (p := fun b : Bk => b.kd.txt) hk]
        rfl
      · refine s_ifF (by rw [if_neg hk]; rfl) ?_
        refine ⟨s8, ?_⟩
        rw [hD8, List.take_add_one, hb]
        unfold manyUp
        rw [List.filter_append, List.map_append, List.map_append]
        show _ = some (HO.lst (_ ++ (([b].filter fun b => b.kd.txt).map fun b => (manyLs b.ls : Int)).map V.int))
        rw [List.filter_cons_of_neg (p := fun b : Bk => b.kd.txt) hk]
        exact congrArg some (congrArg HO.lst (List.append_nil _).symm)
    rintro H8 ⟨s8, hD8⟩
    rw [hB4H.len, List.take_of_length_le (Nat.le_refl _)] at hD8
    walk_at "go"
    refine s_sum (SqL.of hD8) ?_
    rw [many_sum hBl.nt, hBl.sum]
    have s48 := s47.trans s8
    clear hD8 nD8
    obtain ⟨D8d, sN48⟩ := D4.grow s48
    have hpL8H := s8 _ _ hpL
    have hl8H := hlines.mono fun _ _ z => z.mono (TSm.of s8)
    obtain ⟨_, _, _, hst8⟩ := D8d.st
    have hLa : pL ≠ a := lrs_ne (u := .non) hl8H hpL8H hst8
    have hpL8 := del_get (D := a) hpL8H hLa
    have hl8 := hl8H.mono fun _ _ z => z.mono (TSm.del hst8)
    have hpb8 := sN48 _ _ hpb4
    have hbs8 := hbs4.mono fun _ _ z => BkAt.mono sN48 z
    have hF8 := hF4.mono sN48
    clear hpL8H hl8H hst8 hpL hlines s8 s47 hF4H hB4H hpb4H s48
    generalize del H8 a = N8 at D8d sN48 hpL8 hl8 hpb8 hbs8 hF8
    walk_at "st"
    refine s_lcR1 ?_
    walk_at "go"
    have hm9 : m ≤ 1000 := by
      have h1 := hBl.sum
      have h2 := many_le hBl
      omega
    refine ⟨m, rfl, by omega, by omega, fun D9 nD9 => ?_⟩
    rw [Int.toNat_natCast]
    obtain ⟨Z9, nD9N, hD9a⟩ := D8d.new (o := .lst []) nD9
    have hD9s : D9 ≠ s0 := fun e => by rw [e, D8d.scr] at nD9N; cases nD9N
    refine lc_it walk_range (fun i H' => ∃ ns : List Int, Dr (upd N8 D9 (.lst (ns.map V.int))) a s0 ns0 H' ∧ ns.length = i ∧ ∀ n ∈ ns, 1 ≤ n ∧ n ≤ 6) ⟨[], Z9, rfl, fun n hn => by cases hn⟩ (fun _ _ _ _ => trivial) ?_ ?_
    · rintro i y H9' H9 hi ⟨ns, d9, hnl, hnb⟩ ⟨rfl, rfl⟩
      walk_at "go"
      refine ⟨rfl, ?_⟩
      walk_at "go"
      refine s_ifT rfl ?_
      walk_at "go"
      refine ⟨a, s0, _, _, _, rfl, d9, by decide, by decide, fun v H10 hv d10 => ?_⟩
      walk_at "go"
      refine ⟨_, d10.sub _ _ upd_same, lt1M (by rw [List.length_map]; omega), ns ++ [1 + (v : Int)], ?_, by rw [List.length_append, List.length_singleton]; omega, fun n hn => ?_⟩
      · have := d10.put (p := D9) (o := .lst ((ns ++ [1 + (v : Int)]).map V.int)) upd_same hD9s
        rw [upd_upd] at this
        rw [List.map_append] at this ⊢
        exact this
      · rcases List.mem_append.mp hn with hn | hn
        · exact hnb n hn
        · rw [List.mem_singleton.mp hn]
          omega
    rintro H9 ⟨nts, D9d, hnl, hnb⟩
    have s89 : Same N8 (upd N8 D9 (.lst (nts.map V.int))) := Same.new nD9N
    have hn9 : upd N8 D9 (.lst (nts.map V.int)) D9 = some (.lst (nts.map V.int)) := upd_same
    generalize upd N8 D9 (.lst (nts.map V.int)) = N9 at D9d s89 hn9
    walk_at "st"
    refine s_lcL ?_
    walk_at "go"
    have hpb9 := s89 _ _ hpb8
    refine ⟨pb, rfl, ⟨_, SqL.of (D9d.sub _ _ hpb9)⟩, fun D10 nD10 => ?_⟩
    obtain ⟨Z10, nD10N, hD10a⟩ := D9d.new (o := .lst []) nD10
    have hD10s : D10 ≠ s0 := fun e => by rw [e, D9d.scr] at nD10N; cases nD10N
    have hpbD : pb ≠ D10 := ne_of_none hpb9 nD10N
    refine lc_it walk_list (fun i H' => ∃ ns : List Int, Dr (upd N9 D10 (.lst (ns.map V.int))) a s0 ns0 H' ∧ ns.length = ((List.range i).filter fun k => decide ((bs.getD k dBk).kd = .float)).length ∧ ∀ n ∈ ns, 1 ≤ n ∧ n ≤ 12) ⟨[], Z10, rfl, fun n hn => by cases hn⟩
      (fun _ _ _ ⟨_, d, _⟩ => SqL.of (d.sub _ _ (by rw [upd_ne hpbD]; exact hpb9))) ?_ ?_
    · rintro i y H10' H10 hi ⟨ns, d10, hnl2, hnb2⟩ ⟨rfl, hy⟩
      obtain ⟨b, hb, hbk⟩ := hbs8.getV hy
      have hbk9 := BkAt.mono ((s89.trans (Same.new nD10N)).trans d10.sub) hbk
      obtain ⟨xs, hxs, _⟩ := bk_kd hbk9
      have hib := (List.getElem?_eq_some_iff.mp hb).1
      have eb : bs.getD i dBk = b := Option.some.inj ((getD_at hib).symm.trans hb)
      have hle := List.length_filter_le (fun k => decide ((bs.getD k dBk).kd = .float)) (List.range i)
      rw [List.length_range] at hle
      walk_at "go"
      refine ⟨rfl, ?_⟩
      walk_at "go"
      refine s_ixT hxs (atI_nat (j := 0) rfl) ?_
      walk_at "go"
      rw [kd_float]
      by_cases hk : b.kd = .float
      · refine s_ifT (decide_eq_true hk) ?_
        walk_at "go"
        refine ⟨a, s0, _, _, _, rfl, d10, by decide, by decide, fun v H11 hv d11 => ?_⟩
        walk_at "go"
        refine ⟨_, d11.sub _ _ upd_same, lt1M (by rw [List.length_map]; omega), ns ++ [1 + (v : Int)], ?_, ?_, fun n hn => ?_⟩
        · have := d11.put (p := D10) (o := .lst ((ns ++ [1 + (v : Int)]).map V.int)) upd_same hD10s
          rw [upd_upd] at this
          rw [List.map_append] at this ⊢
          exact this
        · rw [List.range_succ, List.filter_append, List.length_append, List.length_append, List.length_singleton, filter_one (p := fun k => decide ((bs.getD k dBk).kd = .float)) (by rw [eb]; exact decide_eq_true hk), hnl2]
          rfl
        · rcases List.mem_append.mp hn with hn | hn
          · exact hnb2 n hn
          · rw [List.mem_singleton.mp hn]
            omega
      · refine s_ifF (decide_eq_false hk) ?_
        refine ⟨ns, d10, ?_, hnb2⟩
        rw [List.range_succ, List.filter_append, filter_zero (p := fun k => decide ((bs.getD k dBk).kd = .float)) (by rw [eb]; exact decide_eq_false hk), List.append_nil]
        exact hnl2
    rintro H10 ⟨fls, D10d, hfl, hfb⟩
    rw [hbs8.len] at hfl
    have s90 : Same N9 (upd N9 D10 (.lst (fls.map V.int))) := Same.new nD10N
    have hf10 : upd N9 D10 (.lst (fls.map V.int)) D10 = some (.lst (fls.map V.int)) := upd_same
    generalize upd N9 D10 (.lst (fls.map V.int)) = N10 at D10d s90 hf10
    have hin : InOk F bs nts fls := ⟨hFB, by rw [hht]; omega, hbl, by rw [hnl]; exact hBl, hnb, hfl, hfb⟩
    have sNH := D10d.sub
    have s8H := (s89.trans s90).trans sNH
    have hpb := s8H _ _ hpb8
    have hbs := hbs8.mono fun _ _ z => BkAt.mono s8H z
    have hF := hF8.mono s8H
    have hpL := s8H _ _ hpL8
    have hlines := hl8.mono fun _ _ z => z.mono (TSm.of s8H)
    have hnts := sNH _ _ (s90 _ _ hn9)
    have hfls := sNH _ _ hf10
    clear D10d s90 hf10 hn9 hpb8 hbs8 hF8 hpL8 hl8 s8H sNH hpb9 s89 D9d sN48 D8d Z9 Z10 nD10N nD9N hF4 hF3 D4 D3 D2 D1
    obtain ⟨hBs, hSh, hPl⟩ := PL F bs nts fls hin
    walk_at "st"
    refine ⟨.ref pb, vf, F, g0, c0, bs, rfl, hF, ⟨pb, vbs, rfl, SqL.of hpb, hbs⟩, hBs, fun vr H11 s11 hrw => ?_⟩
    obtain ⟨pr, vrs, rfl, hpr, hrs⟩ := hrw
    walk_at "st"
    refine s_callS ?_
    walk_at "go"
    intro pm npm
    have s12 : Same H11 (upd H11 pm (.tup [.str "matter", .ref pr, .ref D9, .ref D10, vf])) := Same.new npm
    have hm12 : upd H11 pm (.tup [.str "matter", .ref pr, .ref D9, .ref D10, vf]) pm = some (.tup [.str "matter", .ref pr, .ref D9, .ref D10, vf]) := upd_same
    generalize upd H11 pm (.tup [.str "matter", .ref pr, .ref D9, .ref D10, vf]) = H12 at s12 hm12
    have s0C := s11.trans s12
    walk_at "go"
    refine ⟨_, ⟨vertical F bs, nts, fls, F⟩, rfl, ⟨_, _, _, _, g0, c0, ⟨pm, rfl, SqT.of hm12⟩, ⟨pr, vrs, rfl, SqL.of (s12 _ _ hpr), hrs.mono fun _ _ z => RwAt.mono (TSm.of s12) z⟩, ⟨D9, rfl, SqL.of (s0C _ _ hnts)⟩, ⟨D10, rfl, SqL.of (s0C _ _ hfls)⟩, hF.mono s0C⟩, hSh, fun d H' => ?_, fun pp vps gs H13 s00 s13 hpp hps hst hch => ?_⟩
    · exact ⟨true, O.te, fun _ a' _ => q H', fun h => by cases h⟩
    have hP := hPl gs s00 hst hch
    have s0D := s0C.trans s13
    have hpr := (s12.trans s13) _ _ hpr
    have hrs := hrs.mono fun _ _ z => RwAt.mono (TSm.of (s12.trans s13)) z
    have hpb := s0D _ _ hpb
    have hbs := hbs.mono fun _ _ z => BkAt.mono s0D z
    have hF := hF.mono s0D
    have hpL := s0D _ _ hpL
    have hlines := hlines.mono fun _ _ z => z.mono (TSm.of s0D)
    have hnts := s0D _ _ hnts
    have hfls := s0D _ _ hfls
    clear s0D s0C s13 s12 s11 hm12
    generalize hrows : vertical F bs = rs at hP hrs
    have hgf := hP.fr.few
    have hpl := hps.len
    have hrl := hrs.len
    walk_at "st"
    refine s_lcL ?_
    walk_at "go"
    refine ⟨pp, rfl, ⟨_, SqL.of hpp⟩, fun D nD => lc_it walk_list (fun i H' => Same H13 H' ∧ ∃ vxs, H' D = some (.lst vxs) ∧ vxs.length ≤ i ∧ Ls (GrO K (del H' D)) vxs ((gs.take i).map (grp rs))) ⟨Same.new nD, [], upd_same, Nat.le_refl _, .nil⟩ (fun _ _ _ h => SqL.of (h.1 _ _ hpp)) ?_ ?_⟩
    · rintro i y H14' H14 hi ⟨s14, vxs, hD, hvl, hgs⟩ ⟨rfl, hy⟩
      obtain ⟨g, hg, tg, hgX, htg⟩ := hps.getV hy
      have hgm := List.mem_of_getElem? hg
      obtain ⟨hfl1, hfl2⟩ := (hP.pgs g hgm).fl
      have hy14 : IsT K H14 y [.str "page", .int g.f, .int g.l, .ref tg] := (hgX.mono (TSo.of s14)).isT
      walk_at "go"
      refine ⟨rfl, ?_⟩
      walk_at "go"
      refine s_ifT rfl ?_
      refine s_lcL ?_
      walk_at "go"
      refine s_slL (SqL.of (s14 _ _ hpr)) fun pc npc => ?_
      rw [cut_fl hfl1 (by rw [hrl]; exact hfl2)]
      have s15 : Same H14 (upd H14 pc (.lst ((vrs.drop g.f).take (g.l - g.f)))) := Same.new npc
      have hpc : upd H14 pc (.lst ((vrs.drop g.f).take (g.l - g.f))) pc = some (.lst ((vrs.drop g.f).take (g.l - g.f))) := upd_same
      generalize upd H14 pc (.lst ((vrs.drop g.f).take (g.l - g.f))) = H15 at s15 hpc
      have hrs15 : Ls (RwAt K H15) ((vrs.drop g.f).take (g.l - g.f)) (cutR rs g.f g.l) := ((hrs.drop g.f).take (g.l - g.f)).mono fun _ _ z => RwAt.mono (TSm.of (s14.trans s15)) z
      have hD15 := s15 _ _ hD
      refine ⟨pc, rfl, ⟨_, SqL.of hpc⟩, fun D2 nD2 => lc_it walk_list (fun j H' => Same H15 H' ∧ ∃ vus, H' D2 = some (.lst vus) ∧ vus.length ≤ j ∧ Ls (LrAt K (del H' D)) vus (lrsOf ((cutR rs g.f g.l).take j))) ⟨Same.new nD2, [], upd_same, Nat.le_refl _, .nil⟩ (fun _ _ _ h => SqL.of (h.1 _ _ hpc)) ?_ ?_⟩
      · rintro j z H16' H16 hj ⟨s16, vus, hD2, hvu, hus⟩ ⟨rfl, hz⟩
        obtain ⟨r, hr', hrr⟩ := hrs15.getV hz
        have hrr16 := RwAt.mono (TSm.of s16) hrr
        have hjl : j < 1000 := by
          have h1 : rs.length ≤ 1000 := by rw [← hrows]; exact hSh.few
          have h2 := (List.getElem?_eq_some_iff.mp hz).1
          rw [List.length_take, List.length_drop] at h2
          omega
        obtain ⟨w0, xs, hw⟩ := hrr16.one
        walk_at "go"
        refine ⟨rfl, ?_⟩
        walk_at "go"
        refine s_ixT hw (atI_nat (j := 0) rfl) ?_
        walk_at "go"
        rw [rw_line]
        rw [lrs_snoc hr']
        cases r with
        | line b l h d ns =>
          obtain ⟨n, ⟨tr, rfl, htr⟩, _⟩ := hrr16
          refine s_ifT rfl ?_
          walk_at "go"
          refine s_slT htr (fun h => absurd h.1 (by show ¬ (HT.sIx 6 0 (some 1) = 0); decide)) fun t nt => ?_
          have s17 : Same H16 (upd H16 t (.tup [.int b, .int l])) := Same.new nt
          have ht17 : upd H16 t (.tup [.int b, .int l]) t = some (.tup [.int b, .int l]) := upd_same
          have htD : t ≠ D := fun e => by have := s16 _ _ hD15; rw [← e, nt] at this; cases this
          have ecut : cutV [V.str "line", .int b, .int l, .int h, .int d, n] (some 1) (some 3) = [.int b, .int l] := rfl
          rw [ecut]
          generalize upd H16 t (.tup [.int b, .int l]) = H17 at s17 ht17
          have hD27 := s17 _ _ hD2
          have hD2D : D2 ≠ D := fun e => by rw [e, hD15] at nD2; cases nD2
          have t8 : TSm (del H17 D) (del (upd H17 D2 (.lst (vus ++ [.ref t]))) D) := by
            rw [del_upd_ne hD2D]
            exact TSm.lst (del_get hD27 hD2D)
          refine ⟨_, hD27, lt1M (by omega), (s16.trans s17).put nD2, _, upd_same, by rw [List.length_append, List.length_singleton]; omega, ?_⟩
          exact ((hus.mono fun _ _ z => (z.mono (TSm.of (del_mono s17))).mono t8)).snoc (LrAt.mono t8 ⟨t, rfl, SqT.of (del_get ht17 htD)⟩)
        | _ =>
          refine s_ifF rfl ?_
          refine ⟨s16, vus, hD2, by omega, ?_⟩
          rw [show (lrOf _).toList = [] from rfl, List.append_nil]
          exact hus
      rintro H16 ⟨s16, vus, hD2, hvu, hus⟩
      rw [hrs15.len, List.take_of_length_le (Nat.le_refl _)] at hus
      have hD6 := s16 _ _ hD15
      have hD2D : D2 ≠ D := fun e => by rw [e, hD15] at nD2; cases nD2
      refine ⟨_, hD6, lt1M (by omega), ((s14.trans s15).trans s16).put nD, _, upd_same, by rw [List.length_append, List.length_singleton]; omega, ?_⟩
      rw [del_upd, List.take_add_one, hg, List.map_append]
      exact (hgs.mono fun _ _ z => z.mono (del_mono (s15.trans s16))).snoc ⟨D2, vus, rfl, del_get hD2 hD2D, hus⟩
    rintro H14 ⟨s14, vxs, hD, hvl, hgs⟩
    rw [hpl, List.take_of_length_le (Nat.le_refl _)] at hgs
    have hgr14 := hgs.mono fun _ _ z => GrO.mono (del_sub H14 D) z
    clear hgs
    walk_at "st"
    intro b1 nb1
    have s15 : Same H14 (upd H14 b1 (.lst [])) := Same.new nb1
    have hb15 : upd H14 b1 (.lst []) b1 = some (.lst []) := upd_same
    generalize upd H14 b1 (.lst []) = H15 at s15 hb15
    obtain ⟨yss, hy1, hy2⟩ := lists_of (hgr14.mono fun _ _ z => GrO.mono s15 z)
    rw [hP.cat] at hy2
    walk_at "go"
    refine ⟨D, b1, vxs, yss, rfl, SqL.of (s15 _ _ hD), hb15, hy1, ?_, fun pS H16 s16 hpS => ?_⟩
    · rw [hy2.len]
      have := lines_len hBl bs.length (Nat.le_refl _)
      have e : (linesOf bs).length ≤ 5 * bs.length := this
      omega
    have hS16 := hy2.mono fun _ _ z => z.mono (TSm.of s16)
    have sB := s14.trans (s15.trans s16)
    have hL16 := hlines.mono fun _ _ z => z.mono (TSm.of sB)
    walk_at "go"
    refine ⟨.list ((linesOf bs).map lrD), .list ((linesOf bs).map lrD), .lst (SqL.of hpS) (lrs_dp hS16), .lst (SqL.of (sB _ _ hpL)) (lrs_dp hL16), shaped_lrs _, shaped_lrs _, ?_⟩
    rw [eqv_lrs]
    walk_at "go"
    refine s_ifF (by rfl) ?_
    have hpb := sB _ _ hpb
    have hbs := hbs.mono fun _ _ z => BkAt.mono sB z
    have hF := hF.mono sB
    have hnts := sB _ _ hnts
    have hfls := sB _ _ hfls
    have hpp := sB _ _ hpp
    have hps := hps.mono fun _ _ z => z.mono (TSo.of sB)
    have hgr := hgr14.mono fun _ _ z => (GrO.mono (s15.trans s16) z).gr
    have hD := (s15.trans s16) _ _ hD
    have hgl := hgr.len
    rw [List.length_map] at hgl
    clear hL16 hS16 hpS hy1 hy2 hb15 hgr14 hlines hpL hrs hpr s14 sB s15 s16 nD nD9 nD10 hfl hfb hnl hin
    -- MARK
    walk_at "st"
    refine s_forR1 ?_
    walk_at "go"
    refine s_lenL (SqL.of hpp) ?_
    rw [hpl]
    walk_at "go"
    refine ⟨_, rfl, by omega, by omega, ?_⟩
    rw [Int.toNat_natCast]
    refine for_it walk_range (fun i σ' H' => ∃ v11 v12 v13 v14, σ' = [some (.ref p0), some (.ref a), some vf, some (.ref pb), some (.ref pL), some (.int m), some (.ref D9), some (.ref D10), some (.ref pr), some (.ref pp), some (.ref D), v11, v12, v13, v14, none, none, none, none, none, none, none, none] ∧ Same H16 H')
      ⟨_, _, _, _, rfl, Same.refl _⟩ (fun _ _ _ _ _ => trivial) ?_ ?_
    · rintro i y σ' H17' H17 hi ⟨v11, v12, v13, v14, rfl, s17⟩ ⟨rfl, rfl⟩
      show gName 11 (V.int (0 + (i : Int))) _ _ _
      rw [Int.zero_add]
      have hg := getD_at (d := dPg) hi
      generalize gs.getD i dPg = g at hg
      have hgm := List.mem_of_getElem? hg
      have G := hP.pgs g hgm
      obtain ⟨vk, hvk, tg, hgX, htg⟩ := hps.get hg
      obtain ⟨vg, hvg, pg, vus, rfl, hpg, hus⟩ := hgr.get (show (gs.map (grp rs))[i]? = some (grp rs g) by rw [List.getElem?_map, hg]; rfl)
      have hul := hus.len
      have hfew := G.few
      walk_at "st"
      refine s_lcL ?_
      walk_at "go"
      refine s_ixL (w := .ref pg) (SqL.of (s17 _ _ hD)) (atI_nat (j := i) hvg) ?_
      refine ⟨pg, rfl, ⟨_, s17.seq hpg⟩, fun D2 nD2 => lc_it walk_list (fun j H' => Same H17 H' ∧ ∃ vxs, H' D2 = some (.lst vxs) ∧ vxs.length ≤ j ∧ Ls (fun v ns => ∃ p vls, v = .ref p ∧ (del H' D2) p = some (.lst vls) ∧ Ls (fun v (n : Int) => v = .int n) vls ns) vxs (((grp rs g).take j).map fun u => (lnOf bs u).ns)) ⟨Same.new nD2, [], upd_same, Nat.le_refl _, .nil⟩ (fun _ _ _ h => (s17.trans h.1).seq hpg) ?_ ?_⟩
      · rintro j z H18' H18 hj ⟨s18, vxs', hD2, hvx, hxs⟩ ⟨rfl, hz⟩
        obtain ⟨u, hu', hlr⟩ := hus.getV hz
        have Vu := G.vl u (List.mem_of_getElem? hu')
        have s78 := s17.trans s18
        obtain ⟨vb1, pq1, vls1, vl1, a1, a2, a3, a4, ⟨n1, a5, t1, rfl, a6⟩, _⟩ := vl_get (hbs.mono fun _ _ z => BkAt.mono s78 z) Vu
        have hlr18 : IsT K H18 z [.int u.1, .int u.2] := hlr.mono (TSm.of s78)
        walk_at "go"
        refine ⟨rfl, ?_⟩
        walk_at "go"
        refine s_ifT rfl ?_
        walk_at "go"
        refine s_ixL (w := vb1) (SqL.of (s78 _ _ hpb)) (atI_nat (j := u.1) a1) ?_
        walk_at "go"
        refine s_ixL (w := vl1) a3 (atI_nat (j := u.2) a4) ?_
        walk_at "go"
        refine s_listT a6 fun l nl => ?_
        have hlD : l ≠ D2 := fun e => by rw [e, hD2] at nl; cases nl
        have s19 : Same H18 (upd H18 l (.lst ((lnOf bs u).ns.map V.int))) := Same.new nl
        refine ⟨_, s19 _ _ hD2, lt1M (by omega), (s18.trans s19).put nD2, _, upd_same, by rw [List.length_append, List.length_singleton]; omega, ?_⟩
        rw [del_upd, List.take_add_one, hu', List.map_append]
        exact (hxs.mono fun _ _ ⟨p, vls, e1, e2, e3⟩ => ⟨p, vls, e1, del_mono s19 _ _ e2, e3⟩).snoc ⟨l, _, rfl, del_get upd_same hlD, Ls.int⟩
      rintro H18 ⟨s18, vxs', hD2, hvx, hxs⟩
      rw [hul, List.take_of_length_le (Nat.le_refl _)] at hxs
      walk_at "go"
      intro b2 nb2
      have s19 : Same H18 (upd H18 b2 (.lst [])) := Same.new nb2
      have hb19 : upd H18 b2 (.lst []) b2 = some (.lst []) := upd_same
      generalize upd H18 b2 (.lst []) = H19 at s19 hb19
      obtain ⟨yss, hy1, hy2⟩ := lists_of (hxs.mono fun _ _ ⟨p, vls, e1, e2, e3⟩ => ⟨p, vls, e1, (del_sub H18 D2).trans s19 _ _ e2, e3⟩)
      walk_at "go"
      refine ⟨D2, b2, vxs', yss, rfl, SqL.of (s19 _ _ hD2), hb19, hy1, ?_, fun pM H20 s20 hpM => ?_⟩
      · rw [hy2.len]
        have := mine_len fun u hu => ns_le hBl (G.vl u hu)
        omega
      rw [ls_ints hy2] at hpM
      have hmine : ((grp rs g).map fun u => (lnOf bs u).ns).flatten = mineOf bs (grp rs g) := rfl
      rw [hmine] at hpM
      have s70 := s17.trans (s18.trans (s19.trans s20))
      have hns := G.ns
      have hml : (mineOf bs (grp rs g)).length ≤ 200 := by
        have := mine_len fun u hu => ns_le hBl (G.vl u hu)
        have e : ((grp rs g).map fun u => (lnOf bs u).ns).flatten = mineOf bs (grp rs g) := rfl
        rw [e] at this
        omega
      have hnotes := G.notes
      have hhigh := G.high
      generalize mineOf bs (grp rs g) = ms at hpM hns hml hnotes hhigh
      walk_at "st"
      refine s_lcL ?_
      walk_at "go"
      refine ⟨pM, rfl, ⟨_, SqL.of hpM⟩, fun D3 nD3 => lc_it walk_list (fun j H' => Same H20 H' ∧ H' D3 = some (.lst ((pick nts (ms.take j)).map V.int))) ⟨Same.new nD3, upd_same⟩ (fun _ _ _ h => SqL.of (h.1 _ _ hpM)) ?_ ?_⟩
      · rintro j z H21' H21 hj ⟨s21, hD3⟩ ⟨rfl, hz⟩
        obtain ⟨n, hn, rfl⟩ := map_int hz
        obtain ⟨hn0, hn1⟩ := hns n (List.mem_of_getElem? hn)
        have hjl := (List.getElem?_eq_some_iff.mp hn).1
        walk_at "go"
        refine ⟨rfl, ?_⟩
        walk_at "go"
        refine s_ifT rfl ?_
        walk_at "go"
        refine s_ixL (w := .int (nts.getD n.toNat 0)) (SqL.of ((s70.trans s21) _ _ hnts)) (at_of (j := n.toNat) (by omega) (by rw [List.getElem?_map, getD_at (d := (0 : Int)) hn1]; rfl)) ?_
        refine ⟨_, hD3, lt1M (by unfold pick; rw [List.length_map, List.length_map, List.length_take]; omega), s21.put nD3, ?_⟩
        rw [upd_same, List.take_add_one, hn]
        unfold pick
        rw [List.map_append, List.map_append]
        rfl
      rintro H21 ⟨s21, hD3⟩
      rw [List.length_map, List.take_of_length_le (Nat.le_refl _)] at hD3
      have s71 := s70.trans s21
      have hF21 := hF.mono s71
      have hT21 := hF21.tup
      walk_at "st"
      refine s_sum (SqL.of hD3) ?_
      walk_at "go"
      refine s_ifF (decide_eq_false (by omega)) ?_
      walk_at "go"
      refine s_ixL (w := .ref pg) (SqL.of (s71 _ _ hD)) (atI_nat (j := i) hvg) ?_
      walk_at "go"
      have hss := G.ss
      have erg : rgV (g.st : Int) (g.sp : Int) = (nsOf g.st (g.sp - g.st)).map V.int := by
        have := rg_ns g.st (g.sp - g.st)
        rw [← this]
        congr 1
        omega
      rw [erg] at htg
      have hlns : (nsOf g.st (g.sp - g.st)).length = g.sp - g.st := by unfold nsOf; rw [List.length_map, List.length_range]
      have hvk21 : IsT K H21 vk [.str "page", .int g.f, .int g.l, .ref tg] := (hgX.mono (TSo.of s71)).isT
      refine s_lcT ?_
      walk_at "go"
      refine s_ixL (w := vk) (SqL.of (s71 _ _ hpp)) (atI_nat (j := i) hvk) ?_
      walk_at "go"
      have hflc : fls.length ≤ 1000 := by
        have h1 := hSh.fl
        have h2 := Sh.places_len ⟨vertical F bs, nts, fls, F⟩
        have h3 : Sh.n ⟨vertical F bs, nts, fls, F⟩ ≤ 1000 := hSh.few
        have h4 : fls.length = (Sh.places ⟨vertical F bs, nts, fls, F⟩).length := h1.symm
        omega
      refine ⟨tg, rfl, ⟨_, SqT.of (s71 _ _ htg)⟩, fun D4 nD4 => lc_it walk_tup (fun j H' => Same H21 H' ∧ H' D4 = some (.lst ((pick fls ((nsOf g.st (g.sp - g.st)).take j)).map V.int))) ⟨Same.new nD4, upd_same⟩ (fun _ _ _ h => SqT.of ((s71.trans h.1) _ _ htg)) ?_ ?_⟩
      · rintro j z H22' H22 hj ⟨s22, hD4⟩ ⟨rfl, hz⟩
        rw [List.length_map, hlns] at hj
        obtain ⟨n, hn, rfl⟩ := map_int hz
        have en : n = ((g.st + j : Nat) : Int) := by
          unfold nsOf at hn
          rw [List.getElem?_map, List.getElem?_range hj] at hn
          have e9 : (g.st : Int) + (j : Int) = n := Option.some.inj hn
          omega
        have hn1 : n.toNat < fls.length := by omega
        walk_at "go"
        refine ⟨rfl, ?_⟩
        walk_at "go"
        refine s_ifT rfl ?_
        walk_at "go"
        refine s_ixL (w := .int (fls.getD n.toNat 0)) (SqL.of ((s71.trans s22) _ _ hfls)) (at_of (j := n.toNat) (by omega) (by rw [List.getElem?_map, getD_at (d := (0 : Int)) hn1]; rfl)) ?_
        refine ⟨_, hD4, lt1M (by unfold pick; rw [List.length_map, List.length_map, List.length_take]; omega), s22.put nD4, ?_⟩
        rw [upd_same, List.take_add_one, hn]
        unfold pick
        rw [List.map_append, List.map_append]
        rfl
      rintro H22 ⟨s22, hD4⟩
      rw [List.length_map, List.take_of_length_le (Nat.le_refl _)] at hD4
      have s72 := s71.trans s22
      have hF22 := hF.mono s72
      walk_at "go"
      refine ⟨vf, pb, pg, D3, D4, F, g0, c0, vbs, vus, bs, grp rs g, pick nts ms, pick fls (nsOf g.st (g.sp - g.st)), rfl, hF22, SqL.of (s72 _ _ hpb), hbs.mono fun _ _ z => BkAt.mono s72 z, s72.seq hpg, hus.mono fun _ _ z => z.mono (TSm.of s72), G.vl, SqL.of (s22 _ _ hD3), SqL.of hD4, by omega, fun H23 s23 => ?_⟩
      have s73 := s72.trans s23
      have hT23 := (hF.mono s73).tup
      walk_at "go"
      refine s_ifF (decide_eq_false (by omega)) ?_
      walk_at "go"
      try dsimp only
      refine s_forR2 ?_
      walk_at "go"
      refine s_ixL (w := .ref pg) (SqL.of (s73 _ _ hD)) (atI_nat (j := i) hvg) ?_
      walk_at "go"
      refine s_lenL (s73.seq hpg) ?_
      rw [hul]
      walk_at "go"
      refine ⟨1, _, rfl, by omega, ?_⟩
      rw [show ((((grp rs g).length : Nat) : Int) - 1).toNat = (grp rs g).length - 1 by omega]
      refine for_it walk_range (fun j σ' H' => ∃ v14, σ' = [some (.ref p0), some (.ref a), some vf, some (.ref pb), some (.ref pL), some (.int m), some (.ref D9), some (.ref D10), some (.ref pr), some (.ref pp), some (.ref D), some (.int i), some (.ref pM), some (.ref D3), v14, none, none, none, none, none, none, none, none] ∧ Same H23 H')
        ⟨_, rfl, Same.refl _⟩ (fun _ _ _ _ _ => trivial) ?_ ?_
      · rintro j y σ' H24' H24 hj ⟨v14, rfl, s24⟩ ⟨rfl, rfl⟩
        have hj0 : j < (grp rs g).length := by omega
        have hj1 : j + 1 < (grp rs g).length := by omega
        have eu := List.getElem?_eq_getElem hj0
        have ev := List.getElem?_eq_getElem hj1
        have hnp := G.inn j _ _ eu ev
        have Vu := G.vl _ (List.getElem_mem hj0)
        have Vv := G.vl _ (List.getElem_mem hj1)
        obtain ⟨vu, hvu, hlu⟩ := hus.get eu
        obtain ⟨vv, hvv, hlv⟩ := hus.get ev
        generalize (grp rs g)[j] = u at hnp Vu hlu
        generalize (grp rs g)[j + 1] = v at hnp Vv hlv
        have s74 := s73.trans s24
        have hlu24 : IsT K H24 vu [.int u.1, .int u.2] := hlu.mono (TSm.of s74)
        have hlv24 : IsT K H24 vv [.int v.1, .int v.2] := hlv.mono (TSm.of s74)
        have hu1 := Vu.1
        have hv1 := Vv.1
        walk_at "go"
        refine s_lcR2 ?_
        walk_at "go"
        refine s_ixL (w := .ref pg) (SqL.of (s74 _ _ hD)) (atI_nat (j := i) hvg) ?_
        walk_at "go"
        refine s_ixL (w := vu) (s74.seq hpg) (at_of (show (1 : Int) + (j : Int) - 1 = (j : Int) by omega) hvu) ?_
        walk_at "go"
        refine s_ixL (w := .ref pg) (SqL.of (s74 _ _ hD)) (atI_nat (j := i) hvg) ?_
        walk_at "go"
        refine s_ixL (w := vv) (s74.seq hpg) (at_of (show (1 : Int) + (j : Int) = ((j + 1 : Nat) : Int) by omega) hvv) ?_
        walk_at "go"
        refine ⟨u.1, v.1, rfl, by omega, fun D5 nD5 => ?_⟩
        rw [show ((v.1 : Int) - u.1).toNat = v.1 - u.1 by omega]
        refine lc_it walk_range (fun n H' => Same H24 H' ∧ H' D5 = some (.lst ((kdsFrom bs u.1 n).map kdV))) ⟨Same.new nD5, upd_same⟩ (fun _ _ _ _ => trivial) ?_ ?_
        · rintro n y H25' H25 hn ⟨s25, hD5⟩ ⟨rfl, rfl⟩
          obtain ⟨vb, hvb, hbk⟩ := bk_get (hbs.mono fun _ _ z => BkAt.mono (s74.trans s25) z) (show u.1 + n < bs.length by omega)
          obtain ⟨xs, hxs, _⟩ := bk_kd hbk
          walk_at "go"
          refine ⟨rfl, ?_⟩
          walk_at "go"
          refine s_ifT rfl ?_
          walk_at "go"
          refine s_ixL (w := vb) (SqL.of ((s74.trans s25) _ _ hpb)) (at_of (show (u.1 : Int) + (n : Int) = ((u.1 + n : Nat) : Int) by omega) hvb) ?_
          walk_at "go"
          refine s_ixT hxs (atI_nat (j := 0) rfl) ?_
          refine ⟨_, hD5, lt1M (by rw [List.length_map]; unfold kdsFrom; rw [List.length_map, List.length_range]; omega), s25.put nD5, ?_⟩
          rw [upd_same]
          unfold kdsFrom
          rw [List.range_succ, List.map_append, List.map_append]
          rfl
        rintro H25 ⟨s25, hD5⟩
        refine s_inL (SqL.of hD5) rfl (flat_kds _) ?_
        rw [inV_page]
        walk_at "go"
        refine s_ifF (decide_eq_false fun h => hnp (pgIn_iff.mp h)) ?_
        exact ⟨_, rfl, s24.trans s25⟩
      · rintro σ' H24 ⟨v14, rfl, s24⟩
        exact ⟨_, _, _, _, rfl, s73.trans s24⟩
    · rintro σ' H17 ⟨v11, v12, v13, v14, rfl, s17⟩
      walk_at "st"
      refine s_lcL ?_
      walk_at "go"
      refine ⟨D, rfl, ⟨_, SqL.of (s17 _ _ hD)⟩, fun D2 nD2 => lc_it walk_list (fun j H' => Same H17 H' ∧ ∃ vts, H' D2 = some (.lst vts) ∧ vts.length ≤ j ∧ Ls (GrAt K (del H' D2)) vts (textsOf ((gs.map (grp rs)).take j))) ⟨Same.new nD2, [], upd_same, Nat.le_refl _, .nil⟩ (fun _ _ _ h => SqL.of ((s17.trans h.1) _ _ hD)) ?_ ?_⟩
      · rintro j z H18' H18 hj ⟨s18, vts, hD2, hvt, hts⟩ ⟨rfl, hz⟩
        obtain ⟨us, hu', pu, vus, rfl, hpu, hus⟩ := hgr.getV hz
        have hjl := (List.getElem?_eq_some_iff.mp hz).1
        have hgg := hgr.len
        have hpu18 := (s17.trans s18).seq hpu
        have htx : textsOf ((gs.map (grp rs)).take (j + 1)) = textsOf ((gs.map (grp rs)).take j) ++ textsOf [us] := by
          unfold textsOf
          rw [List.take_add_one, hu', List.filter_append]
          rfl
        walk_at "go"
        refine ⟨rfl, ?_⟩
        walk_at "go"
        refine s_lenL hpu18 ?_
        rw [hus.len]
        walk_at "go"
        by_cases hl : 0 < us.length
        · refine s_ifT (decide_eq_true (by omega)) ?_
          walk_at "go"
          refine ⟨_, hD2, lt1M (by omega), s18.put nD2, _, upd_same, by rw [List.length_append, List.length_singleton]; omega, ?_⟩
          rw [del_upd, htx, show textsOf [us] = [us] from List.filter_cons_of_pos (p := fun us : List Lr => decide (0 < us.length)) (decide_eq_true hl)]
          exact (hts.mono fun _ _ z => z).snoc (GrAt.mono ((del_free nD2).trans (del_mono s18)) (GrAt.mono s17 ⟨pu, vus, rfl, hpu, hus⟩))
        · refine s_ifF (decide_eq_false (by omega)) ?_
          refine ⟨s18, vts, hD2, by omega, ?_⟩
          rw [htx, show textsOf [us] = [] from List.filter_cons_of_neg (p := fun us : List Lr => decide (0 < us.length)) (by rw [decide_eq_false hl]; exact Bool.false_ne_true), List.append_nil]
          exact hts
      rintro H18 ⟨s18, vts, hD2, hvt, hts⟩
      rw [List.take_of_length_le (by rw [hgr.len]; exact Nat.le_refl _)] at hts
      have hts := hts.mono fun _ _ z => GrAt.mono (del_sub H18 D2) z
      have s78 := s17.trans s18
      have htl := hts.len
      have hfewt : vts.length ≤ 100000 := by have := hgr.len; rw [List.length_map] at this; omega
      walk_at "st"
      refine s_forR2 ?_
      walk_at "go"
      refine s_lenL (SqL.of hD2) ?_
      rw [htl]
      walk_at "go"
      refine ⟨1, _, rfl, by omega, ?_⟩
      rw [show ((((textsOf (gs.map (grp rs))).length : Nat) : Int) - 1).toNat = (textsOf (gs.map (grp rs))).length - 1 by omega]
      refine for_it walk_range (fun j σ' H' => ∃ v11', σ' = [some (.ref p0), some (.ref a), some vf, some (.ref pb), some (.ref pL), some (.int m), some (.ref D9), some (.ref D10), some (.ref pr), some (.ref pp), some (.ref D), v11', v12, v13, v14, some (.ref D2), none, none, none, none, none, none, none] ∧ Same H18 H')
        ⟨_, rfl, Same.refl _⟩ (fun _ _ _ _ _ => trivial) ?_ ?_
      · rintro j y σ' H19' H19 hj ⟨v11', rfl, s19⟩ ⟨rfl, rfl⟩
        have hj0 : j < (textsOf (gs.map (grp rs))).length := by omega
        have hj1 : j + 1 < (textsOf (gs.map (grp rs))).length := by omega
        have eu := List.getElem?_eq_getElem hj0
        have ev := List.getElem?_eq_getElem hj1
        obtain ⟨vtu, hvtu, pu, vlu, rfl, hpu, hlu⟩ := hts.get eu
        obtain ⟨vtv, hvtv, pv, vlv, rfl, hpv, hlv⟩ := hts.get ev
        have mu := List.mem_filter.mp (List.getElem_mem hj0)
        have mv := List.mem_filter.mp (List.getElem_mem hj1)
        have hdv := fun u v => hP.div j _ _ u v eu ev
        have vlm : ∀ us ∈ gs.map (grp rs), ∀ u ∈ us, VL bs u := fun us h => by
          obtain ⟨g, hg, rfl⟩ := List.mem_map.mp h
          exact (hP.pgs g hg).vl
        have vlu' := vlm _ mu.1
        have vlv' := vlm _ mv.1
        have nu := of_decide_eq_true mu.2
        have nv := of_decide_eq_true mv.2
        generalize (textsOf (gs.map (grp rs)))[j] = us at hlu hdv vlu' nu
        generalize (textsOf (gs.map (grp rs)))[j + 1] = ws at hlv hdv vlv' nv
        have hul : us[us.length - 1]? = some (us[us.length - 1]'(by omega)) := List.getElem?_eq_getElem (by omega)
        have hwl : ws[0]? = some (ws[0]'(by omega)) := List.getElem?_eq_getElem (by omega)
        obtain ⟨xu, hxu, hxur⟩ := hlu.get hul
        obtain ⟨xv, hxv, hxvr⟩ := hlv.get hwl
        have dv := hdv _ _ (by rw [List.getLast?_eq_getElem?]; exact hul) hwl
        have Vu := vlu' _ (List.mem_of_getElem? hul)
        have Vv := vlv' _ (List.mem_of_getElem? hwl)
        have s79 := s78.trans s19
        walk_at "go"
        refine s_ixL (w := .ref pu) (SqL.of (s19 _ _ hD2)) (at_of (show (1 : Int) + (j : Int) - 1 = (j : Int) by omega) hvtu) ?_
        walk_at "go"
        refine s_ixL (w := xu) (s19.seq hpu) (atI_last (by rw [hlu.len]; exact hxu)) ?_
        walk_at "go"
        refine s_ixL (w := .ref pv) (SqL.of (s19 _ _ hD2)) (at_of (show (1 : Int) + (j : Int) = ((j + 1 : Nat) : Int) by omega) hvtv) ?_
        walk_at "go"
        refine s_ixL (w := xv) (s19.seq hpv) (atI_nat (j := 0) hxv) ?_
        walk_at "go"
        refine ⟨vf, xu, xv, pb, F, g0, c0, vbs, bs, _, _, rfl, hF.mono s79, SqL.of (s79 _ _ hpb), hbs.mono fun _ _ z => BkAt.mono s79 z, by omega, hxur.mono (TSm.of s19), hxvr.mono (TSm.of s19), Vu, Vv, dv, fun H20 s20 => ?_⟩
        walk_at "go"
        refine s_ifF (by rfl) ?_
        exact ⟨_, rfl, s19.trans s20⟩
      · rintro σ' H19 ⟨v11', rfl, s19⟩
        have s79 := s78.trans s19
        walk_at "go"
        refine ⟨vf, pb, pp, D, F, g0, c0, vbs, vps, vxs, bs, gs, gs.map (grp rs), rfl, hF.mono s79, SqL.of (s79 _ _ hpb), hbs.mono fun _ _ z => BkAt.mono s79 z, by omega, SqL.of (s79 _ _ hpp), hps.mono fun _ _ z => z.mono (TSo.of s79), SqL.of (s79 _ _ hD), hgr.mono fun _ _ z => GrAt.mono s79 z, hP.fr, fun H' _ => q H'⟩
end
end G
/-! The plain law: what vertical makes. -/
namespace G
open PySem L2
/-! ### a reading of rows, line by line -/
/-- between two lines: the cost and the gap seen since the upper one -/
structure Mi where
  u : Lr
  c : Option Int
  g : Option Gp
abbrev Sta := Option Mi
structure Mid (F : Fw) (bs : List Bk) (u v : Lr) (c : Int) (g : Gp) : Prop where
  h : g.h = (gapOf F bs u v).1
  k : g.k = (gapOf F bs u v).2
  div : c < 10000 → Divided F bs u v
  pg : PgIn bs u.1 v.1 → c ≤ -10000
def okRow (F : Fw) (bs : List Bk) : Sta → Rw → Prop
  | _, .float _ => True
  | none, .line _ _ _ _ _ => True
  | none, _ => False
  | some m, .cost _ => m.c = none ∧ m.g = none
  | some m, .gap _ _ _ => (∃ c, m.c = some c) ∧ m.g = none
  | some m, .line b l _ _ _ => ∃ c g, m.c = some c ∧ m.g = some g ∧ Mid F bs m.u (b, l) c g
def nxt : Sta → Rw → Sta
  | s, .float _ => s
  | _, .line b l _ _ _ => some ⟨(b, l), none, none⟩
  | none, _ => none
  | some m, .cost c => some { m with c := some c }
  | some m, .gap h s k => some { m with g := some ⟨h, s, k⟩ }
def Scan (F : Fw) (bs : List Bk) : Sta → List Rw → Prop
  | _, [] => True
  | s, r :: rs => okRow F bs s r ∧ Scan F bs (nxt s r) rs
def runS (s : Sta) (rs : List Rw) : Sta := rs.foldl nxt s
theorem runS_app (s : Sta) (a b : List Rw) : runS s (a ++ b) = runS (runS s a) b := List.foldl_append
theorem scan_app {F : Fw} {bs : List Bk} : ∀ {a b : List Rw} {s : Sta}, Scan F bs s (a ++ b) ↔ Scan F bs s a ∧ Scan F bs (runS s a) b
  | [], b, s => by simp [Scan, runS]
  | r :: a, b, s => by
    show okRow F bs s r ∧ Scan F bs (nxt s r) (a ++ b) ↔ (okRow F bs s r ∧ Scan F bs (nxt s r) a) ∧ Scan F bs (runS (nxt s r) a) b
    rw [scan_app, and_assoc]
/-! ### floats behind their lines -/
def flOf : Rw → Option Nat
  | .float k => some k
  | _ => none
def flsOf (rs : List Rw) : List Nat := rs.filterMap flOf
def Bef (bs : List Bk) (k : Nat) (acc : List Lr) : Prop := ∀ fb, (flBs bs)[k]? = some fb → ∀ j ∈ before bs fb, ∀ u ∈ lnsOf bs j, u ∈ acc
def FPr (bs : List Bk) : List Lr → List Rw → Prop
  | _, [] => True
  | acc, r :: rs => (∀ k, flOf r = some k → Bef bs k acc) ∧ FPr bs (acc ++ (lrOf r).toList) rs
theorem lrs_app (a b : List Rw) : lrsOf (a ++ b) = lrsOf a ++ lrsOf b := List.filterMap_append
theorem lrs_cons (r : Rw) (rs : List Rw) : lrsOf (r :: rs) = (lrOf r).toList ++ lrsOf rs := by
  unfold lrsOf
  cases e : lrOf r with
  | none => rw [List.filterMap_cons_none e]; rfl
  | some u => rw [List.filterMap_cons_some e]; rfl
theorem fls_app (a b : List Rw) : flsOf (a ++ b) = flsOf a ++ flsOf b := List.filterMap_append
theorem fpr_app {bs : List Bk} : ∀ {a b : List Rw} {acc : List Lr}, FPr bs acc (a ++ b) ↔ FPr bs acc a ∧ FPr bs (acc ++ lrsOf a) b
  | [], b, acc => by simp [FPr, lrsOf]
  | r :: a, b, acc => by
    show (_ ∧ FPr bs (acc ++ (lrOf r).toList) (a ++ b)) ↔ (_ ∧ FPr bs (acc ++ (lrOf r).toList) a) ∧ FPr bs (acc ++ lrsOf (r :: a)) b
    rw [fpr_app, and_assoc, lrs_cons, List.append_assoc]
theorem fpr_mono {bs : List Bk} : ∀ {rs : List Rw} {acc acc' : List Lr}, (∀ u ∈ acc, u ∈ acc') → FPr bs acc rs → FPr bs acc' rs
  | [], _, _, _, _ => True.intro
  | r :: rs, acc, acc', h, q => ⟨fun k hk fb h1 j h2 u h3 => h u (q.1 k hk fb h1 j h2 u h3), fpr_mono (fun u hu => by
      rcases List.mem_append.mp hu with hu | hu
      · exact List.mem_append_left _ (h u hu)
      · exact List.mem_append_right _ hu) q.2⟩
/-- rows without a float -/
theorem fpr_none {bs : List Bk} : ∀ {rs : List Rw} {acc : List Lr}, flsOf rs = [] → FPr bs acc rs
  | [], _, _ => True.intro
  | r :: rs, acc, h => by
    have e : flOf r = none := by
      cases e : flOf r with
      | none => rfl
      | some k =>
        unfold flsOf at h
        rw [List.filterMap_cons_some e] at h
        cases h
    refine ⟨fun k hk => (by rw [e] at hk; cases hk), fpr_none ?_⟩
    unfold flsOf at h ⊢
    rw [List.filterMap_cons_none e] at h
    exact h
/-! ### each row by itself -/
def RowB (F : Fw) (bs : List Bk) : Rw → Prop
  | .line b l h d ns => VL bs (b, l) ∧ h = (lnOf bs (b, l)).h ∧ d = (lnOf bs (b, l)).d ∧ ns = (lnOf bs (b, l)).ns
  | .gap h s k => (0 ≤ h ∧ h ≤ 1000) ∧ (0 ≤ s ∧ s ≤ 1000) ∧ 0 ≤ k ∧ k ≤ 1000
  | _ => True
/-- all rows are floats -/
def Fls (rs : List Rw) : Prop := ∀ r ∈ rs, isFloat r = true
theorem fls_lrs : ∀ {rs : List Rw}, Fls rs → lrsOf rs = []
  | [], _ => rfl
  | r :: rs, h => by
    rw [lrs_cons, fls_lrs fun x hx => h x (List.mem_cons_of_mem _ hx)]
    have := h r List.mem_cons_self
    cases r <;> first | rfl | cases this
theorem fls_scan {F : Fw} {bs : List Bk} : ∀ {rs : List Rw} {s : Sta}, Fls rs → Scan F bs s rs ∧ runS s rs = s
  | [], s, _ => ⟨True.intro, rfl⟩
  | r :: rs, s, h => by
    have hr := h r List.mem_cons_self
    have ih := fls_scan (F := F) (bs := bs) (rs := rs) (s := s) fun x hx => h x (List.mem_cons_of_mem _ hx)
    cases r with
    | float k =>
      refine ⟨⟨?_, ih.1⟩, ih.2⟩
      cases s <;> exact True.intro
    | _ => cases hr
end G
/-! The plain law: vertical's rows. -/
namespace G
open PySem L2
section
variable {F : Fw} {bs : List Bk} {m : Nat}
theorem lineGap_b (hF : FwB F) {u l : Ln} (hu : 0 ≤ u.d) (hl : 1 ≤ l.h) : 0 ≤ lineGap F u l ∧ lineGap F u l ≤ 13 := by
  have h1 := hF.lead
  have h2 := hF.least
  unfold lineGap
  split <;> omega
theorem ln_b (hB : BlB bs m) {u : Lr} (h : VL bs u) : LnB m (lnOf bs u) := hB.ln _ (vl_mem h).1 _ (vl_mem h).2
/-! ### the rows of a block -/
theorem br_lrs (i : Nat) (b : Bk) : ∀ k, lrsOf (brUp F i b k) = (List.range k).map fun j => ((i, j) : Lr)
  | 0 => rfl
  | k + 1 => by
    have e : lrsOf (ahead F b k) = [] := by unfold ahead; split <;> rfl
    show lrsOf (brUp F i b k ++ ahead F b k ++ [lineRow i k _]) = _
    rw [lrs_app, lrs_app, br_lrs i b k, e, List.append_nil, List.range_succ, List.map_append]
    rfl
theorem br_fls (i : Nat) (b : Bk) : ∀ k, flsOf (brUp F i b k) = []
  | 0 => rfl
  | k + 1 => by
    have e : flsOf (ahead F b k) = [] := by unfold ahead; split <;> rfl
    show flsOf (brUp F i b k ++ ahead F b k ++ [lineRow i k _]) = _
    rw [fls_app, fls_app, br_fls i b k, e]
    rfl
theorem vl_of {i k : Nat} (hi : i < bs.length) (ht : (bs.getD i dBk).kd.txt = true) (hk : k < (bs.getD i dBk).ls.length) : VL bs (i, k) := ⟨hi, ht, hk⟩
theorem br_row (hF : FwB F) (hB : BlB bs m) {i : Nat} (hi : i < bs.length) (ht : (bs.getD i dBk).kd.txt = true) : ∀ k, k ≤ (bs.getD i dBk).ls.length → ∀ r ∈ brUp F i (bs.getD i dBk) k, RowB F bs r
  | 0, _, r, h => by cases h
  | k + 1, hk, r, h => by
    have h : r ∈ brUp F i (bs.getD i dBk) k ++ ahead F (bs.getD i dBk) k ++ [lineRow i k ((bs.getD i dBk).ls.getD k dLn)] := h
    rcases List.mem_append.mp h with h | h
    · rcases List.mem_append.mp h with h | h
      · exact br_row hF hB hi ht k (by omega) r h
      · unfold ahead at h
        split at h
        · cases h
        · rename_i hk0
          have b1 := ln_b hB (vl_of (k := k - 1) hi ht (by omega))
          have b2 := ln_b hB (vl_of (k := k) hi ht (by omega))
          have b3 := lineGap_b hF (u := lnOf bs (i, k - 1)) (l := lnOf bs (i, k)) b1.2.1.1 b2.1.1
          rcases List.mem_cons.mp h with h | h
          · rw [h]; exact True.intro
          · rw [List.mem_singleton.mp h]
            have e : lineGap F ((bs.getD i dBk).ls.getD (k - 1) dLn) ((bs.getD i dBk).ls.getD k dLn) = lineGap F (lnOf bs (i, k - 1)) (lnOf bs (i, k)) := rfl
            show (0 ≤ lineGap F _ _ ∧ lineGap F _ _ ≤ 1000) ∧ _
            rw [e]
            exact ⟨⟨b3.1, by omega⟩, ⟨by decide, by decide⟩, by decide, by decide⟩
    · rw [List.mem_singleton.mp h]
      exact ⟨vl_of hi ht (by omega), rfl, rfl, rfl⟩
theorem mid_in {i k : Nat} (hk : 0 < k) (ht : (bs.getD i dBk).kd.txt = true) (hl : k < (bs.getD i dBk).ls.length) : Mid F bs (i, k - 1) (i, k) (costWithin F (bs.getD i dBk) (k - 1)) ⟨lineGap F ((bs.getD i dBk).ls.getD (k - 1) dLn) ((bs.getD i dBk).ls.getD k dLn), 0, 0⟩ := by
  have e : gapOf F bs (i, k - 1) (i, k) = (lineGap F (lnOf bs (i, k - 1)) (lnOf bs (i, k)), 0) := if_pos rfl
  refine ⟨by rw [e]; rfl, by rw [e], fun h => ⟨fun z => absurd rfl z, fun _ => ?_⟩, fun ⟨x, h1, h2, _⟩ => ?_⟩
  · unfold costWithin at h
    split at h
    · exact absurd h (by decide)
    · rename_i hn
      have h1 : ¬ ((bs.getD i dBk).kd = .head ∨ (bs.getD i dBk).kd = .row) := fun z => hn (.inl z)
      have h2 : ¬ (min (((k - 1 : Nat) : Int) + 1) (((bs.getD i dBk).ls.length : Int) - ((k - 1 : Nat) : Int) - 1) < F.keep) := fun z => hn (.inr z)
      refine ⟨fun z => h1 (.inl z), fun z => h1 (.inr z), ?_, ?_⟩
      · show F.keep ≤ (k : Int)
        omega
      · show F.keep ≤ ((bs.getD i dBk).ls.length : Int) - (k : Int)
        omega
  · have h1 : i ≤ x := h1
    have h2 : x < i := h2
    omega
theorem br_scan {i : Nat} {s : Sta} (ht : (bs.getD i dBk).kd.txt = true) (h0 : ∀ h d ns, okRow F bs s (.line i 0 h d ns)) : ∀ k, k ≤ (bs.getD i dBk).ls.length →
    Scan F bs s (brUp F i (bs.getD i dBk) k) ∧ runS s (brUp F i (bs.getD i dBk) k) = if k = 0 then s else some ⟨(i, k - 1), none, none⟩
  | 0, _ => ⟨True.intro, rfl⟩
  | k + 1, hk => by
    obtain ⟨h1, h2⟩ := br_scan ht h0 k (by omega)
    show Scan F bs s (brUp F i (bs.getD i dBk) k ++ ahead F (bs.getD i dBk) k ++ [lineRow i k _]) ∧ runS s (brUp F i (bs.getD i dBk) k ++ ahead F (bs.getD i dBk) k ++ [lineRow i k _]) = _
    rw [scan_app, scan_app, runS_app, runS_app, h2]
    have e2 : (if k + 1 = 0 then s else some (⟨(i, k + 1 - 1), none, none⟩ : Mi)) = some ⟨(i, k), none, none⟩ := if_neg (by omega)
    rw [e2]
    by_cases hk0 : k = 0
    · subst hk0
      have ea : ahead F (bs.getD i dBk) 0 = [] := if_pos rfl
      rw [ea, if_pos rfl]
      refine ⟨⟨⟨h1, True.intro⟩, h0 _ _ _, True.intro⟩, ?_⟩
      cases s <;> rfl
    · rw [if_neg hk0]
      have ea : ahead F (bs.getD i dBk) k = [.cost (costWithin F (bs.getD i dBk) (k - 1)), .gap (lineGap F ((bs.getD i dBk).ls.getD (k - 1) dLn) ((bs.getD i dBk).ls.getD k dLn)) 0 0] := if_neg hk0
      rw [ea]
      exact ⟨⟨⟨h1, ⟨rfl, rfl⟩, ⟨⟨_, rfl⟩, rfl⟩, True.intro⟩, ⟨_, _, rfl, rfl, mid_in (by omega) ht (by omega)⟩, True.intro⟩, rfl⟩
theorem mid_between {i j : Nat} {fo : Bool} (hj : j < i) (tj : (bs.getD j dBk).kd.txt = true) (ti : (bs.getD i dBk).kd.txt = true) (hfo : fo = true ↔ PgIn bs j i) :
    Mid F bs (j, (bs.getD j dBk).ls.length - 1) (i, 0) (costBetween F (bs.getD j dBk) (bs.getD i dBk) fo)
      ⟨(F.gap (gapName (bs.getD j dBk).kd (bs.getD i dBk).kd)).h + lineGap F ((bs.getD j dBk).ls.getD ((bs.getD j dBk).ls.length - 1) dLn) ((bs.getD i dBk).ls.getD 0 dLn), (F.gap (gapName (bs.getD j dBk).kd (bs.getD i dBk).kd)).s, (F.gap (gapName (bs.getD j dBk).kd (bs.getD i dBk).kd)).k⟩ := by
  have hne : ¬ j = i := by omega
  have en : gapName (bs.getD j dBk).kd (bs.getD i dBk).kd = lawName (bs.getD j dBk).kd (bs.getD i dBk).kd := by
    cases e1 : (bs.getD j dBk).kd <;> cases e2 : (bs.getD i dBk).kd <;> first | rfl | (rw [e1] at tj; cases tj) | (rw [e2] at ti; cases ti)
  have e : gapOf F bs (j, (bs.getD j dBk).ls.length - 1) (i, 0) = (lineGap F (lnOf bs (j, (bs.getD j dBk).ls.length - 1)) (lnOf bs (i, 0)) + (F.gap (lawName (bs.getD j dBk).kd (bs.getD i dBk).kd)).h, (F.gap (lawName (bs.getD j dBk).kd (bs.getD i dBk).kd)).k) := if_neg hne
  refine ⟨?_, ?_, fun h => ⟨fun _ => ?_, fun z => absurd z hne⟩, fun hp => ?_⟩
  · rw [e, en]
    exact Int.add_comm _ _
  · rw [e, en]
  · unfold costBetween at h
    split at h
    · rename_i hf
      exact .inl (hfo.mp hf)
    · split at h
      · exact absurd h (by decide)
      · rename_i hk
        exact .inr hk
  · unfold costBetween
    rw [if_pos (hfo.mpr hp)]
    decide
end
end G
/-! The plain law: vertical, block by block. -/
namespace G
open PySem L2
theorem flt_at {p : Nat → Bool} {i : Nat} (hp : p i = true) : ∀ {n : Nat}, i < n → ((List.range n).filter p)[((List.range i).filter p).length]? = some i
  | 0, h => absurd h (Nat.not_lt_zero _)
  | n + 1, h => by
    rw [List.range_succ, List.filter_append]
    by_cases e : i = n
    · subst e
      rw [List.getElem?_append_right (Nat.le_refl _), Nat.sub_self, filter_one hp]
      rfl
    · have ih := flt_at hp (show i < n by omega)
      rw [List.getElem?_append_left ((List.getElem?_eq_some_iff.mp ih).1)]
      exact ih
def lastOk (bs : List Bk) (i : Nat) (s : VS) : Prop :=
  match s.last with
  | none => txtUp bs i = [] ∧ s.fo = false
  | some j => j < i ∧ (bs.getD j dBk).kd.txt = true ∧ (s.fo = true ↔ PgIn bs j i)
def stOf (bs : List Bk) : Option Nat → Sta
  | none => none
  | some j => some ⟨(j, (bs.getD j dBk).ls.length - 1), none, none⟩
structure VI (F : Fw) (bs : List Bk) (i : Nat) (s : VS) : Prop where
  lines : lrsOf s.rows = ((txtUp bs i).map (lnsOf bs)).flatten
  held : Fls s.held
  hf : s.fo = false → s.held = []
  fls : flsOf s.rows ++ flsOf s.held = List.range s.fl
  fl : s.fl = ((List.range i).filter fun k => decide ((bs.getD k dBk).kd = .float)).length
  fp1 : FPr bs [] s.rows
  fp2 : FPr bs (lrsOf s.rows) s.held
  rows : ∀ r ∈ s.rows, RowB F bs r
  scan : Scan F bs none s.rows
  run : runS none s.rows = stOf bs s.last
  last : lastOk bs i s
section
variable {F : Fw} {bs : List Bk} {m : Nat}
theorem txtUp_no {i : Nat} (h : (bs.getD i dBk).kd.txt = false) : txtUp bs (i + 1) = txtUp bs i := by
  unfold txtUp
  rw [List.range_succ, List.filter_append, filter_zero (p := fun k => (bs.getD k dBk).kd.txt) h, List.append_nil]
theorem txtUp_yes {i : Nat} (h : (bs.getD i dBk).kd.txt = true) : txtUp bs (i + 1) = txtUp bs i ++ [i] := by
  unfold txtUp
  rw [List.range_succ, List.filter_append, filter_one (p := fun k => (bs.getD k dBk).kd.txt) h]
theorem flUp_no {i : Nat} (h : (bs.getD i dBk).kd ≠ .float) : ((List.range (i + 1)).filter fun k => decide ((bs.getD k dBk).kd = .float)).length = ((List.range i).filter fun k => decide ((bs.getD k dBk).kd = .float)).length := by
  rw [List.range_succ, List.filter_append, filter_zero (p := fun k => decide ((bs.getD k dBk).kd = .float)) (decide_eq_false h), List.append_nil]
theorem flUp_yes {i : Nat} (h : (bs.getD i dBk).kd = .float) : ((List.range (i + 1)).filter fun k => decide ((bs.getD k dBk).kd = .float)).length = ((List.range i).filter fun k => decide ((bs.getD k dBk).kd = .float)).length + 1 := by
  rw [List.range_succ, List.filter_append, filter_one (p := fun k => decide ((bs.getD k dBk).kd = .float)) (decide_eq_true h), List.length_append]
  rfl
theorem pg_step {i j : Nat} (h : (bs.getD i dBk).kd ≠ .page) : PgIn bs j (i + 1) ↔ PgIn bs j i := by
  constructor
  · rintro ⟨k, a, b, c⟩
    refine ⟨k, a, ?_, c⟩
    by_cases e : k = i
    · rw [e] at c
      exact absurd c h
    · omega
  · rintro ⟨k, a, b, c⟩
    exact ⟨k, a, by omega, c⟩
theorem bef_at {i fl : Nat} {acc : List Lr} (hi : i < bs.length) (hk : (bs.getD i dBk).kd = .float) (hfl : fl = ((List.range i).filter fun k => decide ((bs.getD k dBk).kd = .float)).length) (hacc : acc = ((txtUp bs i).map (lnsOf bs)).flatten) : Bef bs fl acc := by
  intro fb h j hj u hu
  have e : (flBs bs)[fl]? = some i := by
    rw [hfl]
    exact flt_at (p := fun k => decide ((bs.getD k dBk).kd = .float)) (decide_eq_true hk) hi
  rw [e] at h
  cases h
  rw [hacc]
  exact List.mem_flatten.mpr ⟨lnsOf bs j, List.mem_map.mpr ⟨j, hj, rfl⟩, hu⟩
theorem vi_step (hF : FwB F) (hB : BlB bs m) {i : Nat} {s : VS} (hi : i < bs.length) (h : VI F bs i s) : VI F bs (i + 1) (vstep F bs s i (bs.getD i dBk)) := by
  unfold vstep
  by_cases hp : (bs.getD i dBk).kd = .page
  · rw [if_pos hp]
    have ht : (bs.getD i dBk).kd.txt = false := by rw [hp]; rfl
    have hnf : (bs.getD i dBk).kd ≠ .float := by rw [hp]; intro z; cases z
    have hl := h.last
    refine ⟨by rw [txtUp_no ht]; exact h.lines, h.held, fun z => ?_, h.fls, by rw [flUp_no hnf]; exact h.fl, h.fp1, h.fp2, h.rows, h.scan, h.run, ?_⟩
    · unfold lastOk at hl
      cases e : s.last with
      | none =>
        rw [e] at hl
        exact h.hf hl.2
      | some j =>
        have z : s.last.isSome = false := z
        rw [e] at z
        cases z
    · unfold lastOk at hl ⊢
      cases e : s.last with
      | none =>
        rw [e] at hl
        exact ⟨by rw [txtUp_no ht]; exact hl.1, rfl⟩
      | some j =>
        rw [e] at hl
        exact ⟨by omega, hl.2.1, fun _ => ⟨i, by omega, by omega, hp⟩, fun _ => rfl⟩
  · rw [if_neg hp]
    by_cases hf : (bs.getD i dBk).kd = .float
    · rw [if_pos hf]
      have ht : (bs.getD i dBk).kd.txt = false := by rw [hf]; rfl
      have hb := bef_at hi hf h.fl h.lines
      have hl : ∀ r h' f', lastOk bs (i + 1) ⟨r, h', f', s.last, s.fo⟩ := fun r h' f' => by
        have hl := h.last
        unfold lastOk at hl ⊢
        cases e : s.last with
        | none =>
          rw [e] at hl
          exact ⟨by rw [txtUp_no ht]; exact hl.1, hl.2⟩
        | some j =>
          rw [e] at hl
          exact ⟨by omega, hl.2.1, hl.2.2.trans (pg_step hp).symm⟩
      by_cases hfo : s.fo = true
      · rw [if_pos hfo]
        refine ⟨by rw [txtUp_no ht]; exact h.lines, fun r hr => ?_, fun z => ?_, ?_, by rw [flUp_yes hf, ← h.fl], h.fp1, ?_, h.rows, h.scan, h.run, hl _ _ _⟩
        · rcases List.mem_append.mp hr with hr | hr
          · exact h.held r hr
          · rw [List.mem_singleton.mp hr]
            rfl
        · have z : s.fo = false := z
          rw [hfo] at z
          cases z
        · show flsOf s.rows ++ flsOf (s.held ++ [.float s.fl]) = List.range (s.fl + 1)
          rw [fls_app, ← List.append_assoc, h.fls, List.range_succ]
          rfl
        · show FPr bs (lrsOf s.rows) (s.held ++ [.float s.fl])
          rw [fpr_app]
          refine ⟨h.fp2, fun k hk => ?_, True.intro⟩
          cases hk
          rw [fls_lrs h.held, List.append_nil]
          exact hb
      · rw [if_neg hfo]
        have hfo' : s.fo = false := by simpa using hfo
        have hh := h.hf hfo'
        refine ⟨?_, h.held, fun _ => hh, ?_, by rw [flUp_yes hf, ← h.fl], ?_, ?_, fun r hr => ?_, ?_, ?_, hl _ _ _⟩
        · show lrsOf (s.rows ++ [.float s.fl]) = _
          rw [lrs_app, txtUp_no ht, h.lines]
          exact List.append_nil _
        · show flsOf (s.rows ++ [.float s.fl]) ++ flsOf s.held = List.range (s.fl + 1)
          have := h.fls
          rw [hh] at this ⊢
          have e : flsOf ([] : List Rw) = [] := rfl
          rw [e, List.append_nil] at this ⊢
          rw [fls_app, this, List.range_succ]
          rfl
        · show FPr bs [] (s.rows ++ [.float s.fl])
          rw [fpr_app]
          refine ⟨h.fp1, fun k hk => ?_, True.intro⟩
          cases hk
          exact hb
        · show FPr bs _ s.held
          rw [hh]
          exact True.intro
        · rcases List.mem_append.mp hr with hr | hr
          · exact h.rows r hr
          · rw [List.mem_singleton.mp hr]
            exact True.intro
        · show Scan F bs none (s.rows ++ [.float s.fl])
          rw [scan_app]
          refine ⟨h.scan, ?_, True.intro⟩
          cases runS none s.rows <;> exact True.intro
        · show runS none (s.rows ++ [.float s.fl]) = _
          rw [runS_app, h.run]
          cases stOf bs s.last <;> rfl
    · rw [if_neg hf]
      have ht := txt_of hp hf
      obtain ⟨hne, _⟩ := hB.ls _ (List.mem_of_getElem? (getD_at (d := dBk) hi)) ht
      have hlen : 0 < (bs.getD i dBk).ls.length := List.length_pos_iff.mpr hne
      have hl := h.last
      have hrun := h.run
      have hbt : lrsOf (between F bs s (bs.getD i dBk)) = [] ∧ flsOf (between F bs s (bs.getD i dBk)) = [] := by
        unfold between
        cases s.last <;> exact ⟨rfl, rfl⟩
      have hbl : lrsOf (blockRows F i (bs.getD i dBk)) = lnsOf bs i := br_lrs i _ _
      have hbf : flsOf (blockRows F i (bs.getD i dBk)) = [] := br_fls i _ _
      have hhl := fls_lrs h.held
      -- the scan
      have hsc : Scan F bs (runS none s.rows) (between F bs s (bs.getD i dBk)) ∧ ∀ h' d ns, okRow F bs (runS (runS none s.rows) (between F bs s (bs.getD i dBk))) (.line i 0 h' d ns) := by
        rw [hrun]
        unfold between
        unfold lastOk at hl
        cases e : s.last with
        | none => exact ⟨True.intro, fun _ _ _ => True.intro⟩
        | some j =>
          rw [e] at hl
          obtain ⟨l1, l2, l3⟩ := hl
          exact ⟨⟨⟨rfl, rfl⟩, ⟨⟨_, rfl⟩, rfl⟩, True.intro⟩, fun _ _ _ => ⟨_, _, rfl, rfl, mid_between l1 l2 ht l3⟩⟩
      have hfs := fls_scan (F := F) (bs := bs) (s := runS (runS none s.rows) (between F bs s (bs.getD i dBk))) h.held
      have hbs := br_scan (F := F) (bs := bs) (s := runS (runS none s.rows) (between F bs s (bs.getD i dBk))) ht hsc.2 _ (Nat.le_refl _)
      rw [if_neg (by omega)] at hbs
      refine ⟨?_, fun r hr => (by cases hr), fun _ => rfl, ?_, by rw [flUp_no hf]; exact h.fl, ?_, True.intro, fun r hr => ?_, ?_, ?_, ?_⟩
      · show lrsOf (s.rows ++ between F bs s _ ++ (s.held ++ blockRows F i _)) = _
        rw [lrs_app, lrs_app, lrs_app, hbt.1, hhl, hbl, h.lines, txtUp_yes ht, List.map_append, List.flatten_append, List.append_nil, List.nil_append]
        simp
      · show flsOf (s.rows ++ between F bs s _ ++ (s.held ++ blockRows F i _)) ++ flsOf [] = _
        rw [fls_app, fls_app, fls_app, hbt.2, hbf, List.append_nil, List.append_nil]
        show _ ++ [] = _
        rw [List.append_nil]
        exact h.fls
      · show FPr bs [] (s.rows ++ between F bs s _ ++ (s.held ++ blockRows F i _))
        rw [fpr_app, fpr_app, fpr_app, lrs_app, hbt.1, List.append_nil]
        exact ⟨⟨h.fp1, fpr_none hbt.2⟩, h.fp2, fpr_none hbf⟩
      · rcases List.mem_append.mp hr with hr | hr
        · rcases List.mem_append.mp hr with hr | hr
          · exact h.rows r hr
          · unfold between at hr
            unfold lastOk at hl
            cases e : s.last with
            | none =>
              rw [e] at hr
              cases hr
            | some j =>
              rw [e] at hr hl
              obtain ⟨l1, l2, _⟩ := hl
              rcases List.mem_cons.mp hr with hr | hr
              · rw [hr]; exact True.intro
              · rw [List.mem_singleton.mp hr]
                have hj : j < bs.length := by omega
                obtain ⟨hne2, _⟩ := hB.ls _ (List.mem_of_getElem? (getD_at (d := dBk) hj)) l2
                have hlen2 : 0 < (bs.getD j dBk).ls.length := List.length_pos_iff.mpr hne2
                have b1 := ln_b hB (vl_of (k := (bs.getD j dBk).ls.length - 1) hj l2 (by omega))
                have b2 := ln_b hB (vl_of (k := 0) hi ht hlen)
                have b3 := lineGap_b hF (u := lnOf bs (j, (bs.getD j dBk).ls.length - 1)) (l := lnOf bs (i, 0)) b1.2.1.1 b2.1.1
                have b4 := hF.gap (gapName (bs.getD j dBk).kd (bs.getD i dBk).kd)
                obtain ⟨⟨g1, g2⟩, ⟨g3, g4⟩, g5, g6⟩ := b4
                obtain ⟨b5, b6⟩ := b3
                have e5 : lineGap F ((bs.getD j dBk).ls.getD ((bs.getD j dBk).ls.length - 1) dLn) ((bs.getD i dBk).ls.getD 0 dLn) = lineGap F (lnOf bs (j, (bs.getD j dBk).ls.length - 1)) (lnOf bs (i, 0)) := rfl
                show (0 ≤ _ + lineGap F _ _ ∧ _ + lineGap F _ _ ≤ 1000) ∧ _
                rw [e5]
                exact ⟨⟨by omega, by omega⟩, ⟨by omega, by omega⟩, by omega, by omega⟩
        · rcases List.mem_append.mp hr with hr | hr
          · have := h.held r hr
            cases r with
            | float k => exact True.intro
            | _ => cases this
          · exact br_row hF hB hi ht _ (Nat.le_refl _) r hr
      · show Scan F bs none (s.rows ++ between F bs s _ ++ (s.held ++ blockRows F i _))
        rw [scan_app, scan_app, scan_app, runS_app, hfs.2]
        exact ⟨⟨h.scan, hsc.1⟩, hfs.1, hbs.1⟩
      · show runS none (s.rows ++ between F bs s _ ++ (s.held ++ blockRows F i _)) = _
        rw [runS_app, runS_app, runS_app, hfs.2]
        exact hbs.2
      · refine ⟨by omega, ht, fun z => (by cases z), fun ⟨k, k1, k2, k3⟩ => ?_⟩
        have : k = i := by omega
        rw [this] at k3
        exact absurd k3 hp
theorem vi_all (hF : FwB F) (hB : BlB bs m) : ∀ i, i ≤ bs.length → VI F bs i (vUp F bs i)
  | 0, _ => ⟨rfl, fun r h => (by cases h), fun _ => rfl, rfl, rfl, True.intro, True.intro, fun r h => (by cases h), True.intro, rfl, rfl, rfl⟩
  | i + 1, h => vi_step hF hB (by omega) (vi_all hF hB i (by omega))
/-- what vertical makes -/
structure VOk (F : Fw) (bs : List Bk) (rs : List Rw) : Prop where
  lines : lrsOf rs = linesOf bs
  fls : flsOf rs = List.range (flBs bs).length
  fp : FPr bs [] rs
  rows : ∀ r ∈ rs, RowB F bs r
  scan : Scan F bs none rs
theorem v_ok (hF : FwB F) (hB : BlB bs m) : VOk F bs (vertical F bs) := by
  have h := vi_all hF hB bs.length (Nat.le_refl _)
  refine ⟨?_, ?_, ?_, fun r hr => ?_, ?_⟩
  · unfold vertical
    rw [lrs_app, fls_lrs h.held, List.append_nil]
    exact h.lines
  · unfold vertical
    rw [fls_app, h.fls, h.fl]
    rfl
  · unfold vertical
    rw [fpr_app]
    exact ⟨h.fp1, h.fp2⟩
  · rcases List.mem_append.mp hr with hr | hr
    · exact h.rows r hr
    · have := h.held r hr
      cases r with
      | float k => exact True.intro
      | _ => cases this
  · unfold vertical
    rw [scan_app]
    exact ⟨h.scan, (fls_scan h.held).1⟩
end
end G
/-! The plain law: a page's rows. -/
namespace G
open PySem L2
theorem take_cut {rs : List Rw} {f l : Nat} (h : f ≤ l) : rs.take l = rs.take f ++ cutR rs f l := by
  unfold cutR
  have e : l = f + (l - f) := by omega
  conv => lhs; rw [e, List.take_add]
theorem cut_cut {rs : List Rw} {a b c : Nat} (h1 : a ≤ b) (h2 : b ≤ c) : cutR rs a c = cutR rs a b ++ cutR rs b c := by
  have e1 := take_cut (rs := rs) (show a ≤ c by omega)
  rw [take_cut h2, take_cut h1, List.append_assoc] at e1
  exact (List.append_cancel_left e1).symm
theorem lrs_cnt {rs : List Rw} : ∀ k, k ≤ rs.length → ((lrsOf (rs.take k)).length : Int) = cB (rs.map isLine) k
  | 0, _ => by simp [lrsOf, cB]
  | k + 1, h => by
    have ih := lrs_cnt (rs := rs) k (by omega)
    have e : rs[k]? = some (rs.getD k dRw) := getD_at (by omega)
    rw [lrs_snoc e, List.length_append]
    show _ = cB (rs.map isLine) k + _
    rw [getD_map isLine (by omega), ← ih]
    cases rs.getD k dRw <;> simp [lrOf, isLine]
theorem fls_snoc {rs : List Rw} {j : Nat} {r : Rw} (h : rs[j]? = some r) : flsOf (rs.take (j + 1)) = flsOf (rs.take j) ++ (flOf r).toList := by
  unfold flsOf
  rw [List.take_add_one, h, List.filterMap_append]
  show _ ++ List.filterMap flOf [r] = _
  cases e : flOf r with
  | none => rw [List.filterMap_cons_none e]; rfl
  | some u => rw [List.filterMap_cons_some e]; rfl
theorem fls_cnt {rs : List Rw} : ∀ k, k ≤ rs.length → ((flsOf (rs.take k)).length : Int) = cB (rs.map isFloat) k
  | 0, _ => by simp [flsOf, cB]
  | k + 1, h => by
    have ih := fls_cnt (rs := rs) k (by omega)
    have e : rs[k]? = some (rs.getD k dRw) := getD_at (by omega)
    rw [fls_snoc e, List.length_append]
    show _ = cB (rs.map isFloat) k + _
    rw [getD_map isFloat (by omega), ← ih]
    cases rs.getD k dRw <;> simp [flOf, isFloat]
/-! ### sums of parts -/
def sumP (nts : List Int) (c : Nat) (rs : List Rw) : Int := (rs.map fun r => (parts nts r).getD c 0).sum
theorem sumP_app (nts : List Int) (c : Nat) (a b : List Rw) : sumP nts c (a ++ b) = sumP nts c a + sumP nts c b := by
  unfold sumP
  rw [List.map_append, List.sum_append]
theorem sumP_cons (nts : List Int) (c : Nat) (r : Rw) (b : List Rw) : sumP nts c (r :: b) = (parts nts r).getD c 0 + sumP nts c b := by
  unfold sumP
  rw [List.map_cons, List.sum_cons]
theorem cp_sum {S : Sh} {c : Nat} (hc : c < 5) : ∀ k, k ≤ S.n → S.cp k c = sumP S.notes c (S.rows.take k)
  | 0, _ => by rw [S.cp_zero hc]; rfl
  | k + 1, h => by
    have ih := cp_sum (S := S) hc k (by omega)
    have e : S.rows[k]? = some (S.rows.getD k dRw) := getD_at (by exact h)
    rw [S.cp_succ k hc, ih, List.take_add_one, e, sumP_app]
    show _ = _ + sumP S.notes c [S.rows.getD k dRw]
    rw [sumP_cons]
    show _ = _ + (_ + 0)
    rw [Int.add_zero]
    rfl
section
variable {F : Fw} {bs : List Bk} {nts : List Int}
/-! ### the height of lines -/
theorem hsUp_pre (us vs : List Lr) : ∀ k, k ≤ us.length → hsUp F bs (us ++ vs) k = hsUp F bs us k
  | 0, _ => rfl
  | k + 1, h => by
    have ih := hsUp_pre us vs k (by omega)
    have e1 : (us ++ vs).getD k dLr = us.getD k dLr := by
      rw [List.getD_eq_getElem?_getD, List.getD_eq_getElem?_getD, List.getElem?_append_left (by omega)]
    have e2 : (us ++ vs).getD (k - 1) dLr = us.getD (k - 1) dLr := by
      rw [List.getD_eq_getElem?_getD, List.getD_eq_getElem?_getD, List.getElem?_append_left (by omega)]
    show (if 0 < k then _ else _) = (if 0 < k then _ else _)
    rw [ih, e1, e2]
theorem hsUp_snoc {us : List Lr} {u v : Lr} (hu : us.getLast? = some u) : hsUp F bs (us ++ [v]) (us ++ [v]).length = ((hsUp F bs us us.length).1 + (lnOf bs v).h + (lnOf bs v).d + (gapOf F bs u v).1, (hsUp F bs us us.length).2 + (gapOf F bs u v).2) := by
  have hl : 0 < us.length := by
    cases us with
    | nil => cases hu
    | cons a b => exact Nat.zero_lt_succ _
  rw [List.length_append, List.length_singleton]
  have e1 : (us ++ [v]).getD us.length dLr = v := by
    rw [List.getD_eq_getElem?_getD, List.getElem?_append_right (Nat.le_refl _), Nat.sub_self]
    rfl
  have e2 : (us ++ [v]).getD (us.length - 1) dLr = u := by
    rw [List.getD_eq_getElem?_getD, List.getElem?_append_left (by omega), ← List.getLast?_eq_getElem?, hu]
    rfl
  show (if 0 < us.length then _ else _) = _
  rw [if_pos hl, e1, e2, hsUp_pre us [v] us.length (Nat.le_refl _)]
def pen : Option Gp → Int × Int
  | none => (0, 0)
  | some g => (g.h, g.k)
theorem pt0 (r : Rw) (h : lrOf r = none) : (parts nts r).getD 3 0 = 0 ∧ (parts nts r).getD 4 0 = 0 := by
  cases r <;> first | exact ⟨rfl, rfl⟩ | cases h
theorem hs_run : ∀ (T : List Rw) (us : List Lr) (m : Mi), us.getLast? = some m.u → Scan F bs (some m) T → (∀ r ∈ T, RowB F bs r) → ∃ m', runS (some m) T = some m' ∧ (us ++ lrsOf T).getLast? = some m'.u ∧
    (hsUp F bs us us.length).1 + (pen m.g).1 + sumP nts 0 T = (hsUp F bs (us ++ lrsOf T) (us ++ lrsOf T).length).1 + (pen m'.g).1 ∧
    (hsUp F bs us us.length).2 + (pen m.g).2 + sumP nts 2 T = (hsUp F bs (us ++ lrsOf T) (us ++ lrsOf T).length).2 + (pen m'.g).2
  | [], us, m, hu, _, _ => by
    have e : lrsOf [] = [] := rfl
    refine ⟨m, rfl, by rw [e, List.append_nil]; exact hu, ?_, ?_⟩ <;> (rw [e, List.append_nil]; exact Int.add_zero _)
  | r :: T, us, m, hu, hs, hr => by
    obtain ⟨h1, h2⟩ := hs
    have hr1 := hr r List.mem_cons_self
    have hr2 := fun x hx => hr x (List.mem_cons_of_mem r hx)
    rw [lrs_cons, sumP_cons, sumP_cons]
    cases r with
    | float k =>
      obtain ⟨m', a, b, c, d⟩ := hs_run T us m hu h2 hr2
      refine ⟨m', a, b, ?_, ?_⟩
      · show _ + (0 + _) = _
        rw [Int.zero_add]
        exact c
      · show _ + (0 + _) = _
        rw [Int.zero_add]
        exact d
    | cost x =>
      obtain ⟨m', a, b, c, d⟩ := hs_run T us ⟨m.u, some x, m.g⟩ hu h2 hr2
      refine ⟨m', a, b, ?_, ?_⟩
      · show _ + (0 + _) = _
        rw [Int.zero_add]
        exact c
      · show _ + (0 + _) = _
        rw [Int.zero_add]
        exact d
    | gap x y z =>
      have h1 : (∃ c, m.c = some c) ∧ m.g = none := h1
      obtain ⟨m', a, b, c, d⟩ := hs_run T us ⟨m.u, m.c, some ⟨x, y, z⟩⟩ hu h2 hr2
      refine ⟨m', a, b, ?_, ?_⟩
      · show _ + (x + _) = _
        rw [h1.2]
        have c : (hsUp F bs us us.length).1 + x + sumP nts 0 T = _ := c
        have e : (pen none).1 = 0 := rfl
        rw [e]
        show _ = (hsUp F bs (us ++ lrsOf T) (us ++ lrsOf T).length).1 + _
        omega
      · show _ + (z + _) = _
        rw [h1.2]
        have d : (hsUp F bs us us.length).2 + z + sumP nts 2 T = _ := d
        have e : (pen none).2 = 0 := rfl
        rw [e]
        show _ = (hsUp F bs (us ++ lrsOf T) (us ++ lrsOf T).length).2 + _
        omega
    | line b l hh dd ns =>
      obtain ⟨cc, g, e1, e2, M⟩ := h1
      obtain ⟨_, r2, r3, _⟩ := hr1
      have eh := hsUp_snoc (F := F) (bs := bs) (v := ((b, l) : Lr)) hu
      obtain ⟨m', a, b', c, d⟩ := hs_run T (us ++ [(b, l)]) ⟨(b, l), none, none⟩ (by rw [List.getLast?_append]; rfl) h2 hr2
      have ea : us ++ ((lrOf (.line b l hh dd ns)).toList ++ lrsOf T) = us ++ [(b, l)] ++ lrsOf T := by rw [List.append_assoc]; rfl
      rw [ea]
      rw [eh] at c d
      refine ⟨m', a, b', ?_, ?_⟩
      · show _ + ((hh + dd) + _) = _
        rw [e2]
        show (hsUp F bs us us.length).1 + g.h + _ = _
        rw [← c, M.h, r2, r3]
        show _ = _ + 0 + _
        omega
      · show _ + (0 + _) = _
        rw [e2]
        show (hsUp F bs us us.length).2 + g.k + _ = _
        rw [← d, M.k]
        show _ = _ + 0 + _
        omega
/-! ### the notes of lines -/
theorem sum_notes : ∀ {T : List Rw}, (∀ r ∈ T, RowB F bs r) → sumP nts 3 T = (pick nts (mineOf bs (lrsOf T))).sum ∧ sumP nts 4 T = ((mineOf bs (lrsOf T)).length : Int)
  | [], _ => ⟨rfl, rfl⟩
  | r :: T, h => by
    obtain ⟨i1, i2⟩ := sum_notes (T := T) fun x hx => h x (List.mem_cons_of_mem r hx)
    have hr := h r List.mem_cons_self
    rw [sumP_cons, sumP_cons, lrs_cons, i1, i2]
    cases e : lrOf r with
    | none =>
      have := pt0 (nts := nts) r e
      rw [this.1, this.2]
      exact ⟨Int.zero_add _, Int.zero_add _⟩
    | some u =>
      cases r with
      | line b l hh dd ns =>
        cases e
        obtain ⟨_, _, _, r4⟩ := hr
        have em : mineOf bs ([((b, l) : Lr)] ++ lrsOf T) = ns ++ mineOf bs (lrsOf T) := by
          unfold mineOf
          rw [List.map_append, List.flatten_append, r4]
          simp
        have em' : mineOf bs ((some ((b, l) : Lr)).toList ++ lrsOf T) = ns ++ mineOf bs (lrsOf T) := em
        rw [em']
        refine ⟨?_, ?_⟩
        · show (ns.map fun n => nts.getD n.toNat 0).sum + _ = _
          unfold pick
          rw [List.map_append, List.sum_append]
        · show (ns.length : Int) + _ = _
          rw [List.length_append]
          omega
      | _ => cases e
end
end G
/-! The plain law: one page. -/
namespace G
open PySem L2
theorem cut_one {rs : List Rw} {a : Nat} (h : a < rs.length) : cutR rs a (a + 1) = [rs.getD a dRw] := by
  unfold cutR
  rw [show a + 1 - a = 1 by omega, List.drop_eq_getElem_cons h, List.getD_eq_getElem?_getD, List.getElem?_eq_getElem h]
  rfl
theorem line_row {r : Rw} (h : isLine r = true) : ∃ b l hh dd ns, r = .line b l hh dd ns := by
  cases r with
  | line b l hh dd ns => exact ⟨b, l, hh, dd, ns, rfl⟩
  | _ => cases h
theorem split1 : ∀ {T : List Rw} {v : Lr}, (lrsOf T)[0]? = some v → ∃ M rv Y, T = M ++ rv :: Y ∧ lrOf rv = some v ∧ lrsOf M = []
  | [], v, h => by cases h
  | r :: T, v, h => by
    rw [lrs_cons] at h
    cases e : lrOf r with
    | none =>
      rw [e] at h
      obtain ⟨M, rv, Y, h1, h2, h3⟩ := split1 (T := T) h
      exact ⟨r :: M, rv, Y, by rw [h1]; rfl, h2, by rw [lrs_cons, e, h3]; rfl⟩
    | some w =>
      rw [e] at h
      cases h
      exact ⟨[], r, T, rfl, e, rfl⟩
theorem split2 : ∀ {T : List Rw} {j : Nat} {u v : Lr}, (lrsOf T)[j]? = some u → (lrsOf T)[j + 1]? = some v → ∃ X ru M rv Y, T = X ++ ru :: (M ++ rv :: Y) ∧ lrOf ru = some u ∧ lrOf rv = some v ∧ lrsOf M = []
  | [], j, u, v, h, _ => by cases h
  | r :: T, j, u, v, h, h2 => by
    rw [lrs_cons] at h h2
    cases e : lrOf r with
    | none =>
      rw [e] at h h2
      obtain ⟨X, ru, M, rv, Y, h3, h4, h5, h6⟩ := split2 (T := T) (j := j) h h2
      exact ⟨r :: X, ru, M, rv, Y, by rw [h3]; rfl, h4, h5, h6⟩
    | some w =>
      rw [e] at h h2
      cases j with
      | zero =>
        cases h
        obtain ⟨M, rv, Y, h3, h4, h5⟩ := split1 (T := T) (v := v) h2
        exact ⟨[], r, M, rv, Y, by rw [h3]; rfl, e, h4, h5⟩
      | succ j =>
        obtain ⟨X, ru, M, rv, Y, h3, h4, h5, h6⟩ := split2 (T := T) (j := j) h h2
        exact ⟨r :: X, ru, M, rv, Y, by rw [h3]; rfl, h4, h5, h6⟩
/-- rows between two lines -/
theorem run_mid {F : Fw} {bs : List Bk} : ∀ {M : List Rw} {m : Mi}, lrsOf M = [] → Scan F bs (some m) M → ∃ m', runS (some m) M = some m' ∧ m'.u = m.u ∧ (∀ c, m'.c = some c → m.c = some c ∨ .cost c ∈ M) ∧ (∀ c, .cost c ∈ M → m.c = none ∧ m'.c = some c) ∧ (∀ c, m.c = some c → m'.c = some c)
  | [], m, _, _ => ⟨m, rfl, rfl, fun c h => .inl h, fun c h => (by cases h), fun c h => h⟩
  | r :: M, m, h, hs => by
    rw [lrs_cons] at h
    obtain ⟨h1, h2⟩ := hs
    cases r with
    | line b l hh dd ns => cases h
    | float k =>
      obtain ⟨m', a, b, c, d, e⟩ := run_mid (M := M) h h2
      exact ⟨m', a, b, fun x hx => (c x hx).imp id fun z => List.mem_cons_of_mem _ z, fun x hx => d x (by rcases List.mem_cons.mp hx with z | z; cases z; exact z), e⟩
    | gap x y z =>
      obtain ⟨m', a, b, c, d, e⟩ := run_mid (M := M) (m := ⟨m.u, m.c, some ⟨x, y, z⟩⟩) h h2
      exact ⟨m', a, b, fun x hx => (c x hx).imp id fun z => List.mem_cons_of_mem _ z, fun x hx => d x (by rcases List.mem_cons.mp hx with z | z; cases z; exact z), e⟩
    | cost x =>
      obtain ⟨m', a, b, c, d, e⟩ := run_mid (M := M) (m := ⟨m.u, some x, m.g⟩) h h2
      refine ⟨m', a, b, fun y hy => ?_, fun y hy => ?_, fun y hy => ?_⟩
      · rcases c y hy with z | z
        · cases z
          exact .inr List.mem_cons_self
        · exact .inr (List.mem_cons_of_mem _ z)
      · rcases List.mem_cons.mp hy with z | z
        · cases z
          exact ⟨h1.1, e x rfl⟩
        · have := (d y z).1
          cases this
      · rw [h1.1] at hy
        cases hy
/-- two lines, one behind the other: what lies between them -/
theorem two_lines {F : Fw} {bs : List Bk} {s : Sta} {X M Y : List Rw} {ru rv : Rw} {u v : Lr} (hs : Scan F bs s (X ++ ru :: (M ++ rv :: Y))) (hu : lrOf ru = some u) (hv : lrOf rv = some v) (hM : lrsOf M = []) : ∃ c g, .cost c ∈ M ∧ Mid F bs u v c g ∧ ∀ c', .cost c' ∈ M → c' = c := by
  rw [scan_app] at hs
  obtain ⟨_, _, h3⟩ := hs
  rw [scan_app] at h3
  obtain ⟨h4, h5, _⟩ := h3
  have en : nxt (runS s X) ru = some ⟨u, none, none⟩ := by
    cases ru with
    | line b l hh dd ns =>
      cases hu
      cases runS s X <;> rfl
    | _ => cases hu
  rw [en] at h4 h5
  obtain ⟨m', a, b, c, d, _⟩ := run_mid hM h4
  rw [a] at h5
  cases rv with
  | line bb l hh dd ns =>
    cases hv
    obtain ⟨cc, g, e1, _, e3⟩ := h5
    rw [b] at e3
    refine ⟨cc, g, ?_, e3, fun c' h => ?_⟩
    · rcases c cc e1 with z | z
      · cases z
      · exact z
    · have := (d c' h).2
      rw [e1] at this
      exact (Option.some.inj this).symm
  | _ => cases hv
theorem mem_lrs {T : List Rw} {u : Lr} (h : u ∈ lrsOf T) : ∃ r ∈ T, lrOf r = some u := by
  obtain ⟨r, h1, h2⟩ := List.mem_filterMap.mp h
  exact ⟨r, h1, h2⟩
theorem cB_at {bs : List Bool} {i k j : Nat} (h1 : i ≤ k) (h2 : k < j) (h : bs.getD k false = true) : cB bs i + 1 ≤ cB bs j := by
  have a1 := cB_mono bs h1
  have a2 : cB bs (k + 1) = cB bs k + (if bs.getD k false = true then 1 else 0) := rfl
  rw [if_pos h] at a2
  have a3 := cB_mono bs (show k + 1 ≤ j by omega)
  omega
theorem cut_at2 {rs : List Rw} {f l k : Nat} {r : Rw} (hfl : f ≤ l) (h : (cutR rs f l)[k]? = some r) : rs[f + k]? = some r ∧ f + k < l := by
  unfold cutR at h
  rw [List.getElem?_take] at h
  by_cases hk : k < l - f
  · rw [if_pos hk, List.getElem?_drop] at h
    exact ⟨h, by omega⟩
  · rw [if_neg hk] at h
    cases h
theorem cut_mem {rs : List Rw} {f l : Nat} {r : Rw} (h : r ∈ cutR rs f l) : r ∈ rs := List.mem_of_mem_drop (List.mem_of_mem_take h)
section
variable {F : Fw} {bs : List Bk} {rs : List Rw} {nts fls : List Int}
theorem cnt_eq {rs : List Rw} {f l : Nat} (hfl : f ≤ l) (hl : l ≤ rs.length) : cB (rs.map isLine) l = cB (rs.map isLine) f + ((lrsOf (cutR rs f l)).length : Int) := by
  rw [← lrs_cnt l hl, ← lrs_cnt f (by omega), take_cut hfl, lrs_app, List.length_append]
  omega
theorem cut_nil {rs : List Rw} {f l : Nat} (hfl : f ≤ l) (hl : l ≤ rs.length) (h : cB (rs.map isLine) f = cB (rs.map isLine) l) : lrsOf (cutR rs f l) = [] := by
  have := cnt_eq hfl hl
  exact List.eq_nil_of_length_eq_zero (by omega)
theorem scan_cut (V : VOk F bs rs) (f l : Nat) : Scan F bs (runS none (rs.take f)) (cutR rs f l) := by
  have h := V.scan
  rw [← List.take_append_drop f rs, scan_app] at h
  have h2 := h.2
  rw [← List.take_append_drop (l - f) (rs.drop f), scan_app] at h2
  exact h2.1
theorem page_sum (V : VOk F bs rs) {f l : Nat} (hfl : f ≤ l) (hl : l ≤ rs.length) :
    Sh.tx ⟨rs, nts, fls, F⟩ f l 0 = (hsUp F bs (lrsOf (cutR rs f l)) (lrsOf (cutR rs f l)).length).1 ∧ Sh.tx ⟨rs, nts, fls, F⟩ f l 2 = (hsUp F bs (lrsOf (cutR rs f l)) (lrsOf (cutR rs f l)).length).2 ∧
    Sh.tx ⟨rs, nts, fls, F⟩ f l 3 = (pick nts (mineOf bs (lrsOf (cutR rs f l)))).sum ∧ Sh.tx ⟨rs, nts, fls, F⟩ f l 4 = ((mineOf bs (lrsOf (cutR rs f l))).length : Int) := by
  generalize hS : (⟨rs, nts, fls, F⟩ : Sh) = S
  have hr : S.rows = rs := by rw [← hS]
  have hn : S.notes = nts := by rw [← hS]
  have hSn : S.n = rs.length := by rw [← hS]; rfl
  have hc : ∀ k, S.cntL k = cB (rs.map isLine) k := fun k => by rw [← hS]; rfl
  rw [S.tx_eq f l (by decide), S.tx_eq f l (by decide), S.tx_eq f l (by decide), S.tx_eq f l (by decide)]
  by_cases h0 : S.cntL f = S.cntL l
  · rw [if_pos h0, if_pos h0, if_pos h0, if_pos h0, cut_nil hfl hl (by rw [← hc, ← hc]; exact h0)]
    exact ⟨rfl, rfl, rfl, rfl⟩
  · rw [if_neg h0, if_neg h0, if_neg h0, if_neg h0]
    have m1 : S.cntL f ≤ S.cntL l := cB_mono _ hfl
    have m2 : S.cntL l ≤ S.cntL S.n := cB_mono _ (by rw [hSn]; exact hl)
    have m3 : 0 ≤ S.cntL f := cB_nn _ _
    obtain ⟨_, a2, a3⟩ := S.line_is m3 (by omega)
    obtain ⟨_, b2, b3⟩ := S.line_is (j := S.cntL l - 1) (by omega) (by omega)
    have la := S.lineAt_line m3 (by omega)
    have lb := S.lineAt_line (j := S.cntL l - 1) (by omega) (by omega)
    have hab := S.lineAt_le m3 (show S.cntL f ≤ S.cntL l - 1 by omega) (by omega)
    have ca := S.cntL_succ a2
    have cb := S.cntL_succ b2
    rw [if_pos la] at ca
    rw [if_pos lb] at cb
    generalize S.lineAt (S.cntL f) = a at *
    generalize S.lineAt (S.cntL l - 1) = b at *
    have hfa : f ≤ a := by
      by_cases z : f ≤ a
      · exact z
      · have : S.cntL (a + 1) ≤ S.cntL f := cB_mono _ (by omega)
        omega
    have hbl : b + 1 ≤ l := by
      by_cases z : b + 1 ≤ l
      · exact z
      · have : S.cntL l ≤ S.cntL b := cB_mono _ (by omega)
        omega
    have hbn : b + 1 ≤ rs.length := by omega
    have eT : cutR rs f l = cutR rs f a ++ (cutR rs a (b + 1) ++ cutR rs (b + 1) l) := by
      rw [cut_cut hfa (show a ≤ l by omega), cut_cut (show a ≤ b + 1 by omega) hbl]
    have n1 : lrsOf (cutR rs f a) = [] := cut_nil hfa (by omega) (by rw [← hc, ← hc, a3])
    have n2 : lrsOf (cutR rs (b + 1) l) = [] := cut_nil hbl hl (by rw [← hc, ← hc]; omega)
    have eL : lrsOf (cutR rs f l) = lrsOf (cutR rs a (b + 1)) := by rw [eT, lrs_app, lrs_app, n1, n2, List.append_nil]; rfl
    have hcp : ∀ c, c < 5 → S.cp (b + 1) c - S.cp a c = sumP nts c (cutR rs a (b + 1)) := fun c h => by
      rw [cp_sum h _ (by omega), cp_sum h _ (by omega), hr, hn, take_cut (show a ≤ b + 1 by omega), sumP_app]
      omega
    rw [hcp 0 (by decide), hcp 2 (by decide), hcp 3 (by decide), hcp 4 (by decide), eL]
    have hrow : ∀ r ∈ cutR rs a (b + 1), RowB F bs r := fun r h => V.rows r (cut_mem h)
    obtain ⟨s3, s4⟩ := sum_notes (nts := nts) hrow
    -- the first line, the last
    rw [hr] at la lb
    obtain ⟨b0, l0, h0', d0, ns0, e0⟩ := line_row la
    obtain ⟨b1, l1, h1', d1, ns1, e1⟩ := line_row lb
    have eB : cutR rs a (b + 1) = .line b0 l0 h0' d0 ns0 :: cutR rs (a + 1) (b + 1) := by
      rw [cut_cut (show a ≤ a + 1 by omega) (show a + 1 ≤ b + 1 by omega), cut_one (by omega), e0]
      rfl
    have eB2 : cutR rs a (b + 1) = cutR rs a b ++ [.line b1 l1 h1' d1 ns1] := by
      rw [cut_cut hab (show b ≤ b + 1 by omega), cut_one (by omega), e1]
    have sc := scan_cut V a (b + 1)
    have er : runS (runS none (rs.take a)) (cutR rs a (b + 1)) = some ⟨(b1, l1), none, none⟩ := by
      rw [eB2, runS_app]
      cases runS (runS none (rs.take a)) (cutR rs a b) <;> rfl
    rw [eB] at sc er hrow ⊢
    obtain ⟨_, sc2⟩ := sc
    have en : nxt (runS none (rs.take a)) (.line b0 l0 h0' d0 ns0) = some ⟨(b0, l0), none, none⟩ := by cases runS none (rs.take a) <;> rfl
    rw [en] at sc2
    have er2 : runS (some ⟨(b0, l0), none, none⟩) (cutR rs (a + 1) (b + 1)) = some ⟨(b1, l1), none, none⟩ := by
      rw [← en]
      exact er
    obtain ⟨m', q1, _, q3, q4⟩ := hs_run (nts := nts) (cutR rs (a + 1) (b + 1)) [(b0, l0)] ⟨(b0, l0), none, none⟩ rfl sc2 fun r h => hrow r (List.mem_cons_of_mem _ h)
    rw [er2] at q1
    have q1 := Option.some.inj q1
    rw [← q1] at q3 q4
    obtain ⟨_, r2, r3, _⟩ := hrow _ List.mem_cons_self
    have e5 : lrsOf (.line b0 l0 h0' d0 ns0 :: cutR rs (a + 1) (b + 1)) = [((b0, l0) : Lr)] ++ lrsOf (cutR rs (a + 1) (b + 1)) := lrs_cons _ _
    refine ⟨?_, ?_, by rw [← eB]; exact s3, by rw [← eB]; exact s4⟩
    · rw [sumP_cons, e5]
      have z : (hsUp F bs [((b0, l0) : Lr)] 1).1 + 0 + sumP nts 0 (cutR rs (a + 1) (b + 1)) = (hsUp F bs ([((b0, l0) : Lr)] ++ lrsOf (cutR rs (a + 1) (b + 1))) ([((b0, l0) : Lr)] ++ lrsOf (cutR rs (a + 1) (b + 1))).length).1 + 0 := q3
      have z2 : (hsUp F bs [((b0, l0) : Lr)] 1).1 = 0 + (lnOf bs (b0, l0)).h + (lnOf bs (b0, l0)).d := rfl
      show (h0' + d0) + _ = _
      rw [r2, r3]
      omega
    · rw [sumP_cons, e5]
      have z : (hsUp F bs [((b0, l0) : Lr)] 1).2 + 0 + sumP nts 2 (cutR rs (a + 1) (b + 1)) = (hsUp F bs ([((b0, l0) : Lr)] ++ lrsOf (cutR rs (a + 1) (b + 1))) ([((b0, l0) : Lr)] ++ lrsOf (cutR rs (a + 1) (b + 1))).length).2 + 0 := q4
      have z2 : (hsUp F bs [((b0, l0) : Lr)] 1).2 = 0 := rfl
      show 0 + _ = _
      omega
end
end G
/-! The plain law: pages in a chain. -/
namespace G
open PySem L2
section
variable {F : Fw} {bs : List Bk} {nts fls : List Int} {rs : List Rw}
/-! ### places -/
theorem places_at (V : VOk F bs rs) {n : Nat} {z : Int} (h : (Sh.places ⟨rs, nts, fls, F⟩)[n]? = some z) : ∃ k : Nat, z = k ∧ rs[k]? = some (.float n) := by
  obtain ⟨k, a, b, c, d⟩ := posBy_at isFloat 0 rs rs.length (Nat.le_refl _) n z h
  have e : rs[k]? = some (rs.getD k dRw) := getD_at a
  refine ⟨k, by omega, ?_⟩
  rw [e]
  generalize rs.getD k dRw = r at e c
  cases r with
  | float m =>
    have h1 := fls_cnt (rs := rs) k (by omega)
    rw [d] at h1
    have h2 : flsOf rs = flsOf (rs.take k) ++ m :: flsOf (rs.drop (k + 1)) := by
      have h3 := List.take_append_drop (k + 1) rs
      rw [List.take_add_one, e] at h3
      conv => lhs; rw [← h3]
      rw [fls_app, fls_app]
      show flsOf (rs.take k) ++ [m] ++ _ = _
      rw [List.append_assoc]
      rfl
    have h3 : (flsOf rs)[n]? = some m := by
      rw [h2, List.getElem?_append_right (by omega), show n - (flsOf (rs.take k)).length = 0 by omega]
      rfl
    rw [V.fls] at h3
    obtain ⟨h4, h5⟩ := List.getElem?_eq_some_iff.mp h3
    rw [List.getElem_range] at h5
    rw [h5]
  | _ => cases c
theorem places_len2 (V : VOk F bs rs) : (Sh.places ⟨rs, nts, fls, F⟩).length = (flBs bs).length := by
  have h1 := posBy_cB isFloat 0 rs rs.length (Nat.le_refl _)
  have h2 := fls_cnt (rs := rs) rs.length (Nat.le_refl _)
  rw [List.take_of_length_le (Nat.le_refl _), V.fls, List.length_range] at h2
  have e : Sh.places ⟨rs, nts, fls, F⟩ = posBy isFloat 0 rs rs.length := rfl
  rw [e]
  omega
/-! ### floats of a page -/
theorem wUp_fs (S : Sh) (p : Int × Int) (f l st : Nat) (h0 : S.tx f l 0 = p.1) (h2 : S.tx f l 2 = p.2) : ∀ i, (S.wUp f l st i).a = (fsUp S.F p (pick S.floats (nsOf st i))).1 + S.tx f l 3 ∧ (S.wUp f l st i).c = (fsUp S.F p (pick S.floats (nsOf st i))).2
  | 0 => by
    refine ⟨?_, ?_⟩
    · show S.tx f l 0 + S.tx f l 3 = p.1 + S.tx f l 3
      rw [h0]
    · show S.tx f l 2 = p.2
      exact h2
  | i + 1 => by
    obtain ⟨i1, i2⟩ := wUp_fs S p f l st h0 h2 i
    have e : fsUp S.F p (pick S.floats (nsOf st (i + 1))) = ((fsUp S.F p (pick S.floats (nsOf st i))).1 + S.floats.getD (st + i) 0 + (S.F.gap .float).h, (fsUp S.F p (pick S.floats (nsOf st i))).2 + (S.F.gap .float).k) := by
      unfold nsOf pick fsUp
      rw [List.range_succ, List.map_append, List.map_append, List.foldl_append]
      have e2 : ((st : Int) + (i : Nat)).toNat = st + i := by omega
      show (_ + S.floats.getD ((st : Int) + (i : Nat)).toNat 0 + _, _) = _
      rw [e2]
    rw [e]
    refine ⟨?_, ?_⟩
    · show (S.wUp f l st i).a + (S.F.gap .float).h + S.floats.getD (st + i) 0 = _
      rw [i1]
      show _ = _ + S.floats.getD (st + i) 0 + (S.F.gap .float).h + S.tx f l 3
      omega
    · show (S.wUp f l st i).c + (S.F.gap .float).k + 0 = _
      rw [i2]
      show _ = _ + (S.F.gap .float).k
      omega
theorem high_page (V : VOk F bs rs) {f l st sp : Nat} (hfl : f ≤ l) (hl : l ≤ rs.length) : high F bs (lrsOf (cutR rs f l)) (pick nts (mineOf bs (lrsOf (cutR rs f l)))) (pick fls (nsOf st (sp - st))) =
    (Sh.whole ⟨rs, nts, fls, F⟩ f l st sp).a - (Sh.whole ⟨rs, nts, fls, F⟩ f l st sp).c := by
  obtain ⟨t0, t2, t3, t4⟩ := page_sum (nts := nts) (fls := fls) V hfl hl
  obtain ⟨w1, w2⟩ := wUp_fs ⟨rs, nts, fls, F⟩ _ f l st t0 t2 (sp - st)
  unfold high
  generalize hsUp F bs (lrsOf (cutR rs f l)) (lrsOf (cutR rs f l)).length = p at *
  have w1 : (Sh.wUp ⟨rs, nts, fls, F⟩ f l st (sp - st)).a = (fsUp F p (pick fls (nsOf st (sp - st)))).1 + Sh.tx ⟨rs, nts, fls, F⟩ f l 3 := w1
  have w2 : (Sh.wUp ⟨rs, nts, fls, F⟩ f l st (sp - st)).c = (fsUp F p (pick fls (nsOf st (sp - st)))).2 := w2
  generalize fsUp F p (pick fls (nsOf st (sp - st))) = p1 at *
  generalize mineOf bs (lrsOf (cutR rs f l)) = ms at *
  unfold Sh.whole nsUp
  by_cases hm : ms = []
  · subst hm
    have e4 : ¬ Sh.tx ⟨rs, nts, fls, F⟩ f l 4 > 0 := by rw [t4]; decide
    have e5 : pick nts [] = [] := rfl
    rw [if_neg e4, e5, if_pos rfl, w1, w2, t3]
    show _ = _ + (0 : Int) - _
    omega
  · have hp : 0 < ms.length := List.length_pos_iff.mpr hm
    have e4 : Sh.tx ⟨rs, nts, fls, F⟩ f l 4 > 0 := by rw [t4]; omega
    have e5 : ¬ pick nts ms = [] := fun z => hm (List.map_eq_nil_iff.mp z)
    rw [if_pos e4, if_neg e5]
    show (p1.1 + _ + _) - (p1.2 + _) = (_ + (F.gap .note).h) - (_ + (F.gap .note).k)
    rw [w1, w2, t3]
/-! ### a page -/
theorem al_sp {S : Sh} {f l st sp : Nat} (h : Allowed S f l st sp) : st ≤ sp ∧ sp ≤ S.places.length ∧ (sp : Int) ≤ st + S.F.most := by
  rcases h.place with ⟨_, _, a, b, c⟩ | ⟨_, _, _, _, a, b, c, _⟩
  · exact ⟨by omega, b, c⟩
  · exact ⟨a, b, c⟩
theorem grp_vl (V : VOk F bs rs) {f l : Nat} {u : Lr} (h : u ∈ lrsOf (cutR rs f l)) : VL bs u := by
  obtain ⟨r, h1, h2⟩ := mem_lrs h
  have h3 := V.rows r (cut_mem h1)
  cases r with
  | line b l' hh dd ns =>
    cases h2
    exact h3.1
  | _ => cases h2
theorem pg_ok (V : VOk F bs rs) (hI : InOk F bs nts fls) {g : Pg} (al : Allowed ⟨rs, nts, fls, F⟩ g.f g.l g.st g.sp) : PgOk F bs rs nts fls g := by
  have hfl := al.le
  have hl : g.l ≤ rs.length := al.ln
  obtain ⟨s1, s2, s3⟩ := al_sp al
  have hpl := places_len2 (nts := nts) (fls := fls) V
  obtain ⟨t0, t2, t3, t4⟩ := page_sum (nts := nts) (fls := fls) V hfl hl
  refine ⟨⟨hfl, hl⟩, ⟨s1, by rw [hI.fll, ← hpl]; exact s2⟩, fun u h => grp_vl V h, fun n hn => ?_, ?_, ?_, ?_, fun j u v hu hv hp => ?_⟩
  · obtain ⟨ns, h1, h2⟩ := List.mem_flatten.mp hn
    obtain ⟨u, h3, rfl⟩ := List.mem_map.mp h1
    have h4 := (ln_b hI.bl (grp_vl V h3)).2.2.2 n h2
    exact ⟨h4.1, by omega⟩
  · have h1 := lines_len hI.bl bs.length (Nat.le_refl _)
    have h2 : (lrsOf rs).length ≤ 5 * bs.length := by rw [V.lines]; exact h1
    have h3 : (lrsOf (rs.take g.l)).length ≤ (lrsOf rs).length := by
      conv => rhs; rw [← List.take_append_drop g.l rs, lrs_app, List.length_append]
      omega
    rw [take_cut hfl, lrs_app, List.length_append] at h3
    have := hI.few
    show (lrsOf (cutR rs g.f g.l)).length ≤ 100
    omega
  · have := al.notes
    rw [t3] at this
    exact this
  · have := al.high
    show high F bs (lrsOf (cutR rs g.f g.l)) (pick nts (mineOf bs (lrsOf (cutR rs g.f g.l)))) _ ≤ _
    rw [high_page V hfl hl]
    exact this
  · obtain ⟨X, ru, M, rv, Y, e1, e2, e3, e4⟩ := split2 (T := cutR rs g.f g.l) hu hv
    have sc := scan_cut V g.f g.l
    rw [e1] at sc
    obtain ⟨c, gp, hc, Md, _⟩ := two_lines sc e2 e3 e4
    have hc2 := Md.pg hp
    -- where the cost stands
    obtain ⟨i, hi⟩ := List.mem_iff_getElem?.mp hc
    have hil := (List.getElem?_eq_some_iff.mp hi).1
    have hk : (cutR rs g.f g.l)[X.length + (i + 1)]? = some (.cost c) := by
      rw [e1, List.getElem?_append_right (by omega), show X.length + (i + 1) - X.length = i + 1 by omega]
      show (M ++ rv :: Y)[i]? = _
      rw [List.getElem?_append_left hil]
      exact hi
    have hlen : X.length + (i + 1) + 1 < (cutR rs g.f g.l).length := by
      rw [e1, List.length_append, List.length_cons, List.length_append, List.length_cons]
      omega
    obtain ⟨h1, _⟩ := cut_at2 hfl hk
    obtain ⟨_, h2⟩ := cut_at2 hfl (List.getElem?_eq_getElem hlen)
    rcases al.place with ⟨a1, _⟩ | ⟨_, _, a1, a2, _⟩
    · have : (cutR rs g.f g.l).length = 0 := by
        unfold cutR
        rw [a1, Nat.sub_self, List.take_zero]
        rfl
      omega
    · have h3 : (rs.map isForced).getD (g.f + (X.length + (i + 1))) false = true := by
        rw [List.getD_eq_getElem?_getD, List.getElem?_map, h1]
        exact decide_eq_true hc2
      have h4 := cB_at (bs := rs.map isForced) (i := g.f) (k := g.f + (X.length + (i + 1))) (j := g.l - 1) (by omega) (by omega) h3
      have a2 : cB (rs.map isForced) (g.l - 1) ≤ cB (rs.map isForced) g.f := a2
      omega
/-! ### a chain -/
theorem ch_all {S : Sh} : ∀ {gs : List Pg} {p : Pt}, PChain S p gs → ∀ g ∈ gs, Allowed S g.f g.l g.st g.sp
  | g :: gs, p, ⟨e, al, h⟩, x, hx => by
    rcases List.mem_cons.mp hx with z | z
    · rw [z]
      have al : Allowed S p.1 g.l p.2 g.sp := al
      rw [e] at al
      exact al
    · exact ch_all h x z
/-- the lines of the pages are those behind the first place -/
theorem ch_cat {S : Sh} (hS : S.rows = rs) : ∀ {gs : List Pg} {p : Pt}, p.1 ≤ rs.length → PChain S p gs → (gs.map (grp rs)).flatten = lrsOf (rs.drop p.1)
  | [], p, hp, h => by
    have h : p = (S.n, S.places.length) := h
    have e : S.n = rs.length := by rw [← hS]; rfl
    rw [h]
    show _ = lrsOf (rs.drop S.n)
    rw [e, List.drop_length]
    rfl
  | g :: gs, p, hp, ⟨e, al, h⟩ => by
    have hl : g.l ≤ rs.length := by rw [← hS]; exact al.ln
    have hfl : p.1 ≤ g.l := al.le
    rw [List.map_cons, List.flatten_cons, ch_cat hS hl h]
    have e1 : p.1 = g.f := by rw [e]
    have e2 : rs.drop p.1 = cutR rs p.1 g.l ++ rs.drop g.l := by
      unfold cutR
      have := List.take_append_drop (g.l - p.1) (rs.drop p.1)
      rw [List.drop_drop, show p.1 + (g.l - p.1) = g.l by omega] at this
      exact this.symm
    rw [e2, lrs_app, e1]
    rfl
/-- lines of the first pages -/
theorem ch_take {S : Sh} (hS : S.rows = rs) : ∀ {gs : List Pg} {p : Pt} {k : Nat} {g : Pg}, PChain S p gs → gs[k]? = some g → p.1 ≤ g.l ∧ ((gs.take (k + 1)).map (grp rs)).flatten = lrsOf (cutR rs p.1 g.l)
  | [], _, _, _, _, h => by cases h
  | x :: gs, p, 0, g, ⟨e, al, h⟩, hg => by
    cases hg
    have e1 : p.1 = x.f := by rw [e]
    refine ⟨al.le, ?_⟩
    show ([grp rs x]).flatten = _
    rw [e1]
    simp [grp]
  | x :: gs, p, k + 1, g, ⟨e, al, h⟩, hg => by
    obtain ⟨i1, i2⟩ := ch_take hS h (show gs[k]? = some g from hg)
    have hfl : p.1 ≤ x.l := al.le
    have i1 : x.l ≤ g.l := i1
    have e1 : p.1 = x.f := by rw [e]
    refine ⟨by omega, ?_⟩
    show (grp rs x :: (gs.take (k + 1)).map (grp rs)).flatten = _
    rw [List.flatten_cons, i2, cut_cut hfl i1, lrs_app, e1]
    rfl
theorem ch_ns {S : Sh} : ∀ {gs : List Pg} {p : Pt}, p.2 ≤ S.places.length → PChain S p gs → (gs.map fun g => nsOf g.st (g.sp - g.st)).flatten = nsOf p.2 (S.places.length - p.2)
  | [], p, hp, h => by
    have h : p = (S.n, S.places.length) := h
    rw [h]
    show [] = nsOf S.places.length (S.places.length - S.places.length)
    rw [Nat.sub_self]
    rfl
  | g :: gs, p, hp, ⟨e, al, h⟩ => by
    obtain ⟨a1, a2, _⟩ := al_sp al
    have a1 : p.2 ≤ g.sp := a1
    have a2 : g.sp ≤ S.places.length := a2
    rw [List.map_cons, List.flatten_cons, ch_ns a2 h]
    have e1 : p.2 = g.st := by rw [e]
    show nsOf g.st (g.sp - g.st) ++ nsOf g.sp (S.places.length - g.sp) = _
    rw [e1, show S.places.length - g.st = (g.sp - g.st) + (S.places.length - g.sp) by omega]
    unfold nsOf
    rw [List.range_add, List.map_append, List.map_map]
    congr 1
    apply List.map_congr_left
    intro i _
    show (g.sp : Int) + (i : Nat) = (g.st : Int) + ((g.sp - g.st + i : Nat) : Int)
    omega
end
end G
/-! The plain law. -/
namespace G
open PySem L2
section
variable {F : Fw} {bs : List Bk} {nts fls : List Int} {rs : List Rw}
theorem splitLast : ∀ {T : List Rw} {u : Lr}, (lrsOf T).getLast? = some u → ∃ X ru M, T = X ++ ru :: M ∧ lrOf ru = some u ∧ lrsOf M = []
  | [], u, h => by cases h
  | r :: T, u, h => by
    rw [lrs_cons, List.getLast?_append] at h
    cases hl : (lrsOf T).getLast? with
    | none =>
      rw [hl] at h
      have e : lrsOf T = [] := List.getLast?_eq_none_iff.mp hl
      cases er : lrOf r with
      | none =>
        rw [er] at h
        cases h
      | some w =>
        rw [er] at h
        cases h
        exact ⟨[], r, T, rfl, er, e⟩
    | some w =>
      rw [hl] at h
      cases h
      obtain ⟨X, ru, M, h1, h2, h3⟩ := splitLast (T := T) hl
      exact ⟨r :: X, ru, M, by rw [h1]; rfl, h2, h3⟩
/-- a place where a page may end, not the end of all -/
def CutOk (rs : List Rw) (f : Nat) : Prop := 0 < f ∧ ∃ c, rs[f - 1]? = some (.cost c) ∧ c < 10000
theorem link (V : VOk F bs rs) {f : Nat} {u v : Lr} (hf : f ≤ rs.length) (hc : CutOk rs f) (hu : (lrsOf (rs.take f)).getLast? = some u) (hv : (lrsOf (rs.drop f))[0]? = some v) : Divided F bs u v := by
  obtain ⟨X, ru, M1, e1, e2, e3⟩ := splitLast hu
  obtain ⟨M2, rv, Y, f1, f2, f3⟩ := split1 hv
  have er : rs = X ++ ru :: ((M1 ++ M2) ++ rv :: Y) := by
    have h := (List.take_append_drop f rs).symm
    rw [e1, f1, List.append_assoc, List.cons_append] at h
    rw [List.append_assoc]
    exact h
  have sc := V.scan
  rw [er] at sc
  obtain ⟨c, g, _, Md, un⟩ := two_lines sc e2 f2 (by rw [lrs_app, e3, f3]; rfl)
  obtain ⟨h0, c', h1, h2⟩ := hc
  have hlen : X.length + 1 + M1.length = f := by
    have := congrArg List.length e1
    rw [List.length_take, List.length_append, List.length_cons] at this
    omega
  have h3 : (rs.take f)[f - 1]? = some (.cost c') := by
    rw [List.getElem?_take, if_pos (by omega)]
    exact h1
  rw [e1, List.getElem?_append_right (by omega)] at h3
  have hm : Rw.cost c' ∈ M1 := by
    cases hM : M1.length with
    | zero =>
      rw [show f - 1 - X.length = 0 by omega] at h3
      cases h3
      cases e2
    | succ k =>
      rw [show f - 1 - X.length = k + 1 by omega] at h3
      exact List.mem_of_getElem? (show M1[k]? = some (.cost c') from h3)
  have := un c' (List.mem_append_left _ hm)
  exact Md.div (by rw [← this]; exact h2)
theorem ends_cut {l : Nat} (h : (l : Int) ∈ Sh.ends ⟨rs, nts, fls, F⟩) : l = rs.length ∨ CutOk rs l := by
  rcases List.mem_append.mp h with h | h
  · obtain ⟨j, hj⟩ := List.mem_iff_getElem?.mp h
    obtain ⟨k, a, b, c, _⟩ := posBy_at isEnd 1 rs rs.length (Nat.le_refl _) j _ hj
    right
    have e : rs[k]? = some (rs.getD k dRw) := getD_at a
    refine ⟨by omega, ?_⟩
    rw [show l - 1 = k by omega, e]
    cases hr : rs.getD k dRw with
    | cost x =>
      rw [hr] at c
      exact ⟨x, rfl, of_decide_eq_true c⟩
    | _ =>
      rw [hr] at c
      cases c
  · have h := List.mem_singleton.mp h
    have h : (l : Int) = (rs.length : Int) := h
    exact .inl (by omega)
def AdjD (F : Fw) (bs : List Bk) : List (List Lr) → Prop
  | us :: vs :: r => (∀ u v, us.getLast? = some u → vs[0]? = some v → Divided F bs u v) ∧ AdjD F bs (vs :: r)
  | _ => True
theorem adj_get : ∀ {L : List (List Lr)} {k : Nat} {us vs : List Lr} {u v : Lr}, AdjD F bs L → L[k]? = some us → L[k + 1]? = some vs → us.getLast? = some u → vs[0]? = some v → Divided F bs u v
  | [], _, _, _, _, _, _, h, _, _, _ => by cases h
  | [a], k, us, vs, u, v, _, _, h, _, _ => by cases h
  | a :: b :: r, 0, us, vs, u, v, hA, h1, h2, h3, h4 => by
    cases h1
    cases h2
    exact hA.1 u v h3 h4
  | a :: b :: r, k + 1, us, vs, u, v, hA, h1, h2, h3, h4 => adj_get (L := b :: r) (k := k) hA.2 h1 h2 h3 h4
theorem txt_cons (us : List Lr) (L : List (List Lr)) : textsOf (us :: L) = if us = [] then textsOf L else us :: textsOf L := by
  unfold textsOf
  by_cases h : us = []
  · subst h
    rw [if_pos rfl, List.filter_cons_of_neg (by decide)]
  · have hp : 0 < us.length := List.length_pos_iff.mpr h
    rw [if_neg h, List.filter_cons_of_pos (by exact decide_eq_true hp)]
theorem txt_first : ∀ {L : List (List Lr)} {vs : List Lr} {r : List (List Lr)} {v : Lr}, textsOf L = vs :: r → vs[0]? = some v → L.flatten[0]? = some v
  | [], _, _, _, h, _ => by cases h
  | us :: L, vs, r, v, h, hv => by
    rw [txt_cons] at h
    by_cases e : us = []
    · subst e
      rw [if_pos rfl] at h
      exact txt_first (L := L) h hv
    · rw [if_neg e] at h
      cases h
      rw [List.flatten_cons]
      cases us with
      | nil => exact absurd rfl e
      | cons a b => exact hv
theorem ch_adj (V : VOk F bs rs) : ∀ {gs : List Pg} {p : Pt}, p.1 ≤ rs.length → PChain ⟨rs, nts, fls, F⟩ p gs → AdjD F bs (textsOf (gs.map (grp rs)))
  | [], _, _, _ => True.intro
  | g :: gs, p, hp, ⟨e, al, h⟩ => by
    have hl : g.l ≤ rs.length := al.ln
    have hfl : p.1 ≤ g.l := al.le
    have e1 : p.1 = g.f := by rw [e]
    have ih := ch_adj V (gs := gs) (p := (g.l, g.sp)) hl h
    rw [List.map_cons, txt_cons]
    by_cases hg : grp rs g = []
    · rw [if_pos hg]
      exact ih
    · rw [if_neg hg]
      cases ht : textsOf (gs.map (grp rs)) with
      | nil => exact True.intro
      | cons vs r =>
        rw [ht] at ih
        refine ⟨fun u v hu hv => ?_, ih⟩
        have h2 := txt_first ht hv
        rw [ch_cat (S := ⟨rs, nts, fls, F⟩) rfl (p := (g.l, g.sp)) hl h] at h2
        have h2 : (lrsOf (rs.drop g.l))[0]? = some v := h2
        have h3 : (lrsOf (rs.take g.l)).getLast? = some u := by
          rw [take_cut hfl, lrs_app, List.getLast?_append, e1]
          have : (lrsOf (cutR rs g.f g.l)).getLast? = some u := hu
          rw [this]
          rfl
        rcases al.place with ⟨a1, _⟩ | ⟨_, a1, _⟩
        · have a1 : p.1 = g.l := a1
          refine absurd ?_ hg
          unfold grp cutR
          rw [← e1, a1, Nat.sub_self, List.take_zero]
          rfl
        · rcases ends_cut a1 with z | z
          · have z : g.l = rs.length := z
            rw [z, List.drop_length] at h2
            cases h2
          · exact link V hl z h3 h2
/-! ### the last line so far -/
theorem lasts_last : ∀ L : List (List Lr), (lasts L).getLast? = L.flatten.getLast?
  | [] => rfl
  | us :: L => by
    have e : lasts (us :: L) = us.getLast?.toList ++ lasts L := by
      unfold lasts
      cases h : us.getLast? with
      | none => rw [List.filterMap_cons_none h]; rfl
      | some u => rw [List.filterMap_cons_some h]; rfl
    rw [e, List.getLast?_append, lasts_last L, List.flatten_cons, List.getLast?_append]
    congr 1
    cases us.getLast? <;> rfl
theorem lines_pw : ∀ i, (((txtUp bs i).map (lnsOf bs)).flatten).Pairwise (fun a b => a.1 ≤ b.1) ∧ ∀ u ∈ ((txtUp bs i).map (lnsOf bs)).flatten, u.1 < i
  | 0 => ⟨List.Pairwise.nil, fun u h => (by cases h)⟩
  | i + 1 => by
    obtain ⟨h1, h2⟩ := lines_pw i
    cases ht : (bs.getD i dBk).kd.txt with
    | false =>
      rw [txtUp_no ht]
      exact ⟨h1, fun u h => Nat.lt_succ_of_lt (h2 u h)⟩
    | true =>
      rw [txtUp_yes ht, List.map_append, List.flatten_append]
      have e : ([i].map (lnsOf bs)).flatten = lnsOf bs i := by simp
      rw [e]
      have hf : ∀ u ∈ lnsOf bs i, u.1 = i := fun u h => by
        obtain ⟨j, _, rfl⟩ := List.mem_map.mp h
        rfl
      refine ⟨List.pairwise_append.mpr ⟨h1, ?_, fun a ha b hb => ?_⟩, fun u h => ?_⟩
      · unfold lnsOf
        rw [List.pairwise_map]
        exact List.pairwise_iff_forall_sublist.mpr fun _ => Nat.le_refl _
      · have := h2 a ha
        rw [hf b hb]
        omega
      · rcases List.mem_append.mp h with h | h
        · exact Nat.lt_succ_of_lt (h2 u h)
        · rw [hf u h]
          exact Nat.lt_succ_self _
theorem pw_last {L : List Lr} (h : L.Pairwise (fun a b => a.1 ≤ b.1)) {x : Lr} (hx : x ∈ L) : ∃ u, L.getLast? = some u ∧ x.1 ≤ u.1 := by
  cases hl : L.getLast? with
  | none =>
    rw [List.getLast?_eq_none_iff] at hl
    rw [hl] at hx
    cases hx
  | some u =>
    refine ⟨u, rfl, ?_⟩
    obtain ⟨ys, rfl⟩ := List.getLast?_eq_some_iff.mp hl
    rcases List.mem_append.mp hx with hx | hx
    · exact (List.pairwise_append.mp h).2.2 x hx u (List.mem_singleton.mpr rfl)
    · rw [List.mem_singleton.mp hx]
      exact Nat.le_refl _
theorem ch_len {S : Sh} : ∀ {gs : List Pg} {p : Pt}, p.2 ≤ S.places.length → PChain S p gs → gs.length + S.cd p ≤ S.cd (S.n, S.places.length)
  | [], p, _, h => by
    have h : p = (S.n, S.places.length) := h
    rw [h]
    show 0 + _ ≤ _
    omega
  | g :: gs, p, hp, ⟨e, al, h⟩ => by
    have a2 : g.sp ≤ S.places.length := (al_sp al).2.1
    have i := ch_len (p := (g.l, g.sp)) a2 h
    have := Sh.cd_lt al hp
    rw [List.length_cons]
    omega
theorem fright (V : VOk F bs rs) (hI : InOk F bs nts fls) (few : rs.length ≤ 1000) {gs : List Pg} {s0 : Nat} (hs : Sh.start ⟨rs, nts, fls, F⟩ = (s0 : Int)) (hc : PChain ⟨rs, nts, fls, F⟩ (s0, 0) gs) : FRight F bs gs (gs.map (grp rs)) := by
  have hpl := places_len2 (nts := nts) (fls := fls) V
  have hfb : (flBs bs).length ≤ bs.length := by
    have := List.length_filter_le (fun k => decide ((bs.getD k dBk).kd = .float)) (List.range bs.length)
    rw [List.length_range] at this
    exact this
  have h9 := hI.few
  refine ⟨by rw [List.length_map], ?_, fun k g hg => ?_, ?_, fun k g n hg h1 h2 fb hfb' j hj => ?_⟩
  · have h1 := ch_len (p := (s0, 0)) (Nat.zero_le _) hc
    have h2 : Sh.cd ⟨rs, nts, fls, F⟩ (Sh.n ⟨rs, nts, fls, F⟩, (Sh.places ⟨rs, nts, fls, F⟩).length) = rs.length * ((flBs bs).length + 1) + (flBs bs).length := by rw [← hpl]; rfl
    rw [h2] at h1
    have h3 : rs.length * ((flBs bs).length + 1) ≤ 1000 * 10 := Nat.mul_le_mul few (by omega)
    omega
  · obtain ⟨a, b, c⟩ := al_sp (ch_all hc g (List.mem_of_getElem? hg))
    rw [hpl] at b
    exact ⟨a, c, b⟩
  · have := ch_ns (p := (s0, 0)) (Nat.zero_le _) hc
    rw [hpl] at this
    exact this
  · have al := ch_all hc g (List.mem_of_getElem? hg)
    obtain ⟨_, b, _⟩ := al_sp al
    obtain ⟨c1, c2⟩ := ch_take (S := ⟨rs, nts, fls, F⟩) rfl hc hg
    obtain ⟨m1, m2⟩ := List.mem_filter.mp hj
    rw [List.mem_range] at m1
    -- the float's row
    have hnp : n < (Sh.places ⟨rs, nts, fls, F⟩).length := by omega
    obtain ⟨k', e1, e2⟩ := places_at V (List.getElem?_eq_getElem hnp)
    have hk' : k' < g.l := by
      have hkl := (List.getElem?_eq_some_iff.mp e2).1
      rcases al.place with ⟨_, a1, _⟩ | ⟨_, _, _, _, _, _, _, a1⟩
      · have a1 : g.l = rs.length := a1
        omega
      · have := a1 n _ h1 h2 (List.getElem?_eq_getElem hnp)
        omega
    have hgl : g.l ≤ rs.length := al.ln
    have hfp := V.fp
    have hsplit : rs = rs.take k' ++ .float n :: rs.drop (k' + 1) := by
      have h3 := List.take_append_drop (k' + 1) rs
      rw [List.take_add_one, e2, List.append_assoc] at h3
      exact h3.symm
    rw [hsplit, fpr_app] at hfp
    have hb := hfp.2.1 n rfl fb hfb' j hj
    have hjl : j < bs.length := by
      have hm := List.mem_of_getElem? hfb'
      have := (List.mem_filter.mp hm).1
      rw [List.mem_range] at this
      omega
    obtain ⟨hne, _⟩ := hI.bl.ls _ (List.mem_of_getElem? (getD_at (d := dBk) hjl)) m2
    have hin := hb (j, 0) (List.mem_map.mpr ⟨0, List.mem_range.mpr (List.length_pos_iff.mpr hne), rfl⟩)
    rw [List.nil_append] at hin
    have hin2 : (j, 0) ∈ lrsOf (rs.take g.l) := by
      rw [take_cut (show k' ≤ g.l by omega), lrs_app]
      exact List.mem_append_left _ hin
    -- there are lines: the start is 0
    have hs0 : s0 = 0 := by
      have h3 : Sh.lines ⟨rs, nts, fls, F⟩ ≠ [] := fun z => by
        have h4 := posBy_cB isLine 0 rs rs.length (Nat.le_refl _)
        have h5 := lrs_cnt (rs := rs) rs.length (Nat.le_refl _)
        rw [List.take_of_length_le (Nat.le_refl _)] at h5
        have z : posBy isLine 0 rs rs.length = [] := z
        rw [z] at h4
        have h6 : lrsOf rs = [] := List.eq_nil_of_length_eq_zero (by have : (([] : List Int).length : Int) = 0 := rfl; omega)
        rw [hsplit, lrs_app] at h6
        rw [(List.append_eq_nil_iff.mp h6).1] at hin
        cases hin
      unfold Sh.start at hs
      rw [if_neg h3] at hs
      omega
    subst hs0
    have hcut : cutR rs 0 g.l = rs.take g.l := rfl
    have c2 : ((gs.take (k + 1)).map (grp rs)).flatten = lrsOf (cutR rs 0 g.l) := c2
    have hpw : (lrsOf (rs.take g.l)).Pairwise (fun a b => a.1 ≤ b.1) := by
      have h3 := (lines_pw (bs := bs) bs.length).1
      have h4 : (lrsOf rs).Pairwise (fun a b => a.1 ≤ b.1) := by rw [V.lines]; exact h3
      rw [← List.take_append_drop g.l rs, lrs_app] at h4
      exact (List.pairwise_append.mp h4).1
    obtain ⟨u, hu, hju⟩ := pw_last hpw hin2
    refine ⟨u, ?_, hju⟩
    rw [← List.map_take, lasts_last, c2, hcut]
    exact hu
/-! ### sizes -/
theorem pick_b (hI : InOk F bs nts fls) {n : Int} (h : 0 ≤ n ∧ n.toNat < nts.length) : 0 ≤ nts.getD n.toNat 0 ∧ nts.getD n.toNat 0 ≤ 6 := by
  have := hI.nb _ (List.mem_of_getElem? (getD_at (d := (0 : Int)) h.2))
  omega
theorem sh_ok (V : VOk F bs (vertical F bs)) (hI : InOk F bs nts fls) (hB : BsOk bs) : ShOk ⟨vertical F bs, nts, fls, F⟩ := by
  have hlen : (vertical F bs).length ≤ 1000 := by
    have := vUp_len F bs hB bs.length (Nat.le_refl _)
    unfold vertical
    rw [List.length_append]
    have := hI.few
    omega
  have hln : ∀ r ∈ vertical F bs, r.ns.length ≤ 2 ∧ ∀ n ∈ r.ns, 0 ≤ n ∧ n.toNat < nts.length := fun r hr => by
    have := V.rows r hr
    cases r with
    | line b l hh dd ns =>
      obtain ⟨v1, _, _, v4⟩ := this
      have h := ln_b hI.bl v1
      rw [v4]
      refine ⟨h.2.2.1, fun n hn => ?_⟩
      have hn : n ∈ (lnOf bs (b, l)).ns := hn
      have := h.2.2.2 n hn
      exact ⟨this.1, by omega⟩
    | _ => exact ⟨Nat.zero_le _, fun n hn => (by cases hn)⟩
  refine ⟨hlen, fun r hr => Nat.le_trans (hln r hr).1 (by decide), fun r hr => (hln r hr).2, fun r hr z hz => ?_, ?_, fun z hz => ?_, fun n => ?_, ?_, ?_, hI.fb.cost .late⟩
  · have hr2 := V.rows r hr
    have h2 := hln r hr
    cases r with
    | line b l hh dd ns =>
      obtain ⟨v1, v2, v3, v4⟩ := hr2
      obtain ⟨b1, b2, _, _⟩ := ln_b hI.bl v1
      have hsum : 0 ≤ (ns.map fun n => nts.getD n.toNat 0).sum ∧ (ns.map fun n => nts.getD n.toNat 0).sum ≤ 12 := by
        obtain ⟨l2, l3⟩ := h2
        have l2 : ns.length ≤ 2 := l2
        have l3 : ∀ n ∈ ns, 0 ≤ n ∧ n.toNat < nts.length := l3
        match ns, l2, l3 with
        | [], _, _ => exact ⟨Int.le_refl 0, by show (0 : Int) ≤ 12; decide⟩
        | [a], _, l3 =>
          have := pick_b hI (l3 a List.mem_cons_self)
          show 0 ≤ nts.getD a.toNat 0 + 0 ∧ nts.getD a.toNat 0 + 0 ≤ 12
          omega
        | [a, c], _, l3 =>
          have h1 := pick_b hI (l3 a List.mem_cons_self)
          have h2 := pick_b hI (l3 c (List.mem_cons_of_mem _ List.mem_cons_self))
          show 0 ≤ nts.getD a.toNat 0 + (nts.getD c.toNat 0 + 0) ∧ nts.getD a.toNat 0 + (nts.getD c.toNat 0 + 0) ≤ 12
          omega
        | a :: c :: d :: t, l2, _ =>
          rw [List.length_cons, List.length_cons, List.length_cons] at l2
          omega
      have hl2 : ns.length ≤ 2 := h2.1
      have hz : z ∈ [hh + dd, 0, 0, (ns.map fun n => nts.getD n.toNat 0).sum, (ns.length : Int)] := hz
      simp only [List.mem_cons, List.not_mem_nil, or_false] at hz
      rcases hz with z1 | z1 | z1 | z1 | z1 <;> rw [z1]
      · rw [v2, v3]
        omega
      · omega
      · omega
      · omega
      · omega
    | gap x y w =>
      obtain ⟨g1, g2, g3⟩ := hr2
      have hz : z ∈ [x, y, w, 0, 0] := hz
      simp only [List.mem_cons, List.not_mem_nil, or_false] at hz
      rcases hz with z1 | z1 | z1 | z1 | z1 <;> rw [z1] <;> omega
    | _ =>
      have hz : z ∈ [(0 : Int), 0, 0, 0, 0] := hz
      simp only [List.mem_cons, List.not_mem_nil, or_false] at hz
      rcases hz with z1 | z1 | z1 | z1 | z1 <;> rw [z1] <;> omega
  · rw [places_len2 V]
    exact hI.fll.symm
  · have := hI.flb z hz
    unfold Sz
    omega
  · obtain ⟨g1, g2, g3⟩ := hI.fb.gap n
    unfold Sz
    show (0 ≤ (F.gap n).h ∧ (F.gap n).h ≤ 1000) ∧ (0 ≤ (F.gap n).s ∧ (F.gap n).s ≤ 1000) ∧ 0 ≤ (F.gap n).k ∧ (F.gap n).k ≤ 1000
    omega
  · have := hI.ht
    unfold Sz
    show 0 ≤ F.height ∧ F.height ≤ 1000
    omega
  · have := hI.fb.most
    unfold Sz
    show 0 ≤ F.most ∧ F.most ≤ 1000
    omega
end
theorem plain_law : PlainLaw := fun F bs nts fls hI => by
  have hB : BsOk bs := ⟨by have := hI.few; omega, fun b hb ht => by have := hI.bl.ls b hb ht; exact ⟨this.1, by omega⟩⟩
  have V := v_ok hI.fb hI.bl
  have hS := sh_ok V hI hB
  refine ⟨hB, hS, fun gs s0 hs hc => ?_⟩
  have few : (vertical F bs).length ≤ 1000 := hS.few
  refine ⟨fun g hg => pg_ok V hI (ch_all hc g hg), ?_, fun k us vs u v h1 h2 h3 h4 => ?_, fright V hI few hs hc⟩
  · obtain ⟨s1, es, hs1⟩ := Sh.start_is ⟨vertical F bs, nts, fls, F⟩
    have e : s0 = s1 := by rw [es] at hs; omega
    have hs1 : s1 ≤ (vertical F bs).length := hs1
    rw [ch_cat (S := ⟨vertical F bs, nts, fls, F⟩) rfl (p := (s0, 0)) (by rw [e]; exact hs1) hc]
    by_cases hl : Sh.lines ⟨vertical F bs, nts, fls, F⟩ = []
    · have h4 := posBy_cB isLine 0 (vertical F bs) (vertical F bs).length (Nat.le_refl _)
      have h5 := lrs_cnt (rs := vertical F bs) (vertical F bs).length (Nat.le_refl _)
      rw [List.take_of_length_le (Nat.le_refl _)] at h5
      have hl2 : posBy isLine 0 (vertical F bs) (vertical F bs).length = [] := hl
      rw [hl2] at h4
      have h6 : lrsOf (vertical F bs) = [] := List.eq_nil_of_length_eq_zero (by have : (([] : List Int).length : Int) = 0 := rfl; omega)
      rw [← V.lines, h6]
      have h7 := List.take_append_drop s0 (vertical F bs)
      rw [← h7, lrs_app] at h6
      exact (List.append_eq_nil_iff.mp h6).2
    · unfold Sh.start at hs
      rw [if_neg hl] at hs
      have e0 : s0 = 0 := by omega
      rw [e0]
      exact V.lines
  · obtain ⟨s1, es, hs1⟩ := Sh.start_is ⟨vertical F bs, nts, fls, F⟩
    have e : s0 = s1 := by rw [es] at hs; omega
    have hs1 : s1 ≤ (vertical F bs).length := hs1
    exact adj_get (ch_adj V (p := (s0, 0)) (by rw [e]; exact hs1) hc) h1 h2 h3 h4
end G
/-! The end. -/
namespace G
open PySem L2
/-- the own error is caught where its class is named -/
theorem own_caught {K : PySem.W.Frag} {S : Addr} (e1 : PySem.W.subIn K (.ref S) (.type "BaseException") = some true) (e2 : PySem.W.isClsIn K S = true) (e3 : PySem.W.typeIn K (.ref S) = some (.type "type")) (e4 : PySem.W.subIn K (.ref S) (.ref S) = some true) : PySem.W.exmOne K (.ref S) (.ref S) = some true := by
  have e5 : (PySem.W.clsIn K S).isSome = true := e2
  unfold PySem.W.exmOne PySem.W.kitCls
  simp [e1, e3, e4, e5]
set_option maxHeartbeats 0 in
theorem all_mk {l : PySem.W.OpenLaw} {w : World} {K : PySem.W.Frag} {h : Heap} {mg : Str → Option Value} {fa C Ce Gc f_line_gap f_cost_within f_cost_between f_gap_between f_block_rows f_vertical f_counts_of f_added f_bad f_lowest f_law_draws f_law_draw f_law_gap f_law_flow f_law_blocks f_law_gap_of f_law_high f_law_divided f_law_floats_right f_best f_law f_partsM f_is_forcedM f_cost_atM f_textM f_wholeM f_waitingM f_has_placeM f_costM f_onwardM f_initM f_initE : Addr} (X : K.In h) (Gm : h.Ns mainGlobals mg) (hfa : mg "law" = some (.ref fa))
    {od_line_gap an_line_gap od_cost_within an_cost_within od_cost_between an_cost_between od_gap_between an_gap_between od_block_rows an_block_rows od_vertical an_vertical od_counts_of an_counts_of od_added an_added od_bad an_bad od_lowest an_lowest od_law_draws an_law_draws od_law_draw an_law_draw od_law_gap an_law_gap od_law_flow an_law_flow od_law_blocks an_law_blocks od_law_gap_of an_law_gap_of od_law_high an_law_high od_law_divided an_law_divided od_law_floats_right an_law_floats_right od_best an_best od_law an_law od_partsM an_partsM od_is_forcedM an_is_forcedM od_cost_atM an_cost_atM od_textM an_textM od_wholeM an_wholeM od_waitingM an_waitingM od_has_placeM an_has_placeM od_costM an_costM od_onwardM an_onwardM od_initM an_initM od_initE an_initE : Option Addr}
    {sl_line_gap sl_cost_within sl_cost_between sl_gap_between sl_block_rows sl_vertical sl_counts_of sl_added sl_bad sl_lowest sl_law_draws sl_law_draw sl_law_gap sl_law_flow sl_law_blocks sl_law_gap_of sl_law_high sl_law_divided sl_law_floats_right sl_best sl_law sl_partsM sl_is_forcedM sl_cost_atM sl_textM sl_wholeM sl_waitingM sl_has_placeM sl_costM sl_onwardM sl_initM sl_initE : Array (Option Value)}
    {oc_line_gap kV_line_gap dc_line_gap pm_line_gap cd_line_gap ct_line_gap oc_cost_within kV_cost_within dc_cost_within pm_cost_within cd_cost_within ct_cost_within oc_cost_between kV_cost_between dc_cost_between pm_cost_between cd_cost_between ct_cost_between oc_gap_between kV_gap_between dc_gap_between pm_gap_between cd_gap_between ct_gap_between oc_block_rows kV_block_rows dc_block_rows pm_block_rows cd_block_rows ct_block_rows oc_vertical kV_vertical dc_vertical pm_vertical cd_vertical ct_vertical oc_counts_of kV_counts_of dc_counts_of pm_counts_of cd_counts_of ct_counts_of oc_added kV_added dc_added pm_added cd_added ct_added oc_bad kV_bad dc_bad pm_bad cd_bad ct_bad oc_lowest kV_lowest dc_lowest pm_lowest cd_lowest ct_lowest oc_law_draws kV_law_draws dc_law_draws pm_law_draws cd_law_draws ct_law_draws oc_law_draw kV_law_draw dc_law_draw pm_law_draw cd_law_draw ct_law_draw oc_law_gap kV_law_gap dc_law_gap pm_law_gap cd_law_gap ct_law_gap oc_law_flow kV_law_flow dc_law_flow pm_law_flow cd_law_flow ct_law_flow oc_law_blocks kV_law_blocks dc_law_blocks pm_law_blocks cd_law_blocks ct_law_blocks oc_law_gap_of kV_law_gap_of dc_law_gap_of pm_law_gap_of cd_law_gap_of ct_law_gap_of oc_law_high kV_law_high dc_law_high pm_law_high cd_law_high ct_law_high oc_law_divided kV_law_divided dc_law_divided pm_law_divided cd_law_divided ct_law_divided oc_law_floats_right kV_law_floats_right dc_law_floats_right pm_law_floats_right cd_law_floats_right ct_law_floats_right oc_best kV_best dc_best pm_best cd_best ct_best oc_law kV_law dc_law pm_law cd_law ct_law oc_partsM kV_partsM dc_partsM pm_partsM cd_partsM ct_partsM oc_is_forcedM kV_is_forcedM dc_is_forcedM pm_is_forcedM cd_is_forcedM ct_is_forcedM oc_cost_atM kV_cost_atM dc_cost_atM pm_cost_atM cd_cost_atM ct_cost_atM oc_textM kV_textM dc_textM pm_textM cd_textM ct_textM oc_wholeM kV_wholeM dc_wholeM pm_wholeM cd_wholeM ct_wholeM oc_waitingM kV_waitingM dc_waitingM pm_waitingM cd_waitingM ct_waitingM oc_has_placeM kV_has_placeM dc_has_placeM pm_has_placeM cd_has_placeM ct_has_placeM oc_costM kV_costM dc_costM pm_costM cd_costM ct_costM oc_onwardM kV_onwardM dc_onwardM pm_onwardM cd_onwardM ct_onwardM oc_initM kV_initM dc_initM pm_initM cd_initM ct_initM oc_initE kV_initE dc_initE pm_initE cd_initE ct_initE : Value}
    {t1 t2 t3 : Tok} {nmE qE : Str} {NE : Addr} {bsE : List Value} {snE : List Str} {subE : List Value} {abE : Bool} {colE : Option Bool} {ddE : Option Addr} {k0E k1E k2E k3E k5E : Option Value}
    (aC : PySem.W.nsIn K mainGlobals "Sheet" = some (some (.ref C)))
    (aE : PySem.W.nsIn K mainGlobals "PageError" = some (some (.ref Ce)))
    (aG : PySem.W.nsIn K mainGlobals "GalleyError" = some (some (.ref Gc)))
    (a_line_gap : PySem.W.nsIn K mainGlobals "line_gap" = some (some (.ref f_line_gap)))
    (l_line_gap : K.lookup f_line_gap = some ⟨oc_line_gap, od_line_gap, .func (PySem.W.fnOf "line_gap" "line_gap" (defArgs s_line_gap) (defBody s_line_gap) (defScope s_line_gap) .none kV_line_gap dc_line_gap pm_line_gap an_line_gap cd_line_gap ct_line_gap), sl_line_gap⟩)
    (c_line_gap : PySem.W.codeIn K cd_line_gap "line_gap" = true)
    (k_line_gap : PySem.W.keepIn K (.ref f_line_gap) = true)
    (a_cost_within : PySem.W.nsIn K mainGlobals "cost_within" = some (some (.ref f_cost_within)))
    (l_cost_within : K.lookup f_cost_within = some ⟨oc_cost_within, od_cost_within, .func (PySem.W.fnOf "cost_within" "cost_within" (defArgs s_cost_within) (defBody s_cost_within) (defScope s_cost_within) .none kV_cost_within dc_cost_within pm_cost_within an_cost_within cd_cost_within ct_cost_within), sl_cost_within⟩)
    (c_cost_within : PySem.W.codeIn K cd_cost_within "cost_within" = true)
    (k_cost_within : PySem.W.keepIn K (.ref f_cost_within) = true)
    (a_cost_between : PySem.W.nsIn K mainGlobals "cost_between" = some (some (.ref f_cost_between)))
    (l_cost_between : K.lookup f_cost_between = some ⟨oc_cost_between, od_cost_between, .func (PySem.W.fnOf "cost_between" "cost_between" (defArgs s_cost_between) (defBody s_cost_between) (defScope s_cost_between) .none kV_cost_between dc_cost_between pm_cost_between an_cost_between cd_cost_between ct_cost_between), sl_cost_between⟩)
    (c_cost_between : PySem.W.codeIn K cd_cost_between "cost_between" = true)
    (k_cost_between : PySem.W.keepIn K (.ref f_cost_between) = true)
    (a_gap_between : PySem.W.nsIn K mainGlobals "gap_between" = some (some (.ref f_gap_between)))
    (l_gap_between : K.lookup f_gap_between = some ⟨oc_gap_between, od_gap_between, .func (PySem.W.fnOf "gap_between" "gap_between" (defArgs s_gap_between) (defBody s_gap_between) (defScope s_gap_between) .none kV_gap_between dc_gap_between pm_gap_between an_gap_between cd_gap_between ct_gap_between), sl_gap_between⟩)
    (c_gap_between : PySem.W.codeIn K cd_gap_between "gap_between" = true)
    (k_gap_between : PySem.W.keepIn K (.ref f_gap_between) = true)
    (a_block_rows : PySem.W.nsIn K mainGlobals "block_rows" = some (some (.ref f_block_rows)))
    (l_block_rows : K.lookup f_block_rows = some ⟨oc_block_rows, od_block_rows, .func (PySem.W.fnOf "block_rows" "block_rows" (defArgs s_block_rows) (defBody s_block_rows) (defScope s_block_rows) .none kV_block_rows dc_block_rows pm_block_rows an_block_rows cd_block_rows ct_block_rows), sl_block_rows⟩)
    (c_block_rows : PySem.W.codeIn K cd_block_rows "block_rows" = true)
    (k_block_rows : PySem.W.keepIn K (.ref f_block_rows) = true)
    (a_vertical : PySem.W.nsIn K mainGlobals "vertical" = some (some (.ref f_vertical)))
    (l_vertical : K.lookup f_vertical = some ⟨oc_vertical, od_vertical, .func (PySem.W.fnOf "vertical" "vertical" (defArgs s_vertical) (defBody s_vertical) (defScope s_vertical) .none kV_vertical dc_vertical pm_vertical an_vertical cd_vertical ct_vertical), sl_vertical⟩)
    (c_vertical : PySem.W.codeIn K cd_vertical "vertical" = true)
    (k_vertical : PySem.W.keepIn K (.ref f_vertical) = true)
    (a_counts_of : PySem.W.nsIn K mainGlobals "counts_of" = some (some (.ref f_counts_of)))
    (l_counts_of : K.lookup f_counts_of = some ⟨oc_counts_of, od_counts_of, .func (PySem.W.fnOf "counts_of" "counts_of" (defArgs s_counts_of) (defBody s_counts_of) (defScope s_counts_of) .none kV_counts_of dc_counts_of pm_counts_of an_counts_of cd_counts_of ct_counts_of), sl_counts_of⟩)
    (c_counts_of : PySem.W.codeIn K cd_counts_of "counts_of" = true)
    (k_counts_of : PySem.W.keepIn K (.ref f_counts_of) = true)
    (a_added : PySem.W.nsIn K mainGlobals "added" = some (some (.ref f_added)))
    (l_added : K.lookup f_added = some ⟨oc_added, od_added, .func (PySem.W.fnOf "added" "added" (defArgs s_added) (defBody s_added) (defScope s_added) .none kV_added dc_added pm_added an_added cd_added ct_added), sl_added⟩)
    (c_added : PySem.W.codeIn K cd_added "added" = true)
    (k_added : PySem.W.keepIn K (.ref f_added) = true)
    (a_bad : PySem.W.nsIn K mainGlobals "bad" = some (some (.ref f_bad)))
    (l_bad : K.lookup f_bad = some ⟨oc_bad, od_bad, .func (PySem.W.fnOf "bad" "bad" (defArgs s_bad) (defBody s_bad) (defScope s_bad) .none kV_bad dc_bad pm_bad an_bad cd_bad ct_bad), sl_bad⟩)
    (c_bad : PySem.W.codeIn K cd_bad "bad" = true)
    (k_bad : PySem.W.keepIn K (.ref f_bad) = true)
    (a_lowest : PySem.W.nsIn K mainGlobals "lowest" = some (some (.ref f_lowest)))
    (l_lowest : K.lookup f_lowest = some ⟨oc_lowest, od_lowest, .func (PySem.W.fnOf "lowest" "lowest" (defArgs s_lowest) (defBody s_lowest) (defScope s_lowest) .none kV_lowest dc_lowest pm_lowest an_lowest cd_lowest ct_lowest), sl_lowest⟩)
    (c_lowest : PySem.W.codeIn K cd_lowest "lowest" = true)
    (k_lowest : PySem.W.keepIn K (.ref f_lowest) = true)
    (a_law_draws : PySem.W.nsIn K mainGlobals "_law_draws" = some (some (.ref f_law_draws)))
    (l_law_draws : K.lookup f_law_draws = some ⟨oc_law_draws, od_law_draws, .func (PySem.W.fnOf "_law_draws" "_law_draws" (defArgs s_law_draws) (defBody s_law_draws) (defScope s_law_draws) .none kV_law_draws dc_law_draws pm_law_draws an_law_draws cd_law_draws ct_law_draws), sl_law_draws⟩)
    (c_law_draws : PySem.W.codeIn K cd_law_draws "_law_draws" = true)
    (k_law_draws : PySem.W.keepIn K (.ref f_law_draws) = true)
    (a_law_draw : PySem.W.nsIn K mainGlobals "_law_draw" = some (some (.ref f_law_draw)))
    (l_law_draw : K.lookup f_law_draw = some ⟨oc_law_draw, od_law_draw, .func (PySem.W.fnOf "_law_draw" "_law_draw" (defArgs s_law_draw) (defBody s_law_draw) (defScope s_law_draw) .none kV_law_draw dc_law_draw pm_law_draw an_law_draw cd_law_draw ct_law_draw), sl_law_draw⟩)
    (c_law_draw : PySem.W.codeIn K cd_law_draw "_law_draw" = true)
    (k_law_draw : PySem.W.keepIn K (.ref f_law_draw) = true)
    (a_law_gap : PySem.W.nsIn K mainGlobals "_law_gap" = some (some (.ref f_law_gap)))
    (l_law_gap : K.lookup f_law_gap = some ⟨oc_law_gap, od_law_gap, .func (PySem.W.fnOf "_law_gap" "_law_gap" (defArgs s_law_gap) (defBody s_law_gap) (defScope s_law_gap) .none kV_law_gap dc_law_gap pm_law_gap an_law_gap cd_law_gap ct_law_gap), sl_law_gap⟩)
    (c_law_gap : PySem.W.codeIn K cd_law_gap "_law_gap" = true)
    (k_law_gap : PySem.W.keepIn K (.ref f_law_gap) = true)
    (a_law_flow : PySem.W.nsIn K mainGlobals "_law_flow" = some (some (.ref f_law_flow)))
    (l_law_flow : K.lookup f_law_flow = some ⟨oc_law_flow, od_law_flow, .func (PySem.W.fnOf "_law_flow" "_law_flow" (defArgs s_law_flow) (defBody s_law_flow) (defScope s_law_flow) .none kV_law_flow dc_law_flow pm_law_flow an_law_flow cd_law_flow ct_law_flow), sl_law_flow⟩)
    (c_law_flow : PySem.W.codeIn K cd_law_flow "_law_flow" = true)
    (k_law_flow : PySem.W.keepIn K (.ref f_law_flow) = true)
    (a_law_blocks : PySem.W.nsIn K mainGlobals "_law_blocks" = some (some (.ref f_law_blocks)))
    (l_law_blocks : K.lookup f_law_blocks = some ⟨oc_law_blocks, od_law_blocks, .func (PySem.W.fnOf "_law_blocks" "_law_blocks" (defArgs s_law_blocks) (defBody s_law_blocks) (defScope s_law_blocks) .none kV_law_blocks dc_law_blocks pm_law_blocks an_law_blocks cd_law_blocks ct_law_blocks), sl_law_blocks⟩)
    (c_law_blocks : PySem.W.codeIn K cd_law_blocks "_law_blocks" = true)
    (k_law_blocks : PySem.W.keepIn K (.ref f_law_blocks) = true)
    (a_law_gap_of : PySem.W.nsIn K mainGlobals "_law_gap_of" = some (some (.ref f_law_gap_of)))
    (l_law_gap_of : K.lookup f_law_gap_of = some ⟨oc_law_gap_of, od_law_gap_of, .func (PySem.W.fnOf "_law_gap_of" "_law_gap_of" (defArgs s_law_gap_of) (defBody s_law_gap_of) (defScope s_law_gap_of) .none kV_law_gap_of dc_law_gap_of pm_law_gap_of an_law_gap_of cd_law_gap_of ct_law_gap_of), sl_law_gap_of⟩)
    (c_law_gap_of : PySem.W.codeIn K cd_law_gap_of "_law_gap_of" = true)
    (k_law_gap_of : PySem.W.keepIn K (.ref f_law_gap_of) = true)
    (a_law_high : PySem.W.nsIn K mainGlobals "_law_high" = some (some (.ref f_law_high)))
    (l_law_high : K.lookup f_law_high = some ⟨oc_law_high, od_law_high, .func (PySem.W.fnOf "_law_high" "_law_high" (defArgs s_law_high) (defBody s_law_high) (defScope s_law_high) .none kV_law_high dc_law_high pm_law_high an_law_high cd_law_high ct_law_high), sl_law_high⟩)
    (c_law_high : PySem.W.codeIn K cd_law_high "_law_high" = true)
    (k_law_high : PySem.W.keepIn K (.ref f_law_high) = true)
    (a_law_divided : PySem.W.nsIn K mainGlobals "_law_divided" = some (some (.ref f_law_divided)))
    (l_law_divided : K.lookup f_law_divided = some ⟨oc_law_divided, od_law_divided, .func (PySem.W.fnOf "_law_divided" "_law_divided" (defArgs s_law_divided) (defBody s_law_divided) (defScope s_law_divided) .none kV_law_divided dc_law_divided pm_law_divided an_law_divided cd_law_divided ct_law_divided), sl_law_divided⟩)
    (c_law_divided : PySem.W.codeIn K cd_law_divided "_law_divided" = true)
    (k_law_divided : PySem.W.keepIn K (.ref f_law_divided) = true)
    (a_law_floats_right : PySem.W.nsIn K mainGlobals "_law_floats_right" = some (some (.ref f_law_floats_right)))
    (l_law_floats_right : K.lookup f_law_floats_right = some ⟨oc_law_floats_right, od_law_floats_right, .func (PySem.W.fnOf "_law_floats_right" "_law_floats_right" (defArgs s_law_floats_right) (defBody s_law_floats_right) (defScope s_law_floats_right) .none kV_law_floats_right dc_law_floats_right pm_law_floats_right an_law_floats_right cd_law_floats_right ct_law_floats_right), sl_law_floats_right⟩)
    (c_law_floats_right : PySem.W.codeIn K cd_law_floats_right "_law_floats_right" = true)
    (k_law_floats_right : PySem.W.keepIn K (.ref f_law_floats_right) = true)
    (a_best : PySem.W.nsIn K mainGlobals "best_pages" = some (some (.ref f_best)))
    (l_best : K.lookup f_best = some ⟨oc_best, od_best, .func (PySem.W.fnOf "best_pages" "best_pages" (defArgs s_best_pages) (defBody s_best_pages) (defScope s_best_pages) .none kV_best dc_best pm_best an_best cd_best ct_best), sl_best⟩)
    (c_best : PySem.W.codeIn K cd_best "best_pages" = true)
    (k_best : PySem.W.keepIn K (.ref f_best) = true)
    (a_law : PySem.W.nsIn K mainGlobals "law" = some (some (.ref f_law)))
    (l_law : K.lookup f_law = some ⟨oc_law, od_law, .func (PySem.W.fnOf "law" "law" (defArgs s_law) (defBody s_law) (defScope s_law) .none kV_law dc_law pm_law an_law cd_law ct_law), sl_law⟩)
    (c_law : PySem.W.codeIn K cd_law "law" = true)
    (k_law : PySem.W.keepIn K (.ref f_law) = true)
    (a_partsM : PySem.W.findIn K (.ref C) "parts" = some (some (.ref f_partsM)))
    (i_partsM : PySem.W.isFn K (.ref f_partsM) = true)
    (l_partsM : K.lookup f_partsM = some ⟨oc_partsM, od_partsM, .func (PySem.W.fnOf "parts" "Sheet.parts" (defArgs s_Sheet_parts) (defBody s_Sheet_parts) (defScope s_Sheet_parts) .none kV_partsM dc_partsM pm_partsM an_partsM cd_partsM ct_partsM), sl_partsM⟩)
    (c_partsM : PySem.W.codeIn K cd_partsM "Sheet.parts" = true)
    (k_partsM : PySem.W.keepIn K (.ref f_partsM) = true)
    (a_is_forcedM : PySem.W.findIn K (.ref C) "is_forced" = some (some (.ref f_is_forcedM)))
    (i_is_forcedM : PySem.W.isFn K (.ref f_is_forcedM) = true)
    (l_is_forcedM : K.lookup f_is_forcedM = some ⟨oc_is_forcedM, od_is_forcedM, .func (PySem.W.fnOf "is_forced" "Sheet.is_forced" (defArgs s_Sheet_is_forced) (defBody s_Sheet_is_forced) (defScope s_Sheet_is_forced) .none kV_is_forcedM dc_is_forcedM pm_is_forcedM an_is_forcedM cd_is_forcedM ct_is_forcedM), sl_is_forcedM⟩)
    (c_is_forcedM : PySem.W.codeIn K cd_is_forcedM "Sheet.is_forced" = true)
    (k_is_forcedM : PySem.W.keepIn K (.ref f_is_forcedM) = true)
    (a_cost_atM : PySem.W.findIn K (.ref C) "cost_at" = some (some (.ref f_cost_atM)))
    (i_cost_atM : PySem.W.isFn K (.ref f_cost_atM) = true)
    (l_cost_atM : K.lookup f_cost_atM = some ⟨oc_cost_atM, od_cost_atM, .func (PySem.W.fnOf "cost_at" "Sheet.cost_at" (defArgs s_Sheet_cost_at) (defBody s_Sheet_cost_at) (defScope s_Sheet_cost_at) .none kV_cost_atM dc_cost_atM pm_cost_atM an_cost_atM cd_cost_atM ct_cost_atM), sl_cost_atM⟩)
    (c_cost_atM : PySem.W.codeIn K cd_cost_atM "Sheet.cost_at" = true)
    (k_cost_atM : PySem.W.keepIn K (.ref f_cost_atM) = true)
    (a_textM : PySem.W.findIn K (.ref C) "text" = some (some (.ref f_textM)))
    (i_textM : PySem.W.isFn K (.ref f_textM) = true)
    (l_textM : K.lookup f_textM = some ⟨oc_textM, od_textM, .func (PySem.W.fnOf "text" "Sheet.text" (defArgs s_Sheet_text) (defBody s_Sheet_text) (defScope s_Sheet_text) .none kV_textM dc_textM pm_textM an_textM cd_textM ct_textM), sl_textM⟩)
    (c_textM : PySem.W.codeIn K cd_textM "Sheet.text" = true)
    (k_textM : PySem.W.keepIn K (.ref f_textM) = true)
    (a_wholeM : PySem.W.findIn K (.ref C) "whole" = some (some (.ref f_wholeM)))
    (i_wholeM : PySem.W.isFn K (.ref f_wholeM) = true)
    (l_wholeM : K.lookup f_wholeM = some ⟨oc_wholeM, od_wholeM, .func (PySem.W.fnOf "whole" "Sheet.whole" (defArgs s_Sheet_whole) (defBody s_Sheet_whole) (defScope s_Sheet_whole) .none kV_wholeM dc_wholeM pm_wholeM an_wholeM cd_wholeM ct_wholeM), sl_wholeM⟩)
    (c_wholeM : PySem.W.codeIn K cd_wholeM "Sheet.whole" = true)
    (k_wholeM : PySem.W.keepIn K (.ref f_wholeM) = true)
    (a_waitingM : PySem.W.findIn K (.ref C) "waiting" = some (some (.ref f_waitingM)))
    (i_waitingM : PySem.W.isFn K (.ref f_waitingM) = true)
    (l_waitingM : K.lookup f_waitingM = some ⟨oc_waitingM, od_waitingM, .func (PySem.W.fnOf "waiting" "Sheet.waiting" (defArgs s_Sheet_waiting) (defBody s_Sheet_waiting) (defScope s_Sheet_waiting) .none kV_waitingM dc_waitingM pm_waitingM an_waitingM cd_waitingM ct_waitingM), sl_waitingM⟩)
    (c_waitingM : PySem.W.codeIn K cd_waitingM "Sheet.waiting" = true)
    (k_waitingM : PySem.W.keepIn K (.ref f_waitingM) = true)
    (a_has_placeM : PySem.W.findIn K (.ref C) "has_place" = some (some (.ref f_has_placeM)))
    (i_has_placeM : PySem.W.isFn K (.ref f_has_placeM) = true)
    (l_has_placeM : K.lookup f_has_placeM = some ⟨oc_has_placeM, od_has_placeM, .func (PySem.W.fnOf "has_place" "Sheet.has_place" (defArgs s_Sheet_has_place) (defBody s_Sheet_has_place) (defScope s_Sheet_has_place) .none kV_has_placeM dc_has_placeM pm_has_placeM an_has_placeM cd_has_placeM ct_has_placeM), sl_has_placeM⟩)
    (c_has_placeM : PySem.W.codeIn K cd_has_placeM "Sheet.has_place" = true)
    (k_has_placeM : PySem.W.keepIn K (.ref f_has_placeM) = true)
    (a_costM : PySem.W.findIn K (.ref C) "cost" = some (some (.ref f_costM)))
    (i_costM : PySem.W.isFn K (.ref f_costM) = true)
    (l_costM : K.lookup f_costM = some ⟨oc_costM, od_costM, .func (PySem.W.fnOf "cost" "Sheet.cost" (defArgs s_Sheet_cost) (defBody s_Sheet_cost) (defScope s_Sheet_cost) .none kV_costM dc_costM pm_costM an_costM cd_costM ct_costM), sl_costM⟩)
    (c_costM : PySem.W.codeIn K cd_costM "Sheet.cost" = true)
    (k_costM : PySem.W.keepIn K (.ref f_costM) = true)
    (a_onwardM : PySem.W.findIn K (.ref C) "onward" = some (some (.ref f_onwardM)))
    (i_onwardM : PySem.W.isFn K (.ref f_onwardM) = true)
    (l_onwardM : K.lookup f_onwardM = some ⟨oc_onwardM, od_onwardM, .func (PySem.W.fnOf "onward" "Sheet.onward" (defArgs s_Sheet_onward) (defBody s_Sheet_onward) (defScope s_Sheet_onward) .none kV_onwardM dc_onwardM pm_onwardM an_onwardM cd_onwardM ct_onwardM), sl_onwardM⟩)
    (c_onwardM : PySem.W.codeIn K cd_onwardM "Sheet.onward" = true)
    (k_onwardM : PySem.W.keepIn K (.ref f_onwardM) = true)
    (a_initM : PySem.W.findIn K (.ref C) "__init__" = some (some (.ref f_initM)))
    (i_initM : PySem.W.isFn K (.ref f_initM) = true)
    (l_initM : K.lookup f_initM = some ⟨oc_initM, od_initM, .func (PySem.W.fnOf "__init__" "Sheet.__init__" (defArgs s_Sheet___init__) (defBody s_Sheet___init__) (defScope s_Sheet___init__) .none kV_initM dc_initM pm_initM an_initM cd_initM ct_initM), sl_initM⟩)
    (c_initM : PySem.W.codeIn K cd_initM "Sheet.__init__" = true)
    (k_initM : PySem.W.keepIn K (.ref f_initM) = true)
    (a_initE : PySem.W.findIn K (.ref Ce) "__init__" = some (some (.ref f_initE)))
    (i_initE : PySem.W.typeIn K (.ref f_initE) = some (.type "function"))
    (l_initE : K.lookup f_initE = some ⟨oc_initE, od_initE, .func (PySem.W.fnOf "__init__" "PageError.__init__" (defArgs s_PageError___init__) (defBody s_PageError___init__) (defScope s_PageError___init__) .none kV_initE dc_initE pm_initE an_initE cd_initE ct_initE), sl_initE⟩)
    (c_initE : PySem.W.codeIn K cd_initE "PageError.__init__" = true)
    (k_initE : PySem.W.keepIn K (.ref f_initE) = true)
    (pgC : PySem.W.plainGet K C Str.empty = true)
    (hdC : PySem.W.hasDictIn K C = true)
    (poC : PySem.W.plainOver K C = true)
    (saC : PySem.W.findIn K (.ref C) "__setattr__" = some (some (.builtin "object.__setattr__")))
    (mkC : PySem.W.makesIn K C = true)
    (kcC : PySem.W.keepIn K (.ref C) = true)
    (n_rows : PySem.W.findIn K (.ref C) "rows" = some none)
    (n_notes : PySem.W.findIn K (.ref C) "notes" = some none)
    (n_floats : PySem.W.findIn K (.ref C) "floats" = some none)
    (n_flow : PySem.W.findIn K (.ref C) "flow" = some none)
    (n_end : PySem.W.findIn K (.ref C) "end" = some none)
    (n_ends : PySem.W.findIn K (.ref C) "ends" = some none)
    (n_places : PySem.W.findIn K (.ref C) "places" = some none)
    (n_lines : PySem.W.findIn K (.ref C) "lines" = some none)
    (n_start : PySem.W.findIn K (.ref C) "start" = some none)
    (n_sums : PySem.W.findIn K (.ref C) "sums" = some none)
    (n_above : PySem.W.findIn K (.ref C) "above" = some none)
    (n_forced : PySem.W.findIn K (.ref C) "forced" = some none)
    (z_max : PySem.W.nsIn K mainGlobals "max" = some none)
    (z_min : PySem.W.nsIn K mainGlobals "min" = some none)
    (z_len : PySem.W.nsIn K mainGlobals "len" = some none)
    (z_sum : PySem.W.nsIn K mainGlobals "sum" = some none)
    (z_range : PySem.W.nsIn K mainGlobals "range" = some none)
    (z_enumerate : PySem.W.nsIn K mainGlobals "enumerate" = some none)
    (z_zip : PySem.W.nsIn K mainGlobals "zip" = some none)
    (z_list : PySem.W.nsIn K mainGlobals "list" = some none)
    (z_tuple : PySem.W.nsIn K mainGlobals "tuple" = some none)
    (z_int : PySem.W.nsIn K mainGlobals "int" = some none)
    (z_all : PySem.W.nsIn K mainGlobals "all" = some none)
    (g1 : PySem.W.nsIn K mainGlobals "FORBIDDEN" = some (some (.int 10000 t1)))
    (g2 : PySem.W.nsIn K mainGlobals "FORCED" = some (some (.int (-10000) t2)))
    (g3 : PySem.W.nsIn K mainGlobals "WORST" = some (some (.int 10000 t3)))
    (xE : K.lookup Ce = some (excClassObj nmE qE Ce NE bsE [.ref Gc, .type "ValueError", .type "Exception", .type "BaseException", .type "object"] true snE subE abE colE ddE k0E k1E k2E k3E k5E "ValueError.__new__"))
    (saE : PySem.W.findIn K (.ref Ce) "__setattr__" = some (some (.builtin "object.__setattr__")))
    (exE : PySem.W.subIn K (.ref Ce) (.type "BaseException") = some true)
    (tyE : PySem.W.typeIn K (.ref Ce) = some (.type "type"))
    (kcE : PySem.W.keepIn K (.ref Ce) = true)
    (naE : PySem.W.findIn K (.ref Ce) "at" = some none)
    (spG : PySem.W.specialIn K (.ref Gc) "__getattribute__" = some (some (.builtin "type.__getattribute__")))
    (rdG : PySem.W.readsIn K Gc (.type "type") = true)
    (vvG : PySem.W.findCls K (.ref Gc) (.type "type") "__init__" = some (.val (.builtin "ValueError.__init__")))
    (icE : PySem.W.isClsIn K Ce = true)
    (seE : PySem.W.subIn K (.ref Ce) (.ref Ce) = some true) :
    ∃ fd : FuncData, (∀ (s : Shared) (v : Value), BindsTo s fd ⟨[v], []⟩ [("_law_script", v)]) ∧ ∀ base : Heap, K.In base → base.Ns mainGlobals mg → FnOk l.prog w K mg base CX0 7 fa fd ["_law_script"] (spLaw K) := by
  have e := hfa.symm.trans (PySem.W.mg_of X Gm a_law)
  cases e
  have T : Txt mg := { max := PySem.W.mg_none_of X Gm z_max, min := PySem.W.mg_none_of X Gm z_min, len := PySem.W.mg_none_of X Gm z_len, sum := PySem.W.mg_none_of X Gm z_sum, range := PySem.W.mg_none_of X Gm z_range, enumerate := PySem.W.mg_none_of X Gm z_enumerate, zip := PySem.W.mg_none_of X Gm z_zip, list := PySem.W.mg_none_of X Gm z_list, tuple := PySem.W.mg_none_of X Gm z_tuple, int := PySem.W.mg_none_of X Gm z_int, all := PySem.W.mg_none_of X Gm z_all, gFORBIDDEN := ⟨_, PySem.W.mg_of X Gm g1⟩, gFORCED := ⟨_, PySem.W.mg_of X Gm g2⟩, gWORST := ⟨_, PySem.W.mg_of X Gm g3⟩ }
  have SK : SC K C := { cls := ⟨pgC, hdC, poC, saC⟩, n_rows := n_rows, n_notes := n_notes, n_floats := n_floats, n_flow := n_flow, n_end := n_end, n_ends := n_ends, n_places := n_places, n_lines := n_lines, n_start := n_start, n_sums := n_sums, n_above := n_above, n_forced := n_forced }
  have O : Own K mg Ce Gc f_initE := { gC := PySem.W.mg_of X Gm aE, gG := PySem.W.mg_of X Gm aG, T := ⟨⟨nmE, qE, NE, bsE, _, snE, subE, abE, colE, ddE, k0E, k1E, k2E, k3E, k5E, xE, by show PySem.HandSPX.refsVE [.type "ValueError", .type "Exception", .type "BaseException", .type "object"] = true; decide +kernel⟩, saE, exE, tyE, kcE⟩, noAt := naE, iC := a_initE, tI := i_initE, sp := spG, rd := rdG, vV := vvG, te := own_caught exE icE tyE seE }
  have F_line_gap := fun_mk (st := s_line_gap) l_line_gap c_line_gap k_line_gap
  have b_line_gap := F_line_gap.binds (ps := ["flow", "upper", "lower"]) fun _ _ _ _ _ _ us hl => match us, hl with | [_, _, _], _ => rfl
  have F_cost_within := fun_mk (st := s_cost_within) l_cost_within c_cost_within k_cost_within
  have b_cost_within := F_cost_within.binds (ps := ["block", "at", "flow"]) fun _ _ _ _ _ _ us hl => match us, hl with | [_, _, _], _ => rfl
  have F_cost_between := fun_mk (st := s_cost_between) l_cost_between c_cost_between k_cost_between
  have b_cost_between := F_cost_between.binds (ps := ["upper", "lower", "forced", "flow"]) fun _ _ _ _ _ _ us hl => match us, hl with | [_, _, _, _], _ => rfl
  have F_gap_between := fun_mk (st := s_gap_between) l_gap_between c_gap_between k_gap_between
  have b_gap_between := F_gap_between.binds (ps := ["upper", "lower", "flow"]) fun _ _ _ _ _ _ us hl => match us, hl with | [_, _, _], _ => rfl
  have F_block_rows := fun_mk (st := s_block_rows) l_block_rows c_block_rows k_block_rows
  have b_block_rows := F_block_rows.binds (ps := ["number", "block", "flow"]) fun _ _ _ _ _ _ us hl => match us, hl with | [_, _, _], _ => rfl
  have F_vertical := fun_mk (st := s_vertical) l_vertical c_vertical k_vertical
  have b_vertical := F_vertical.binds (ps := ["blocks", "flow"]) fun _ _ _ _ _ _ us hl => match us, hl with | [_, _], _ => rfl
  have F_counts_of := fun_mk (st := s_counts_of) l_counts_of c_counts_of k_counts_of
  have b_counts_of := F_counts_of.binds (ps := ["marks"]) fun _ _ _ _ _ _ us hl => match us, hl with | [_], _ => rfl
  have F_added := fun_mk (st := s_added) l_added c_added k_added
  have b_added := F_added.binds (ps := ["first", "second"]) fun _ _ _ _ _ _ us hl => match us, hl with | [_, _], _ => rfl
  have F_bad := fun_mk (st := s_bad) l_bad c_bad k_bad
  have b_bad := F_bad.binds (ps := ["height", "total", "loose"]) fun _ _ _ _ _ _ us hl => match us, hl with | [_, _, _], _ => rfl
  have F_lowest := fun_mk (st := s_lowest) l_lowest c_lowest k_lowest
  have b_lowest := F_lowest.binds (ps := ["sheet"]) fun _ _ _ _ _ _ us hl => match us, hl with | [_], _ => rfl
  have F_law_draws := fun_mk (st := s_law_draws) l_law_draws c_law_draws k_law_draws
  have b_law_draws := F_law_draws.binds (ps := ["_law_script"]) fun _ _ _ _ _ _ us hl => match us, hl with | [_], _ => rfl
  have F_law_draw := fun_mk (st := s_law_draw) l_law_draw c_law_draw k_law_draw
  have b_law_draw := F_law_draw.binds (ps := ["_law_draws_here", "_law_limit"]) fun _ _ _ _ _ _ us hl => match us, hl with | [_, _], _ => rfl
  have F_law_gap := fun_mk (st := s_law_gap) l_law_gap c_law_gap k_law_gap
  have b_law_gap := F_law_gap.binds (ps := ["_law_draws_here", "_law_most"]) fun _ _ _ _ _ _ us hl => match us, hl with | [_, _], _ => rfl
  have F_law_flow := fun_mk (st := s_law_flow) l_law_flow c_law_flow k_law_flow
  have b_law_flow := F_law_flow.binds (ps := ["_law_draws_here", "_law_height"]) fun _ _ _ _ _ _ us hl => match us, hl with | [_, _], _ => rfl
  have F_law_blocks := fun_mk (st := s_law_blocks) l_law_blocks c_law_blocks k_law_blocks
  have b_law_blocks := F_law_blocks.binds (ps := ["_law_draws_here"]) fun _ _ _ _ _ _ us hl => match us, hl with | [_], _ => rfl
  have F_law_gap_of := fun_mk (st := s_law_gap_of) l_law_gap_of c_law_gap_of k_law_gap_of
  have b_law_gap_of := F_law_gap_of.binds (ps := ["_law_flow_here", "_law_blocks_here", "_law_upper", "_law_lower"]) fun _ _ _ _ _ _ us hl => match us, hl with | [_, _, _, _], _ => rfl
  have F_law_high := fun_mk (st := s_law_high) l_law_high c_law_high k_law_high
  have b_law_high := F_law_high.binds (ps := ["_law_flow_here", "_law_blocks_here", "_law_lines", "_law_notes", "_law_floats"]) fun _ _ _ _ _ _ us hl => match us, hl with | [_, _, _, _, _], _ => rfl
  have F_law_divided := fun_mk (st := s_law_divided) l_law_divided c_law_divided k_law_divided
  have b_law_divided := F_law_divided.binds (ps := ["_law_flow_here", "_law_blocks_here", "_law_upper", "_law_lower"]) fun _ _ _ _ _ _ us hl => match us, hl with | [_, _, _, _], _ => rfl
  have F_law_floats_right := fun_mk (st := s_law_floats_right) l_law_floats_right c_law_floats_right k_law_floats_right
  have b_law_floats_right := F_law_floats_right.binds (ps := ["_law_blocks_here", "_law_flow_here", "_law_pages", "_law_groups"]) fun _ _ _ _ _ _ us hl => match us, hl with | [_, _, _, _], _ => rfl
  have F_best := fun_mk (st := s_best_pages) l_best c_best k_best
  have b_best := F_best.binds (ps := ["matter"]) fun _ _ _ _ _ _ us hl => match us, hl with | [_], _ => rfl
  have F_law := fun_mk (st := s_law) l_law c_law k_law
  have F_partsM := fun_mk (st := s_Sheet_parts) l_partsM c_partsM k_partsM
  have b_partsM := F_partsM.binds (ps := ["self", "row"]) fun _ _ _ _ _ _ us hl => match us, hl with | [_, _], _ => rfl
  have F_is_forcedM := fun_mk (st := s_Sheet_is_forced) l_is_forcedM c_is_forcedM k_is_forcedM
  have b_is_forcedM := F_is_forcedM.binds (ps := ["self", "last"]) fun _ _ _ _ _ _ us hl => match us, hl with | [_, _], _ => rfl
  have F_cost_atM := fun_mk (st := s_Sheet_cost_at) l_cost_atM c_cost_atM k_cost_atM
  have b_cost_atM := F_cost_atM.binds (ps := ["self", "last"]) fun _ _ _ _ _ _ us hl => match us, hl with | [_, _], _ => rfl
  have F_textM := fun_mk (st := s_Sheet_text) l_textM c_textM k_textM
  have b_textM := F_textM.binds (ps := ["self", "first", "last"]) fun _ _ _ _ _ _ us hl => match us, hl with | [_, _, _], _ => rfl
  have F_wholeM := fun_mk (st := s_Sheet_whole) l_wholeM c_wholeM k_wholeM
  have b_wholeM := F_wholeM.binds (ps := ["self", "first", "last", "start", "stop"]) fun _ _ _ _ _ _ us hl => match us, hl with | [_, _, _, _, _], _ => rfl
  have F_waitingM := fun_mk (st := s_Sheet_waiting) l_waitingM c_waitingM k_waitingM
  have b_waitingM := F_waitingM.binds (ps := ["self", "last", "stop"]) fun _ _ _ _ _ _ us hl => match us, hl with | [_, _, _], _ => rfl
  have F_has_placeM := fun_mk (st := s_Sheet_has_place) l_has_placeM c_has_placeM k_has_placeM
  have b_has_placeM := F_has_placeM.binds (ps := ["self", "first", "last", "start", "stop"]) fun _ _ _ _ _ _ us hl => match us, hl with | [_, _, _, _, _], _ => rfl
  have F_costM := fun_mk (st := s_Sheet_cost) l_costM c_costM k_costM
  have b_costM := F_costM.binds (ps := ["self", "first", "last", "start", "stop"]) fun _ _ _ _ _ _ us hl => match us, hl with | [_, _, _, _, _], _ => rfl
  have F_onwardM := fun_mk (st := s_Sheet_onward) l_onwardM c_onwardM k_onwardM
  have b_onwardM := F_onwardM.binds (ps := ["self", "first", "start"]) fun _ _ _ _ _ _ us hl => match us, hl with | [_, _, _], _ => rfl
  have F_initM := fun_mk (st := s_Sheet___init__) l_initM c_initM k_initM
  have b_initM := F_initM.binds (ps := ["self", "matter"]) fun _ _ _ _ _ _ us hl => match us, hl with | [_, _], _ => rfl
  have F_initE := fun_mk (st := s_PageError___init__) l_initE c_initE k_initE
  have b_initE := F_initE.binds (ps := ["self", "at"]) fun _ _ _ _ _ _ us hl => match us, hl with | [_, _], _ => rfl
  refine ⟨PySem.W.fnOf "law" "law" (defArgs s_law) (defBody s_law) (defScope s_law) .none kV_law dc_law pm_law an_law cd_law ct_law, fun s v => .of_eq rfl, fun base _ _ => ?_⟩
  have Cline_gap : Cl l.prog w K mg base CX0 "line_gap" 1 ["flow", "upper", "lower"] (spLineGap K) := ⟨_, _, PySem.W.mg_of X Gm a_line_gap, ok_line_gap F_line_gap T, k_line_gap, b_line_gap⟩
  have Ccost_within : Cl l.prog w K mg base CX0 "cost_within" 1 ["block", "at", "flow"] (spCostWithin K) := ⟨_, _, PySem.W.mg_of X Gm a_cost_within, ok_cost_within F_cost_within T, k_cost_within, b_cost_within⟩
  have Ccost_between : Cl l.prog w K mg base CX0 "cost_between" 1 ["upper", "lower", "forced", "flow"] (spCostBetween K) := ⟨_, _, PySem.W.mg_of X Gm a_cost_between, ok_cost_between F_cost_between T, k_cost_between, b_cost_between⟩
  have Cgap_between : Cl l.prog w K mg base CX0 "gap_between" 2 ["upper", "lower", "flow"] (spGapBetween K) := ⟨_, _, PySem.W.mg_of X Gm a_gap_between, ok_gap_between F_gap_between T Cline_gap, k_gap_between, b_gap_between⟩
  have Cblock_rows : Cl l.prog w K mg base CX0 "block_rows" 2 ["number", "block", "flow"] (spBlockRows K) := ⟨_, _, PySem.W.mg_of X Gm a_block_rows, ok_block_rows F_block_rows T Cline_gap Ccost_within, k_block_rows, b_block_rows⟩
  have Cvertical : Cl l.prog w K mg base CX0 "vertical" 3 ["blocks", "flow"] (spVertical K) := ⟨_, _, PySem.W.mg_of X Gm a_vertical, ok_vertical F_vertical T Cblock_rows Ccost_between Cgap_between, k_vertical, b_vertical⟩
  have Ccounts_of : Cl l.prog w K mg base CX0 "counts_of" 1 ["marks"] (spCounts K) := ⟨_, _, PySem.W.mg_of X Gm a_counts_of, ok_counts_of F_counts_of T, k_counts_of, b_counts_of⟩
  have Cadded : Cl l.prog w K mg base CX0 "added" 1 ["first", "second"] (spAdded K) := ⟨_, _, PySem.W.mg_of X Gm a_added, ok_added F_added T, k_added, b_added⟩
  have Cbad : Cl l.prog w K mg base CX0 "bad" 1 ["height", "total", "loose"] (spBad K) := ⟨_, _, PySem.W.mg_of X Gm a_bad, ok_bad F_bad T, k_bad, b_bad⟩
  have Mparts : Cm l.prog w K mg base C "parts" 1 ["self", "row"] (spParts K C) := ⟨SK.cls, _, _, ⟨a_partsM, i_partsM, k_partsM⟩, ok_parts F_partsM T SK, b_partsM⟩
  have Mis_forced : Cm l.prog w K mg base C "is_forced" 1 ["self", "last"] (spIsForced K C) := ⟨SK.cls, _, _, ⟨a_is_forcedM, i_is_forcedM, k_is_forcedM⟩, ok_is_forced F_is_forcedM T SK, b_is_forcedM⟩
  have Mcost_at : Cm l.prog w K mg base C "cost_at" 2 ["self", "last"] (spCostAt K C) := ⟨SK.cls, _, _, ⟨a_cost_atM, i_cost_atM, k_cost_atM⟩, ok_cost_at F_cost_atM T SK Mis_forced, b_cost_atM⟩
  have Mtext : Cm l.prog w K mg base C "text" 1 ["self", "first", "last"] (spText K C) := ⟨SK.cls, _, _, ⟨a_textM, i_textM, k_textM⟩, ok_text F_textM T SK, b_textM⟩
  have Mwhole : Cm l.prog w K mg base C "whole" 2 ["self", "first", "last", "start", "stop"] (spWhole K C) := ⟨SK.cls, _, _, ⟨a_wholeM, i_wholeM, k_wholeM⟩, ok_whole F_wholeM T SK Mtext Cadded, b_wholeM⟩
  have Mwaiting : Cm l.prog w K mg base C "waiting" 1 ["self", "last", "stop"] (spWaiting K C) := ⟨SK.cls, _, _, ⟨a_waitingM, i_waitingM, k_waitingM⟩, ok_waiting F_waitingM T SK, b_waitingM⟩
  have Mhas_place : Cm l.prog w K mg base C "has_place" 1 ["self", "first", "last", "start", "stop"] (spHasPlace K C) := ⟨SK.cls, _, _, ⟨a_has_placeM, i_has_placeM, k_has_placeM⟩, ok_has_place F_has_placeM T SK, b_has_placeM⟩
  have Mcost : Cm l.prog w K mg base C "cost" 3 ["self", "first", "last", "start", "stop"] (spCost K C) := ⟨SK.cls, _, _, ⟨a_costM, i_costM, k_costM⟩, ok_cost F_costM T SK Mtext Mhas_place Mwhole Mcost_at Mwaiting Cbad, b_costM⟩
  have Monward : Cm l.prog w K mg base C "onward" 4 ["self", "first", "start"] (spOnward K C) := ⟨SK.cls, _, _, ⟨a_onwardM, i_onwardM, k_onwardM⟩, ok_onward F_onwardM T SK Mcost Mwhole Mis_forced Cbad, b_onwardM⟩
  have Clowest : Cl l.prog w K mg base CX0 "lowest" 5 ["sheet"] (spLowest K C) := ⟨_, _, PySem.W.mg_of X Gm a_lowest, ok_lowest F_lowest T SK Monward, k_lowest, b_lowest⟩
  have Claw_draws : Cl l.prog w K mg base CX0 "_law_draws" 1 ["_law_script"] (spDraws K) := ⟨_, _, PySem.W.mg_of X Gm a_law_draws, ok_law_draws F_law_draws T, k_law_draws, b_law_draws⟩
  have Claw_draw : Cl l.prog w K mg base CX0 "_law_draw" 1 ["_law_draws_here", "_law_limit"] (spDraw K) := ⟨_, _, PySem.W.mg_of X Gm a_law_draw, ok_law_draw F_law_draw T, k_law_draw, b_law_draw⟩
  have Claw_gap : Cl l.prog w K mg base CX0 "_law_gap" 2 ["_law_draws_here", "_law_most"] (spLGap K) := ⟨_, _, PySem.W.mg_of X Gm a_law_gap, ok_law_gap F_law_gap T Claw_draw, k_law_gap, b_law_gap⟩
  have Claw_flow : Cl l.prog w K mg base CX0 "_law_flow" 3 ["_law_draws_here", "_law_height"] (spLFlow K) := ⟨_, _, PySem.W.mg_of X Gm a_law_flow, ok_law_flow F_law_flow T Claw_draw Claw_gap, k_law_flow, b_law_flow⟩
  have Claw_blocks : Cl l.prog w K mg base CX0 "_law_blocks" 2 ["_law_draws_here"] (spLBlocks K) := ⟨_, _, PySem.W.mg_of X Gm a_law_blocks, ok_law_blocks F_law_blocks T Claw_draw, k_law_blocks, b_law_blocks⟩
  have Claw_gap_of : Cl l.prog w K mg base CX0 "_law_gap_of" 1 ["_law_flow_here", "_law_blocks_here", "_law_upper", "_law_lower"] (spGapOf K) := ⟨_, _, PySem.W.mg_of X Gm a_law_gap_of, ok_law_gap_of F_law_gap_of T, k_law_gap_of, b_law_gap_of⟩
  have Claw_high : Cl l.prog w K mg base CX0 "_law_high" 2 ["_law_flow_here", "_law_blocks_here", "_law_lines", "_law_notes", "_law_floats"] (spHigh K) := ⟨_, _, PySem.W.mg_of X Gm a_law_high, ok_law_high F_law_high T Claw_gap_of, k_law_high, b_law_high⟩
  have Claw_divided : Cl l.prog w K mg base CX0 "_law_divided" 1 ["_law_flow_here", "_law_blocks_here", "_law_upper", "_law_lower"] (spDivided K) := ⟨_, _, PySem.W.mg_of X Gm a_law_divided, ok_law_divided F_law_divided T, k_law_divided, b_law_divided⟩
  have Claw_floats_right : Cl l.prog w K mg base CX0 "_law_floats_right" 1 ["_law_blocks_here", "_law_flow_here", "_law_pages", "_law_groups"] (spFloatsRight K) := ⟨_, _, PySem.W.mg_of X Gm a_law_floats_right, ok_law_floats_right F_law_floats_right T, k_law_floats_right, b_law_floats_right⟩
  have FE : FnOk l.prog w K mg base CX0 1 f_initE _ ["self", "at"] (spPE Ce) := ok_pe_init F_initE O
  have FM : FnOk l.prog w K mg base CX0 2 f_initM _ ["self", "matter"] (spInit K C) := ok_init F_initM T SK Mparts Ccounts_of
  have FB : FnOk l.prog w K mg base (L2.CX l.prog w) 6 f_best _ ["matter"] (spBest K Ce) := ok_best F_best T SK O FE b_initE ⟨mkC, a_initM, i_initM, kcC⟩ FM (PySem.W.mg_of X Gm aC) b_initM Clowest
  exact ok_law plain_law F_law T O Claw_draws Claw_draw Claw_flow Claw_blocks Cvertical FB (PySem.W.mg_of X Gm a_best) k_best b_best Claw_high Claw_divided Claw_floats_right
theorem law_walk {l : PySem.W.OpenLaw} {q : Program} {loose : List Str} {XP : (Str → Option Value) → Heap → Prop} {YP : World → Heap → Prop} {d : DefRec} {K : Params → PySem.W.Frag} (hn : l.most = some 63) (hdf : d.params.defaults = [])
    (hY : ∀ (w : World) (h : Heap), YP w h → (K w.params).In h)
    (hF : ∀ (w : World) (mg : Str → Option Value) (fa : Addr) (h : Heap), (K w.params).In h → h.Ns mainGlobals mg → mg d.name = some (.ref fa) →
      ∃ fd : FuncData, (∀ (s : Shared) (u : Value), BindsTo s fd ⟨[u], []⟩ [("_law_script", u)]) ∧ ∀ base : Heap, (K w.params).In base → base.Ns mainGlobals mg → FnOk l.prog w (K w.params) mg base CX0 7 fa fd ["_law_script"] (spLaw (K w.params))) :
    PySem.W.WalkO q loose XP YP l.row.toRowW d [] (fun f vs => PySem.call f vs) :=
  L2.walk_of (n := 63) (k := 7) (x := "_law_script") (CX := fun _ => CX0) (sp := fun w => spLaw (K w.params)) hn (by decide) hdf ⟨rfl, by decide, by decide⟩ hY hF (fun _ _ a ns hl _ hS => ⟨a, ns, rfl, hS, hl, fun _ => rfl⟩) fun _ _ _ _ _ z => z
end G
open PySem PySem.W PyProof.Rows
set_option maxRecDepth 100000 in
set_option maxHeartbeats 0 in
theorem PySem.Challenge.cw_galleypapers_k64_whole_no_rule_is_broken_holds : PySem.Challenge.rw_galleypapers_k64_whole_no_rule_is_broken.Holds := by
  w_on; o_law; k_head; (case hw => w_witness2)
  k_fill
  refine G.law_walk (l := PySem.Challenge.rw_galleypapers_k64_whole_no_rule_is_broken) rfl rfl (fun w h Y => PySem.W.kIn_of Y) ?F
  case F =>
    intro w mg fa h KX Gm hmg
    refine' G.all_mk KX Gm hmg ?aC ?aE ?aG ?a_line_gap ?l_line_gap ?c_line_gap ?k_line_gap ?a_cost_within ?l_cost_within ?c_cost_within ?k_cost_within ?a_cost_between ?l_cost_between ?c_cost_between ?k_cost_between ?a_gap_between ?l_gap_between ?c_gap_between ?k_gap_between ?a_block_rows ?l_block_rows ?c_block_rows ?k_block_rows ?a_vertical ?l_vertical ?c_vertical ?k_vertical ?a_counts_of ?l_counts_of ?c_counts_of ?k_counts_of ?a_added ?l_added ?c_added ?k_added ?a_bad ?l_bad ?c_bad ?k_bad ?a_lowest ?l_lowest ?c_lowest ?k_lowest ?a_law_draws ?l_law_draws ?c_law_draws ?k_law_draws ?a_law_draw ?l_law_draw ?c_law_draw ?k_law_draw ?a_law_gap ?l_law_gap ?c_law_gap ?k_law_gap ?a_law_flow ?l_law_flow ?c_law_flow ?k_law_flow ?a_law_blocks ?l_law_blocks ?c_law_blocks ?k_law_blocks ?a_law_gap_of ?l_law_gap_of ?c_law_gap_of ?k_law_gap_of ?a_law_high ?l_law_high ?c_law_high ?k_law_high ?a_law_divided ?l_law_divided ?c_law_divided ?k_law_divided ?a_law_floats_right ?l_law_floats_right ?c_law_floats_right ?k_law_floats_right ?a_best ?l_best ?c_best ?k_best ?a_law ?l_law ?c_law ?k_law ?a_partsM ?i_partsM ?l_partsM ?c_partsM ?k_partsM ?a_is_forcedM ?i_is_forcedM ?l_is_forcedM ?c_is_forcedM ?k_is_forcedM ?a_cost_atM ?i_cost_atM ?l_cost_atM ?c_cost_atM ?k_cost_atM ?a_textM ?i_textM ?l_textM ?c_textM ?k_textM ?a_wholeM ?i_wholeM ?l_wholeM ?c_wholeM ?k_wholeM ?a_waitingM ?i_waitingM ?l_waitingM ?c_waitingM ?k_waitingM ?a_has_placeM ?i_has_placeM ?l_has_placeM ?c_has_placeM ?k_has_placeM ?a_costM ?i_costM ?l_costM ?c_costM ?k_costM ?a_onwardM ?i_onwardM ?l_onwardM ?c_onwardM ?k_onwardM ?a_initM ?i_initM ?l_initM ?c_initM ?k_initM ?a_initE ?i_initE ?l_initE ?c_initE ?k_initE ?pgC ?hdC ?poC ?saC ?mkC ?kcC ?n_rows ?n_notes ?n_floats ?n_flow ?n_end ?n_ends ?n_places ?n_lines ?n_start ?n_sums ?n_above ?n_forced ?z_max ?z_min ?z_len ?z_sum ?z_range ?z_enumerate ?z_zip ?z_list ?z_tuple ?z_int ?z_all ?g1 ?g2 ?g3 ?xE ?saE ?exE ?tyE ?kcE ?naE ?spG ?rdG ?vvG ?icE ?seE
    (case aC => k_is)
    (case aE => k_is)
    (case aG => k_is)
    (case a_line_gap => k_is)
    (case l_line_gap => k_is)
    (case c_line_gap => k_is)
    (case k_line_gap => k_is)
    (case a_cost_within => k_is)
    (case l_cost_within => k_is)
    (case c_cost_within => k_is)
    (case k_cost_within => k_is)
    (case a_cost_between => k_is)
    (case l_cost_between => k_is)
    (case c_cost_between => k_is)
    (case k_cost_between => k_is)
    (case a_gap_between => k_is)
    (case l_gap_between => k_is)
    (case c_gap_between => k_is)
    (case k_gap_between => k_is)
    (case a_block_rows => k_is)
    (case l_block_rows => k_is)
    (case c_block_rows => k_is)
    (case k_block_rows => k_is)
    (case a_vertical => k_is)
    (case l_vertical => k_is)
    (case c_vertical => k_is)
    (case k_vertical => k_is)
    (case a_counts_of => k_is)
    (case l_counts_of => k_is)
    (case c_counts_of => k_is)
    (case k_counts_of => k_is)
    (case a_added => k_is)
    (case l_added => k_is)
    (case c_added => k_is)
    (case k_added => k_is)
    (case a_bad => k_is)
    (case l_bad => k_is)
    (case c_bad => k_is)
    (case k_bad => k_is)
    (case a_lowest => k_is)
    (case l_lowest => k_is)
    (case c_lowest => k_is)
    (case k_lowest => k_is)
    (case a_law_draws => k_is)
    (case l_law_draws => k_is)
    (case c_law_draws => k_is)
    (case k_law_draws => k_is)
    (case a_law_draw => k_is)
    (case l_law_draw => k_is)
    (case c_law_draw => k_is)
    (case k_law_draw => k_is)
    (case a_law_gap => k_is)
    (case l_law_gap => k_is)
    (case c_law_gap => k_is)
    (case k_law_gap => k_is)
    (case a_law_flow => k_is)
    (case l_law_flow => k_is)
    (case c_law_flow => k_is)
    (case k_law_flow => k_is)
    (case a_law_blocks => k_is)
    (case l_law_blocks => k_is)
    (case c_law_blocks => k_is)
    (case k_law_blocks => k_is)
    (case a_law_gap_of => k_is)
    (case l_law_gap_of => k_is)
    (case c_law_gap_of => k_is)
    (case k_law_gap_of => k_is)
    (case a_law_high => k_is)
    (case l_law_high => k_is)
    (case c_law_high => k_is)
    (case k_law_high => k_is)
    (case a_law_divided => k_is)
    (case l_law_divided => k_is)
    (case c_law_divided => k_is)
    (case k_law_divided => k_is)
    (case a_law_floats_right => k_is)
    (case l_law_floats_right => k_is)
    (case c_law_floats_right => k_is)
    (case k_law_floats_right => k_is)
    (case a_best => k_is)
    (case l_best => k_is)
    (case c_best => k_is)
    (case k_best => k_is)
    (case a_law => k_is)
    (case l_law => k_is)
    (case c_law => k_is)
    (case k_law => k_is)
    (case a_partsM => k_is)
    (case i_partsM => k_is)
    (case l_partsM => k_is)
    (case c_partsM => k_is)
    (case k_partsM => k_is)
    (case a_is_forcedM => k_is)
    (case i_is_forcedM => k_is)
    (case l_is_forcedM => k_is)
    (case c_is_forcedM => k_is)
    (case k_is_forcedM => k_is)
    (case a_cost_atM => k_is)
    (case i_cost_atM => k_is)
    (case l_cost_atM => k_is)
    (case c_cost_atM => k_is)
    (case k_cost_atM => k_is)
    (case a_textM => k_is)
    (case i_textM => k_is)
    (case l_textM => k_is)
    (case c_textM => k_is)
    (case k_textM => k_is)
    (case a_wholeM => k_is)
    (case i_wholeM => k_is)
    (case l_wholeM => k_is)
    (case c_wholeM => k_is)
    (case k_wholeM => k_is)
    (case a_waitingM => k_is)
    (case i_waitingM => k_is)
    (case l_waitingM => k_is)
    (case c_waitingM => k_is)
    (case k_waitingM => k_is)
    (case a_has_placeM => k_is)
    (case i_has_placeM => k_is)
    (case l_has_placeM => k_is)
    (case c_has_placeM => k_is)
    (case k_has_placeM => k_is)
    (case a_costM => k_is)
    (case i_costM => k_is)
    (case l_costM => k_is)
    (case c_costM => k_is)
    (case k_costM => k_is)
    (case a_onwardM => k_is)
    (case i_onwardM => k_is)
    (case l_onwardM => k_is)
    (case c_onwardM => k_is)
    (case k_onwardM => k_is)
    (case a_initM => k_is)
    (case i_initM => k_is)
    (case l_initM => k_is)
    (case c_initM => k_is)
    (case k_initM => k_is)
    (case a_initE => k_is)
    (case i_initE => k_is)
    (case l_initE => k_is)
    (case c_initE => k_is)
    (case k_initE => k_is)
    (case pgC => k_is)
    (case hdC => k_is)
    (case poC => k_is)
    (case saC => k_is)
    (case mkC => k_is)
    (case kcC => k_is)
    (case n_rows => k_is)
    (case n_notes => k_is)
    (case n_floats => k_is)
    (case n_flow => k_is)
    (case n_end => k_is)
    (case n_ends => k_is)
    (case n_places => k_is)
    (case n_lines => k_is)
    (case n_start => k_is)
    (case n_sums => k_is)
    (case n_above => k_is)
    (case n_forced => k_is)
    (case z_max => k_is)
    (case z_min => k_is)
    (case z_len => k_is)
    (case z_sum => k_is)
    (case z_range => k_is)
    (case z_enumerate => k_is)
    (case z_zip => k_is)
    (case z_list => k_is)
    (case z_tuple => k_is)
    (case z_int => k_is)
    (case z_all => k_is)
    (case g1 => k_is)
    (case g2 => k_is)
    (case g3 => k_is)
    (case xE => k_is)
    (case saE => k_is)
    (case exE => k_is)
    (case tyE => k_is)
    (case kcE => k_is)
    (case naE => k_is)
    (case spG => k_is)
    (case rdG => k_is)
    (case vvG => k_is)
    (case icE => k_is)
    (case seE => first | rfl | k_is)
