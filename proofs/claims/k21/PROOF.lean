import PyProof.Rows.All
import Wide.All
import OpenK.AllK
import Wide.FinOn
import HandS.ForMost
import HandS.ForExc
import HandS.ExcIs
import HandS.ExcValue
import HandS.Deep
import HandS.Conv
import HandS.TupAny
import HandS.TupMul
import KE.DataMinMax
import KE.DataEq
import KE.DataFind
import KE.DataAny
import KE.DataIsa
import KE.KTupSum
import KE.SortData
import KE.KeyNested
import KE.KDictKeyed
import HandS.Defaults
import HandS.HeadHook2
import HandS.Words
import HandS.Walk
import HandS.Sort
import HandS.Style
import HandS.TryOnly
import HandS.TupSets
import HandS.SetFor
import HandS.WordsExc
import HandS.Ends
import HandS.Head0
import HandS.Head1
import HandS.Head2
import HandS.HeadEnd
import HandS.HeadHook1
import HandS.HeadHook3
import HandS.HeadHook4
import KE.KStateDown
import PySem.Challenge.RW_racedice_k21_whole_pips
set_option Elab.async false
set_option linter.all false
set_option maxRecDepth 100000
set_option maxHeartbeats 4000000
namespace Rd
open PySem PySem.Spec PyProof.Rows L2
/-! ### what is wanted of a piece of code: the weakest readings -/
section
variable {X : Cx} {e : Expr} {es : List Expr} {st : Stmt} {ss : List Stmt} {σ : L2.St} {H : Hp}
structure wE (X : Cx) (e : Expr) (σ : L2.St) (H : Hp) (Q : VK) : Prop where
  go : ∀ (pins : List (Addr × Obj)) (s : Shared), Inv X pins σ H s → wpAny (model X.prog X.w) X.A (eval e X.env) (EP X pins σ Q) X.xe s
structure wT (X : Cx) (e : Expr) (σ : L2.St) (H : Hp) (Q : Bool → Hp → Prop) : Prop where
  go : ∀ (pins : List (Addr × Obj)) (s : Shared), Inv X pins σ H s → wpAny (model X.prog X.w) X.A (isTrue e X.env (eval e X.env)) (TP X pins σ Q) X.xe s
structure wW (X : Cx) (e : Expr) (σ : L2.St) (H : Hp) (Q : Bool → Hp → Prop) : Prop where
  go : ∀ (whole : Sem Value) (pins : List (Addr × Obj)) (s : Shared), Inv X pins σ H s → wpAny (model X.prog X.w) X.A (isTrue e X.env whole) (TP X pins σ Q) X.xe s
structure wA (X : Cx) (es : List Expr) (σ : L2.St) (H : Hp) (Q : List V → Hp → Prop) : Prop where
  go : ∀ (pos : Pos) (pins : List (Addr × Obj)) (s : Shared), Inv X pins σ H s → wpAny (model X.prog X.w) X.A (spliced (backTo pos (starEach es X.env))) (AP X pins σ Q) X.xe s
structure wS (X : Cx) (st : Stmt) (D : Ends) (σ : L2.St) (H : Hp) : Prop where
  go : ∀ (pins : List (Addr × Obj)) (s : Shared), Inv X pins σ H s → wpAny (model X.prog X.w) X.A (exec st X.env) (SP X pins D) X.xe s
structure wB (X : Cx) (ss : List Stmt) (D : Ends) (σ : L2.St) (H : Hp) : Prop where
  go : ∀ (pins : List (Addr × Obj)) (s : Shared), Inv X pins σ H s → wpAny (model X.prog X.w) X.A (execs ss X.env) (SP X pins D) X.xe s
theorem pE : PE X e (wE X e) := ⟨fun pins s _ _ _ I h => h.go pins s I⟩
theorem pT : PT X e (wT X e) := ⟨fun pins s _ _ _ I h => h.go pins s I⟩
theorem pW : PW X e (wW X e) := ⟨fun wh pins s _ _ _ I h => h.go wh pins s I⟩
theorem pA : PA X es (wA X es) := ⟨fun pos pins s _ _ _ I h => h.go pos pins s I⟩
theorem pS : PS X st (wS X st) := ⟨fun pins s _ _ _ I h => h.go pins s I⟩
theorem pB : PSs X ss (wB X ss) := ⟨fun pins s _ _ _ I h => h.go pins s I⟩
theorem wE_of {t : TE} {Q : VK} (h : PE X e t) (q : t σ H Q) : wE X e σ H Q := ⟨fun pins s I => h.run pins s σ H Q I q⟩
theorem wT_of {t : TT} {Q : Bool → Hp → Prop} (h : PT X e t) (q : t σ H Q) : wT X e σ H Q := ⟨fun pins s I => h.run pins s σ H Q I q⟩
theorem wW_of {t : TT} {Q : Bool → Hp → Prop} (h : PW X e t) (q : t σ H Q) : wW X e σ H Q := ⟨fun wh pins s I => h.run wh pins s σ H Q I q⟩
theorem wA_of {t : TA} {Q : List V → Hp → Prop} (h : PA X es t) (q : t σ H Q) : wA X es σ H Q := ⟨fun pos pins s I => h.run pos pins s σ H Q I q⟩
theorem wS_of {t : TS} {D : Ends} (h : PS X st t) (q : t D σ H) : wS X st D σ H := ⟨fun pins s I => h.run pins s σ H D I q⟩
theorem wB_of {t : TS} {D : Ends} (h : PSs X ss t) (q : t D σ H) : wB X ss D σ H := ⟨fun pins s I => h.run pins s σ H D I q⟩
theorem wE_mono {Q Q' : VK} (h : wE X e σ H Q) (k : ∀ v H', Q v H' → Q' v H') : wE X e σ H Q' := ⟨fun pins s I =>
  thn (h.go pins s I) fun _ _ ⟨v, H', I', r, q⟩ => ⟨v, H', I', r, k v H' q⟩⟩
theorem wT_mono {Q Q' : Bool → Hp → Prop} (h : wT X e σ H Q) (k : ∀ v H', Q v H' → Q' v H') : wT X e σ H Q' := ⟨fun pins s I =>
  thn (h.go pins s I) fun _ _ ⟨H', I', q⟩ => ⟨H', I', k _ H' q⟩⟩
theorem wW_mono {Q Q' : Bool → Hp → Prop} (h : wW X e σ H Q) (k : ∀ v H', Q v H' → Q' v H') : wW X e σ H Q' := ⟨fun wh pins s I =>
  thn (h.go wh pins s I) fun _ _ ⟨H', I', q⟩ => ⟨H', I', k _ H' q⟩⟩
theorem wA_mono {Q Q' : List V → Hp → Prop} (h : wA X es σ H Q) (k : ∀ v H', Q v H' → Q' v H') : wA X es σ H Q' := ⟨fun pos pins s I =>
  thn (h.go pos pins s I) fun _ _ ⟨v, H', I', r, q⟩ => ⟨v, H', I', r, k v H' q⟩⟩
theorem SP_mono {pins : List (Addr × Obj)} {D D' : Ends} (hn : ∀ σ H, D.nx σ H → D'.nx σ H) (hr : ∀ v H, D.rt v H → D'.rt v H) (hb : ∀ σ H, D.bk σ H → D'.bk σ H) (hc : ∀ σ H, D.ct σ H → D'.ct σ H) {f : Flow} {s : Shared} (h : SP X pins D f s) : SP X pins D' f s := by
  cases f with
  | next => obtain ⟨a, b, c, d⟩ := h; exact ⟨a, b, c, hn _ _ d⟩
  | brk => obtain ⟨a, b, c, d⟩ := h; exact ⟨a, b, c, hb _ _ d⟩
  | cont => obtain ⟨a, b, c, d⟩ := h; exact ⟨a, b, c, hc _ _ d⟩
  | ret u => obtain ⟨v, a, b, c, r, d⟩ := h; exact ⟨v, a, b, c, r, hr _ _ d⟩
theorem wS_mono {D D' : Ends} (h : wS X st D σ H) (hn : ∀ σ H, D.nx σ H → D'.nx σ H) (hr : ∀ v H, D.rt v H → D'.rt v H) (hb : ∀ σ H, D.bk σ H → D'.bk σ H) (hc : ∀ σ H, D.ct σ H → D'.ct σ H) : wS X st D' σ H := ⟨fun pins s I =>
  thn (h.go pins s I) fun _ _ q => SP_mono hn hr hb hc q⟩
theorem wB_mono {D D' : Ends} (h : wB X ss D σ H) (hn : ∀ σ H, D.nx σ H → D'.nx σ H) (hr : ∀ v H, D.rt v H → D'.rt v H) (hb : ∀ σ H, D.bk σ H → D'.bk σ H) (hc : ∀ σ H, D.ct σ H → D'.ct σ H) : wB X ss D' σ H := ⟨fun pins s I =>
  thn (h.go pins s I) fun _ _ q => SP_mono hn hr hb hc q⟩
end
/-! ### heaps, data -/
/-- all that H knows, but what stands at A, stands in H' too -/
def ExB (A : List Addr) (H H' : Hp) : Prop := ∀ b o, b ∉ A → H b = some o → H' b = some o
theorem ExB.refl {A : List Addr} {H : Hp} : ExB A H H := fun _ _ _ h => h
theorem ExB.trans {A : List Addr} {H H1 H2 : Hp} (a : ExB A H H1) (b : ExB A H1 H2) : ExB A H H2 := fun c o n h => b c o n (a c o n h)
theorem ExB.sub {A A' : List Addr} {H H1 : Hp} (a : ExB A H H1) (s : ∀ b, b ∈ A → b ∈ A') : ExB A' H H1 := fun c o n h => a c o (fun z => n (s c z)) h
theorem ExB.all {A : List Addr} {H H1 : Hp} (a : ExB [] H H1) : ExB A H H1 := a.sub fun _ z => nomatch z
theorem ExB.new {A : List Addr} {H : Hp} {p : Addr} {o : HO} (h : H p = none) : ExB A H (upd H p o) := fun b u _ e => by
  rw [upd_ne (ne_of_none e h)]; exact e
theorem ExB.at_ {A : List Addr} {H : Hp} {p : Addr} {o : HO} (h : p ∈ A) : ExB A H (upd H p o) := fun b u n e => by
  rw [upd_ne (fun z : b = p => n (by rw [z]; exact h))]; exact e
theorem ExB.fresh {H H' : Hp} {p : Addr} (a : ExB [] H H') (h : H' p = none) : H p = none := by
  cases q : H p with
  | none => rfl
  | some o => rw [a p o (fun z => nomatch z) q] at h; cases h
abbrev Fg := PySem.W.Frag
mutual
/-- v is the data d in H, whatever becomes of what stands at A -/
inductive Dm (A : List Addr) (K : Fg) (H : Hp) : V → PyData → Prop
  | non : Dm A K H .non .none
  | bl (b : Bool) : Dm A K H (.bl b) (.bool b)
  | int (i : Int) : Dm A K H (.int i) (.int i)
  | str (x : Str) : Dm A K H (.str x) (.str x)
  | lst {a : Addr} {xs : List V} {ds : List PyData} : (∀ H', ExB A H H' → SqL K H' a xs) → DmL A K H xs ds → Dm A K H (.ref a) (.list ds)
  | tup {a : Addr} {xs : List V} {ds : List PyData} : (∀ H', ExB A H H' → SqT K H' a xs) → DmL A K H xs ds → Dm A K H (.ref a) (.tuple ds)
inductive DmL (A : List Addr) (K : Fg) (H : Hp) : List V → List PyData → Prop
  | nil : DmL A K H [] []
  | cons {v : V} {vs : List V} {d : PyData} {ds : List PyData} : Dm A K H v d → DmL A K H vs ds → DmL A K H (v :: vs) (d :: ds)
end
section
variable {A A' : List Addr} {K : Fg} {H H1 : Hp}
mutual
theorem Dm.to (e : ∀ H', ExB A' H1 H' → ExB A H H') : ∀ (d : PyData) (v : V), Dm A K H v d → Dm A' K H1 v d
  | .none, _, h => by cases h; exact .non
  | .bool _, _, h => by cases h; exact .bl _
  | .int _, _, h => by cases h; exact .int _
  | .str _, _, h => by cases h; exact .str _
  | .list ds, _, h => by
    cases h with
    | lst s t => exact .lst (fun H' q => s H' (e H' q)) (DmL.to e ds _ t)
  | .tuple ds, _, h => by
    cases h with
    | tup s t => exact .tup (fun H' q => s H' (e H' q)) (DmL.to e ds _ t)
  | .dict _, _, h => by cases h
theorem DmL.to (e : ∀ H', ExB A' H1 H' → ExB A H H') : ∀ (ds : List PyData) (vs : List V), DmL A K H vs ds → DmL A' K H1 vs ds
  | [], _, h => by cases h; exact .nil
  | d :: ds, _, h => by
    cases h with
    | cons a b => exact .cons (Dm.to e d _ a) (DmL.to e ds _ b)
end
mutual
theorem Dm.dp : ∀ (d : PyData) (v : V), Dm A K H v d → Dp K H v d
  | .none, _, h => by cases h; exact .non
  | .bool _, _, h => by cases h; exact .bl _
  | .int _, _, h => by cases h; exact .int _
  | .str _, _, h => by cases h; exact .str _
  | .list ds, _, h => by
    cases h with
    | lst s t => exact .lst (s H .refl) (DmL.dp ds _ t)
  | .tuple ds, _, h => by
    cases h with
    | tup s t => exact .tup (s H .refl) (DmL.dp ds _ t)
  | .dict _, _, h => by cases h
theorem DmL.dp : ∀ (ds : List PyData) (vs : List V), DmL A K H vs ds → DpAll K H vs ds
  | [], _, h => by cases h; exact .nil
  | d :: ds, _, h => by
    cases h with
    | cons a b => exact .cons (Dm.dp d _ a) (DmL.dp ds _ b)
end
theorem Dm.mono {v : V} {d : PyData} (h : Dm A K H v d) (e : ExB A H H1) : Dm A K H1 v d := Dm.to (fun _ q => e.trans q) d v h
theorem DmL.mono {v : List V} {d : List PyData} (h : DmL A K H v d) (e : ExB A H H1) : DmL A K H1 v d := DmL.to (fun _ q => e.trans q) d v h
theorem Dm.less {v : V} {d : PyData} (h : Dm A K H v d) (s : ∀ b, b ∈ A' → b ∈ A) : Dm A' K H v d := Dm.to (fun _ q => q.sub s) d v h
theorem DmL.less {v : List V} {d : List PyData} (h : DmL A K H v d) (s : ∀ b, b ∈ A' → b ∈ A) : DmL A' K H v d := DmL.to (fun _ q => q.sub s) d v h
theorem exb_new {a : Addr} {o : HO} (hn : H a = none) : ∀ H', ExB (a :: A) (upd H a o) H' → ExB A H H' := fun H' q b u nb e => by
  have ne : b ≠ a := ne_of_none e hn
  exact q b u (by simp [ne, nb]) (by rw [upd_ne ne]; exact e)
theorem DmL.length {v : List V} {d : List PyData} (h : DmL A K H v d) : v.length = d.length := by
  induction v generalizing d with
  | nil => cases h; rfl
  | cons x xs ih => cases h with | cons a b => simp [ih b]
theorem DmL.append {v w : List V} {d e : List PyData} (h : DmL A K H v d) (k : DmL A K H w e) : DmL A K H (v ++ w) (d ++ e) := by
  induction v generalizing d with
  | nil => cases h; exact k
  | cons x xs ih => cases h with | cons a b => exact .cons a (ih b)
theorem DmL.get {v : List V} {d : List PyData} {i : Nat} {z : PyData} (h : DmL A K H v d) (e : d[i]? = some z) : ∃ x, v[i]? = some x ∧ Dm A K H x z := by
  induction v generalizing d i with
  | nil => cases h; simp at e
  | cons x xs ih =>
    cases h with
    | cons a b =>
      cases i with
      | zero => simp at e; subst e; exact ⟨x, rfl, a⟩
      | succ i => obtain ⟨y, h1, h2⟩ := ih (i := i) b (by simpa using e); exact ⟨y, by simpa using h1, h2⟩
theorem DmL.get' {v : List V} {d : List PyData} {i : Nat} {x : V} (h : DmL A K H v d) (e : v[i]? = some x) : ∃ z, d[i]? = some z ∧ Dm A K H x z := by
  induction v generalizing d i with
  | nil => simp at e
  | cons y xs ih =>
    cases h with
    | cons a b =>
      cases i with
      | zero => simp at e; subst e; exact ⟨_, rfl, a⟩
      | succ i => obtain ⟨y, h1, h2⟩ := ih (i := i) b (by simpa using e); exact ⟨y, by simpa using h1, h2⟩
theorem DmL.set {v : List V} {d : List PyData} {x : V} {z : PyData} (h : DmL A K H v d) (k : Dm A K H x z) (i : Nat) : DmL A K H (v.set i x) (d.set i z) := by
  induction v generalizing d i with
  | nil => cases h; exact .nil
  | cons y xs ih =>
    cases h with
    | cons a b =>
      cases i with
      | zero => exact .cons k b
      | succ i => exact .cons a (ih b i)
theorem DmL.drop {v : List V} {d : List PyData} (h : DmL A K H v d) (n : Nat) : DmL A K H (v.drop n) (d.drop n) := by
  induction v generalizing d n with
  | nil => cases h; simp; exact .nil
  | cons y xs ih =>
    cases h with
    | cons a b =>
      cases n with
      | zero => exact .cons a b
      | succ n => exact ih b n
theorem DmL.take {v : List V} {d : List PyData} (h : DmL A K H v d) (n : Nat) : DmL A K H (v.take n) (d.take n) := by
  induction v generalizing d n with
  | nil => cases h; simp; exact .nil
  | cons y xs ih =>
    cases h with
    | cons a b =>
      cases n with
      | zero => exact .nil
      | succ n => exact .cons a (ih b n)
theorem DmL.reverse {v : List V} {d : List PyData} (h : DmL A K H v d) : DmL A K H v.reverse d.reverse := by
  induction v generalizing d with
  | nil => cases h; exact .nil
  | cons y xs ih =>
    cases h with
    | cons a b => simp only [List.reverse_cons]; exact (ih b).append (.cons a .nil)
theorem DmL.ints : ∀ {ns : List Int} {v : List V}, DmL A K H v (ns.map PyData.int) → v = ns.map V.int
  | [], _, h => by cases h; rfl
  | n :: ns, _, h => by
    cases h with
    | cons a b => cases a; rw [DmL.ints b]; rfl
theorem DmL.of_ints : ∀ (ns : List Int), DmL A K H (ns.map V.int) (ns.map PyData.int)
  | [] => .nil
  | _ :: ns => .cons (.int _) (DmL.of_ints ns)
theorem DmL.strs : ∀ {ns : List Str} {v : List V}, DmL A K H v (ns.map PyData.str) → v = ns.map V.str
  | [], _, h => by cases h; rfl
  | n :: ns, _, h => by
    cases h with
    | cons a b => cases a; rw [DmL.strs b]; rfl
theorem DmL.of_strs : ∀ (ns : List Str), DmL A K H (ns.map V.str) (ns.map PyData.str)
  | [] => .nil
  | _ :: ns => .cons (.str _) (DmL.of_strs ns)
theorem DmL.bools : ∀ {ns : List Bool} {v : List V}, DmL A K H v (ns.map PyData.bool) → v = ns.map V.bl
  | [], _, h => by cases h; rfl
  | n :: ns, _, h => by
    cases h with
    | cons a b => cases a; rw [DmL.bools b]; rfl
end
/-- an exception object of the class C, held -/
def ExH (C a : Addr) : HO := .ext fun h => ∃ (oe : Obj) (vs : Array Value), h.get? a = some oe ∧ Zc (.ref C) none oe ∧ oe.data = .fields vs
/-- what is known of a slot: nothing, the value itself, the data, an exception of a class -/
inductive Sl where
  | no | v (x : V) | d (d : PyData) | f (ds : List PyData) | l (ds : List PyData) | x (C : Addr)
def SlOk (A : List Addr) (K : Fg) (H : Hp) : Option V → Sl → Prop
  | _, .no => True
  | o, .v x => o = some x
  | o, .d d => ∃ x, o = some x ∧ Dm A K H x d
  | o, .f ds => ∃ a xs, o = some (.ref a) ∧ (∀ H', ExB A H H' → H' a = some (.lst xs)) ∧ DmL A K H xs ds
  | o, .l ds => ∃ a xs, o = some (.ref a) ∧ (∀ H', ExB A H H' → H' a = some (.lst xs)) ∧ DmL A K H xs ds
  | o, .x C => ∃ a, o = some (.ref a) ∧ ∀ H', ExB A H H' → H' a = some (ExH C a)
mutual
/-- a key of a dict as data -/
def toQ : PyData → NestedKey
  | .int i => .num i
  | .str x => .text x
  | .tuple ds => .tup (toQs ds)
  | .bool b => .num (if b then 1 else 0)
  | .none => .none
  | .list _ => .none
  | .dict _ => .none
def toQs : List PyData → List NestedKey
  | [] => []
  | d :: ds => toQ d :: toQs ds
end
mutual
/-- ints, texts, tuples of such -/
def keyD : PyData → Bool
  | .int _ => true
  | .str _ => true
  | .tuple ds => keyDs ds
  | _ => false
def keyDs : List PyData → Bool
  | [] => true
  | d :: ds => keyD d && keyDs ds
end
def isTupD : PyData → Bool
  | .tuple _ => true
  | _ => false
structure KQ (d : PyData) : Prop where
  k : keyD d = true
  t : isTupD d = true
  dp : d.depth ≤ 8
/-- an entry of a dict, as it is told and as it stands -/
def DcE (A : List Addr) (K : Fg) (H : Hp) (p : PyData × PyData) (q : NestedKey × Addr × Value) : Prop := KQ p.1 ∧ q.1 = toQ p.1 ∧ Dm A K H (.ref q.2.1) p.1 ∧ ∃ v, RelV v q.2.2 ∧ Dm A K H v p.2
def DcR (P : Program) (w : World) (o : Obj) (xs : List (NestedKey × Addr × Value)) : Prop := ∃ es ep, o.ExactDict ∧ o.data = .dict es ep ∧ es.toList = xs.map (entryOfKey (nestedKind P w)) ∧ (xs.map (·.1)).Nodup
inductive Cl where
  | ls (ds : List PyData) | ho (o : HO) | ob (C dx : Addr) (fs : List (Str × Sl)) | dk (fs : List (Key × Sl)) | dc (P : Program) (w : World) (kvs : List (PyData × PyData))
def SlP {κ : Type} (A : List Addr) (K : Fg) (H : Hp) (p : κ × V) (q : κ × Sl) : Prop := p.1 = q.1 ∧ SlOk A K H (some p.2) q.2
def ClOk (A : List Addr) (K : Fg) (H : Hp) (a : Addr) : Cl → Prop
  | .ls ds => ∃ xs, H a = some (.lst xs) ∧ DmL A K H xs ds
  | .ho o => H a = some o
  | .ob C dx fs => ∃ vs, H a = some (.ins C dx vs) ∧ Paired (SlP A K H) vs fs
  | .dk fs => ∃ vs, H a = some (.dK vs) ∧ Paired (SlP A K H) vs fs
  | .dc P w kvs => ∃ o xs, H a = some (.ext fun h => h.get? a = some o) ∧ kvs.length ≤ sizeLine ∧ (a == sysModules) = false ∧ DcR P w o xs ∧ Paired (DcE A K H) kvs xs
/-- what is known: A0: what others may change; B: what must stay; the slots; the objects that are changed here -/
structure Gm where
  A0 : List Addr
  B : Hp
  sl : List Sl
  cs : List (Addr × Cl)
abbrev Gm.ad (G : Gm) : List Addr := G.cs.map (·.1)
abbrev Gm.av (G : Gm) : List Addr := G.ad ++ G.A0
structure Hh (K : Fg) (G : Gm) (H : Hp) : Prop where
  ex : ∀ b o, G.B b = some o → H b = some o
  nd : G.ad.Nodup
  fr : ∀ a ∈ G.ad, G.B a = none
  out : ∀ b ∈ G.A0, G.B b ≠ none ∨ b ∈ G.ad
  cl : ∀ p ∈ G.cs, ClOk G.av K H p.1 p.2
inductive SlA (A : List Addr) (K : Fg) (H : Hp) : L2.St → List Sl → Prop
  | nil : SlA A K H [] []
  | cons {o : Option V} {os : L2.St} {s : Sl} {ss : List Sl} : SlOk A K H o s → SlA A K H os ss → SlA A K H (o :: os) (s :: ss)
structure Hs (K : Fg) (G : Gm) (σ : L2.St) (H : Hp) : Prop where
  hh : Hh K G H
  sl : SlA G.av K H σ G.sl
section
variable {A A' : List Addr} {K : Fg} {H H1 : Hp} {G : Gm} {σ : L2.St}
theorem SlOk.to (e : ∀ H', ExB A' H1 H' → ExB A H H') {o : Option V} {s : Sl} (h : SlOk A K H o s) : SlOk A' K H1 o s := by
  cases s with
  | no => trivial
  | v x => exact h
  | d d => obtain ⟨x, e1, k⟩ := h; exact ⟨x, e1, Dm.to e d x k⟩
  | f ds => obtain ⟨a, xs, e1, k, t⟩ := h; exact ⟨a, xs, e1, fun H' q => k H' (e H' q), DmL.to e ds xs t⟩
  | l ds => obtain ⟨a, xs, e1, k, t⟩ := h; exact ⟨a, xs, e1, fun H' q => k H' (e H' q), DmL.to e ds xs t⟩
  | x C => obtain ⟨a, e1, k⟩ := h; exact ⟨a, e1, fun H' q => k H' (e H' q)⟩
theorem SlOk.mono {o : Option V} {s : Sl} (h : SlOk A K H o s) (e : ExB A H H1) : SlOk A K H1 o s := h.to fun _ q => e.trans q
theorem SlA.to (e : ∀ H', ExB A' H1 H' → ExB A H H') : ∀ {σ : L2.St} {ss : List Sl}, SlA A K H σ ss → SlA A' K H1 σ ss
  | _, _, .nil => .nil
  | _, _, .cons a b => .cons (a.to e) (SlA.to e b)
theorem ClOk.to (e : ∀ H', ExB A' H1 H' → ExB A H H') {a : Addr} {c : Cl} (h : ClOk A K H a c) (ha : ∀ o, H a = some o → H1 a = some o) : ClOk A' K H1 a c := by
  cases c with
  | ls ds => obtain ⟨xs, e1, k⟩ := h; exact ⟨xs, ha _ e1, DmL.to e ds xs k⟩
  | ho o => exact ha _ h
  | ob C dx fs => obtain ⟨vs, e1, k⟩ := h; exact ⟨vs, ha _ e1, L2.Paired.mapP k fun p q z => ⟨z.1, z.2.to e⟩⟩
  | dk fs => obtain ⟨vs, e1, k⟩ := h; exact ⟨vs, ha _ e1, L2.Paired.mapP k fun p q z => ⟨z.1, z.2.to e⟩⟩
  | dc P w kvs => obtain ⟨o, xs, e1, k1, k2, k3, k4⟩ := h; exact ⟨o, xs, ha _ e1, k1, k2, k3, L2.Paired.mapP k4 fun p q z => by obtain ⟨z1, z2, z3, v, z4, z5⟩ := z; exact ⟨z1, z2, Dm.to e _ _ z3, v, z4, Dm.to e _ _ z5⟩⟩
theorem ClOk.there {a : Addr} {c : Cl} (h : ClOk A K H a c) : ∃ o, H a = some o := by
  cases c with
  | ls ds => obtain ⟨xs, e1, k⟩ := h; exact ⟨_, e1⟩
  | ho o => exact ⟨_, h⟩
  | ob C dx fs => obtain ⟨vs, e1, k⟩ := h; exact ⟨_, e1⟩
  | dk fs => obtain ⟨vs, e1, k⟩ := h; exact ⟨_, e1⟩
  | dc P w kvs => obtain ⟨o, xs, e1, _⟩ := h; exact ⟨_, e1⟩
theorem SlA.length : ∀ {σ : L2.St} {ss : List Sl}, SlA A K H σ ss → σ.length = ss.length
  | _, _, .nil => rfl
  | _, _, .cons _ b => by simp [SlA.length b]
theorem SlA.get : ∀ {σ : L2.St} {ss : List Sl} {i : Nat} {s : Sl}, SlA A K H σ ss → ss[i]? = some s → ∃ o, σ[i]? = some o ∧ SlOk A K H o s
  | _, _, _, _, .nil, e => by simp at e
  | _, _, 0, _, .cons a _, e => by simp at e; subst e; exact ⟨_, rfl, a⟩
  | _, _, i + 1, s, .cons _ b, e => by obtain ⟨o, h1, h2⟩ := SlA.get (i := i) (s := s) b (by simpa using e); exact ⟨o, by simpa using h1, h2⟩
theorem SlA.set {o : Option V} {s : Sl} (k : SlOk A K H o s) : ∀ {σ : L2.St} {ss : List Sl} (i : Nat), SlA A K H σ ss → SlA A K H (σ.set i o) (ss.set i s)
  | _, _, _, .nil => .nil
  | _, _, 0, .cons _ b => .cons k b
  | _, _, i + 1, .cons a b => .cons a (SlA.set k i b)
/-- all that was tracked is kept -/
theorem Hh.ext (h : Hh K G H) (e : ExB [] H H1) : Hh K G H1 :=
  ⟨fun b o q => e b o (fun z => nomatch z) (h.ex b o q), h.nd, h.fr, h.out, fun p hp => (h.cl p hp).to (fun _ q => (e.all).trans q) fun o q => e _ _ (fun z => nomatch z) q⟩
theorem Hs.ext (h : Hs K G σ H) (e : ExB [] H H1) : Hs K G σ H1 := ⟨h.hh.ext e, h.sl.to fun _ q => (e.all).trans q⟩
/-- what is new is not among what is changed -/
theorem Hh.new (h : Hh K G H) {a : Addr} (n : H a = none) : a ∉ G.av := fun hm => by
  have key : ∀ b ∈ G.ad, ∃ o, H b = some o := fun b hb => by
    obtain ⟨p, hp, rfl⟩ := List.mem_map.mp hb
    exact (h.cl p hp).there
  have : ∃ o, H a = some o := by
    rcases List.mem_append.mp hm with q | q
    · exact key a q
    · rcases h.out a q with z | z
      · cases e : G.B a with
        | none => exact absurd e z
        | some o => exact ⟨o, h.ex a o e⟩
      · exact key a z
  obtain ⟨o, e⟩ := this
  rw [n] at e; cases e
theorem SlOk.get {x : V} {d : PyData} (h : SlOk A K H (some x) (.d d)) : Dm A K H x d := by
  obtain ⟨y, e, k⟩ := h; cases e; exact k
theorem SlOk.int {x : V} {i : Int} (h : SlOk A K H (some x) (.d (.int i))) : x = .int i := by cases h.get; rfl
theorem SlOk.str {x : V} {i : Str} (h : SlOk A K H (some x) (.d (.str i))) : x = .str i := by cases h.get; rfl
theorem SlOk.bl {x : V} {i : Bool} (h : SlOk A K H (some x) (.d (.bool i))) : x = .bl i := by cases h.get; rfl
theorem SlOk.non {x : V} (h : SlOk A K H (some x) (.d .none)) : x = .non := by cases h.get; rfl
theorem SlOk.ofD {x : V} {d : PyData} (h : Dm A K H x d) : SlOk A K H (some x) (.d d) := ⟨x, rfl, h⟩
theorem SlOk.tup {x : V} {ds : List PyData} (h : SlOk A K H (some x) (.d (.tuple ds))) : ∃ a xs, x = .ref a ∧ (∀ H', ExB A H H' → SqT K H' a xs) ∧ DmL A K H xs ds := by
  cases h.get with
  | tup s t => exact ⟨_, _, rfl, s, t⟩
theorem SlOk.lst {x : V} {ds : List PyData} (h : SlOk A K H (some x) (.d (.list ds))) : ∃ a xs, x = .ref a ∧ (∀ H', ExB A H H' → SqL K H' a xs) ∧ DmL A K H xs ds := by
  cases h.get with
  | lst s t => exact ⟨_, _, rfl, s, t⟩
/-- a new tuple, a new list as data -/
theorem Dm.newT {a : Addr} {xs : List V} {ds : List PyData} (hn : a ∉ A) (h : H a = some (.tup xs)) (t : DmL A K H xs ds) : Dm A K H (.ref a) (.tuple ds) :=
  .tup (fun H' q => SqT.of (q a _ hn h)) t
theorem Dm.newL {a : Addr} {xs : List V} {ds : List PyData} (hn : a ∉ A) (h : H a = some (.lst xs)) (t : DmL A K H xs ds) : Dm A K H (.ref a) (.list ds) :=
  .lst (fun H' q => SqL.of (q a _ hn h)) t
end
end Rd

namespace Rd
open PySem PySem.Spec PyProof.Rows L2
/-! ### judgements -/
/-- a new list -/
def Fre (A : List Addr) (K : Fg) (H H' : Hp) (z : V) : Sl → Prop
  | .f ds => ∃ a xs, z = .ref a ∧ H a = none ∧ H' a = some (.lst xs) ∧ DmL (a :: A) K H' xs ds
  | _ => True
def PRA (A : List Addr) (K : Fg) (H : Hp) (r : Sl) : VK := fun z H' => ExB [] H H' ∧ SlOk A K H' (some z) r ∧ Fre A K H H' z r
abbrev PR (K : Fg) (G : Gm) (H : Hp) (r : Sl) : VK := PRA G.av K H r
/-- e gives r and changes nothing -/
def ER (X : Cx) (e : Expr) (G : Gm) (r : Sl) : Prop := ∀ σ H, Hs X.K G σ H → wE X e σ H (PR X.K G H r)
/-- a test -/
def TR (X : Cx) (e : Expr) (G : Gm) (b : Bool) : Prop := ∀ σ H, Hs X.K G σ H → wT X e σ H (fun c H' => c = b ∧ ExB [] H H')
def TW (X : Cx) (e : Expr) (G : Gm) (b : Bool) : Prop := ∀ σ H, Hs X.K G σ H → wW X e σ H (fun c H' => c = b ∧ ExB [] H H')
inductive SlL (A : List Addr) (K : Fg) (H : Hp) : List V → List Sl → Prop
  | nil : SlL A K H [] []
  | cons {v : V} {vs : List V} {s : Sl} {ss : List Sl} : SlOk A K H (some v) s → SlL A K H vs ss → SlL A K H (v :: vs) (s :: ss)
theorem SlL.mono {A : List Addr} {K : Fg} {H H1 : Hp} (e : ExB A H H1) : ∀ {vs : List V} {ss : List Sl}, SlL A K H vs ss → SlL A K H1 vs ss
  | _, _, .nil => .nil
  | _, _, .cons a b => .cons (a.mono e) (SlL.mono e b)
def EA (X : Cx) (es : List Expr) (G : Gm) (rs : List Sl) : Prop := ∀ σ H, Hs X.K G σ H → wA X es σ H (fun vs H' => ExB [] H H' ∧ SlL G.av X.K H' vs rs)
/-- r is read as d -/
inductive Vw (G : Gm) : Sl → PyData → Prop
  | d {d : PyData} : Vw G (.d d) d
  | f {ds : List PyData} : Vw G (.f ds) (.list ds)
  | l {ds : List PyData} : Vw G (.l ds) (.list ds)
  | c {a : Addr} {ds : List PyData} (j : Nat) : G.cs[j]? = some (a, .ls ds) → Vw G (.v (.ref a)) (.list ds)
/-- r is the data d, to be kept -/
inductive Dt : Sl → PyData → Prop
  | d {d : PyData} : Dt (.d d) d
  | f {ds : List PyData} : Dt (.f ds) (.list ds)
  | l {ds : List PyData} : Dt (.l ds) (.list ds)
inductive DtL : List Sl → List PyData → Prop
  | nil : DtL [] []
  | cons {s : Sl} {d : PyData} {ss : List Sl} {ds : List PyData} : Dt s d → DtL ss ds → DtL (s :: ss) (d :: ds)
section
variable {A : List Addr} {K : Fg} {H H1 H2 : Hp} {G : Gm} {σ : L2.St}
theorem Dt.ok {s : Sl} {d : PyData} (t : Dt s d) {x : V} (h : SlOk A K H (some x) s) : Dm A K H x d := by
  cases t with
  | d => exact h.get
  | f => obtain ⟨a, xs, e, k, t⟩ := h; cases e; exact .lst (fun H' q => SqL.of (k H' q)) t
  | l => obtain ⟨a, xs, e, k, t⟩ := h; cases e; exact .lst (fun H' q => SqL.of (k H' q)) t
theorem DtL.ok : ∀ {ss : List Sl} {ds : List PyData}, DtL ss ds → ∀ {vs : List V}, SlL A K H vs ss → DmL A K H vs ds
  | _, _, .nil, _, .nil => .nil
  | _, _, .cons a b, _, .cons h t => .cons (a.ok h) (b.ok t)
theorem Vw.ok {r : Sl} {d : PyData} (t : Vw G r d) (hs : Hs K G σ H) {x : V} (h : SlOk G.av K H (some x) r) : Dm [] K H x d := by
  cases t with
  | d => exact h.get.less fun _ z => nomatch z
  | f => exact (Dt.f.ok h).less fun _ z => nomatch z
  | l => exact (Dt.l.ok h).less fun _ z => nomatch z
  | c j hj =>
    have e : some x = some _ := h
    cases e
    obtain ⟨xs, h1, h2⟩ := hs.hh.cl _ (List.mem_of_getElem? hj)
    exact Dm.newL (fun z => nomatch z) h1 (h2.less fun _ z => nomatch z)
theorem Fre.later {z : V} {r : Sl} (f : Fre A K H1 H2 z r) (e : ExB [] H H1) : Fre A K H H2 z r := by
  cases r with
  | f ds => obtain ⟨a, xs, h1, h2, h3⟩ := f; exact ⟨a, xs, h1, e.fresh h2, h3⟩
  | _ => trivial
theorem PRA.later {r : Sl} {z : V} (e : ExB [] H H1) (p : PRA A K H1 r z H2) : PRA A K H r z H2 := ⟨e.trans p.1, p.2.1, p.2.2.later e⟩
theorem PR.d {d : PyData} {z : V} (e : ExB [] H H1) (h : Dm G.av K H1 z d) : PR K G H (.d d) z H1 := ⟨e, SlOk.ofD h, trivial⟩
theorem PR.v {z : V} (e : ExB [] H H1) : PR K G H (.v z) z H1 := ⟨e, rfl, trivial⟩
/-- a new list -/
theorem PR.f {a : Addr} {xs : List V} {ds : List PyData} (hh : Hh K G H) (e : ExB [] H H1) (n : H1 a = none) (t : DmL G.av K H1 xs ds) : PR K G H (.f ds) (.ref a) (upd H1 a (.lst xs)) :=
  ⟨e.trans (ExB.new n), ⟨a, xs, rfl, fun H' q => q a _ (hh.new (e.fresh n)) upd_same, t.mono (ExB.new n)⟩, ⟨a, xs, rfl, e.fresh n, upd_same, DmL.to (exb_new n) ds xs t⟩⟩
theorem PR.t {a : Addr} {xs : List V} {ds : List PyData} (hh : Hh K G H) (n : H a = none) (e : ExB [] H H1) (h : H1 a = some (.tup xs)) (t : DmL G.av K H1 xs ds) : PR K G H (.d (.tuple ds)) (.ref a) H1 :=
  PR.d e (Dm.newT (hh.new n) h t)
end
section
variable {X : Cx} {a b c e : Expr} {es : List Expr} {G : Gm} {ra rb rc rz : Sl} {pos p : Pos} {x : Str}
/-! ### names, constants -/
/-- x is the name in the i-th slot -/
structure Nm (X : Cx) (i : Nat) (x : Str) : Prop where
  n : X.N[i]? = some x
  v : Vis X.env.scope x
  d : (x == ("__debug__" : Str)) = false
  c : (x == ("__classdict__" : Str)) = false
theorem er_name {i : Nat} (n : Nm X i x) (h : G.sl[i]? = some (.d d)) : ER X (.Name x pos) G (.d d) := fun σ H hs => by
  obtain ⟨o, h1, y, rfl, h2⟩ := hs.sl.get h
  exact wE_of (pe_var n.n n.v n.d n.c) ⟨y, h1, PR.d .refl h2⟩
theorem er_nameV {i : Nat} (n : Nm X i x) {v : V} (h : G.sl[i]? = some (.v v)) : ER X (.Name x pos) G (.v v) := fun σ H hs => by
  obtain ⟨o, h1, h2⟩ := hs.sl.get h
  have e : o = some v := h2
  subst e
  exact wE_of (pe_var n.n n.v n.d n.c) ⟨v, h1, PR.v .refl⟩
theorem er_nameL {i : Nat} (n : Nm X i x) {ds : List PyData} (h : G.sl[i]? = some (.l ds)) : ER X (.Name x pos) G (.l ds) := fun σ H hs => by
  obtain ⟨o, h1, a, xs, rfl, h2⟩ := hs.sl.get h
  exact wE_of (pe_var n.n n.v n.d n.c) ⟨_, h1, .refl, ⟨a, xs, rfl, h2⟩, trivial⟩
theorem er_nameX {i : Nat} (n : Nm X i x) {C : Addr} (h : G.sl[i]? = some (.x C)) : ER X (.Name x pos) G (.x C) := fun σ H hs => by
  obtain ⟨o, h1, y, rfl, h2⟩ := hs.sl.get h
  exact wE_of (pe_var n.n n.v n.d n.c) ⟨_, h1, .refl, ⟨y, rfl, h2⟩, trivial⟩
theorem er_int {i : Int} {j} : ER X (.Constant (.int i) j pos) G (.d (.int i)) := fun σ H hs => wE_of pe_int (PR.d .refl (.int i))
theorem er_bl {i : Bool} {j} : ER X (.Constant (.bool i) j pos) G (.d (.bool i)) := fun σ H hs => wE_of pe_bl (PR.d .refl (.bl i))
theorem er_str {i : Str} {j} : ER X (.Constant (.str i) j pos) G (.d (.str i)) := fun σ H hs => wE_of pe_str (PR.d .refl (.str i))
theorem er_non {j} : ER X (.Constant .none j pos) G (.d .none) := fun σ H hs => wE_of pe_non (PR.d .refl .non)
/-- a module's constant -/
structure Gc (X : Cx) (x : Str) (v : V) : Prop where
  g : Gl X x
  m : ∃ u, X.mg x = some u ∧ RelV v u
  d : (x == ("__debug__" : Str)) = false
theorem er_gcI {i : Int} (g : Gc X x (.int i)) : ER X (.Name x pos) G (.d (.int i)) := fun σ H hs => by
  obtain ⟨u, h1, h2⟩ := g.m
  exact wE_of (pe_glob g.g h1 h2 g.d) (PR.d .refl (.int i))
theorem er_gcS {i : Str} (g : Gc X x (.str i)) : ER X (.Name x pos) G (.d (.str i)) := fun σ H hs => by
  obtain ⟨u, h1, h2⟩ := g.m
  exact wE_of (pe_glob g.g h1 h2 g.d) (PR.d .refl (.str i))
theorem er_gcV {i : V} (g : Gc X x i) : ER X (.Name x pos) G (.v i) := fun σ H hs => by
  obtain ⟨u, h1, h2⟩ := g.m
  exact wE_of (pe_glob g.g h1 h2 g.d) (PR.v .refl)
/-! ### operators -/
def Op2 (X : Cx) (G : Gm) (f : Value → Value → Sem Value) (ra rb rz : Sl) : Prop := ∃ r : R2, OpR X f r ∧ ∀ σ H x y (Q : VK), Hs X.K G σ H → SlOk G.av X.K H (some x) ra → SlOk G.av X.K H (some y) rb →
  (∀ z H', PR X.K G H rz z H' → Q z H') → r x y H Q
theorem er_bin {op : Operator} (ha : ER X a G ra) (hb : ER X b G rb) (o : Op2 X G (binaryOp op) ra rb rz) : ER X (.BinOp a op b pos) G rz := fun σ H hs => by
  obtain ⟨r, h1, h2⟩ := o
  refine wE_of (pe_op h1 pE pE) ?_
  refine wE_mono (ha σ H hs) fun x H1 p1 => ?_
  refine wE_mono (hb σ H1 (hs.ext p1.1)) fun y H2 p2 => ?_
  exact h2 σ H2 x y _ ((hs.ext p1.1).ext p2.1) (p1.2.1.mono p2.1.all) p2.2.1 fun z H' q => PRA.later (p1.1.trans p2.1) q
theorem er_cmp {op : CmpOp} (ha : ER X a G ra) (hb : ER X b G rb) (o : Op2 X G (compareOp op) ra rb rz) (hm : behindInMarks op b = false := by first | exact nomark _ | rfl) : ER X (.Compare a [op] [b] pos) G rz := fun σ H hs => by
  obtain ⟨r, h1, h2⟩ := o
  refine wE_of (pe_cmpR h1 pE pE hm) ?_
  refine wE_mono (ha σ H hs) fun x H1 p1 => ?_
  refine wE_mono (hb σ H1 (hs.ext p1.1)) fun y H2 p2 => ?_
  exact h2 σ H2 x y _ ((hs.ext p1.1).ext p2.1) (p1.2.1.mono p2.1.all) p2.2.1 fun z H' q => PRA.later (p1.1.trans p2.1) q
theorem tr_cmp {op : CmpOp} {k : Bool} (ha : ER X a G ra) (hb : ER X b G rb) (o : Op2 X G (compareOp op) ra rb (.d (.bool k))) (hm : behindInMarks op b = false := by first | exact nomark _ | rfl) : TR X (.Compare a [op] [b] pos) G k := fun σ H hs => by
  obtain ⟨r, h1, h2⟩ := o
  refine wT_of (pt_cmpR h1 pE pE hm) ?_
  refine wE_mono (ha σ H hs) fun x H1 p1 => ?_
  refine wE_mono (hb σ H1 (hs.ext p1.1)) fun y H2 p2 => ?_
  exact h2 σ H2 x y _ ((hs.ext p1.1).ext p2.1) (p1.2.1.mono p2.1.all) p2.2.1 fun z H' q => ⟨k, q.2.1.bl, rfl, (p1.1.trans p2.1).trans q.1⟩
/-- a op b op' c -/
theorem er_chain {op op' : CmpOp} {k k' : Bool} (ha : ER X a G ra) (hb : ER X b G rb) (o : Op2 X G (compareOp op) ra rb (.d (.bool k))) (hc : k = true → ER X c G rc) (o' : k = true → Op2 X G (compareOp op') rb rc (.d (.bool k')))
    (hm : lastMarks [op, op'] [b, c] = false := by with_unfolding_all rfl) : ER X (.Compare a [op, op'] [b, c] pos) G (.d (.bool (k && k'))) := fun σ H hs => by
  obtain ⟨r, h1, h2⟩ := o
  cases k with
  | false =>
    refine wE_of (pe_chain (r' := fun _ _ _ _ => False) h1 (fun _ _ _ _ _ _ _ _ _ _ _ _ z => z.elim) pE pE pE hm) ?_
    refine wE_mono (ha σ H hs) fun x H1 p1 => ?_
    refine wE_mono (hb σ H1 (hs.ext p1.1)) fun y H2 p2 => ?_
    exact h2 σ H2 x y _ ((hs.ext p1.1).ext p2.1) (p1.2.1.mono p2.1.all) p2.2.1 fun z H' q => ⟨false, q.2.1.bl, iteF (PR.d ((p1.1.trans p2.1).trans q.1) (.bl _))⟩
  | true =>
    obtain ⟨r', h1', h2'⟩ := o' rfl
    refine wE_of (pe_chain h1 h1' pE pE pE hm) ?_
    refine wE_mono (ha σ H hs) fun x H1 p1 => ?_
    refine wE_mono (hb σ H1 (hs.ext p1.1)) fun y H2 p2 => ?_
    refine h2 σ H2 x y _ ((hs.ext p1.1).ext p2.1) (p1.2.1.mono p2.1.all) p2.2.1 fun z H3 q => ⟨true, q.2.1.bl, iteT ?_⟩
    have e3 := (p1.1.trans p2.1).trans q.1
    refine wE_mono (hc rfl σ H3 (hs.ext e3)) fun w' H4 p4 => ?_
    exact h2' σ H4 y w' _ (hs.ext (e3.trans p4.1)) (p2.2.1.mono (q.1.trans p4.1).all) p4.2.1 fun z H' q => PRA.later (e3.trans p4.1) q
theorem tr_chain {op op' : CmpOp} {k k' : Bool} (ha : ER X a G ra) (hb : ER X b G rb) (o : Op2 X G (compareOp op) ra rb (.d (.bool k))) (hc : k = true → ER X c G rc) (o' : k = true → Op2 X G (compareOp op') rb rc (.d (.bool k')))
    (hm : lastMarks [op, op'] [b, c] = false := by with_unfolding_all rfl) : TR X (.Compare a [op, op'] [b, c] pos) G (k && k') := fun σ H hs => by
  obtain ⟨r, h1, h2⟩ := o
  cases k with
  | false =>
    refine wT_of (pt_chain (r' := fun _ _ _ _ => False) h1 (fun _ _ _ _ _ _ _ _ _ _ _ _ z => z.elim) pE pE pE hm) ?_
    refine wE_mono (ha σ H hs) fun x H1 p1 => ?_
    refine wE_mono (hb σ H1 (hs.ext p1.1)) fun y H2 p2 => ?_
    exact h2 σ H2 x y _ ((hs.ext p1.1).ext p2.1) (p1.2.1.mono p2.1.all) p2.2.1 fun z H' q => ⟨false, q.2.1.bl, iteF ⟨false, rfl, rfl, (p1.1.trans p2.1).trans q.1⟩⟩
  | true =>
    obtain ⟨r', h1', h2'⟩ := o' rfl
    refine wT_of (pt_chain h1 h1' pE pE pE hm) ?_
    refine wE_mono (ha σ H hs) fun x H1 p1 => ?_
    refine wE_mono (hb σ H1 (hs.ext p1.1)) fun y H2 p2 => ?_
    refine h2 σ H2 x y _ ((hs.ext p1.1).ext p2.1) (p1.2.1.mono p2.1.all) p2.2.1 fun z H3 q => ⟨true, q.2.1.bl, iteT ?_⟩
    have e3 := (p1.1.trans p2.1).trans q.1
    refine wE_mono (hc rfl σ H3 (hs.ext e3)) fun w' H4 p4 => ?_
    exact h2' σ H4 y w' _ (hs.ext (e3.trans p4.1)) (p2.2.1.mono (q.1.trans p4.1).all) p4.2.1 fun z H' q => ⟨k', q.2.1.bl, by simp, (e3.trans p4.1).trans q.1⟩
/-! ### and, or, not, if -/
variable {rest : List Expr} {k k' : Bool}
theorem TW.tr (h : TW X e G k) : TR X e G k := fun σ H hs => ⟨fun pins s I => (h σ H hs).go _ pins s I⟩
theorem tw_and1 (h : TR X a G k) : TW X (.BoolOp .And [a] pos) G k := fun σ H hs => wW_of (pw_and1 pT) (h σ H hs)
theorem tw_or1 (h : TR X a G k) : TW X (.BoolOp .Or [a] pos) G k := fun σ H hs => wW_of (pw_or1 pT) (h σ H hs)
theorem tw_and (h : TR X a G k) (h' : k = true → TW X (.BoolOp .And (b :: rest) pos) G k') : TW X (.BoolOp .And (a :: b :: rest) pos) G (k && k') := fun σ H hs => by
  refine wW_of (pw_and pT pW) (wT_mono (h σ H hs) fun d H1 ⟨q1, q2⟩ => ?_)
  subst q1
  cases d with
  | false => exact iteF ⟨rfl, q2⟩
  | true => exact iteT (wW_mono (h' rfl σ H1 (hs.ext q2)) fun d' H2 ⟨z1, z2⟩ => ⟨by rw [z1]; simp, q2.trans z2⟩)
theorem tw_or (h : TR X a G k) (h' : k = false → TW X (.BoolOp .Or (b :: rest) pos) G k') : TW X (.BoolOp .Or (a :: b :: rest) pos) G (k || k') := fun σ H hs => by
  refine wW_of (pw_or pT pW) (wT_mono (h σ H hs) fun d H1 ⟨q1, q2⟩ => ?_)
  subst q1
  cases d with
  | true => exact iteT ⟨rfl, q2⟩
  | false => exact iteF (wW_mono (h' rfl σ H1 (hs.ext q2)) fun d' H2 ⟨z1, z2⟩ => ⟨by rw [z1]; simp, q2.trans z2⟩)
theorem tr_not (h : TR X a G k) : TR X (.UnaryOp .Not a pos) G (!k) := fun σ H hs => wT_of (pt_not pT) (wT_mono (h σ H hs) fun d H1 ⟨q1, q2⟩ => ⟨by rw [q1], q2⟩)
theorem er_one {op} (h : ER X a G rz) : ER X (.BoolOp op [a] pos) G rz := fun σ H hs => wE_of (pe_one pE) (h σ H hs)
theorem er_and (h : ER X a G (.d (.bool k))) (h' : k = true → ER X (.BoolOp .And (b :: rest) pos) G (.d (.bool k'))) : ER X (.BoolOp .And (a :: b :: rest) pos) G (.d (.bool (k && k'))) := fun σ H hs => by
  refine wE_of (pe_and pE pE) (wE_mono (h σ H hs) fun d H1 q => ⟨k, q.2.1.bl, ?_⟩)
  cases k with
  | false => exact iteF (PR.d q.1 (.bl _))
  | true => exact iteT (wE_mono (h' rfl σ H1 (hs.ext q.1)) fun d' H2 z => PRA.later q.1 z)
theorem er_or (h : ER X a G (.d (.bool k))) (h' : k = false → ER X (.BoolOp .Or (b :: rest) pos) G (.d (.bool k'))) : ER X (.BoolOp .Or (a :: b :: rest) pos) G (.d (.bool (k || k'))) := fun σ H hs => by
  refine wE_of (pe_or pE pE) (wE_mono (h σ H hs) fun d H1 q => ⟨k, q.2.1.bl, ?_⟩)
  cases k with
  | true => exact iteT (PR.d q.1 (.bl _))
  | false => exact iteF (wE_mono (h' rfl σ H1 (hs.ext q.1)) fun d' H2 z => PRA.later q.1 z)
theorem er_not (h : ER X a G (.d (.bool k))) : ER X (.UnaryOp .Not a pos) G (.d (.bool (!k))) := fun σ H hs =>
  wE_of (pe_not pE) (wE_mono (h σ H hs) fun d H1 q => ⟨k, q.2.1.bl, PR.d q.1 (.bl _)⟩)
theorem er_neg {i : Int} (h : ER X a G (.d (.int i))) : ER X (.UnaryOp .USub a pos) G (.d (.int (-i))) := fun σ H hs =>
  wE_of (pe_un un_neg pE) (wE_mono (h σ H hs) fun d H1 q => ⟨i, q.2.1.int, PR.d q.1 (.int _)⟩)
theorem er_if (h : TR X c G k) (ha : k = true → ER X a G rz) (hb : k = false → ER X b G rz) : ER X (.IfExp c a b pos) G rz := fun σ H hs => by
  refine wE_of (pe_ifExp pT pE pE) (wT_mono (h σ H hs) fun d H1 ⟨q1, q2⟩ => ?_)
  subst q1
  cases d with
  | true => exact iteT (wE_mono (ha rfl σ H1 (hs.ext q2)) fun d' H2 z => PRA.later q2 z)
  | false => exact iteF (wE_mono (hb rfl σ H1 (hs.ext q2)) fun d' H2 z => PRA.later q2 z)
theorem er_ifD {d1 d2 : PyData} (h : TR X c G k) (ha : k = true → ER X a G (.d d1)) (hb : k = false → ER X b G (.d d2)) : ER X (.IfExp c a b pos) G (.d (if k then d1 else d2)) :=
  er_if h (fun e => by subst e; exact ha rfl) (fun e => by subst e; exact hb rfl)
theorem er_ifI {d1 d2 : Int} (h : TR X c G k) (ha : k = true → ER X a G (.d (.int d1))) (hb : k = false → ER X b G (.d (.int d2))) : ER X (.IfExp c a b pos) G (.d (.int (if k then d1 else d2))) :=
  er_if h (fun e => by subst e; exact ha rfl) (fun e => by subst e; exact hb rfl)
/-- a test that is a value's truth -/
def Tru (d : PyData) (k : Bool) : Prop := match d with
  | .none => k = false
  | .bool b => k = b
  | .int i => k = (i != 0)
  | .str y => y.length ≤ sizeLine ∧ k = ((y.length : Int) != 0)
  | .list xs => k = !xs.isEmpty
  | .tuple xs => k = !xs.isEmpty
  | .dict _ => False
theorem tru_of {K : Fg} {H : Hp} {x : V} {d : PyData} (h : Dm [] K H x d) (t : Tru d k) : TruV K x H k := by
  cases h with
  | non => exact t
  | bl b => exact t
  | int i => exact t
  | str y => exact t
  | lst s q =>
    refine Or.inl ⟨_, s _ .refl, ?_⟩
    have e : k = _ := t
    rw [e]
    have := q.length
    cases q <;> rfl
  | tup s q =>
    refine Or.inr (Or.inl ⟨_, s _ .refl, ?_⟩)
    have e : k = _ := t
    rw [e]
    have := q.length
    cases q <;> rfl
theorem tr_val {d : PyData} (h : ER X a G ra) (v : Vw G ra d) (t : Tru d k) (he : ∀ whole, isTrue a X.env whole = (do let v ← whole; standAt a.pos; holding [v] (truthy v)) := by intro _; rfl) : TR X a G k := fun σ H hs => by
  refine wT_of (pt_truth pE he) (wE_mono (h σ H hs) fun z H1 q => ⟨k, ?_, rfl, q.1⟩)
  exact tru_of (v.ok (hs.ext q.1) q.2.1) t
/-! ### arguments, displays -/
theorem ea_nil : EA X [] G [] := fun σ H hs => wA_of pa_nil ⟨.refl, .nil⟩
theorem ea_cons {rs : List Sl} (h : ER X e G ra) (t : EA X es G rs) (hs : starEach (e :: es) X.env = (false, eval e X.env) :: starEach es X.env := by rfl) : EA X (e :: es) G (ra :: rs) := fun σ H hs' => by
  refine wA_of (pa_cons pE pA hs) (wE_mono (h σ H hs') fun x H1 q => wA_mono (t σ H1 (hs'.ext q.1)) fun xs H2 z => ⟨q.1.trans z.1, .cons (q.2.1.mono z.1.all) z.2⟩)
theorem SlL.length {A : List Addr} {K : Fg} {H : Hp} : ∀ {vs : List V} {ss : List Sl}, SlL A K H vs ss → vs.length = ss.length
  | _, _, .nil => rfl
  | _, _, .cons _ b => by simp [SlL.length b]
theorem er_tup {rs : List Sl} {ds : List PyData} {j} (h : EA X es G rs) (t : DtL rs ds) (hl : rs.length ≤ sizeLine := by first | decide | (simp only [List.length_cons, List.length_nil]; decide)) : ER X (.Tuple es j pos) G (.d (.tuple ds)) := fun σ H hs => by
  refine wE_of (pe_tup pA) (wA_mono (h σ H hs) fun vs H1 q => ⟨by rw [q.2.length]; exact hl, fun p hp => ?_⟩)
  have e := ExB.new (A := []) (o := .tup vs) hp
  exact PR.t hs.hh (q.1.fresh hp) (q.1.trans e) upd_same ((t.ok q.2).mono e.all)
theorem er_lst {rs : List Sl} {ds : List PyData} (h : EA X es G rs) (t : DtL rs ds) (hl : rs.length ≤ sizeLine := by first | decide | (simp only [List.length_cons, List.length_nil]; decide)) : ER X (.List es pos) G (.f ds) := fun σ H hs => by
  refine wE_of (pe_lst pA) (wA_mono (h σ H hs) fun vs H1 q => ⟨by rw [q.2.length]; exact hl, fun p hp => ?_⟩)
  exact PR.f hs.hh q.1 hp (t.ok q.2)
/-! ### subscripts, slices -/
def Ix2 (X : Cx) (G : Gm) (ra rb rz : Sl) : Prop := ∃ r : R2, IxR X r ∧ ∀ σ H x y (Q : VK), Hs X.K G σ H → SlOk G.av X.K H (some x) ra → SlOk G.av X.K H (some y) rb →
  (∀ z H', PR X.K G H rz z H' → Q z H') → r x y H Q
theorem er_ix (ha : ER X a G ra) (hb : ER X b G rb) (o : Ix2 X G ra rb rz) (hp : PlainIx b := by exact fun _ _ => rfl) : ER X (.Subscript a b pos) G rz := fun σ H hs => by
  obtain ⟨r, h1, h2⟩ := o
  refine wE_of (pe_ix h1 pE pE hp) ?_
  refine wE_mono (ha σ H hs) fun x H1 p1 => ?_
  refine wE_mono (hb σ H1 (hs.ext p1.1)) fun y H2 p2 => ?_
  exact h2 σ H2 x y _ ((hs.ext p1.1).ext p2.1) (p1.2.1.mono p2.1.all) p2.2.1 fun z H' q => PRA.later (p1.1.trans p2.1) q
def EO (X : Cx) (e : Option Expr) (G : Gm) (o : Option Int) : Prop := match e with
  | none => o = none
  | some e => ∃ i, o = some i ∧ ER X e G (.d (.int i))
def wO (X : Cx) (e : Option Expr) : TO := match e with
  | none => tNoPart
  | some e => tPart (wE X e)
theorem pO {e : Option Expr} : PO X e (wO X e) := match e with
  | none => po_none
  | some _ => po_some pE
theorem eo_run {e : Option Expr} {o : Option Int} (h : EO X e G o) {σ : L2.St} {H : Hp} (hs : Hs X.K G σ H) {Q : Option Int → Hp → Prop} (q : ∀ H', ExB [] H H' → Q o H') : wO X e σ H Q := by
  cases e with
  | none => have e : o = none := h; subst e; exact q H .refl
  | some e =>
    obtain ⟨i, rfl, h⟩ := h
    exact wE_mono (h σ H hs) fun x H1 z => ⟨i, z.2.1.int, q H1 z.1⟩
theorem eo_none : EO X none G none := rfl
theorem eo_some {i : Int} (h : ER X e G (.d (.int i))) : EO X (some e) G (some i) := ⟨i, rfl, h⟩
def Sl3 (X : Cx) (G : Gm) (ra : Sl) (lo hi : Option Int) (rz : Sl) : Prop := ∃ r, SlR X r ∧ ∀ σ H x (Q : VK), Hs X.K G σ H → SlOk G.av X.K H (some x) ra → (∀ z H', PR X.K G H rz z H' → Q z H') → r x lo hi H Q
theorem er_sl {l h : Option Expr} {lo hi : Option Int} {p2} (ha : ER X a G ra) (hl : EO X l G lo) (hh : EO X h G hi) (o : Sl3 X G ra lo hi rz) : ER X (.Subscript a (.Slice l h none p2) pos) G rz := fun σ H hs => by
  obtain ⟨r, h1, h2⟩ := o
  refine wE_of (pe_slice h1 pE pO pO) ?_
  refine wE_mono (ha σ H hs) fun x H1 p1 => ?_
  refine eo_run hl (hs.ext p1.1) fun H2 e2 => ?_
  refine eo_run hh (hs.ext (p1.1.trans e2)) fun H3 e3 => ?_
  exact h2 σ H3 x _ (hs.ext ((p1.1.trans e2).trans e3)) (p1.2.1.mono (e2.trans e3).all) fun z H' q => PRA.later ((p1.1.trans e2).trans e3) q
/-! ### calls -/
def Cb (X : Cx) (G : Gm) (f : Value) (rs : List Sl) (rz : Sl) : Prop := ∃ r, CallR X f r ∧ ∀ σ H vs (Q : VK), Hs X.K G σ H → SlL G.av X.K H vs rs → (∀ z H', PR X.K G H rz z H' → Q z H') → r vs H Q
/-- a built-in name -/
structure Bt (X : Cx) (x : Str) (f : Value) : Prop where
  g : Gl X x
  m : X.mg x = none
  v : bootBuiltins x = some f
  n : x ≠ "__name__"
  d : (x == ("__debug__" : Str)) = false
theorem er_cb {id : String} {rs : List Sl} (t : Bt X x (.builtin id)) (ha : EA X (e :: es) G rs) (o : Cb X G (.builtin id) rs rz)
    (he : starEach (e :: es) X.env = (false, eval e X.env) :: starEach es X.env := by rfl) (hpl : (backTo pos (starEach es X.env)).any (·.1) = false := by rfl) : ER X (.Call (.Name x p) (e :: es) [] pos) G rz := fun σ H hs => by
  obtain ⟨r, h1, h2⟩ := o
  refine wE_of (pe_callB h1 t.g t.m t.v pA t.n t.d he hpl) (wA_mono (ha σ H hs) fun vs H1 q => ?_)
  exact h2 σ H1 vs _ (hs.ext q.1) q.2 fun z H' k => PRA.later q.1 k
theorem er_ct {T : String} {rs : List Sl} (t : Bt X x (.type T)) (ha : EA X (e :: es) G rs) (o : Cb X G (.type T) rs rz)
    (he : starEach (e :: es) X.env = (false, eval e X.env) :: starEach es X.env := by rfl) (hpl : (backTo pos (starEach es X.env)).any (·.1) = false := by rfl) : ER X (.Call (.Name x p) (e :: es) [] pos) G rz := fun σ H hs => by
  obtain ⟨r, h1, h2⟩ := o
  refine wE_of (pe_callTy h1 t.g t.m t.v pA t.n t.d he hpl) (wA_mono (ha σ H hs) fun vs H1 q => ?_)
  exact h2 σ H1 vs _ (hs.ext q.1) q.2 fun z H' k => PRA.later q.1 k
end
end Rd

namespace Rd
open PySem PySem.Spec PyProof.Rows L2
section
variable {X : Cx} {G : Gm} {ra rb rz : Sl} {i j : Int}
/-! ### ints -/
theorem o_i0 {f : Value → Value → Sem Value} {g : Int → Int → Int} (h : OpR X f (rI0 fun i j => .int (g i j))) : Op2 X G f (.d (.int i)) (.d (.int j)) (.d (.int (g i j))) :=
  ⟨_, h, fun _ H _ _ _ _ hx hy k => ⟨i, j, hx.int, hy.int, k _ _ (PR.d .refl (.int _))⟩⟩
theorem o_iC {f : Value → Value → Sem Value} {C : Int → Int → Prop} {g : Int → Int → Int} (h : OpR X f (rI C fun i j => .int (g i j))) (c : C i j) : Op2 X G f (.d (.int i)) (.d (.int j)) (.d (.int (g i j))) :=
  ⟨_, h, fun _ H _ _ _ _ hx hy k => ⟨i, j, hx.int, hy.int, c, k _ _ (PR.d .refl (.int _))⟩⟩
theorem o_b0 {f : Value → Value → Sem Value} {g : Int → Int → Bool} (h : OpR X f (rI0 fun i j => .bl (g i j))) : Op2 X G f (.d (.int i)) (.d (.int j)) (.d (.bool (g i j))) :=
  ⟨_, h, fun _ H _ _ _ _ hx hy k => ⟨i, j, hx.int, hy.int, k _ _ (PR.d .refl (.bl _))⟩⟩
theorem o_add : Op2 X G (binaryOp .Add) (.d (.int i)) (.d (.int j)) (.d (.int (i + j))) := o_i0 op_add
theorem o_sub : Op2 X G (binaryOp .Sub) (.d (.int i)) (.d (.int j)) (.d (.int (i - j))) := o_i0 op_sub
theorem o_mul (c : CMul i j) : Op2 X G (binaryOp .Mult) (.d (.int i)) (.d (.int j)) (.d (.int (i * j))) := o_iC op_mul c
theorem o_div (c : CDiv i j) : Op2 X G (binaryOp .FloorDiv) (.d (.int i)) (.d (.int j)) (.d (.int (i / j))) := o_iC op_fdiv c
theorem o_mod (c : 0 < j) : Op2 X G (binaryOp .Mod) (.d (.int i)) (.d (.int j)) (.d (.int (i % j))) := o_iC (C := fun _ j => 0 < j) op_mod c
theorem o_pow (c : CPow i j) : Op2 X G (binaryOp .Pow) (.d (.int i)) (.d (.int j)) (.d (.int (i ^ j.toNat))) := o_iC (g := fun i j => i ^ j.toNat) op_pow c
theorem o_lt : Op2 X G (compareOp .Lt) (.d (.int i)) (.d (.int j)) (.d (.bool (decide (i < j)))) := o_b0 op_lt
theorem o_le : Op2 X G (compareOp .LtE) (.d (.int i)) (.d (.int j)) (.d (.bool (decide (i ≤ j)))) := o_b0 op_le
theorem o_gt : Op2 X G (compareOp .Gt) (.d (.int i)) (.d (.int j)) (.d (.bool (decide (j < i)))) := o_b0 op_gt
theorem o_ge : Op2 X G (compareOp .GtE) (.d (.int i)) (.d (.int j)) (.d (.bool (decide (j ≤ i)))) := o_b0 op_ge
theorem o_eqI : Op2 X G (compareOp .Eq) (.d (.int i)) (.d (.int j)) (.d (.bool (decide (i = j)))) :=
  ⟨_, op_eq, fun _ H _ _ _ _ hx hy k => by rw [hx.int, hy.int]; exact ⟨rfl, k _ _ (PR.d .refl (by rw [show decide (V.int i = V.int j) = decide (i = j) by simp]; exact .bl _))⟩⟩
theorem o_neI : Op2 X G (compareOp .NotEq) (.d (.int i)) (.d (.int j)) (.d (.bool (!decide (i = j)))) :=
  ⟨_, op_ne, fun _ H _ _ _ _ hx hy k => by rw [hx.int, hy.int]; exact ⟨rfl, k _ _ (PR.d .refl (by rw [show decide (V.int i = V.int j) = decide (i = j) by simp]; exact .bl _))⟩⟩
theorem o_eqS {i j : Str} : Op2 X G (compareOp .Eq) (.d (.str i)) (.d (.str j)) (.d (.bool (decide (i = j)))) :=
  ⟨_, op_eq, fun _ H _ _ _ _ hx hy k => by rw [hx.str, hy.str]; exact ⟨rfl, k _ _ (PR.d .refl (by rw [show decide (V.str i = V.str j) = decide (i = j) by simp]; exact .bl _))⟩⟩
theorem o_neS {i j : Str} : Op2 X G (compareOp .NotEq) (.d (.str i)) (.d (.str j)) (.d (.bool (!decide (i = j)))) :=
  ⟨_, op_ne, fun _ H _ _ _ _ hx hy k => by rw [hx.str, hy.str]; exact ⟨rfl, k _ _ (PR.d .refl (by rw [show decide (V.str i = V.str j) = decide (i = j) by simp]; exact .bl _))⟩⟩
/-! ### == of data -/
mutual
theorem dm_plain {A : List Addr} {K : Fg} {H : Hp} : ∀ (d : PyData) (v : V), Dm A K H v d → d.plain = true
  | .none, _, _ => rfl
  | .bool _, _, _ => rfl
  | .int _, _, _ => rfl
  | .str _, _, _ => rfl
  | .list ds, _, h => by
    cases h with
    | lst s t => unfold PyData.plain; exact dml_plain ds _ t
  | .tuple ds, _, h => by
    cases h with
    | tup s t => unfold PyData.plain; exact dml_plain ds _ t
  | .dict _, _, h => by cases h
theorem dml_plain {A : List Addr} {K : Fg} {H : Hp} : ∀ (ds : List PyData) (vs : List V), DmL A K H vs ds → PyData.plainAll ds = true
  | [], _, _ => rfl
  | d :: ds, _, h => by
    cases h with
    | cons a b => unfold PyData.plainAll; rw [dm_plain d _ a, dml_plain ds _ b]; rfl
end
def Un (X : Cx) : Prop := X.A.units + 64 < cLine
def rEqP (K : Fg) (n : Bool) : R2 := fun x y H Q => ∃ d e, Dp K H x d ∧ Dp K H y e ∧ d.plain = true ∧ e.plain = true ∧ min d.depth e.depth ≤ 60 ∧ Q (.bl (if n then !PyData.eqv d e else PyData.eqv d e)) H
theorem op_eqP (hu : Un X) : OpR X (compareOp .Eq) (rEqP X.K false) := by
  intro pins s σ H x y v u Q I rx ry h
  obtain ⟨d, e, hd, he, sd, se, hm, q⟩ := h
  obtain ⟨as, r1⟩ := Dp.reads I d x v hd rx
  obtain ⟨bs, r2⟩ := Dp.reads I e y u he ry
  exact SeqAt.eq_plain r1 r2 sd se (by unfold Un at hu; omega) ⟨.bl _, H, I, rfl, q⟩
theorem op_neP (hu : Un X) : OpR X (compareOp .NotEq) (rEqP X.K true) := by
  intro pins s σ H x y v u Q I rx ry h
  obtain ⟨d, e, hd, he, sd, se, hm, q⟩ := h
  obtain ⟨as, r1⟩ := Dp.reads I d x v hd rx
  obtain ⟨bs, r2⟩ := Dp.reads I e y u he ry
  exact SeqAt.ne_plain r1 r2 sd se (by unfold Un at hu; omega) ⟨.bl _, H, I, rfl, q⟩
theorem o_eqD {d e : PyData} (hu : Un X) (va : Vw G ra d) (vb : Vw G rb e) (hm : min d.depth e.depth ≤ 60) : Op2 X G (compareOp .Eq) ra rb (.d (.bool (PyData.eqv d e))) :=
  ⟨_, op_eqP hu, fun _ H _ _ _ hs hx hy k => by
    have h1 := va.ok hs hx
    have h2 := vb.ok hs hy
    exact ⟨d, e, h1.dp _ _, h2.dp _ _, dm_plain _ _ h1, dm_plain _ _ h2, hm, k _ _ (PR.d .refl (.bl _))⟩⟩
theorem o_neD {d e : PyData} (hu : Un X) (va : Vw G ra d) (vb : Vw G rb e) (hm : min d.depth e.depth ≤ 60) : Op2 X G (compareOp .NotEq) ra rb (.d (.bool (!PyData.eqv d e))) :=
  ⟨_, op_neP hu, fun _ H _ _ _ hs hx hy k => by
    have h1 := va.ok hs hx
    have h2 := vb.ok hs hy
    exact ⟨d, e, h1.dp _ _, h2.dp _ _, dm_plain _ _ h1, dm_plain _ _ h2, hm, k _ _ (PR.d .refl (.bl _))⟩⟩
/-! ### is None -/
def isNon : Sl → Bool
  | .d .none => true
  | _ => false
theorem non_iff {A : List Addr} {K : Fg} {H : Hp} {x : V} {r : Sl} (hn : r ≠ .no) (hv : ∀ y, r = .v y → ∃ a, y = .ref a) (h : SlOk A K H (some x) r) : decide (x = .non) = isNon r := by
  cases r with
  | no => exact absurd rfl hn
  | v y =>
    have e : some x = some y := h
    cases e
    obtain ⟨a, rfl⟩ := hv _ rfl
    rfl
  | d d => cases h.get <;> rfl
  | f ds => obtain ⟨a, xs, e, _⟩ := h; cases e; rfl
  | l ds => obtain ⟨a, xs, e, _⟩ := h; cases e; rfl
  | x C => obtain ⟨a, e, _⟩ := h; cases e; rfl
theorem o_isN (hn : ra ≠ .no := by exact fun z => nomatch z) (hv : ∀ y, ra = .v y → ∃ a, y = .ref a := by exact fun _ z => nomatch z) : Op2 X G (compareOp .Is) ra (.d .none) (.d (.bool (isNon ra))) :=
  ⟨_, op_isN, fun _ H _ _ _ hs hx hy k => ⟨hy.non, k _ _ (PR.d .refl (by rw [non_iff hn hv hx]; exact .bl _))⟩⟩
theorem o_notN (hn : ra ≠ .no := by exact fun z => nomatch z) (hv : ∀ y, ra = .v y → ∃ a, y = .ref a := by exact fun _ z => nomatch z) : Op2 X G (compareOp .IsNot) ra (.d .none) (.d (.bool (!isNon ra))) :=
  ⟨_, op_notN, fun _ H _ _ _ hs hx hy k => ⟨hy.non, k _ _ (PR.d .refl (by rw [non_iff hn hv hx]; exact .bl _))⟩⟩
/-! ### lists, read -/
/-- a list with the items ds -/
inductive Lv (G : Gm) : Sl → List PyData → Prop
  | d {ds : List PyData} : Lv G (.d (.list ds)) ds
  | f {ds : List PyData} : Lv G (.f ds) ds
  | l {ds : List PyData} : Lv G (.l ds) ds
  | c {a : Addr} {ds : List PyData} (j : Nat) : G.cs[j]? = some (a, .ls ds) → Lv G (.v (.ref a)) ds
theorem Lv.ok {r : Sl} {ds : List PyData} {K : Fg} {σ : L2.St} {H : Hp} (t : Lv G r ds) (hs : Hs K G σ H) {x : V} (h : SlOk G.av K H (some x) r) : ∃ a xs, x = .ref a ∧ SqL K H a xs ∧ DmL G.av K H xs ds := by
  cases t with
  | d => obtain ⟨a, xs, h1, h2, h3⟩ := h.lst; exact ⟨a, xs, h1, h2 _ .refl, h3⟩
  | f => obtain ⟨a, xs, e, k, t⟩ := h; cases e; exact ⟨a, xs, rfl, SqL.of (k _ .refl), t⟩
  | l => obtain ⟨a, xs, e, k, t⟩ := h; cases e; exact ⟨a, xs, rfl, SqL.of (k _ .refl), t⟩
  | c j hj =>
    have e : some x = some _ := h
    cases e
    obtain ⟨xs, h1, h2⟩ := hs.hh.cl _ (List.mem_of_getElem? hj)
    exact ⟨_, xs, rfl, SqL.of h1, h2⟩
/-- .. that is tracked -/
inductive Tv (G : Gm) : Sl → List PyData → Prop
  | f {ds : List PyData} : Tv G (.f ds) ds
  | l {ds : List PyData} : Tv G (.l ds) ds
  | c {a : Addr} {ds : List PyData} (j : Nat) : G.cs[j]? = some (a, .ls ds) → Tv G (.v (.ref a)) ds
theorem Tv.ok {r : Sl} {ds : List PyData} {K : Fg} {σ : L2.St} {H : Hp} (t : Tv G r ds) (hs : Hs K G σ H) {x : V} (h : SlOk G.av K H (some x) r) : ∃ a xs, x = .ref a ∧ H a = some (.lst xs) ∧ DmL G.av K H xs ds := by
  cases t with
  | f => obtain ⟨a, xs, e, k, t⟩ := h; cases e; exact ⟨a, xs, rfl, k _ .refl, t⟩
  | l => obtain ⟨a, xs, e, k, t⟩ := h; cases e; exact ⟨a, xs, rfl, k _ .refl, t⟩
  | c j hj =>
    have e : some x = some _ := h
    cases e
    obtain ⟨xs, h1, h2⟩ := hs.hh.cl _ (List.mem_of_getElem? hj)
    exact ⟨_, xs, rfl, h1, h2⟩
/-! ### subscripts -/
theorem ati_of {A : List Addr} {K : Fg} {H : Hp} {xs : List V} {ds : List PyData} {i : Int} {d : PyData} (t : DmL A K H xs ds) (h : atI ds i = some d) : ∃ v, atI xs i = some v ∧ Dm A K H v d := by
  unfold atI at h ⊢
  rw [t.length]
  cases e : ixN ds.length i with
  | none => rw [e] at h; cases h
  | some j =>
    rw [e] at h
    obtain ⟨x, h1, h2⟩ := t.get (i := j) h
    exact ⟨x, h1, h2⟩
theorem o_ixT {ds : List PyData} {d : PyData} (h : atI ds i = some d) : Ix2 X G (.d (.tuple ds)) (.d (.int i)) (.d d) :=
  ⟨_, ix_tup, fun _ H _ _ _ hs hx hy k => by
    obtain ⟨a, xs, h1, h2, h3⟩ := hx.tup
    obtain ⟨v, h4, h5⟩ := ati_of h3 h
    exact ⟨a, xs, i, v, h1, hy.int, h2 _ .refl, h4, k _ _ (PR.d .refl h5)⟩⟩
theorem o_ixL {ds : List PyData} {d : PyData} (v : Lv G ra ds) (h : atI ds i = some d) : Ix2 X G ra (.d (.int i)) (.d d) :=
  ⟨_, ix_list, fun _ H _ _ _ hs hx hy k => by
    obtain ⟨a, xs, h1, h2, h3⟩ := v.ok hs hx
    obtain ⟨v, h4, h5⟩ := ati_of h3 h
    exact ⟨a, xs, i, v, h1, hy.int, h2, h4, k _ _ (PR.d .refl h5)⟩⟩
/-- the items from lo to hi -/
def cut {α : Type} (xs : List α) (lo hi : Option Int) : List α := (xs.drop (HT.sIx xs.length 0 lo)).take (HT.sIx xs.length xs.length hi - HT.sIx xs.length 0 lo)
theorem cut_dm {A : List Addr} {K : Fg} {H : Hp} {xs : List V} {ds : List PyData} {lo hi : Option Int} (t : DmL A K H xs ds) : DmL A K H (cutV xs lo hi) (cut ds lo hi) := by
  unfold cutV cut
  rw [t.length]
  exact (t.drop _).take _
theorem o_slT {ds : List PyData} {lo hi : Option Int} : Sl3 X G (.d (.tuple ds)) lo hi (.d (.tuple (cut ds lo hi))) :=
  ⟨_, sl_tupA, fun _ H _ _ hs hx k => by
    obtain ⟨a, xs, h1, h2, h3⟩ := hx.tup
    refine ⟨a, xs, h1, h2 _ .refl, fun ⟨e1, e2⟩ => k _ _ (PR.d .refl (.tup h2 ?_)), fun _ p hp => ?_⟩
    · have := cut_dm (lo := lo) (hi := hi) h3
      unfold cutV at this
      rw [e1, e2] at this
      simpa using this
    · have e := ExB.new (A := []) (o := .tup (cutV xs lo hi)) hp
      exact k _ _ (PR.t hs.hh hp e upd_same ((cut_dm h3).mono e.all))⟩
theorem o_slL {ds : List PyData} {lo hi : Option Int} (v : Lv G ra ds) : Sl3 X G ra lo hi (.f (cut ds lo hi)) :=
  ⟨_, sl_list, fun _ H _ _ hs hx k => by
    obtain ⟨a, xs, h1, h2, h3⟩ := v.ok hs hx
    refine ⟨a, xs, h1, h2, fun p hp => ?_⟩
    exact k _ _ (PR.f hs.hh .refl hp (cut_dm h3))⟩
theorem o_slS {z : Str} {lo hi : Option Int} (hz : z.length ≤ sizeLine) : Sl3 X G (.d (.str z)) lo hi (.d (.str (cutS z lo hi))) :=
  ⟨_, sl_str, fun _ H _ _ hs hx k => ⟨z, hx.str, hz, k _ _ (PR.d .refl (.str _))⟩⟩
/-! ### + and * of tuples, lists, texts -/
theorem o_catT {ds es : List PyData} (hz : ds.length + es.length ≤ sizeLine) : Op2 X G (binaryOp .Add) (.d (.tuple ds)) (.d (.tuple es)) (.d (.tuple (ds ++ es))) :=
  ⟨_, op_catA, fun _ H _ _ _ hs hx hy k => by
    obtain ⟨a, xs, h1, h2, h3⟩ := hx.tup
    obtain ⟨b, ys, g1, g2, g3⟩ := hy.tup
    refine ⟨a, b, xs, ys, h1, g1, h2 _ .refl, g2 _ .refl, by rw [h3.length, g3.length]; exact hz, fun e => ?_, fun _ e => ?_, fun _ _ p hp => ?_⟩
    · subst e; cases h3; exact k _ _ (PR.d .refl (.tup g2 g3))
    · subst e; cases g3; rw [List.append_nil] at k; exact k _ _ (PR.d .refl (.tup h2 h3))
    · have e := ExB.new (A := []) (o := .tup (xs ++ ys)) hp
      exact k _ _ (PR.t hs.hh hp e upd_same ((h3.append g3).mono e.all))⟩
theorem o_catL {ds es : List PyData} (va : Tv G ra ds) (vb : Tv G rb es) (hz : ds.length + es.length ≤ sizeLine) : Op2 X G (binaryOp .Add) ra rb (.f (ds ++ es)) :=
  ⟨_, op_cat, fun _ H _ _ _ hs hx hy k => by
    obtain ⟨a, xs, h1, h2, h3⟩ := va.ok hs hx
    obtain ⟨b, ys, g1, g2, g3⟩ := vb.ok hs hy
    refine ⟨a, b, xs, ys, h1, g1, h2, g2, by rw [h3.length, g3.length]; exact hz, fun p hp => ?_⟩
    exact k _ _ (PR.f hs.hh .refl hp (h3.append g3))⟩
theorem dml_rep {A : List Addr} {K : Fg} {H : Hp} {xs : List V} {ds : List PyData} (t : DmL A K H xs ds) : ∀ n : Nat, DmL A K H (List.replicate n xs).flatten (List.replicate n ds).flatten
  | 0 => .nil
  | n + 1 => by
    simp only [List.replicate_succ, List.flatten_cons]
    exact t.append (dml_rep t n)
theorem o_repL {ds : List PyData} (va : Tv G ra ds) (h1 : 0 ≤ i) (h2 : i < 2 ^ 63) (hz : ds.length * i.toNat ≤ sizeLine) : Op2 X G (binaryOp .Mult) ra (.d (.int i)) (.f (List.replicate i.toNat ds).flatten) :=
  ⟨_, op_rep, fun _ H _ _ _ hs hx hy k => by
    obtain ⟨a, xs, e1, e2, e3⟩ := va.ok hs hx
    refine ⟨a, i, xs, e1, hy.int, e2, by omega, h2, by rw [e3.length]; exact hz, fun p hp => ?_⟩
    exact k _ _ (PR.f hs.hh .refl hp (dml_rep e3 _))⟩
theorem o_repT {ds : List PyData} (hne : ds ≠ []) (h1 : 2 ≤ i) (h2 : i ≤ 1000) (hz : ds.length ≤ 1000) : Op2 X G (binaryOp .Mult) (.d (.tuple ds)) (.d (.int i)) (.d (.tuple (List.replicate i.toNat ds).flatten)) :=
  ⟨_, op_repT, fun _ H _ _ _ hs hx hy k => by
    obtain ⟨a, xs, e1, e2, e3⟩ := hx.tup
    refine ⟨a, i, xs, e1, hy.int, e2 _ .refl, fun z => by subst z; cases e3; exact hne rfl, h1, h2, by rw [e3.length]; exact hz, fun p hp => ?_⟩
    have e := ExB.new (A := []) (o := .tup (List.replicate i.toNat xs).flatten) hp
    exact k _ _ (PR.t hs.hh hp e upd_same ((dml_rep e3 _).mono e.all))⟩
theorem o_catS {y z : Str} (hz : y.length + z.length ≤ sizeLine) : Op2 X G (binaryOp .Add) (.d (.str y)) (.d (.str z)) (.d (.str (y ++ z))) :=
  ⟨_, op_add_str, fun _ H _ _ _ hs hx hy k => ⟨y, z, hx.str, hy.str, hz, k _ _ (PR.d .refl (.str _))⟩⟩
/-! ### in -/
def rInP (K : Fg) (n : Bool) : R2 := fun x y H Q => ∃ d ds, Dp K H x d ∧ (Dp K H y (.list ds) ∨ Dp K H y (.tuple ds)) ∧ d.plain = true ∧ PyData.plainAll ds = true ∧ d.depth ≤ 60 ∧ Q (.bl (if n then !(ds.any fun z => PyData.eqv z d) else ds.any fun z => PyData.eqv z d)) H
theorem op_inP (hu : Un X) : OpR X (compareOp .In) (rInP X.K false) := by
  intro pins s σ H x y v u Q I rx ry h
  obtain ⟨d, ds, hd, he, sd, se, hm, q⟩ := h
  obtain ⟨as, r1⟩ := Dp.reads I d x v hd rx
  rcases he with he | he
  · obtain ⟨bs, r2⟩ := Dp.reads I _ y u he ry
    exact SeqAt.in_list_data r2 r1 se sd (by unfold Un at hu; omega) ⟨.bl _, H, I, rfl, q⟩
  · obtain ⟨bs, r2⟩ := Dp.reads I _ y u he ry
    exact SeqAt.in_tuple_data r2 r1 se sd (by unfold Un at hu; omega) ⟨.bl _, H, I, rfl, q⟩
theorem op_notInP (hu : Un X) : OpR X (compareOp .NotIn) (rInP X.K true) := by
  intro pins s σ H x y v u Q I rx ry h
  obtain ⟨d, ds, hd, he, sd, se, hm, q⟩ := h
  obtain ⟨as, r1⟩ := Dp.reads I d x v hd rx
  rcases he with he | he
  · obtain ⟨bs, r2⟩ := Dp.reads I _ y u he ry
    exact SeqAt.notIn_list_data r2 r1 se sd (by unfold Un at hu; omega) ⟨.bl _, H, I, rfl, q⟩
  · obtain ⟨bs, r2⟩ := Dp.reads I _ y u he ry
    exact SeqAt.notIn_tuple_data r2 r1 se sd (by unfold Un at hu; omega) ⟨.bl _, H, I, rfl, q⟩
end
end Rd

namespace Rd
open PySem PySem.Spec PyProof.Rows L2
section
variable {X : Cx} {G : Gm} {ra rb rz : Sl} {i j : Int} {ds : List PyData} {ns : List Int}
theorem SlL.one {A : List Addr} {K : Fg} {H : Hp} {vs : List V} {r : Sl} (h : SlL A K H vs [r]) : ∃ x, vs = [x] ∧ SlOk A K H (some x) r := by
  cases h with
  | cons a b => cases b; exact ⟨_, rfl, a⟩
theorem SlL.two {A : List Addr} {K : Fg} {H : Hp} {vs : List V} {r s : Sl} (h : SlL A K H vs [r, s]) : ∃ x y, vs = [x, y] ∧ SlOk A K H (some x) r ∧ SlOk A K H (some y) s := by
  cases h with
  | cons a b =>
    cases b with
    | cons c d => cases d; exact ⟨_, _, rfl, a, c⟩
theorem b_len (v : Lv G ra ds) : Cb X G (.builtin "len") [ra] (.d (.int ds.length)) :=
  ⟨_, call_len_seq, fun _ H vs _ hs h0 k => by
    obtain ⟨x, rfl, h⟩ := h0.one
    obtain ⟨a, xs, rfl, h1, h2⟩ := v.ok hs h
    exact ⟨a, xs, rfl, .inl h1, k _ _ (PR.d .refl (by rw [h2.length]; exact .int _))⟩⟩
theorem b_lenT : Cb X G (.builtin "len") [.d (.tuple ds)] (.d (.int ds.length)) :=
  ⟨_, call_len_seq, fun _ H vs _ hs h0 k => by
    obtain ⟨x, rfl, h⟩ := h0.one
    obtain ⟨a, xs, rfl, h1, h2⟩ := h.tup
    exact ⟨a, xs, rfl, .inr (h1 _ .refl), k _ _ (PR.d .refl (by rw [h2.length]; exact .int _))⟩⟩
theorem b_lenS {z : Str} (hz : z.length ≤ sizeLine) : Cb X G (.builtin "len") [.d (.str z)] (.d (.int z.length)) :=
  ⟨_, call_len_str, fun _ H vs _ hs h0 k => by
    obtain ⟨x, rfl, h⟩ := h0.one
    exact ⟨z, by rw [h.str], hz, k _ _ (PR.d .refl (.int _))⟩⟩
theorem cr_sumT (hc : X.calm = true) : CallR X (.builtin "sum") (fun vs H Q => ∃ (a : Addr) (ns : List Int), vs = [V.ref a] ∧ SqT X.K H a (ns.map V.int) ∧ Q (.int ns.sum) H) := by
  intro pins s σ H vs us Q I r h
  obtain ⟨a, ns, rfl, hs, q⟩ := h
  obtain ⟨its, rv, hl, _⟩ := I.tuple hs
  rw [Vals.ref1 r]
  have hi := rv.ints
  obtain ⟨xs, hx⟩ := hi.allInts.items
  have hn : numsOf its.toArray.toList = ns := by rw [show its.toArray.toList = its from rfl, hi.numsOf]
  have hl' : s.heap.IsTuple a its.toArray := hl
  rw [hx] at hl' hn
  rw [nums_intItems] at hn
  refine PySem.W.ktm_sumG (I.ok.hd hc) hl' fun h' tk t' hk => ?_
  rw [preSum_eq, List.take_of_length_le (by simp), hn]
  exact ⟨.int _, H, I.kept hk, ⟨_, rfl⟩, q⟩
theorem b_sum (hc : X.calm = true) (v : Lv G ra (ns.map .int)) : Cb X G (.builtin "sum") [ra] (.d (.int ns.sum)) :=
  ⟨_, cr_sum hc, fun _ H vs _ hs h0 k => by
    obtain ⟨x, rfl, h⟩ := h0.one
    obtain ⟨a, xs, rfl, h1, h2⟩ := v.ok hs h
    have e := h2.ints
    subst e
    exact ⟨a, ns, rfl, h1, k _ _ (PR.d .refl (.int _))⟩⟩
theorem b_sumT (hc : X.calm = true) : Cb X G (.builtin "sum") [.d (.tuple (ns.map .int))] (.d (.int ns.sum)) :=
  ⟨_, cr_sumT hc, fun _ H vs _ hs h0 k => by
    obtain ⟨x, rfl, h⟩ := h0.one
    obtain ⟨a, xs, rfl, h1, h2⟩ := h.tup
    have e := h2.ints
    subst e
    exact ⟨a, ns, rfl, h1 _ .refl, k _ _ (PR.d .refl (.int _))⟩⟩
def maxI : List Int → Int
  | [] => 0
  | n :: ns => ns.foldl max n
def minI : List Int → Int
  | [] => 0
  | n :: ns => ns.foldl min n
theorem alike_all_ints (ns : List Int) : PySem.W.AlikeAll (ns.map .int) := ⟨fun x hx y hy => by
    obtain ⟨a, _, rfl⟩ := List.mem_map.mp hx
    obtain ⟨b, _, rfl⟩ := List.mem_map.mp hy
    rfl, fun x hx => by
    obtain ⟨a, _, rfl⟩ := List.mem_map.mp hx
    exact fun z => nomatch z⟩
theorem dpAll_ints {K : Fg} {H : Hp} : ∀ ns : List Int, DpAll K H (ns.map V.int) (ns.map PyData.int)
  | [] => .nil
  | _ :: ns => .cons (.int _) (dpAll_ints ns)
theorem reads_int {h : Heap} {v : Value} {n : Int} {as : List Addr} (r : Reads h v (.int n) as) : ∃ t, v = .int n t := by cases r; exact ⟨_, rfl⟩
theorem cr_maxX (hc : X.calm = true) (hu : Un X) : CallR X (.builtin "max") (fun vs H Q => ∃ (a : Addr) (ns : List Int), vs = [V.ref a] ∧ (SqL X.K H a (ns.map V.int) ∨ SqT X.K H a (ns.map V.int)) ∧ ns ≠ [] ∧ Q (.int (maxI ns)) H) := by
  intro pins s σ H vs us Q I r h
  obtain ⟨a, ns, rfl, hs, hne, q⟩ := h
  rw [Vals.ref1 r]
  cases ns with
  | nil => exact absurd rfl hne
  | cons n ns =>
    have hd : PyData.depthAll (PyData.int n :: ns.map PyData.int) = 0 := PySem.W.depth_ints (n :: ns)
    have fin : ∀ (v : Value) (h' : Heap) (tk : Nat) (bs : List Addr), Reads h' v (PySem.W.maxD (.int n) (ns.map .int)) bs → (∀ b o, s.heap.get? b = some o → h'.get? b = some o) → EP X pins σ Q v { s with heap := h', toks := tk } := fun v h' tk bs rd hk => by
      rw [PySem.W.maxD_ints] at rd
      obtain ⟨t, rfl⟩ := reads_int rd
      exact ⟨.int _, H, I.kept hk, ⟨_, rfl⟩, q⟩
    rcases hs with hs | hs
    · obtain ⟨its, rv, hl, _⟩ := I.list hs
      obtain ⟨as, hr⟩ := Dp.readsAll I _ _ its (dpAll_ints (n :: ns)) rv
      exact PySem.W.max_list_data (I.ok.hd hc) hl.isList hr (alike_all_ints (n :: ns)) (by rw [hd]; unfold Un at hu; omega) fun _ v h' tk bs _ rd hk => fin v h' tk bs rd hk
    · obtain ⟨its, rv, hl, _⟩ := I.tuple hs
      obtain ⟨as, hr⟩ := Dp.readsAll I _ _ its (dpAll_ints (n :: ns)) rv
      exact PySem.W.max_tuple_data (I.ok.hd hc) hl hr (alike_all_ints (n :: ns)) (by rw [hd]; unfold Un at hu; omega) fun _ v h' tk bs _ rd hk => fin v h' tk bs rd hk
theorem cr_minX (hc : X.calm = true) (hu : Un X) : CallR X (.builtin "min") (fun vs H Q => ∃ (a : Addr) (ns : List Int), vs = [V.ref a] ∧ (SqL X.K H a (ns.map V.int) ∨ SqT X.K H a (ns.map V.int)) ∧ ns ≠ [] ∧ Q (.int (minI ns)) H) := by
  intro pins s σ H vs us Q I r h
  obtain ⟨a, ns, rfl, hs, hne, q⟩ := h
  rw [Vals.ref1 r]
  cases ns with
  | nil => exact absurd rfl hne
  | cons n ns =>
    have hd : PyData.depthAll (PyData.int n :: ns.map PyData.int) = 0 := PySem.W.depth_ints (n :: ns)
    have fin : ∀ (v : Value) (h' : Heap) (tk : Nat) (bs : List Addr), Reads h' v (PySem.W.minD (.int n) (ns.map .int)) bs → (∀ b o, s.heap.get? b = some o → h'.get? b = some o) → EP X pins σ Q v { s with heap := h', toks := tk } := fun v h' tk bs rd hk => by
      rw [PySem.W.minD_ints] at rd
      obtain ⟨t, rfl⟩ := reads_int rd
      exact ⟨.int _, H, I.kept hk, ⟨_, rfl⟩, q⟩
    rcases hs with hs | hs
    · obtain ⟨its, rv, hl, _⟩ := I.list hs
      obtain ⟨as, hr⟩ := Dp.readsAll I _ _ its (dpAll_ints (n :: ns)) rv
      exact PySem.W.min_list_data (I.ok.hd hc) hl.isList hr (alike_all_ints (n :: ns)) (by rw [hd]; unfold Un at hu; omega) fun _ v h' tk bs _ rd hk => fin v h' tk bs rd hk
    · obtain ⟨its, rv, hl, _⟩ := I.tuple hs
      obtain ⟨as, hr⟩ := Dp.readsAll I _ _ its (dpAll_ints (n :: ns)) rv
      exact PySem.W.min_tuple_data (I.ok.hd hc) hl hr (alike_all_ints (n :: ns)) (by rw [hd]; unfold Un at hu; omega) fun _ v h' tk bs _ rd hk => fin v h' tk bs rd hk
theorem b_max (hc : X.calm = true) (hu : Un X) (v : Lv G ra (ns.map .int)) (hne : ns ≠ []) : Cb X G (.builtin "max") [ra] (.d (.int (maxI ns))) :=
  ⟨_, cr_maxX hc hu, fun _ H vs _ hs h0 k => by
    obtain ⟨x, rfl, h⟩ := h0.one
    obtain ⟨a, xs, rfl, h1, h2⟩ := v.ok hs h
    have e := h2.ints
    subst e
    exact ⟨a, ns, rfl, .inl h1, hne, k _ _ (PR.d .refl (.int _))⟩⟩
theorem b_maxT (hc : X.calm = true) (hu : Un X) (hne : ns ≠ []) : Cb X G (.builtin "max") [.d (.tuple (ns.map .int))] (.d (.int (maxI ns))) :=
  ⟨_, cr_maxX hc hu, fun _ H vs _ hs h0 k => by
    obtain ⟨x, rfl, h⟩ := h0.one
    obtain ⟨a, xs, rfl, h1, h2⟩ := h.tup
    have e := h2.ints
    subst e
    exact ⟨a, ns, rfl, .inr (h1 _ .refl), hne, k _ _ (PR.d .refl (.int _))⟩⟩
theorem b_min (hc : X.calm = true) (hu : Un X) (v : Lv G ra (ns.map .int)) (hne : ns ≠ []) : Cb X G (.builtin "min") [ra] (.d (.int (minI ns))) :=
  ⟨_, cr_minX hc hu, fun _ H vs _ hs h0 k => by
    obtain ⟨x, rfl, h⟩ := h0.one
    obtain ⟨a, xs, rfl, h1, h2⟩ := v.ok hs h
    have e := h2.ints
    subst e
    exact ⟨a, ns, rfl, .inl h1, hne, k _ _ (PR.d .refl (.int _))⟩⟩
theorem b_minT (hc : X.calm = true) (hu : Un X) (hne : ns ≠ []) : Cb X G (.builtin "min") [.d (.tuple (ns.map .int))] (.d (.int (minI ns))) :=
  ⟨_, cr_minX hc hu, fun _ H vs _ hs h0 k => by
    obtain ⟨x, rfl, h⟩ := h0.one
    obtain ⟨a, xs, rfl, h1, h2⟩ := h.tup
    have e := h2.ints
    subst e
    exact ⟨a, ns, rfl, .inr (h1 _ .refl), hne, k _ _ (PR.d .refl (.int _))⟩⟩
theorem b_max2 (hc : X.calm = true) : Cb X G (.builtin "max") [.d (.int i), .d (.int j)] (.d (.int (max i j))) :=
  ⟨_, call_max2 hc, fun _ H vs _ hs h0 k => by
    obtain ⟨x, y, rfl, h1, h2⟩ := h0.two
    refine ⟨i, j, by rw [h1.int, h2.int], k _ _ (PR.d .refl ?_)⟩
    rw [show (if j > i then j else i) = max i j by omega]
    exact .int _⟩
theorem b_min2 (hc : X.calm = true) : Cb X G (.builtin "min") [.d (.int i), .d (.int j)] (.d (.int (min i j))) :=
  ⟨_, call_min2 hc, fun _ H vs _ hs h0 k => by
    obtain ⟨x, y, rfl, h1, h2⟩ := h0.two
    refine ⟨i, j, by rw [h1.int, h2.int], k _ _ (PR.d .refl ?_)⟩
    rw [show (if j < i then j else i) = min i j by omega]
    exact .int _⟩
theorem b_all {bs : List Bool} (hc : X.calm = true) (v : Lv G ra (bs.map .bool)) : Cb X G (.builtin "all") [ra] (.d (.bool (bs.all id))) :=
  ⟨_, cr_all hc, fun _ H vs _ hs h0 k => by
    obtain ⟨x, rfl, h⟩ := h0.one
    obtain ⟨a, xs, rfl, h1, h2⟩ := v.ok hs h
    have e := h2.bools
    subst e
    exact ⟨a, bs, rfl, h1, k _ _ (PR.d .refl (.bl _))⟩⟩
theorem b_any {bs : List Bool} (hc : X.calm = true) (v : Lv G ra (bs.map .bool)) : Cb X G (.builtin "any") [ra] (.d (.bool (bs.any id))) :=
  ⟨_, cr_any hc, fun _ H vs _ hs h0 k => by
    obtain ⟨x, rfl, h⟩ := h0.one
    obtain ⟨a, xs, rfl, h1, h2⟩ := v.ok hs h
    have e := h2.bools
    subst e
    exact ⟨a, bs, rfl, h1, k _ _ (PR.d .refl (.bl _))⟩⟩
theorem b_tuple (v : Lv G ra ds) : Cb X G (.type "tuple") [ra] (.d (.tuple ds)) :=
  ⟨_, call_tuple_of, fun _ H vs _ hs h0 k => by
    obtain ⟨x, rfl, h⟩ := h0.one
    obtain ⟨a, xs, rfl, h1, h2⟩ := v.ok hs h
    refine ⟨a, xs, rfl, .inl ⟨h1, fun p hp => ?_⟩⟩
    have e := ExB.new (A := []) (o := .tup xs) hp
    exact k _ _ (PR.t hs.hh hp e upd_same (h2.mono e.all))⟩
theorem b_list (v : Lv G ra ds) : Cb X G (.type "list") [ra] (.f ds) :=
  ⟨_, call_list_of, fun _ H vs _ hs h0 k => by
    obtain ⟨x, rfl, h⟩ := h0.one
    obtain ⟨a, xs, rfl, h1, h2⟩ := v.ok hs h
    refine ⟨a, xs, rfl, .inl h1, fun p hp => ?_⟩
    exact k _ _ (PR.f hs.hh .refl hp h2)⟩
theorem b_listT : Cb X G (.type "list") [.d (.tuple ds)] (.f ds) :=
  ⟨_, call_list_of, fun _ H vs _ hs h0 k => by
    obtain ⟨x, rfl, h⟩ := h0.one
    obtain ⟨a, xs, rfl, h1, h2⟩ := h.tup
    refine ⟨a, xs, rfl, .inr (h1 _ .refl), fun p hp => ?_⟩
    exact k _ _ (PR.f hs.hh .refl hp h2)⟩
theorem b_intB {c : Bool} : Cb X G (.type "int") [.d (.bool c)] (.d (.int (if c then 1 else 0))) :=
  ⟨_, call_int1, fun _ H vs _ hs h0 k => by
    obtain ⟨x, rfl, h⟩ := h0.one
    exact .inr ⟨c, by rw [h.bl], k _ _ (PR.d .refl (.int _))⟩⟩
theorem b_abs : Cb X G (.builtin "abs") [.d (.int i)] (.d (.int (if i < 0 then -i else i))) :=
  ⟨_, call_abs, fun _ H vs _ hs h0 k => by
    obtain ⟨x, rfl, h⟩ := h0.one
    exact ⟨i, by rw [h.int], k _ _ (PR.d .refl (.int _))⟩⟩
theorem b_str (hi : i.natAbs.log2 < 1920) : Cb X G (.type "str") [.d (.int i)] (.d (.str (toString i))) :=
  ⟨_, call_str_int, fun _ H vs _ hs h0 k => by
    obtain ⟨x, rfl, h⟩ := h0.one
    exact ⟨i, by rw [h.int], hi, k _ _ (PR.d .refl (.str _))⟩⟩
/-- isinstance(x, T), T a built-in class -/
theorem cr_isa {T : String} {f : PyData → Bool} (rule : ∀ {prog : Program} {w : World} {A : Around} {E : Value → Shared → Prop} {s : Shared} {v : Value} {d : PyData} {as : List Addr} {Q : Value → Shared → Prop}, Reads s.heap v d as → (∀ tk, s.toks ≤ tk → Q (.bool (f d)) { s with toks := tk }) → wpAny (model prog w) A (call (.builtin "isinstance") [v, .type T]) Q E s) :
    CallR X (.builtin "isinstance") (fun vs H Q => ∃ x d, vs = [x, .ty T] ∧ Dp X.K H x d ∧ Q (.bl (f d)) H) := by
  intro pins s σ H vs us Q I r h
  obtain ⟨x, d, rfl, hd, q⟩ := h
  obtain ⟨u, w', rfl, r1, r2⟩ := vals2 r
  cases r2
  obtain ⟨as, rd⟩ := Dp.reads I d x u hd r1
  exact rule rd fun tk _ => ⟨.bl _, H, I.kept (t' := tk) fun _ _ z => z, rfl, q⟩
theorem b_isBool {d : PyData} (v : Vw G ra d) : Cb X G (.builtin "isinstance") [ra, .v (.ty "bool")] (.d (.bool d.isBool)) :=
  ⟨_, cr_isa fun r h => PySem.W.isinstance_bool_data r h, fun _ H vs _ hs h0 k => by
    obtain ⟨x, y, rfl, h1, h2⟩ := h0.two
    have e : some y = some _ := h2
    cases e
    exact ⟨x, d, rfl, (v.ok hs h1).dp _ _, k _ _ (PR.d .refl (.bl _))⟩⟩
theorem b_isInt {d : PyData} (v : Vw G ra d) : Cb X G (.builtin "isinstance") [ra, .v (.ty "int")] (.d (.bool d.isInt)) :=
  ⟨_, cr_isa fun r h => PySem.W.isinstance_int_data r h, fun _ H vs _ hs h0 k => by
    obtain ⟨x, y, rfl, h1, h2⟩ := h0.two
    have e : some y = some _ := h2
    cases e
    exact ⟨x, d, rfl, (v.ok hs h1).dp _ _, k _ _ (PR.d .refl (.bl _))⟩⟩
theorem b_isTuple {d : PyData} (v : Vw G ra d) : Cb X G (.builtin "isinstance") [ra, .v (.ty "tuple")] (.d (.bool d.isTuple)) :=
  ⟨_, cr_isa fun r h => PySem.W.isinstance_tuple_data r h, fun _ H vs _ hs h0 k => by
    obtain ⟨x, y, rfl, h1, h2⟩ := h0.two
    have e : some y = some _ := h2
    cases e
    exact ⟨x, d, rfl, (v.ok hs h1).dp _ _, k _ _ (PR.d .refl (.bl _))⟩⟩
end
end Rd

namespace Rd
open PySem PySem.Spec PyProof.Rows L2
/-! ### promises: by a relation of the arguments' data and the result -/
abbrev Rl := List PyData → Except Addr Sl → Prop
def spR (K : Fg) (R : Rl) : Sp := fun vs H Q E => ∃ A ds r, (∀ b ∈ A, H b ≠ none) ∧ DmL A K H vs ds ∧ R ds r ∧ match r with
  | .ok s => ∀ v H', PRA A K H s v H' → Q v H'
  | .error C => ∀ H', ExB [] H H' → E (.ref C) none H'
/-- x is a def that keeps R -/
structure Fc (X : Cx) (x : Str) (R : Rl) : Prop where
  ex : ∃ (k : Nat) (f : Addr) (fd : FuncData) (ps : List Str), FnOk X.prog X.w X.K X.mg X.base (L2.CX X.prog X.w) k f fd ps (spR X.K R) ∧ Room k X.A ∧ X.mg x = some (.ref f) ∧ PySem.W.keepIn X.K (.ref f) = true ∧ Binds X.K fd ps []
  g : Gl X x
  d : (x == ("__debug__" : Str)) = false
section
variable {X : Cx} {a b c e : Expr} {es : List Expr} {G : Gm} {ra rb rc rz : Sl} {pos p : Pos} {x : Str} {R : Rl} {ds : List PyData} {rs : List Sl}
theorem av_there {K : Fg} {σ : L2.St} {H : Hp} (hs : Hs K G σ H) : ∀ b ∈ G.av, H b ≠ none := fun b hb z => hs.hh.new z hb
theorem er_call (F : Fc X x R) (ha : EA X (e :: es) G rs) (t : DtL rs ds) (h : R ds (.ok rz)) (he : starEach (e :: es) X.env = (false, eval e X.env) :: starEach es X.env := by rfl) (hpl : (backTo pos (starEach es X.env)).any (·.1) = false := by rfl) :
    ER X (.Call (.Name x p) (e :: es) [] pos) G rz := fun σ H hs => by
  obtain ⟨k, f, fd, ps, h1, h2, h3, h4, h5⟩ := F.ex
  refine wE_of (pe_call h1 h2 F.g h3 h4 h5 .nil passL pA F.d he hpl) (wA_mono (ha σ H hs) fun vs H1 q => ?_)
  refine ⟨G.av, ds, .ok rz, av_there (hs.ext q.1), ?_, h, fun v H' z => PRA.later q.1 z⟩
  rw [List.append_nil]
  exact t.ok q.2
theorem er_call0 (F : Fc X x R) (h : R [] (.ok rz)) : ER X (.Call (.Name x p) [] [] pos) G rz := fun σ H hs => by
  obtain ⟨k, f, fd, ps, h1, h2, h3, h4, h5⟩ := F.ex
  exact wE_of (pe_call0 h1 h2 F.g h3 h4 h5 .nil passL F.d) ⟨G.av, [], .ok rz, av_there hs, .nil, h, fun v H' z => z⟩
end
/-! ### code that may change things: what is reached -/
structure Ge (G G' : Gm) (H H' : Hp) : Prop where
  A0 : G'.A0 = G.A0
  B : G'.B = G.B
  sl : G'.sl = G.sl
  ad : G'.ad = G.ad
  ex : ExB G.av H H'
theorem Ge.refl {G : Gm} {H H' : Hp} (e : ExB [] H H') : Ge G G H H' := ⟨rfl, rfl, rfl, rfl, e.all⟩
theorem Ge.av {G G' : Gm} {H H' : Hp} (g : Ge G G' H H') : G'.av = G.av := by unfold Gm.av; rw [g.ad, g.A0]
theorem Ge.trans {G G1 G2 : Gm} {H H1 H2 : Hp} (g : Ge G G1 H H1) (k : Ge G1 G2 H1 H2) : Ge G G2 H H2 := ⟨k.A0.trans g.A0, k.B.trans g.B, k.sl.trans g.sl, k.ad.trans g.ad, g.ex.trans (by rw [← g.av]; exact k.ex)⟩
def PW_ (K : Fg) (G : Gm) (σ : L2.St) (H : Hp) (Q : Sl → Gm → Prop) : VK := fun z H' => ∃ r G', Ge G G' H H' ∧ Hs K G' σ H' ∧ SlOk G'.av K H' (some z) r ∧ Fre G'.av K H H' z r ∧ Q r G'
/-- e leads to Q -/
def WE (X : Cx) (e : Expr) (G : Gm) (Q : Sl → Gm → Prop) : Prop := ∀ σ H, Hs X.K G σ H → wE X e σ H (PW_ X.K G σ H Q)
def WA (X : Cx) (es : List Expr) (G : Gm) (Q : List Sl → Gm → Prop) : Prop := ∀ σ H, Hs X.K G σ H → wA X es σ H (fun vs H' => ∃ rs G', Ge G G' H H' ∧ Hs X.K G' σ H' ∧ SlL G'.av X.K H' vs rs ∧ Q rs G')
def WT (X : Cx) (e : Expr) (G : Gm) (Q : Bool → Gm → Prop) : Prop := ∀ σ H, Hs X.K G σ H → wT X e σ H (fun c H' => ∃ G', Ge G G' H H' ∧ Hs X.K G' σ H' ∧ Q c G')
section
variable {X : Cx} {a b c e : Expr} {es : List Expr} {G : Gm} {ra rb rc rz : Sl} {pos p : Pos} {x : Str} {Q : Sl → Gm → Prop}
theorem we_p (h : ER X e G ra) (q : Q ra G) : WE X e G Q := fun σ H hs => wE_mono (h σ H hs) fun z H' p => ⟨ra, G, .refl p.1, hs.ext p.1, p.2.1, p.2.2, q⟩
theorem wt_p {k : Bool} {Q : Bool → Gm → Prop} (h : TR X e G k) (q : Q k G) : WT X e G Q := fun σ H hs => wT_mono (h σ H hs) fun z H' ⟨p1, p2⟩ => ⟨G, .refl p2, hs.ext p2, by rw [p1]; exact q⟩
theorem wa_p {rs : List Sl} {Q : List Sl → Gm → Prop} (h : EA X es G rs) (q : Q rs G) : WA X es G Q := fun σ H hs => wA_mono (h σ H hs) fun z H' p => ⟨rs, G, .refl p.1, hs.ext p.1, p.2, q⟩
theorem wa_nil {Q : List Sl → Gm → Prop} (q : Q [] G) : WA X [] G Q := wa_p ea_nil q
theorem Fre.exb {A : List Addr} {K : Fg} {H H1 H2 : Hp} {z : V} {r : Sl} (f : Fre A K H1 H2 z r) (e : ExB A H H1) (hn : ∀ a, H1 a = none → a ∉ A) : Fre A K H H2 z r := by
  cases r with
  | f ds =>
    obtain ⟨a, xs, h1, h2, h3⟩ := f
    refine ⟨a, xs, h1, ?_, h3⟩
    cases q : H a with
    | none => rfl
    | some o => rw [e a o (hn a h2) q] at h2; cases h2
  | _ => trivial
theorem we_bin {op : Operator} (h : WE X a G fun ra G1 => WE X b G1 fun rb G2 => ∃ rz, Op2 X G2 (binaryOp op) ra rb rz ∧ Q rz G2) : WE X (.BinOp a op b pos) G Q := fun σ H hs => by
  have key : ∀ pins s, L2.Inv X pins σ H s → wpAny (model X.prog X.w) X.A (eval (.BinOp a op b pos) X.env) (EP X pins σ (PW_ X.K G σ H Q)) X.xe s := by
    intro pins s I
    refine wpAny_BinOp (thn ((h σ H hs).go pins s I) fun v s1 ⟨x, H1, I1, r1, ra, G1, g1, hs1, k1, _, q1⟩ => ?_)
    refine thn ((q1 σ H1 hs1).go pins s1 I1) fun u s2 ⟨y, H2, I2, r2, rb, G2, g2, hs2, k2, _, rz, ⟨r, o1, o2⟩, q2⟩ => ?_
    refine o1 pins s2 σ H2 x y v u _ I2 r1 r2 (o2 σ H2 x y _ hs2 (by rw [g2.av]; exact k1.mono g2.ex) k2 fun z H3 q => ?_)
    have g := (g1.trans g2).trans (Ge.refl q.1)
    exact ⟨rz, G2, g, hs2.ext q.1, q.2.1, q.2.2.exb (by rw [(g1.trans g2).av]; exact (g1.trans g2).ex) (fun a hn => hs2.hh.new hn), q2⟩
  exact ⟨key⟩
theorem wa_cons {Q : List Sl → Gm → Prop} (h : WE X e G fun r G1 => WA X es G1 fun rs G2 => Q (r :: rs) G2) (hs : starEach (e :: es) X.env = (false, eval e X.env) :: starEach es X.env := by rfl) : WA X (e :: es) G Q := fun σ H hs' => by
  refine wA_of (pa_cons pE pA hs) (wE_mono (h σ H hs') fun x H1 ⟨r, G1, g1, hs1, k1, _, q1⟩ => wA_mono (q1 σ H1 hs1) fun xs H2 ⟨rs, G2, g2, hs2, k2, q2⟩ => ?_)
  exact ⟨_, G2, g1.trans g2, hs2, .cons (by rw [g2.av]; exact k1.mono g2.ex) k2, q2⟩
theorem we_tup {j} (h : WA X es G fun rs G1 => ∃ ds, DtL rs ds ∧ rs.length ≤ sizeLine ∧ Q (.d (.tuple ds)) G1) : WE X (.Tuple es j pos) G Q := fun σ H hs => by
  refine wE_of (pe_tup pA) (wA_mono (h σ H hs) fun vs H1 ⟨rs, G1, g1, hs1, k1, ds, t, hl, q1⟩ => ⟨by rw [k1.length]; exact hl, fun p hp => ?_⟩)
  have e := ExB.new (A := []) (o := .tup vs) hp
  have pr := PR.t hs1.hh hp e upd_same ((t.ok k1).mono e.all)
  exact ⟨_, G1, g1.trans (.refl e), hs1.ext e, pr.2.1, trivial, q1⟩
theorem we_lst (h : WA X es G fun rs G1 => ∃ ds, DtL rs ds ∧ rs.length ≤ sizeLine ∧ Q (.f ds) G1) : WE X (.List es pos) G Q := fun σ H hs => by
  refine wE_of (pe_lst pA) (wA_mono (h σ H hs) fun vs H1 ⟨rs, G1, g1, hs1, k1, ds, t, hl, q1⟩ => ⟨by rw [k1.length]; exact hl, fun p hp => ?_⟩)
  have e := ExB.new (A := []) (o := .lst vs) hp
  have pr := PR.f hs1.hh .refl hp (t.ok k1)
  exact ⟨_, G1, g1.trans (.refl e), hs1.ext e, pr.2.1, pr.2.2.exb (by rw [g1.av]; exact g1.ex) (fun a hn => hs1.hh.new hn), q1⟩
/-- a test by a comparison -/
theorem wt_cmp {op : CmpOp} {Q : Bool → Gm → Prop} (h : WE X a G fun ra G1 => WE X b G1 fun rb G2 => ∃ k, Op2 X G2 (compareOp op) ra rb (.d (.bool k)) ∧ Q k G2) (hm : behindInMarks op b = false := by first | exact nomark _ | rfl) : WT X (.Compare a [op] [b] pos) G Q := fun σ H hs => ⟨by
  intro pins s I
  refine wpAny_isTrue_Compare1 (thn ((h σ H hs).go pins s I) fun v s1 ⟨x, H1, I1, r1, ra, G1, g1, hs1, k1, _, q1⟩ => ?_) hm
  refine thn ((q1 σ H1 hs1).go pins s1 I1) fun u s2 ⟨y, H2, I2, r2, rb, G2, g2, hs2, k2, _, k, ⟨r, o1, o2⟩, q2⟩ => ?_
  refine thn (o1 pins s2 σ H2 x y v u _ I2 r1 r2 (o2 σ H2 x y (fun z H3 => PR X.K G2 H2 (.d (.bool k)) z H3) hs2 (by rw [g2.av]; exact k1.mono g2.ex) k2 fun z H3 q => q)) fun d s3 ⟨z, H3, I3, r3, q3⟩ => ?_
  have e := q3.2.1.bl
  subst e
  cases r3
  exact wpAny_truthy_bool ⟨H3, I3, G2, (g1.trans g2).trans (.refl q3.1), hs2.ext q3.1, q2⟩⟩
/-- an item -/
theorem ix_any : IxR X (fun x y H Q => ∃ r, IxR X r ∧ r x y H Q) := fun va sl pins s σ H x y v u Q I rx ry ⟨r, h1, h2⟩ hs => h1 va sl pins s σ H x y v u Q I rx ry h2 hs
theorem we_ix (h : WE X a G fun ra G1 => WE X b G1 fun rb G2 => ∃ rz, Ix2 X G2 ra rb rz ∧ Q rz G2) (hp : PlainIx b := by exact fun _ _ => rfl) : WE X (.Subscript a b pos) G Q := fun σ H hs => by
  refine wE_of (pe_ix ix_any pE pE hp) ?_
  refine wE_mono (h σ H hs) fun x H1 ⟨ra, G1, g1, hs1, k1, _, q1⟩ => ?_
  refine wE_mono (q1 σ H1 hs1) fun y H2 ⟨rb, G2, g2, hs2, k2, _, rz, ⟨r, o1, o2⟩, q2⟩ => ?_
  refine ⟨r, o1, o2 σ H2 x y _ hs2 (by rw [g2.av]; exact k1.mono g2.ex) k2 fun z H3 q => ?_⟩
  have g := (g1.trans g2).trans (Ge.refl q.1)
  exact ⟨rz, G2, g, hs2.ext q.1, q.2.1, q.2.2.exb (by rw [(g1.trans g2).av]; exact (g1.trans g2).ex) (fun a hn => hs2.hh.new hn), q2⟩
/-- a built-in called -/
theorem cb_any {f : Value} : CallR X f (fun vs H Q => ∃ r, CallR X f r ∧ r vs H Q) := fun pins s σ H xs us Q I rx ⟨r, h1, h2⟩ => h1 pins s σ H xs us Q I rx h2
theorem we_cb {id : String} (t : Bt X x (.builtin id)) (h : WA X (e :: es) G fun rs G1 => ∃ rz, Cb X G1 (.builtin id) rs rz ∧ Q rz G1)
    (he : starEach (e :: es) X.env = (false, eval e X.env) :: starEach es X.env := by rfl) (hpl : (backTo pos (starEach es X.env)).any (·.1) = false := by rfl) : WE X (.Call (.Name x p) (e :: es) [] pos) G Q := fun σ H hs => by
  refine wE_of (pe_callB cb_any t.g t.m t.v pA t.n t.d he hpl) (wA_mono (h σ H hs) fun vs H1 ⟨rs, G1, g1, hs1, k1, rz, ⟨r, o1, o2⟩, q1⟩ => ⟨r, o1, o2 σ H1 vs _ hs1 k1 fun z H3 q => ?_⟩)
  exact ⟨rz, G1, g1.trans (Ge.refl q.1), hs1.ext q.1, q.2.1, q.2.2.exb (by rw [g1.av]; exact g1.ex) (fun a hn => hs1.hh.new hn), q1⟩
theorem we_ct {T : String} (t : Bt X x (.type T)) (h : WA X (e :: es) G fun rs G1 => ∃ rz, Cb X G1 (.type T) rs rz ∧ Q rz G1)
    (he : starEach (e :: es) X.env = (false, eval e X.env) :: starEach es X.env := by rfl) (hpl : (backTo pos (starEach es X.env)).any (·.1) = false := by rfl) : WE X (.Call (.Name x p) (e :: es) [] pos) G Q := fun σ H hs => by
  refine wE_of (pe_callTy cb_any t.g t.m t.v pA t.n t.d he hpl) (wA_mono (h σ H hs) fun vs H1 ⟨rs, G1, g1, hs1, k1, rz, ⟨r, o1, o2⟩, q1⟩ => ⟨r, o1, o2 σ H1 vs _ hs1 k1 fun z H3 q => ?_⟩)
  exact ⟨rz, G1, g1.trans (Ge.refl q.1), hs1.ext q.1, q.2.1, q.2.2.exb (by rw [g1.av]; exact g1.ex) (fun a hn => hs1.hh.new hn), q1⟩
/-- a def called, its arguments changing things -/
theorem we_call {R : Rl} (F : Fc X x R) (h : WA X (e :: es) G fun rs G1 => ∃ ds rz, DtL rs ds ∧ R ds (.ok rz) ∧ Q rz G1) (he : starEach (e :: es) X.env = (false, eval e X.env) :: starEach es X.env := by rfl) (hpl : (backTo pos (starEach es X.env)).any (·.1) = false := by rfl) :
    WE X (.Call (.Name x p) (e :: es) [] pos) G Q := fun σ H hs => by
  obtain ⟨k, f, fd, ps, h1, h2, h3, h4, h5⟩ := F.ex
  refine wE_of (pe_call h1 h2 F.g h3 h4 h5 .nil passL pA F.d he hpl) (wA_mono (h σ H hs) fun vs H1 ⟨rs, G1, g1, hs1, k1, ds, rz, t, hR, q1⟩ => ?_)
  refine ⟨G1.av, ds, .ok rz, av_there hs1, ?_, hR, fun v H' q => ?_⟩
  · rw [List.append_nil]; exact t.ok k1
  · exact ⟨rz, G1, g1.trans (Ge.refl q.1), hs1.ext q.1, q.2.1, q.2.2.exb (by rw [g1.av]; exact g1.ex) (fun a hn => hs1.hh.new hn), q1⟩
end
/-! ### statements -/
structure De where
  nx : Gm → Prop
  rt : Sl → Gm → Prop
  bk : Gm → Prop := fun _ => False
  ct : Gm → Prop := fun _ => False
/-- what became of G at H -/
structure Gs (G : Gm) (H : Hp) (G' : Gm) (H' : Hp) : Prop where
  ex : ExB G.av H H'
  av : ∀ a ∈ G'.av, a ∈ G.av ∨ H a = none
theorem Gs.refl {G : Gm} {H : Hp} : Gs G H G H := ⟨.refl, fun _ h => .inl h⟩
theorem Gs.trans {G G1 G2 : Gm} {H H1 H2 : Hp} (g : Gs G H G1 H1) (k : Gs G1 H1 G2 H2) : Gs G H G2 H2 := by
  have back : ∀ a, H1 a = none → a ∈ G.av ∨ H a = none := fun a z => by
    by_cases hm : a ∈ G.av
    · exact .inl hm
    · refine .inr ?_
      cases q : H a with
      | none => rfl
      | some o => rw [g.ex a o hm q] at z; cases z
  refine ⟨fun b o hb e => k.ex b o (fun z => ?_) (g.ex b o hb e), fun a ha => ?_⟩
  · rcases g.av b z with q | q
    · exact hb q
    · rw [q] at e; cases e
  · rcases k.av a ha with q | q
    · exact g.av a q
    · exact back a q
theorem Ge.gs {G G' : Gm} {H H' : Hp} (g : Ge G G' H H') : Gs G H G' H' := ⟨g.ex, fun a h => .inl (by rw [g.av] at h; exact h)⟩
def DE (K : Fg) (G : Gm) (H : Hp) (D : De) : Ends where
  nx := fun σ' H' => ∃ G', Hs K G' σ' H' ∧ Gs G H G' H' ∧ D.nx G'
  rt := fun v H' => ∃ r G', Hh K G' H' ∧ SlOk G'.av K H' (some v) r ∧ Fre G'.av K G'.B H' v r ∧ D.rt r G'
  bk := fun σ' H' => ∃ G', Hs K G' σ' H' ∧ Gs G H G' H' ∧ D.bk G'
  ct := fun σ' H' => ∃ G', Hs K G' σ' H' ∧ Gs G H G' H' ∧ D.ct G'
def WS (X : Cx) (st : Stmt) (G : Gm) (D : De) : Prop := ∀ σ H, Hs X.K G σ H → wS X st (DE X.K G H D) σ H
def WB (X : Cx) (ss : List Stmt) (G : Gm) (D : De) : Prop := ∀ σ H, Hs X.K G σ H → wB X ss (DE X.K G H D) σ H
end Rd

namespace Rd
open PySem PySem.Spec PyProof.Rows L2
/-- x is a local name in the i-th slot, to be stored -/
structure Nl (X : Cx) (i : Nat) (x : Str) : Prop where
  nd : X.N.Nodup
  n : X.N[i]? = some x
  l : Loc X.env.scope x
  f : X.fn x = true ∨ X.env.scope.names.lookup x = some .local
/-- what may leave: raised errors go to Er -/
structure XOk (X : Cx) (Er : Addr → Gm → Prop) : Prop where
  own : PassesOwn (model X.prog X.w) X.A X.env X.xe
  dx : X.stack = X.env :: X.outer ∧ X.env.frame = some X.env.locals ∧ X.ex = []
  tk : ∃ W : WX, Takes X W ∧ ∀ C G σ H, Hs X.K G σ H → Er C G → W (.ref C) none σ H
section
variable {X : Cx} {a b c e : Expr} {es : List Expr} {G : Gm} {ra rb rc rz : Sl} {pos p p2 : Pos} {x : Str} {st : Stmt} {ss tt : List Stmt} {D : De} {k : Bool}
abbrev upS (G : Gm) (i : Nat) (s : Sl) : Gm := { G with sl := G.sl.set i s }
theorem Hs.set {K : Fg} {σ : L2.St} {H : Hp} (h : Hs K G σ H) (i : Nat) {o : Option V} {s : Sl} (k : SlOk G.av K H o s) : Hs K (upS G i s) (σ.set i o) H := ⟨⟨h.hh.ex, h.hh.nd, h.hh.fr, h.hh.out, h.hh.cl⟩, h.sl.set k i⟩
theorem wb_nil (q : D.nx G) : WB X [] G D := fun σ H hs => wB_of pss_nil ⟨G, hs, .refl, q⟩
theorem wb_cons (h : WS X st G { D with nx := fun G1 => WB X ss G1 D }) : WB X (st :: ss) G D := fun σ H hs => by
  refine wB_of (pss_cons pS pB) (wS_mono (h σ H hs) (fun σ1 H1 ⟨G1, h1, g1, q1⟩ => ?_) (fun _ _ z => z) (fun _ _ z => z) (fun _ _ z => z))
  exact wB_mono (q1 σ1 H1 h1) (fun σ2 H2 ⟨G2, h2, g2, q2⟩ => ⟨G2, h2, g1.trans g2, q2⟩) (fun _ _ z => z) (fun σ2 H2 ⟨G2, h2, g2, q2⟩ => ⟨G2, h2, g1.trans g2, q2⟩) (fun σ2 H2 ⟨G2, h2, g2, q2⟩ => ⟨G2, h2, g1.trans g2, q2⟩)
theorem wb_one (h : WS X st G D) : WB X [st] G D := fun σ H hs => wB_of (pss_one pS) (h σ H hs)
theorem wb_mono {D' : De} (h : WB X ss G D) (hn : ∀ G, D.nx G → D'.nx G) (hr : ∀ r G, D.rt r G → D'.rt r G) (hb : ∀ G, D.bk G → D'.bk G) (hc : ∀ G, D.ct G → D'.ct G) : WB X ss G D' := fun σ H hs =>
  wB_mono (h σ H hs) (fun _ _ ⟨G1, h1, g1, q1⟩ => ⟨G1, h1, g1, hn _ q1⟩) (fun _ _ ⟨r, G1, h1, g1, f1, q1⟩ => ⟨r, G1, h1, g1, f1, hr _ _ q1⟩) (fun _ _ ⟨G1, h1, g1, q1⟩ => ⟨G1, h1, g1, hb _ q1⟩) (fun _ _ ⟨G1, h1, g1, q1⟩ => ⟨G1, h1, g1, hc _ q1⟩)
theorem ws_expr (h : WE X e G fun _ G1 => D.nx G1) (hsw : swapsWith e none pos.line X.env = pure false := by rfl) : WS X (.Expr e pos) G D := fun σ H hs =>
  wS_of (ps_expr pE hsw) (wE_mono (h σ H hs) fun z H1 ⟨r, G1, g1, h1, k1, _, q1⟩ => ⟨G1, h1, g1.gs, q1⟩)
theorem ws_pass (q : D.nx G) : WS X (.Pass pos) G D := fun σ H hs => wS_of ps_pass ⟨G, hs, .refl, q⟩
theorem fre_base {K : Fg} {A : List Addr} {B H H' : Hp} {z : V} {r : Sl} (f : Fre A K H H' z r) (e : ∀ b o, B b = some o → H b = some o) : Fre A K B H' z r := by
  cases r with
  | f ds =>
    obtain ⟨a, xs, h1, h2, h3⟩ := f
    refine ⟨a, xs, h1, ?_, h3⟩
    cases q : B a with
    | none => rfl
    | some o => rw [e a o q] at h2; cases h2
  | _ => trivial
theorem ws_ret (h : WE X e G fun r G1 => D.rt r G1) : WS X (.Return (some e) pos) G D := fun σ H hs =>
  wS_of (ps_ret pE) (wE_mono (h σ H hs) fun z H1 ⟨r, G1, g1, h1, k1, f1, q1⟩ => ⟨r, G1, h1.hh, k1, fre_base f1 (by rw [g1.B]; exact hs.hh.ex), q1⟩)
theorem ws_retN (q : D.rt (.d .none) G) : WS X (.Return none pos) G D := fun σ H hs => wS_of ps_retN ⟨_, G, hs.hh, SlOk.ofD .non, trivial, q⟩
theorem ws_if (h : TR X c G k) (ha : k = true → WB X ss G D) (hb : k = false → WB X tt G D) : WS X (.If c ss tt pos) G D := fun σ H hs => by
  refine wS_of (ps_if pT pB pB) (wT_mono (h σ H hs) fun d H1 ⟨q1, q2⟩ => ?_)
  subst q1
  have hs1 := hs.ext q2
  have g1 : Gs G H G H1 := (Ge.refl q2).gs
  cases d with
  | true => exact iteT (wB_mono (ha rfl σ H1 hs1) (fun σ2 H2 ⟨G2, h2, g2, q2⟩ => ⟨G2, h2, g1.trans g2, q2⟩) (fun _ _ z => z) (fun σ2 H2 ⟨G2, h2, g2, q2⟩ => ⟨G2, h2, g1.trans g2, q2⟩) (fun σ2 H2 ⟨G2, h2, g2, q2⟩ => ⟨G2, h2, g1.trans g2, q2⟩))
  | false => exact iteF (wB_mono (hb rfl σ H1 hs1) (fun σ2 H2 ⟨G2, h2, g2, q2⟩ => ⟨G2, h2, g1.trans g2, q2⟩) (fun _ _ z => z) (fun σ2 H2 ⟨G2, h2, g2, q2⟩ => ⟨G2, h2, g1.trans g2, q2⟩) (fun σ2 H2 ⟨G2, h2, g2, q2⟩ => ⟨G2, h2, g1.trans g2, q2⟩))
theorem ws_ifW (h : WT X c G fun k G1 => (k = true → WB X ss G1 D) ∧ (k = false → WB X tt G1 D)) : WS X (.If c ss tt pos) G D := fun σ H hs => by
  refine wS_of (ps_if pT pB pB) (wT_mono (h σ H hs) fun d H1 ⟨G1, e1, hs1, qa, qb⟩ => ?_)
  have g1 : Gs G H G1 H1 := e1.gs
  cases d with
  | true => exact iteT (wB_mono (qa rfl σ H1 hs1) (fun σ2 H2 ⟨G2, h2, g2, q2⟩ => ⟨G2, h2, g1.trans g2, q2⟩) (fun _ _ z => z) (fun σ2 H2 ⟨G2, h2, g2, q2⟩ => ⟨G2, h2, g1.trans g2, q2⟩) (fun σ2 H2 ⟨G2, h2, g2, q2⟩ => ⟨G2, h2, g1.trans g2, q2⟩))
  | false => exact iteF (wB_mono (qb rfl σ H1 hs1) (fun σ2 H2 ⟨G2, h2, g2, q2⟩ => ⟨G2, h2, g1.trans g2, q2⟩) (fun _ _ z => z) (fun σ2 H2 ⟨G2, h2, g2, q2⟩ => ⟨G2, h2, g1.trans g2, q2⟩) (fun σ2 H2 ⟨G2, h2, g2, q2⟩ => ⟨G2, h2, g1.trans g2, q2⟩))
/-! ### assignments -/
/-- what is kept in a slot of what came -/
def kp : Sl → Sl
  | .f ds => .l ds
  | s => s
theorem kp_ok {A : List Addr} {K : Fg} {H : Hp} {o : Option V} {r : Sl} (h : SlOk A K H o r) : SlOk A K H o (kp r) := by
  cases r <;> exact h
theorem ws_set {i : Nat} (n : Nl X i x) (h : WE X e G fun r G1 => D.nx (upS G1 i (kp r))) (hsw : swapsWith e (some (.Name x p2)) pos.line X.env = pure false := by rfl) : WS X (.Assign [.Name x p2] e pos) G D := fun σ H hs => by
  refine wS_of (ps_set n.nd n.n n.l pE hsw n.f) (wE_mono (h σ H hs) fun z H1 ⟨r, G1, g1, h1, k1, f1, q1⟩ => ?_)
  exact ⟨upS G1 i (kp r), h1.set i (kp_ok k1), ⟨g1.ex, fun a ha => .inl (by rw [← g1.av]; exact ha)⟩, q1⟩
/-- a new cell -/
abbrev upC (G : Gm) (i : Nat) (a : Addr) (c : Cl) : Gm := { G with sl := G.sl.set i (.v (.ref a)), cs := (a, c) :: G.cs }
theorem Hs.cell {K : Fg} {σ : L2.St} {H H1 : Hp} {z : V} {ds : List PyData} (h : Hs K G σ H) (e : ExB [] H H1) (f1 : Fre G.av K H H1 z (.f ds)) (i : Nat) :
    ∃ a, z = .ref a ∧ H a = none ∧ Hs K (upC G i a (.ls ds)) (σ.set i (some (.ref a))) H1 := by
  obtain ⟨a, xs, h2, h3, h4, h5⟩ := f1
  have hn := h.hh.new h3
  have to : ∀ H', ExB (a :: G.av) H1 H' → ExB G.av H H' := fun H' q b o nb eb => by
    have ne : b ≠ a := ne_of_none eb h3
    exact q b o (by simp only [List.mem_cons, not_or]; exact ⟨ne, nb⟩) (e b o (fun z => nomatch z) eb)
  refine ⟨a, h2, h3, ⟨⟨fun b o q => e b o (fun z => nomatch z) (h.hh.ex b o q), ?_, ?_, ?_, ?_⟩, ?_⟩⟩
  · exact List.nodup_cons.mpr ⟨fun z => hn (List.mem_append_left _ z), h.hh.nd⟩
  · intro b hb
    rcases List.mem_cons.mp hb with q | q
    · rw [q]
      cases q2 : G.B a with
      | none => rfl
      | some o => rw [h.hh.ex a o q2] at h3; cases h3
    · exact h.hh.fr b q
  · intro b hb
    rcases h.hh.out b hb with q | q
    · exact .inl q
    · exact .inr (List.mem_cons_of_mem _ q)
  · intro p hp
    rcases List.mem_cons.mp hp with q | q
    · subst q
      exact ⟨xs, h4, h5⟩
    · exact (h.hh.cl p q).to to fun o eo => e _ _ (fun z => nomatch z) eo
  · refine SlA.set (show SlOk _ K H1 (some (.ref a)) (.v (.ref a)) from rfl) i (h.sl.to to)
theorem ws_setC {i : Nat} {ds : List PyData} (n : Nl X i x) (h : ER X e G (.f ds)) (q : ∀ a, D.nx (upC G i a (.ls ds))) (hsw : swapsWith e (some (.Name x p2)) pos.line X.env = pure false := by rfl) : WS X (.Assign [.Name x p2] e pos) G D := fun σ H hs => by
  refine wS_of (ps_set n.nd n.n n.l pE hsw n.f) (wE_mono (h σ H hs) fun z H1 p1 => ?_)
  obtain ⟨a, rfl, h3, h4⟩ := hs.cell p1.1 p1.2.2 i
  refine ⟨_, h4, ⟨p1.1.all, fun b hb => ?_⟩, q a⟩
  rcases List.mem_cons.mp hb with r | r
  · subst r; exact .inr h3
  · exact .inl r
/-- another view of the state -/
theorem wb_weak {G' : Gm} (w : ∀ K σ H, Hs K G σ H → Hs K G' σ H ∧ Gs G H G' H) (h : WB X ss G' D) : WB X ss G D := fun σ H hs => by
  obtain ⟨h1, g1⟩ := w _ σ H hs
  exact wB_mono (h σ H h1) (fun σ2 H2 ⟨G2, h2, g2, q2⟩ => ⟨G2, h2, g1.trans g2, q2⟩) (fun _ _ z => z) (fun σ2 H2 ⟨G2, h2, g2, q2⟩ => ⟨G2, h2, g1.trans g2, q2⟩) (fun σ2 H2 ⟨G2, h2, g2, q2⟩ => ⟨G2, h2, g1.trans g2, q2⟩)
/-- the first cell is changed no more -/
abbrev frz0 (G : Gm) (i : Nat) (ds : List PyData) : Gm := { G with sl := G.sl.set i (.l ds), cs := G.cs.tail }
theorem Hs.frz0 {K : Fg} {σ : L2.St} {H : Hp} {i : Nat} {a : Addr} {ds : List PyData} {cs : List (Addr × Cl)} (h : Hs K G σ H) (hc : G.cs = (a, .ls ds) :: cs) (hi : G.sl[i]? = some (.v (.ref a))) (ho : a ∉ G.A0) : Hs K (frz0 G i ds) σ H := by
  obtain ⟨A0, B, sl, cs'⟩ := G
  simp only at hc hi ho
  subst hc
  have sub : ∀ b, b ∈ (Rd.frz0 ⟨A0, B, sl, (a, .ls ds) :: cs⟩ i ds).av → b ∈ Gm.av ⟨A0, B, sl, (a, .ls ds) :: cs⟩ := fun b hb => List.mem_cons_of_mem _ hb
  have to : ∀ H', ExB (Rd.frz0 ⟨A0, B, sl, (a, .ls ds) :: cs⟩ i ds).av H H' → ExB (Gm.av ⟨A0, B, sl, (a, .ls ds) :: cs⟩) H H' := fun H' q => q.sub sub
  have nd := List.nodup_cons.mp h.hh.nd
  obtain ⟨xs, h1, h2⟩ := h.hh.cl (a, .ls ds) List.mem_cons_self
  refine ⟨⟨h.hh.ex, nd.2, fun b hb => h.hh.fr b (List.mem_cons_of_mem _ hb), fun b hb => ?_, fun p hp => (h.hh.cl p (List.mem_cons_of_mem _ hp)).to to fun _ q => q⟩, ?_⟩
  · rcases h.hh.out b hb with q | q
    · exact .inl q
    · rcases List.mem_cons.mp q with r | r
      · subst r; exact absurd hb ho
      · exact .inr r
  · obtain ⟨o, e1, e2⟩ := h.sl.get hi
    have e3 : o = some (.ref a) := e2
    subst e3
    have e4 : σ.set i (some (.ref a)) = σ := by
      apply List.ext_getElem?
      intro j
      by_cases hj : i = j
      · subst hj
        rw [List.getElem?_set_self (List.getElem?_eq_some_iff.mp e1).1, e1]
      · rw [List.getElem?_set_ne hj]
    rw [← e4]
    have hk : SlOk (Rd.frz0 ⟨A0, B, sl, (a, .ls ds) :: cs⟩ i ds).av K H (some (.ref a)) (.l ds) := ⟨a, xs, rfl, fun H' q => q a _ (fun z => (List.mem_append.mp z).elim nd.1 ho) h1, DmL.to to ds xs h2⟩
    exact SlA.set hk i (h.sl.to to)
theorem wb_frz0 {i : Nat} {a : Addr} {ds : List PyData} {cs : List (Addr × Cl)} (hc : G.cs = (a, .ls ds) :: cs) (hi : G.sl[i]? = some (.v (.ref a))) (ho : a ∉ G.A0) (h : WB X ss (frz0 G i ds) D) : WB X ss G D :=
  wb_weak (fun K σ H hs => ⟨hs.frz0 hc hi ho, .refl, fun b hb => .inl (by obtain ⟨A0, B, sl, cs'⟩ := G; simp only at hc; subst hc; exact List.mem_cons_of_mem _ hb)⟩) h
/-! ### the cell's list, changed -/
abbrev upL (G : Gm) (j : Nat) (a : Addr) (ds : List PyData) : Gm := { G with cs := G.cs.set j (a, .ls ds) }
theorem upL_ad {G : Gm} {j : Nat} {a : Addr} {c : Cl} {ds : List PyData} (hj : G.cs[j]? = some (a, c)) : (upL G j a ds).ad = G.ad := by
  show (G.cs.set j (a, .ls ds)).map (·.1) = G.cs.map (·.1)
  rw [List.map_set]
  apply List.ext_getElem?
  intro i
  by_cases h : j = i
  · subst h
    have hl : j < (G.cs.map (·.1)).length := by rw [List.length_map]; exact (List.getElem?_eq_some_iff.mp hj).1
    rw [List.getElem?_set_self hl, List.getElem?_map, hj]; rfl
  · rw [List.getElem?_set_ne h]
theorem Hs.put {K : Fg} {σ : L2.St} {H : Hp} {j : Nat} {a : Addr} {c : Cl} {xs : List V} {ds : List PyData} (h : Hs K G σ H) (hj : G.cs[j]? = some (a, c)) (t : DmL G.av K H xs ds) : Hs K (upL G j a ds) σ (upd H a (.lst xs)) := by
  have hm : a ∈ G.ad := List.mem_map.mpr ⟨_, List.mem_of_getElem? hj, rfl⟩
  have ea : (upL G j a ds).ad = G.ad := upL_ad hj
  have ev : (upL G j a ds).av = G.av := by unfold Gm.av; rw [ea]
  have e : ExB G.av H (upd H a (.lst xs)) := ExB.at_ (List.mem_append_left _ hm)
  refine ⟨⟨fun b o q => ?_, by rw [ea]; exact h.hh.nd, fun b hb => h.hh.fr b (by rw [← ea]; exact hb), fun b hb => by rw [ea]; exact h.hh.out b hb, fun p hp => ?_⟩, ?_⟩
  · have : b ≠ a := fun z => by subst z; have := h.hh.fr b hm; have q' : G.B b = some o := q; rw [this] at q'; cases q'
    rw [upd_ne this]; exact h.hh.ex b o q
  · rw [ev]
    obtain ⟨n, en⟩ := List.mem_iff_getElem?.mp hp
    by_cases hjn : j = n
    · subst hjn
      have hl := (List.getElem?_eq_some_iff.mp hj).1
      have en' : (G.cs.set j (a, Cl.ls ds))[j]? = some p := en
      rw [List.getElem?_set_self hl] at en'
      cases en'
      exact ⟨xs, upd_same, t.mono e⟩
    · have en' : (G.cs.set j (a, Cl.ls ds))[n]? = some p := en
      rw [List.getElem?_set_ne hjn] at en'
      have hne : p.1 ≠ a := fun z => by
        have h1 : (G.cs.map (·.1))[n]? = some a := by rw [List.getElem?_map, en']; simp [z]
        have h2 : (G.cs.map (·.1))[j]? = some a := by rw [List.getElem?_map, hj]; rfl
        exact hjn (L2.nd_ix h.hh.nd h2 h1)
      exact (h.hh.cl p (List.mem_of_getElem? en')).to (fun _ q => e.trans q) fun o eo => by rw [upd_ne hne]; exact eo
  · rw [ev]; exact h.sl.to fun _ q => e.trans q
theorem gs_put {j : Nat} {a : Addr} {c : Cl} {xs : List V} {ds : List PyData} {H : Hp} (hj : G.cs[j]? = some (a, c)) : Gs G H (upL G j a ds) (upd H a (.lst xs)) := by
  have hm : a ∈ G.ad := List.mem_map.mpr ⟨_, List.mem_of_getElem? hj, rfl⟩
  exact ⟨ExB.at_ (List.mem_append_left _ hm), fun b hb => .inl (by unfold Gm.av at hb ⊢; rw [upL_ad hj] at hb; exact hb)⟩
theorem ixn_data {A : List Addr} {K : Fg} {H : Hp} {xs : List V} {ds : List PyData} (t : DmL A K H xs ds) : xs.length = ds.length := t.length
/-- o[i] = e, o a cell -/
theorem ws_store {o ix : Expr} {i : Int} {d : PyData} {a' : Addr} {ds : List PyData} {m j : Nat} (he : ER X e G ra) (td : Dt ra d) (ho : ER X o G (.v (.ref a'))) (hi : ER X ix G (.d (.int i))) (hj : G.cs[j]? = some (a', .ls ds)) (hm : ixN ds.length i = some m) (q : D.nx (upL G j a' (ds.set m d)))
    (ha : ∀ v, assign (.Subscript o ix p2) X.env v = (do
      let ov ← holding [v] (eval o X.env)
      let iv ← holding [v, ov] (eval ix X.env)
      standAt p2
      holding [v, ov, iv] (setItem ov iv v)
      release [v, ov, iv] []) := by intro _; rfl) (hsw : swapsWithSole [.Subscript o ix p2] e pos.line X.env = pure false := by rfl) (hw : swappedStores [.Subscript o ix p2] e X.env = pure none := by rfl)
    (h1 : (assignEach [.Subscript o ix p2] X.env).map (·.2) = [assign (.Subscript o ix p2) X.env] := by rfl) : WS X (.Assign [.Subscript o ix p2] e pos) G D := fun σ H hs => by
  refine wS_of (ps_asg pE (pg_sub pE pE set_list ha) hsw hw h1) (wE_mono (he σ H hs) fun z H1 p1 => ?_)
  refine wE_mono (ho σ H1 (hs.ext p1.1)) fun y H2 p2 => wE_mono (hi σ H2 ((hs.ext p1.1).ext p2.1)) fun w H3 p3 => ?_
  have hs3 := ((hs.ext p1.1).ext p2.1).ext p3.1
  have e2 : some y = some _ := p2.2.1
  cases e2
  obtain ⟨xs, h4, h5⟩ := hs3.hh.cl _ (List.mem_of_getElem? hj)
  refine ⟨a', xs, i, m, rfl, p3.2.1.int, h4, by rw [h5.length]; exact hm, upL G j a' (ds.set m d), hs3.put hj (h5.set (td.ok (p1.2.1.mono (p2.1.trans p3.1).all)) m), ?_, q⟩
  exact (Ge.refl ((p1.1.trans p2.1).trans p3.1)).gs.trans (gs_put hj)
end
end Rd

namespace Rd
open PySem PySem.Spec PyProof.Rows L2
section
variable {X : Cx} {a b c e : Expr} {es : List Expr} {G : Gm} {ra rb rc rz : Sl} {pos p p2 : Pos} {x : Str} {st : Stmt} {ss tt : List Stmt} {D : De} {k : Bool}
theorem get_list : PGet X (fun o i H Q => ∃ (p : Addr) (xs : List V) (j : Nat) (v : V), o = .ref p ∧ i = .int (j : Nat) ∧ SqL X.K H p xs ∧ xs[j]? = some v ∧ Q v H) := by
  intro pins s σ H o i ov iv Q I ro ri h
  obtain ⟨p, xs, j, v, rfl, rfl, hl, hv, q⟩ := h
  cases ro
  obtain ⟨t, rfl⟩ := ri
  obtain ⟨its, rv, pl, hz⟩ := I.list hl
  obtain ⟨u, hu, ru⟩ := rv.get hv
  have hj : j < xs.length := (List.getElem?_eq_some_iff.mp hv).1
  have hn := line63
  exact wpAny_getItem_list pl.isList (by omega) (by omega) (by simpa using hu) ⟨v, H, I, ru, q⟩
/-- o[i] op= e, o a cell of ints -/
theorem ws_augS {o ix : Expr} {op : Operator} {f : Int → Int → Int} {a' : Addr} {j : Nat} (hp : PIp X op (ipI f)) (ho : ER X o G (.v (.ref a')))
    (h : WE X ix G fun r G1 => ∃ (m : Nat) (ds : List PyData) (u v : Int), r = .d (.int (m : Nat)) ∧ G1.cs[j]? = some (a', .ls ds) ∧ ds[m]? = some (.int u) ∧ ER X e G1 (.d (.int v)) ∧ D.nx (upL G1 j a' (ds.set m (.int (f u v)))))
    (ha : ∀ ov iv new, augStore ix ov iv new = (do holding [new, ov, iv] (setItem ov iv new); release [new, ov, iv] []; pure .next) := by intros; rfl) : WS X (.AugAssign (.Subscript o ix p2) op e pos) G D := fun σ H hs => by
  refine wS_of (ps_augS pE pE get_list pE hp set_list ha) (wE_mono (ho σ H hs) fun y H1 p1 => ?_)
  have e2 : some y = some _ := p1.2.1
  cases e2
  refine wE_mono (h σ H1 (hs.ext p1.1)) fun w H2 ⟨r, G1, g1, hs1, k1, _, m, ds, u, v, er, hj, hm, he, q⟩ => ?_
  subst er
  obtain ⟨xs, h4, h5⟩ := hs1.hh.cl _ (List.mem_of_getElem? hj)
  obtain ⟨w', h6, h7⟩ := h5.get hm
  have e7 : w' = .int u := by cases h7; rfl
  subst e7
  refine ⟨a', xs, m, .int u, rfl, k1.int, SqL.of h4, h6, ?_⟩
  refine wE_mono (he σ H2 hs1) fun z H3 p3 => ⟨u, v, rfl, p3.2.1.int, ?_⟩
  have hs3 := hs1.ext p3.1
  obtain ⟨xs3, h8, h9⟩ := hs3.hh.cl _ (List.mem_of_getElem? hj)
  have hl : m < ds.length := (List.getElem?_eq_some_iff.mp hm).1
  refine ⟨a', xs3, m, m, rfl, k1.int, h8, ?_, upL G1 j a' (ds.set m (.int (f u v))), hs3.put hj (h9.set (.int _) m), ?_, q⟩
  · rw [h9.length]; unfold ixN; simp [hl]
  · exact ((Ge.refl p1.1).gs.trans g1.gs).trans ((Ge.refl p3.1).gs.trans (gs_put hj))
/-- o.append(e), o a cell -/
theorem ws_append {o : Expr} {a' : Addr} {j : Nat} {apos cpos : Pos} (ho : ER X o G (.v (.ref a'))) (hj0 : ∃ ds, G.cs[j]? = some (a', .ls ds))
    (h : WE X e G fun r G1 => ∃ ds d, Dt r d ∧ G1.cs[j]? = some (a', .ls ds) ∧ ds.length < sizeLine ∧ D.nx (upL G1 j a' (ds ++ [d])))
    (hbase : attributeBase o "append" X.env (eval o X.env) = eval o X.env := by rfl)
    (hfew : ((backTo cpos (starEach [e] X.env)).all (fun x => !x.1) && (backToKw cpos (keywordEach [] X.env)).all (fun x => x.1.isSome) && decide ([e].length + ([] : List Keyword).length + (if ([] : List Keyword).isEmpty then 0 else 1) < 30)) = true := by rfl)
    (hline : (apos.endLine == cpos.line) = true := by rfl) (hst : starEach [e] X.env = (false, eval e X.env) :: starEach [] X.env := by rfl) (hplain : (backTo cpos (starEach [] X.env)).any (·.1) = false := by rfl)
    (hsw : swapsWith (.Call (.Attribute o "append" apos) [e] [] cpos) none pos.line X.env = pure false := by rfl) : WS X (.Expr (.Call (.Attribute o "append" apos) [e] [] cpos) pos) G D := fun σ H hs => by
  refine wS_of (ps_expr (pe_bm PySem.F.plainAttrs_list PySem.F.slot_list_append PySem.F.type_list_append mt_append pE (pa_cons pE pa_nil hst) hbase hfew hline hst hplain) hsw) ?_
  refine wE_mono (ho σ H hs) fun y H1 p1 => ?_
  have e2 : some y = some _ := p1.2.1
  cases e2
  have hs1 := hs.ext p1.1
  obtain ⟨ds0, hj1⟩ := hj0
  obtain ⟨xs0, h0, _⟩ := hs1.hh.cl _ (List.mem_of_getElem? hj1)
  refine ⟨Or.inl ⟨rfl, _, SqL.of h0⟩, wE_mono (h σ H1 hs1) fun w H2 ⟨r, G1, g1, hs2, k1, _, ds, d, td, hj, hl, q⟩ => ?_⟩
  obtain ⟨xs, h4, h5⟩ := hs2.hh.cl _ (List.mem_of_getElem? hj)
  refine ⟨a', xs, w, rfl, rfl, h4, by rw [h5.length]; exact hl, upL G1 j a' (ds ++ [d]), hs2.put hj (h5.append (.cons (td.ok k1) .nil)), ?_, q⟩
  exact ((Ge.refl p1.1).gs.trans g1.gs).trans (gs_put hj)
/-- o.extend(e), o a cell -/
theorem ws_extend {o : Expr} {a' : Addr} {j : Nat} {ds es : List PyData} {apos cpos : Pos} (ho : ER X o G (.v (.ref a'))) (hj : G.cs[j]? = some (a', .ls ds)) (h : ER X e G rb) (tv : Tv G rb es) (hl : ds.length + es.length ≤ sizeLine) (q : D.nx (upL G j a' (ds ++ es)))
    (hbase : attributeBase o "extend" X.env (eval o X.env) = eval o X.env := by rfl)
    (hfew : ((backTo cpos (starEach [e] X.env)).all (fun x => !x.1) && (backToKw cpos (keywordEach [] X.env)).all (fun x => x.1.isSome) && decide ([e].length + ([] : List Keyword).length + (if ([] : List Keyword).isEmpty then 0 else 1) < 30)) = true := by rfl)
    (hline : (apos.endLine == cpos.line) = true := by rfl) (hst : starEach [e] X.env = (false, eval e X.env) :: starEach [] X.env := by rfl) (hplain : (backTo cpos (starEach [] X.env)).any (·.1) = false := by rfl)
    (hsw : swapsWith (.Call (.Attribute o "extend" apos) [e] [] cpos) none pos.line X.env = pure false := by rfl) : WS X (.Expr (.Call (.Attribute o "extend" apos) [e] [] cpos) pos) G D := fun σ H hs => by
  refine wS_of (ps_expr (pe_bm PySem.F.plainAttrs_list PySem.F.slot_list_extend PySem.F.type_list_extend mt_extend pE (pa_cons pE pa_nil hst) hbase hfew hline hst hplain) hsw) ?_
  refine wE_mono (ho σ H hs) fun y H1 p1 => ?_
  have e2 : some y = some _ := p1.2.1
  cases e2
  have hs1 := hs.ext p1.1
  obtain ⟨xs0, h0, _⟩ := hs1.hh.cl _ (List.mem_of_getElem? hj)
  refine ⟨Or.inl ⟨rfl, _, SqL.of h0⟩, wE_mono (h σ H1 hs1) fun w H2 p2 => ?_⟩
  have hs2 := hs1.ext p2.1
  obtain ⟨b', ys, rfl, g2, g3⟩ := tv.ok hs2 p2.2.1
  obtain ⟨xs, h4, h5⟩ := hs2.hh.cl _ (List.mem_of_getElem? hj)
  refine ⟨a', b', xs, ys, rfl, rfl, h4, g2, by rw [h5.length, g3.length]; exact hl, upL G j a' (ds ++ es), hs2.put hj (h5.append g3), ?_, q⟩
  exact (Ge.refl (p1.1.trans p2.1)).gs.trans (gs_put hj)
/-! ### targets -/
def wG (X : Cx) (tg : Expr) : TG := fun v σ H Q => ∀ (pins : List (Addr × Obj)) (s : Shared) (u : Value), L2.Inv X pins σ H s → RelV v u → wpAny (model X.prog X.w) X.A (assign tg X.env u) (fun _ s' => ∃ σ' H', L2.Inv X pins σ' H' s' ∧ Q σ' H') X.xe s
theorem pG {tg : Expr} : PG X tg (wG X tg) := ⟨fun pins s _ _ _ u _ I r h => h pins s u I r⟩
theorem wG_of {tg : Expr} {t : TG} {v : V} {σ : L2.St} {H : Hp} {Q : L2.St → Hp → Prop} (h : PG X tg t) (q : t v σ H Q) : wG X tg v σ H Q := fun pins s u I r => h.run pins s σ H v u Q I r q
/-- the target takes s: G becomes G' -/
def Tg (X : Cx) (tg : Expr) (s : Sl) (G G' : Gm) : Prop := (∃ sl, G' = { G with sl := sl }) ∧ ∀ σ H v (Q : L2.St → Hp → Prop), Hs X.K G σ H → SlOk G.av X.K H (some v) s → (∀ σ', Hs X.K G' σ' H → Q σ' H) → wG X tg v σ H Q
theorem tg_name {i : Nat} {s : Sl} (n : Nl X i x) : Tg X (.Name x pos) s G (upS G i s) := ⟨⟨_, rfl⟩, fun σ H v Q hs hd q => wG_of (pg_name n.nd n.n n.l n.f) (q _ (hs.set i hd))⟩
theorem tg_tup2 {t1 t2 : Expr} {d1 d2 : PyData} {G1 G2 : Gm} {kt : Nat} (hc : X.calm = true) (h1 : Tg X t1 (.d d1) G G1) (h2 : Tg X t2 (.d d2) G1 G2)
    (e1 : (assignEach [t1, t2] X.env).map (·.2) = assign t1 X.env :: (assignEach [t2] X.env).map (·.2) := by rfl) (e2 : (assignEach [t2] X.env).map (·.2) = assign t2 X.env :: (assignEach [] X.env).map (·.2) := by rfl)
    (hn : (assignEach [t1, t2] X.env).length = 2 := by rfl) (hst : (assignEach [t1, t2] X.env).findIdx? (·.1) = none := by rfl) : Tg X (.Tuple [t1, t2] kt pos) (.d (.tuple [d1, d2])) G G2 := by
  obtain ⟨⟨s1, rfl⟩, h1⟩ := h1
  obtain ⟨⟨s2, rfl⟩, h2⟩ := h2
  refine ⟨⟨s2, rfl⟩, fun σ H v Q hs hd q => ?_⟩
  obtain ⟨a, xs, rfl, k1, k2⟩ := hd.tup
  cases k2 with
  | cons a1 t =>
    cases t with
    | cons a2 t =>
      cases t
      refine wG_of (pg_tup hc (pgs_cons pG (pgs_cons pG pgs_nil e2) e1) hn hst) ⟨a, _, rfl, k1 _ .refl, rfl, _, _, rfl, ?_⟩
      exact h1 σ H _ _ hs (SlOk.ofD a1) fun σ' hs' => ⟨_, _, rfl, h2 σ' H _ _ hs' (SlOk.ofD a2) fun σ2 hs2 => ⟨rfl, q σ2 hs2⟩⟩
theorem tg_tup3 {t1 t2 t3 : Expr} {d1 d2 d3 : PyData} {G1 G2 G3 : Gm} {kt : Nat} (hc : X.calm = true) (h1 : Tg X t1 (.d d1) G G1) (h2 : Tg X t2 (.d d2) G1 G2) (h3 : Tg X t3 (.d d3) G2 G3)
    (e1 : (assignEach [t1, t2, t3] X.env).map (·.2) = assign t1 X.env :: (assignEach [t2, t3] X.env).map (·.2) := by rfl) (e2 : (assignEach [t2, t3] X.env).map (·.2) = assign t2 X.env :: (assignEach [t3] X.env).map (·.2) := by rfl)
    (e3 : (assignEach [t3] X.env).map (·.2) = assign t3 X.env :: (assignEach [] X.env).map (·.2) := by rfl)
    (hn : (assignEach [t1, t2, t3] X.env).length = 3 := by rfl) (hst : (assignEach [t1, t2, t3] X.env).findIdx? (·.1) = none := by rfl) : Tg X (.Tuple [t1, t2, t3] kt pos) (.d (.tuple [d1, d2, d3])) G G3 := by
  obtain ⟨⟨s1, rfl⟩, h1⟩ := h1
  obtain ⟨⟨s2, rfl⟩, h2⟩ := h2
  obtain ⟨⟨s3, rfl⟩, h3⟩ := h3
  refine ⟨⟨s3, rfl⟩, fun σ H v Q hs hd q => ?_⟩
  obtain ⟨a, xs, rfl, k1, k2⟩ := hd.tup
  cases k2 with
  | cons a1 t =>
    cases t with
    | cons a2 t =>
      cases t with
      | cons a3 t =>
        cases t
        refine wG_of (pg_tup hc (pgs_cons pG (pgs_cons pG (pgs_cons pG pgs_nil e3) e2) e1) hn hst) ⟨a, _, rfl, k1 _ .refl, rfl, _, _, rfl, ?_⟩
        exact h1 σ H _ _ hs (SlOk.ofD a1) fun σ' hs' => ⟨_, _, rfl, h2 σ' H _ _ hs' (SlOk.ofD a2) fun σ2 hs2 => ⟨_, _, rfl, h3 σ2 H _ _ hs2 (SlOk.ofD a3) fun σ3 hs3 => ⟨rfl, q σ3 hs3⟩⟩⟩
/-- a, b = e -/
theorem ws_asg {tg : Expr} {s : Sl} {G' : Gm} (he : ER X e G s) (ht : Tg X tg s G G') (q : D.nx G') (hsw : swapsWithSole [tg] e pos.line X.env = pure false := by rfl) (hw : swappedStores [tg] e X.env = pure none := by rfl)
    (h1 : (assignEach [tg] X.env).map (·.2) = [assign tg X.env] := by rfl) : WS X (.Assign [tg] e pos) G D := fun σ H hs => by
  obtain ⟨⟨sl, rfl⟩, ht⟩ := ht
  refine wS_of (ps_asg pE pG hsw hw h1) (wE_mono (he σ H hs) fun z H1 p1 => ht σ H1 z _ (hs.ext p1.1) p1.2.1 fun σ' hs' => ⟨_, hs', ⟨p1.1.all, fun a ha => .inl ha⟩, q⟩)
end
end Rd

namespace Rd
open PySem PySem.Spec PyProof.Rows L2
section
variable {X : Cx} {a b c e tg iter : Expr} {es : List Expr} {G : Gm} {ra rb rc rz : Sl} {pos p p2 : Pos} {x : Str} {st : Stmt} {ss tt body : List Stmt} {D : De} {k : Bool}
theorem Gs.to {G G' : Gm} {H H' : Hp} (g : Gs G H G' H') : ∀ H2, ExB G'.av H' H2 → ExB G.av H H2 := fun H2 q b o nb e =>
  q b o (fun z => (g.av b z).elim nb fun y => by rw [y] at e; cases e) (g.ex b o nb e)
/-! ### for -/
abbrev bodyD (D : De) (I : Gm → Prop) : De := { nx := I, ct := I, bk := D.nx, rt := D.rt }
theorem for_itr {lo : Int} {n : Nat} {σ : L2.St} {H0 H : Hp} (g0 : Gs G H0 G H) (hs : Hs X.K G σ H) (I : Nat → Gm → Prop) (h0 : I 0 G) (step : ∀ i G', i < n → I i G' → ∃ G2, Tg X tg (.d (.int (lo + i))) G' G2 ∧ WB X body G2 (bodyD D (I (i + 1)))) (fin : ∀ G', I n G' → D.nx G') :
    ∃ W : Nat → Nat → L2.St → Hp → Prop, (∃ m, W 0 m σ H) ∧ ∀ i m σ H, W i m σ H →
      ((Itr lo n).stop i H ∧ (DE X.K G H0 D).nx σ H) ∨ ((Itr lo n).go i H ∧ ∃ N : L2.St → Hp → Prop, (∀ σ' H', N σ' H' → ∃ m', m' < m ∧ W (i + 1) m' σ' H') ∧ ∀ x H', (Itr lo n).yld i H x H' → wG X tg x σ H' fun σ2 H2 => wB X body { DE X.K G H0 D with nx := N, ct := N, bk := (DE X.K G H0 D).nx } σ2 H2) := by
  refine for_range (fun i σ' H' => ∃ G', Hs X.K G' σ' H' ∧ Gs G H0 G' H' ∧ I i G') ⟨G, hs, g0, h0⟩ (fun i σ' H' hi ⟨G', h1, g1, q1⟩ => ?_) (fun σ' H' ⟨G', h1, g1, q1⟩ => ⟨G', h1, g1, fin G' q1⟩)
  obtain ⟨G2, ⟨⟨sl, rfl⟩, ht⟩, hb⟩ := step i G' hi q1
  refine ht σ' H' _ _ h1 (SlOk.ofD (.int _)) fun σ2 h2 => ?_
  have g2 : ∀ {G3 : Gm} {H3 : Hp}, Gs { G' with sl := sl } H' G3 H3 → Gs G H0 G3 H3 := fun g3 => g1.trans ⟨g3.ex, g3.av⟩
  exact wB_mono (hb σ2 H' h2) (fun σ3 H3 ⟨G3, h3, g3, q3⟩ => ⟨G3, h3, g2 g3, q3⟩) (fun _ _ z => z) (fun σ3 H3 ⟨G3, h3, g3, q3⟩ => ⟨G3, h3, g2 g3, q3⟩) (fun σ3 H3 ⟨G3, h3, g3, q3⟩ => ⟨G3, h3, g2 g3, q3⟩)
structure BtR (X : Cx) : Prop where
  g : Gl X "range"
  m : X.mg "range" = none
  hc : X.calm = true
/-- for tg in range(a) -/
theorem ws_for1 {n : Nat} {Er : Addr → Gm → Prop} (hx : XOk X Er) (t : BtR X) (ha : EA X [a] G [.d (.int n)]) (hn : n < 2 ^ 62) (I : Nat → Gm → Prop) (h0 : I 0 G) (step : ∀ i G', i < n → I i G' → ∃ G2, Tg X tg (.d (.int (i : Nat))) G' G2 ∧ WB X body G2 (bodyD D (I (i + 1)))) (fin : ∀ G', I n G' → D.nx G')
    (hst : starEach [a] X.env = [(false, eval a X.env)] := by rfl) (hf : ∀ x, foldedSetIterable (.Call (.Name "range" p) [a] [] p2) X.env x = pure x := by intro _; rfl) : WS X (.For tg (.Call (.Name "range" p) [a] [] p2) body [] pos) G D := fun σ H hs => by
  refine wS_of (ps_for hx.own t.hc (pi_range1 t.g t.m pA hst) pG pB hf) (wA_mono (ha σ H hs) fun vs H1 q => ?_)
  obtain ⟨y, rfl, k1⟩ := q.2.one
  refine ⟨n, by rw [k1.int], by omega, by omega, ?_⟩
  rw [Int.toNat_natCast]
  exact for_itr (Ge.refl q.1).gs (hs.ext q.1) I h0 (fun i G' hi q => by rw [Int.zero_add]; exact step i G' hi q) fin
theorem ws_for2 {lo hi : Int} {Er : Addr → Gm → Prop} (hx : XOk X Er) (t : BtR X) (ha : EA X [a, b] G [.d (.int lo), .d (.int hi)]) (hl : -(2 ^ 62) ≤ lo ∧ lo < 2 ^ 62 ∧ -(2 ^ 62) ≤ hi ∧ hi < 2 ^ 62) (I : Nat → Gm → Prop) (h0 : I 0 G)
    (step : ∀ i G', i < (hi - lo).toNat → I i G' → ∃ G2, Tg X tg (.d (.int (lo + i))) G' G2 ∧ WB X body G2 (bodyD D (I (i + 1)))) (fin : ∀ G', I (hi - lo).toNat G' → D.nx G')
    (hst : starEach [a, b] X.env = [(false, eval a X.env), (false, eval b X.env)] := by rfl) (hs2 : starEach [b] X.env = [(false, eval b X.env)] := by rfl) (hf : ∀ x, foldedSetIterable (.Call (.Name "range" p) [a, b] [] p2) X.env x = pure x := by intro _; rfl) : WS X (.For tg (.Call (.Name "range" p) [a, b] [] p2) body [] pos) G D := fun σ H hs => by
  refine wS_of (ps_for hx.own t.hc (pi_range2 t.g t.m pA hst hs2) pG pB hf) (wA_mono (ha σ H hs) fun vs H1 q => ?_)
  obtain ⟨y, z, rfl, k1, k2⟩ := q.2.two
  exact ⟨lo, hi, by rw [k1.int, k2.int], hl, for_itr (Ge.refl q.1).gs (hs.ext q.1) I h0 step fin⟩
theorem SlL.three {A : List Addr} {K : Fg} {H : Hp} {vs : List V} {r s t : Sl} (h : SlL A K H vs [r, s, t]) : ∃ x y z, vs = [x, y, z] ∧ SlOk A K H (some x) r ∧ SlOk A K H (some y) s ∧ SlOk A K H (some z) t := by
  cases h with
  | cons a b =>
    obtain ⟨y, z, rfl, h1, h2⟩ := b.two
    exact ⟨_, y, z, rfl, a, h1, h2⟩
/-- for tg in range(lo, hi, -1) -/
theorem ws_for3 {lo hi : Int} {Er : Addr → Gm → Prop} (hx : XOk X Er) (t : BtR X) (ha : EA X [a, b, c] G [.d (.int lo), .d (.int hi), .d (.int (-1))]) (hl : -(2 ^ 62) ≤ lo ∧ lo < 2 ^ 62 ∧ -(2 ^ 62) ≤ hi ∧ hi < 2 ^ 62) (I : Nat → Gm → Prop) (h0 : I 0 G)
    (step : ∀ i G', i < (lo - hi).toNat → I i G' → ∃ G2, Tg X tg (.d (.int (lo - i))) G' G2 ∧ WB X body G2 (bodyD D (I (i + 1)))) (fin : ∀ G', I (lo - hi).toNat G' → D.nx G')
    (hst : starEach [a, b, c] X.env = (false, eval a X.env) :: starEach [b, c] X.env := by rfl) (hpl : (backTo p2 (starEach [b, c] X.env)).any (·.1) = false := by rfl) (hf : ∀ x, foldedSetIterable (.Call (.Name "range" p) [a, b, c] [] p2) X.env x = pure x := by intro _; rfl) : WS X (.For tg (.Call (.Name "range" p) [a, b, c] [] p2) body [] pos) G D := fun σ H hs => by
  refine wS_of (ps_for hx.own t.hc (pi_range3 t.g t.m pA hst hpl) pG pB hf) (wA_mono (ha σ H hs) fun vs H1 q => ?_)
  obtain ⟨y, z, w, rfl, k1, k2, k3⟩ := q.2.three
  refine ⟨lo, hi, -1, (lo - hi).toNat, by rw [k1.int, k2.int, k3.int], RgC.neg hl.1 hl.2.1 hl.2.2.1 hl.2.2.2, ?_⟩
  have g0 := (Ge.refl (G := G) q.1).gs
  refine for_rangeC (fun i σ' H' => ∃ G', Hs X.K G' σ' H' ∧ Gs G H G' H' ∧ I i G') ⟨G, hs.ext q.1, g0, h0⟩ (fun i σ' H' hi ⟨G', h1, g1, q1⟩ => ?_) (fun σ' H' ⟨G', h1, g1, q1⟩ => ⟨G', h1, g1, fin G' q1⟩)
  obtain ⟨G2, ⟨⟨sl, rfl⟩, ht⟩, hb⟩ := step i G' hi q1
  rw [show lo + (i : Nat) * (-1 : Int) = lo - i by omega]
  refine ht σ' H' _ _ h1 (SlOk.ofD (.int _)) fun σ2 h2 => ?_
  have g2 : ∀ {G3 : Gm} {H3 : Hp}, Gs { G' with sl := sl } H' G3 H3 → Gs G H G3 H3 := fun g3 => g1.trans ⟨g3.ex, g3.av⟩
  exact wB_mono (hb σ2 H' h2) (fun σ3 H3 ⟨G3, h3, g3, q3⟩ => ⟨G3, h3, g2 g3, q3⟩) (fun _ _ z => z) (fun σ3 H3 ⟨G3, h3, g3, q3⟩ => ⟨G3, h3, g2 g3, q3⟩) (fun σ3 H3 ⟨G3, h3, g3, q3⟩ => ⟨G3, h3, g2 g3, q3⟩)
/-- a list that stays -/
inductive Kv : Sl → List PyData → Prop
  | d {ds : List PyData} : Kv (.d (.list ds)) ds
  | f {ds : List PyData} : Kv (.f ds) ds
  | l {ds : List PyData} : Kv (.l ds) ds
theorem Kv.ok {A : List Addr} {K : Fg} {H : Hp} {r : Sl} {ds : List PyData} (t : Kv r ds) {x : V} (h : SlOk A K H (some x) r) : ∃ a xs, x = .ref a ∧ (∀ H', ExB A H H' → SqL K H' a xs) ∧ DmL A K H xs ds := by
  cases t with
  | d => exact h.lst
  | f => obtain ⟨a, xs, e, k, t⟩ := h; cases e; exact ⟨a, xs, rfl, fun H' q => SqL.of (k H' q), t⟩
  | l => obtain ⟨a, xs, e, k, t⟩ := h; cases e; exact ⟨a, xs, rfl, fun H' q => SqL.of (k H' q), t⟩
/-- for tg in a list -/
theorem ws_forL {ds : List PyData} {Er : Addr → Gm → Prop} (hx : XOk X Er) (hc : X.calm = true) (hi : ER X iter G ra) (kv : Kv ra ds) (I : Nat → Gm → Prop) (h0 : I 0 G)
    (step : ∀ i d G', ds[i]? = some d → I i G' → ∃ G2, Tg X tg (.d d) G' G2 ∧ WB X body G2 (bodyD D (I (i + 1)))) (fin : ∀ G', I ds.length G' → D.nx G')
    (hf : ∀ x, foldedSetIterable iter X.env x = pure x := by intro _; rfl) : WS X (.For tg iter body [] pos) G D := fun σ H hs => by
  refine wS_of (ps_for hx.own hc (pi_list pE) pG pB hf) (wE_mono (hi σ H hs) fun v H1 q => ?_)
  obtain ⟨l, xs, rfl, k1, k2⟩ := kv.ok q.2.1
  have g0 := (Ge.refl (G := G) q.1).gs
  have hs1 := hs.ext q.1
  refine ⟨l, rfl, ⟨xs, k1 _ .refl⟩, for_list (xs := xs) (fun i σ' H' => ∃ G', Hs X.K G' σ' H' ∧ Gs G H1 G' H' ∧ I i G') ⟨G, hs1, .refl, h0⟩ (fun i σ' H' _ ⟨G', h1, g1, q1⟩ => k1 _ g1.ex) (fun i y σ' H' hy ⟨G', h1, g1, q1⟩ => ?_) (fun σ' H' ⟨G', h1, g1, q1⟩ => ⟨G', h1, g0.trans g1, fin G' (by rw [← k2.length]; exact q1)⟩)⟩
  obtain ⟨d, hd, hm⟩ := k2.get' hy
  obtain ⟨G2, ⟨⟨sl, rfl⟩, ht⟩, hb⟩ := step i d G' hd q1
  refine ht σ' H' _ _ h1 (SlOk.ofD (Dm.to g1.to d y hm)) fun σ2 h2 => ?_
  have g2 : ∀ {G3 : Gm} {H3 : Hp}, Gs { G' with sl := sl } H' G3 H3 → Gs G H1 G3 H3 := fun g3 => g1.trans ⟨g3.ex, g3.av⟩
  exact wB_mono (hb σ2 H' h2) (fun σ3 H3 ⟨G3, h3, g3, q3⟩ => ⟨G3, h3, g2 g3, q3⟩) (fun _ _ z => z) (fun σ3 H3 ⟨G3, h3, g3, q3⟩ => ⟨G3, h3, g0.trans (g2 g3), q3⟩) (fun σ3 H3 ⟨G3, h3, g3, q3⟩ => ⟨G3, h3, g2 g3, q3⟩)
/-- for tg in a tuple -/
theorem ws_forT {ds : List PyData} {Er : Addr → Gm → Prop} (hx : XOk X Er) (hc : X.calm = true) (hi : ER X iter G (.d (.tuple ds))) (I : Nat → Gm → Prop) (h0 : I 0 G)
    (step : ∀ i d G', ds[i]? = some d → I i G' → ∃ G2, Tg X tg (.d d) G' G2 ∧ WB X body G2 (bodyD D (I (i + 1)))) (fin : ∀ G', I ds.length G' → D.nx G')
    (hf : ∀ x, foldedSetIterable iter X.env x = pure x := by intro _; rfl) : WS X (.For tg iter body [] pos) G D := fun σ H hs => by
  refine wS_of (ps_for hx.own hc (pi_tup pE) pG pB hf) (wE_mono (hi σ H hs) fun v H1 q => ?_)
  obtain ⟨l, xs, rfl, k1, k2⟩ := q.2.1.tup
  have g0 := (Ge.refl (G := G) q.1).gs
  have hs1 := hs.ext q.1
  refine ⟨l, rfl, ⟨xs, k1 _ .refl⟩, for_tup (xs := xs) (fun i σ' H' => ∃ G', Hs X.K G' σ' H' ∧ Gs G H1 G' H' ∧ I i G') ⟨G, hs1, .refl, h0⟩ (fun i σ' H' _ ⟨G', h1, g1, q1⟩ => k1 _ g1.ex) (fun i y σ' H' hy ⟨G', h1, g1, q1⟩ => ?_) (fun σ' H' ⟨G', h1, g1, q1⟩ => ⟨G', h1, g0.trans g1, fin G' (by rw [← k2.length]; exact q1)⟩)⟩
  obtain ⟨d, hd, hm⟩ := k2.get' hy
  obtain ⟨G2, ⟨⟨sl, rfl⟩, ht⟩, hb⟩ := step i d G' hd q1
  refine ht σ' H' _ _ h1 (SlOk.ofD (Dm.to g1.to d y hm)) fun σ2 h2 => ?_
  have g2 : ∀ {G3 : Gm} {H3 : Hp}, Gs { G' with sl := sl } H' G3 H3 → Gs G H1 G3 H3 := fun g3 => g1.trans ⟨g3.ex, g3.av⟩
  exact wB_mono (hb σ2 H' h2) (fun σ3 H3 ⟨G3, h3, g3, q3⟩ => ⟨G3, h3, g2 g3, q3⟩) (fun _ _ z => z) (fun σ3 H3 ⟨G3, h3, g3, q3⟩ => ⟨G3, h3, g0.trans (g2 g3), q3⟩) (fun σ3 H3 ⟨G3, h3, g3, q3⟩ => ⟨G3, h3, g2 g3, q3⟩)
/-! ### while -/
theorem ws_while {Er : Addr → Gm → Prop} (hx : XOk X Er) (I : Nat → Gm → Prop) (n : Nat) (h0 : I n G) (step : ∀ n G', I n G' → ∃ k, TR X c G' k ∧ (k = true → WB X body G' (bodyD D (fun G2 => ∃ m, m < n ∧ I m G2))) ∧ (k = false → D.nx G')) : WS X (.While c body [] pos) G D := fun σ H hs => by
  refine wS_of (ps_while hx.own pT pB) ⟨fun m σ' H' => ∃ G', Hs X.K G' σ' H' ∧ Gs G H G' H' ∧ I m G', ⟨n, G, hs, .refl, h0⟩, fun m σ' H' ⟨G', h1, g1, q1⟩ => ?_⟩
  obtain ⟨k, hk, hy, hn⟩ := step m G' q1
  refine wT_mono (hk σ' H' h1) fun d H2 ⟨e1, e2⟩ => ?_
  subst e1
  have h2 := h1.ext e2
  have g2 := g1.trans (Ge.refl (G := G') e2).gs
  cases d with
  | false => exact iteF ⟨G', h2, g2, hn rfl⟩
  | true =>
    refine iteT ⟨fun σ3 H3 => ∃ G3, Hs X.K G3 σ3 H3 ∧ Gs G H G3 H3 ∧ ∃ m', m' < m ∧ I m' G3, fun σ3 H3 ⟨G3, h3, g3, m', l, q3⟩ => ⟨m', l, G3, h3, g3, q3⟩, ?_⟩
    exact wB_mono (hy rfl σ' H2 h2) (fun σ3 H3 ⟨G3, h3, g3, q3⟩ => ⟨G3, h3, g2.trans g3, q3⟩) (fun _ _ z => z) (fun σ3 H3 ⟨G3, h3, g3, q3⟩ => ⟨G3, h3, g2.trans g3, q3⟩) (fun σ3 H3 ⟨G3, h3, g3, q3⟩ => ⟨G3, h3, g2.trans g3, q3⟩)
/-! ### raise; a call that may raise -/
structure Ec (X : Cx) (x : Str) (C : Addr) : Prop where
  g : Gl X x
  m : X.mg x = some (.ref C)
  xi : PySem.W.excIn X.K C [.type "ValueError", .type "Exception", .type "BaseException", .type "object"] "ValueError.__new__" = true
  kp : PySem.W.keepIn X.K (.ref C) = true
  r : Raises X (.ref C)
  d : (x == ("__debug__" : Str)) = false
theorem ws_raise {Er : Addr → Gm → Prop} {C : Addr} {m : Str} {j : Nat} {p3 : Pos} (hx : XOk X Er) (hc : X.calm = true) (ec : Ec X x C) (q : Er C G) : WS X (.Raise (some (.Call (.Name x p) [.Constant (.str m) j p2] [] p3)) none pos) G D := fun σ H hs => by
  obtain ⟨W, tk, hW⟩ := hx.tk
  exact wS_of (ps_raise hc tk (pmk_own PySem.F.excBase_ValueError ec.xi ec.m ec.kp ec.r ec.g ec.d)) (hW C G σ H hs q)
theorem we_callX {Er : Addr → Gm → Prop} {R : Rl} {rs : List Sl} {ds : List PyData} {Q : Sl → Gm → Prop} (hx : XOk X Er) (F : Fc X x R) (ha : EA X (e :: es) G rs) (t : DtL rs ds) (h : (∃ rz, R ds (.ok rz) ∧ Q rz G) ∨ ∃ C, R ds (.error C) ∧ Er C G)
    (he : starEach (e :: es) X.env = (false, eval e X.env) :: starEach es X.env := by rfl) (hpl : (backTo pos (starEach es X.env)).any (·.1) = false := by rfl) : WE X (.Call (.Name x p) (e :: es) [] pos) G Q := fun σ H hs => by
  obtain ⟨W, tk, hW⟩ := hx.tk
  obtain ⟨k, f, fd, ps, h1, h2, h3, h4, h5⟩ := F.ex
  refine wE_of (pe_callS h1 h2 F.g h3 h4 h5 (fun σ => passAt tk σ) pA F.d he hpl) (wA_mono (ha σ H hs) fun vs H1 q => ?_)
  have hs1 := hs.ext q.1
  rcases h with ⟨rz, hR, hQ⟩ | ⟨C, hR, hE⟩
  · exact ⟨G.av, ds, .ok rz, av_there hs1, t.ok q.2, hR, fun v H' z => ⟨rz, G, .refl (q.1.trans z.1), hs1.ext z.1, z.2.1, z.2.2.later q.1, hQ⟩⟩
  · exact ⟨G.av, ds, .error C, av_there hs1, t.ok q.2, hR, fun H' z => hW C G σ H' (hs1.ext z) hE⟩
end
end Rd

namespace Rd
open PySem PySem.Spec PyProof.Rows L2
/-! ### list comprehensions -/
/-- Y is the context of a block of scope within X -/
def Blk (X : Cx) (scope : Scope) (Y : Cx) : Prop := ∃ s H0 C cl fp, Y = X.blk s H0 scope (compEnvC scope cl C X.env) fp
theorem Blk.K {X Y : Cx} {scope : Scope} (h : Blk X scope Y) : Y.K = X.K := by obtain ⟨_, _, _, _, _, rfl⟩ := h; rfl
section
variable {X : Cx} {a b c e tg iter elt : Expr} {es : List Expr} {G : Gm} {ra rb rc rz : Sl} {pos p p2 : Pos} {x : Str} {scope : Scope} {own : List (Str × Nat)}
def bE (X : Cx) (scope : Scope) (e : Expr) : TE := fun σ H Q => ∀ Y, Blk X scope Y → wE Y e σ H Q
def bT (X : Cx) (scope : Scope) (e : Expr) : TT := fun σ H Q => ∀ Y, Blk X scope Y → wT Y e σ H Q
def bG (X : Cx) (scope : Scope) (e : Expr) : TG := fun v σ H Q => ∀ Y, Blk X scope Y → wG Y e v σ H Q
theorem pbE (s : Shared) (H : Hp) (C : Addr) (cl : List (Str × Addr)) (fp : List Addr) : PE (X.blk s H scope (compEnvC scope cl C X.env) fp) e (bE X scope e) := ⟨fun pins s' σ H Q I h => (h _ ⟨s, _, C, cl, fp, rfl⟩).go pins s' I⟩
theorem pbT (s : Shared) (H : Hp) (C : Addr) (cl : List (Str × Addr)) (fp : List Addr) : PTs (X.blk s H scope (compEnvC scope cl C X.env) fp) [e] (bT X scope e) := pts_one ⟨fun pins s' σ H Q I h => (h _ ⟨s, _, C, cl, fp, rfl⟩).go pins s' I⟩
theorem pbG (s : Shared) (H : Hp) (C : Addr) (cl : List (Str × Addr)) (fp : List Addr) : PG (X.blk s H scope (compEnvC scope cl C X.env) fp) e (bG X scope e) := ⟨fun pins s' σ H v u Q I r h => h _ ⟨s, _, C, cl, fp, rfl⟩ pins s' u I r⟩
/-- the slots of the block's own names forgotten -/
def wipeS (ss : List Sl) : List Nat → List Sl
  | [] => ss
  | v :: vs => (wipeS ss vs).set v .no
theorem SlA.wipe {A : List Addr} {K : Fg} {H : Hp} {σ : L2.St} {ss : List Sl} (h : SlA A K H σ ss) : ∀ vs : List Nat, SlA A K H (wipe σ vs) (wipeS ss vs)
  | [] => h
  | v :: vs => SlA.set (show SlOk A K H none .no from trivial) v (SlA.wipe h vs)
/-- the state within a block, D the new list -/
abbrev inB (G : Gm) (vs : List Nat) (Da : Addr) (acc : List PyData) : Gm := { G with sl := wipeS G.sl vs, cs := G.cs ++ [(Da, .ls acc)] }
theorem Hs.inB {K : Fg} {σ : L2.St} {H : Hp} {Da : Addr} (h : Hs K G σ H) (hn : H Da = none) (vs : List Nat) : Hs K (inB G vs Da []) (wipe σ vs) (upd H Da (.lst [])) := by
  have nv := h.hh.new hn
  have to : ∀ H', ExB (Rd.inB G vs Da []).av (upd H Da (.lst [])) H' → ExB G.av H H' := fun H' q b o nb eb => by
    have ne : b ≠ Da := ne_of_none eb hn
    refine q b o (fun z => ?_) (by rw [upd_ne ne]; exact eb)
    simp only [Gm.av, Gm.ad, List.map_append, List.map_cons, List.map_nil, List.mem_append, List.mem_singleton] at z nb
    rcases z with (z | z) | z
    · exact nb (.inl z)
    · exact ne z
    · exact nb (.inr z)
  refine ⟨⟨fun b o q => ?_, ?_, fun b hb => ?_, fun b hb => ?_, fun p hp => ?_⟩, (h.sl.wipe vs).to to⟩
  · have := h.hh.ex b o q
    rw [upd_ne (ne_of_none this hn)]; exact this
  · show ((G.cs ++ [(Da, Cl.ls [])]).map (·.1)).Nodup
    rw [List.map_append]
    refine List.nodup_append.mpr ⟨h.hh.nd, by simp, fun y hy z hz => ?_⟩
    simp at hz
    rw [hz]
    exact fun q => nv (List.mem_append_left _ (q ▸ hy))
  · simp only [Gm.ad, List.map_append, List.map_cons, List.map_nil, List.mem_append, List.mem_singleton] at hb
    rcases hb with z | z
    · exact h.hh.fr b z
    · rw [z]
      show G.B Da = none
      cases q : G.B Da with
      | none => rfl
      | some o => rw [h.hh.ex Da o q] at hn; cases hn
  · rcases h.hh.out b hb with q | q
    · exact .inl q
    · refine .inr ?_
      simp only [Gm.ad, List.map_append, List.mem_append]
      exact .inl q
  · rcases List.mem_append.mp hp with q | q
    · exact (h.hh.cl p q).to to fun o eo => by rw [upd_ne (ne_of_none eo hn)]; exact eo
    · simp at q
      subst q
      exact ⟨[], upd_same, .nil⟩
def lcT (X : Cx) (scope : Scope) : List Expr → TT
  | [] => tYes
  | [c] => bT X scope c
  | _ => fun _ _ _ => False
theorem plcT {ifs : List Expr} (s : Shared) (H : Hp) (C : Addr) (cl : List (Str × Addr)) (fp : List Addr) (hl : ifs.length ≤ 1) : PTs (X.blk s H scope (compEnvC scope cl C X.env) fp) ifs (lcT X scope ifs) := match ifs, hl with
  | [], _ => pts_nil
  | [_], _ => pbT s H C cl fp
def TRs (Y : Cx) (ifs : List Expr) (G : Gm) (k : Bool) : Prop := match ifs with
  | [] => k = true
  | [c] => TR Y c G k
  | _ => False
/-- a target of a block -/
def TgB (Y : Cx) (tg : Expr) (s : Sl) (vs : List Nat) (G G' : Gm) : Prop := (∃ sl, G' = { G with sl := sl }) ∧ ∀ σ H v (Q : L2.St → Hp → Prop), Hs Y.K G σ H → SlOk G.av Y.K H (some v) s → (∀ σ', Hs Y.K G' σ' H → wipe σ' vs = wipe σ vs → Q σ' H) → wG Y tg v σ H Q
theorem tgb_name {Y : Cx} {i : Nat} {s : Sl} (n : Nl Y i x) : TgB Y (.Name x pos) s [i] G (upS G i s) :=
  ⟨⟨_, rfl⟩, fun σ H v Q hs hd q => wG_of (pg_name n.nd n.n n.l n.f) (q _ (hs.set i hd) (by simp [wipe, List.set_set]))⟩
theorem wipe2 {σ : L2.St} {i j : Nat} {o o' : Option V} (hij : i ≠ j) : wipe ((σ.set i o).set j o') [i, j] = wipe σ [i, j] := by
  simp only [wipe, List.set_set]
  rw [List.set_comm _ _ hij, List.set_set, List.set_comm _ _ (Ne.symm hij)]
theorem tgb_tup2 {Y : Cx} {i j : Nat} {x y : Str} {px py : Pos} {d1 d2 : PyData} {kt : Nat} (hc : Y.calm = true) (n1 : Nl Y i x) (n2 : Nl Y j y) (hij : i ≠ j)
    (e1 : (assignEach [.Name x px, .Name y py] Y.env).map (·.2) = assign (.Name x px) Y.env :: (assignEach [.Name y py] Y.env).map (·.2) := by rfl) (e2 : (assignEach [.Name y py] Y.env).map (·.2) = assign (.Name y py) Y.env :: (assignEach [] Y.env).map (·.2) := by rfl)
    (hn : (assignEach [.Name x px, .Name y py] Y.env).length = 2 := by rfl) (hst : (assignEach [.Name x px, .Name y py] Y.env).findIdx? (·.1) = none := by rfl) : TgB Y (.Tuple [.Name x px, .Name y py] kt pos) (.d (.tuple [d1, d2])) [i, j] G (upS (upS G i (.d d1)) j (.d d2)) := by
  refine ⟨⟨_, rfl⟩, fun σ H v Q hs hd q => ?_⟩
  obtain ⟨a, xs, rfl, k1, k2⟩ := hd.tup
  cases k2 with
  | cons a1 t =>
    cases t with
    | cons a2 t =>
      cases t
      refine wG_of (pg_tup hc (pgs_cons (pg_name n1.nd n1.n n1.l n1.f) (pgs_cons (pg_name n2.nd n2.n n2.l n2.f) pgs_nil e2) e1) hn hst) ⟨a, _, rfl, k1 _ .refl, rfl, _, _, rfl, _, _, rfl, rfl, ?_⟩
      exact q _ ((hs.set i (SlOk.ofD a1)).set j (SlOk.ofD a2)) (wipe2 hij)
theorem inB_put {vs : List Nat} {Da : Addr} {acc acc' : List PyData} : upL (inB G vs Da acc) G.cs.length Da acc' = inB G vs Da acc' := by
  show ({ A0 := G.A0, B := G.B, sl := wipeS G.sl vs, cs := (G.cs ++ [(Da, Cl.ls acc)]).set G.cs.length (Da, .ls acc') } : Gm) = _
  rw [List.set_append_right _ _ (Nat.le_refl _), Nat.sub_self]
  rfl
def outs (out : Nat → Option PyData) (n : Nat) : List PyData := (List.range n).filterMap out
theorem outs_succ {out : Nat → Option PyData} {n : Nat} : outs out (n + 1) = outs out n ++ (out n).toList := by
  unfold outs
  rw [List.range_succ, List.filterMap_append]
  cases h : out n <;> simp [h]
theorem outs_len {out : Nat → Option PyData} (n : Nat) : (outs out n).length ≤ n := by
  unfold outs
  exact Nat.le_trans (List.length_filterMap_le _ _) (by simp)
/-- what is shown of one turn -/
def LcOk (X : Cx) (scope : Scope) (tg elt : Expr) (ifs : List Expr) (vs : List Nat) (G : Gm) (it : Sl) (o : Option PyData) : Prop :=
  ∀ (Da : Addr) (acc : List PyData), ∃ (G2 : Gm) (k : Bool) (r : Sl) (d : PyData), o = (if k then some d else none) ∧ Dt r d ∧ ∀ Y, Blk X scope Y → TgB Y tg it vs (inB G vs Da acc) G2 ∧ TRs Y ifs G2 k ∧ (k = true → ER Y elt G2 r)
theorem lcT_run {ifs : List Expr} {G2 : Gm} {k : Bool} {σ : L2.St} {H : Hp} {Q : Bool → Hp → Prop} (hs : Hs X.K G2 σ H) (h : ∀ Y, Blk X scope Y → TRs Y ifs G2 k) (ne : ∃ Y, Blk X scope Y) (q : ∀ H', ExB [] H H' → Q k H') : lcT X scope ifs σ H Q := by
  match ifs, h with
  | [], h =>
    obtain ⟨Y, hY⟩ := ne
    have e : k = true := h Y hY
    subst e
    exact q H .refl
  | [c], h => exact fun Y hY => wT_mono ((h Y hY) σ H (by rw [hY.K]; exact hs)) fun c H' ⟨e1, e2⟩ => by rw [e1]; exact q H' e2
  | _ :: _ :: _, h =>
    obtain ⟨Y, hY⟩ := ne
    exact (h Y hY).elim
theorem lc_turn {ifs : List Expr} {vs : List Nat} {it : Sl} {out : Nat → Option PyData} {i : Nat} {σ : L2.St} {H1 H : Hp} {Da : Addr} {v : V} (hn : H1 Da = none) (hi : i < sizeLine) (h : LcOk X scope tg elt ifs vs G it (out i))
    (hd : SlOk (inB G vs Da (outs out i)).av X.K H (some v) it) (hs : Hs X.K (inB G vs Da (outs out i)) (wipe σ vs) H) (e : ExB [] H1 H) :
    bG X scope tg v (wipe σ vs) H fun σ2 H2 => wipe σ2 vs = wipe σ vs ∧ lcT X scope ifs σ2 H2 fun b H3 => if b = true then bE X scope elt σ2 H3 fun y H4 => ∃ acc, H4 Da = some (.lst acc) ∧ acc.length < sizeLine ∧
      (Hs X.K (inB G vs Da (outs out (i + 1))) (wipe σ vs) (upd H4 Da (.lst (acc ++ [y]))) ∧ ExB [] H1 (upd H4 Da (.lst (acc ++ [y])))) else (Hs X.K (inB G vs Da (outs out (i + 1))) (wipe σ vs) H3 ∧ ExB [] H1 H3) := by
  have ww : wipe (wipe σ vs) vs = wipe σ vs := by
    have key : ∀ (us : List Nat) (τ : L2.St), (∀ k, k ∈ us → τ[k]? = none ∨ τ[k]? = some none) → wipe τ us = τ := by
      intro us
      induction us with
      | nil => intro τ _; rfl
      | cons u us ih =>
        intro τ hτ
        have e1 := ih τ fun k hk => hτ k (List.mem_cons_of_mem _ hk)
        show (wipe τ us).set u none = τ
        rw [e1]
        apply List.ext_getElem?
        intro m
        by_cases hm : u = m
        · subst hm
          rcases hτ u List.mem_cons_self with q | q
          · rw [q]; exact List.getElem?_eq_none (by rw [List.length_set]; exact List.getElem?_eq_none_iff.mp q)
          · rw [List.getElem?_set_self (List.getElem?_eq_some_iff.mp q).1, q]
        · rw [List.getElem?_set_ne hm]
    exact key vs (wipe σ vs) fun k hk => by
      cases q : (wipe σ vs)[k]? with
      | none => exact .inl rfl
      | some o =>
        cases o with
        | none => exact .inr rfl
        | some z => exact absurd hk (wipe_some q).2
  obtain ⟨G2, k, r, d, ho, td, hall⟩ := h Da (outs out i)
  have hj : (inB G vs Da (outs out i)).cs[G.cs.length]? = some (Da, .ls (outs out i)) := by simp
  intro Y hY
  obtain ⟨⟨⟨sl, rfl⟩, ht⟩, _, _⟩ := hall Y hY
  refine ht (wipe σ vs) H v _ (by rw [hY.K]; exact hs) (by rw [hY.K]; exact hd) fun σ2 hs2 w2 => ⟨w2.trans ww, ?_⟩
  rw [hY.K] at hs2
  refine lcT_run hs2 (fun Y' hY' => (hall Y' hY').2.1) ⟨Y, hY⟩ fun H3 e3 => ?_
  cases k with
  | false =>
    refine iteF ⟨?_, e.trans e3⟩
    rw [outs_succ, ho]
    simp only [Bool.false_eq_true, if_false, Option.toList_none, List.append_nil]
    exact hs.ext e3
  | true =>
    refine iteT fun Y' hY' => wE_mono ((hall Y' hY').2.2 rfl σ2 H3 (by rw [hY'.K]; exact hs2.ext e3)) fun y H4 p4 => ?_
    have p4' : PRA (inB G vs Da (outs out i)).av X.K H3 r y H4 := by rw [hY'.K] at p4; exact p4
    have hs4 := (hs.ext e3).ext p4'.1
    obtain ⟨xs, h6, h7⟩ := hs4.hh.cl _ (List.mem_of_getElem? hj)
    refine ⟨xs, h6, ?_, ?_, ?_⟩
    · rw [h7.length]; exact Nat.lt_of_le_of_lt (outs_len i) hi
    · have := hs4.put hj (h7.append (.cons (td.ok p4'.2.1) .nil))
      rw [inB_put] at this
      rw [outs_succ, ho]
      exact this
    · intro b o _ eb
      have ne : b ≠ Da := ne_of_none eb hn
      rw [upd_ne ne]
      exact (e.trans (e3.trans p4'.1)) b o (fun z => nomatch z) eb
theorem lc_end {vs : List Nat} {σ : L2.St} {H H1 H2 : Hp} {Da : Addr} {ds : List PyData} (hs : Hs X.K G σ H) (e : ExB [] H H1) (hn : H1 Da = none) (h2 : Hs X.K (inB G vs Da ds) (wipe σ vs) H2) (e2 : ExB [] H1 H2) : PR X.K G H (.f ds) (.ref Da) H2 := by
  have hj : (inB G vs Da ds).cs[G.cs.length]? = some (Da, .ls ds) := by simp
  obtain ⟨xs, h6, h7⟩ := h2.hh.cl _ (List.mem_of_getElem? hj)
  have nv := hs.hh.new (e.fresh hn)
  have s1 : ∀ b, b ∈ Da :: G.av → b ∈ (inB G vs Da ds).av := fun b hb => by
    simp only [Gm.av, Gm.ad, List.map_append, List.map_cons, List.map_nil, List.mem_append, List.mem_singleton, List.mem_cons] at hb ⊢
    rcases hb with z | z | z
    · exact .inl (.inr (.inl z))
    · exact .inl (.inl z)
    · exact .inr z
  exact ⟨e.trans e2, ⟨Da, xs, rfl, fun H' q => q Da _ nv h6, h7.less fun b hb => s1 b (List.mem_cons_of_mem _ hb)⟩, ⟨Da, xs, rfl, e.fresh hn, h6, h7.less s1⟩⟩
theorem Hs.inAv {vs : List Nat} {Da : Addr} {acc : List PyData} {K : Fg} {H1 H : Hp} {v : V} {it : Sl} (h : SlOk G.av K H1 (some v) it) (hn : H1 Da = none) (e : ExB [] H1 H) : SlOk (Rd.inB G vs Da acc).av K H (some v) it := by
  refine h.to fun H' q b o nb eb => q b o (fun z => ?_) (e b o (fun z => nomatch z) eb)
  simp only [Gm.av, Gm.ad, List.map_append, List.map_cons, List.map_nil, List.mem_append, List.mem_singleton] at z nb
  rcases z with (z | z) | z
  · exact nb (.inl z)
  · rw [z, hn] at eb; cases eb
  · exact nb (.inr z)
/-- a comprehension gives the new list ds -/
def LC (X : Cx) (elt tg iter : Expr) (ifs : List Expr) (scope : Scope) (G : Gm) (ds : List PyData) : Prop := X.calm = true ∧ X.N.Nodup ∧ ifs.length ≤ 1 ∧ (∀ x, foldedSetIterable iter X.env x = pure x) ∧ ∃ (own : List (Str × Nat)) (wi : TI), PI X tg iter wi ∧ BlkOk X.N X.env.scope scope own ∧
  ∀ (σ : L2.St) (H : Hp) (Q : VK), Hs X.K G σ H → (∀ z H', PR X.K G H (.f ds) z H' → Q z H') → tLc wi (bG X scope tg) (lcT X scope ifs) (bE X scope elt) (own.map (·.2)) σ H Q
theorem er_lc {ifs : List Expr} {ds : List PyData} (h : LC X elt tg iter ifs scope G ds) : ER X (.ListComp elt [⟨tg, iter, ifs, 0⟩] scope pos) G (.f ds) := fun σ H hs => by
  obtain ⟨hc, hN, hif, hf, own, wi, hi, ok, h⟩ := h
  exact wE_of (pe_lc hc hN hi ok pbG (fun s H C cl fp => plcT s H C cl fp hif) pbE hf) (h σ H _ hs fun _ _ p => p)
theorem ws_setLc {ifs : List Expr} {ds : List PyData} {D : De} {i : Nat} {y : Str} {py spos : Pos} (hy : X.N[i]? = some y) (hyl : X.env.scope.names.lookup y = some .local) (hk : X.env.scope.kind = .function) (hl : (py.line == pos.line) = true)
    (han : (scope.names.any fun (n, k) => n == y && (k == .local || k == .cell)) = false) (h : LC X elt tg iter ifs scope G ds) (q : D.nx (upS G i (.l ds))) : WS X (.Assign [.Name y py] (.ListComp elt [⟨tg, iter, ifs, 0⟩] scope pos) spos) G D := fun σ H hs => by
  obtain ⟨hc, hN, hif, hf, own, wi, hi, ok, h⟩ := h
  refine wS_of (ps_setLc hc hN hy hyl (sw_true hk hyl hl han) hi ok pbG (fun s H C cl fp => plcT s H C cl fp hif) pbE hf) (h σ H _ hs fun z H1 p => ?_)
  exact ⟨upS G i (.l ds), (hs.ext p.1).set i p.2.1, ⟨p.1.all, fun a ha => .inl ha⟩, q⟩
theorem ws_setLcC {ifs : List Expr} {ds : List PyData} {D : De} {i : Nat} {y : Str} {py spos : Pos} (hy : X.N[i]? = some y) (hyl : X.env.scope.names.lookup y = some .local) (hk : X.env.scope.kind = .function) (hl : (py.line == pos.line) = true)
    (han : (scope.names.any fun (n, k) => n == y && (k == .local || k == .cell)) = false) (h : LC X elt tg iter ifs scope G ds) (q : ∀ a, D.nx (upC G i a (.ls ds))) : WS X (.Assign [.Name y py] (.ListComp elt [⟨tg, iter, ifs, 0⟩] scope pos) spos) G D := fun σ H hs => by
  obtain ⟨hc, hN, hif, hf, own, wi, hi, ok, h⟩ := h
  refine wS_of (ps_setLc hc hN hy hyl (sw_true hk hyl hl han) hi ok pbG (fun s H C cl fp => plcT s H C cl fp hif) pbE hf) (h σ H _ hs fun z H1 p1 => ?_)
  obtain ⟨a, rfl, h3, h4⟩ := hs.cell p1.1 p1.2.2 i
  refine ⟨_, h4, ⟨p1.1.all, fun b hb => ?_⟩, q a⟩
  rcases List.mem_cons.mp hb with r | r
  · subst r; exact .inr h3
  · exact .inl r
/-- [elt for tg in range(a) if ..] -/
theorem lc_1 {ifs : List Expr} {n : Nat} {out : Nat → Option PyData} (t : BtR X) (hN : X.N.Nodup) (ok : BlkOk X.N X.env.scope scope own) (ha : EA X [a] G [.d (.int n)]) (hn : n ≤ sizeLine) (hif : ifs.length ≤ 1) (h : ∀ i, i < n → LcOk X scope tg elt ifs (own.map (·.2)) G (.d (.int (i : Nat))) (out i))
    (hst : starEach [a] X.env = [(false, eval a X.env)] := by rfl) (hf : ∀ x, foldedSetIterable (.Call (.Name "range" p) [a] [] p2) X.env x = pure x := by intro _; rfl) : LC X elt tg (.Call (.Name "range" p) [a] [] p2) ifs scope G (outs out n) := by
  refine ⟨t.hc, hN, hif, hf, own, _, (pi_range1 t.g t.m pA hst), ok, fun σ H Q hs kQ => wA_mono (ha σ H hs) fun vs H1 q => ?_⟩
  obtain ⟨y, rfl, k1⟩ := q.2.one
  have hz := sizeLine_eq
  refine ⟨n, by rw [k1.int], by omega, by omega, fun Da hDa => ?_⟩
  rw [Int.toNat_natCast]
  refine lc_range (fun i H' => Hs X.K (inB G (own.map (·.2)) Da (outs out i)) (wipe σ (own.map (·.2))) H' ∧ ExB [] H1 H') ⟨(hs.ext q.1).inB hDa _, ExB.new hDa⟩ (fun i H' hi ⟨h1, e1⟩ => ?_) (fun H' ⟨h1, e1⟩ => kQ _ _ (lc_end hs q.1 hDa h1 e1))
  rw [Int.zero_add]
  exact lc_turn hDa (by omega) (h i hi) (SlOk.ofD (.int _)) h1 e1
theorem lc_2 {ifs : List Expr} {lo hi : Int} {out : Nat → Option PyData} (t : BtR X) (hN : X.N.Nodup) (ok : BlkOk X.N X.env.scope scope own) (ha : EA X [a, b] G [.d (.int lo), .d (.int hi)]) (hl : -(2 ^ 62) ≤ lo ∧ lo < 2 ^ 62 ∧ -(2 ^ 62) ≤ hi ∧ hi < 2 ^ 62) (hn : (hi - lo).toNat ≤ sizeLine) (hif : ifs.length ≤ 1) (h : ∀ i, i < (hi - lo).toNat → LcOk X scope tg elt ifs (own.map (·.2)) G (.d (.int (lo + i))) (out i))
    (hst : starEach [a, b] X.env = [(false, eval a X.env), (false, eval b X.env)] := by rfl) (hs2 : starEach [b] X.env = [(false, eval b X.env)] := by rfl) (hf : ∀ x, foldedSetIterable (.Call (.Name "range" p) [a, b] [] p2) X.env x = pure x := by intro _; rfl) : LC X elt tg (.Call (.Name "range" p) [a, b] [] p2) ifs scope G (outs out (hi - lo).toNat) := by
  refine ⟨t.hc, hN, hif, hf, own, _, (pi_range2 t.g t.m pA hst hs2), ok, fun σ H Q hs kQ => wA_mono (ha σ H hs) fun vs H1 q => ?_⟩
  obtain ⟨y, z, rfl, k1, k2⟩ := q.2.two
  refine ⟨lo, hi, by rw [k1.int, k2.int], hl, fun Da hDa => ?_⟩
  refine lc_range (fun i H' => Hs X.K (inB G (own.map (·.2)) Da (outs out i)) (wipe σ (own.map (·.2))) H' ∧ ExB [] H1 H') ⟨(hs.ext q.1).inB hDa _, ExB.new hDa⟩ (fun i H' hi ⟨h1, e1⟩ => ?_) (fun H' ⟨h1, e1⟩ => kQ _ _ (lc_end hs q.1 hDa h1 e1))
  exact lc_turn hDa (by omega) (h i hi) (SlOk.ofD (.int _)) h1 e1
/-- [elt for tg in a list if ..] -/
theorem lc_L {ifs : List Expr} {ds : List PyData} {out : Nat → Option PyData} (hc : X.calm = true) (hN : X.N.Nodup) (ok : BlkOk X.N X.env.scope scope own) (hi : ER X iter G ra) (kv : Lv G ra ds) (hn : ds.length ≤ sizeLine) (hif : ifs.length ≤ 1) (h : ∀ i d, ds[i]? = some d → LcOk X scope tg elt ifs (own.map (·.2)) G (.d d) (out i))
    (hf : ∀ x, foldedSetIterable iter X.env x = pure x := by intro _; rfl) : LC X elt tg (iter) ifs scope G (outs out ds.length) := by
  refine ⟨hc, hN, hif, hf, own, _, (pi_list pE), ok, fun σ H Q hs kQ => wE_mono (hi σ H hs) fun v H1 q => ?_⟩
  obtain ⟨l, xs, rfl, k1, k2⟩ := kv.ok (hs.ext q.1) q.2.1
  refine ⟨l, rfl, ⟨xs, k1⟩, fun Da hDa => ?_⟩
  rw [← k2.length] at kQ
  refine lc_list (xs := xs) (fun i H' => Hs X.K (inB G (own.map (·.2)) Da (outs out i)) (wipe σ (own.map (·.2))) H' ∧ ExB [] H1 H') ⟨(hs.ext q.1).inB hDa _, ExB.new hDa⟩ (fun i H' _ ⟨h1, e1⟩ => ?_) (fun i y H' hy ⟨h1, e1⟩ => ?_) (fun H' ⟨h1, e1⟩ => kQ _ _ (lc_end hs q.1 hDa h1 e1))
  · exact Same.seq (fun b o eb => e1 b o (fun z => nomatch z) eb) k1
  · obtain ⟨d, hd, hm⟩ := k2.get' hy
    exact lc_turn hDa (by have := (List.getElem?_eq_some_iff.mp hd).1; omega) (h i d hd) (Hs.inAv (SlOk.ofD hm) hDa e1) h1 e1
theorem sameT {K : Fg} {H H' : Hp} {a : Addr} {xs : List V} (e : ExB [] H H') (h : SqT K H a xs) : SqT K H' a xs := by
  rcases h with (h | ⟨o, h⟩) | h
  · exact .inl (.inl (e _ _ (fun z => nomatch z) h))
  · exact .inl (.inr ⟨o, e _ _ (fun z => nomatch z) h⟩)
  · exact .inr h
theorem lc_T {ifs : List Expr} {ds : List PyData} {out : Nat → Option PyData} (hc : X.calm = true) (hN : X.N.Nodup) (ok : BlkOk X.N X.env.scope scope own) (hi : ER X iter G (.d (.tuple ds))) (hn : ds.length ≤ sizeLine) (hif : ifs.length ≤ 1) (h : ∀ i d, ds[i]? = some d → LcOk X scope tg elt ifs (own.map (·.2)) G (.d d) (out i))
    (hf : ∀ x, foldedSetIterable iter X.env x = pure x := by intro _; rfl) : LC X elt tg (iter) ifs scope G (outs out ds.length) := by
  refine ⟨hc, hN, hif, hf, own, _, (pi_tup pE), ok, fun σ H Q hs kQ => wE_mono (hi σ H hs) fun v H1 q => ?_⟩
  obtain ⟨l, xs, rfl, k1, k2⟩ := q.2.1.tup
  refine ⟨l, rfl, ⟨xs, k1 _ .refl⟩, fun Da hDa => ?_⟩
  rw [← k2.length] at kQ
  refine lc_tup (xs := xs) (fun i H' => Hs X.K (inB G (own.map (·.2)) Da (outs out i)) (wipe σ (own.map (·.2))) H' ∧ ExB [] H1 H') ⟨(hs.ext q.1).inB hDa _, ExB.new hDa⟩ (fun i H' _ ⟨h1, e1⟩ => ?_) (fun i y H' hy ⟨h1, e1⟩ => ?_) (fun H' ⟨h1, e1⟩ => kQ _ _ (lc_end hs q.1 hDa h1 e1))
  · exact sameT e1 (k1 _ .refl)
  · obtain ⟨d, hd, hm⟩ := k2.get' hy
    exact lc_turn hDa (by have := (List.getElem?_eq_some_iff.mp hd).1; omega) (h i d hd) (Hs.inAv (SlOk.ofD hm) hDa e1) h1 e1
end
end Rd

namespace Rd
open PySem PySem.Spec PyProof.Rows L2
/-! ### the module, a context within it -/
structure Md where
  P : Program
  w : World
  K : Fg
  mg : Str → Option Value
  base : Heap
structure Cf (X : Cx) (M : Md) (N : List Str) (sc : Scope) (k : Nat) : Prop where
  P : X.prog = M.P
  w : X.w = M.w
  K : X.K = M.K
  mg : X.mg = M.mg
  base : X.base = M.base
  nN : X.N = N
  sc : X.env.scope = sc
  calm : X.calm = true
  room : Room k X.A
  nd : X.N.Nodup
def visB (sc : Scope) (x : Str) : Bool := match sc.names.lookup x with
  | some .local => true
  | some .cell => true
  | some .free => true
  | _ => false
def locB (sc : Scope) (x : Str) : Bool := match sc.names.lookup x with
  | some .local => true
  | some .cell => true
  | _ => false
def loc1B (sc : Scope) (x : Str) : Bool := match sc.names.lookup x with
  | some .local => true
  | _ => false
def gloB (sc : Scope) (x : Str) : Bool := match sc.names.lookup x with
  | some .globalImplicit => true
  | _ => false
def okS (x : Str) : Bool := !(x == ("__debug__" : Str)) && !(x == ("__classdict__" : Str)) && !(x == ("__name__" : Str))
theorem vis_of {sc : Scope} {x : Str} (h : visB sc x = true) : Vis sc x := by
  unfold visB at h
  unfold Vis
  split at h <;> simp_all
theorem loc_of {sc : Scope} {x : Str} (h : locB sc x = true) : L2.Loc sc x := by
  unfold locB at h
  unfold L2.Loc
  split at h <;> simp_all
theorem loc1_of {sc : Scope} {x : Str} (h : loc1B sc x = true) : sc.names.lookup x = some .local := by
  unfold loc1B at h
  split at h <;> simp_all
theorem glo_of {sc : Scope} {x : Str} (h : gloB sc x = true) : sc.names.lookup x = some .globalImplicit := by
  unfold gloB at h
  split at h <;> simp_all
theorem okS_of {x : Str} (h : okS x = true) : (x == ("__debug__" : Str)) = false ∧ (x == ("__classdict__" : Str)) = false ∧ x ≠ "__name__" := by
  unfold okS at h
  simp only [Bool.and_eq_true, Bool.not_eq_true'] at h
  refine ⟨h.1.1, h.1.2, fun z => ?_⟩
  have := h.2
  rw [z] at this
  simp at this
section
variable {X Y : Cx} {M : Md} {N : List Str} {sc scope : Scope} {k j : Nat} {x : Str}
theorem Cf.un (cf : Cf X M N sc k) : Un X := cf.room.units
theorem Cf.nm (cf : Cf X M N sc k) (i : Nat) (hN : N[i]? = some x) (hv : (visB sc x && okS x) = true) : Nm X i x := by
  obtain ⟨h1, h2⟩ := Bool.and_eq_true_iff.mp hv
  obtain ⟨a, b, _⟩ := okS_of h2
  exact ⟨by rw [cf.nN]; exact hN, by rw [cf.sc]; exact vis_of h1, a, b⟩
theorem Cf.gl (cf : Cf X M N sc k) (h : gloB sc x = true) : Gl X x := by
  unfold Gl Env.kindOf
  rw [cf.sc]
  exact glo_of h
theorem Cf.gc (cf : Cf X M N sc k) {v : V} (hv : (gloB sc x && okS x) = true) (h : ∃ u, M.mg x = some u ∧ RelV v u) : Gc X x v := by
  obtain ⟨h1, h2⟩ := Bool.and_eq_true_iff.mp hv
  exact ⟨cf.gl h1, by rw [cf.mg]; exact h, (okS_of h2).1⟩
theorem Cf.bt (cf : Cf X M N sc k) {f : Value} (hv : (gloB sc x && okS x) = true) (h : M.mg x = none) (hb : bootBuiltins x = some f) : Bt X x f := by
  obtain ⟨h1, h2⟩ := Bool.and_eq_true_iff.mp hv
  exact ⟨cf.gl h1, by rw [cf.mg]; exact h, hb, (okS_of h2).2.2, (okS_of h2).1⟩
theorem Cf.btr (cf : Cf X M N sc k) (hv : gloB sc "range" = true) (h : M.mg "range" = none) : BtR X := ⟨cf.gl hv, by rw [cf.mg]; exact h, cf.calm⟩
/-- a built-in class as a value -/
theorem Bt.ty {T : String} {pos : Pos} {G : Gm} (b : Bt X x (.type T)) : ER X (.Name x pos) G (.v (.ty T)) := fun σ H hs => wE_of (pe_bltn (v := .ty T) b.g b.m b.v rfl b.n b.d) (PR.v .refl)
theorem Cf.blk (cf : Cf X M N sc k) (h : Blk X scope Y) : Cf Y M N (relS scope sc) k := by
  obtain ⟨s, H0, C, cl, fp, rfl⟩ := h
  exact ⟨cf.P, cf.w, cf.K, cf.mg, cf.base, cf.nN, by rw [← cf.sc]; rfl, cf.calm, cf.room, cf.nd⟩
/-- a local name of a def -/
theorem Cf.nl (cf : Cf X M N sc k) (i : Nat) (hN : N[i]? = some x) (hv : locB sc x = true) (hf : X.fn x = true ∨ loc1B sc x = true) : Nl X i x :=
  ⟨cf.nd, by rw [cf.nN]; exact hN, by rw [cf.sc]; exact loc_of hv, hf.imp id fun h => by rw [cf.sc]; exact loc1_of h⟩
/-- .. of a block -/
theorem Cf.nlB (cf : Cf X M N sc k) (h : Blk X scope Y) (i : Nat) (hN : N[i]? = some x) (hv : locB (relS scope sc) x = true) (hf : ((scope.names.lookup x == some .cell) || loc1B (relS scope sc) x) = true) : Nl Y i x := by
  refine (cf.blk h).nl i hN hv ?_
  obtain ⟨s, H0, C, cl, fp, rfl⟩ := h
  exact (Bool.or_eq_true_iff.mp hf)
theorem Cf.bok (cf : Cf X M N sc k) {own : List (Str × Nat)} (h : blkC N sc scope own = true) : BlkOk X.N X.env.scope scope own := by
  rw [cf.nN, cf.sc]; exact blkOk_by h
end
/-! ### defs -/
structure Df (M : Md) (x : Str) (R : Rl) (k : Nat) : Prop where
  ex : ∃ (f : Addr) (fd : FuncData) (ps : List Str), FnOk M.P M.w M.K M.mg M.base (L2.CX M.P M.w) k f fd ps (spR M.K R) ∧ M.mg x = some (.ref f) ∧ PySem.W.keepIn M.K (.ref f) = true ∧ Binds M.K fd ps []
theorem Cf.fc {X : Cx} {M : Md} {N : List Str} {sc : Scope} {k j : Nat} {x : Str} {R : Rl} (cf : Cf X M N sc k) (d : Df M x R j) (hjk : j ≤ k) (hv : (gloB sc x && okS x) = true) : Fc X x R := by
  obtain ⟨h1, h2⟩ := Bool.and_eq_true_iff.mp hv
  obtain ⟨f, fd, ps, a, b, c, d⟩ := d.ex
  refine ⟨⟨k, f, fd, ps, ?_, cf.room, ?_, ?_, ?_⟩, cf.gl h1, (okS_of h2).1⟩
  · rw [cf.P, cf.w, cf.K, cf.mg, cf.base]; exact a.mono hjk
  · rw [cf.mg]; exact b
  · rw [cf.K]; exact c
  · rw [cf.K]; exact d
/-- how what is returned is told -/
inductive Rt (G : Gm) : Sl → Sl → Prop
  | d {d : PyData} : Rt G (.d d) (.d d)
  | f {ds : List PyData} : Rt G (.f ds) (.f ds)
  | fd {ds : List PyData} : Rt G (.f ds) (.d (.list ds))
  | ld {ds : List PyData} : Rt G (.l ds) (.d (.list ds))
  | c {a : Addr} {ds : List PyData} (j : Nat) : G.cs[j]? = some (a, .ls ds) → Rt G (.v (.ref a)) (.f ds)
  | cd {a : Addr} {ds : List PyData} (j : Nat) : G.cs[j]? = some (a, .ls ds) → Rt G (.v (.ref a)) (.d (.list ds))
theorem Dt.pra {A : List Addr} {K : Fg} {H : Hp} {v : V} {d : PyData} (h : Dm A K H v d) : SlOk A K H (some v) (.d d) := SlOk.ofD h
theorem Rt.ok {G : Gm} {K : Fg} {H : Hp} {v : V} {s s' : Sl} (t : Rt G s s') (hh : Hh K G H) (h : SlOk G.av K H (some v) s) (f : Fre G.av K G.B H v s) (ho : ∀ a, s = .v (.ref a) → a ∉ G.A0) : SlOk G.A0 K H (some v) s' ∧ Fre G.A0 K G.B H v s' := by
  have sub : ∀ b, b ∈ G.A0 → b ∈ G.av := fun b hb => List.mem_append_right _ hb
  have cell : ∀ {a : Addr} {ds : List PyData} (j : Nat), G.cs[j]? = some (a, .ls ds) → s = .v (.ref a) → ∃ xs, v = .ref a ∧ G.B a = none ∧ a ∉ G.A0 ∧ H a = some (.lst xs) ∧ DmL (a :: G.A0) K H xs ds := fun {a ds} j hj es => by
    subst es
    have e : some v = some _ := h
    cases e
    have hm : a ∈ G.ad := List.mem_map.mpr ⟨_, List.mem_of_getElem? hj, rfl⟩
    obtain ⟨xs, h1, h2⟩ := hh.cl _ (List.mem_of_getElem? hj)
    refine ⟨xs, rfl, hh.fr a hm, ho a rfl, h1, h2.less fun b hb => ?_⟩
    · rcases List.mem_cons.mp hb with q | q
      · rw [q]; exact List.mem_append_left _ hm
      · exact sub b q
  cases t with
  | d => exact ⟨SlOk.ofD (h.get.less sub), trivial⟩
  | f =>
    obtain ⟨a, xs, e, k, t⟩ := h
    obtain ⟨a', xs', e', n', h', t'⟩ := f
    cases e
    cases e'
    refine ⟨⟨a, xs, rfl, fun H' q => k H' (q.sub sub), t.less sub⟩, ⟨a, xs', rfl, n', h', t'.less fun b hb => ?_⟩⟩
    rcases List.mem_cons.mp hb with q | q
    · rw [q]; exact List.mem_cons_self
    · exact List.mem_cons_of_mem _ (sub b q)
  | fd => exact ⟨SlOk.ofD ((Dt.f.ok h).less sub), trivial⟩
  | ld => exact ⟨SlOk.ofD ((Dt.l.ok h).less sub), trivial⟩
  | c j hj =>
    obtain ⟨xs, rfl, h1, h2, h3, h4⟩ := cell j hj rfl
    exact ⟨⟨_, xs, rfl, fun H' q => q _ _ h2 h3, h4.less fun b hb => List.mem_cons_of_mem _ hb⟩, ⟨_, xs, rfl, h1, h3, h4⟩⟩
  | cd j hj =>
    obtain ⟨xs, rfl, h1, h2, h3, h4⟩ := cell j hj rfl
    exact ⟨SlOk.ofD (Dm.newL h2 h3 (h4.less fun b hb => List.mem_cons_of_mem _ hb)), trivial⟩
/-- the state at a def's entry -/
abbrev ent (A : List Addr) (B : Hp) (N : List Str) (ds : List PyData) : Gm := ⟨A, B, ds.map .d ++ List.replicate (N.length - ds.length) .no, []⟩
/-- what is wanted of a def's body: the result r -/
abbrev rtD (A : List Addr) (B : Hp) (r : Except Addr Sl) : De where
  nx := fun G => r = .ok (.d .none) ∧ G.B = B ∧ G.A0 = A
  rt := fun s G => G.B = B ∧ G.A0 = A ∧ ∃ s', r = .ok s' ∧ Rt G s s'
abbrev erD (A : List Addr) (B : Hp) (r : Except Addr Sl) : Addr → Gm → Prop := fun C G => r = .error C ∧ G.B = B ∧ G.A0 = A
abbrev FnP (K : Fg) (x : Str) (st : Stmt) (f : Addr) (fd : FuncData) : Prop := FunD K x x (defArgs st) (defBody st) (defScope st) [] [] f fd
theorem sl_start {A : List Addr} {K : Fg} {H : Hp} {N : List Str} {vs : List V} {ds : List PyData} (t : DmL A K H vs ds) : SlA A K H (L2.start N vs) (ds.map .d ++ List.replicate (N.length - ds.length) .no) := by
  have rep : ∀ n : Nat, SlA A K H (List.replicate n none) (List.replicate n Sl.no) := fun n => by
    induction n with
    | zero => exact .nil
    | succ n ih => exact .cons trivial ih
  have go : ∀ {vs : List V} {ds : List PyData} (τ : L2.St) (ss : List Sl), DmL A K H vs ds → SlA A K H τ ss → SlA A K H (vs.map some ++ τ) (ds.map Sl.d ++ ss) := by
    intro vs
    induction vs with
    | nil => intro ds τ ss t h; cases t; exact h
    | cons v vs ih => intro ds τ ss t h; cases t with | cons a b => exact .cons (SlOk.ofD a) (ih τ ss b h)
  unfold L2.start
  rw [t.length]
  exact go _ _ t (rep _)
theorem cell_out {G : Gm} {K : Fg} {H : Hp} (hh : Hh K G H) (hA : ∀ b ∈ G.A0, G.B b ≠ none) : ∀ a ∈ G.ad, a ∉ G.A0 := fun a ha hb => hA a hb (hh.fr a ha)
theorem fnR {M : Md} {x : Str} {st : Stmt} {f : Addr} {fd : FuncData} {N ps : List Str} {k : Nat} {R : Rl} (F : FnP M.K x st f fd) (hm : M.mg x = some (.ref f)) (hb : Binds M.K fd ps []) (S : FnScope N ps (defScope st)) (hlen : ∀ ds r, R ds r → ds.length = ps.length)
    (h : ∀ X, Cf X M N (defScope st) k → (∀ y, X.fn y = true) → ∀ A B ds r, R ds r → XOk X (erD A B r) → WB X (defBody st) (ent A B N ds) (rtD A B r)) : Df M x R (k + 1) := by
  refine ⟨f, fd, ps, FunD.ok F S (fun vs H Q E ⟨A, ds, r, _, t, hr, _⟩ => by rw [t.length]; exact hlen ds r hr) (fun cdv A outer s H vs Q E hr hsp => ?_), hm, F.kp, hb⟩
  obtain ⟨A1, ds, r, hA, t, hR, hq⟩ := hsp
  refine ⟨_, pB, ?_⟩
  have own : PassesOwn (model M.P M.w) (A.deeper (envOfC x (defScope st) s.heap.objs.size f cdv)) (envOfC x (defScope st) s.heap.objs.size f cdv) (cxOf (L2.CX M.P M.w) M.P M.w M.K M.mg M.base N x (defScope st) f cdv A outer s H E).xe := PassesOwn.leaving
  have cf : Cf (cxOf (L2.CX M.P M.w) M.P M.w M.K M.mg M.base N x (defScope st) f cdv A outer s H E) M N (defScope st) k := ⟨rfl, rfl, rfl, rfl, rfl, rfl, rfl, rfl, hr, S.nd⟩
  have hh0 : Hs M.K (ent A1 H N ds) (L2.start N vs) H := ⟨⟨fun _ _ e => e, List.nodup_nil, (fun _ z => nomatch z), fun b hb => Or.inl (hA b hb), (fun _ z => nomatch z)⟩, sl_start t⟩
  have W := h _ cf (fun _ => rfl) A1 H ds r hR ⟨own, ⟨rfl, rfl, rfl⟩, fun cls d σ' H' => E cls d H', takes_of rfl rfl rfl rfl, fun C G σ' H' hs ⟨e1, e2, e3⟩ => by
    subst e1
    exact hq H' fun b o _ eb => hs.hh.ex b o (by rw [e2]; exact eb)⟩ (L2.start N vs) H hh0
  refine wB_mono W (fun σ' H' ⟨G', h1, _, e1, e2, e3⟩ => ?_) (fun v H' ⟨s1, G', h1, k1, f1, e2, e3, s', e1, rt⟩ => ?_) (fun _ _ ⟨_, _, _, z⟩ => z) (fun _ _ ⟨_, _, _, z⟩ => z)
  · subst e1
    exact hq .non H' ⟨fun b o _ eb => h1.hh.ex b o (by rw [e2]; exact eb), SlOk.ofD .non, trivial⟩
  · subst e1
    have hA' : ∀ b ∈ G'.A0, G'.B b ≠ none := by rw [e2, e3]; exact hA
    obtain ⟨q1, q2⟩ := rt.ok h1 k1 f1 fun a ea => by
      subst ea
      cases rt with
      | c j hj => exact cell_out h1 hA' a (List.mem_map.mpr ⟨_, List.mem_of_getElem? hj, rfl⟩)
      | cd j hj => exact cell_out h1 hA' a (List.mem_map.mpr ⟨_, List.mem_of_getElem? hj, rfl⟩)
    rw [e3] at q1 q2
    rw [e2] at q2
    exact hq v H' ⟨fun b o _ eb => h1.ex b o (by rw [e2]; exact eb), q1, q2⟩
end Rd

namespace Rd
open PySem PySem.Spec PyProof.Rows L2
/-! ### comprehensions over lists of one kind -/
theorem outs_fm {α : Type} (l : List α) (o : α → Option PyData) : outs (fun i => (l[i]?).bind o) l.length = l.filterMap o := by
  unfold outs
  induction l with
  | nil => rfl
  | cons a l ih =>
    rw [List.length_cons, List.range_succ_eq_map, List.filterMap_cons, List.filterMap_map]
    have e : (fun i => ((a :: l)[i]?).bind o) ∘ Nat.succ = fun i => (l[i]?).bind o := by
      funext i; simp
    rw [e, ih, List.filterMap_cons]
    simp
/-- lo, lo + 1, .. below hi -/
def rng (lo hi : Int) : List Int := (List.range (hi - lo).toNat).map fun i => lo + (i : Nat)
theorem rng_len (lo hi : Int) : (rng lo hi).length = (hi - lo).toNat := by simp [rng]
theorem rng_get {lo hi : Int} {i : Nat} (h : i < (hi - lo).toNat) : (rng lo hi)[i]? = some (lo + i) := by simp [rng, h]
theorem mem_rng {lo hi x : Int} : x ∈ rng lo hi ↔ lo ≤ x ∧ x < hi := by
  simp only [rng, List.mem_map, List.mem_range]
  constructor
  · rintro ⟨i, h, rfl⟩; omega
  · intro h; exact ⟨(x - lo).toNat, by omega, by omega⟩
section
variable {X : Cx} {a b c e tg iter elt : Expr} {G : Gm} {ra rb rc rz : Sl} {pos p p2 : Pos} {x : Str} {scope : Scope} {own : List (Str × Nat)} {ifs : List Expr} {α : Type}
theorem lcT' (enc : α → PyData) (xs : List α) (o : α → Option PyData) (hc : X.calm = true) (hN : X.N.Nodup) (ok : BlkOk X.N X.env.scope scope own) (hi : ER X iter G (.d (.tuple (xs.map enc)))) (hn : xs.length ≤ sizeLine) (hif : ifs.length ≤ 1) (h : ∀ x ∈ xs, LcOk X scope tg elt ifs (own.map (·.2)) G (.d (enc x)) (o x))
    (hf : ∀ x, foldedSetIterable iter X.env x = pure x := by intro _; rfl) : LC X elt tg iter ifs scope G (xs.filterMap o) := by
  have := lc_T (out := fun i => (xs[i]?).bind o) hc hN ok hi (by rw [List.length_map]; exact hn) hif (fun i d hd => by
    rw [List.getElem?_map] at hd
    cases q : xs[i]? with
    | none => rw [q] at hd; cases hd
    | some y =>
      rw [q] at hd
      have e : enc y = d := Option.some.inj hd
      subst e
      exact h y (List.mem_of_getElem? q)) hf
  rw [List.length_map, outs_fm] at this
  exact this
theorem lcL' (enc : α → PyData) (xs : List α) (o : α → Option PyData) (hc : X.calm = true) (hN : X.N.Nodup) (ok : BlkOk X.N X.env.scope scope own) (hi : ER X iter G ra) (kv : Lv G ra (xs.map enc)) (hn : xs.length ≤ sizeLine) (hif : ifs.length ≤ 1) (h : ∀ x ∈ xs, LcOk X scope tg elt ifs (own.map (·.2)) G (.d (enc x)) (o x))
    (hf : ∀ x, foldedSetIterable iter X.env x = pure x := by intro _; rfl) : LC X elt tg iter ifs scope G (xs.filterMap o) := by
  have := lc_L (out := fun i => (xs[i]?).bind o) hc hN ok hi kv (by rw [List.length_map]; exact hn) hif (fun i d hd => by
    rw [List.getElem?_map] at hd
    cases q : xs[i]? with
    | none => rw [q] at hd; cases hd
    | some y =>
      rw [q] at hd
      have e : enc y = d := Option.some.inj hd
      subst e
      exact h y (List.mem_of_getElem? q)) hf
  rw [List.length_map, outs_fm] at this
  exact this
theorem lcR1' {hi : Int} (o : Int → Option PyData) (t : BtR X) (hN : X.N.Nodup) (ok : BlkOk X.N X.env.scope scope own) (ha : EA X [a] G [.d (.int hi)]) (h0 : 0 ≤ hi) (hn : hi ≤ 16777216) (hif : ifs.length ≤ 1) (h : ∀ z, 0 ≤ z → z < hi → LcOk X scope tg elt ifs (own.map (·.2)) G (.d (.int z)) (o z))
    (hst : starEach [a] X.env = [(false, eval a X.env)] := by rfl) (hf : ∀ x, foldedSetIterable (.Call (.Name "range" p) [a] [] p2) X.env x = pure x := by intro _; rfl) : LC X elt tg (.Call (.Name "range" p) [a] [] p2) ifs scope G ((rng 0 hi).filterMap o) := by
  obtain ⟨n, rfl⟩ := Int.eq_ofNat_of_zero_le h0
  have hz := sizeLine_eq
  have := lc_1 (p := p) (p2 := p2) (out := fun i => ((rng 0 n)[i]?).bind o) t hN ok ha (by omega) hif (fun i hi => by
    have e : (rng 0 n)[i]? = some (i : Int) := by rw [rng_get (by omega)]; simp
    simp only [e, Option.bind_some]
    exact h i (by omega) (by omega)) hst hf
  have e := outs_fm (rng 0 n) o
  rw [rng_len, show ((n : Int) - 0).toNat = n by omega] at e
  rw [e] at this
  exact this
theorem lcR2' {lo hi : Int} (o : Int → Option PyData) (t : BtR X) (hN : X.N.Nodup) (ok : BlkOk X.N X.env.scope scope own) (ha : EA X [a, b] G [.d (.int lo), .d (.int hi)]) (h0 : -16777216 ≤ lo) (h1 : lo ≤ 16777216) (h2 : -16777216 ≤ hi) (h3 : hi ≤ 16777216) (hn : (hi - lo).toNat ≤ 16777216) (hif : ifs.length ≤ 1) (h : ∀ z, lo ≤ z → z < hi → LcOk X scope tg elt ifs (own.map (·.2)) G (.d (.int z)) (o z))
    (hst : starEach [a, b] X.env = [(false, eval a X.env), (false, eval b X.env)] := by rfl) (hs2 : starEach [b] X.env = [(false, eval b X.env)] := by rfl) (hf : ∀ x, foldedSetIterable (.Call (.Name "range" p) [a, b] [] p2) X.env x = pure x := by intro _; rfl) : LC X elt tg (.Call (.Name "range" p) [a, b] [] p2) ifs scope G ((rng lo hi).filterMap o) := by
  have hz := sizeLine_eq
  have := lc_2 (p := p) (p2 := p2) (out := fun i => ((rng lo hi)[i]?).bind o) t hN ok ha ⟨by omega, by omega, by omega, by omega⟩ (by omega) hif (fun i hi' => by
    simp only [rng_get hi', Option.bind_some]
    exact h _ (by omega) (by omega)) hst hs2 hf
  have e := outs_fm (rng lo hi) o
  rw [rng_len] at e
  rw [e] at this
  exact this
/-- one turn, the target a name -/
theorem lcok_n {M : Md} {N : List Str} {sc : Scope} {k : Nat} {i : Nat} {it : Sl} {r : Sl} {d : PyData} (cf : Cf X M N sc k) (hN : N[i]? = some x) (hv : (locB (relS scope sc) x && ((scope.names.lookup x == some .cell) || loc1B (relS scope sc) x)) = true) (td : Dt r d)
    (h : ∀ Y Da acc, Blk X scope Y → Cf Y M N (relS scope sc) k → ER Y elt (upS (inB G [i] Da acc) i it) r) : LcOk X scope (.Name x pos) elt [] [i] G it (some d) := fun Da acc => by
  obtain ⟨h1, h2⟩ := Bool.and_eq_true_iff.mp hv
  exact ⟨_, true, r, d, rfl, td, fun Y hY => ⟨tgb_name (cf.nlB hY i hN h1 h2), rfl, fun _ => h Y Da acc hY (cf.blk hY)⟩⟩
theorem lcok_nt {M : Md} {N : List Str} {sc : Scope} {k : Nat} {i : Nat} {it : Sl} {r : Sl} {d : PyData} {q : Bool} (cf : Cf X M N sc k) (hN : N[i]? = some x) (hv : (locB (relS scope sc) x && ((scope.names.lookup x == some .cell) || loc1B (relS scope sc) x)) = true) (td : Dt r d)
    (h : ∀ Y Da acc, Blk X scope Y → Cf Y M N (relS scope sc) k → TR Y c (upS (inB G [i] Da acc) i it) q ∧ (q = true → ER Y elt (upS (inB G [i] Da acc) i it) r)) : LcOk X scope (.Name x pos) elt [c] [i] G it (if q then some d else none) := fun Da acc => by
  obtain ⟨h1, h2⟩ := Bool.and_eq_true_iff.mp hv
  exact ⟨_, q, r, d, rfl, td, fun Y hY => ⟨tgb_name (cf.nlB hY i hN h1 h2), (h Y Da acc hY (cf.blk hY)).1, (h Y Da acc hY (cf.blk hY)).2⟩⟩
theorem lcok_2 {M : Md} {N : List Str} {sc : Scope} {k : Nat} {i j : Nat} {y : Str} {px py : Pos} {kt : Nat} {d1 d2 : PyData} {r : Sl} {d : PyData} (cf : Cf X M N sc k) (hij : i ≠ j) (hN : N[i]? = some x) (hv : (locB (relS scope sc) x && ((scope.names.lookup x == some .cell) || loc1B (relS scope sc) x)) = true)
    (hN2 : N[j]? = some y) (hv2 : (locB (relS scope sc) y && ((scope.names.lookup y == some .cell) || loc1B (relS scope sc) y)) = true) (td : Dt r d)
    (h : ∀ Y Da acc, Blk X scope Y → Cf Y M N (relS scope sc) k → ER Y elt (upS (upS (inB G [i, j] Da acc) i (.d d1)) j (.d d2)) r) : LcOk X scope (.Tuple [.Name x px, .Name y py] kt pos) elt [] [i, j] G (.d (.tuple [d1, d2])) (some d) := fun Da acc => by
  obtain ⟨h1, h2⟩ := Bool.and_eq_true_iff.mp hv
  obtain ⟨h3, h4⟩ := Bool.and_eq_true_iff.mp hv2
  exact ⟨_, true, r, d, rfl, td, fun Y hY => ⟨tgb_tup2 (cf.blk hY).calm (cf.nlB hY i hN h1 h2) (cf.nlB hY j hN2 h3 h4) hij, rfl, fun _ => h Y Da acc hY (cf.blk hY)⟩⟩
theorem lcok_2t {M : Md} {N : List Str} {sc : Scope} {k : Nat} {i j : Nat} {y : Str} {px py : Pos} {kt : Nat} {d1 d2 : PyData} {r : Sl} {d : PyData} {q : Bool} (cf : Cf X M N sc k) (hij : i ≠ j) (hN : N[i]? = some x) (hv : (locB (relS scope sc) x && ((scope.names.lookup x == some .cell) || loc1B (relS scope sc) x)) = true)
    (hN2 : N[j]? = some y) (hv2 : (locB (relS scope sc) y && ((scope.names.lookup y == some .cell) || loc1B (relS scope sc) y)) = true) (td : Dt r d)
    (h : ∀ Y Da acc, Blk X scope Y → Cf Y M N (relS scope sc) k → TR Y c (upS (upS (inB G [i, j] Da acc) i (.d d1)) j (.d d2)) q ∧ (q = true → ER Y elt (upS (upS (inB G [i, j] Da acc) i (.d d1)) j (.d d2)) r)) : LcOk X scope (.Tuple [.Name x px, .Name y py] kt pos) elt [c] [i, j] G (.d (.tuple [d1, d2])) (if q then some d else none) := fun Da acc => by
  obtain ⟨h1, h2⟩ := Bool.and_eq_true_iff.mp hv
  obtain ⟨h3, h4⟩ := Bool.and_eq_true_iff.mp hv2
  exact ⟨_, q, r, d, rfl, td, fun Y hY => ⟨tgb_tup2 (cf.blk hY).calm (cf.nlB hY i hN h1 h2) (cf.nlB hY j hN2 h3 h4) hij, (h Y Da acc hY (cf.blk hY)).1, (h Y Da acc hY (cf.blk hY)).2⟩⟩
end
theorem fm_some {α : Type} (g : α → PyData) (xs : List α) : xs.filterMap (fun x => some (g x)) = xs.map g := by
  induction xs with
  | nil => rfl
  | cons a l ih => simp [ih]
theorem fm_if {α : Type} (p : α → Bool) (g : α → PyData) (xs : List α) : xs.filterMap (fun x => if p x then some (g x) else none) = (xs.filter p).map g := by
  induction xs with
  | nil => rfl
  | cons a l ih =>
    cases h : p a
    · simp [h, ih]
    · simp [h, ih]
end Rd
namespace Rd
open PySem PySem.Spec PyProof.Rows L2
/-! ### typed forms -/
section
variable {X : Cx} {G : Gm} {ra : Sl} {i : Int} {l : List Int} {lo hi : Option Int}
/-- the item at a place -/
def at0 (l : List Int) (i : Int) : Int := l.getD i.toNat 0
theorem ati_map (h0 : 0 ≤ i) (h1 : i < l.length) : atI (l.map PyData.int) i = some (.int (at0 l i)) := by
  obtain ⟨n, rfl⟩ := Int.eq_ofNat_of_zero_le h0
  refine atI_nat ?_
  have hn : n < l.length := by omega
  simp [at0, List.getD, hn]
theorem o_ixTI (h0 : 0 ≤ i) (h1 : i < l.length) : Ix2 X G (.d (.tuple (l.map .int))) (.d (.int i)) (.d (.int (at0 l i))) := o_ixT (ati_map h0 h1)
theorem o_ixLI (v : Lv G ra (l.map .int)) (h0 : 0 ≤ i) (h1 : i < l.length) : Ix2 X G ra (.d (.int i)) (.d (.int (at0 l i))) := o_ixL v (ati_map h0 h1)
theorem cut_map {α β : Type} (f : α → β) (l : List α) : cut (l.map f) lo hi = (cut l lo hi).map f := by
  unfold cut
  simp [List.map_drop, List.map_take]
theorem o_slTI : Sl3 X G (.d (.tuple (l.map .int))) lo hi (.d (.tuple ((cut l lo hi).map .int))) := by rw [← cut_map]; exact o_slT
theorem b_lenTI : Cb X G (.builtin "len") [.d (.tuple (l.map .int))] (.d (.int (l.length : Nat))) := by
  have := b_lenT (X := X) (G := G) (ds := l.map .int)
  rw [List.length_map] at this
  exact this
theorem dep_l {d e : PyData} (h : d.depth ≤ 60) : min d.depth e.depth ≤ 60 := by omega
theorem dep_r {d e : PyData} (h : e.depth ≤ 60) : min d.depth e.depth ≤ 60 := by omega
theorem dep_ints (l : List Int) : (PyData.tuple (l.map .int)).depth ≤ 60 := by
  unfold PyData.depth
  rw [PySem.W.depth_ints]; omega
theorem dep_intsL (l : List Int) : (PyData.list (l.map .int)).depth ≤ 60 := by
  unfold PyData.depth
  rw [PySem.W.depth_ints]; omega
end
end Rd
namespace Rd
open PySem PySem.Spec PyProof.Rows L2
section
variable {X : Cx} {a b c e tg iter elt : Expr} {G : Gm} {ra rb rc rz : Sl} {pos p p2 : Pos} {x : Str} {scope : Scope} {own : List (Str × Nat)} {ifs : List Expr} {α : Type}
theorem lcTm (enc : α → PyData) (xs : List α) (g : α → PyData) (own : List (Str × Nat)) (hc : X.calm = true) (hN : X.N.Nodup) (ok : BlkOk X.N X.env.scope scope own) (hi : ER X iter G (.d (.tuple (xs.map enc)))) (hn : xs.length ≤ sizeLine) (hf : ∀ x, foldedSetIterable iter X.env x = pure x) (h : ∀ x ∈ xs, LcOk X scope tg elt [] (own.map (·.2)) G (.d (enc x)) (some (g x))) : LC X elt tg iter [] scope G (xs.map g) := by
  rw [← fm_some]; exact lcT' enc xs _ hc hN ok hi hn (by decide) h hf
theorem lcTf (enc : α → PyData) (xs : List α) (q : α → Bool) (g : α → PyData) (own : List (Str × Nat)) (hc : X.calm = true) (hN : X.N.Nodup) (ok : BlkOk X.N X.env.scope scope own) (hi : ER X iter G (.d (.tuple (xs.map enc)))) (hn : xs.length ≤ sizeLine) (hf : ∀ x, foldedSetIterable iter X.env x = pure x) (h : ∀ x ∈ xs, LcOk X scope tg elt [c] (own.map (·.2)) G (.d (enc x)) (if q x then some (g x) else none)) : LC X elt tg iter [c] scope G ((xs.filter q).map g) := by
  rw [← fm_if]; exact lcT' enc xs _ hc hN ok hi hn (Nat.le_refl 1) h hf
theorem lcLm (enc : α → PyData) (xs : List α) (g : α → PyData) (own : List (Str × Nat)) (hc : X.calm = true) (hN : X.N.Nodup) (ok : BlkOk X.N X.env.scope scope own) (hi : ER X iter G ra) (kv : Lv G ra (xs.map enc)) (hn : xs.length ≤ sizeLine) (hf : ∀ x, foldedSetIterable iter X.env x = pure x) (h : ∀ x ∈ xs, LcOk X scope tg elt [] (own.map (·.2)) G (.d (enc x)) (some (g x))) : LC X elt tg iter [] scope G (xs.map g) := by
  rw [← fm_some]; exact lcL' enc xs _ hc hN ok hi kv hn (by decide) h hf
theorem lcLf (enc : α → PyData) (xs : List α) (q : α → Bool) (g : α → PyData) (own : List (Str × Nat)) (hc : X.calm = true) (hN : X.N.Nodup) (ok : BlkOk X.N X.env.scope scope own) (hi : ER X iter G ra) (kv : Lv G ra (xs.map enc)) (hn : xs.length ≤ sizeLine) (hf : ∀ x, foldedSetIterable iter X.env x = pure x) (h : ∀ x ∈ xs, LcOk X scope tg elt [c] (own.map (·.2)) G (.d (enc x)) (if q x then some (g x) else none)) : LC X elt tg iter [c] scope G ((xs.filter q).map g) := by
  rw [← fm_if]; exact lcL' enc xs _ hc hN ok hi kv hn (Nat.le_refl 1) h hf
theorem lcRm {hi : Int} (g : Int → PyData) (own : List (Str × Nat)) (t : BtR X) (hN : X.N.Nodup) (ok : BlkOk X.N X.env.scope scope own) (ha : EA X [a] G [.d (.int hi)]) (h0 : 0 ≤ hi) (hn : hi ≤ 16777216) (hst : starEach [a] X.env = [(false, eval a X.env)]) (hf : ∀ x, foldedSetIterable (.Call (.Name "range" p) [a] [] p2) X.env x = pure x)
    (h : ∀ z, 0 ≤ z → z < hi → LcOk X scope tg elt [] (own.map (·.2)) G (.d (.int z)) (some (g z))) : LC X elt tg (.Call (.Name "range" p) [a] [] p2) [] scope G ((rng 0 hi).map g) := by
  rw [← fm_some]; exact lcR1' _ t hN ok ha h0 hn (by decide) h hst hf
theorem lcRf {hi : Int} (q : Int → Bool) (g : Int → PyData) (own : List (Str × Nat)) (t : BtR X) (hN : X.N.Nodup) (ok : BlkOk X.N X.env.scope scope own) (ha : EA X [a] G [.d (.int hi)]) (h0 : 0 ≤ hi) (hn : hi ≤ 16777216) (hst : starEach [a] X.env = [(false, eval a X.env)]) (hf : ∀ x, foldedSetIterable (.Call (.Name "range" p) [a] [] p2) X.env x = pure x)
    (h : ∀ z, 0 ≤ z → z < hi → LcOk X scope tg elt [c] (own.map (·.2)) G (.d (.int z)) (if q z then some (g z) else none)) : LC X elt tg (.Call (.Name "range" p) [a] [] p2) [c] scope G (((rng 0 hi).filter q).map g) := by
  rw [← fm_if]; exact lcR1' _ t hN ok ha h0 hn (Nat.le_refl 1) h hst hf
theorem lcSm {lo hi : Int} (g : Int → PyData) (own : List (Str × Nat)) (t : BtR X) (hN : X.N.Nodup) (ok : BlkOk X.N X.env.scope scope own) (ha : EA X [a, b] G [.d (.int lo), .d (.int hi)]) (h0 : -100000 ≤ lo ∧ lo ≤ 100000 ∧ -100000 ≤ hi ∧ hi ≤ 100000) (hst : starEach [a, b] X.env = [(false, eval a X.env), (false, eval b X.env)]) (hs2 : starEach [b] X.env = [(false, eval b X.env)]) (hf : ∀ x, foldedSetIterable (.Call (.Name "range" p) [a, b] [] p2) X.env x = pure x)
    (h : ∀ z, lo ≤ z → z < hi → LcOk X scope tg elt [] (own.map (·.2)) G (.d (.int z)) (some (g z))) : LC X elt tg (.Call (.Name "range" p) [a, b] [] p2) [] scope G ((rng lo hi).map g) := by
  rw [← fm_some]; exact lcR2' _ t hN ok ha (by omega) (by omega) (by omega) (by omega) (by omega) (by decide) h hst hs2 hf
theorem lcSf {lo hi : Int} (q : Int → Bool) (g : Int → PyData) (own : List (Str × Nat)) (t : BtR X) (hN : X.N.Nodup) (ok : BlkOk X.N X.env.scope scope own) (ha : EA X [a, b] G [.d (.int lo), .d (.int hi)]) (h0 : -100000 ≤ lo ∧ lo ≤ 100000 ∧ -100000 ≤ hi ∧ hi ≤ 100000) (hst : starEach [a, b] X.env = [(false, eval a X.env), (false, eval b X.env)]) (hs2 : starEach [b] X.env = [(false, eval b X.env)]) (hf : ∀ x, foldedSetIterable (.Call (.Name "range" p) [a, b] [] p2) X.env x = pure x)
    (h : ∀ z, lo ≤ z → z < hi → LcOk X scope tg elt [c] (own.map (·.2)) G (.d (.int z)) (if q z then some (g z) else none)) : LC X elt tg (.Call (.Name "range" p) [a, b] [] p2) [c] scope G (((rng lo hi).filter q).map g) := by
  rw [← fm_if]; exact lcR2' _ t hN ok ha (by omega) (by omega) (by omega) (by omega) (by omega) (Nat.le_refl 1) h hst hs2 hf
variable {i j : Int} {l : List α}
theorem b_allM {q : α → Bool} (hc : X.calm = true) (v : Lv G ra (l.map fun x => PyData.bool (q x))) : Cb X G (.builtin "all") [ra] (.d (.bool (l.all q))) := by
  have := b_all (X := X) (G := G) (ra := ra) (bs := l.map q) hc (by rw [List.map_map]; exact v)
  rw [List.all_map] at this
  exact this
theorem b_anyM {q : α → Bool} (hc : X.calm = true) (v : Lv G ra (l.map fun x => PyData.bool (q x))) : Cb X G (.builtin "any") [ra] (.d (.bool (l.any q))) := by
  have := b_any (X := X) (G := G) (ra := ra) (bs := l.map q) hc (by rw [List.map_map]; exact v)
  rw [List.any_map] at this
  exact this
theorem b_sumM {q : α → Int} (hc : X.calm = true) (v : Lv G ra (l.map fun x => PyData.int (q x))) : Cb X G (.builtin "sum") [ra] (.d (.int (l.map q).sum)) :=
  b_sum hc (by rw [List.map_map]; exact v)
theorem b_maxM {q : α → Int} (hc : X.calm = true) (hu : Un X) (v : Lv G ra (l.map fun x => PyData.int (q x))) (hn : l ≠ []) : Cb X G (.builtin "max") [ra] (.d (.int (maxI (l.map q)))) :=
  b_max hc hu (by rw [List.map_map]; exact v) (by simpa using hn)
theorem b_minM {q : α → Int} (hc : X.calm = true) (hu : Un X) (v : Lv G ra (l.map fun x => PyData.int (q x))) (hn : l ≠ []) : Cb X G (.builtin "min") [ra] (.d (.int (minI (l.map q)))) :=
  b_min hc hu (by rw [List.map_map]; exact v) (by simpa using hn)
end
end Rd

namespace Rd
open PySem PySem.Spec PyProof.Rows L2
/-! ### the module's error classes -/
abbrev cE (M : Md) (x : Str) : Addr := He.ga M.K x
structure EcM (M : Md) (x : Str) : Prop where
  m : M.mg x = some (.ref (cE M x))
  xi : PySem.W.excIn M.K (cE M x) [.type "ValueError", .type "Exception", .type "BaseException", .type "object"] "ValueError.__new__" = true
  kp : PySem.W.keepIn M.K (.ref (cE M x)) = true
  su : PySem.W.subIn M.K (.ref (cE M x)) (.type "BaseException") = some true
  ty : PySem.W.typeIn M.K (.ref (cE M x)) = some (.type "type")
theorem EcM.ec {X : Cx} {M : Md} {N : List Str} {sc : Scope} {k : Nat} {x : Str} (e : EcM M x) (cf : Cf X M N sc k) (hv : (gloB sc x && okS x) = true) : Ec X x (cE M x) := by
  obtain ⟨h1, h2⟩ := Bool.and_eq_true_iff.mp hv
  refine ⟨cf.gl h1, by rw [cf.mg]; exact e.m, by rw [cf.K]; exact e.xi, by rw [cf.K]; exact e.kp, ?_, (okS_of h2).1⟩
  exact raises_own (by rw [cf.K]; exact e.su) (by rw [cf.K]; exact e.ty)
/-- a side, a board as data -/
abbrev dT (l : List Int) : PyData := .tuple (l.map .int)
abbrev dB (b : List Int × List Int) : PyData := .tuple [dT b.1, dT b.2]
end Rd
namespace Rd
open PySem PySem.Spec PyProof.Rows L2
section
variable {X : Cx} {G : Gm} {ra rb : Sl} {i : Int} {e o ix : Expr} {pos p2 : Pos} {D : De}
theorem flat_rep {α β : Type} (f : α → β) (c : α) : ∀ n : Nat, (List.replicate n [f c]).flatten = (List.replicate n c).map f
  | 0 => rfl
  | n + 1 => by simp [List.replicate_succ, flat_rep f c n]
theorem o_rep0 {c : Int} (h1 : 0 ≤ i) (h2 : i ≤ 1000000) : Op2 X G (binaryOp .Mult) (.f [.int c]) (.d (.int i)) (.f ((List.replicate i.toNat c).map .int)) := by
  rw [← flat_rep]
  exact o_repL Tv.f h1 (by omega) (by rw [sizeLine_eq]; simp; omega)
theorem o_catLI {l m : List Int} (va : Tv G ra (l.map .int)) (vb : Tv G rb (m.map .int)) (hz : l.length + m.length ≤ 1000000) : Op2 X G (binaryOp .Add) ra rb (.f ((l ++ m).map .int)) := by
  rw [List.map_append]
  exact o_catL va vb (by rw [sizeLine_eq]; simp; omega)
theorem o_catTI {l m : List Int} (hz : l.length + m.length ≤ 1000000) : Op2 X G (binaryOp .Add) (.d (.tuple (l.map .int))) (.d (.tuple (m.map .int))) (.d (.tuple ((l ++ m).map .int))) := by
  rw [List.map_append]
  exact o_catT (by rw [sizeLine_eq]; simp; omega)
theorem o_slLI {l : List Int} {lo hi : Option Int} (v : Lv G ra (l.map .int)) : Sl3 X G ra lo hi (.f ((cut l lo hi).map .int)) := by rw [← cut_map]; exact o_slL v
/-- the item at a place, anew -/
def set0 (l : List Int) (i v : Int) : List Int := l.set i.toNat v
theorem set0_len (l : List Int) (i v : Int) : (set0 l i v).length = l.length := by simp [set0]
theorem ws_storeI {v : Int} {a' : Addr} {l : List Int} {j : Nat} (he : ER X e G (.d (.int v))) (ho : ER X o G (.v (.ref a'))) (hi : ER X ix G (.d (.int i))) (hj : G.cs[j]? = some (a', .ls (l.map .int))) (h0 : 0 ≤ i) (h1 : i < l.length) (q : D.nx (upL G j a' ((set0 l i v).map .int)))
    (ha : ∀ v, assign (.Subscript o ix p2) X.env v = (do
      let ov ← holding [v] (eval o X.env)
      let iv ← holding [v, ov] (eval ix X.env)
      standAt p2
      holding [v, ov, iv] (setItem ov iv v)
      release [v, ov, iv] [])) (hsw : swapsWithSole [.Subscript o ix p2] e pos.line X.env = pure false) (hw : swappedStores [.Subscript o ix p2] e X.env = pure none)
    (hA : (assignEach [.Subscript o ix p2] X.env).map (·.2) = [assign (.Subscript o ix p2) X.env]) : WS X (.Assign [.Subscript o ix p2] e pos) G D := by
  refine ws_store (m := i.toNat) he .d ho hi hj ?_ ?_ ha hsw hw hA
  · unfold ixN; simp [h0, h1]
  · have e1 : (l.map PyData.int).set i.toNat (.int v) = (set0 l i v).map .int := by simp [set0, List.map_set]
    rw [e1]; exact q
theorem ws_augSI {op : Operator} {f : Int → Int → Int} {a' : Addr} {j : Nat} (hp : PIp X op (ipI f)) (ho : ER X o G (.v (.ref a')))
    (h : WE X ix G fun r G1 => ∃ (i : Int) (l : List Int) (v : Int), r = .d (.int i) ∧ G1.cs[j]? = some (a', .ls (l.map .int)) ∧ 0 ≤ i ∧ i < l.length ∧ ER X e G1 (.d (.int v)) ∧ D.nx (upL G1 j a' ((set0 l i (f (at0 l i) v)).map .int)))
    (ha : ∀ ov iv new, augStore ix ov iv new = (do holding [new, ov, iv] (setItem ov iv new); release [new, ov, iv] []; pure .next)) : WS X (.AugAssign (.Subscript o ix p2) op e pos) G D := by
  refine ws_augS (j := j) hp ho (fun σ H hs => wE_mono (h σ H hs) fun z H' ⟨r, G1, g1, hs1, k1, f1, i, l, v, er, hj, h0, h1, he, q⟩ => ⟨r, G1, g1, hs1, k1, f1, i.toNat, l.map .int, at0 l i, v, ?_, hj, ?_, he, ?_⟩) ha
  · rw [er, Int.toNat_of_nonneg h0]
  · have hn : i.toNat < l.length := by omega
    simp [at0, List.getD, hn]
  · have e1 : (l.map PyData.int).set i.toNat (.int (f (at0 l i) v)) = (set0 l i (f (at0 l i) v)).map .int := by simp [set0, List.map_set]
    rw [e1]; exact q
end
end Rd

namespace Rd
open PySem PySem.Spec PyProof.Rows L2
/-! ### literals, read at once -/
def seqO : List (Option PyData) → Option (List PyData)
  | [] => some []
  | none :: _ => none
  | some d :: t => match seqO t with
    | none => none
    | some ds => some (d :: ds)
def litE : Nat → Expr → Option PyData
  | 0, _ => none
  | _ + 1, .Constant (.int i) _ _ => some (.int i)
  | _ + 1, .Constant (.str i) _ _ => some (.str i)
  | _ + 1, .Constant (.bool i) _ _ => some (.bool i)
  | _ + 1, .Constant .none _ _ => some .none
  | n + 1, .Tuple es _ _ => match seqO (es.map (litE n)) with
    | some ds => if es.length ≤ sizeLine then some (.tuple ds) else none
    | none => none
  | _, _ => none
variable {X : Cx} {G : Gm}
def plainE : Expr → Bool
  | .Constant _ _ _ => true
  | .Tuple _ _ _ => true
  | _ => false
theorem plainLit : ∀ {n e d}, litE n e = some d → plainE e = true := by
  intro n e d h
  cases n with
  | zero => cases h
  | succ n =>
    unfold litE at h
    split at h <;> first | rfl | cases h
theorem starPlain {e : Expr} {es : List Expr} (h : plainE e = true) : starEach (e :: es) X.env = (false, eval e X.env) :: starEach es X.env := by
  cases e <;> first | rfl | cases h
theorem lit_ok : ∀ n e d, litE n e = some d → ER X e G (.d d) := by
  intro n
  induction n with
  | zero => intro e d h; cases h
  | succ n ih =>
    have hl : ∀ es ds, seqO (es.map (litE n)) = some ds → EA X es G (ds.map Sl.d) ∧ DtL (ds.map Sl.d) ds ∧ ds.length = es.length := by
      intro es
      induction es with
      | nil => intro ds h; cases h; exact ⟨ea_nil, .nil, rfl⟩
      | cons e es ihs =>
        intro ds h
        rw [List.map_cons] at h
        cases he : litE n e with
        | none => rw [he] at h; cases h
        | some d =>
          rw [he] at h
          cases ht : seqO (es.map (litE n)) with
          | none => unfold seqO at h; rw [ht] at h; cases h
          | some t =>
            unfold seqO at h; rw [ht] at h; cases h
            obtain ⟨q1, q2, q3⟩ := ihs t ht
            exact ⟨ea_cons (ih e d he) q1 (starPlain (plainLit he)), .cons .d q2, by simp [q3]⟩
    intro e d h
    unfold litE at h
    split at h
    · cases h
    · cases h; exact er_int
    · cases h; exact er_str
    · cases h; exact er_bl
    · cases h; exact er_non
    · rename_i m es k p hn
      split at h
      · rename_i ds hd
        split at h
        · rename_i hz
          cases h
          cases hn
          obtain ⟨q1, q2, q3⟩ := hl es ds hd
          exact er_tup q1 q2 (by rw [List.length_map, q3]; exact hz)
        · cases h
      · cases h
    · cases h
theorem er_litT {e d} (h : litE 6 e = some d) : ER X e G (.d d) := lit_ok 6 e d h
theorem er_litL {es ds pos} (h : seqO (es.map (litE 6)) = some ds) (hz : es.length ≤ sizeLine) : ER X (.List es pos) G (.f ds) := by
  have hl : ∀ es ds, seqO (es.map (litE 6)) = some ds → EA X es G (ds.map Sl.d) ∧ DtL (ds.map Sl.d) ds ∧ ds.length = es.length := by
    intro es
    induction es with
    | nil => intro ds h; cases h; exact ⟨ea_nil, .nil, rfl⟩
    | cons e es ihs =>
      intro ds h
      rw [List.map_cons] at h
      cases he : litE 6 e with
      | none => rw [he] at h; cases h
      | some d =>
        rw [he] at h
        cases ht : seqO (es.map (litE 6)) with
        | none => unfold seqO at h; rw [ht] at h; cases h
        | some t =>
          unfold seqO at h; rw [ht] at h; cases h
          obtain ⟨q1, q2, q3⟩ := ihs t ht
          exact ⟨ea_cons (lit_ok 6 e d he) q1 (starPlain (plainLit he)), .cons .d q2, by simp [q3]⟩
  obtain ⟨q1, q2, q3⟩ := hl es ds h
  exact er_lst q1 q2 (by rw [List.length_map, q3]; exact hz)
end Rd

namespace Rd
open PySem PySem.Spec PyProof.Rows L2
/-! ### defs that draw: the script, the town, whatever is drawn -/
/-- of data, at most so many draws, what may come -/
abbrev Tl := List PyData → Nat → (Sl → Prop) → Prop
def spT (K : Fg) (T : Tl) : Sp := fun vs H Q E => ∃ (A : List Addr) (sv : V) (t : Addr) (rest : List V) (ds : List PyData) (ns zs : List Int) (c : Nat) (P : Sl → Prop), vs = sv :: .ref t :: rest ∧ (∀ b ∈ A, H b ≠ none) ∧ t ∈ A ∧
  Dm A K H sv (.list (ns.map .int)) ∧ DmL A K H rest ds ∧ H t = some (.lst (zs.map V.int)) ∧ T ds c P ∧ zs.length + c ≤ 1000000 ∧
  ∀ (v : V) (H' : Hp) (s : Sl) (zs' : List Int), ExB [t] H H' → H' t = some (.lst (zs'.map V.int)) → zs'.length ≤ zs.length + c → P s → SlOk A K H' (some v) s → Fre A K H H' v s → Q v H'
structure FcT (X : Cx) (x : Str) (T : Tl) : Prop where
  ex : ∃ (k : Nat) (f : Addr) (fd : FuncData) (ps : List Str), FnOk X.prog X.w X.K X.mg X.base (L2.CX X.prog X.w) k f fd ps (spT X.K T) ∧ Room k X.A ∧ X.mg x = some (.ref f) ∧ PySem.W.keepIn X.K (.ref f) = true ∧ Binds X.K fd ps []
  g : Gl X x
  d : (x == ("__debug__" : Str)) = false
structure DfT (M : Md) (x : Str) (T : Tl) (k : Nat) : Prop where
  ex : ∃ (f : Addr) (fd : FuncData) (ps : List Str), FnOk M.P M.w M.K M.mg M.base (L2.CX M.P M.w) k f fd ps (spT M.K T) ∧ M.mg x = some (.ref f) ∧ PySem.W.keepIn M.K (.ref f) = true ∧ Binds M.K fd ps []
theorem Cf.fcT {X : Cx} {M : Md} {N : List Str} {sc : Scope} {k j : Nat} {x : Str} {T : Tl} (cf : Cf X M N sc k) (d : DfT M x T j) (hjk : j ≤ k) (hv : (gloB sc x && okS x) = true) : FcT X x T := by
  obtain ⟨h1, h2⟩ := Bool.and_eq_true_iff.mp hv
  obtain ⟨f, fd, ps, a, b, c, d⟩ := d.ex
  refine ⟨⟨k, f, fd, ps, ?_, cf.room, ?_, ?_, ?_⟩, cf.gl h1, (okS_of h2).1⟩
  · rw [cf.P, cf.w, cf.K, cf.mg, cf.base]; exact a.mono hjk
  · rw [cf.mg]; exact b
  · rw [cf.K]; exact c
  · rw [cf.K]; exact d
section
variable {X : Cx} {e : Expr} {es : List Expr} {G : Gm} {pos p : Pos} {x : Str}
theorem Hs.putE {K : Fg} {σ : L2.St} {H H' : Hp} {j : Nat} {a : Addr} {c : Cl} {xs : List V} {ds : List PyData} (h : Hs K G σ H) (hj : G.cs[j]? = some (a, c)) (e : ExB [a] H H') (ea' : H' a = some (.lst xs)) (t : DmL G.av K H' xs ds) : Hs K (upL G j a ds) σ H' := by
  have hm : a ∈ G.ad := List.mem_map.mpr ⟨_, List.mem_of_getElem? hj, rfl⟩
  have ea : (upL G j a ds).ad = G.ad := upL_ad hj
  have ev : (upL G j a ds).av = G.av := by unfold Gm.av; rw [ea]
  have e' : ExB G.av H H' := e.sub fun b hb => by rw [List.mem_singleton.mp hb]; exact List.mem_append_left _ hm
  refine ⟨⟨fun b o q => ?_, by rw [ea]; exact h.hh.nd, fun b hb => h.hh.fr b (by rw [← ea]; exact hb), fun b hb => by rw [ea]; exact h.hh.out b hb, fun p hp => ?_⟩, ?_⟩
  · have : b ≠ a := fun z => by subst z; have := h.hh.fr b hm; have q' : G.B b = some o := q; rw [this] at q'; cases q'
    exact e b o (by simpa using this) (h.hh.ex b o q)
  · rw [ev]
    obtain ⟨n, en⟩ := List.mem_iff_getElem?.mp hp
    by_cases hjn : j = n
    · subst hjn
      have hl := (List.getElem?_eq_some_iff.mp hj).1
      have en' : (G.cs.set j (a, Cl.ls ds))[j]? = some p := en
      rw [List.getElem?_set_self hl] at en'
      cases en'
      exact ⟨xs, ea', t⟩
    · have en' : (G.cs.set j (a, Cl.ls ds))[n]? = some p := en
      rw [List.getElem?_set_ne hjn] at en'
      have hne : p.1 ≠ a := fun z => by
        have h1 : (G.cs.map (·.1))[n]? = some a := by rw [List.getElem?_map, en']; simp [z]
        have h2 : (G.cs.map (·.1))[j]? = some a := by rw [List.getElem?_map, hj]; rfl
        exact hjn (L2.nd_ix h.hh.nd h2 h1)
      exact (h.hh.cl p (List.mem_of_getElem? en')).to (fun _ q => e'.trans q) fun o eo => e _ _ (by simpa using hne) eo
  · rw [ev]; exact h.sl.to fun _ q => e'.trans q
/-- a def that draws, called -/
theorem we_callT {T : Tl} {Q : Sl → Gm → Prop} (F : FcT X x T) (h : WA X (e :: es) G fun rs G1 => ∃ (ns : List Int) (t : Addr) (j : Nat) (zs : List Int) (ds : List PyData) (c : Nat) (P : Sl → Prop) (rs' : List Sl), rs = .d (.list (ns.map .int)) :: .v (.ref t) :: rs' ∧ DtL rs' ds ∧ G1.cs[j]? = some (t, .ls (zs.map .int)) ∧ T ds c P ∧ zs.length + c ≤ 1000000 ∧ ∀ (zs' : List Int) (s : Sl), zs'.length ≤ zs.length + c → P s → Q s (upL G1 j t (zs'.map .int)))
    (he : starEach (e :: es) X.env = (false, eval e X.env) :: starEach es X.env := by rfl) (hpl : (backTo pos (starEach es X.env)).any (·.1) = false := by rfl) : WE X (.Call (.Name x p) (e :: es) [] pos) G Q := fun σ H hs => by
  obtain ⟨k, f, fd, ps, h1, h2, h3, h4, h5⟩ := F.ex
  refine wE_of (pe_call h1 h2 F.g h3 h4 h5 .nil passL pA F.d he hpl) (wA_mono (h σ H hs) fun vs H1 ⟨rs, G1, g1, hs1, k1, ns, t, j, zs, ds, c, P, rs', er, td, hj, hT, hc, q1⟩ => ?_)
  subst er
  cases k1 with
  | @cons sv _ _ _ ka kb =>
    cases kb with
    | @cons tv rest _ _ kb kc =>
      have e2 : some tv = some _ := kb
      cases e2
      have hm : t ∈ G1.ad := List.mem_map.mpr ⟨_, List.mem_of_getElem? hj, rfl⟩
      obtain ⟨xs, h6, h7⟩ := hs1.hh.cl _ (List.mem_of_getElem? hj)
      have e7 := h7.ints
      subst e7
      refine ⟨G1.av, sv, t, rest, ds, ns, zs, c, P, by rw [List.append_nil], av_there hs1, List.mem_append_left _ hm, ka.get, td.ok kc, h6, hT, hc, fun v H' s zs' e1 e2 hl hP hk hf => ?_⟩
      have e' : ExB G1.av H1 H' := e1.sub fun b hb => by rw [List.mem_singleton.mp hb]; exact List.mem_append_left _ hm
      have ev : (upL G1 j t (zs'.map .int)).av = G1.av := by unfold Gm.av; rw [upL_ad hj]
      refine ⟨s, upL G1 j t (zs'.map .int), g1.trans ⟨rfl, rfl, rfl, upL_ad hj, e'⟩, hs1.putE hj e1 e2 (DmL.of_ints zs'), by rw [ev]; exact hk, ?_, q1 zs' s hl hP⟩
      rw [ev]
      exact hf.exb (by rw [g1.av]; exact g1.ex) (fun a hn => hs1.hh.new hn)
end
/-- how what is returned is told, the j-th cell not -/
inductive RtN (j : Nat) (G : Gm) : Sl → Sl → Prop
  | d {d : PyData} : RtN j G (.d d) (.d d)
  | f {ds : List PyData} : RtN j G (.f ds) (.f ds)
  | fd {ds : List PyData} : RtN j G (.f ds) (.d (.list ds))
  | ld {ds : List PyData} : RtN j G (.l ds) (.d (.list ds))
  | c {a : Addr} {ds : List PyData} (i : Nat) : i ≠ j → G.cs[i]? = some (a, .ls ds) → RtN j G (.v (.ref a)) (.f ds)
  | cd {a : Addr} {ds : List PyData} (i : Nat) : i ≠ j → G.cs[i]? = some (a, .ls ds) → RtN j G (.v (.ref a)) (.d (.list ds))
abbrev outOf (H : Hp) (t : Addr) : Hp := fun b => if b = t then none else H b
abbrev entT (A : List Addr) (B : Hp) (N : List Str) (t : Addr) (ns zs : List Int) (ds : List PyData) : Gm := ⟨A, B, .d (.list (ns.map .int)) :: .v (.ref t) :: (ds.map .d ++ List.replicate (N.length - (ds.length + 2)) .no), [(t, .ls (zs.map .int))]⟩
abbrev rtT (A : List Addr) (B : Hp) (t : Addr) (n : Nat) (P : Sl → Prop) : De where
  nx := fun G => G.B = B ∧ G.A0 = A ∧ ∃ (j : Nat) (zs : List Int), G.cs[j]? = some (t, .ls (zs.map .int)) ∧ zs.length ≤ n ∧ P (.d .none)
  rt := fun s G => G.B = B ∧ G.A0 = A ∧ ∃ (j : Nat) (zs : List Int), G.cs[j]? = some (t, .ls (zs.map .int)) ∧ zs.length ≤ n ∧ ∃ s', RtN j G s s' ∧ P s'
theorem fnT {M : Md} {x : Str} {st : Stmt} {f : Addr} {fd : FuncData} {N ps : List Str} {k : Nat} {T : Tl} (F : FnP M.K x st f fd) (hm : M.mg x = some (.ref f)) (hb : Binds M.K fd ps []) (S : FnScope N ps (defScope st)) (hlen : ∀ ds c P, T ds c P → ds.length + 2 = ps.length) (hN : ps.length ≤ N.length)
    (h : ∀ X, Cf X M N (defScope st) k → (∀ y, X.fn y = true) → XOk X (fun _ _ => False) → ∀ A B t ns zs ds c P, T ds c P → zs.length + c ≤ 1000000 → WB X (defBody st) (entT A B N t ns zs ds) (rtT A B t (zs.length + c) P)) : DfT M x T (k + 1) := by
  refine ⟨f, fd, ps, FunD.ok F S (fun vs H Q E ⟨A, sv, t, rest, ds, ns, zs, c, P, e1, _, _, _, td, _, hT, _⟩ => by rw [e1, List.length_cons, List.length_cons, td.length, ← hlen ds c P hT]) (fun cdv A outer s H vs Q E hr hsp => ?_), hm, F.kp, hb⟩
  obtain ⟨A1, sv, t, rest, ds, ns, zs, c, P, e1, hA, ht, hsv, td, hz, hT, hc, hq⟩ := hsp
  subst e1
  refine ⟨_, pB, ?_⟩
  have own : PassesOwn (model M.P M.w) (A.deeper (envOfC x (defScope st) s.heap.objs.size f cdv)) (envOfC x (defScope st) s.heap.objs.size f cdv) (cxOf (L2.CX M.P M.w) M.P M.w M.K M.mg M.base N x (defScope st) f cdv A outer s H E).xe := PassesOwn.leaving
  have cf : Cf (cxOf (L2.CX M.P M.w) M.P M.w M.K M.mg M.base N x (defScope st) f cdv A outer s H E) M N (defScope st) k := ⟨rfl, rfl, rfl, rfl, rfl, rfl, rfl, rfl, hr, S.nd⟩
  have tA : ∀ b ∈ A1, outOf H t b ≠ none ∨ b = t := fun b hb => by
    by_cases hbt : b = t
    · exact .inr hbt
    · refine .inl ?_
      show (if b = t then none else H b) ≠ none
      rw [if_neg hbt]; exact hA b hb
  have sub : ∀ b, b ∈ t :: A1 → b ∈ A1 := fun b hb => by
    rcases List.mem_cons.mp hb with q | q
    · rw [q]; exact ht
    · exact q
  have hlN : N.length - (rest.length + 1 + 1) = N.length - (ds.length + 2) := by rw [td.length]
  have sl0 : SlA (t :: A1) M.K H (L2.start N (sv :: .ref t :: rest)) (.d (.list (ns.map .int)) :: .v (.ref t) :: (ds.map .d ++ List.replicate (N.length - (ds.length + 2)) .no)) := by
    unfold L2.start
    rw [List.map_cons, List.map_cons, List.cons_append, List.cons_append]
    refine .cons (SlOk.ofD (hsv.less sub)) (.cons rfl ?_)
    have g := sl_start (N := List.replicate (N.length - 2) ("" : Str)) (td.less sub)
    unfold L2.start at g
    rw [List.length_replicate] at g
    have e1 : N.length - 2 - rest.length = N.length - (sv :: V.ref t :: rest).length := by simp only [List.length_cons]; omega
    have e2 : N.length - 2 - ds.length = N.length - (ds.length + 2) := by omega
    rw [e1, e2] at g
    exact g
  have hh0 : Hs M.K (entT A1 (outOf H t) N t ns zs ds) (L2.start N (sv :: .ref t :: rest)) H := by
    refine ⟨⟨fun b o q => ?_, (by show [t].Nodup; simp), ?_, fun b hb => ?_, ?_⟩, sl0⟩
    · have q' : (if b = t then none else H b) = some o := q
      by_cases hbt : b = t
      · rw [if_pos hbt] at q'; cases q'
      · rw [if_neg hbt] at q'; exact q'
    · intro a ha
      have ha' : a ∈ [t] := ha
      have : a = t := List.mem_singleton.mp ha'
      rw [this]
      show (if t = t then none else H t) = none
      rw [if_pos rfl]
    · rcases tA b hb with q | q
      · exact .inl q
      · exact .inr (by rw [q]; show t ∈ [t]; simp)
    · intro p hp
      have hp' : p ∈ [(t, Cl.ls (zs.map .int))] := hp
      have : p = (t, .ls (zs.map .int)) := List.mem_singleton.mp hp'
      rw [this]
      exact ⟨_, hz, DmL.of_ints zs⟩
  have exO : ∀ {G' : Gm} {H' : Hp}, Hh M.K G' H' → G'.B = outOf H t → ExB [t] H H' := fun h1 e2 b o nb eb => h1.ex b o (by
    rw [e2]
    show (if b = t then none else H b) = some o
    rw [if_neg (by simpa using nb)]; exact eb)
  have W := h _ cf (fun _ => rfl) ⟨own, ⟨rfl, rfl, rfl⟩, fun cls d σ' H' => E cls d H', takes_of rfl rfl rfl rfl, fun C G σ' H' hs z => z.elim⟩ A1 (outOf H t) t ns zs ds c P hT hc (L2.start N (sv :: .ref t :: rest)) H hh0
  refine wB_mono W (fun σ' H' ⟨G', h1, _, e2, e3, j, zs', hj, hl, hP⟩ => ?_) (fun v H' ⟨s1, G', h1, k1, f1, e2, e3, j, zs', hj, hl, s', rt, hP⟩ => ?_) (fun _ _ ⟨_, _, _, z⟩ => z) (fun _ _ ⟨_, _, _, z⟩ => z)
  · obtain ⟨xs, h6, h7⟩ := h1.hh.cl _ (List.mem_of_getElem? hj)
    have e7 := h7.ints
    subst e7
    exact hq .non H' _ zs' (exO h1.hh e2) h6 hl hP (SlOk.ofD .non) trivial
  · obtain ⟨xs, h6, h7⟩ := h1.cl _ (List.mem_of_getElem? hj)
    have e7 := h7.ints
    subst e7
    have rt' : Rt G' s1 s' := by
      cases rt with
      | d => exact .d
      | f => exact .f
      | fd => exact .fd
      | ld => exact .ld
      | c i _ hi => exact .c i hi
      | cd i _ hi => exact .cd i hi
    have out : ∀ a, s1 = .v (.ref a) → a ∉ G'.A0 := fun a ea hin => by
      have key : ∀ i ds, i ≠ j → G'.cs[i]? = some (a, .ls ds) → False := fun i ds hij hi => by
        have hat : a ≠ t := fun z => by
          subst z
          have q1 : (G'.cs.map (·.1))[i]? = some a := by rw [List.getElem?_map, hi]; rfl
          have q2 : (G'.cs.map (·.1))[j]? = some a := by rw [List.getElem?_map, hj]; rfl
          exact hij (L2.nd_ix h1.nd q1 q2)
        have hfr := h1.fr a (List.mem_map.mpr ⟨_, List.mem_of_getElem? hi, rfl⟩)
        rw [e2] at hfr
        rcases tA a (by rw [← e3]; exact hin) with q | q
        · exact q hfr
        · exact hat q
      subst ea
      cases rt with
      | c i hij hi => exact key i _ hij hi
      | cd i hij hi => exact key i _ hij hi
    obtain ⟨q1, q2⟩ := rt'.ok h1 k1 f1 out
    rw [e3] at q1 q2
    rw [e2] at q2
    refine hq v H' s' zs' (exO h1 e2) h6 hl hP q1 ?_
    cases s' with
    | f ds =>
      obtain ⟨a, xs, g1, g2, g3, g4⟩ := q2
      refine ⟨a, xs, g1, ?_, g3, g4⟩
      have g2' : (if a = t then none else H a) = none := g2
      by_cases hat : a = t
      · exfalso
        subst hat
        subst g1
        cases rt with
        | f =>
          obtain ⟨a', xs', r1, r2, r3⟩ := k1
          have r1' : a = a' := by cases r1; rfl
          subst r1'
          obtain ⟨a2, xs2, w1, w2, w3, w4⟩ := f1
          cases w1
          have := r2 (upd H' a (.tup [])) (ExB.at_ (List.mem_append_left _ (List.mem_map.mpr ⟨_, List.mem_of_getElem? hj, rfl⟩)))
          rw [upd_same] at this
          cases this
        | c i hij hi =>
          have e4 : some (V.ref a) = some _ := k1
          cases e4
          have q1 : (G'.cs.map (·.1))[i]? = some a := by rw [List.getElem?_map, hi]; rfl
          have q2 : (G'.cs.map (·.1))[j]? = some a := by rw [List.getElem?_map, hj]; rfl
          exact hij (L2.nd_ix h1.nd q1 q2)
      · rw [if_neg hat] at g2'; exact g2'
    | _ => trivial
end Rd

namespace Rd
open PySem PySem.Spec PyProof.Rows L2
/-! ### an exception that is caught and held -/
theorem exH_ok {P : Program} {w : World} {H : Hp} {h : Heap} {a C : Addr} {oe : Obj} {vs : Array Value} (e : h.get? a = some oe) (z : Zc (.ref C) none oe) (d : oe.data = .fields vs) : ObjOk P w H h a (ExH C a) :=
  ⟨⟨oe, vs, e, z, d⟩, ⟨oe, e⟩, fun _ _ ⟨o, v, q, r⟩ k => ⟨o, v, k o q, r⟩⟩
theorem inv_track {X : Cx} {pins : List (Addr × Obj)} {σ : L2.St} {H : Hp} {s : Shared} {a C : Addr} {oe : Obj} {vs : Array Value} (I : L2.Inv X pins σ H s) (na : H a = none) (n0 : X.s_0.heap.get? a = none) (nL : a ≠ X.env.locals) (np : ∀ p ∈ X.pn ++ pins, p.1 ≠ a) (e : s.heap.get? a = some oe) (z : Zc (.ref C) none oe) (d : oe.data = .fields vs) :
    L2.Inv X pins σ (upd H a (ExH C a)) s := by
  have old : ∀ b o, X.s_0.heap.get? b = some o → b ≠ a := fun b o q r => by rw [r, n0] at q; cases q
  have nc : ∀ x c, X.env.cells.lookup x = some c → c ≠ a := fun x c q r => by
    obtain ⟨v, oc, h1, h2⟩ := I.cell x c q
    rw [r, e] at h1
    cases h1
    rw [d] at h2
    cases h2
  have kn : ∀ {b : Addr} {u : HO}, H b = some u → upd H a (ExH C a) b = some u := fun {b u} q => by rw [upd_ne (ne_of_none q na)]; exact q
  exact ⟨I.ok, I.os, I.bare, ⟨I.base.keep, I.base.slot, fun b o q n hq => by rw [upd_ne (old b o q)]; exact I.base.free b o q n hq, I.base.there, fun b xs q => kn (I.base.tups b xs q), fun b o u q => kn (I.base.frzs b o u q), fun b ps q => by
      obtain ⟨m, r⟩ := I.base.tbls b ps q
      exact ⟨m, kn r⟩⟩, I.loc, I.cell, by rw [upd_ne (Ne.symm nL)]; exact I.free, fun x c q => by rw [upd_ne (nc x c q)]; exact I.freeC x c q, fun p hp => by
      obtain ⟨p1, p2, p3⟩ := I.pin p hp
      exact ⟨p1, by rw [upd_ne (np p hp)]; exact p2, p3⟩, HOk.laidN I.hok (fun _ _ q => q) na (exH_ok e z d), I.len⟩
/-- what the clause wishes: slot i is the clause's name -/
def wHd (K : PySem.W.Frag) (c : Value) (i : Nat) (ts : Addr → TS) (Wout : WX) (D : Ends) : WX := fun cls d σ H =>
  ∃ b, PySem.W.exmOne K cls c = some b ∧ (b = true → ∃ C, cls = .ref C ∧ d = none ∧ ∀ a, H a = none → ts a { nx := fun σ' H' => D.nx (σ'.set i none) (upd H' a (ExH C a)), rt := fun _ _ => False, bk := fun _ _ => False, ct := fun _ _ => False } (σ.set i (some (.ref a))) H) ∧ (b = false → Wout cls d σ H)
section
variable {X : Cx} {x n : Str} {c : Value} {i : Nat} {body suite : List Stmt} {b0 : Stmt} {np pos pos' : Pos} {tb : WX → TS} {ts : Addr → TS} {Wout : WX}
theorem ps_tryH (st : X.stack = X.env :: X.outer) (fr : X.env.frame = some X.env.locals) (ex0 : X.ex = []) (nd : X.N.Nodup) (ni : X.N[i]? = some n) (lo : X.env.kindOf n = some .local) (nc : Names X x c) (tk : Takes X Wout)
    (pb : ∀ (W : WX) (pn : List (Addr × Obj)) (xe : Value → Shared → Prop), Takes (X.tr pn xe) W → PassesOwn (model X.prog X.w) X.A X.env xe → PSs (X.tr pn xe) body (tb W))
    (psu : ∀ (a : Addr) (oe : Obj) (pn : List (Addr × Obj)), PSs (X.suite a ((a, oe) :: pn)) (b0 :: suite) (ts a)) :
    PS X (.Try body [.ExceptHandler (some (.Name x np)) (some n) (b0 :: suite) pos'] [] [] pos) (fun D σ H => tb (wHd X.K c i ts Wout D) D σ H) := by
  refine ⟨fun pins s σ H D inv want => ?_⟩
  have okX := inv.ok
  have frms : X.A.frames = some (X.env :: X.outer) := by rw [okX.frames, st]
  refine wpAny_Try_except ?_
  let after : Value → Shared → Prop := fun ev t1 => wpAny (model X.prog X.w) X.A (noteFrame ev X.env) (fun _ t2 => wpAny (model X.prog X.w) X.A (setFlight ev none) (fun _ t3 =>
    wpAny (model X.prog X.w) X.A (handleBy ev X.env [.ExceptHandler (some (.Name x np)) (some n) (b0 :: suite) pos']) (SP X pins D) X.xe t3) X.xe t2) X.xe t1
  have catch_ : Takes (X.tr (X.pn ++ pins) after) (wHd X.K c i ts Wout D) := by
    intro u s' fly
    obtain ⟨a, Bh, s1, pins1, σ1, H1, cls, d, rfl, inv1', knows, ups, sky, new1, os1, bare1, b, exm, yes, no⟩ := fly
    have inv1 : L2.Inv X pins σ1 H1 s1 := inv1'.ofTry okX
    have sky2 : Sky Bh (X.env :: X.outer) a (Zc cls d) X.env.locals s'.heap := by rw [← st]; exact sky
    show wpAny (model X.prog X.w) X.A (noteFrame (.ref a) X.env) _ _ _
    refine Sky.land Zc.steady frms fr sky2 fun g3 fly3 up3 => ?_
    have inv3 : L2.Inv X pins σ1 H1 { s' with heap := g3 } := inv1.landed knows fly3.1 (ups.trans up3) os1 bare1
    obtain ⟨o3, v3, at3, zc3, da3⟩ := fly3.there
    have noFr : a ∉ frs (X.env :: X.outer) := fun hm => by
      obtain ⟨_, o', e', hnf⟩ := fly3.2.2.1.mem hm
      rw [at3] at e'; cases e'
      exact hnf _ da3
    have noLoc : a ≠ X.env.locals := fun z => noFr (List.mem_filterMap.mpr ⟨X.env, List.mem_cons_self, by rw [fr, z]⟩)
    have noFs : a ∉ X.fs := fun hm => by
      obtain ⟨e, he, q⟩ := List.mem_filterMap.mp hm
      exact noFr (List.mem_filterMap.mpr ⟨e, List.mem_cons_of_mem _ he, q⟩)
    have none1 : s1.heap.get? a = none := by
      cases q : s1.heap.get? a with
      | none => rfl
      | some o =>
        have r := knows a o q (by rw [st]; exact noFr)
        rw [fly3.2.1] at r
        cases r
    have none0 : X.s_0.heap.get? a = none := by
      cases q : X.s_0.heap.get? a with
      | none => rfl
      | some o =>
        obtain ⟨o', r⟩ := inv1.base.there a o q (by rw [ex0]; exact fun z => nomatch z)
        rw [none1] at r
        cases r
    have pinNe : ∀ p ∈ X.pn ++ pins, p.1 ≠ a := fun p hp z => by
      have r := (inv1.pin p hp).1
      rw [z, none1] at r
      cases r
    have inS3 := inv3.suite at3 da3 new1 noLoc noFs
    refine wpAny_handleBy_cons (codeAny_handlers_test ?_) (by intro q; cases q)
    have lkT : PySem.W.Looks (model X.prog X.w) g3 (typeOf (.ref a)) cls := fun A Q E s k q => wpAny_typeOf_ref (k _ _ at3) (by rw [zc3.1]; exact q)
    have lkM := PySem.W.exm_one (M := model X.prog X.w) (inv3.kIn) lkT exm
    have nameC : ∀ {Q : Value → Shared → Prop} {E : Value → Shared → Prop}, Q c { s' with heap := g3 } → wpAny (model X.prog X.w) (X.A.mark (some (.ref a))) (eval (.Name x np) X.env) Q E { s' with heap := g3 } := fun {Q E} q => by
      obtain ⟨hg, hdbg, hm | ⟨hm, hv, hnn⟩⟩ := nc
      · exact ld_glob (X := X.suite a ((a, o3) :: (X.pn ++ pins))) inS3 hg hm q hdbg
      · exact ld_blt (X := X.suite a ((a, o3) :: (X.pn ++ pins))) inS3 hg hm hv q hnn hdbg
    refine nameC (lkM.here ?_)
    cases b with
    | true =>
      obtain ⟨C, ecls, ed, run⟩ := yes rfl
      subst ecls
      subst ed
      refine codeAny_handlers_suite_as ?_
      refine HandSPX.lands_againZ fly3 fun g4 fly4 up4 => ?_
      have inv4 : L2.Inv X pins σ1 H1 { s' with heap := g4 } := inv1.landed knows fly4.1 ((ups.trans up3).trans up4) os1 bare1
      obtain ⟨o4, v4, at4, zc4, da4⟩ := fly4.there
      have inS4 := inv4.suite at4 da4 new1 noLoc noFs
      refine store_ok (X := X.suite a ((a, o4) :: (X.pn ++ pins))) (v := .ref a) inS4 nd ni (.inl lo) rfl (fun s5 inS5 => ?_) (.inr lo)
      refine wpAny_mono ((psu a o4 (X.pn ++ pins)).run [] s5 _ H1 _ inS5 (run a new1)) (fun fl s6 sp => ?_) (fun _ _ z => False.elim z)
      cases fl with
      | next =>
        obtain ⟨σ6, H6, inS6, q6⟩ := sp
        obtain ⟨g1, g2, _⟩ := inS6.pin (a, o4) (List.mem_append.mpr (.inl List.mem_cons_self))
        exact gone_ok (inv_track (inS6.unsuite okX) g2 none0 noLoc pinNe g1 zc4 da4) nd ni lo fun s7 inv7 => ⟨_, _, inv7, q6⟩
      | brk =>
        obtain ⟨_, _, _, q6⟩ := sp
        exact q6.elim
      | cont =>
        obtain ⟨_, _, _, q6⟩ := sp
        exact q6.elim
      | ret u =>
        obtain ⟨_, _, _, _, _, q6⟩ := sp
        exact q6.elim
    | false =>
      show wpAny _ X.A (handleBy (.ref a) X.env []) _ _ _
      refine wpAny_handleBy_nil ?_
      obtain ⟨_, _, _, o5, v5, Tr, oT, tss, at5, zc5, da5, fst5, rst5⟩ := id fly3
      unfold PySem.passOn
      refine wpAny_bind (wpAny_field at5 da5 fst5 ?_)
      rw [if_neg (show ¬ ((Value.ref Tr == Value.none) = true) from by simp)]
      have onward : wpAny (model X.prog X.w) X.A (setFlight (.ref a) X.env.frame) (fun _ t4 => wpAny (model X.prog X.w) X.A (throw (.ref a) : Sem Flow) (SP X pins D) X.xe t4) X.xe { s' with heap := g3 } := by
        rw [fr]
        refine HandSPX.setFlight_upZ fly3 fun g4 hold4 up4 => wpAny_throw (tk _ _ ?_)
        exact ⟨a, Bh, s1, pins, σ1, H1, cls, d, rfl, inv1, knows, (ups.trans up3).trans up4, .inr (.inr (by rw [st]; exact hold4)), new1, os1, bare1, no rfl⟩
      first
        | exact wpAny_bind (wpAny_pure (wpAny_bind onward))
        | exact wpAny_bind onward
  refine wpAny_mono ((pb (wHd X.K c i ts Wout D) (X.pn ++ pins) after catch_ PassesOwn.looking).run [] s σ H D (inv.toTry _) want) (fun fl s1 sp => ?_) (fun _ _ he => he)
  cases fl with
  | next =>
    obtain ⟨σ', H', inv', q⟩ := sp
    exact wpAny_execs_nil ⟨σ', H', inv'.ofTry okX, q⟩
  | brk =>
    obtain ⟨σ', H', inv', q⟩ := sp
    exact ⟨σ', H', inv'.ofTry okX, q⟩
  | cont =>
    obtain ⟨σ', H', inv', q⟩ := sp
    exact ⟨σ', H', inv'.ofTry okX, q⟩
  | ret u =>
    obtain ⟨v, σ', H', inv', r, q⟩ := sp
    exact ⟨v, σ', H', inv'.ofTry okX, r, q⟩
end
end Rd

namespace Rd
open PySem PySem.Spec PyProof.Rows L2
/-! ### asking a held exception for its class -/
theorem cr_isX {X : Cx} {C : Addr} (E : ExcC X.K C) : CallR X (.builtin "isinstance") (fun vs H Q => ∃ (a : Addr) (c : V) (cv : Value) (b : Bool), vs = [.ref a, c] ∧ H a = some (ExH C a) ∧ (∀ u, RelV c u → u = cv) ∧ PySem.W.kitOne X.K (.ref C) cv = some b ∧ Q (.bl b) H) := by
  intro pins s σ H vs us Q inv r h
  obtain ⟨a, c, cv, b, rfl, ha, hcv, e, q⟩ := h
  cases r with
  | cons rx rr =>
    cases rr with
    | cons rt rr =>
      cases rr
      cases rx
      have ec := hcv _ rt
      subst ec
      have ok : ObjOk X.prog X.w H s.heap a (.ext fun h => ∃ (oe : Obj) (vs : Array Value), h.get? a = some oe ∧ Zc (.ref C) none oe ∧ oe.data = .fields vs) := inv.hok a _ ha
      obtain ⟨⟨oe, vs, hget, hz, hd⟩, _⟩ := ok
      have J : PySem.W.InstAt s.heap a oe C none := by
        obtain ⟨oc, od, oda, osl⟩ := oe
        obtain ⟨h1, h2⟩ := hz
        dsimp only at h1 h2 hd
        subst h1 h2 hd
        exact ⟨hget, rfl, rfl, trivial⟩
      exact PySem.W.kia_one (PySem.W.handS_kitx_exc E.hg E.hk E.hs E.hd E.ha E.hn E.ht E.hm) inv.kIn J e (fun z => nomatch z) fun tk => ⟨.bl b, H, inv.kept (t' := tk) fun _ _ z => z, rfl, q⟩
section
variable {X : Cx} {G : Gm} {C c : Addr} {b : Bool}
theorem b_isX (E : ExcC X.K C) (k : PySem.W.kitOne X.K (.ref C) (.ref c) = some b) : Cb X G (.builtin "isinstance") [.x C, .v (.ref c)] (.d (.bool b)) :=
  ⟨_, cr_isX E, fun _ H vs _ hs h0 kk => by
    obtain ⟨x, y, rfl, h1, h2⟩ := h0.two
    have e : some y = some _ := h2
    cases e
    obtain ⟨a, e1, h3⟩ := h1
    cases e1
    exact ⟨a, _, .ref c, b, rfl, h3 _ .refl, (fun u r => by cases r; rfl), k, kk _ _ (PR.d .refl (.bl _))⟩⟩
theorem b_isXT {T : String} (E : ExcC X.K C) (k : PySem.W.kitOne X.K (.ref C) (.type T) = some b) : Cb X G (.builtin "isinstance") [.x C, .v (.ty T)] (.d (.bool b)) :=
  ⟨_, cr_isX E, fun _ H vs _ hs h0 kk => by
    obtain ⟨x, y, rfl, h1, h2⟩ := h0.two
    have e : some y = some _ := h2
    cases e
    obtain ⟨a, e1, h3⟩ := h1
    cases e1
    exact ⟨a, _, .type T, b, rfl, h3 _ .refl, (fun u r => by cases r; rfl), k, kk _ _ (PR.d .refl (.bl _))⟩⟩
end
/-! ### defs of a held exception -/
abbrev Xl := Addr → PyData → Prop
def spX (K : Fg) (R : Xl) : Sp := fun vs H Q _ => ∃ (A : List Addr) (C a : Addr) (d : PyData), vs = [.ref a] ∧ (∀ b ∈ A, H b ≠ none) ∧ a ∉ A ∧ H a = some (ExH C a) ∧ R C d ∧ ∀ v H', PRA A K H (.d d) v H' → Q v H'
structure FcX (X : Cx) (x : Str) (R : Xl) : Prop where
  ex : ∃ (k : Nat) (f : Addr) (fd : FuncData) (ps : List Str), FnOk X.prog X.w X.K X.mg X.base (L2.CX X.prog X.w) k f fd ps (spX X.K R) ∧ Room k X.A ∧ X.mg x = some (.ref f) ∧ PySem.W.keepIn X.K (.ref f) = true ∧ Binds X.K fd ps []
  g : Gl X x
  d : (x == ("__debug__" : Str)) = false
structure DfX (M : Md) (x : Str) (R : Xl) (k : Nat) : Prop where
  ex : ∃ (f : Addr) (fd : FuncData) (ps : List Str), FnOk M.P M.w M.K M.mg M.base (L2.CX M.P M.w) k f fd ps (spX M.K R) ∧ M.mg x = some (.ref f) ∧ PySem.W.keepIn M.K (.ref f) = true ∧ Binds M.K fd ps []
theorem Cf.fcX {X : Cx} {M : Md} {N : List Str} {sc : Scope} {k j : Nat} {x : Str} {R : Xl} (cf : Cf X M N sc k) (d : DfX M x R j) (hjk : j ≤ k) (hv : (gloB sc x && okS x) = true) : FcX X x R := by
  obtain ⟨h1, h2⟩ := Bool.and_eq_true_iff.mp hv
  obtain ⟨f, fd, ps, a, b, c, d⟩ := d.ex
  refine ⟨⟨k, f, fd, ps, ?_, cf.room, ?_, ?_, ?_⟩, cf.gl h1, (okS_of h2).1⟩
  · rw [cf.P, cf.w, cf.K, cf.mg, cf.base]; exact a.mono hjk
  · rw [cf.mg]; exact b
  · rw [cf.K]; exact c
  · rw [cf.K]; exact d
theorem SlL.one' {A : List Addr} {K : Fg} {H : Hp} {vs : List V} {s : Sl} (h : SlL A K H vs [s]) : ∃ x, vs = [x] ∧ SlOk A K H (some x) s := by
  cases h with
  | cons a b => cases b; exact ⟨_, rfl, a⟩
theorem er_callH {X : Cx} {x : Str} {R : Xl} {e : Expr} {G : Gm} {C : Addr} {d : PyData} {p pos : Pos} (F : FcX X x R) (ha : EA X [e] G [.x C]) (h : R C d) (he : starEach [e] X.env = (false, eval e X.env) :: starEach [] X.env := by rfl) (hpl : (backTo pos (starEach [] X.env)).any (·.1) = false := by rfl) :
    ER X (.Call (.Name x p) [e] [] pos) G (.d d) := fun σ H hs => by
  obtain ⟨k, f, fd, ps, h1, h2, h3, h4, h5⟩ := F.ex
  refine wE_of (pe_call h1 h2 F.g h3 h4 h5 .nil passL pA F.d he hpl) (wA_mono (ha σ H hs) fun vs H1 q => ?_)
  obtain ⟨y, rfl, a, e1, h6⟩ := q.2.one'
  cases e1
  refine ⟨G.av, C, a, d, rfl, av_there (hs.ext q.1), fun hm => ?_, h6 _ .refl, h, fun v H' z => PRA.later q.1 z⟩
  have := h6 (upd H1 a (.tup [])) (ExB.at_ hm)
  rw [upd_same] at this
  cases this
theorem fnX {M : Md} {x : Str} {st : Stmt} {f : Addr} {fd : FuncData} {N : List Str} {y : Str} {k : Nat} {R : Xl} (F : FnP M.K x st f fd) (hm : M.mg x = some (.ref f)) (hb : Binds M.K fd [y] []) (S : FnScope N [y] (defScope st)) (hN : 1 ≤ N.length)
    (h : ∀ X, Cf X M N (defScope st) k → (∀ y, X.fn y = true) → XOk X (fun _ _ => False) → ∀ A B C d, R C d → WB X (defBody st) ⟨A, B, .x C :: List.replicate (N.length - 1) .no, []⟩ (rtD A B (.ok (.d d)))) : DfX M x R (k + 1) := by
  refine ⟨f, fd, [y], FunD.ok F S (fun vs H Q E ⟨A, C, a, d, e1, _⟩ => by rw [e1]; rfl) (fun cdv A outer s H vs Q E hr hsp => ?_), hm, F.kp, hb⟩
  obtain ⟨A1, C, a, d, rfl, hA, na, ha, hR, hq⟩ := hsp
  refine ⟨_, pB, ?_⟩
  have own : PassesOwn (model M.P M.w) (A.deeper (envOfC x (defScope st) s.heap.objs.size f cdv)) (envOfC x (defScope st) s.heap.objs.size f cdv) (cxOf (L2.CX M.P M.w) M.P M.w M.K M.mg M.base N x (defScope st) f cdv A outer s H E).xe := PassesOwn.leaving
  have cf : Cf (cxOf (L2.CX M.P M.w) M.P M.w M.K M.mg M.base N x (defScope st) f cdv A outer s H E) M N (defScope st) k := ⟨rfl, rfl, rfl, rfl, rfl, rfl, rfl, rfl, hr, S.nd⟩
  have hh0 : Hs M.K ⟨A1, H, .x C :: List.replicate (N.length - 1) .no, []⟩ (L2.start N [.ref a]) H := by
    refine ⟨⟨fun _ _ e => e, List.nodup_nil, (fun _ z => nomatch z), fun b hb => Or.inl (hA b hb), (fun _ z => nomatch z)⟩, ?_⟩
    refine .cons ⟨a, rfl, fun H' q => q a _ na ha⟩ ?_
    have g := sl_start (A := A1) (K := M.K) (H := H) (N := List.replicate (N.length - 1) ("" : Str)) DmL.nil
    unfold L2.start at g
    rw [List.length_replicate] at g
    exact g
  have W := h _ cf (fun _ => rfl) ⟨own, ⟨rfl, rfl, rfl⟩, fun cls d σ' H' => E cls d H', takes_of rfl rfl rfl rfl, fun C G σ' H' hs z => z.elim⟩ A1 H C d hR (L2.start N [.ref a]) H hh0
  refine wB_mono W (fun σ' H' ⟨G', h1, _, e1, e2, e3⟩ => ?_) (fun v H' ⟨s1, G', h1, k1, f1, e2, e3, s', e1, rt⟩ => ?_) (fun _ _ ⟨_, _, _, z⟩ => z) (fun _ _ ⟨_, _, _, z⟩ => z)
  · have e0 : PyData.none = d := by cases e1; rfl
    subst e0
    exact hq .non H' ⟨fun b o _ eb => h1.hh.ex b o (by rw [e2]; exact eb), SlOk.ofD .non, trivial⟩
  · cases e1
    have hA' : ∀ b ∈ G'.A0, G'.B b ≠ none := by rw [e2, e3]; exact hA
    obtain ⟨q1, q2⟩ := rt.ok h1 k1 f1 fun a ea => by
      subst ea
      cases rt with
      | cd j hj => exact cell_out h1 hA' a (List.mem_map.mpr ⟨_, List.mem_of_getElem? hj, rfl⟩)
    rw [e3] at q1 q2
    rw [e2] at q2
    exact hq v H' ⟨fun b o _ eb => h1.ex b o (by rw [e2]; exact eb), q1, q2⟩
/-! ### try: .. except x as n: y = n -/
def TrX (X Y : Cx) : Prop := ∃ pn xe, Y = X.tr pn xe
theorem Cf.tr {X Y : Cx} {M : Md} {N : List Str} {sc : Scope} {k : Nat} (cf : Cf X M N sc k) (h : TrX X Y) : Cf Y M N sc k := by
  obtain ⟨pn, xe, rfl⟩ := h
  exact ⟨cf.P, cf.w, cf.K, cf.mg, cf.base, cf.nN, cf.sc, cf.calm, cf.room, cf.nd⟩
theorem TrX.fn {X Y : Cx} (h : TrX X Y) (f : ∀ y, X.fn y = true) : ∀ y, Y.fn y = true := by
  obtain ⟨pn, xe, rfl⟩ := h
  exact f
abbrev inTry (G G1 : Gm) : Gm := { G1 with B := G.B }
abbrev tryD (B : Hp) (G : Gm) (D : De) : De where
  nx := fun G1 => G1.B = B ∧ G1.A0 = G.A0 ∧ D.nx (inTry G G1)
  rt := fun r G1 => G1.B = B ∧ G1.A0 = G.A0 ∧ D.rt r (inTry G G1)
  bk := fun G1 => G1.B = B ∧ G1.A0 = G.A0 ∧ D.bk (inTry G G1)
  ct := fun G1 => G1.B = B ∧ G1.A0 = G.A0 ∧ D.ct (inTry G G1)
abbrev heldS (G1 : Gm) (i j : Nat) (C : Addr) : Gm := { G1 with sl := ((G1.sl.set i .no).set j (.x C)).set i .no }
theorem ws_tryH {X : Cx} {G : Gm} {D : De} {Er : Addr → Gm → Prop} {x n y : Str} {c : Value} {i j : Nat} {body : List Stmt} {np p1 p2 p3 pos pos' : Pos} (hx : XOk X Er) (ni : Nl X i n) (vi : Nm X i n) (lo : X.env.kindOf n = some .local) (nj : Nl X j y) (nc : Names X x c)
    (h : ∀ Y B, TrX X Y → XOk Y (fun C G1 => G1.B = B ∧ G1.A0 = G.A0 ∧ ∃ b, PySem.W.exmOne X.K (.ref C) c = some b ∧ (b = true → i < G1.sl.length ∧ D.nx (heldS (inTry G G1) i j C)) ∧ (b = false → Er C (inTry G G1))) → WB Y body { G with B := B } (tryD B G D))
    (hsw : swapsWith (.Name n p2) (some (.Name y p1)) p3.line X.env = pure false := by rfl) : WS X (.Try body [.ExceptHandler (some (.Name x np)) (some n) [.Assign [.Name y p1] (.Name n p2) p3] pos'] [] [] pos) G D := fun σ H hs => by
  obtain ⟨own, ⟨st, fr, ex0⟩, W0, tk0, to0⟩ := hx
  let B' : Hp := fun b => if b ∈ G.ad then none else H b
  have bIn : ∀ b o, G.B b = some o → B' b = some o := fun b o q => by
    show (if b ∈ G.ad then none else H b) = some o
    rw [if_neg fun z => by rw [hs.hh.fr b z] at q; cases q]
    exact hs.hh.ex b o q
  have adN : ∀ b, b ∈ G.ad → B' b = none := fun b hb => by
    show (if b ∈ G.ad then none else H b) = none
    rw [if_pos hb]
  have adO : ∀ b, b ∉ G.ad → B' b = H b := fun b hb => by
    show (if b ∈ G.ad then none else H b) = H b
    rw [if_neg hb]
  have fwd : Hs X.K { G with B := B' } σ H := by
    refine ⟨⟨fun b o q => ?_, hs.hh.nd, adN, fun b hb => ?_, hs.hh.cl⟩, hs.sl⟩
    · by_cases z : b ∈ G.ad
      · have q' : B' b = some o := q
        rw [adN b z] at q'; cases q'
      · have q' : B' b = some o := q
        rw [adO b z] at q'; exact q'
    · by_cases z : b ∈ G.ad
      · exact .inr z
      · refine .inl ?_
        show B' b ≠ none
        rw [adO b z]
        rcases hs.hh.out b hb with q | q
        · cases r : G.B b with
          | none => exact absurd r q
          | some o => rw [hs.hh.ex b o r]; exact fun w => nomatch w
        · exact absurd q z
  have frB : ∀ a, B' a = none → G.B a = none := fun a z => by
    cases q : G.B a with
    | none => rfl
    | some o => rw [bIn a o q] at z; cases z
  have back : ∀ {G1 : Gm} {H1 : Hp}, Hh X.K G1 H1 → G1.B = B' → G1.A0 = G.A0 → Hh X.K (inTry G G1) H1 := fun {G1 H1} h1 e e2 => by
    refine ⟨fun b o q => h1.ex b o (by rw [e]; exact bIn b o q), h1.nd, fun a ha => frB a (by rw [← e]; exact h1.fr a ha), fun b hb => ?_, h1.cl⟩
    have hb' : b ∈ G1.A0 := hb
    rcases hs.hh.out b (by rw [← e2]; exact hb') with q | q
    · exact .inl q
    · rcases h1.out b hb' with r | r
      · rw [e, adN b q] at r; exact absurd rfl r
      · exact .inr r
  have gs : ∀ {G1 : Gm} {H1 : Hp}, Hh X.K G1 H1 → G1.B = B' → G1.A0 = G.A0 → Gs G H G1 H1 := fun {G1 H1} h1 e e2 => by
    refine ⟨fun b o nb q => h1.ex b o ?_, fun a ha => ?_⟩
    · rw [e, adO b fun z => nb (List.mem_append_left _ z)]; exact q
    · rcases List.mem_append.mp ha with q | q
      · have z := h1.fr a q
        rw [e] at z
        by_cases r : a ∈ G.ad
        · exact .inl (List.mem_append_left _ r)
        · rw [adO a r] at z; exact .inr z
      · exact .inl (List.mem_append_right _ (by rw [← e2]; exact q))
  have bk2 : ∀ {G1 : Gm} {σ1 : L2.St} {H1 : Hp}, Hs X.K G1 σ1 H1 → G1.B = B' → G1.A0 = G.A0 → Hs X.K (inTry G G1) σ1 H1 := fun h1 e e2 => ⟨back h1.hh e e2, h1.sl⟩
  refine wS_of (ps_tryH (ts := fun _ => tAsg (tVar i) (gName j)) (tb := fun W D σ H => ∀ pn xe, Takes (X.tr pn xe) W → PassesOwn (model X.prog X.w) X.A X.env xe → wB (X.tr pn xe) body D σ H) st fr ex0 ni.nd ni.n lo nc tk0 (fun W pn xe t o => ⟨fun pins s σ H D I w => (w pn xe t o).go pins s I⟩)
    (fun a oe pn => pss_one (ps_set (X := X.suite a ((a, oe) :: pn)) nj.nd nj.n nj.l (pe_var (X := X.suite a ((a, oe) :: pn)) ni.n vi.v vi.d vi.c) hsw nj.f))) ?_
  intro pn xe t o
  have tr : TrX X (X.tr pn xe) := ⟨pn, xe, rfl⟩
  have W := h (X.tr pn xe) B' tr ⟨o, ⟨st, fr, ex0⟩, _, t, fun C G1 σ1 H1 hs1 ⟨e1, e2, b, exm, yes, no⟩ => ⟨b, exm, fun hb => ⟨C, rfl, rfl, fun a na => ?_⟩, fun hb => to0 C _ σ1 H1 (bk2 hs1 e1 e2) (no hb)⟩⟩ σ H fwd
  · refine wB_mono W (fun σ1 H1 ⟨G1, h1, _, e1, e2, q⟩ => ⟨_, bk2 h1 e1 e2, ?_, q⟩) (fun v H1 ⟨r, G1, h1, k1, f1, e1, e2, q⟩ => ⟨r, _, back h1 e1 e2, k1, ?_, q⟩) (fun σ1 H1 ⟨G1, h1, _, e1, e2, q⟩ => ⟨_, bk2 h1 e1 e2, ?_, q⟩) (fun σ1 H1 ⟨G1, h1, _, e1, e2, q⟩ => ⟨_, bk2 h1 e1 e2, ?_, q⟩)
    · exact ⟨(gs (G1 := G1) h1.hh e1 e2).ex, (gs (G1 := G1) h1.hh e1 e2).av⟩
    · cases r with
      | f ds =>
        obtain ⟨a, xs, z1, z2, z3⟩ := f1
        exact ⟨a, xs, z1, frB a (by rw [← e1]; exact z2), z3⟩
      | _ => trivial
    · exact ⟨(gs (G1 := G1) h1.hh e1 e2).ex, (gs (G1 := G1) h1.hh e1 e2).av⟩
    · exact ⟨(gs (G1 := G1) h1.hh e1 e2).ex, (gs (G1 := G1) h1.hh e1 e2).av⟩
  · obtain ⟨hil, qn⟩ := yes hb
    have hlen : i < σ1.length := by rw [hs1.sl.length]; exact hil
    refine ⟨.ref a, ?_, ?_⟩
    · rw [List.getElem?_set_self hlen]
    · have e3 : ExB [] H1 (upd H1 a (ExH C a)) := ExB.new na
      have hs2 := (bk2 hs1 e1 e2).ext e3
      have nav : a ∉ (inTry G G1).av := hs1.hh.new na
      refine ⟨heldS (inTry G G1) i j C, ?_, ?_, qn⟩
      · have s1 := hs2.set i (o := some (.ref a)) (s := .no) trivial
        have s2 := s1.set j (o := some (.ref a)) (s := .x C) ⟨a, rfl, fun H' q => q a _ nav upd_same⟩
        exact s2.set i (o := none) (s := .no) trivial
      · have g := gs hs1.hh e1 e2
        exact ⟨g.ex.trans e3.all, g.av⟩
end Rd

namespace Rd
open PySem PySem.Spec PyProof.Rows L2
/-! ### list.count, list.index -/
theorem mt_countD {X : Cx} (hu : Un X) : MtR X "list.count" (fun x xs H Q => ∃ (a : Addr) (y : V) (d : PyData) (ds : List PyData) (ys : List V), x = .ref a ∧ xs = [y] ∧ SqL X.K H a ys ∧ DpAll X.K H ys ds ∧ Dp X.K H y d ∧ PyData.plainAll ds = true ∧ d.plain = true ∧ d.depth ≤ 60 ∧ Q (.int ((ds.countP fun y => PyData.eqv y d : Nat) : Int)) H) := by
  intro pins s σ H x xs v us Q inv rx rxs h
  obtain ⟨a, y, d, ds, ys, rfl, rfl, hs, hys, hy, pl, pd, hd, q⟩ := h
  cases rx
  cases rxs with
  | cons ry rt =>
    cases rt
    obtain ⟨bs, r1⟩ := Dp.reads inv d y _ hy ry
    obtain ⟨its, rv, hl, _⟩ := inv.list hs
    obtain ⟨as, hr⟩ := Dp.readsAll inv _ _ its hys rv
    exact SeqAt.count_list_data hl.isList hr r1 pl pd (by unfold Un at hu; omega) ⟨.int _, H, inv.kept fun _ _ z => z, ⟨_, rfl⟩, q⟩
section
variable {X : Cx} {G : Gm} {o e : Expr} {ra rb : Sl} {ds : List PyData} {d : PyData} {apos cpos : Pos}
theorem er_count (hu : Un X) (ho : ER X o G ra) (va : Lv G ra ds) (he : ER X e G rb) (vb : Vw G rb d) (pl : PyData.plainAll ds = true) (pd : d.plain = true) (hd : d.depth ≤ 60)
    (hbase : attributeBase o "count" X.env (eval o X.env) = eval o X.env := by rfl)
    (hfew : ((backTo cpos (starEach [e] X.env)).all (fun x => !x.1) && (backToKw cpos (keywordEach [] X.env)).all (fun x => x.1.isSome) && decide ([e].length + ([] : List Keyword).length + (if ([] : List Keyword).isEmpty then 0 else 1) < 30)) = true := by rfl)
    (hline : (apos.endLine == cpos.line) = true := by rfl) (hst : starEach [e] X.env = (false, eval e X.env) :: starEach [] X.env := by rfl) (hplain : (backTo cpos (starEach [] X.env)).any (·.1) = false := by rfl) :
    ER X (.Call (.Attribute o "count" apos) [e] [] cpos) G (.d (.int ((ds.countP fun y => PyData.eqv y d : Nat) : Int))) := fun σ H hs => by
  refine wE_of (pe_bm PySem.F.plainAttrs_list PySem.F.slot_list_count PySem.F.type_list_count (mt_countD hu) pE (pa_cons pE pa_nil hst) hbase hfew hline hst hplain) ?_
  refine wE_mono (ho σ H hs) fun y H1 p1 => ?_
  have hs1 := hs.ext p1.1
  obtain ⟨a, xs, rfl, h1, h2⟩ := va.ok hs1 p1.2.1
  refine ⟨Or.inl ⟨rfl, _, h1⟩, wE_mono (he σ H1 hs1) fun w H2 p2 => ?_⟩
  have hs2 := hs1.ext p2.1
  obtain ⟨a', xs', e', h3, h4⟩ := va.ok hs2 (p1.2.1.mono p2.1.all)
  cases e'
  exact ⟨_, _, d, ds, _, rfl, rfl, h3, h4.dp _ _, (vb.ok hs2 p2.2.1).dp _ _, pl, pd, hd, PR.d (p1.1.trans p2.1) (.int _)⟩
theorem er_indexB {bs : List Bool} {j : Nat} (ho : ER X o G ra) (va : Lv G ra (bs.map .bool)) (he : ER X e G (.d (.bool true))) (hj : bs[j]? = some true) (hno : ∀ m, m < j → bs[m]? = some false)
    (hbase : attributeBase o "index" X.env (eval o X.env) = eval o X.env := by rfl)
    (hfew : ((backTo cpos (starEach [e] X.env)).all (fun x => !x.1) && (backToKw cpos (keywordEach [] X.env)).all (fun x => x.1.isSome) && decide ([e].length + ([] : List Keyword).length + (if ([] : List Keyword).isEmpty then 0 else 1) < 30)) = true := by rfl)
    (hline : (apos.endLine == cpos.line) = true := by rfl) (hst : starEach [e] X.env = (false, eval e X.env) :: starEach [] X.env := by rfl) (hplain : (backTo cpos (starEach [] X.env)).any (·.1) = false := by rfl) :
    ER X (.Call (.Attribute o "index" apos) [e] [] cpos) G (.d (.int (j : Nat))) := fun σ H hs => by
  refine wE_of (pe_bm PySem.F.plainAttrs_list PySem.F.slot_list_index PySem.F.type_list_index mt_index pE (pa_cons pE pa_nil hst) hbase hfew hline hst hplain) ?_
  refine wE_mono (ho σ H hs) fun y H1 p1 => ?_
  have hs1 := hs.ext p1.1
  obtain ⟨a, xs, rfl, h1, h2⟩ := va.ok hs1 p1.2.1
  refine ⟨Or.inl ⟨rfl, _, h1⟩, wE_mono (he σ H1 hs1) fun w H2 p2 => ?_⟩
  have hs2 := hs1.ext p2.1
  obtain ⟨a', xs', e', h3, h4⟩ := va.ok hs2 (p1.2.1.mono p2.1.all)
  cases e'
  have e4 := h4.bools
  subst e4
  have ew := p2.2.1.bl
  subst ew
  refine ⟨_, _, .bl true, j, .bl true, rfl, rfl, h3, rfl, ?_, ?_, rfl, ?_, PR.d (p1.1.trans p2.1) (.int _)⟩
  · rw [List.all_map]; exact List.all_eq_true.mpr fun _ _ => rfl
  · rw [List.getElem?_map, hj]; rfl
  · intro m z hm hz
    rw [List.getElem?_map, hno m hm] at hz
    cases hz
    rfl
end
theorem Ec.er {X : Cx} {G : Gm} {x : Str} {C : Addr} {pos : Pos} (e : Ec X x C) : ER X (.Name x pos) G (.v (.ref C)) := er_gcV ⟨e.g, ⟨_, e.m, rfl⟩, e.d⟩
/-! ### the classes of the errors that are held -/
def errs : List Str := ["BadBoard", "BadText", "BadStep", "BadPlay", "BadRoll", "Over", "TooFar"]
structure XcM (M : Md) (x : Str) : Prop where
  ec : ExcC M.K (cE M x)
  ra : PySem.W.exmOne M.K (.ref (cE M x)) (.ref (cE M "RaceError")) = some true
  ve : PySem.W.kitOne M.K (.ref (cE M x)) (.type "ValueError") = some true
  is : ∀ y ∈ errs, PySem.W.kitOne M.K (.ref (cE M x)) (.ref (cE M y)) = some (x == y)
def XcB (K : Fg) (x : Str) : Bool :=
  decide (PySem.W.findIn K (.ref (He.ga K x)) "__getattribute__" = some (some (.builtin "BaseException.__getattribute__"))) &&
  (decide (PySem.W.findIn K (.ref (He.ga K x)) "__getattr__" = some none) &&
  (decide (PySem.W.subIn K (.ref (He.ga K x)) (.type "BaseException") = some true) &&
  (PySem.W.hasDictIn K (He.ga K x) &&
  (decide (PySem.W.findIn K (.ref (He.ga K x)) "__class__" = some (some (.builtin "object.__class__"))) &&
  (decide (PySem.W.specialIn K (.builtin "object.__class__") "__get__" = some (some (.builtin "getset_descriptor.__get__"))) &&
  (decide (PySem.W.takesIn K (.builtin "object.__class__") = some true) &&
  (decide (PySem.W.mroIn K (He.ga K x) (.type "object") = some true) &&
  (decide (PySem.W.exmOne K (.ref (He.ga K x)) (.ref (He.ga K "RaceError")) = some true) &&
  (decide (PySem.W.kitOne K (.ref (He.ga K x)) (.type "ValueError") = some true) &&
  errs.all fun y => decide (PySem.W.kitOne K (.ref (He.ga K x)) (.ref (He.ga K y)) = some (x == y)))))))))))
theorem XcB.ok {M : Md} {x : Str} (h : XcB M.K x = true) : XcM M x := by
  unfold XcB at h
  simp only [Bool.and_eq_true, decide_eq_true_eq, List.all_eq_true] at h
  obtain ⟨h1, h2, h3, h4, h5, h6, h7, h8, h9, h10, h11⟩ := h
  exact ⟨⟨h1, h2, h3, h4, h5, h6, h7, h8⟩, h9, h10, h11⟩
theorem b_isXM {X : Cx} {G : Gm} {M : Md} {N : List Str} {sc : Scope} {k : Nat} {x y : Str} (cf : Cf X M N sc k) (h : XcM M x) (hy : y ∈ errs) : Cb X G (.builtin "isinstance") [.x (cE M x), .v (.ref (cE M y))] (.d (.bool (x == y))) :=
  b_isX (by rw [cf.K]; exact h.ec) (by rw [cf.K]; exact h.is y hy)
theorem b_isXV {X : Cx} {G : Gm} {M : Md} {N : List Str} {sc : Scope} {k : Nat} {x : Str} (cf : Cf X M N sc k) (h : XcM M x) : Cb X G (.builtin "isinstance") [.x (cE M x), .v (.ty "ValueError")] (.d (.bool true)) :=
  b_isXT (by rw [cf.K]; exact h.ec) (by rw [cf.K]; exact h.ve)
end Rd

namespace Rd
open PySem PySem.Spec PyProof.Rows L2
/-! ### the law itself -/
def spL (K : Fg) : Sp := fun vs H Q _ => ∃ (a : Addr) (ns : List Int), vs = [.ref a] ∧ ns.length ≤ 63 ∧ SqL K H a (ns.map V.int) ∧ ∀ H', Q (.bl true) H'
theorem sql_ext {K : Fg} {H H' : Hp} {a : Addr} {xs : List V} (h : SqL K H a xs) (e : ExB [] H H') : SqL K H' a xs := by
  rcases h with h | h
  · left
    rcases h with h | ⟨o, h⟩
    · exact .inl (e _ _ (fun z => nomatch z) h)
    · exact .inr ⟨o, e _ _ (fun z => nomatch z) h⟩
  · exact .inr h
theorem fnL {M : Md} {st : Stmt} {f : Addr} {fd : FuncData} {N : List Str} {k : Nat} (F : FnP M.K "law" st f fd) (S : FnScope N ["script"] (defScope st))
    (h : ∀ X, Cf X M N (defScope st) k → (∀ y, X.fn y = true) → XOk X (fun _ _ => False) → ∀ (B : Hp) (ns : List Int), ns.length ≤ 63 → WB X (defBody st) (ent [] B N [.list (ns.map .int)]) (rtD [] B (.ok (.d (.bool true))))) : FnOk M.P M.w M.K M.mg M.base L2.CX0 (k + 1) f fd ["script"] (spL M.K) := by
  refine FunD.ok F S (fun vs H Q E ⟨a, ns, e, _⟩ => by rw [e]; rfl) (fun cdv A outer s H vs Q E hr hsp => ?_)
  obtain ⟨a, ns, rfl, hn, hS, hq⟩ := hsp
  have cf : Cf (cxOf L2.CX0 M.P M.w M.K M.mg M.base N "law" (defScope st) f cdv A outer s H E).nox M N (defScope st) k := ⟨rfl, rfl, rfl, rfl, rfl, rfl, rfl, rfl, hr, S.nd⟩
  refine ⟨_, PSs.nox pB, ?_⟩
  have t : DmL [] M.K H [V.ref a] [PyData.list (ns.map .int)] := .cons (.lst (fun H' q => sql_ext hS q) (DmL.of_ints ns)) .nil
  have hh0 : Hs M.K (ent [] H N [.list (ns.map .int)]) (L2.start N [.ref a]) H := ⟨⟨fun _ _ e => e, List.nodup_nil, (fun _ z => nomatch z), (fun _ z => nomatch z), (fun _ z => nomatch z)⟩, sl_start t⟩
  have W := h _ cf (fun _ => rfl) ⟨PassesOwn.never, ⟨rfl, rfl, rfl⟩, fun _ _ _ _ => False, (fun u s' ⟨_, _, _, _, _, _, _, _, _, _, _, _, _, _, _, _, z⟩ => z), fun C G σ' H' hs z => z⟩ H ns hn (L2.start N [.ref a]) H hh0
  refine wB_mono W (fun σ' H' ⟨G', h1, _, e1, e2, e3⟩ => by cases e1) (fun v H' ⟨s1, G', h1, k1, f1, e2, e3, s', e1, rt⟩ => ?_) (fun _ _ ⟨_, _, _, z⟩ => z) (fun _ _ ⟨_, _, _, z⟩ => z)
  cases e1
  cases rt with
  | d => rw [k1.bl]; exact hq H'
end Rd

namespace Rd
open PySem PySem.Spec PyProof.Rows L2
def isSide (l : List Int) : Bool := if (!decide ((l.length : Int) = 25 + 1) || !(l.all fun i => decide (0 ≤ i))) = true then false else (decide (1 ≤ l.sum) && decide (l.sum ≤ 15))
def R_is_side : Rl := fun ds r => ∃ l : List Int, ds = [dT l] ∧ l.length ≤ 1000 ∧ r = .ok (.d (.bool (isSide l)))
theorem isSide_len {l : List Int} (h : isSide l = true) : l.length = 26 := by
  unfold isSide at h
  split at h
  · cases h
  · rename_i q
    simp at q
    omega
/-- men of both at the point -/
def clash (b : List Int × List Int) (p : Int) : Bool := decide (0 < at0 b.1 p) && decide (0 < at0 b.2 (25 - p))
def isBoard (b : List Int × List Int) : Bool :=
  isSide b.1 && (isSide b.2 && (decide (b.1.sum = b.2.sum) && ((rng 1 25).all (fun p => !clash b p) && !(decide (at0 b.1 0 = b.1.sum) && decide (at0 b.2 0 = b.2.sum)))))
def R_look (M : Md) : Rl := fun ds r => ∃ b : List Int × List Int, ds = [dB b] ∧ b.1.length ≤ 1000 ∧ b.2.length ≤ 1000 ∧ r = if isBoard b then .ok (.d .none) else .error (cE M "BadBoard")
def R_turned (M : Md) : Rl := fun ds r => ∃ b : List Int × List Int, ds = [dB b] ∧ b.1.length ≤ 1000 ∧ b.2.length ≤ 1000 ∧ r = if isBoard b then .ok (.d (dB (b.2, b.1))) else .error (cE M "BadBoard")
theorem r_look {M : Md} {b : List Int × List Int} (h1 : b.1.length ≤ 1000) (h2 : b.2.length ≤ 1000) : R_look M [dB b] (if isBoard b then .ok (.d .none) else .error (cE M "BadBoard")) := ⟨b, rfl, h1, h2, rfl⟩
/-- look_board ahead of the rest -/
theorem we_look {X : Cx} {M : Md} {G : Gm} {Q : Sl → Gm → Prop} {e : Expr} {p pos : Pos} {Er : Addr → Gm → Prop} {b : List Int × List Int} (hx : XOk X Er) (F : Fc X "look_board" (R_look M)) (ha : EA X [e] G [.d (dB b)]) (h1 : b.1.length ≤ 1000) (h2 : b.2.length ≤ 1000)
    (hy : isBoard b = true → Q (.d .none) G) (hn : isBoard b = false → Er (cE M "BadBoard") G) (he : starEach [e] X.env = (false, eval e X.env) :: starEach [] X.env := by rfl) : WE X (.Call (.Name "look_board" p) [e] [] pos) G Q := by
  refine we_callX hx F ha (.cons .d .nil) ?_ he rfl
  cases h : isBoard b with
  | true => exact .inl ⟨.d .none, ⟨b, rfl, h1, h2, by rw [h]; rfl⟩, hy h⟩
  | false => exact .inr ⟨_, ⟨b, rfl, h1, h2, by rw [h]; rfl⟩, hn h⟩
def pipsOf (l : List Int) : Int := ((rng 0 26).map fun p => p * at0 l p).sum
def R_pips_of : Rl := fun ds r => ∃ l : List Int, ds = [dT l] ∧ l.length = 26 ∧ r = .ok (.d (.int (pipsOf l)))
def R_pips (M : Md) : Rl := fun ds r => ∃ b : List Int × List Int, ds = [dB b] ∧ b.1.length ≤ 1000 ∧ b.2.length ≤ 1000 ∧ r = if isBoard b then .ok (.d (.tuple [.int (pipsOf b.1), .int (pipsOf b.2)])) else .error (cE M "BadBoard")
theorem isBoard_len {b : List Int × List Int} (h : isBoard b = true) : b.1.length = 26 ∧ b.2.length = 26 := by
  simp only [isBoard, Bool.and_eq_true] at h
  exact ⟨isSide_len h.1, isSide_len h.2.1⟩
/-- the places with men, from 1 on -/
def placesOf (l : List Int) : List Int := (rng 1 26).filter fun p => decide (0 < at0 l p)
def isApart (b : List Int × List Int) : Bool := decide (placesOf b.1 = []) || (decide (placesOf b.2 = []) || decide (maxI (placesOf b.1) + maxI (placesOf b.2) < 25))
def R_is_apart (M : Md) : Rl := fun ds r => ∃ b : List Int × List Int, ds = [dB b] ∧ b.1.length ≤ 1000 ∧ b.2.length ≤ 1000 ∧ r = if isBoard b then .ok (.d (.bool (isApart b))) else .error (cE M "BadBoard")
theorem eqv_nil {l : List Int} : PyData.eqv (.list (l.map .int)) (.list []) = decide (l = []) := by
  cases l with
  | nil => rfl
  | cons a l => rfl
def sideFold (l : List Int) (p : Int × Int) : List Int := set0 l p.1 (at0 l p.1 + p.2)
def sideOf (ps : List (Int × Int)) (many : Int) : List Int :=
  let l := ps.foldl sideFold (List.replicate 26 0)
  set0 l 0 (at0 l 0 + many - l.sum)
abbrev dP (p : Int × Int) : PyData := .tuple [.int p.1, .int p.2]
def R_side_of : Rl := fun ds r => ∃ (ps : List (Int × Int)) (many : Int), ds = [.list (ps.map dP), .int many] ∧ (∀ p ∈ ps, 0 ≤ p.1 ∧ p.1 < 26) ∧ r = .ok (.d (dT (sideOf ps many)))
theorem fold_len {ps : List (Int × Int)} : ∀ l : List Int, (ps.foldl sideFold l).length = l.length := by
  induction ps with
  | nil => intro l; rfl
  | cons p ps ih => intro l; rw [List.foldl_cons, ih]; exact set0_len _ _ _
theorem take_fold {ps : List (Int × Int)} {i : Nat} {p : Int × Int} {l : List Int} (h : ps[i]? = some p) : (ps.take (i + 1)).foldl sideFold l = sideFold ((ps.take i).foldl sideFold l) p := by
  rw [List.take_add_one, h]; simp
def R_start : Rl := fun ds r => ds = [] ∧ r = .ok (.d (dB (sideOf [(24, 2), (13, 5), (8, 3), (6, 5)] 15, sideOf [(24, 2), (13, 5), (8, 3), (6, 5)] 15)))
def cellAt (ns : List Int) (k : Int) : Int := if ns = [] then 0 else at0 ns (k % (ns.length : Nat))
def R_cell : Rl := fun ds r => ∃ (ns : List Int) (k : Int), ds = [.list (ns.map .int), .int k] ∧ r = .ok (.d (.int (cellAt ns k)))
def mixN (c k : Int) : Int := ((c + 104729 * (k + 1)) % 4294967291) ^ (5 : Int).toNat % 4294967279
def mixAt (ns : List Int) (k : Int) : Int := (mixN (cellAt ns k) k / 64 * 69621 + mixN (cellAt ns k) k) % 4294967231
def R_mix : Rl := fun ds r => ∃ (ns : List Int) (k : Int), ds = [.list (ns.map .int), .int k] ∧ r = .ok (.d (.int (mixAt ns k)))
/-- a draw below many -/
def T_draw : Tl := fun ds c P => ∃ many : Int, ds = [.int many] ∧ 0 < many ∧ c = 1 ∧ P = fun s => ∃ v : Int, 0 ≤ v ∧ v < many ∧ s = .d (.int v)
/-- a def that draws called, its arguments plain -/
theorem we_callTp {X : Cx} {e : Expr} {es : List Expr} {G : Gm} {pos p : Pos} {x : Str} {T : Tl} {Q : Sl → Gm → Prop} {ns zs : List Int} {t : Addr} {j c : Nat} {ds : List PyData} {P : Sl → Prop} {rs : List Sl} (F : FcT X x T) (ha : EA X (e :: es) G (.d (.list (ns.map .int)) :: .v (.ref t) :: rs)) (td : DtL rs ds) (hj : G.cs[j]? = some (t, .ls (zs.map .int))) (hT : T ds c P) (hc : zs.length + c ≤ 1000000)
    (q : ∀ (zs' : List Int) (s : Sl), zs'.length ≤ zs.length + c → P s → Q s (upL G j t (zs'.map .int))) (he : starEach (e :: es) X.env = (false, eval e X.env) :: starEach es X.env := by rfl) (hpl : (backTo pos (starEach es X.env)).any (·.1) = false := by rfl) : WE X (.Call (.Name x p) (e :: es) [] pos) G Q :=
  we_callT F (wa_p ha ⟨ns, t, j, zs, ds, c, P, rs, rfl, td, hj, hT, hc, q⟩) he hpl
theorem we_draw {X : Cx} {e1 e2 e3 : Expr} {G : Gm} {pos p : Pos} {Q : Sl → Gm → Prop} {ns zs : List Int} {t : Addr} {j : Nat} {many : Int} (F : FcT X "_law_draw" T_draw) (ha : EA X [e1, e2, e3] G [.d (.list (ns.map .int)), .v (.ref t), .d (.int many)]) (hj : G.cs[j]? = some (t, .ls (zs.map .int))) (h0 : 0 < many) (hc : zs.length + 1 ≤ 1000000)
    (q : ∀ (zs' : List Int) (v : Int), zs'.length ≤ zs.length + 1 → 0 ≤ v → v < many → Q (.d (.int v)) (upL G j t (zs'.map .int))) (he : starEach [e1, e2, e3] X.env = (false, eval e1 X.env) :: starEach [e2, e3] X.env := by rfl) (hpl : (backTo pos (starEach [e2, e3] X.env)).any (·.1) = false := by rfl) : WE X (.Call (.Name "_law_draw" p) [e1, e2, e3] [] pos) G Q :=
  we_callTp F ha (.cons .d .nil) hj ⟨many, rfl, h0, rfl, rfl⟩ hc (by rintro zs' s hl ⟨v, h1, h2, rfl⟩; exact q zs' v hl h1 h2) he hpl
/-- a place -/
def T_place : Tl := fun ds c P => ds = [] ∧ c = 2 ∧ P = fun s => ∃ v : Int, 0 ≤ v ∧ v ≤ 25 ∧ s = .d (.int v)
/-! ### lists of whole numbers -/
theorem at0_set0 {l : List Int} {i j v : Int} (h0 : 0 ≤ i) (h1 : i < l.length) (hj : 0 ≤ j) : at0 (set0 l i v) j = if j = i then v else at0 l j := by
  unfold at0 set0
  by_cases h : j = i
  · subst h
    have : j.toNat < l.length := by omega
    simp [List.getD, this]
  · have : i.toNat ≠ j.toNat := by omega
    simp [List.getD, h, this]
theorem sum_set {l : List Int} : ∀ {i : Nat} {v : Int}, i < l.length → (l.set i v).sum = l.sum - l.getD i 0 + v := by
  induction l with
  | nil => intro i v h; simp at h
  | cons a l ih =>
    intro i v h
    cases i with
    | zero => simp [List.getD]; omega
    | succ i =>
      have := ih (i := i) (v := v) (by simpa using h)
      simp only [List.set_cons_succ, List.sum_cons, this, List.getD_cons_succ]
      omega
theorem sum_set0 {l : List Int} {i v : Int} (h0 : 0 ≤ i) (h1 : i < l.length) : (set0 l i v).sum = l.sum - at0 l i + v := sum_set (by omega)
def NN (l : List Int) : Prop := ∀ x ∈ l, 0 ≤ x
theorem NN.at {l : List Int} (h : NN l) (i : Int) : 0 ≤ at0 l i := by
  unfold at0
  rw [List.getD_eq_getElem?_getD]
  cases q : l[i.toNat]? with
  | none => simp
  | some x => exact h x (List.mem_of_getElem? q)
theorem NN.set {l : List Int} (h : NN l) {v : Int} (hv : 0 ≤ v) (i : Int) : NN (set0 l i v) := by
  intro x hx
  rcases List.mem_or_eq_of_mem_set hx with q | q
  · exact h x q
  · omega
theorem NN.sum : ∀ {l : List Int}, NN l → 0 ≤ l.sum
  | [], _ => by simp
  | a :: l, h => by
    have := NN.sum (l := l) fun x hx => h x (List.mem_cons_of_mem _ hx)
    have := h a List.mem_cons_self
    simp; omega
theorem NN.le {l : List Int} (h : NN l) {i : Int} (h0 : 0 ≤ i) (h1 : i < l.length) : at0 l i ≤ l.sum := by
  have := (h.set (v := 0) (by omega) i).sum
  rw [sum_set0 h0 h1] at this
  omega
theorem NN.two {l : List Int} (h : NN l) {i j : Int} (h0 : 0 ≤ i) (h1 : i < l.length) (h2 : 0 ≤ j) (h3 : j < l.length) (hij : j ≠ i) : at0 l i + at0 l j ≤ l.sum := by
  have := (h.set (v := 0) (by omega) i).le h2 (by rw [set0_len]; exact h3)
  rw [sum_set0 h0 h1, at0_set0 h0 h1 h2, if_neg hij] at this
  omega
theorem NN.rep (n : Nat) : NN (List.replicate n 0) := by
  intro x hx
  have := List.eq_of_mem_replicate hx
  omega
theorem sum_rep (n : Nat) : (List.replicate n (0 : Int)).sum = 0 := by
  induction n with
  | zero => rfl
  | succ n ih => simp [List.replicate_succ, ih]
theorem at0_rep (n : Nat) (i : Int) : at0 (List.replicate n 0) i = 0 := by
  unfold at0
  rw [List.getD_eq_getElem?_getD, List.getElem?_replicate]
  split <;> rfl
/-- a board as it is made: many men a side -/
structure Brd (many : Int) (b : List Int × List Int) : Prop where
  l1 : b.1.length = 26
  l2 : b.2.length = 26
  n1 : NN b.1
  n2 : NN b.2
  s1 : b.1.sum = many
  s2 : b.2.sum = many
  cl : ∀ p, 1 ≤ p → p ≤ 24 → at0 b.1 (25 - p) = 0 ∨ at0 b.2 p = 0
  of : at0 b.1 0 < many ∨ at0 b.2 0 < many
def T_board : Tl := fun ds c P => ∃ most : Int, ds = [.int most] ∧ 1 ≤ most ∧ most ≤ 15 ∧ c = 61 ∧ P = fun s => ∃ many b, 1 ≤ many ∧ many ≤ most ∧ Brd many b ∧ s = .d (dB b)
/-! ### what a board is -/
structure IsB (b : List Int × List Int) : Prop where
  l1 : b.1.length = 26
  l2 : b.2.length = 26
  n1 : NN b.1
  n2 : NN b.2
  se : b.1.sum = b.2.sum
  lo : 1 ≤ b.1.sum
  hi : b.1.sum ≤ 15
  cl : ∀ p, 1 ≤ p → p ≤ 24 → at0 b.1 p = 0 ∨ at0 b.2 (25 - p) = 0
  of : at0 b.1 0 < b.1.sum ∨ at0 b.2 0 < b.2.sum
theorem isSide_iff {l : List Int} : isSide l = true ↔ l.length = 26 ∧ NN l ∧ 1 ≤ l.sum ∧ l.sum ≤ 15 := by
  unfold isSide NN
  by_cases h1 : (l.length : Int) = 26
  · by_cases h2 : (l.all fun i => decide (0 ≤ i)) = true
    · have h1' : l.length = 26 := by omega
      simp only [List.all_eq_true, decide_eq_true_eq] at h2
      simp [h1', h2]
      try exact fun _ _ => h2
    · simp [h1, h2]
      intro _ z
      simp only [List.all_eq_true, decide_eq_true_eq] at h2
      exact absurd z h2
  · have h1' : ¬ l.length = 26 := by omega
    simp [h1', h1]
theorem isBoard_iff {b : List Int × List Int} : isBoard b = true ↔ IsB b := by
  unfold isBoard
  simp only [Bool.and_eq_true, isSide_iff, decide_eq_true_eq, List.all_eq_true, mem_rng, clash, Bool.not_eq_true', Bool.and_eq_false_iff, decide_eq_false_iff_not]
  constructor
  · rintro ⟨⟨a1, a2, a3, a4⟩, ⟨b1, b2, b3, b4⟩, c, d, e⟩
    refine ⟨a1, b1, a2, b2, c, a3, a4, fun p h1 h2 => ?_, ?_⟩
    · have := d p ⟨h1, by omega⟩
      have := a2.at p
      have := b2.at (25 - p)
      omega
    · have := a2.le (i := 0) (by omega) (by omega)
      have := b2.le (i := 0) (by omega) (by omega)
      omega
  · rintro ⟨a1, b1, a2, b2, c, a3, a4, d, e⟩
    refine ⟨⟨a1, a2, a3, a4⟩, ⟨b1, b2, by omega, by omega⟩, c, fun p ⟨h1, h2⟩ => ?_, by omega⟩
    have := d p h1 (by omega)
    omega
theorem minI_lt {l : List Int} (hn : l ≠ []) : (decide (minI l < 0)) = !(l.all fun i => decide (0 ≤ i)) := by
  have key : ∀ (l : List Int) (m : Int), (decide (l.foldl min m < 0)) = (decide (m < 0) || !(l.all fun i => decide (0 ≤ i))) := by
    intro l
    induction l with
    | nil => intro m; rw [List.foldl_nil, List.all_nil, Bool.not_true, Bool.or_false]
    | cons a l ih =>
      intro m
      rw [List.foldl_cons, ih]
      by_cases h2 : m < 0
      · have : min m a < 0 := by omega
        simp [h2, this]
      · by_cases h3 : a < 0
        · have e1 : min m a < 0 := by omega
          have e2 : ¬ 0 ≤ a := by omega
          simp [e1, e2]
        · have e1 : ¬ min m a < 0 := by omega
          have e2 : 0 ≤ a := by omega
          simp [h2, e1, e2]
  cases l with
  | nil => exact absurd rfl hn
  | cons a l =>
    show decide (l.foldl min a < 0) = _
    rw [key]
    by_cases h : a < 0
    · have : ¬ 0 ≤ a := by omega
      simp [h, this]
    · have : 0 ≤ a := by omega
      simp [h, this]
def R_isb : Rl := fun ds r => ∃ b : List Int × List Int, ds = [dB b] ∧ b.1.length ≤ 1000 ∧ b.2.length ≤ 1000 ∧ r = .ok (.d (.bool (isBoard b)))
/-- a man of each that is not past the other -/
def meets (b : List Int × List Int) (p o : Int) : Bool := decide (0 < at0 b.1 p) && (decide (0 < at0 b.2 o) && decide (25 ≤ p + o))
def lawApart (b : List Int × List Int) : Bool := (rng 1 26).all fun p => (rng 1 26).all fun o => !meets b p o
def R_lapart : Rl := fun ds r => ∃ b : List Int × List Int, ds = [dB b] ∧ b.1.length = 26 ∧ b.2.length = 26 ∧ r = .ok (.d (.bool (lawApart b)))
theorem lawApart_iff {b : List Int × List Int} : lawApart b = true ↔ ∀ p, 1 ≤ p → p < 26 → ∀ o, 1 ≤ o → o < 26 → meets b p o = false := by
  unfold lawApart
  simp only [List.all_eq_true, mem_rng, Bool.not_eq_true']
  exact ⟨fun h p a b o c d => h p ⟨a, b⟩ o ⟨c, d⟩, fun h p ⟨a, b⟩ o ⟨c, d⟩ => h p a b o c d⟩
theorem we_if {X : Cx} {c a b : Expr} {G : Gm} {pos : Pos} {k : Bool} {Q : Sl → Gm → Prop} (h : TR X c G k) (ha : k = true → WE X a G Q) (hb : k = false → WE X b G Q) : WE X (.IfExp c a b pos) G Q := fun σ H hs => by
  refine wE_of (pe_ifExp pT pE pE) (wT_mono (h σ H hs) fun d H1 ⟨q1, q2⟩ => ?_)
  subst q1
  have hs1 := hs.ext q2
  cases d with
  | true => exact iteT (wE_mono (ha rfl σ H1 hs1) fun z H2 ⟨r, G1, g1, w1, w2, w3, w4⟩ => ⟨r, G1, (Ge.refl q2).trans g1, w1, w2, w3.exb (by rw [g1.av]; exact q2.all) (fun a hn => by rw [g1.av]; exact hs1.hh.new hn), w4⟩)
  | false => exact iteF (wE_mono (hb rfl σ H1 hs1) fun z H2 ⟨r, G1, g1, w1, w2, w3, w4⟩ => ⟨r, G1, (Ge.refl q2).trans g1, w1, w2, w3.exb (by rw [g1.av]; exact q2.all) (fun a hn => by rw [g1.av]; exact hs1.hh.new hn), w4⟩)
theorem wb_cut {X : Cx} {st : Stmt} {ss : List Stmt} {G : Gm} {D : De} (P : Gm → Prop) (h : WS X st G { D with nx := P }) (k : ∀ G1, P G1 → WB X ss G1 D) : WB X (st :: ss) G D := wb_cons fun σ H hs => wS_mono (h σ H hs) (fun _ _ ⟨G1, h1, g1, q1⟩ => ⟨G1, h1, g1, k G1 q1⟩) (fun _ _ z => z) (fun _ _ z => z) (fun _ _ z => z)
def refusedB : PyData := .tuple [.str "refused", .str "board"]
/-! ### both ways to tell whether they are apart -/
theorem foldl_max {l : List Int} : ∀ m : Int, (l.foldl max m = m ∨ l.foldl max m ∈ l) ∧ m ≤ l.foldl max m ∧ ∀ x ∈ l, x ≤ l.foldl max m := by
  induction l with
  | nil => intro m; exact ⟨.inl rfl, Int.le_refl _, fun _ z => nomatch z⟩
  | cons a l ih =>
    intro m
    rw [List.foldl_cons]
    obtain ⟨h1, h2, h3⟩ := ih (max m a)
    refine ⟨?_, by omega, fun x hx => ?_⟩
    · rcases h1 with h1 | h1
      · rw [h1]
        by_cases h : a ≤ m
        · left; omega
        · right
          have : max m a = a := by omega
          rw [this]; exact List.mem_cons_self
      · right; exact List.mem_cons_of_mem _ h1
    · rcases List.mem_cons.mp hx with q | q
      · subst q; omega
      · exact h3 x q
theorem maxI_mem {l : List Int} (h : l ≠ []) : maxI l ∈ l ∧ ∀ x ∈ l, x ≤ maxI l := by
  cases l with
  | nil => exact absurd rfl h
  | cons a l =>
    obtain ⟨h1, h2, h3⟩ := foldl_max (l := l) a
    show l.foldl max a ∈ a :: l ∧ ∀ x ∈ a :: l, x ≤ l.foldl max a
    refine ⟨?_, fun x hx => ?_⟩
    · rcases h1 with q | q
      · rw [q]; exact List.mem_cons_self
      · exact List.mem_cons_of_mem _ q
    · rcases List.mem_cons.mp hx with q | q
      · subst q; exact h2
      · exact h3 x q
theorem mem_places {l : List Int} {p : Int} : p ∈ placesOf l ↔ 1 ≤ p ∧ p < 26 ∧ 0 < at0 l p := by
  unfold placesOf
  rw [List.mem_filter, mem_rng]
  simp [and_assoc]
theorem apart_iff {b : List Int × List Int} : isApart b = true ↔ ∀ p ∈ placesOf b.1, ∀ o ∈ placesOf b.2, p + o < 25 := by
  unfold isApart
  simp only [Bool.or_eq_true, decide_eq_true_eq]
  constructor
  · rintro (h | h | h) p hp o ho
    · rw [h] at hp; cases hp
    · rw [h] at ho; cases ho
    · have h1 := (maxI_mem (fun z => by rw [z] at hp; cases hp) : maxI (placesOf b.1) ∈ _ ∧ _).2 p hp
      have h2 := (maxI_mem (fun z => by rw [z] at ho; cases ho) : maxI (placesOf b.2) ∈ _ ∧ _).2 o ho
      omega
  · intro h
    by_cases h1 : placesOf b.1 = []
    · exact .inl h1
    · by_cases h2 : placesOf b.2 = []
      · exact .inr (.inl h2)
      · exact .inr (.inr (h _ (maxI_mem h1).1 _ (maxI_mem h2).1))
theorem apart_law (b : List Int × List Int) : isApart b = lawApart b := by
  rw [Bool.eq_iff_iff, apart_iff, lawApart_iff]
  simp only [mem_places, meets, Bool.and_eq_false_iff, decide_eq_false_iff_not]
  constructor
  · intro h p p1 p2 o o1 o2
    by_cases q1 : 0 < at0 b.1 p
    · by_cases q2 : 0 < at0 b.2 o
      · have := h p ⟨p1, p2, q1⟩ o ⟨o1, o2, q2⟩
        exact .inr (.inr (by omega))
      · exact .inr (.inl q2)
    · exact .inl q1
  · intro h p ⟨p1, p2, q1⟩ o ⟨o1, o2, q2⟩
    rcases h p p1 p2 o o1 o2 with z | z | z <;> omega
theorem apart_swap (b : List Int × List Int) : isApart (b.2, b.1) = isApart b := by
  rw [Bool.eq_iff_iff, apart_iff, apart_iff]
  constructor
  · intro h p hp o ho
    have := h o ho p hp
    omega
  · intro h p hp o ho
    have := h o ho p hp
    omega
theorem board_swap {b : List Int × List Int} (h : IsB b) : IsB (b.2, b.1) := by
  obtain ⟨a1, a2, a3, a4, a5, a6, a7, a8, a9⟩ := h
  refine ⟨a2, a1, a4, a3, a5.symm, by show 1 ≤ b.2.sum; omega, by show b.2.sum ≤ 15; omega, fun p h1 h2 => ?_, a9.symm⟩
  have := a8 (25 - p) (by omega) (by omega)
  have e : (25 : Int) - (25 - p) = p := by omega
  rw [e] at this
  exact this.symm
def sL : List Int := [0, 0, 0, 0, 0, 0, 5, 0, 3, 0, 0, 0, 0, 5, 0, 0, 0, 0, 0, 0, 0, 0, 0, 0, 2, 0]
theorem start_side : sideOf [(24, 2), (13, 5), (8, 3), (6, 5)] 15 = sL := by decide +kernel
theorem start_board : isBoard (sL, sL) = true := by decide +kernel
theorem start_pips : pipsOf sL = 167 := by decide +kernel
theorem eqv_tup (l : List Int) : PyData.eqv (dT l) (dT l) = true := SeqAt.eqv_refl_plain _ (by
  show PyData.plainAll (l.map .int) = true
  induction l with
  | nil => rfl
  | cons a l ih => simp only [List.map_cons, PyData.plainAll, PyData.plain, ih, Bool.true_and])

theorem plain_ints (l : List Int) : PyData.plainAll (l.map .int) = true := by
  induction l with
  | nil => rfl
  | cons a l ih => simp only [List.map_cons, PyData.plainAll, PyData.plain, ih, Bool.true_and]
theorem plain_board (b : List Int × List Int) : (dB b).plain = true := by
  show (PyData.plainAll (b.1.map .int) && (PyData.plainAll (b.2.map .int) && true)) = true
  rw [plain_ints, plain_ints]; rfl
/-- what is told of a held error -/
def refNames : List (Str × Str) := [("BadBoard", "board"), ("BadText", "text"), ("BadStep", "step"), ("BadPlay", "play"), ("BadRoll", "roll"), ("Over", "over"), ("TooFar", "far")]
abbrev refD (n : Str) : PyData := .tuple [.str "refused", .str n]
def R_refusal (M : Md) : Xl := fun C d => ∃ x n, (x, n) ∈ refNames ∧ XcM M x ∧ C = cE M x ∧ d = refD n
end Rd

namespace Rd
open PySem PySem.Spec PyProof.Rows L2
/-! ### ranges that go down -/
def rngD (lo hi : Int) : List Int := (List.range (lo - hi).toNat).map fun i => lo - (i : Nat)
theorem rngD_len (lo hi : Int) : (rngD lo hi).length = (lo - hi).toNat := by simp [rngD]
theorem rngD_get {lo hi : Int} {i : Nat} (h : i < (lo - hi).toNat) : (rngD lo hi)[i]? = some (lo - i) := by simp [rngD, h]
theorem mem_rngD {lo hi x : Int} : x ∈ rngD lo hi ↔ hi < x ∧ x ≤ lo := by
  simp only [rngD, List.mem_map, List.mem_range]
  constructor
  · rintro ⟨i, h, rfl⟩; omega
  · intro h; exact ⟨(lo - x).toNat, by omega, by omega⟩
section
variable {X : Cx} {a b c e tg iter elt : Expr} {G : Gm} {ra rb rc rz : Sl} {pos p p2 : Pos} {x : Str} {scope : Scope} {own : List (Str × Nat)}
theorem lc_3 {ifs : List Expr} {lo hi : Int} {out : Nat → Option PyData} (t : BtR X) (hN : X.N.Nodup) (ok : BlkOk X.N X.env.scope scope own) (ha : EA X [a, b, c] G [.d (.int lo), .d (.int hi), .d (.int (-1))]) (hl : -(2 ^ 62) ≤ lo ∧ lo < 2 ^ 62 ∧ -(2 ^ 62) ≤ hi ∧ hi < 2 ^ 62) (hn : (lo - hi).toNat ≤ sizeLine) (hif : ifs.length ≤ 1) (h : ∀ i, i < (lo - hi).toNat → LcOk X scope tg elt ifs (own.map (·.2)) G (.d (.int (lo - i))) (out i))
    (hst : starEach [a, b, c] X.env = (false, eval a X.env) :: starEach [b, c] X.env) (hpl : (backTo p2 (starEach [b, c] X.env)).any (·.1) = false) (hf : ∀ x, foldedSetIterable (.Call (.Name "range" p) [a, b, c] [] p2) X.env x = pure x) : LC X elt tg (.Call (.Name "range" p) [a, b, c] [] p2) ifs scope G (outs out (lo - hi).toNat) := by
  refine ⟨t.hc, hN, hif, hf, own, _, (pi_range3 t.g t.m pA hst hpl), ok, fun σ H Q hs kQ => wA_mono (ha σ H hs) fun vs H1 q => ?_⟩
  obtain ⟨y, z, w, rfl, k1, k2, k3⟩ := q.2.three
  refine ⟨lo, hi, -1, (lo - hi).toNat, by rw [k1.int, k2.int, k3.int], RgC.neg hl.1 hl.2.1 hl.2.2.1 hl.2.2.2, fun Da hDa => ?_⟩
  refine lc_it walk_rangeC (fun i H' => Hs X.K (inB G (own.map (·.2)) Da (outs out i)) (wipe σ (own.map (·.2))) H' ∧ ExB [] H1 H') ⟨(hs.ext q.1).inB hDa _, ExB.new hDa⟩ (fun _ _ _ _ => trivial) (fun i x H' H'' hi ⟨h1, e1⟩ y => ?_) (fun H' ⟨h1, e1⟩ => kQ _ _ (lc_end hs q.1 hDa h1 e1))
  obtain ⟨rfl, rfl⟩ := y
  have ei : (fun i : Nat => V.int (lo + (i : Nat) * (-1 : Int))) i = V.int (lo - i) := by
    show V.int (lo + (i : Nat) * (-1 : Int)) = _
    rw [show lo + (i : Nat) * (-1 : Int) = lo - i by omega]
  rw [ei]
  exact lc_turn hDa (by omega) (h i hi) (SlOk.ofD (.int _)) h1 e1
theorem lcD' {ifs : List Expr} {lo hi : Int} (o : Int → Option PyData) (own : List (Str × Nat)) (t : BtR X) (hN : X.N.Nodup) (ok : BlkOk X.N X.env.scope scope own) (ha : EA X [a, b, c] G [.d (.int lo), .d (.int hi), .d (.int (-1))]) (h0 : -100000 ≤ lo ∧ lo ≤ 100000 ∧ -100000 ≤ hi ∧ hi ≤ 100000) (hif : ifs.length ≤ 1)
    (hst : starEach [a, b, c] X.env = (false, eval a X.env) :: starEach [b, c] X.env) (hpl : (backTo p2 (starEach [b, c] X.env)).any (·.1) = false) (hf : ∀ x, foldedSetIterable (.Call (.Name "range" p) [a, b, c] [] p2) X.env x = pure x)
    (h : ∀ z, hi < z → z ≤ lo → LcOk X scope tg elt ifs (own.map (·.2)) G (.d (.int z)) (o z)) : LC X elt tg (.Call (.Name "range" p) [a, b, c] [] p2) ifs scope G ((rngD lo hi).filterMap o) := by
  have hz := sizeLine_eq
  have := lc_3 (p := p) (p2 := p2) (out := fun i => ((rngD lo hi)[i]?).bind o) t hN ok ha ⟨by omega, by omega, by omega, by omega⟩ (by omega) hif (fun i hi' => by
    simp only [rngD_get hi', Option.bind_some]
    exact h _ (by omega) (by omega)) hst hpl hf
  have e := outs_fm (rngD lo hi) o
  rw [rngD_len] at e
  rw [e] at this
  exact this
theorem lcDf {lo hi : Int} (q : Int → Bool) (g : Int → PyData) (own : List (Str × Nat)) (t : BtR X) (hN : X.N.Nodup) (ok : BlkOk X.N X.env.scope scope own) (ha : EA X [a, b, c] G [.d (.int lo), .d (.int hi), .d (.int (-1))]) (h0 : -100000 ≤ lo ∧ lo ≤ 100000 ∧ -100000 ≤ hi ∧ hi ≤ 100000)
    (hst : starEach [a, b, c] X.env = (false, eval a X.env) :: starEach [b, c] X.env) (hpl : (backTo p2 (starEach [b, c] X.env)).any (·.1) = false) (hf : ∀ x, foldedSetIterable (.Call (.Name "range" p) [a, b, c] [] p2) X.env x = pure x)
    (h : ∀ z, hi < z → z ≤ lo → LcOk X scope tg elt [e] (own.map (·.2)) G (.d (.int z)) (if q z then some (g z) else none)) : LC X elt tg (.Call (.Name "range" p) [a, b, c] [] p2) [e] scope G (((rngD lo hi).filter q).map g) := by
  rw [← fm_if]; exact lcD' _ own t hN ok ha h0 (Nat.le_refl 1) hst hpl hf h
/-! ### list(range(lo, hi)) -/
theorem small_up {a b : Int} (ha : -(2 ^ 62) ≤ a) (ha' : a < 2 ^ 62) (hb : -(2 ^ 62) ≤ b) (hb' : b < 2 ^ 62) : Builtin.Range.small a b 1 = true := by
  have h := rangeSize_nat a b
  unfold Builtin.Range.small Builtin.Range.rangeFitsLong
  rw [h]
  simp
  omega
theorem paired_at : ∀ {xs : List V} {us : List Value}, xs.length = us.length → (∀ (i : Nat) (x : V) (u : Value), xs[i]? = some x → us[i]? = some u → RelV x u) → Vals xs us
  | [], [], _, _ => .nil
  | [], _ :: _, h, _ => by simp at h
  | _ :: _, [], h, _ => by simp at h
  | x :: xs, u :: us, h, k => .cons (k 0 x u rfl rfl) (paired_at (by simpa using h) fun i y v hy hv => k (i + 1) y v (by simpa using hy) (by simpa using hv))
theorem cr_listR (hc : X.calm = true) : CallR X (.type "list") (fun vs H Q => ∃ (r : Addr) (lo hi : Int), vs = [V.ref r] ∧ H r = some (.rng lo hi) ∧ (-100000 ≤ lo ∧ lo ≤ 100000 ∧ -100000 ≤ hi ∧ hi ≤ 100000) ∧ ∀ q, H q = none → Q (.ref q) (upd H q (.lst ((rng lo hi).map V.int)))) := by
  intro pins s σ H vs us Q inv r h
  obtain ⟨ra, lo, hi, rfl, hr, hb, q⟩ := h
  rw [Vals.ref1 r]
  obtain ⟨t, u, v, ho⟩ := inv.hok ra _ hr
  have hn : Builtin.Range.rangeSize lo hi 1 = ((hi - lo).toNat : Nat) := rangeSize_nat lo hi
  refine call_list_range (inv.ok.hd hc) ho ?_ hn (by omega) fun h' tk acc c' hk hS hit => ?_
  · exact small_up (by omega) (by omega) (by omega) (by omega)
  · have hsz : s.heap.objs.size ≤ s.heap.objs.size := Nat.le_refl _
    have hv : Vals ((rng lo hi).map V.int) acc.toList := paired_at (by rw [List.length_map, rng_len, Array.length_toList, hit.1]) (fun i x u hx hu => by
      have hi : i < (hi - lo).toNat := by have := (List.getElem?_eq_some_iff.mp hx).1; rw [List.length_map, rng_len] at this; exact this
      rw [List.getElem?_map, rng_get hi] at hx
      cases hx
      obtain ⟨t, rfl⟩ := hit.2 i u (by rw [← Array.getElem?_toList]; exact hu)
      rw [Int.mul_one]
      exact ⟨t, rfl⟩)
    refine ⟨.ref _, upd H s.heap.objs.size (.lst ((rng lo hi).map V.int)), inv.laid (t' := tk) hk hsz ⟨?_, acc.toList, c', hv, by simpa using hS⟩, rfl, q _ (inv.hok.fresh hsz)⟩
    rw [List.length_map, rng_len, sizeLine_eq]; omega
theorem er_listR {a b : Expr} {lo hi : Int} {p1 p3 p4 : Pos} (bl : Bt X "list" (.type "list")) (br : BtR X) (ha : EA X [a, b] G [.d (.int lo), .d (.int hi)]) (hb : -100000 ≤ lo ∧ lo ≤ 100000 ∧ -100000 ≤ hi ∧ hi ≤ 100000)
    (he : starEach [a, b] X.env = (false, eval a X.env) :: starEach [b] X.env) (hpl : (backTo p2 (starEach [b] X.env)).any (·.1) = false)
    (he2 : starEach [.Call (.Name "range" p1) [a, b] [] p2] X.env = (false, eval (.Call (.Name "range" p1) [a, b] [] p2) X.env) :: starEach [] X.env) (hpl2 : (backTo p4 (starEach [] X.env)).any (·.1) = false) :
    ER X (.Call (.Name "list" p3) [.Call (.Name "range" p1) [a, b] [] p2] [] p4) G (.f ((rng lo hi).map .int)) := fun σ H hs => by
  refine wE_of (pe_callTy (cr_listR br.hc) bl.g bl.m bl.v (pa_cons (pe_callTy cr_range2 br.g br.m boot_range pA (by decide) (by decide) he hpl) pa_nil he2) bl.n bl.d he2 hpl2) ?_
  refine wA_mono (ha σ H hs) fun vs H1 q => ?_
  obtain ⟨y, z, rfl, k1, k2⟩ := q.2.two
  refine ⟨lo, hi, by rw [k1.int, k2.int], fun r hr => ?_⟩
  refine ⟨r, lo, hi, rfl, upd_same, hb, fun d hd => ?_⟩
  exact PR.f hs.hh (q.1.trans (ExB.new hr)) hd (DmL.of_ints _)
theorem any_int (l : List Int) (i : Int) : (l.map V.int).any (fun z => eqV z (.int i)) = decide (i ∈ l) := by
  rw [List.any_map, Bool.eq_iff_iff]
  simp only [List.any_eq_true, decide_eq_true_eq]
  constructor
  · rintro ⟨z, hz, e⟩
    have : z = i := by simpa [eqV] using e
    subst this; exact hz
  · intro h; exact ⟨i, h, by simp [eqV]⟩
theorem inV_int (l : List Int) (i : Int) : inV (.int i) (l.map V.int) = decide (i ∈ l) := any_int l i
theorem flat_ints (l : List Int) : (l.map V.int).all flatV = true := by
  rw [List.all_map]; exact List.all_eq_true.mpr fun _ _ => rfl
theorem o_inI {l : List Int} {i : Int} (v : Lv G rb (l.map .int)) : Op2 X G (compareOp .In) (.d (.int i)) rb (.d (.bool (decide (i ∈ l)))) :=
  ⟨_, op_in_seq, fun _ H x y Q hs hx hy k => by
    obtain ⟨a, xs, rfl, h1, h2⟩ := v.ok hs hy
    have e := h2.ints
    subst e
    have ex := hx.int
    subst ex
    refine ⟨a, _, rfl, .inl h1, rfl, flat_ints l, ?_⟩
    show Q (V.bl (inV (.int i) (l.map V.int))) H
    rw [inV_int]
    exact k _ _ (PR.d .refl (.bl _))⟩
end
end Rd

namespace Rd
open PySem PySem.Spec PyProof.Rows L2
/-! ### slices backwards -/
/-- xs[lo:hi:-1] -/
def pickB {α : Type} (xs : List α) (lo hi : Option Int) : List α :=
  (List.range (Builtin.Slice.slicePlaces (Builtin.Slice.sliceAdjust lo hi (-1) (xs.length : Nat)).1 (Builtin.Slice.sliceAdjust lo hi (-1) (xs.length : Nat)).2 (-1))).filterMap fun (k : Nat) => xs[((Builtin.Slice.sliceAdjust lo hi (-1) (xs.length : Nat)).1 + (k : Int) * (-1)).toNat]?
theorem pickB_len {α : Type} (xs : List α) (lo hi : Option Int) : (pickB xs lo hi).length ≤ xs.length + 1 := by
  refine Nat.le_trans (List.length_filterMap_le _ _) ?_
  rw [List.length_range]
  unfold Builtin.Slice.slicePlaces Builtin.Slice.sliceAdjust
  simp only [show ((-1 : Int) < 0) = True by simp, if_true, show ¬ ((-1 : Int) > 0) by omega, if_false, Int.neg_neg, Int.ediv_one]
  cases lo with
  | none => cases hi with
    | none => simp only; split <;> omega
    | some b => simp only; split <;> split <;> omega
  | some a => cases hi with
    | none => simp only; split <;> split <;> omega
    | some b => simp only; split <;> split <;> split <;> omega
theorem fm_rel {A : List Addr} {K : Fg} {H : Hp} {xs : List V} {ds : List PyData} (t : DmL A K H xs ds) (g : Nat → Nat) : ∀ ks : List Nat, DmL A K H (ks.filterMap fun k => xs[g k]?) (ks.filterMap fun k => ds[g k]?)
  | [] => .nil
  | k :: ks => by
    rw [List.filterMap_cons, List.filterMap_cons]
    cases q : ds[g k]? with
    | none =>
      have : xs[g k]? = none := by
        rw [List.getElem?_eq_none_iff] at q ⊢
        rw [t.length]; exact q
      rw [this]
      exact fm_rel t g ks
    | some d =>
      obtain ⟨x, h1, h2⟩ := t.get q
      rw [h1]
      exact .cons h2 (fm_rel t g ks)
theorem pickB_dm {A : List Addr} {K : Fg} {H : Hp} {xs : List V} {ds : List PyData} {lo hi : Option Int} (t : DmL A K H xs ds) : DmL A K H (pickB xs lo hi) (pickB ds lo hi) := by
  unfold pickB
  rw [t.length]
  exact fm_rel t _ _
theorem pickB_map {α β : Type} (f : α → β) (xs : List α) (lo hi : Option Int) : pickB (xs.map f) lo hi = (pickB xs lo hi).map f := by
  unfold pickB
  rw [List.length_map, List.map_filterMap]
  congr 1
  funext k
  rw [List.getElem?_map]
section
variable {prog : Program} {w : World} {A : Around} {E : Value → Shared → Prop} {s : Shared}
theorem sliceApplied_back {sl : Addr} {vl vu vs : Value} {lo hi : Option Int} {n : Nat} {Q : Int × Int × Nat → Shared → Prop} (hs : s.heap.IsSliceOf sl vl vu vs) (pl : IsPart vl lo) (pu : IsPart vu hi) (ps : IsPart vs (some (-1)))
    (h : Q ((Builtin.Slice.sliceAdjust lo hi (-1) (n : Nat)).1, -1, Builtin.Slice.slicePlaces (Builtin.Slice.sliceAdjust lo hi (-1) (n : Nat)).1 (Builtin.Slice.sliceAdjust lo hi (-1) (n : Nat)).2 (-1)) s) : wpAny (model prog w) A (Builtin.Slice.sliceApplied (.ref sl) (pure (n : Int))) Q E s := by
  obtain ⟨os, hos, hcs, hds⟩ := id hs
  unfold Builtin.Slice.sliceApplied Builtin.Slice.sliceFields
  refine wpAny_bind (wpAny_bind (wpAny_field hos hds (x := vl) rfl (wpAny_bind (wpAny_field hos hds (x := vu) rfl (wpAny_bind (wpAny_field hos hds (x := vs) rfl (wpAny_pure ?_)))))))
  refine wpAny_bind (HT.slicePart_ ps ?_)
  show wpAny _ _ (if ((-1 : Int) == 0) = true then _ else _) _ _ s
  rw [if_neg (by decide)]
  refine wpAny_bind (HT.slicePart_ pl (wpAny_bind (HT.slicePart_ pu (wpAny_bind (wpAny_pure ?_)))))
  exact wpAny_pure h
theorem getItem_tuple_back {t sl : Addr} {items : List Value} {vl vu vs : Value} {lo hi : Option Int} {Q : Value → Shared → Prop} (ht : IsTup s.heap t items.toArray) (hs : s.heap.IsSliceOf sl vl vu vs) (pl : IsPart vl lo) (pu : IsPart vu hi) (ps : IsPart vs (some (-1)))
    (h : Q (.ref s.heap.objs.size) { s with heap := s.heap.push { cls := .type "tuple", data := .seq (pickB items lo hi).toArray } })
    (hsz : items.length < sizeLine) : wpAny (model prog w) A (getItem (.ref t) (.ref sl)) Q E s := by
  have htake : sizeOk (.seq (pickB items lo hi).toArray) := by
    show (pickB items lo hi).toArray.size ≤ sizeLine
    rw [List.size_toArray]
    have := pickB_len items lo hi
    omega
  obtain ⟨os, hos, hcs, hds⟩ := id hs
  have hTs : s.TypeIs (.ref sl) "slice" := ⟨os, hos, hcs⟩
  unfold getItem
  try with_reducible refine wpAny_holding ?_
  first | refine wpAny_bind (wpAny_pure ?_) | skip
  refine wpAny_bind (wpAny_sequenceKey ht.typeIs (by decide) ?_)
  refine wpAny_bind (wpAny_callSpecial?_slot (name := Str.ofString "__getitem__") ht.typeIs PyProof.Rows.slot_tuple_getitem
    (wpAny_call_entry PyProof.Rows.slot_tuple_getitem ht.typeIs entry_tuple_getitem ?_ (args_tuple_getitem _ _)))
  show wpAny _ _ (Builtin.Tuple.tupleItemsOf (.ref t) >>= _) _ _ s
  refine wpAny_bind (tupleItemsOf_ ht ?_)
  refine wpAny_bind (wpAny_typeOf hTs ?_)
  rw [if_pos (by decide)]
  refine wpAny_bind (sliceApplied_back hs pl pu ps ?_)
  have hno : ¬ (((Builtin.Slice.sliceAdjust lo hi (-1) (items.toArray.size : Nat)).1 == 0 && (-1 : Int) == 1 && (Builtin.Slice.slicePlaces (Builtin.Slice.sliceAdjust lo hi (-1) (items.toArray.size : Nat)).1 (Builtin.Slice.sliceAdjust lo hi (-1) (items.toArray.size : Nat)).2 (-1)) == items.toArray.size) = true) := by
    intro q
    rw [Bool.and_eq_true, Bool.and_eq_true] at q
    exact absurd q.1.2 (by decide)
  show wpAny _ _ (if ((Builtin.Slice.sliceAdjust lo hi (-1) (items.toArray.size : Nat)).1 == 0 && (-1 : Int) == 1 && (Builtin.Slice.slicePlaces (Builtin.Slice.sliceAdjust lo hi (-1) (items.toArray.size : Nat)).1 (Builtin.Slice.sliceAdjust lo hi (-1) (items.toArray.size : Nat)).2 (-1)) == items.toArray.size) = true then _ else _) _ _ s
  rw [if_neg hno]
  have e : ((List.range (Builtin.Slice.slicePlaces (Builtin.Slice.sliceAdjust lo hi (-1) (items.toArray.size : Nat)).1 (Builtin.Slice.sliceAdjust lo hi (-1) (items.toArray.size : Nat)).2 (-1))).filterMap fun (k : Nat) => items.toArray[((Builtin.Slice.sliceAdjust lo hi (-1) (items.toArray.size : Nat)).1 + (k : Int) * (-1)).toNat]?).toArray = (pickB items lo hi).toArray := by
    unfold pickB
    rw [List.size_toArray]
    simp only [List.getElem?_toArray]
  rw [e]
  first
    | exact wpAny_bind (m := Builtin.Tuple.tupleExact _) (wpAny_newObj_type (wpAny_pure ⟨_, rfl, wpAny_pure h⟩) htake)
    | exact wpAny_bind (m := Builtin.Tuple.tupleExact _) (wpAny_newObj_type (wpAny_bind (wpAny_pure (wpAny_pure ⟨_, rfl, wpAny_pure h⟩))) htake)
    | exact wpAny_bind (wpAny_bind (m := Builtin.Tuple.tupleExact _) (wpAny_newObj_type (wpAny_pure (wpAny_pure ⟨_, rfl, wpAny_pure h⟩)) htake))
    | exact wpAny_bind (wpAny_bind (m := Builtin.Tuple.tupleExact _) (wpAny_newObj_type (wpAny_pure ⟨_, rfl, wpAny_pure h⟩) htake))
end
section
variable {X : Cx} {a : Expr} {G : Gm} {ra : Sl} {pos : Pos}
theorem er_slB {l h : Option Expr} {lo hi : Option Int} {k : Nat} {p1 p2 p3 : Pos} {ds : List PyData} (ha : ER X a G (.d (.tuple ds))) (hl : EO X l G lo) (hh : EO X h G hi) (hz : ds.length ≤ 1000000) :
    ER X (.Subscript a (.Slice l h (some (.UnaryOp .USub (.Constant (.int 1) k p1) p2)) p3) pos) G (.d (.tuple (pickB ds lo hi))) := fun σ H hs => ⟨by
  intro pins s I
  have z := sizeLine_eq
  refine Subscript_ (thn ((ha σ H hs).go pins s I) fun v s1 ⟨x, H1, I1, r1, q1⟩ => ?_)
  obtain ⟨t, xs, rfl, h2, h3⟩ := q1.2.1.tup
  cases r1
  have hst : PO X (some (.UnaryOp .USub (.Constant (.int 1) k p1) p2)) (tPart (tUn (rU fun i => .int (-i)) (tC (.int 1)))) := po_some (pe_un un_neg pe_int)
  refine wpAny_Slice (thn (pO.run pins s1 σ H1 (fun o H2 => o = lo ∧ ExB [] H1 H2) I1 (eo_run hl (hs.ext q1.1) fun H' e => ⟨rfl, e⟩)) fun vl s2 ⟨lo', H2, I2, pl, el, e2⟩ => ?_)
  subst el
  refine thn (pO.run pins s2 σ H2 (fun o H3 => o = hi ∧ ExB [] H2 H3) I2 (eo_run hh ((hs.ext q1.1).ext e2) fun H' e => ⟨rfl, e⟩)) fun vu s3 ⟨hi', H3, I3, pu, eu, e3⟩ => ?_
  subst eu
  refine thn (hst.run pins s3 σ H3 (fun o H4 => o = some (-1) ∧ H4 = H3) I3 ⟨1, rfl, -1, rfl, rfl, rfl⟩) fun vs s4 ⟨o, H4, I4, ps, eo, e4⟩ => ?_
  subst eo e4
  have e13 := e2.trans e3
  have I5 : L2.Inv X pins σ H4 { s4 with heap := s4.heap.push { cls := .type "slice", data := .fields #[vl, vu, vs] } } := I4.kept (t' := s4.toks) fun b ob q => Heap.get?_push_of_some _ q
  obtain ⟨its, r, ht, hz'⟩ := I5.tuple (h2 H4 e13.all)
  have hlen := r.length
  have hd := h3.length
  show wpAny (model X.prog X.w) X.A (subscriptTail a (.Slice l h (some (.UnaryOp .USub (.Constant (.int 1) k p1) p2)) p3) (.ref t) (.ref s4.heap.objs.size)) _ X.xe { s4 with heap := s4.heap.push { cls := .type "slice", data := .fields #[vl, vu, vs] } }
  refine tail_any (ops := [.ref t, .ref s4.heap.objs.size]) ht.typeIs (PyProof.Rows.slot_tuple_getitem.lookup) ?_ (by with_unfolding_all rfl)
  refine getItem_tuple_back ht (Heap.IsSliceOf.new _ vl vu vs) pl pu ps ?_ (by omega)
  have rp : Vals (pickB xs lo' hi') (pickB its lo' hi') := by
    unfold pickB
    rw [hlen]
    generalize (Builtin.Slice.sliceAdjust lo' hi' (-1) (its.length : Nat)) = ad
    generalize List.range (Builtin.Slice.slicePlaces ad.1 ad.2 (-1)) = ks
    induction ks with
    | nil => exact .nil
    | cons k ks ih =>
      rw [List.filterMap_cons, List.filterMap_cons]
      cases q : xs[(ad.1 + (k : Int) * (-1)).toNat]? with
      | none =>
        have : its[(ad.1 + (k : Int) * (-1)).toNat]? = none := by
          rw [List.getElem?_eq_none_iff] at q ⊢
          omega
        rw [this]
        exact ih
      | some y =>
        obtain ⟨u, hu, ru⟩ := r.get q
        rw [hu]
        exact .cons ru ih
  have lp := pickB_len xs lo' hi'
  have np := I5.hok.fresh (Nat.le_refl _)
  have en := ExB.new (A := []) (o := .tup (pickB xs lo' hi')) np
  refine ⟨.ref _, _, I5.laid (t' := s4.toks) (o := .tup (pickB xs lo' hi')) (fun b ob q => Heap.get?_push_of_some _ q) (Nat.le_refl _) ⟨by omega, _, rp, IsTup.new _ _⟩, rfl, ?_⟩
  exact PR.t hs.hh ((q1.1.trans e13).fresh np) ((q1.1.trans e13).trans en) upd_same ((pickB_dm (h3.mono (e13.trans en).all)))⟩
theorem er_revL {k : Nat} {p1 p2 p3 : Pos} {ds : List PyData} (ha : ER X a G ra) (v : Lv G ra ds) : ER X (.Subscript a (.Slice none none (some (.UnaryOp .USub (.Constant (.int 1) k p1) p2)) p3) pos) G (.f ds.reverse) := fun σ H hs => by
  refine wE_of (pe_revL pE) (wE_mono (ha σ H hs) fun x H1 q => ?_)
  obtain ⟨a', xs, rfl, h1, h2⟩ := v.ok (hs.ext q.1) q.2.1
  exact ⟨a', xs, rfl, h1, fun p hp => PR.f hs.hh q.1 hp h2.reverse⟩
/-! ### order of tuples of ints -/
theorem o_ltT {ns ms : List Int} (hu : Un X) : Op2 X G (compareOp .Lt) (.d (.tuple (ns.map .int))) (.d (.tuple (ms.map .int))) (.d (.bool (HT.lexLt ns ms))) :=
  ⟨_, op_ltT (by unfold Un at hu; omega), fun _ H x y Q hs hx hy k => by
    obtain ⟨a, xs, rfl, h1, h2⟩ := hx.tup
    obtain ⟨b, ys, rfl, g1, g2⟩ := hy.tup
    have e1 := h2.ints
    have e2 := g2.ints
    subst e1
    subst e2
    exact ⟨a, b, ns, ms, rfl, rfl, h1 _ .refl, g1 _ .refl, k _ _ (PR.d .refl (.bl _))⟩⟩
end
theorem pickB_rev {α : Type} (xs : List α) : pickB xs none none = xs.reverse := by
  unfold pickB Builtin.Slice.sliceAdjust Builtin.Slice.slicePlaces
  simp only [show ((-1 : Int) < 0) = True by simp, if_true, show ¬ ((-1 : Int) > 0) by omega, if_false, Int.neg_neg, Int.ediv_one]
  have e : ((if ((xs.length : Nat) : Int) - 1 > -1 then ((xs.length : Nat) : Int) - 1 - -1 - 1 + 1 else 0).toNat) = xs.length := by split <;> omega
  rw [e]
  apply List.ext_getElem?
  intro i
  have key : ∀ n : Nat, n ≤ xs.length → ((List.range n).filterMap fun (k : Nat) => xs[(((xs.length : Nat) : Int) - 1 + (k : Int) * (-1)).toNat]?) = xs.reverse.take n := by
    intro n
    induction n with
    | zero => intro _; simp
    | succ n ih =>
      intro hn
      rw [List.range_succ, List.filterMap_append, ih (by omega), List.take_add_one]
      congr 1
      have e2 : (((xs.length : Nat) : Int) - 1 + (n : Int) * (-1)).toNat = xs.length - 1 - n := by omega
      rw [List.filterMap_cons, List.filterMap_nil, e2, List.getElem?_reverse (show n < xs.length by omega)]
      cases xs[xs.length - 1 - n]? <;> rfl
  rw [key xs.length (Nat.le_refl _), List.take_of_length_le (by simp)]
theorem cut_from {α : Type} (l : List α) (n : Nat) : cut l (some (n : Int)) none = l.drop n := by
  have e : HT.sIx l.length 0 (some (n : Int)) = min n l.length := by
    show HT.sIx l.length 0 (some (n : Int)) = _
    simp [HT.sIx]
    try omega
  have e2 : HT.sIx l.length l.length none = l.length := rfl
  unfold cut
  rw [e, e2]
  by_cases h : n ≤ l.length
  · rw [Nat.min_eq_left h, List.take_of_length_le (by rw [List.length_drop]; omega)]
  · rw [Nat.min_eq_right (by omega), Nat.sub_self, List.take_zero, List.drop_of_length_le (by omega)]
theorem cut_to {α : Type} (l : List α) (n : Nat) : cut l none (some (n : Int)) = l.take n := by
  unfold cut
  rw [HT.sIx_nat, HT.sIx_none, List.drop_zero, Nat.sub_zero]
  rcases Nat.le_total n l.length with h | h
  · rw [Nat.min_eq_left h]
  · rw [Nat.min_eq_right h, List.take_of_length_le (Nat.le_refl _), List.take_of_length_le h]
/-- the first cell is changed no more, what others may change being known -/
theorem wb_frzA {X : Cx} {ss : List Stmt} {G : Gm} {D : De} {i : Nat} {a : Addr} {ds : List PyData} {cs : List (Addr × Cl)} (hA : ∀ b ∈ G.A0, G.B b ≠ none) (hc : G.cs = (a, .ls ds) :: cs) (hi : G.sl[i]? = some (.v (.ref a))) (h : WB X ss (frz0 G i ds) D) : WB X ss G D :=
  fun σ H hs => wb_frz0 hc hi (fun z => hA a z (hs.hh.fr a (by rw [Gm.ad, hc]; exact List.mem_cons_self))) h σ H hs
theorem fnRA {M : Md} {x : Str} {st : Stmt} {f : Addr} {fd : FuncData} {N ps : List Str} {k : Nat} {R : Rl} (F : FnP M.K x st f fd) (hm : M.mg x = some (.ref f)) (hb : Binds M.K fd ps []) (S : FnScope N ps (defScope st)) (hlen : ∀ ds r, R ds r → ds.length = ps.length)
    (h : ∀ X, Cf X M N (defScope st) k → (∀ y, X.fn y = true) → ∀ A B ds r, (∀ b ∈ A, B b ≠ none) → R ds r → XOk X (erD A B r) → WB X (defBody st) (ent A B N ds) (rtD A B r)) : Df M x R (k + 1) := by
  refine ⟨f, fd, ps, FunD.ok F S (fun vs H Q E ⟨A, ds, r, _, t, hr, _⟩ => by rw [t.length]; exact hlen ds r hr) (fun cdv A outer s H vs Q E hr hsp => ?_), hm, F.kp, hb⟩
  obtain ⟨A1, ds, r, hA, t, hR, hq⟩ := hsp
  refine ⟨_, pB, ?_⟩
  have own : PassesOwn (model M.P M.w) (A.deeper (envOfC x (defScope st) s.heap.objs.size f cdv)) (envOfC x (defScope st) s.heap.objs.size f cdv) (cxOf (L2.CX M.P M.w) M.P M.w M.K M.mg M.base N x (defScope st) f cdv A outer s H E).xe := PassesOwn.leaving
  have cf : Cf (cxOf (L2.CX M.P M.w) M.P M.w M.K M.mg M.base N x (defScope st) f cdv A outer s H E) M N (defScope st) k := ⟨rfl, rfl, rfl, rfl, rfl, rfl, rfl, rfl, hr, S.nd⟩
  have hh0 : Hs M.K (ent A1 H N ds) (L2.start N vs) H := ⟨⟨fun _ _ e => e, List.nodup_nil, (fun _ z => nomatch z), fun b hb => Or.inl (hA b hb), (fun _ z => nomatch z)⟩, sl_start t⟩
  have W := h _ cf (fun _ => rfl) A1 H ds r hA hR ⟨own, ⟨rfl, rfl, rfl⟩, fun cls d σ' H' => E cls d H', takes_of rfl rfl rfl rfl, fun C G σ' H' hs ⟨e1, e2, e3⟩ => by
    subst e1
    exact hq H' fun b o _ eb => hs.hh.ex b o (by rw [e2]; exact eb)⟩ (L2.start N vs) H hh0
  refine wB_mono W (fun σ' H' ⟨G', h1, _, e1, e2, e3⟩ => ?_) (fun v H' ⟨s1, G', h1, k1, f1, e2, e3, s', e1, rt⟩ => ?_) (fun _ _ ⟨_, _, _, z⟩ => z) (fun _ _ ⟨_, _, _, z⟩ => z)
  · subst e1
    exact hq .non H' ⟨fun b o _ eb => h1.hh.ex b o (by rw [e2]; exact eb), SlOk.ofD .non, trivial⟩
  · subst e1
    have hA' : ∀ b ∈ G'.A0, G'.B b ≠ none := by rw [e2, e3]; exact hA
    obtain ⟨q1, q2⟩ := rt.ok h1 k1 f1 fun a ea => by
      subst ea
      cases rt with
      | c j hj => exact cell_out h1 hA' a (List.mem_map.mpr ⟨_, List.mem_of_getElem? hj, rfl⟩)
      | cd j hj => exact cell_out h1 hA' a (List.mem_map.mpr ⟨_, List.mem_of_getElem? hj, rfl⟩)
    rw [e3] at q1 q2
    rw [e2] at q2
    exact hq v H' ⟨fun b o _ eb => h1.ex b o (by rw [e2]; exact eb), q1, q2⟩
/-! ### o[i] = e where the index changes things -/
theorem ws_storeW {X : Cx} {G : Gm} {D : De} {e o ix : Expr} {ra : Sl} {v : Int} {a' : Addr} {j : Nat} {pos p2 : Pos} (he : ER X e G (.d (.int v))) (ho : ER X o G (.v (.ref a')))
    (h : WE X ix G fun r G1 => ∃ (i : Int) (l : List Int), r = .d (.int i) ∧ G1.cs[j]? = some (a', .ls (l.map .int)) ∧ 0 ≤ i ∧ i < l.length ∧ D.nx (upL G1 j a' ((set0 l i v).map .int)))
    (ha : ∀ v, assign (.Subscript o ix p2) X.env v = (do
      let ov ← holding [v] (eval o X.env)
      let iv ← holding [v, ov] (eval ix X.env)
      standAt p2
      holding [v, ov, iv] (setItem ov iv v)
      release [v, ov, iv] [])) (hsw : swapsWithSole [.Subscript o ix p2] e pos.line X.env = pure false) (hw : swappedStores [.Subscript o ix p2] e X.env = pure none)
    (h1 : (assignEach [.Subscript o ix p2] X.env).map (·.2) = [assign (.Subscript o ix p2) X.env]) : WS X (.Assign [.Subscript o ix p2] e pos) G D := fun σ H hs => by
  refine wS_of (ps_asg pE (pg_sub pE pE set_list ha) hsw hw h1) (wE_mono (he σ H hs) fun z H1 p1 => ?_)
  refine wE_mono (ho σ H1 (hs.ext p1.1)) fun y H2 p2 => wE_mono (h σ H2 ((hs.ext p1.1).ext p2.1)) fun w H3 ⟨r, G1, g1, hs3, k1, _, i, l, er, hj, i0, i1, q⟩ => ?_
  subst er
  have e2 : some y = some _ := p2.2.1
  cases e2
  obtain ⟨xs, h4, h5⟩ := hs3.hh.cl _ (List.mem_of_getElem? hj)
  have ez : z = .int v := p1.2.1.int
  subst ez
  have e1 : (l.map PyData.int).set i.toNat (.int v) = (set0 l i v).map .int := by simp [set0, List.map_set]
  refine ⟨a', xs, i, i.toNat, rfl, k1.int, h4, by rw [h5.length, List.length_map]; unfold ixN; simp [i0, i1], upL G1 j a' ((set0 l i v).map .int), ?_, ?_, q⟩
  · rw [← e1]; exact hs3.put hj (h5.set (.int v) i.toNat)
  · exact ((Ge.refl (p1.1.trans p2.1)).gs.trans g1.gs).trans (gs_put hj)
/-! ### a comprehension over what changes things -/
theorem we_lcL {X : Cx} {elt tg iter : Expr} {ifs : List Expr} {scope : Scope} {G : Gm} {Q : Sl → Gm → Prop} {pos : Pos} (own : List (Str × Nat)) (hc : X.calm = true) (hN : X.N.Nodup) (ok : BlkOk X.N X.env.scope scope own) (hif : ifs.length ≤ 1)
    (h : WE X iter G fun r G1 => ∃ (ds : List PyData) (out : Nat → Option PyData), Lv G1 r ds ∧ ds.length ≤ 1000000 ∧ (∀ i d, ds[i]? = some d → LcOk X scope tg elt ifs (own.map (·.2)) G1 (.d d) (out i)) ∧ Q (.f (outs out ds.length)) G1)
    (hf : ∀ x, foldedSetIterable iter X.env x = pure x) : WE X (.ListComp elt [⟨tg, iter, ifs, 0⟩] scope pos) G Q := fun σ H hs => by
  refine wE_of (pe_lc hc hN (pi_list pE) ok pbG (fun s H C cl fp => plcT s H C cl fp hif) pbE hf) (wE_mono (h σ H hs) fun v H1 ⟨r, G1, g1, hs1, k1, _, ds, out, kv, hn, hl, q1⟩ => ?_)
  obtain ⟨l, xs, rfl, k1, k2⟩ := kv.ok hs1 k1
  refine ⟨l, rfl, ⟨xs, k1⟩, fun Da hDa => ?_⟩
  have z := sizeLine_eq
  refine lc_list (xs := xs) (fun i H' => Hs X.K (inB G1 (own.map (·.2)) Da (outs out i)) (wipe σ (own.map (·.2))) H' ∧ ExB [] H1 H') ⟨hs1.inB hDa _, ExB.new hDa⟩ (fun i H' _ ⟨h1, e1⟩ => ?_) (fun i y H' hy ⟨h1, e1⟩ => ?_) (fun H' ⟨h1, e1⟩ => ?_)
  · exact Same.seq (fun b o eb => e1 b o (fun z => nomatch z) eb) k1
  · obtain ⟨d, hd, hm⟩ := k2.get' hy
    exact lc_turn hDa (by have := (List.getElem?_eq_some_iff.mp hd).1; omega) (hl i d hd) (Hs.inAv (SlOk.ofD hm) hDa e1) h1 e1
  · rw [k2.length] at h1
    have q := lc_end hs1 .refl hDa h1 e1
    exact ⟨_, G1, g1.trans (Ge.refl q.1), hs1.ext q.1, q.2.1, q.2.2.exb (by rw [g1.av]; exact g1.ex) (fun a hn => hs1.hh.new hn), q1⟩
/-! ### a comparison of what changes things, as a value -/
theorem op_any {X : Cx} {f : Value → Value → Sem Value} : OpR X f (fun x y H Q => ∃ r : R2, OpR X f r ∧ r x y H Q) := fun pins s σ H x y v u Q I rx ry ⟨r, h1, h2⟩ => h1 pins s σ H x y v u Q I rx ry h2
theorem we_cmp {X : Cx} {a b : Expr} {G : Gm} {op : CmpOp} {pos : Pos} {Q : Sl → Gm → Prop} (h : WE X a G fun ra G1 => WE X b G1 fun rb G2 => ∃ rz, Op2 X G2 (compareOp op) ra rb rz ∧ Q rz G2) (hm : behindInMarks op b = false := by first | exact nomark _ | rfl) : WE X (.Compare a [op] [b] pos) G Q := fun σ H hs => by
  refine wE_of (pe_cmpR op_any pE pE hm) ?_
  refine wE_mono (h σ H hs) fun x H1 ⟨ra, G1, g1, hs1, k1, _, q1⟩ => ?_
  refine wE_mono (q1 σ H1 hs1) fun y H2 ⟨rb, G2, g2, hs2, k2, _, rz, ⟨r, o1, o2⟩, q2⟩ => ?_
  refine ⟨r, o1, o2 σ H2 x y _ hs2 (by rw [g2.av]; exact k1.mono g2.ex) k2 fun z H3 q => ?_⟩
  have g := (g1.trans g2).trans (Ge.refl q.1)
  exact ⟨rz, G2, g, hs2.ext q.1, q.2.1, q.2.2.exb (by rw [(g1.trans g2).av]; exact (g1.trans g2).ex) (fun a hn => hs2.hh.new hn), q2⟩
end Rd

namespace Rd
open PySem PySem.Spec PyProof.Rows L2 TL
/-! ### texts as lists of signs -/
abbrev sS (l : List Nat) : Str := ⟨l.toArray⟩
abbrev dS (l : List Nat) : PyData := .str (sS l)
theorem sS_inj {a b : List Nat} (h : sS a = sS b) : a = b := by
  have := congrArg tl h
  exact this
theorem sS_tl (x : Str) : sS (tl x) = x := mk_tl x
theorem sS_app (a b : List Nat) : sS a ++ sS b = sS (a ++ b) := ext_tl (by rw [tl_append])
theorem sS_len (a : List Nat) : (sS a).length = a.length := by rw [len_tl]
theorem sS_dec (a b : List Nat) : decide (sS a = sS b) = decide (a = b) := by
  rw [decide_eq_decide]
  exact ⟨sS_inj, fun h => by rw [h]⟩
theorem sS_of (s : String) : Str.ofString s = sS (s.toList.map Char.toNat) := ext_tl (tl_ofString s)
section
variable {X : Cx} {G : Gm} {ra rb rz : Sl} {o e : Expr} {pos apos : Pos}
theorem er_ofS {s : String} {l : List Nat} {k : Nat} (h : s.toList.map Char.toNat = l) : ER X (.Constant (.str (Str.ofString s)) k pos) G (.d (dS l)) := by
  rw [← h]
  show ER X _ G (.d (.str (sS _)))
  rw [← sS_of]
  exact er_str
theorem o_catN {a b : List Nat} (h : a.length + b.length ≤ 1000000) : Op2 X G (binaryOp .Add) (.d (dS a)) (.d (dS b)) (.d (dS (a ++ b))) := by
  have := o_catS (X := X) (G := G) (y := sS a) (z := sS b) (by rw [sS_len, sS_len, sizeLine_eq]; omega)
  rw [sS_app] at this
  exact this
theorem o_eqN {a b : List Nat} : Op2 X G (compareOp .Eq) (.d (dS a)) (.d (dS b)) (.d (.bool (decide (a = b)))) := by
  rw [← sS_dec]; exact o_eqS
theorem o_neN {a b : List Nat} : Op2 X G (compareOp .NotEq) (.d (dS a)) (.d (dS b)) (.d (.bool (!decide (a = b)))) := by
  rw [← sS_dec]; exact o_neS
theorem o_slN {a : List Nat} {lo hi : Option Int} (h : a.length ≤ 1000000) : Sl3 X G (.d (dS a)) lo hi (.d (dS (cut a lo hi))) := by
  have := o_slS (X := X) (G := G) (z := sS a) (lo := lo) (hi := hi) (by rw [sS_len, sizeLine_eq]; omega)
  have e : cutS (sS a) lo hi = sS (cut a lo hi) := by
    unfold cutS cut
    rw [sS_len]
  rw [e] at this
  exact this
theorem b_lenN {a : List Nat} (h : a.length ≤ 1000000) : Cb X G (.builtin "len") [.d (dS a)] (.d (.int a.length)) := by
  have := b_lenS (X := X) (G := G) (z := sS a) (by rw [sS_len, sizeLine_eq]; omega)
  rw [sS_len] at this
  exact this
theorem b_strN {n : Nat} (h : n < 1000000) : Cb X G (.type "str") [.d (.int (n : Nat))] (.d (dS (numL n))) := by
  have := b_str (X := X) (G := G) (i := (n : Int)) (by
    show ((n : Int).natAbs).log2 < 1920
    rw [Int.natAbs_natCast]
    have h1 : n.log2 < 20 := by
      rcases Nat.eq_zero_or_pos n with h0 | h0
      · subst h0; decide
      · exact (Nat.log2_lt (by omega)).mpr (by omega)
    omega)
  have e : Str.ofString (toString ((n : Nat) : Int)) = sS (numL n) := ext_tl (tl_num n)
  rw [e] at this
  exact this
/-- o.split(e) -/
theorem er_split {a b : List Nat} (ho : ER X o G (.d (dS a))) (he : ER X e G (.d (dS b))) (hb : b ≠ []) (hk : b.all (· < 256) = true) (ha : a.length ≤ 1000000)
    (hs : starEach [e] X.env = [(false, eval e X.env)] := by rfl) (hbase : attributeBase o "split" X.env (eval o X.env) = eval o X.env := by rfl) (hline : (apos.endLine == pos.line) = true := by rfl) :
    ER X (.Call (.Attribute o "split" apos) [e] [] pos) G (.f ((spl b 0 [] a).map dS)) := fun σ H hs' => by
  refine wE_of (pe_split pE pE hs hbase hline) (wE_mono (ho σ H hs') fun x H1 p1 => ⟨⟨_, p1.2.1.str⟩, wE_mono (he σ H1 (hs'.ext p1.1)) fun y H2 p2 => ?_⟩)
  refine ⟨sS a, sS b, p1.2.1.str, by rw [p2.2.1.str], ?_, by rw [sS_len, sizeLine_eq]; omega, fun p hp => ?_⟩
  · rw [sS_len]
    cases b with
    | nil => exact absurd rfl hb
    | cons _ _ => rfl
  · have e : (Txt.split (sS a) (sS b)).map V.str = ((spl b 0 [] a).map sS).map V.str := by
      congr 1
      have h1 := split_spl (sS a) (sS b) hb (kind_ok (by simpa using hk))
      have h2 : ((spl b 0 [] a).map sS).map tl = spl b 0 [] a := by
        rw [List.map_map]
        conv => rhs; rw [← List.map_id (spl b 0 [] a)]
        rfl
      exact map_tl_inj (h1.trans h2.symm)
    rw [e]
    have := PR.f (K := X.K) (G := G) hs'.hh (p1.1.trans p2.1) hp (DmL.of_strs (A := G.av) (K := X.K) (H := H2) ((spl b 0 [] a).map sS))
    rw [List.map_map] at this
    exact this
/-- o.join(e) -/
theorem er_join {a : List Nat} {ys : List (List Nat)} (ho : ER X o G (.d (dS a))) (he : ER X e G rb) (v : Lv G rb (ys.map dS)) (hz : (ys.map (·.length)).sum + ys.length * a.length ≤ 1000000)
    (hs : starEach [e] X.env = [(false, eval e X.env)] := by rfl) (hbase : attributeBase o "join" X.env (eval o X.env) = eval o X.env := by rfl) (hline : (apos.endLine == pos.line) = true := by rfl) :
    ER X (.Call (.Attribute o "join" apos) [e] [] pos) G (.d (dS (joinL a ys))) := fun σ H hs' => by
  refine wE_of (pe_join pE pE hs hbase hline) (wE_mono (ho σ H hs') fun x H1 p1 => ⟨⟨_, p1.2.1.str⟩, wE_mono (he σ H1 (hs'.ext p1.1)) fun y H2 p2 => ?_⟩)
  obtain ⟨l, xs, rfl, h1, h2⟩ := v.ok ((hs'.ext p1.1).ext p2.1) p2.2.1
  have e2 : ys.map dS = (ys.map sS).map PyData.str := by rw [List.map_map]; rfl
  rw [e2] at h2
  have e := h2.strs
  subst e
  refine ⟨sS a, l, ys.map sS, p1.2.1.str, rfl, .inl h1, ?_, ?_⟩
  · rw [List.map_map, List.length_map, sS_len]
    have : ((fun x : Str => x.length) ∘ sS) = fun l : List Nat => l.length := by funext l; exact sS_len l
    rw [this]; omega
  · have e3 : Txt.join (sS a) (ys.map sS) = sS (joinL a ys) := by
      rw [join_eq]
      apply ext_tl
      rw [tl_join, List.map_map]
      show joinL a (ys.map id) = joinL a ys
      rw [List.map_id]
    rw [e3]
    exact PR.d (p1.1.trans p2.1) (.str _)
theorem endswith_tl (a b : List Nat) : Txt.endswith (sS a) (sS b) = decide (a.drop (a.length - b.length) = b) := by
  unfold Txt.endswith
  rw [sS_len, sS_len]
  by_cases h : b.length ≤ a.length
  · have e : decide (0 + b.length ≤ a.length) = true := decide_eq_true (by omega)
    rw [e, Bool.true_and]
    unfold Builtin.Str.subAt
    rw [sS_len, show a.length - b.length + b.length = a.length by omega, Bool.eq_iff_iff, beq_iff_eq, decide_eq_true_eq]
    constructor
    · intro q
      have := congrArg Array.toList q
      simpa [List.take_of_length_le] using this
    · intro q
      apply Array.toList_inj.mp
      simpa [List.take_of_length_le] using q
  · have e : decide (0 + b.length ≤ a.length) = false := decide_eq_false (by omega)
    rw [e, Bool.false_and]
    symm
    apply decide_eq_false
    intro q
    have := congrArg List.length q
    rw [List.length_drop] at this
    omega
/-- o.endswith(e) -/
theorem er_ends {a b : List Nat} (ho : ER X o G (.d (dS a))) (he : ER X e G (.d (dS b)))
    (hs : starEach [e] X.env = [(false, eval e X.env)] := by rfl) (hbase : attributeBase o "endswith" X.env (eval o X.env) = eval o X.env := by rfl) (hline : (apos.endLine == pos.line) = true := by rfl) :
    ER X (.Call (.Attribute o "endswith" apos) [e] [] pos) G (.d (.bool (decide (a.drop (a.length - b.length) = b)))) := fun σ H hs' => by
  refine wE_of (pe_m1 F.slot_str_endswith F.type_str_endswith mt_endswith pE pE hs hbase hline) (wE_mono (ho σ H hs') fun x H1 p1 => ⟨⟨_, p1.2.1.str⟩, wE_mono (he σ H1 (hs'.ext p1.1)) fun y H2 p2 => ?_⟩)
  refine ⟨sS a, sS b, p1.2.1.str, by rw [p2.2.1.str], ?_⟩
  rw [endswith_tl]
  exact PR.d (p1.1.trans p2.1) (.bl _)
/-- a sign in a text -/
theorem o_inN {c : Nat} {z : List Nat} : Op2 X G (compareOp .In) (.d (dS [c])) (.d (dS z)) (.d (.bool (decide (c ∈ z)))) :=
  ⟨_, op_in_sign, fun _ H x y Q hs hx hy k => ⟨c, sS z, hx.str, hy.str, k _ _ (PR.d .refl (.bl _))⟩⟩
theorem o_notInN {c : Nat} {z : List Nat} : Op2 X G (compareOp .NotIn) (.d (dS [c])) (.d (dS z)) (.d (.bool (!decide (c ∈ z)))) :=
  ⟨_, op_notIn_sign, fun _ H x y Q hs hx hy k => ⟨c, sS z, hx.str, hy.str, k _ _ (PR.d .refl (.bl _))⟩⟩
/-- z[i] -/
theorem o_ixN {z : List Nat} {i : Int} {c : Nat} (hz : z.length ≤ 1000000) (h : atI z i = some c) : Ix2 X G (.d (dS z)) (.d (.int i)) (.d (dS [c])) :=
  ⟨_, ix_str, fun _ H x y Q hs hx hy k => ⟨sS z, i, c, hx.str, hy.int, by rw [sS_len, sizeLine_eq]; omega, h, k _ _ (PR.d .refl (.str _))⟩⟩
/-- int(z) -/
theorem b_intN {n : Nat} (h : n < 1000000) : Cb X G (.type "int") [.d (dS (numL n))] (.d (.int (n : Nat))) :=
  ⟨_, call_int_str, fun _ H vs Q hs h0 k => by
    obtain ⟨x, rfl, hx⟩ := h0.one
    have hl : (numL n).length ≤ 6 := numL_len (by decide) (by omega)
    have e : Str.ofString (toString ((n : Nat) : Int)) = sS (numL n) := ext_tl (tl_num n)
    refine ⟨sS (numL n), n, by rw [hx.str], ?_, by rw [sS_len]; omega, k _ _ (PR.d .refl (.int _))⟩
    rw [← e]
    exact int_num (by omega)⟩
/-- x in a tuple, a list of data -/
theorem o_inD {d : PyData} {ds : List PyData} (hu : Un X) (va : Vw G ra d) (vb : Vw G rb (.tuple ds)) (hd : d.depth ≤ 60) : Op2 X G (compareOp .In) ra rb (.d (.bool (ds.any fun z => PyData.eqv z d))) :=
  ⟨_, op_inP hu, fun _ H _ _ _ hs hx hy k => by
    have h1 := va.ok hs hx
    have h2 := vb.ok hs hy
    exact ⟨d, ds, h1.dp _ _, .inr (h2.dp _ _), dm_plain _ _ h1, by have := dm_plain _ _ h2; unfold PyData.plain at this; exact this, hd, k _ _ (PR.d .refl (.bl _))⟩⟩
theorem o_inDL {d : PyData} {ds : List PyData} (hu : Un X) (va : Vw G ra d) (vb : Vw G rb (.list ds)) (hd : d.depth ≤ 60) : Op2 X G (compareOp .In) ra rb (.d (.bool (ds.any fun z => PyData.eqv z d))) :=
  ⟨_, op_inP hu, fun _ H _ _ _ hs hx hy k => by
    have h1 := va.ok hs hx
    have h2 := vb.ok hs hy
    exact ⟨d, ds, h1.dp _ _, .inl (h2.dp _ _), dm_plain _ _ h1, by have := dm_plain _ _ h2; unfold PyData.plain at this; exact this, hd, k _ _ (PR.d .refl (.bl _))⟩⟩
theorem o_notInDL {d : PyData} {ds : List PyData} (hu : Un X) (va : Vw G ra d) (vb : Vw G rb (.list ds)) (hd : d.depth ≤ 60) : Op2 X G (compareOp .NotIn) ra rb (.d (.bool (!(ds.any fun z => PyData.eqv z d)))) :=
  ⟨_, op_notInP hu, fun _ H _ _ _ hs hx hy k => by
    have h1 := va.ok hs hx
    have h2 := vb.ok hs hy
    exact ⟨d, ds, h1.dp _ _, .inl (h2.dp _ _), dm_plain _ _ h1, by have := dm_plain _ _ h2; unfold PyData.plain at this; exact this, hd, k _ _ (PR.d .refl (.bl _))⟩⟩
/-- {k: t, ..}.get(e, f), two entries -/
theorem er_get2 {k1 k2 v1 v2 e f : Expr} {i1 i2 j : Int} {s1 s2 s3 : Str} {dp cpos : Pos} (hu : Un X) (h1 : ER X k1 G (.d (.int i1))) (h2 : ER X v1 G (.d (.str s1))) (h3 : ER X k2 G (.d (.int i2))) (h4 : ER X v2 G (.d (.str s2))) (h5 : ER X e G (.d (.int j))) (h6 : ER X f G (.d (.str s3))) (hne : i1 ≠ i2)
    (m : M2 X (.Dict [some k1, some k2] [v1, v2] dp) "get" apos e f cpos) : ER X (.Call (.Attribute (.Dict [some k1, some k2] [v1, v2] dp) "get" apos) [e, f] [] cpos) G (.d (.str (if j = i1 then s1 else if j = i2 then s2 else s3))) := fun σ H hs => by
  refine wE_of (pe_dget2 (by unfold Un at hu; omega) (pe_disp (pps_cons pE pE (pps_cons pE pE pps_nil)) rfl rfl (fun z => nomatch z) (show 2 ≤ 15 by decide)) pE pE m) ?_
  intro p hp
  have e0 := ExB.new (A := []) (o := .dK []) hp
  have hs0 := hs.ext e0
  refine wE_mono (h1 σ _ hs0) fun a1 H1 p1 => wE_mono (h2 σ _ (hs0.ext p1.1)) fun b1 H2 p2 => ?_
  refine wE_mono (h3 σ _ ((hs0.ext p1.1).ext p2.1)) fun a2 H3 p3 => wE_mono (h4 σ _ (((hs0.ext p1.1).ext p2.1).ext p3.1)) fun b2 H4 p4 => ?_
  have e4 := ((p1.1.trans p2.1).trans p3.1).trans p4.1
  have hp4 : H4 p = some (.dK []) := e4 p _ (fun z => nomatch z) upd_same
  have x1 : a1 = .int i1 := p1.2.1.int
  have x2 : b1 = .str s1 := p2.2.1.str
  have x3 : a2 = .int i2 := p3.2.1.int
  have x4 : b2 = .str s2 := p4.2.1.str
  subst x1 x2 x3 x4
  refine ⟨hp4, [(.inl i1, .str s1), (.inl i2, .str s2)], rfl, (show 2 ≤ 15 by decide), p, rfl, .inl ⟨_, .inl upd_same⟩, ?_⟩
  have ex5 : ExB [] H (upd H4 p (.dK (mergeK [] [(.inl i1, .str s1), (.inl i2, .str s2)]))) := fun b o _ eb => by
    have ne : b ≠ p := ne_of_none eb hp
    rw [upd_ne ne]
    exact e4 b o (fun z => nomatch z) (e0 b o (fun z => nomatch z) eb)
  refine wE_mono (h5 σ _ (hs.ext ex5)) fun y H6 p6 => wE_mono (h6 σ _ ((hs.ext ex5).ext p6.1)) fun z H7 p7 => ?_
  have hp7 : H7 p = some (.dK (mergeK [] [(.inl i1, .str s1), (.inl i2, .str s2)])) := (p6.1.trans p7.1) p _ (fun z => nomatch z) upd_same
  have y6 : y = .int j := p6.2.1.int
  have z7 : z = .str s3 := p7.2.1.str
  subst y6 z7
  refine ⟨_, DGet.k (k := .inl j) hp7, ?_⟩
  have ev : (valV (mergeK [] [(Sum.inl i1, V.str s1), (Sum.inl i2, V.str s2)]) (Sum.inl j)).getD (.str s3) = .str (if j = i1 then s1 else if j = i2 then s2 else s3) := by
    have em : mergeK [] [(Sum.inl i1, V.str s1), (Sum.inl i2, V.str s2)] = [(Sum.inl i1, V.str s1), (Sum.inl i2, V.str s2)] := by
      show putK (putK [] (Sum.inl i1) (V.str s1)) (Sum.inl i2) (V.str s2) = _
      rw [putK_new (V.str s1) valV_nil, List.nil_append, putK_new]
      · rfl
      · rw [valV_neg (by intro z; cases z; exact hne rfl)]; rfl
    rw [em]
    by_cases q1 : j = i1
    · subst q1; rw [valV_pos rfl, if_pos rfl]; rfl
    · rw [valV_neg (by intro z; cases z; exact q1 rfl), if_neg q1]
      by_cases q2 : j = i2
      · subst q2; rw [valV_pos rfl, if_pos rfl]; rfl
      · rw [valV_neg (by intro z; cases z; exact q2 rfl), if_neg q2]; rfl
  rw [ev]
  exact PR.d ((ex5.trans p6.1).trans p7.1) (.str _)
end
section
variable {X : Cx} {elt tg iter : Expr} {G : Gm} {pos : Pos} {scope : Scope} {own : List (Str × Nat)} {ifs : List Expr}
/-- [elt for tg in a text if ..] -/
theorem lcN' (xs : List Nat) (o : Nat → Option PyData) (hc : X.calm = true) (hN : X.N.Nodup) (ok : BlkOk X.N X.env.scope scope own) (hi : ER X iter G (.d (dS xs))) (hn : xs.length ≤ 1000000) (hif : ifs.length ≤ 1) (h : ∀ x ∈ xs, LcOk X scope tg elt ifs (own.map (·.2)) G (.d (dS [x])) (o x))
    (hf : ∀ x, foldedSetIterable iter X.env x = pure x) : LC X elt tg iter ifs scope G (xs.filterMap o) := by
  refine ⟨hc, hN, hif, hf, own, _, (pi_str pE), ok, fun σ H Q hs kQ => wE_mono (hi σ H hs) fun v H1 q => ?_⟩
  have hz := sizeLine_eq
  refine ⟨sS xs, q.2.1.str, fun Da hDa => ?_⟩
  have e0 := outs_fm xs o
  have hsz : (sS xs).cps.size = xs.length := by simp
  refine ⟨fun i m H' => m = xs.length - i ∧ i ≤ xs.length ∧ Hs X.K (inB G (own.map (·.2)) Da (outs (fun i => (xs[i]?).bind o) i)) (wipe σ (own.map (·.2))) H' ∧ ExB [] H1 H', ⟨xs.length, by simp, Nat.zero_le _, (hs.ext q.1).inB hDa _, ExB.new hDa⟩, ?_⟩
  rintro i m H' ⟨rfl, hi', h1, e1⟩
  by_cases hlt : i < xs.length
  · refine .inr ⟨?_, fun H'' => Hs X.K (inB G (own.map (·.2)) Da (outs (fun i => (xs[i]?).bind o) (i + 1))) (wipe σ (own.map (·.2))) H'' ∧ ExB [] H1 H'', fun H'' p' => ⟨xs.length - (i + 1), by omega, rfl, hlt, p'⟩, fun x H'' y => ?_⟩
    · show i < (sS xs).cps.size
      rw [hsz]; exact hlt
    · obtain ⟨e, c, hcx, rfl⟩ := y
      subst e
      have hx : xs[i]? = some c := by simpa using hcx
      have hlo : LcOk X scope tg elt ifs (own.map (·.2)) G (.d (dS [c])) ((fun i => (xs[i]?).bind o) i) := by
        show LcOk X scope tg elt ifs (own.map (·.2)) G (.d (dS [c])) ((xs[i]?).bind o)
        rw [hx]; exact h c (List.mem_of_getElem? hx)
      exact lc_turn (out := fun i => (xs[i]?).bind o) hDa (by omega) hlo (SlOk.ofD (.str _)) h1 e1
  · have e : i = xs.length := by omega
    subst e
    refine .inl ⟨?_, ?_⟩
    · show (sS xs).cps.size ≤ xs.length
      rw [hsz]; exact Nat.le_refl _
    · rw [e0] at h1
      exact kQ _ _ (lc_end hs q.1 hDa h1 e1)
theorem lcNm (xs : List Nat) (g : Nat → PyData) (own : List (Str × Nat)) (hc : X.calm = true) (hN : X.N.Nodup) (ok : BlkOk X.N X.env.scope scope own) (hi : ER X iter G (.d (dS xs))) (hn : xs.length ≤ 1000000) (hf : ∀ x, foldedSetIterable iter X.env x = pure x) (h : ∀ x ∈ xs, LcOk X scope tg elt [] (own.map (·.2)) G (.d (dS [x])) (some (g x))) : LC X elt tg iter [] scope G (xs.map g) := by
  rw [← fm_some]; exact lcN' xs _ hc hN ok hi hn (by decide) h hf
end
end Rd

namespace Rd
open PySem PySem.Spec PyProof.Rows L2
/-! ### try: .. except x: y = True or False -/
theorem ws_tryB {X : Cx} {G : Gm} {D : De} {Er : Addr → Gm → Prop} {x y : Str} {c : Value} {j k : Nat} {v : Bool} {body : List Stmt} {np p1 p2 p3 pos pos' : Pos} (hx : XOk X Er) (nj : Nl X j y) (nc : Names X x c)
    (h : ∀ Y B, TrX X Y → XOk Y (fun C G1 => G1.B = B ∧ G1.A0 = G.A0 ∧ ∃ b, PySem.W.exmOne X.K (.ref C) c = some b ∧ (b = true → D.nx (upS (inTry G G1) j (.d (.bool v)))) ∧ (b = false → Er C (inTry G G1))) → WB Y body { G with B := B } (tryD B G D))
    (hsw : swapsWith (.Constant (.bool v) k p2) (some (.Name y p1)) p3.line X.env = pure false := by rfl) : WS X (.Try body [.ExceptHandler (some (.Name x np)) none [.Assign [.Name y p1] (.Constant (.bool v) k p2) p3] pos'] [] [] pos) G D := fun σ H hs => by
  obtain ⟨own, ⟨st, fr, ex0⟩, W0, tk0, to0⟩ := hx
  let B' : Hp := fun b => if b ∈ G.ad then none else H b
  have bIn : ∀ b o, G.B b = some o → B' b = some o := fun b o q => by
    show (if b ∈ G.ad then none else H b) = some o
    rw [if_neg fun z => by rw [hs.hh.fr b z] at q; cases q]
    exact hs.hh.ex b o q
  have adN : ∀ b, b ∈ G.ad → B' b = none := fun b hb => by
    show (if b ∈ G.ad then none else H b) = none
    rw [if_pos hb]
  have adO : ∀ b, b ∉ G.ad → B' b = H b := fun b hb => by
    show (if b ∈ G.ad then none else H b) = H b
    rw [if_neg hb]
  have fwd : Hs X.K { G with B := B' } σ H := by
    refine ⟨⟨fun b o q => ?_, hs.hh.nd, adN, fun b hb => ?_, hs.hh.cl⟩, hs.sl⟩
    · by_cases z : b ∈ G.ad
      · have q' : B' b = some o := q
        rw [adN b z] at q'; cases q'
      · have q' : B' b = some o := q
        rw [adO b z] at q'; exact q'
    · by_cases z : b ∈ G.ad
      · exact .inr z
      · refine .inl ?_
        show B' b ≠ none
        rw [adO b z]
        rcases hs.hh.out b hb with q | q
        · cases r : G.B b with
          | none => exact absurd r q
          | some o => rw [hs.hh.ex b o r]; exact fun w => nomatch w
        · exact absurd q z
  have frB : ∀ a, B' a = none → G.B a = none := fun a z => by
    cases q : G.B a with
    | none => rfl
    | some o => rw [bIn a o q] at z; cases z
  have back : ∀ {G1 : Gm} {H1 : Hp}, Hh X.K G1 H1 → G1.B = B' → G1.A0 = G.A0 → Hh X.K (inTry G G1) H1 := fun {G1 H1} h1 e e2 => by
    refine ⟨fun b o q => h1.ex b o (by rw [e]; exact bIn b o q), h1.nd, fun a ha => frB a (by rw [← e]; exact h1.fr a ha), fun b hb => ?_, h1.cl⟩
    have hb' : b ∈ G1.A0 := hb
    rcases hs.hh.out b (by rw [← e2]; exact hb') with q | q
    · exact .inl q
    · rcases h1.out b hb' with r | r
      · rw [e, adN b q] at r; exact absurd rfl r
      · exact .inr r
  have gs : ∀ {G1 : Gm} {H1 : Hp}, Hh X.K G1 H1 → G1.B = B' → G1.A0 = G.A0 → Gs G H G1 H1 := fun {G1 H1} h1 e e2 => by
    refine ⟨fun b o nb q => h1.ex b o ?_, fun a ha => ?_⟩
    · rw [e, adO b fun z => nb (List.mem_append_left _ z)]; exact q
    · rcases List.mem_append.mp ha with q | q
      · have z := h1.fr a q
        rw [e] at z
        by_cases r : a ∈ G.ad
        · exact .inl (List.mem_append_left _ r)
        · rw [adO a r] at z; exact .inr z
      · exact .inl (List.mem_append_right _ (by rw [← e2]; exact q))
  have bk2 : ∀ {G1 : Gm} {σ1 : L2.St} {H1 : Hp}, Hs X.K G1 σ1 H1 → G1.B = B' → G1.A0 = G.A0 → Hs X.K (inTry G G1) σ1 H1 := fun h1 e e2 => ⟨back h1.hh e e2, h1.sl⟩
  refine wS_of (ps_try_only (ts := fun _ _ _ => tAsg (tC (.bl v)) (gName j)) (tb := fun W D σ H => ∀ pn xe, Takes (X.tr pn xe) W → PassesOwn (model X.prog X.w) X.A X.env xe → wB (X.tr pn xe) body D σ H) st fr nc tk0 (fun W pn xe t o => ⟨fun pins s σ H D I w => (w pn xe t o).go pins s I⟩)
    (fun a oe cls d pn _ _ => pss_one (ps_set (X := X.suite a ((a, oe) :: pn)) nj.nd nj.n nj.l (pe_bl (X := X.suite a ((a, oe) :: pn))) hsw nj.f))) ?_
  intro pn xe t o
  have tr : TrX X (X.tr pn xe) := ⟨pn, xe, rfl⟩
  have W := h (X.tr pn xe) B' tr ⟨o, ⟨st, fr, ex0⟩, _, t, fun C G1 σ1 H1 hs1 ⟨e1, e2, b, exm, yes, no⟩ => ⟨b, exm, fun hb a na => ?_, fun hb => to0 C _ σ1 H1 (bk2 hs1 e1 e2) (no hb)⟩⟩ σ H fwd
  · refine wB_mono W (fun σ1 H1 ⟨G1, h1, _, e1, e2, q⟩ => ⟨_, bk2 h1 e1 e2, ?_, q⟩) (fun v H1 ⟨r, G1, h1, k1, f1, e1, e2, q⟩ => ⟨r, _, back h1 e1 e2, k1, ?_, q⟩) (fun σ1 H1 ⟨G1, h1, _, e1, e2, q⟩ => ⟨_, bk2 h1 e1 e2, ?_, q⟩) (fun σ1 H1 ⟨G1, h1, _, e1, e2, q⟩ => ⟨_, bk2 h1 e1 e2, ?_, q⟩)
    · exact ⟨(gs (G1 := G1) h1.hh e1 e2).ex, (gs (G1 := G1) h1.hh e1 e2).av⟩
    · cases r with
      | f ds =>
        obtain ⟨a, xs, z1, z2, z3⟩ := f1
        exact ⟨a, xs, z1, frB a (by rw [← e1]; exact z2), z3⟩
      | _ => trivial
    · exact ⟨(gs (G1 := G1) h1.hh e1 e2).ex, (gs (G1 := G1) h1.hh e1 e2).av⟩
    · exact ⟨(gs (G1 := G1) h1.hh e1 e2).ex, (gs (G1 := G1) h1.hh e1 e2).av⟩
  · have qn := yes hb
    refine ⟨upS (inTry G G1) j (.d (.bool v)), (bk2 hs1 e1 e2).set j (SlOk.ofD (.bl v)), ?_, qn⟩
    have g := gs hs1.hh e1 e2
    exact ⟨g.ex, g.av⟩
end Rd

namespace Rd
open PySem PySem.Spec PyProof.Rows L2 TL
/-! ### places, sides, boards as texts -/
def cBar : List Nat := [98, 97, 114]
def cOff : List Nat := [111, 102, 102]
def figs : List Nat := [48, 49, 50, 51, 52, 53, 54, 55, 56, 57]
def placeL (p : Int) : List Nat := if p = 25 then cBar else if p = 0 then cOff else numL p.toNat
def sideW (l : List Int) (p : Int) : List Nat := placeL p ++ [58] ++ numL (at0 l p).toNat
def sidePs (l : List Int) : List Int := (rngD 25 (-1)).filter fun p => decide (0 < at0 l p)
def sideL (l : List Int) : List Nat := joinL [32] ((sidePs l).map (sideW l))
def boardL (b : List Int × List Int) : List Nat := sideL b.1 ++ [32, 124, 32] ++ sideL b.2
def valW (w : List Nat) : Nat := w.foldl (fun acc c => acc * 10 + (c - 48)) 0
def isNumW (w : List Nat) : Bool := (decide (1 ≤ w.length) && decide (w.length ≤ 2)) && (w.all fun c => decide (c ∈ figs)) && !decide (w.head? = some 48)
def numberIn (w : List Nat) (most : Int) : Option Int := if isNumW w then (if (valW w : Int) ≤ most then some (valW w : Int) else none) else none
def readPlace (w : List Nat) : Option Int := if w = cBar then some 25 else if w = cOff then some 0 else numberIn w 24
def readWord (st : List Int × Int) (w : List Nat) : Option (List Int × Int) := match spl [58] 0 [] w with
  | [a, b] => match readPlace a with
    | some p => if p < st.2 then (match numberIn b 15 with
      | some n => some (set0 st.1 p n, p)
      | none => none) else none
    | none => none
  | _ => none
def readWords (st : List Int × Int) : List (List Nat) → Option (List Int × Int)
  | [] => some st
  | w :: ws => match readWord st w with
    | some st' => readWords st' ws
    | none => none
def readSide (t : List Nat) : Option (List Int) := (readWords (List.replicate 26 0, 26) (spl [32] 0 [] t)).map (·.1)
def readBoard (t : List Nat) : Option (List Int × List Int) := match spl [32, 124, 32] 0 [] t with
  | [a, b] => match readSide a, readSide b with
    | some x, some y => if isBoard (x, y) then some (x, y) else none
    | _, _ => none
  | _ => none
/-! numbers -/
theorem num2 : ∀ c ∈ figs, ∀ d ∈ figs, c ≠ 48 → numL (valW [c, d]) = [c, d] ∧ 1 ≤ valW [c, d] ∧ valW [c, d] < 100 := by decide +kernel
theorem num1 : ∀ c ∈ figs, c ≠ 48 → numL (valW [c]) = [c] ∧ 1 ≤ valW [c] ∧ valW [c] < 100 := by decide +kernel
theorem isNumW_num {w : List Nat} (h : isNumW w = true) : numL (valW w) = w ∧ 1 ≤ valW w ∧ valW w < 100 := by
  unfold isNumW at h
  simp only [Bool.and_eq_true, decide_eq_true_eq, Bool.not_eq_true', decide_eq_false_iff_not] at h
  obtain ⟨⟨⟨h1, h2⟩, h3⟩, h4⟩ := h
  match w, h1, h2, h3, h4 with
  | [c], _, _, h3, h4 =>
    simp only [List.all_cons, List.all_nil, Bool.and_true, decide_eq_true_eq] at h3
    exact num1 c h3 (fun z => h4 (by rw [z]; rfl))
  | [c, d], _, _, h3, h4 =>
    simp only [List.all_cons, List.all_nil, Bool.and_true, Bool.and_eq_true, decide_eq_true_eq] at h3
    exact num2 c h3.1 d h3.2 (fun z => h4 (by rw [z]; rfl))
theorem numberIn_some {w : List Nat} {most n : Int} (h : numberIn w most = some n) : w = numL n.toNat ∧ 1 ≤ n ∧ n ≤ most ∧ n < 100 := by
  unfold numberIn at h
  split at h
  · rename_i q
    obtain ⟨h1, h2, h3⟩ := isNumW_num q
    split at h
    · cases h
      exact ⟨by rw [Int.toNat_natCast]; exact h1.symm, by omega, by assumption, by omega⟩
    · cases h
  · cases h
theorem number_back : ∀ n ∈ rng 1 25, isNumW (numL n.toNat) = true ∧ (valW (numL n.toNat) : Int) = n := by decide +kernel
theorem numberIn_num {n most : Int} (h1 : 1 ≤ n) (h2 : n ≤ 24) (h3 : n ≤ most) : numberIn (numL n.toNat) most = some n := by
  obtain ⟨a, b⟩ := number_back n (mem_rng.mpr ⟨h1, by omega⟩)
  unfold numberIn
  rw [if_pos a, b, if_pos h3]
theorem place_back' : ∀ p ∈ rng 0 26, readPlace (placeL p) = some p := by decide +kernel
theorem place_back {p : Int} (h0 : 0 ≤ p) (h1 : p ≤ 25) : readPlace (placeL p) = some p := place_back' p (mem_rng.mpr ⟨h0, by omega⟩)
theorem place_free' : ∀ p ∈ rng 0 26, 32 ∉ placeL p ∧ 58 ∉ placeL p ∧ 124 ∉ placeL p ∧ 47 ∉ placeL p ∧ 42 ∉ placeL p ∧ 10 ∉ placeL p ∧ (placeL p).length ≤ 3 ∧ placeL p ≠ [] := by decide +kernel
theorem place_free {p : Int} (h0 : 0 ≤ p) (h1 : p ≤ 25) : 32 ∉ placeL p ∧ 58 ∉ placeL p ∧ 124 ∉ placeL p ∧ 47 ∉ placeL p ∧ 42 ∉ placeL p ∧ 10 ∉ placeL p ∧ (placeL p).length ≤ 3 ∧ placeL p ≠ [] := place_free' p (mem_rng.mpr ⟨h0, by omega⟩)
theorem readPlace_some {w : List Nat} {p : Int} (h : readPlace w = some p) : w = placeL p ∧ 0 ≤ p ∧ p ≤ 25 := by
  unfold readPlace at h
  split at h
  · cases h; rename_i q; exact ⟨q, by decide, by decide⟩
  · split at h
    · cases h; rename_i q; exact ⟨q, by decide, by decide⟩
    · obtain ⟨a, b, c, _⟩ := numberIn_some h
      refine ⟨?_, by omega, by omega⟩
      unfold placeL
      rw [if_neg (by omega), if_neg (by omega)]
      exact a
/-! joining what was split -/
theorem join_spl {S : List Nat} (hS : S ≠ []) : ∀ (n : Nat) (l acc : List Nat), l.length ≤ n → joinL S (spl S 0 acc l) = acc ++ l ∧ spl S 0 acc l ≠ [] := by
  intro n
  induction n with
  | zero =>
    intro l acc h
    have : l = [] := List.length_eq_zero_iff.mp (by omega)
    subst this
    rw [spl_nil]
    exact ⟨by simp [joinL], fun z => nomatch z⟩
  | succ n ih =>
    intro l acc h
    cases l with
    | nil => rw [spl_nil]; exact ⟨by simp [joinL], fun z => nomatch z⟩
    | cons c r =>
      cases hp : pre S (c :: r) with
      | true =>
        rw [spl_hit hp, spl_pass]
        have hr : (r.drop (S.length - 1)).length ≤ n := by
          rw [List.length_drop]; simp only [List.length_cons] at h; omega
        obtain ⟨h1, h2⟩ := ih (r.drop (S.length - 1)) [] hr
        refine ⟨?_, fun z => nomatch z⟩
        cases hq : spl S 0 [] (r.drop (S.length - 1)) with
        | nil => exact absurd hq h2
        | cons q qs =>
          rw [hq] at h1
          show acc ++ (S ++ joinL S (q :: qs)) = acc ++ (c :: r)
          rw [h1, List.nil_append]
          congr 1
          unfold pre at hp
          have e := eq_of_beq hp
          cases S with
          | nil => exact absurd rfl hS
          | cons s S' =>
            simp only [List.length_cons, List.take_succ_cons, List.cons.injEq] at e
            simp only [List.length_cons, Nat.add_sub_cancel, List.cons_append]
            rw [e.1]
            conv => rhs; rw [← List.take_append_drop S'.length r]
            rw [e.2]
      | false =>
        rw [spl_miss hp]
        obtain ⟨h1, h2⟩ := ih r (acc ++ [c]) (by simp only [List.length_cons] at h; omega)
        exact ⟨by rw [h1]; simp, h2⟩
theorem join_split {S : List Nat} (hS : S ≠ []) (l : List Nat) : joinL S (spl S 0 [] l) = l := by
  have := (join_spl hS l.length l [] (Nat.le_refl _)).1
  simpa using this
/-! the words of a side -/
structure Sd (l : List Int) : Prop where
  ln : l.length = 26
  nn : NN l
  le : ∀ p : Int, at0 l p ≤ 15
theorem sidePs_mem {l : List Int} {p : Int} : p ∈ sidePs l ↔ 0 ≤ p ∧ p ≤ 25 ∧ 0 < at0 l p := by
  unfold sidePs
  rw [List.mem_filter, mem_rngD, decide_eq_true_eq]
  omega
theorem numL_free' {n s : Nat} (h : s < 48 ∨ 57 < s) : s ∉ numL n := numL_free h
theorem sideW_free {l : List Int} {p : Int} (h0 : 0 ≤ p) (h1 : p ≤ 25) : 32 ∉ sideW l p ∧ 124 ∉ sideW l p := by
  obtain ⟨a, b, c, _⟩ := place_free h0 h1
  unfold sideW
  refine ⟨fun z => ?_, fun z => ?_⟩
  · simp only [List.mem_append, List.mem_singleton] at z
    rcases z with (z | z) | z
    · exact a z
    · omega
    · exact numL_free' (.inl (by decide)) z
  · simp only [List.mem_append, List.mem_singleton] at z
    rcases z with (z | z) | z
    · exact c z
    · omega
    · exact numL_free' (.inr (by decide)) z
theorem spl_word {l : List Int} {p : Int} (h0 : 0 ≤ p) (h1 : p ≤ 25) : spl [58] 0 [] (sideW l p) = [placeL p, numL (at0 l p).toNat] := by
  obtain ⟨a, b, c, _⟩ := place_free h0 h1
  unfold sideW
  rw [List.append_assoc]
  have e := spl_part1 (S := []) (acc := []) (rest := numL (at0 l p).toNat) b
  rw [List.nil_append] at e
  have e2 := spl_last1 (S := []) (acc := []) (p := numL (at0 l p).toNat) (s := 58) (numL_free' (.inr (by decide)))
  rw [List.nil_append] at e2
  rw [e2] at e
  exact e
theorem readWord_ok {l s : List Int} {last p : Int} (hl : Sd l) (h0 : 0 ≤ p) (h1 : p ≤ 25) (h2 : 0 < at0 l p) (h3 : p < last) : readWord (s, last) (sideW l p) = some (set0 s p (at0 l p), p) := by
  unfold readWord
  rw [spl_word h0 h1]
  simp only
  rw [place_back h0 h1]
  simp only
  have h4 := hl.le p
  rw [if_pos h3, numberIn_num (by omega) (by omega) h4]
/-- strictly falling -/
def Fall (last : Int) : List Int → Prop
  | [] => True
  | p :: ps => p < last ∧ Fall p ps
theorem readWords_ok {l : List Int} (hl : Sd l) : ∀ (ps : List Int) (s : List Int) (last : Int), (∀ p ∈ ps, 0 ≤ p ∧ p ≤ 25 ∧ 0 < at0 l p) → Fall last ps → ∃ last', readWords (s, last) (ps.map (sideW l)) = some (ps.foldl (fun s p => set0 s p (at0 l p)) s, last')
  | [], s, last, _, _ => ⟨last, rfl⟩
  | p :: ps, s, last, h, hf => by
    obtain ⟨a, b, c⟩ := h p List.mem_cons_self
    obtain ⟨last', e⟩ := readWords_ok hl ps (set0 s p (at0 l p)) p (fun q hq => h q (List.mem_cons_of_mem _ hq)) hf.2
    refine ⟨last', ?_⟩
    rw [List.map_cons]
    unfold readWords
    rw [readWord_ok hl a b c hf.1]
    exact e
theorem fold_at {l : List Int} : ∀ (ps : List Int) (s : List Int), s.length = 26 → (∀ p ∈ ps, 0 ≤ p ∧ p ≤ 25) → (ps.foldl (fun s p => set0 s p (at0 l p)) s).length = 26 ∧ ∀ q, 0 ≤ q → at0 (ps.foldl (fun s p => set0 s p (at0 l p)) s) q = if q ∈ ps then at0 l q else at0 s q
  | [], s, h, _ => ⟨h, fun q _ => by rw [if_neg (by simp)]; rfl⟩
  | p :: ps, s, h, hp => by
    obtain ⟨a, b⟩ := hp p List.mem_cons_self
    obtain ⟨e1, e2⟩ := fold_at ps (set0 s p (at0 l p)) (by rw [set0_len]; exact h) fun q hq => hp q (List.mem_cons_of_mem _ hq)
    refine ⟨e1, fun q hq => ?_⟩
    rw [List.foldl_cons, e2 q hq]
    by_cases h1 : q ∈ ps
    · rw [if_pos h1, if_pos (List.mem_cons_of_mem _ h1)]
    · rw [if_neg h1, at0_set0 a (by omega) hq]
      by_cases h2 : q = p
      · rw [if_pos h2, if_pos (by rw [h2]; exact List.mem_cons_self), h2]
      · rw [if_neg h2, if_neg (by simp [h1, h2])]
theorem ext_at {a b : List Int} (h : a.length = b.length) (e : ∀ q : Int, 0 ≤ q → q < a.length → at0 a q = at0 b q) : a = b := by
  apply List.ext_getElem h
  intro i h1 h2
  have := e i (by omega) (by omega)
  unfold at0 at this
  simpa [h1, h2] using this
theorem fall_filter (f : Int → Bool) : ∀ (n : Nat) (lo last : Int), lo < last → Fall last (((List.range n).map fun i => lo - (i : Nat)).filter f)
  | 0, _, _, _ => trivial
  | n + 1, lo, last, h => by
    rw [List.range_succ_eq_map, List.map_cons, List.map_map]
    have e : ((fun i : Nat => lo - (i : Nat)) ∘ Nat.succ) = fun i : Nat => (lo - 1) - (i : Nat) := by funext i; simp; omega
    rw [e, List.filter_cons]
    split
    · exact ⟨by simpa using h, by simpa using fall_filter f n (lo - 1) (lo - ((0 : Nat) : Int)) (by simp; omega)⟩
    · exact fall_filter f n (lo - 1) last (by omega)
theorem side_words {l : List Int} (hl : Sd l) : ∃ last, readWords (List.replicate 26 0, 26) ((sidePs l).map (sideW l)) = some (l, last) := by
  obtain ⟨last, e⟩ := readWords_ok hl (sidePs l) (List.replicate 26 0) 26 (fun p hp => sidePs_mem.mp hp) (fall_filter _ _ 25 26 (by decide))
  refine ⟨last, ?_⟩
  rw [e]
  obtain ⟨h1, h2⟩ := fold_at (l := l) (sidePs l) (List.replicate 26 0) List.length_replicate fun p hp => by
    have := sidePs_mem.mp hp; exact ⟨this.1, this.2.1⟩
  congr 2
  refine ext_at (h1.trans hl.ln.symm) fun q q0 q1 => ?_
  rw [h2 q q0]
  by_cases h : q ∈ sidePs l
  · rw [if_pos h]
  · rw [if_neg h, at0_rep]
    have := hl.nn.at q
    have : ¬ 0 < at0 l q := fun z => h (sidePs_mem.mpr ⟨q0, by omega, z⟩)
    omega
theorem pos_of_sum {l : List Int} (hn : NN l) (h : 1 ≤ l.sum) (hl : l.length = 26) : sidePs l ≠ [] := by
  intro z
  have key : ∀ q : Int, 0 ≤ q → q < 26 → at0 l q = 0 := fun q q0 q1 => by
    have := hn.at q
    have : ¬ 0 < at0 l q := fun w => by
      have := sidePs_mem.mpr ⟨q0, (by omega : q ≤ 25), w⟩
      rw [z] at this; cases this
    omega
  have e : l = List.replicate 26 0 := ext_at (by rw [hl, List.length_replicate]) fun q q0 q1 => by rw [key q q0 (by omega), at0_rep]
  rw [e, sum_rep] at h
  omega
theorem side_read {l : List Int} (hl : Sd l) (hp : sidePs l ≠ []) : readSide (sideL l) = some l := by
  unfold readSide sideL
  rw [spl_join (by simpa using hp) fun w hw => by
    obtain ⟨p, h1, rfl⟩ := List.mem_map.mp hw
    have := sidePs_mem.mp h1
    exact (sideW_free this.1 this.2.1).1]
  obtain ⟨last, e⟩ := side_words hl
  rw [e]; rfl
theorem sideL_free {l : List Int} : 124 ∉ sideL l := by
  unfold sideL
  have : ∀ ps : List (List Nat), (∀ w ∈ ps, 124 ∉ w) → 124 ∉ joinL [32] ps := by
    intro ps
    induction ps with
    | nil => intro _ z; cases z
    | cons p ps ih =>
      intro h
      cases ps with
      | nil => exact h p List.mem_cons_self
      | cons q qs =>
        intro z
        have z' : 124 ∈ p ++ ([32] ++ joinL [32] (q :: qs)) := z
        simp only [List.mem_append, List.mem_singleton] at z'
        rcases z' with z' | z' | z'
        · exact h p List.mem_cons_self z'
        · omega
        · exact ih (fun w hw => h w (List.mem_cons_of_mem _ hw)) z'
  apply this
  intro w hw
  obtain ⟨p, h1, rfl⟩ := List.mem_map.mp hw
  have := sidePs_mem.mp h1
  exact (sideW_free this.1 this.2.1).2
theorem bar_no {p q : List Nat} (h : 124 ∉ p) (hq : q.head? ≠ some 124) : ∀ i, i < p.length → pre [32, 124, 32] ((p ++ q).drop i) = false := fun i hi => by
  cases e : pre [32, 124, 32] ((p ++ q).drop i) with
  | false => rfl
  | true =>
    exfalso
    unfold pre at e
    have e := eq_of_beq e
    have e1 := congrArg (fun l => l[1]?) e
    simp only [List.length_cons, List.length_nil, List.getElem?_take, List.getElem?_drop] at e1
    have e2 : (p ++ q)[i + 1]? = some 124 := by simpa using e1
    by_cases hl : i + 1 < p.length
    · rw [List.getElem?_append_left hl] at e2
      exact h (List.mem_of_getElem? e2)
    · have hl' : i + 1 = p.length := by omega
      rw [List.getElem?_append_right (by omega), hl', Nat.sub_self] at e2
      apply hq
      rw [List.head?_eq_getElem?]
      exact e2
theorem spl_board {x y : List Nat} (hx : 124 ∉ x) (hy : 124 ∉ y) : spl [32, 124, 32] 0 [] (x ++ [32, 124, 32] ++ y) = [x, y] := by
  rw [List.append_assoc, spl_part (by decide) (bar_no hx (by simp)), List.nil_append]
  have := spl_last (S := [32, 124, 32]) (acc := []) (p := y) fun i hi => by
    have := bar_no hy (q := []) (by simp) i hi
    rw [List.append_nil] at this
    exact this
  rw [this, List.nil_append]
theorem Sd.of {l : List Int} (h1 : l.length = 26) (h2 : NN l) (h3 : l.sum ≤ 15) : Sd l := ⟨h1, h2, fun p => by
  by_cases hp : 0 ≤ p ∧ p < 26
  · have := h2.le hp.1 (by omega); omega
  · unfold at0
    rw [List.getD_eq_getElem?_getD]
    by_cases h0 : p < 0
    · rw [Int.toNat_of_nonpos (by omega)]
      have := h2.le (i := 0) (by omega) (by omega)
      unfold at0 at this
      rw [List.getD_eq_getElem?_getD] at this
      have e : (0 : Int).toNat = 0 := rfl
      rw [e] at this
      omega
    · rw [List.getElem?_eq_none (by omega)]; decide⟩
theorem board_read {b : List Int × List Int} (hb : isBoard b = true) : readBoard (boardL b) = some b := by
  have iB := isBoard_iff.mp hb
  obtain ⟨x, y⟩ := b
  have a1 : x.length = 26 := iB.l1
  have a2 : NN x := iB.n1
  have a3 : 1 ≤ x.sum := iB.lo
  have a4 : x.sum ≤ 15 := iB.hi
  have b1 : y.length = 26 := iB.l2
  have b2 : NN y := iB.n2
  have se : x.sum = y.sum := iB.se
  have b3 : 1 ≤ y.sum := by omega
  have b4 : y.sum ≤ 15 := by omega
  unfold readBoard boardL
  rw [spl_board sideL_free sideL_free]
  simp only
  rw [side_read (Sd.of a1 a2 a4) (pos_of_sum a2 a3 a1), side_read (Sd.of b1 b2 b4) (pos_of_sum b2 b3 b1)]
  simp only
  rw [if_pos hb]
theorem b_strI {X : Cx} {G : Gm} {i : Int} (h0 : 0 ≤ i) (h1 : i < 1000000) : Cb X G (.type "str") [.d (.int i)] (.d (dS (numL i.toNat))) := by
  obtain ⟨n, rfl⟩ := Int.eq_ofNat_of_zero_le h0
  rw [Int.toNat_natCast]
  exact b_strN (by omega)
/-! ### o[i] = e where e may raise or change things -/
theorem ws_storeV {X : Cx} {G : Gm} {D : De} {e o ix : Expr} {a' : Addr} {j : Nat} {pos p2 : Pos}
    (h : WE X e G fun r G1 => ∃ (v i : Int) (l : List Int), r = .d (.int v) ∧ ER X o G1 (.v (.ref a')) ∧ ER X ix G1 (.d (.int i)) ∧ G1.cs[j]? = some (a', .ls (l.map .int)) ∧ 0 ≤ i ∧ i < l.length ∧ D.nx (upL G1 j a' ((set0 l i v).map .int)))
    (ha : ∀ v, assign (.Subscript o ix p2) X.env v = (do
      let ov ← holding [v] (eval o X.env)
      let iv ← holding [v, ov] (eval ix X.env)
      standAt p2
      holding [v, ov, iv] (setItem ov iv v)
      release [v, ov, iv] [])) (hsw : swapsWithSole [.Subscript o ix p2] e pos.line X.env = pure false) (hw : swappedStores [.Subscript o ix p2] e X.env = pure none)
    (h1 : (assignEach [.Subscript o ix p2] X.env).map (·.2) = [assign (.Subscript o ix p2) X.env]) : WS X (.Assign [.Subscript o ix p2] e pos) G D := fun σ H hs => by
  refine wS_of (ps_asg pE (pg_sub pE pE set_list ha) hsw hw h1) (wE_mono (h σ H hs) fun z H1 ⟨r, G1, g1, hs1, k1, _, v, i, l, er, ho, hi, hj, i0, i1, q⟩ => ?_)
  subst er
  refine wE_mono (ho σ H1 hs1) fun y H2 p2 => wE_mono (hi σ H2 (hs1.ext p2.1)) fun w H3 p3 => ?_
  have hs3 := (hs1.ext p2.1).ext p3.1
  have e2 : some y = some _ := p2.2.1
  cases e2
  obtain ⟨xs, h4, h5⟩ := hs3.hh.cl _ (List.mem_of_getElem? hj)
  have ez : z = .int v := k1.int
  subst ez
  have e1 : (l.map PyData.int).set i.toNat (.int v) = (set0 l i v).map .int := by simp [set0, List.map_set]
  refine ⟨a', xs, i, i.toNat, rfl, p3.2.1.int, h4, by rw [h5.length, List.length_map]; unfold ixN; simp [i0, i1], upL G1 j a' ((set0 l i v).map .int), ?_, ?_, q⟩
  · rw [← e1]; exact hs3.put hj (h5.set (.int v) i.toNat)
  · exact (g1.gs.trans (Ge.refl (p2.1.trans p3.1)).gs).trans (gs_put hj)
/-! ### reading, further -/
theorem readWords_app (st : List Int × Int) : ∀ (xs ys : List (List Nat)), readWords st (xs ++ ys) = (readWords st xs).bind fun st' => readWords st' ys := by
  intro xs
  induction xs generalizing st with
  | nil => intro ys; rfl
  | cons x xs ih =>
    intro ys
    have e1 : ∀ zs, readWords st (x :: zs) = match readWord st x with
      | some st' => readWords st' zs
      | none => none := fun _ => rfl
    rw [List.cons_append, e1, e1]
    cases readWord st x with
    | none => rfl
    | some st' => exact ih st' ys
theorem readWords_take {st st' : List Int × Int} {ws : List (List Nat)} {i : Nat} {w : List Nat} (hw : ws[i]? = some w) (h : readWords st (ws.take i) = some st') : readWords st (ws.take (i + 1)) = readWord st' w := by
  rw [List.take_add_one, hw, readWords_app, h]
  show readWords st' [w] = readWord st' w
  unfold readWords
  cases readWord st' w <;> rfl
theorem readWords_stop {st st' : List Int × Int} {ws : List (List Nat)} {i : Nat} {w : List Nat} (hw : ws[i]? = some w) (h : readWords st (ws.take i) = some st') (hn : readWord st' w = none) : readWords st ws = none := by
  have e := readWords_take hw h
  rw [hn] at e
  rw [← List.take_append_drop (i + 1) ws, readWords_app, e]
  rfl
theorem readWord_len {st st' : List Int × Int} {w : List Nat} (h : readWord st w = some st') : st'.1.length = st.1.length := by
  unfold readWord at h
  split at h
  · split at h
    · split at h
      · split at h
        · cases h; exact set0_len _ _ _
        · cases h
      · cases h
    · cases h
  · cases h
theorem readWords_len : ∀ {ws : List (List Nat)} {st st' : List Int × Int}, readWords st ws = some st' → st'.1.length = st.1.length
  | [], st, st', h => by cases h; rfl
  | w :: ws, st, st', h => by
    unfold readWords at h
    cases q : readWord st w with
    | none => rw [q] at h; cases h
    | some s2 => rw [q] at h; rw [readWords_len h]; exact readWord_len q
theorem readSide_len {t : List Nat} {l : List Int} (h : readSide t = some l) : l.length = 26 := by
  unfold readSide at h
  rw [Option.map_eq_some_iff] at h
  obtain ⟨st, h1, rfl⟩ := h
  rw [readWords_len h1]; rfl
theorem joinL_ge (S : List Nat) : ∀ (ps : List (List Nat)) (w : List Nat), w ∈ ps → w.length ≤ (joinL S ps).length
  | [p], w, h => by rw [List.mem_singleton.mp h]; exact Nat.le_refl _
  | p :: q :: r, w, h => by
    show w.length ≤ (p ++ (S ++ joinL S (q :: r))).length
    rw [List.length_append, List.length_append]
    rcases List.mem_cons.mp h with e | e
    · rw [e]; omega
    · have := joinL_ge S (q :: r) w e; omega
theorem spl_le {S : List Nat} (hS : S ≠ []) {t w : List Nat} (h : w ∈ spl S 0 [] t) : w.length ≤ t.length := by
  have := joinL_ge S _ w h
  rw [join_split hS] at this
  exact this
theorem Brd.isB {many : Int} {b : List Int × List Int} (h : Brd many b) (h1 : 1 ≤ many) (h2 : many ≤ 15) : isBoard b = true := by
  refine isBoard_iff.mpr ⟨h.l1, h.l2, h.n1, h.n2, by rw [h.s1, h.s2], by rw [h.s1]; exact h1, by rw [h.s1]; exact h2, fun p p1 p2 => ?_, ?_⟩
  · have := h.cl (25 - p) (by omega) (by omega)
    rw [show 25 - (25 - p) = p by omega] at this
    exact this
  · rw [h.s1, h.s2]; exact h.of
theorem eqv_self {d : PyData} (h : d.plain = true) : PyData.eqv d d = true := SeqAt.eqv_refl_plain d h
theorem dep_board (b : List Int × List Int) : (dB b).depth ≤ 60 := by
  show max (PyData.depth (dT b.1)) (max (PyData.depth (dT b.2)) 0) + 1 ≤ 60
  have h : ∀ l : List Int, (dT l).depth = 0 + 1 := fun l => by
    unfold dT PyData.depth
    rw [PySem.W.depth_ints]
  rw [h, h]; decide
end Rd

namespace Rd
open PySem PySem.Spec PyProof.Rows L2 TL
/-! ### what is read is what was written -/
theorem at0_neg {l : List Int} {p : Int} (h : p < 0) : at0 l p = at0 l 0 := by
  unfold at0
  rw [Int.toNat_of_nonpos (by omega)]
  rfl
theorem Sd.set {l : List Int} (h : Sd l) {p n : Int} (h0 : 0 ≤ p) (h1 : p ≤ 25) (n0 : 0 ≤ n) (n1 : n ≤ 15) : Sd (set0 l p n) := by
  refine ⟨by rw [set0_len]; exact h.ln, h.nn.set n0 p, fun q => ?_⟩
  have hl := h.ln
  by_cases hq : q < 0
  · rw [at0_neg hq, at0_set0 h0 (by omega) (Int.le_refl 0)]
    split
    · exact n1
    · exact h.le 0
  · rw [at0_set0 h0 (by omega) (by omega)]
    split
    · exact n1
    · exact h.le q
theorem rngD_split {lo mid hi : Int} (h1 : hi ≤ mid) (h2 : mid ≤ lo) : rngD lo hi = rngD lo mid ++ rngD mid hi := by
  apply List.ext_getElem?
  intro i
  by_cases a : i < (lo - mid).toNat
  · rw [List.getElem?_append_left (by rw [rngD_len]; exact a), rngD_get a, rngD_get (by omega)]
  · rw [List.getElem?_append_right (by rw [rngD_len]; omega), rngD_len]
    by_cases b : i < (lo - hi).toNat
    · rw [rngD_get b, rngD_get (by omega)]
      congr 1
      omega
    · rw [List.getElem?_eq_none (by rw [rngD_len]; omega), List.getElem?_eq_none (by rw [rngD_len]; omega)]
structure WInv (ws : List (List Nat)) (st : List Int × Int) : Prop where
  sd : Sd st.1
  l0 : 0 ≤ st.2
  l1 : st.2 ≤ 26
  ze : ∀ q : Int, 0 ≤ q → q < st.2 → at0 st.1 q = 0
  ws : ws = ((rngD 25 (st.2 - 1)).filter fun q => decide (0 < at0 st.1 q)).map (sideW st.1)
theorem readWord_some {st st' : List Int × Int} {w : List Nat} (h : readWord st w = some st') : ∃ p n, 0 ≤ p ∧ p ≤ 25 ∧ 1 ≤ n ∧ n ≤ 15 ∧ p < st.2 ∧ w = placeL p ++ [58] ++ numL n.toNat ∧ st' = (set0 st.1 p n, p) := by
  unfold readWord at h
  split at h
  · rename_i a b e
    split at h
    · rename_i p hp
      split at h
      · rename_i hlt
        split at h
        · rename_i n hn
          cases h
          obtain ⟨h1, h2, h3⟩ := readPlace_some hp
          obtain ⟨h4, h5, h6, _⟩ := numberIn_some hn
          refine ⟨p, n, h2, h3, h5, h6, hlt, ?_, rfl⟩
          have j := join_split (S := [58]) (fun z => nomatch z) w
          rw [e] at j
          rw [← j, ← h1, ← h4]
          simp [joinL]
        · cases h
      · cases h
    · cases h
  · cases h
theorem WInv.step {ws : List (List Nat)} {st st' : List Int × Int} {w : List Nat} (h : WInv ws st) (hr : readWord st w = some st') : WInv (ws ++ [w]) st' := by
  obtain ⟨p, n, p0, p1, n0, n1, hlt, hw, rfl⟩ := readWord_some hr
  have hl := h.sd.ln
  have l1 := h.l1
  have at' : ∀ q : Int, 0 ≤ q → at0 (set0 st.1 p n) q = if q = p then n else at0 st.1 q := fun q q0 => at0_set0 p0 (by omega) q0
  refine ⟨h.sd.set p0 p1 (by omega) n1, p0, by show p ≤ 26; omega, fun q q0 q1 => ?_, ?_⟩
  · have q1' : q < p := q1
    show at0 (set0 st.1 p n) q = 0
    rw [at' q q0, if_neg (by omega)]
    exact h.ze q q0 (by omega)
  · show ws ++ [w] = ((rngD 25 (p - 1)).filter fun q => decide (0 < at0 (set0 st.1 p n) q)).map (sideW (set0 st.1 p n))
    rw [rngD_split (lo := 25) (mid := st.2 - 1) (hi := p - 1) (by omega) (by omega), rngD_split (lo := st.2 - 1) (mid := p) (hi := p - 1) (by omega) (by omega), List.filter_append, List.filter_append, List.map_append, List.map_append]
    have e1 : ((rngD 25 (st.2 - 1)).filter fun q => decide (0 < at0 (set0 st.1 p n) q)) = (rngD 25 (st.2 - 1)).filter fun q => decide (0 < at0 st.1 q) := by
      apply List.filter_congr
      intro q hq
      rw [mem_rngD] at hq
      rw [at' q (by have := h.l0; omega), if_neg (by omega)]
    have e2 : ((rngD (st.2 - 1) p).filter fun q => decide (0 < at0 (set0 st.1 p n) q)) = [] := by
      rw [List.filter_eq_nil_iff]
      intro q hq
      rw [mem_rngD] at hq
      rw [at' q (by omega), if_neg (by omega), h.ze q (by omega) (by omega)]
      decide
    have e3 : rngD p (p - 1) = [p] := by
      unfold rngD
      rw [show (p - (p - 1)).toNat = 1 by omega]
      simp
    have e4 : ([p].filter fun q => decide (0 < at0 (set0 st.1 p n) q)) = [p] := by
      rw [List.filter_cons, at' p p0, if_pos rfl, if_pos (decide_eq_true (by omega))]
      rfl
    rw [e1, e2, e3, e4, List.map_nil, List.nil_append]
    have e5 : ((rngD 25 (st.2 - 1)).filter fun q => decide (0 < at0 st.1 q)).map (sideW (set0 st.1 p n)) = ((rngD 25 (st.2 - 1)).filter fun q => decide (0 < at0 st.1 q)).map (sideW st.1) := by
      apply List.map_congr_left
      intro q hq
      rw [List.mem_filter, mem_rngD] at hq
      unfold sideW
      rw [at' q (by have := h.l0; omega), if_neg (by omega)]
    rw [e5, ← h.ws]
    congr 1
    show [w] = [sideW (set0 st.1 p n) p]
    unfold sideW
    rw [at' p p0, if_pos rfl, hw]
theorem WInv.all : ∀ (xs ws : List (List Nat)) {st st' : List Int × Int}, WInv ws st → readWords st xs = some st' → WInv (ws ++ xs) st'
  | [], ws, st, st', h, e => by cases e; rw [List.append_nil]; exact h
  | x :: xs, ws, st, st', h, e => by
    unfold readWords at e
    cases q : readWord st x with
    | none => rw [q] at e; cases e
    | some s2 =>
      rw [q] at e
      have := WInv.all xs (ws ++ [x]) (h.step q) e
      rw [List.append_assoc] at this
      exact this
theorem readSide_some {t : List Nat} {l : List Int} (h : readSide t = some l) : Sd l ∧ sideL l = t := by
  unfold readSide at h
  rw [Option.map_eq_some_iff] at h
  obtain ⟨st, h1, rfl⟩ := h
  have w0 : WInv [] (List.replicate 26 0, 26) := by
    refine ⟨⟨List.length_replicate, NN.rep 26, fun p => by rw [at0_rep]; decide⟩, by decide, by decide, fun q _ _ => at0_rep 26 q, ?_⟩
    show [] = ((rngD 25 (26 - 1)).filter fun q => decide (0 < at0 (List.replicate 26 0) q)).map (sideW (List.replicate 26 0))
    rfl
  have w := WInv.all _ [] w0 h1
  rw [List.nil_append] at w
  refine ⟨w.sd, ?_⟩
  have l0 := w.l0
  have l1 := w.l1
  unfold sideL sidePs
  rw [rngD_split (lo := 25) (mid := st.2 - 1) (hi := -1) (by omega) (by omega), List.filter_append]
  have e2 : ((rngD (st.2 - 1) (-1)).filter fun q => decide (0 < at0 st.1 q)) = [] := by
    rw [List.filter_eq_nil_iff]
    intro q hq
    rw [mem_rngD] at hq
    rw [w.ze q (by omega) (by omega)]
    decide
  rw [e2, List.append_nil, ← w.ws]
  exact join_split (S := [32]) (fun z => nomatch z) t
theorem readBoard_some {t : List Nat} {b : List Int × List Int} (h : readBoard t = some b) : isBoard b = true ∧ boardL b = t := by
  unfold readBoard at h
  split at h
  · rename_i x y e
    split at h
    · rename_i u v h1 h2
      split at h
      · rename_i hb
        cases h
        refine ⟨hb, ?_⟩
        unfold boardL
        rw [(readSide_some h1).2, (readSide_some h2).2]
        have j := join_split (S := [32, 124, 32]) (fun z => nomatch z) t
        rw [e] at j
        rw [← j]
        simp [joinL]
      · cases h
    · cases h
  · cases h
/-! ### the law's own reading -/
def namesL : List (List Nat) := [cOff] ++ (rng 1 25).map (fun z => numL z.toNat) ++ [cBar]
def numsL : List (List Nat) := (rng 1 16).map fun z => numL z.toNat
theorem names_get : ∀ p ∈ rng 0 26, namesL[p.toNat]? = some (placeL p) := by decide +kernel
theorem names_ix : ∀ p ∈ rng 0 26, namesL.findIdx? (fun z => z == placeL p) = some p.toNat := by decide +kernel
theorem nums_mem : ∀ n ∈ rng 1 16, numL n.toNat ∈ numsL ∧ (valW (numL n.toNat) : Int) = n := by decide +kernel
theorem names_len : namesL.length = 26 := by decide +kernel
def lenWord (s : List Int) (w : List Nat) : List Int := match spl [58] 0 [] w with
  | [a, b] => if a ∈ namesL ∧ b ∈ numsL then set0 s ((namesL.findIdx? (fun z => z == a)).getD 0 : Nat) (valW b) else s
  | _ => s
def lenSide (t : List Nat) : List Int := (spl [32] 0 [] t).foldl lenWord (List.replicate 26 0)
def lawBoardOf (t : List Nat) : Option (List Int × List Int) := match (spl [32, 124, 32] 0 [] t).map lenSide with
  | [x, y] => if isBoard (x, y) && decide (boardL (x, y) = t) then some (x, y) else none
  | _ => none
theorem lenWord_ok {l s : List Int} {p : Int} (hl : Sd l) (h0 : 0 ≤ p) (h1 : p ≤ 25) (h2 : 0 < at0 l p) : lenWord s (sideW l p) = set0 s p (at0 l p) := by
  unfold lenWord
  rw [spl_word h0 h1]
  simp only
  have a := names_get p (mem_rng.mpr ⟨h0, by omega⟩)
  have b := names_ix p (mem_rng.mpr ⟨h0, by omega⟩)
  have c := hl.le p
  obtain ⟨d, e⟩ := nums_mem (at0 l p) (mem_rng.mpr ⟨by omega, by omega⟩)
  rw [if_pos ⟨List.mem_of_getElem? a, d⟩, b, e]
  show set0 s ((p.toNat : Nat) : Int) (at0 l p) = _
  rw [Int.toNat_of_nonneg h0]
theorem side_fold {l : List Int} (hl : Sd l) : (sidePs l).foldl (fun s p => set0 s p (at0 l p)) (List.replicate 26 0) = l := by
  obtain ⟨last, e⟩ := side_words hl
  obtain ⟨last', e'⟩ := readWords_ok hl (sidePs l) (List.replicate 26 0) 26 (fun p hp => sidePs_mem.mp hp) (fall_filter _ _ 25 26 (by decide))
  rw [e] at e'
  exact (congrArg Prod.fst (Option.some.inj e')).symm
theorem lenSide_ok {l : List Int} (hl : Sd l) (hp : sidePs l ≠ []) : lenSide (sideL l) = l := by
  unfold lenSide sideL
  rw [spl_join (by simpa using hp) fun w hw => by
    obtain ⟨p, h1, rfl⟩ := List.mem_map.mp hw
    have := sidePs_mem.mp h1
    exact (sideW_free this.1 this.2.1).1]
  rw [List.foldl_map]
  have key : ∀ (ps : List Int) (s : List Int), (∀ p ∈ ps, 0 ≤ p ∧ p ≤ 25 ∧ 0 < at0 l p) → ps.foldl (fun s p => lenWord s (sideW l p)) s = ps.foldl (fun s p => set0 s p (at0 l p)) s := by
    intro ps
    induction ps with
    | nil => intro s _; rfl
    | cons p ps ih =>
      intro s h
      obtain ⟨a, b, c⟩ := h p List.mem_cons_self
      rw [List.foldl_cons, List.foldl_cons, lenWord_ok hl a b c]
      exact ih _ fun q hq => h q (List.mem_cons_of_mem _ hq)
  rw [key _ _ fun p hp => sidePs_mem.mp hp]
  exact side_fold hl
theorem lawBoardOf_eq (t : List Nat) : lawBoardOf t = readBoard t := by
  cases q : readBoard t with
  | some b =>
    obtain ⟨hb, ht⟩ := readBoard_some q
    obtain ⟨x, y⟩ := b
    have iB := isBoard_iff.mp hb
    have a1 : x.length = 26 := iB.l1
    have a2 : NN x := iB.n1
    have a3 : 1 ≤ x.sum := iB.lo
    have a4 : x.sum ≤ 15 := iB.hi
    have b1 : y.length = 26 := iB.l2
    have b2 : NN y := iB.n2
    have se : x.sum = y.sum := iB.se
    unfold lawBoardOf
    rw [← ht]
    unfold boardL
    rw [spl_board sideL_free sideL_free, List.map_cons, List.map_cons, List.map_nil, lenSide_ok (Sd.of a1 a2 a4) (pos_of_sum a2 a3 a1), lenSide_ok (Sd.of b1 b2 (by omega)) (pos_of_sum b2 (by omega) b1)]
    simp only
    rw [if_pos]
    rw [hb, Bool.true_and]
    simp
  | none =>
    unfold lawBoardOf
    split
    · rename_i x y e
      rw [if_neg]
      intro h
      rw [Bool.and_eq_true, decide_eq_true_eq] at h
      rw [← h.2, board_read h.1] at q
      cases q
    · rfl
/-! ### for tg in range(e), e changing things -/
theorem ws_for1W {X : Cx} {a tg : Expr} {body : List Stmt} {G : Gm} {D : De} {p p2 pos : Pos} {Er : Addr → Gm → Prop} (hx : XOk X Er) (t : BtR X)
    (ha : WE X a G fun r G1 => ∃ n : Nat, r = .d (.int n) ∧ n < 2 ^ 62 ∧ ∃ I : Nat → Gm → Prop, I 0 G1 ∧ (∀ i G', i < n → I i G' → ∃ G2, Tg X tg (.d (.int (i : Nat))) G' G2 ∧ WB X body G2 (bodyD D (I (i + 1)))) ∧ (∀ G', I n G' → D.nx G'))
    (hst : starEach [a] X.env = [(false, eval a X.env)] := by rfl) (hf : ∀ x, foldedSetIterable (.Call (.Name "range" p) [a] [] p2) X.env x = pure x := by intro _; rfl) : WS X (.For tg (.Call (.Name "range" p) [a] [] p2) body [] pos) G D := fun σ H hs => by
  refine wS_of (ps_for hx.own t.hc (pi_range1 t.g t.m pA hst) pG pB hf) (wA_of (pa_cons pE pa_nil hst) (wE_mono (ha σ H hs) fun v H1 ⟨r, G1, g1, hs1, k1, _, n, er, hn, I, h0, step, fin⟩ => ?_))
  subst er
  refine ⟨n, by rw [k1.int], by omega, by omega, ?_⟩
  rw [Int.toNat_natCast]
  obtain ⟨W, w1, w2⟩ := for_itr (D := { nx := fun G' => D.nx G', rt := D.rt, bk := D.bk, ct := D.ct }) (tg := tg) (body := body) (lo := 0) (n := n) (Gs.refl (G := G1) (H := H1)) hs1 I h0 (fun i G' hi q => by rw [Int.zero_add]; exact step i G' hi q) fin
  have gg := g1.gs
  refine ⟨W, w1, fun i m σ' H' hw => ?_⟩
  rcases w2 i m σ' H' hw with ⟨s1, G', h1, g', q'⟩ | ⟨s1, N, n1, n2⟩
  · exact .inl ⟨s1, G', h1, gg.trans g', q'⟩
  · refine .inr ⟨s1, N, n1, fun x H'' y => ?_⟩
    intro pins s u I' r
    refine thn (n2 x H'' y pins s u I' r) fun _ s2 ⟨σ2, H2, I2, w3⟩ => ⟨σ2, H2, I2, ?_⟩
    exact wB_mono w3 (fun _ _ z => z) (fun _ _ z => z) (fun σ3 H3 ⟨G3, h3, g3, q3⟩ => ⟨G3, h3, gg.trans g3, q3⟩) (fun _ _ z => z)
section
variable {X : Cx} {o e : Expr} {G : Gm} {ra rb : Sl} {apos cpos : Pos}
theorem er_indexN {ys : List (List Nat)} {w : List Nat} {j : Nat} (ho : ER X o G ra) (va : Lv G ra (ys.map dS)) (he : ER X e G (.d (dS w))) (hj : ys[j]? = some w) (hno : ∀ m z, m < j → ys[m]? = some z → z ≠ w)
    (hbase : attributeBase o "index" X.env (eval o X.env) = eval o X.env := by rfl)
    (hfew : ((backTo cpos (starEach [e] X.env)).all (fun x => !x.1) && (backToKw cpos (keywordEach [] X.env)).all (fun x => x.1.isSome) && decide ([e].length + ([] : List Keyword).length + (if ([] : List Keyword).isEmpty then 0 else 1) < 30)) = true := by rfl)
    (hline : (apos.endLine == cpos.line) = true := by rfl) (hst : starEach [e] X.env = (false, eval e X.env) :: starEach [] X.env := by rfl) (hplain : (backTo cpos (starEach [] X.env)).any (·.1) = false := by rfl) :
    ER X (.Call (.Attribute o "index" apos) [e] [] cpos) G (.d (.int (j : Nat))) := fun σ H hs => by
  refine wE_of (pe_bm PySem.F.plainAttrs_list PySem.F.slot_list_index PySem.F.type_list_index mt_index pE (pa_cons pE pa_nil hst) hbase hfew hline hst hplain) ?_
  refine wE_mono (ho σ H hs) fun y H1 p1 => ?_
  have hs1 := hs.ext p1.1
  obtain ⟨a, xs, rfl, h1, h2⟩ := va.ok hs1 p1.2.1
  refine ⟨Or.inl ⟨rfl, _, h1⟩, wE_mono (he σ H1 hs1) fun w H2 p2 => ?_⟩
  have hs2 := hs1.ext p2.1
  obtain ⟨a', xs', e', h3, h4⟩ := va.ok hs2 (p1.2.1.mono p2.1.all)
  cases e'
  have e2 : ys.map dS = (ys.map sS).map PyData.str := by rw [List.map_map]; rfl
  rw [e2] at h4
  have e4 := h4.strs
  subst e4
  have ew := p2.2.1.str
  subst ew
  refine ⟨_, _, .str (sS w), j, .str (sS w), rfl, rfl, h3, rfl, ?_, ?_, ?_, ?_, PR.d (p1.1.trans p2.1) (.int _)⟩
  · rw [List.all_map]; exact List.all_eq_true.mpr fun _ _ => rfl
  · rw [List.getElem?_map, List.getElem?_map, hj]; rfl
  · simp [eqV]
  · intro m z hm hz
    rw [List.getElem?_map, List.getElem?_map] at hz
    cases q : ys[m]? with
    | none => rw [q] at hz; cases hz
    | some y =>
      rw [q] at hz
      cases hz
      have := hno m y hm q
      have : sS y ≠ sS w := fun z => this (sS_inj z)
      simp [eqV, this]
end
end Rd

namespace Rd
open PySem PySem.Spec PyProof.Rows L2
/-! ### the way of a search meets every slot, for any power of two -/
/-- 0, 1, 6, 31, ..: five times, and one more -/
def five : Nat → Nat
  | 0 => 0
  | n + 1 => five n * 5 + 1
theorem five_add (a : Nat) : ∀ b, five (a + b) = 5 ^ b * five a + five b
  | 0 => by simp [five]
  | b + 1 => by
    show five (a + b) * 5 + 1 = 5 ^ (b + 1) * five a + (five b * 5 + 1)
    rw [five_add a b, Nat.add_mul, Nat.pow_succ, Nat.mul_right_comm, Nat.add_assoc]
theorem pow5 (n : Nat) : ∃ t, 5 ^ n = 4 * t + 1 := by
  induction n with
  | zero => exact ⟨0, rfl⟩
  | succ n ih =>
    obtain ⟨t, e⟩ := ih
    exact ⟨5 * t + 1, by rw [Nat.pow_succ, e]; omega⟩
theorem five_pow : ∀ k, ∃ q, five (2 ^ k) = 2 ^ k * (2 * q + 1)
  | 0 => ⟨0, rfl⟩
  | k + 1 => by
    obtain ⟨q, e⟩ := five_pow k
    obtain ⟨t, e5⟩ := pow5 (2 ^ k)
    refine ⟨2 * q * t + q + t, ?_⟩
    have h2 : 2 ^ (k + 1) = 2 ^ k + 2 ^ k := by rw [Nat.pow_succ]; omega
    rw [h2, five_add, e5, e]
    generalize 2 ^ k = m
    have : (4 * t + 1) * (m * (2 * q + 1)) + m * (2 * q + 1) = (m + m) * (2 * (2 * q * t + q + t) + 1) := by
      have e1 : (4 * t + 1) * (m * (2 * q + 1)) + m * (2 * q + 1) = (m * (2 * q + 1)) * (4 * t + 2) := by
        rw [Nat.mul_comm (4 * t + 1), ← Nat.mul_succ]
      rw [e1, Nat.mul_assoc, ← Nat.two_mul, Nat.mul_comm 2 m, Nat.mul_assoc]
      congr 1
      have e2 : (2 * q + 1) * (4 * t + 2) = 2 * ((2 * q + 1) * (2 * t + 1)) := by
        rw [show 4 * t + 2 = 2 * (2 * t + 1) by omega, Nat.mul_left_comm]
      rw [e2]
      congr 1
      rw [Nat.add_mul, Nat.mul_add, Nat.one_mul, Nat.mul_one]
      have e3 : 2 * q * (2 * t) = 2 * (2 * q * t) := by rw [Nat.mul_left_comm]
      rw [e3]
      omega
    exact this
theorem five_all : ∀ (k j : Nat), j < 2 ^ k → ∃ b, b < 2 ^ k ∧ five b % 2 ^ k = j
  | 0, j, h => ⟨0, by decide, by simp at h; subst h; rfl⟩
  | k + 1, j, h => by
    have h2 : 2 ^ (k + 1) = 2 ^ k + 2 ^ k := by rw [Nat.pow_succ]; omega
    have hp : 0 < 2 ^ k := Nat.pow_pos (by decide)
    obtain ⟨b, hb, e⟩ := five_all k (j % 2 ^ k) (Nat.mod_lt _ hp)
    obtain ⟨q, eq⟩ := five_pow k
    obtain ⟨t, e5⟩ := pow5 b
    have hf : five (2 ^ k + b) = five b + (2 ^ k) * ((4 * t + 1) * (2 * q + 1)) := by
      rw [five_add, e5, eq, Nat.add_comm, ← Nat.mul_assoc, Nat.mul_comm (4 * t + 1) (2 ^ k), Nat.mul_assoc]
    have hodd : ∃ r, (4 * t + 1) * (2 * q + 1) = 2 * r + 1 := ⟨4 * t * q + 2 * t + q, by
      rw [Nat.add_mul, Nat.mul_add, Nat.one_mul, Nat.mul_one]
      have : 4 * t * (2 * q) = 2 * (4 * t * q) := by rw [Nat.mul_left_comm]
      omega⟩
    obtain ⟨r, er⟩ := hodd
    rw [er] at hf
    generalize hm : 2 ^ k = m at *
    rw [h2]
    have hx : five b = m * (five b / m) + j % m := by rw [← e]; exact (Nat.div_add_mod _ _).symm
    have hj : j = m * (j / m) + j % m := (Nat.div_add_mod _ _).symm
    have hj2 : j / m < 2 := by rw [Nat.div_lt_iff_lt_mul hp]; omega
    have hlt : j % m < m := Nat.mod_lt _ hp
    generalize five b / m = u at hx
    generalize j / m = v at hj hj2
    generalize j % m = y at hx hj hlt e
    have key : ∀ x z : Nat, (m * (2 * x + z) + y) % (m + m) = (m * z + y) % (m + m) := fun x z => by
      have : m * (2 * x + z) + y = (m * z + y) + (m + m) * x := by
        rw [Nat.mul_add, ← Nat.two_mul, Nat.mul_assoc, Nat.mul_left_comm 2 m x]; omega
      rw [this, Nat.add_mul_mod_self_left]
    rcases Nat.mod_two_eq_zero_or_one (u + v) with hp2 | hp2
    · refine ⟨b, by omega, ?_⟩
      obtain ⟨x, hx2⟩ : ∃ x, u + v = 2 * x := ⟨(u + v) / 2, by omega⟩
      have : v = 0 ∨ v = 1 := by omega
      rcases this with rfl | rfl
      · rw [hx, show u = 2 * x + 0 by omega, key, hj]
        exact Nat.mod_eq_of_lt (by omega)
      · rw [hx, show u = 2 * (x - 1) + 1 by omega, key, hj]
        exact Nat.mod_eq_of_lt (by omega)
    · refine ⟨m + b, by omega, ?_⟩
      obtain ⟨x, hx2⟩ : ∃ x, u + v = 2 * x + 1 := ⟨(u + v) / 2, by omega⟩
      have : v = 0 ∨ v = 1 := by omega
      have ef : five (m + b) = m * (u + 2 * r + 1) + y := by
        rw [hf, hx]
        have : m * (u + 2 * r + 1) = m * u + m * (2 * r + 1) := by rw [← Nat.mul_add, Nat.add_assoc]
        omega
      rcases this with rfl | rfl
      · rw [ef, show u + 2 * r + 1 = 2 * (x + r + 1) + 0 by omega, key, hj]
        exact Nat.mod_eq_of_lt (by omega)
      · rw [ef, show u + 2 * r + 1 = 2 * (x + r) + 1 by omega, key, hj]
        exact Nat.mod_eq_of_lt (by omega)
/-- the masks of tables: one less than a power of two, from 7 on -/
def MaskB (m : Nat) : Prop := ∃ k, 3 ≤ k ∧ m + 1 = 2 ^ k
theorem step_mod (x M : Nat) : (x % M * 5 + 1) % M = (x * 5 + 1) % M := by
  rw [Nat.add_mod, Nat.mul_mod, Nat.mod_mod, ← Nat.mul_mod, ← Nat.add_mod]
theorem lcgI_five (m a : Nat) : ∀ k, lcgI m (five a % (m + 1)) k = five (a + k) % (m + 1)
  | 0 => rfl
  | k + 1 => by
    show (lcgI m (five a % (m + 1)) k * 5 + 1) % (m + 1) = (five (a + k) * 5 + 1) % (m + 1)
    rw [lcgI_five m a k, step_mod]
theorem five_round {m : Nat} (hm : MaskB m) (b : Nat) : five (b + (m + 1)) % (m + 1) = five b % (m + 1) := by
  obtain ⟨k, _, e⟩ := hm
  have h : ∀ n, five (b + n) = 5 ^ b * five n + five b := fun n => by rw [Nat.add_comm, five_add]
  obtain ⟨q, eq⟩ := five_pow k
  rw [h, e, eq, Nat.mul_left_comm, Nat.add_comm, Nat.add_mul_mod_self_left]
theorem meets_from {m : Nat} (hm : MaskB m) {i j : Nat} (hi : i ≤ m) (hj : j ≤ m) : ∃ k, k ≤ m ∧ lcgI m i k = j := by
  obtain ⟨e, he, ee⟩ := id hm
  obtain ⟨a, ha, ea⟩ := five_all e i (by omega)
  obtain ⟨b, hb, eb⟩ := five_all e j (by omega)
  rw [← ee] at ha hb ea eb
  rw [← ea]
  by_cases c : a ≤ b
  · exact ⟨b - a, by omega, by rw [lcgI_five, show a + (b - a) = b by omega, eb]⟩
  · refine ⟨b + (m + 1) - a, by omega, ?_⟩
    rw [lcgI_five, show a + (b + (m + 1) - a) = b + (m + 1) by omega, five_round hm, eb]
theorem run_all {m : Nat} (hm : MaskB m) (h : Int) {j : Nat} (hj : j ≤ m) : ∃ n, n ≤ m + 12 ∧ runI m (SetTable.bits h) n = j := by
  obtain ⟨k, hk, e⟩ := meets_from hm (runI_le m (SetTable.bits h) 12) hj
  exact ⟨12 + k, by omega, by rw [runI_tail (bits_lt h)]; exact e⟩
theorem way_all {m : Nat} (hm : MaskB m) (h : Int) {j : Nat} (hj : j ≤ m) : ∃ k, k < 10 * SetTable.turns m ∧ way m h k = j := by
  obtain ⟨n, hn, e⟩ := run_all hm h hj
  obtain ⟨k, hk, e2⟩ := run_nth m (SetTable.bits h) n
  refine ⟨k, by unfold SetTable.turns; omega, ?_⟩
  show (nth m (runAt m (SetTable.bits h % (m + 1)) (SetTable.bits h)) k).j = j
  rw [e2]
  exact e
theorem way_in (m : Nat) (h : Int) (k : Nat) : way m h k ≤ m := by
  have hi : SetTable.bits h % (m + 1) ≤ m := Nat.le_of_lt_succ (Nat.mod_lt _ (Nat.succ_pos _))
  have r := runEnd_bd hi
  have q := nth_in (m := m) k (runAt m (SetTable.bits h % (m + 1)) (SetTable.bits h)) (by
    show SetTable.bits h % (m + 1) + (SetTable.runEnd m (SetTable.bits h % (m + 1)) - SetTable.bits h % (m + 1)) ≤ m
    omega)
  show (nth m (runAt m (SetTable.bits h % (m + 1)) (SetTable.bits h)) k).j ≤ m
  omega
end Rd

namespace Rd
open PySem PySem.Spec PyProof.Rows L2
/-! ### tables of any size -/
/-- each hash stands on its own way, with no gap ahead of it -/
structure TB (t : SetTable) (hs : List Int) : Prop where
  ris : Ris t.place.toList
  dm : t.dummies = #[]
  sz : t.place.size = hs.length
  mb : MaskB t.mask
  bd : ∀ x ∈ t.place.toList, x ≤ t.mask
  re : ∀ (i : Nat) (h : Int) (j : Nat), hs[i]? = some h → t.place.toList[i]? = some j → ∃ k, way t.mask h k = j ∧ ∀ k', k' < k → way t.mask h k' ∈ t.place.toList
/-- the first gap on a way -/
structure Gap (t : SetTable) (h : Int) (K : Nat) : Prop where
  lt : K < 10 * SetTable.turns t.mask
  out : way t.mask h K ∉ t.place.toList
  inn : ∀ k, k < K → way t.mask h k ∈ t.place.toList
theorem TB.len {t : SetTable} {hs : List Int} (T : TB t hs) : t.place.toList.length = hs.length := by rw [Array.length_toList]; exact T.sz
theorem TB.gap {t : SetTable} {hs : List Int} (T : TB t hs) (hl : hs.length ≤ t.mask) (h : Int) : ∃ K, Gap t h K := by
  obtain ⟨j, hj, hn⟩ := st_missing t.place.toList (t.mask + 1) (by rw [T.len]; omega)
  obtain ⟨k, hk, e⟩ := way_all T.mb h (Nat.le_of_lt_succ hj)
  obtain ⟨K, h1, h2, h3⟩ := st_least (p := fun k => way t.mask h k ∉ t.place.toList) k (by rw [e]; exact hn)
  exact ⟨K, Nat.lt_of_le_of_lt h1 hk, h2, fun k' hk' => Classical.not_not.mp (h3 k' hk')⟩
theorem TB.ahead {t : SetTable} {hs : List Int} (T : TB t hs) {h : Int} {K i j : Nat} (g : Gap t h K) (hi : hs[i]? = some h) (hj : t.place.toList[i]? = some j) : ∃ k, k < K ∧ way t.mask h k = j := by
  obtain ⟨k, e, hb⟩ := T.re i h j hi hj
  refine ⟨k, ?_, e⟩
  by_cases c : k < K
  · exact c
  · exfalso
    by_cases d : k = K
    · subst d
      exact g.out (by rw [e]; exact List.mem_of_getElem? hj)
    · exact g.out (hb K (by omega))
/-- one more, put into the gap -/
theorem TB.put {t : SetTable} {hs : List Int} (T : TB t hs) {h : Int} {K : Nat} (g : Gap t h K) :
    ∃ p, p ≤ hs.length ∧ (t.put (way t.mask h K)).2 = p ∧ TB (t.put (way t.mask h K)).1 (hs.take p ++ h :: hs.drop p) ∧ (t.put (way t.mask h K)).1.mask = t.mask ∧ (t.put (way t.mask h K)).1.led = t.led ∧ (t.put (way t.mask h K)).1.plain = t.plain := by
  have jm := way_in t.mask h K
  generalize hj : way t.mask h K = j at *
  have gout : j ∉ t.place.toList := hj ▸ g.out
  have c1 := (below_cut T.ris j).1
  have hpl : SetTable.below t.place j ≤ t.place.toList.length := by rw [Array.length_toList]; exact c1
  have hph : SetTable.below t.place j ≤ hs.length := by rw [← T.sz]; exact c1
  have pp := put_place t j
  have more : ∀ {x : Nat}, x ∈ t.place.toList → x ∈ (t.put j).1.place.toList := fun hx => by rw [pp]; exact mem_ins.2 (.inr hx)
  have ris' : Ris (t.put j).1.place.toList := ris_insert T.ris fun e => gout (List.mem_of_getElem? (by rw [Array.getElem?_toList]; exact e))
  refine ⟨SetTable.below t.place j, hph, rfl, ⟨ris', put_dm T.dm j, ?_, T.mb, ?_, ?_⟩, rfl, rfl, rfl⟩
  · rw [len_ins _ hph, ← Array.length_toList, pp, len_ins _ hpl, T.len]
  · intro x hx
    rw [pp] at hx
    rcases mem_ins.1 hx with z | z
    · rw [z]; exact jm
    · exact T.bd x z
  · intro i h' j' h1 h2
    rw [tins_get hs hph] at h1
    rw [pp, tins_get _ hpl] at h2
    have old : ∀ n, hs[n]? = some h' → t.place.toList[n]? = some j' → ∃ k, way t.mask h' k = j' ∧ ∀ k', k' < k → way t.mask h' k' ∈ (t.put j).1.place.toList := fun n a b => by
      obtain ⟨k, e, z⟩ := T.re n h' j' a b
      exact ⟨k, e, fun k' hk' => more (z k' hk')⟩
    by_cases c : i < SetTable.below t.place j
    · rw [if_pos c] at h1 h2
      exact old i h1 h2
    · rw [if_neg c] at h1 h2
      by_cases d : i = SetTable.below t.place j
      · rw [if_pos d] at h1 h2
        cases h1
        cases h2
        exact ⟨K, hj, fun k' hk' => more (g.inn k' hk')⟩
      · rw [if_neg d] at h1 h2
        exact old _ h1 h2
/-! ### a table laid anew -/
theorem free_gap {m : Nat} (hm : MaskB m) (owner : Array (Option Nat)) (h : Int) {j : Nat} (hj : j ≤ m) (hf : oAt owner j = none) :
    ∃ K, SetTable.layClean.free m owner (SetTable.turns m) (SetTable.bits h % (m + 1)) (SetTable.bits h) = some (way m h K) ∧ oAt owner (way m h K) = none ∧ ∀ k, k < K → oAt owner (way m h k) ≠ none := by
  obtain ⟨n, hn, e⟩ := run_all hm h hj
  have at_j : way m h (off m (SetTable.bits h % (m + 1)) (SetTable.bits h) n) = j := by
    show (nth m (runAt m (SetTable.bits h % (m + 1)) (SetTable.bits h)) (off m (SetTable.bits h % (m + 1)) (SetTable.bits h) n)).j = j
    rw [nth_off, itL_run]; exact e
  obtain ⟨K, k1, k2, k3⟩ := st_least (p := fun k => oAt owner (way m h k) = none) _ (show oAt owner (way m h (off m (SetTable.bits h % (m + 1)) (SetTable.bits h) n)) = none by rw [at_j]; exact hf)
  refine ⟨K, free_spec m owner (SetTable.turns m) n _ _ K (by unfold SetTable.turns; omega) k1 (fun k hk => ?_) ?_, k2, k3⟩
  · cases z : oAt owner (nth m (runAt m (SetTable.bits h % (m + 1)) (SetTable.bits h)) k).j with
    | none => exact absurd z (k3 k hk)
    | some _ => rfl
  · have q : oAt owner (nth m (runAt m (SetTable.bits h % (m + 1)) (SetTable.bits h)) K).j = none := k2
    rw [q]; rfl
theorem own_more {m : Nat} (hm : MaskB m) {done : List Int} {owner : Array (Option Nat)} (W : Own m done owner) (hl : done.length ≤ m) (h : Int) :
    ∃ j, SetTable.layClean.free m owner (SetTable.turns m) (SetTable.bits h % (m + 1)) (SetTable.bits h) = some j ∧ Own m (done ++ [h]) (owner.setIfInBounds j (some done.length)) := by
  obtain ⟨ps, hps, hin⟩ := W.ps
  obtain ⟨j0, h0, hn0⟩ := st_missing ps (m + 1) (by omega)
  have free0 : oAt owner j0 = none := Classical.byContradiction fun z => hn0 (hin j0 (Nat.le_of_lt_succ h0) z)
  obtain ⟨K, e1, e2, e3⟩ := free_gap hm owner h (Nat.le_of_lt_succ h0) free0
  have jm := way_in m h K
  have self := oAt_set_self (owner := owner) (some done.length) (show way m h K < owner.size by rw [W.sz]; omega)
  have other : ∀ {i : Nat}, i ≠ way m h K → oAt (owner.setIfInBounds (way m h K) (some done.length)) i = oAt owner i := fun c => oAt_set_ne _ c
  have keep : ∀ {i : Nat}, oAt owner i ≠ none → oAt (owner.setIfInBounds (way m h K) (some done.length)) i ≠ none := fun {i} hi => by
    by_cases c : i = way m h K
    · rw [c, self]; exact fun e => nomatch e
    · rw [other c]; exact hi
  refine ⟨way m h K, e1, ⟨by rw [Array.size_setIfInBounds]; exact W.sz, fun j k hj e => ?_, fun k hk => ?_, way m h K :: ps, by simp [hps], fun j hj e => ?_⟩⟩
  · by_cases c : j = way m h K
    · rw [c, self] at e
      cases e
      exact ⟨h, K, by simp, c.symm, fun k' hk' => keep (e3 k' hk')⟩
    · rw [other c] at e
      obtain ⟨h', K', a1, a2, a3⟩ := W.at_ j k hj e
      exact ⟨h', K', by rw [List.getElem?_append_left (List.getElem?_eq_some_iff.mp a1).1]; exact a1, a2, fun k' hk' => keep (a3 k' hk')⟩
  · rw [List.length_append, List.length_singleton] at hk
    by_cases c : k = done.length
    · rw [c]; exact ⟨way m h K, jm, self⟩
    · obtain ⟨j, hj, e⟩ := W.all k (by omega)
      exact ⟨j, hj, by rw [other (fun z => by rw [z, e2] at e; cases e)]; exact e⟩
  · by_cases c : j = way m h K
    · rw [c]; exact List.mem_cons_self
    · rw [other c] at e
      exact List.mem_cons_of_mem _ (hin j hj e)
theorem own_fold {m : Nat} (hm : MaskB m) : ∀ (rest done : List Int) (owner : Array (Option Nat)), Own m done owner → done.length + rest.length ≤ m →
    ∃ owner', rest.foldl (stepF m) (some (owner, done.length)) = some (owner', (done ++ rest).length) ∧ Own m (done ++ rest) owner'
  | [], done, owner, W, _ => ⟨owner, by simp, by rw [List.append_nil]; exact W⟩
  | h :: rest, done, owner, W, hl => by
    rw [List.length_cons] at hl
    obtain ⟨j, e, W'⟩ := own_more hm W (by omega) h
    obtain ⟨owner', f, W2⟩ := own_fold hm rest (done ++ [h]) _ W' (by simp; omega)
    rw [List.append_assoc, List.singleton_append] at W2
    refine ⟨owner', ?_, W2⟩
    rw [List.foldl_cons, stepF_some e]
    simpa using f
theorem lay_all {m : Nat} (hm : MaskB m) {hs : Array Int} (hn : hs.size ≤ m) : ∃ owner, SetTable.layClean m hs = some owner ∧ Own m hs.toList owner := by
  obtain ⟨owner, f, W⟩ := own_fold hm hs.toList [] _ (Own.init m) (by simpa using hn)
  refine ⟨owner, ?_, by simpa using W⟩
  rw [layClean_eq]
  have f' : hs.toList.foldl (stepF m) (some (Array.replicate (m + 1) none, 0)) = some (owner, ([] ++ hs.toList).length) := f
  rw [f']; rfl
theorem relaid_any (t : SetTable) {hs : Array Int} {wanted : Nat} (hM : MaskB (SetTable.sizeAbove wanted - 1)) (hn : hs.size ≤ SetTable.sizeAbove wanted - 1) :
    ∃ t' order, t.relaid hs wanted = some (t', order) ∧ order.toList.Perm (List.range hs.size) ∧ TB t' (order.toList.map fun i => hs.getD i 0) ∧ t'.mask = SetTable.sizeAbove wanted - 1 ∧ t'.led = t.led ∧ t'.plain = t.plain := by
  generalize hMe : SetTable.sizeAbove wanted - 1 = M at *
  obtain ⟨owner, e, W⟩ := lay_all hM hn
  have hr : t.relaid hs wanted = some (tabOf t M owner, ((liveOf M owner).map (·.2)).toArray) := by rw [relaid_eq, hMe, e]; rfl
  obtain ⟨r1, r2⟩ := ris_live (fun j => owner.getD j none) (List.range (M + 1)) (by unfold Ris; exact List.pairwise_lt_range)
  have nd : ((liveOf M owner).map (·.1)).Nodup := List.Pairwise.imp (fun h => Nat.ne_of_lt h) r1
  have every : ∀ k, k < hs.size → k ∈ (liveOf M owner).map (·.2) := fun k hk => by
    obtain ⟨j, b1, b2⟩ := W.all k (by simpa using hk)
    exact List.mem_map.mpr ⟨(j, k), (mem_live W.sz).2 ⟨b1, b2⟩, rfl⟩
  have hlen : (liveOf M owner).length = hs.size := by
    obtain ⟨ps, p1, p2⟩ := W.ps
    have a := nat_nodup_len _ ps nd fun x hx => by
      obtain ⟨⟨y, k⟩, hq, rfl⟩ := List.mem_map.mp hx
      obtain ⟨b1, b2⟩ := (mem_live W.sz).1 hq
      exact p2 y b1 (by rw [b2]; exact fun z => nomatch z)
    have b := nat_nodup_len (List.range hs.size) _ List.nodup_range fun k hk => every k (List.mem_range.mp hk)
    simp only [List.length_map, List.length_range, Array.length_toList] at a b p1
    omega
  refine ⟨tabOf t M owner, _, hr, perm_range hs.size _ (by simp [hlen]) every, ⟨r1, rfl, by show ((liveOf M owner).map (·.1)).toArray.size = _; simp, hM, fun x hx => Nat.le_of_lt_succ (List.mem_range.mp (r2 x hx)), fun i h j h1 h2 => ?_⟩, rfl, rfl, rfl⟩
  have h1' : (((liveOf M owner).map (·.2)).map fun i => hs.getD i 0)[i]? = some h := h1
  have h2' : ((liveOf M owner).map (·.1))[i]? = some j := h2
  rw [List.getElem?_map, List.getElem?_map] at h1'
  rw [List.getElem?_map] at h2'
  cases hq : (liveOf M owner)[i]? with
  | none => rw [hq] at h2'; cases h2'
  | some q =>
    obtain ⟨y, k⟩ := q
    rw [hq] at h1' h2'
    have ej : y = j := Option.some.inj h2'
    have eh : hs.getD k 0 = h := Option.some.inj h1'
    subst ej
    obtain ⟨b1, b2⟩ := (mem_live W.sz).1 (List.mem_of_getElem? hq)
    obtain ⟨h0, K, a1, a2, a3⟩ := W.at_ y k b1 b2
    have e0 : hs.getD k 0 = h0 := by rw [Array.getD_eq_getD_getElem?, ← Array.getElem?_toList, a1]; rfl
    have : h0 = h := e0.symm.trans eh
    subst this
    refine ⟨K, a2, fun k' hk' => ?_⟩
    show way M h0 k' ∈ (liveOf M owner).map (·.1)
    cases z : oAt owner (way M h0 k') with
    | none => exact absurd z (a3 k' hk')
    | some k2 => exact List.mem_map.mpr ⟨(way M h0 k', k2), (mem_live W.sz).2 ⟨way_in M h0 k', z⟩, rfl⟩
/-! ### how large -/
theorem size_go : ∀ (f e n : Nat), 3 ≤ e → n < 2 ^ (e + f) → ∃ e', 3 ≤ e' ∧ SetTable.sizeAbove.go n f (2 ^ e) = 2 ^ e' ∧ n < 2 ^ e' ∧ (2 ^ e' ≤ 2 * n ∨ e' = e)
  | 0, e, n, he, hn => ⟨e, he, rfl, by simpa using hn, .inr rfl⟩
  | f + 1, e, n, he, hn => by
    unfold SetTable.sizeAbove.go
    by_cases c : 2 ^ e ≤ n
    · rw [if_pos c, ← Nat.pow_succ]
      obtain ⟨e', h1, h2, h3, h4⟩ := size_go f (e + 1) n (by omega) (by rw [show e + 1 + f = e + (f + 1) by omega]; exact hn)
      refine ⟨e', h1, h2, h3, .inl ?_⟩
      rcases h4 with h4 | h4
      · exact h4
      · rw [h4, Nat.pow_succ]; omega
    · rw [if_neg c]
      exact ⟨e, he, rfl, by omega, .inr rfl⟩
theorem size_ok {n : Nat} (h : n ≤ 1000000) : MaskB (SetTable.sizeAbove n - 1) ∧ n < SetTable.sizeAbove n ∧ (SetTable.sizeAbove n ≤ 2 * n ∨ SetTable.sizeAbove n = 8) := by
  obtain ⟨e', h1, h2, h3, h4⟩ := size_go 64 3 n (by decide) (Nat.lt_of_le_of_lt h (by decide))
  have h2' : SetTable.sizeAbove n = 2 ^ e' := h2
  have hp : 0 < 2 ^ e' := Nat.pow_pos (by decide)
  rw [h2']
  refine ⟨⟨e', h1, by omega⟩, h3, ?_⟩
  rcases h4 with h4 | h4
  · exact .inl h4
  · exact .inr (by rw [h4])
end Rd

namespace Rd
open PySem PySem.Spec PyProof.Rows L2
/-! ### keys: tuples of whole numbers and of such tuples -/
mutual
def numK : NestedKey → Bool
  | .num _ => true
  | .tup ks => numKs ks
  | _ => false
def numKs : List NestedKey → Bool
  | [] => true
  | k :: ks => numK k && numKs ks
end
section
variable {P : Program} {w : World}
/-- of no class of the program's own -/
def NoCls (P : Program) (w : World) (n : Nat) (s : Shared) (v : Value) : Prop := ∀ (A : Around) (E : Value → Shared → Prop) (Q : Bool → Shared → Prop), Q false s → wpAny (model P w) A (ofAClassStatement n v) Q E s
def ByVal (P : Program) (w : World) (n : Nat) (s : Shared) (v : Value) : Prop := ∀ (A : Around) (E : Value → Shared → Prop) (Q : Bool → Shared → Prop), Q true s → wpAny (model P w) A (hashByValue n v) Q E s
theorem NoCls.tup {n : Nat} {s : Shared} {a : Addr} {o : Obj} {vs : Array Value} {m : Nat} (ho : s.heap.get? a = some o) (hc : o.cls = .type "tuple") (hd : o.data = .seq vs m) (hv : ∀ v ∈ vs.toList, NoCls P w n s v) : NoCls P w (n + 1) s (.ref a) := fun A E Q h => by
  have hT : s.TypeIs (.ref a) "tuple" := ⟨o, ho, hc⟩
  unfold ofAClassStatement
  refine wpAny_bind (wpAny_typeOf hT ?_)
  dsimp only
  have e : (("tuple" : String) == "tuple") = true := by decide
  simp only [e, if_true, Bool.not_true, Bool.false_eq_true, if_false]
  try refine wpAny_bind (wpAny_pure ?_)
  try simp only [Bool.not_true, Bool.false_eq_true, if_false]
  show wpAny _ _ (seqItems? (.ref a) >>= _) _ _ s
  refine wpAny_bind (wpAny_seqItems ho hd ?_)
  dsimp only
  refine wpAny_bind ?_
  show wpAny _ _ (forIn vs _ _) _ _ s
  rw [← Array.forIn_toList]
  refine wpAny_forIn_list _ (fun rest r s' => r.1 = none ∧ s' = s ∧ ∀ v ∈ rest, NoCls P w n s v) _ ?_ ?_ _ _ ⟨rfl, rfl, hv⟩
  · rintro v rest r s' ⟨hr, rfl, hall⟩
    refine wpAny_bind (hall v List.mem_cons_self A _ _ ?_)
    simp only [Bool.false_eq_true, if_false]
    exact wpAny_pure ⟨rfl, rfl, fun u hu => hall u (List.mem_cons_of_mem _ hu)⟩
  · rintro ⟨r1, r2⟩ s' ⟨hr, rfl, _⟩
    simp only at hr
    subst hr
    exact wpAny_pure h
theorem ByVal.tup {n : Nat} {s : Shared} {a : Addr} {o : Obj} {vs : Array Value} {m : Nat} (ho : s.heap.get? a = some o) (hc : o.cls = .type "tuple") (hd : o.data = .seq vs m) (hv : ∀ v ∈ vs.toList, ByVal P w n s v) : ByVal P w (n + 1) s (.ref a) := fun A E Q h => by
  have hT : s.TypeIs (.ref a) "tuple" := ⟨o, ho, hc⟩
  unfold hashByValue
  refine wpAny_bind (wpAny_specialOf hT F.slot_tuple_hash.lookup ?_)
  show wpAny _ _ (seqItems? (.ref a) >>= _) _ _ s
  refine wpAny_bind (wpAny_seqItems ho hd ?_)
  refine wpAny_bind ?_
  show wpAny _ _ (forIn vs _ _) _ _ s
  rw [← Array.forIn_toList]
  refine wpAny_forIn_list _ (fun rest r s' => r.1 = none ∧ s' = s ∧ ∀ v ∈ rest, ByVal P w n s v) _ ?_ ?_ _ _ ⟨rfl, rfl, hv⟩
  · rintro v rest r s' ⟨hr, rfl, hall⟩
    refine wpAny_bind (hall v List.mem_cons_self A _ _ ?_)
    simp only [Bool.not_true, Bool.false_eq_true, if_false]
    exact wpAny_pure ⟨rfl, rfl, fun u hu => hall u (List.mem_cons_of_mem _ hu)⟩
  · rintro ⟨r1, r2⟩ s' ⟨hr, rfl, _⟩
    simp only at hr
    subst hr
    exact wpAny_pure h
mutual
theorem key_nocls : ∀ (k : NestedKey) (v : Value) (n : Nat) (s : Shared), NestedIs s.heap k v → k.depth ≤ n → NoCls P w n s v
  | .none, _, n, s, h, _ => by cases h; exact fun A E Q q => by cases n <;> exact wpAny_pure q
  | .num _, _, n, s, h, _ => by
    cases h with
    | bool _ => exact fun A E Q q => by cases n <;> exact wpAny_pure q
    | int _ _ => exact fun A E Q q => by cases n <;> exact wpAny_pure q
  | .text _, _, n, s, h, _ => by cases h; exact fun A E Q q => by cases n <;> exact wpAny_pure q
  | .tup ks, _, n, s, h, hd => by
    unfold NestedKey.depth at hd
    cases h with
    | tup ho hc hdat hall =>
      cases n with
      | zero => omega
      | succ n => exact NoCls.tup ho hc hdat (keys_nocls ks _ n s hall (by omega))
theorem keys_nocls : ∀ (ks : List NestedKey) (vs : List Value) (n : Nat) (s : Shared), NestedAll s.heap ks vs → NestedKey.depthAll ks ≤ n → ∀ v ∈ vs, NoCls P w n s v
  | [], _, n, s, h, _ => by cases h; intro v hv; cases hv
  | k :: ks, _, n, s, h, hd => by
    unfold NestedKey.depthAll at hd
    cases h with
    | cons a b =>
      intro v hv
      rcases List.mem_cons.mp hv with e | hv
      · rw [e]; exact key_nocls k _ n s a (by omega)
      · exact keys_nocls ks _ n s b (by omega) v hv
end
mutual
theorem key_byval : ∀ (k : NestedKey) (v : Value) (n : Nat) (s : Shared), NestedIs s.heap k v → k.depth ≤ n → numK k = true → ByVal P w n s v
  | .none, _, n, s, h, _, hn => by unfold numK at hn; cases hn
  | .num _, _, n, s, h, _, _ => by
    cases h with
    | bool _ => exact fun A E Q q => by cases n <;> exact wpAny_pure q
    | int _ _ => exact fun A E Q q => by cases n <;> exact wpAny_pure q
  | .text _, _, n, s, h, _, hn => by unfold numK at hn; cases hn
  | .tup ks, _, n, s, h, hd, hn => by
    unfold NestedKey.depth at hd
    unfold numK at hn
    cases h with
    | tup ho hc hdat hall =>
      cases n with
      | zero => omega
      | succ n => exact ByVal.tup ho hc hdat (keys_byval ks _ n s hall (by omega) hn)
theorem keys_byval : ∀ (ks : List NestedKey) (vs : List Value) (n : Nat) (s : Shared), NestedAll s.heap ks vs → NestedKey.depthAll ks ≤ n → numKs ks = true → ∀ v ∈ vs, ByVal P w n s v
  | [], _, n, s, h, _, _ => by cases h; intro v hv; cases hv
  | k :: ks, _, n, s, h, hd, hn => by
    unfold NestedKey.depthAll at hd
    unfold numKs at hn
    rw [Bool.and_eq_true] at hn
    cases h with
    | cons a b =>
      intro v hv
      rcases List.mem_cons.mp hv with e | hv
      · rw [e]; exact key_byval k _ n s a (by omega) hn.1
      · exact keys_byval ks _ n s b (by omega) hn.2 v hv
end
/-- the object at a is the key k -/
structure KeyN (h : Heap) (k : NestedKey) (a : Addr) : Prop where
  is : NestedIs h k (.ref a)
  dp : k.depth ≤ 8
  nu : numK k = true
theorem KeyN.at {h h' : Heap} {k : NestedKey} {a : Addr} (x : KeyN h k a) (hk : ∀ b o vs n, h.get? b = some o → o.data = .seq vs n → h'.get? b = some o) : KeyN h' k a := ⟨NestedIs.at hk k _ x.is, x.dp, x.nu⟩
theorem KeyN.but {h h' : Heap} {k : NestedKey} {a d : Addr} {o : Obj} {es : Array (Int × Value)} {ep : Nat} {t : SetTable} (x : KeyN h k a) (ho : h.get? d = some o) (hd : o.data = .set es ep t) (hs : Heap.SameBut d h h') : KeyN h' k a :=
  x.at fun b ob vs n hb hc => (hs.2 b fun e => by subst e; rw [ho] at hb; cases hb; rw [hd] at hc; cases hc).trans hb
theorem KeyN.inj {h : Heap} {k k' : NestedKey} {a : Addr} (x : KeyN h k a) (y : KeyN h k' a) : k = k' := NestedIs.inj _ _ _ x.is y.is
variable {A : Around} {E : Value → Shared → Prop} {s : Shared}
theorem seen_none {k : NestedKey} {b : Addr} {Q : Bool → Shared → Prop} (hk : KeyN s.heap k b) {ys : List Value} (hy : ∀ y ∈ ys, ∃ k' c, y = Value.ref c ∧ KeyN s.heap k' c) (h : Q false s) :
    wpAny (model P w) A (searchCouldBeSeen (.ref b) ys) Q E s := by
  unfold searchCouldBeSeen
  refine wpAny_bind ?_
  refine wpAny_forIn_list _ (fun rest r s' => r.1 = none ∧ s' = s ∧ ∀ y ∈ rest, ∃ k' c, y = Value.ref c ∧ KeyN s.heap k' c) _ ?_ ?_ _ _ ⟨rfl, rfl, hy⟩
  · rintro v rest r s' ⟨hr, rfl, hall⟩
    obtain ⟨k', c, rfl, hc⟩ := hall v List.mem_cons_self
    have later : ∀ y ∈ rest, ∃ k' c, y = Value.ref c ∧ KeyN s'.heap k' c := fun u hu => hall u (List.mem_cons_of_mem _ hu)
    dsimp only
    by_cases hv : (b == c || (carriedByValue (.ref b) && carriedByValue (.ref c))) = true
    · exact wp_if_pos hv (wpAny_pure ⟨rfl, rfl, later⟩)
    · refine wp_if_neg hv ?_
      refine wpAny_bind (quiet_key k _ 8 s' hk.is hk.dp A _ _ ?_)
      simp only [Bool.not_true, Bool.false_eq_true, if_false]
      refine wpAny_bind (quiet_key k' _ 8 s' hc.is hc.dp A _ _ ?_)
      simp only [Bool.not_true, Bool.false_eq_true, if_false]
      refine wpAny_bind (key_nocls k _ 8 s' hk.is hk.dp A _ _ ?_)
      simp only [Bool.false_eq_true, if_false]
      refine wpAny_bind (key_nocls k' _ 8 s' hc.is hc.dp A _ _ ?_)
      simp only [Bool.false_eq_true, if_false]
      exact wpAny_pure ⟨rfl, rfl, later⟩
  · rintro ⟨r1, r2⟩ s' ⟨hr, rfl, _⟩
    simp only at hr
    subst hr
    exact wpAny_pure h
/-! ### the set -/
def rowsN (w : World) (L : List (Addr × NestedKey)) : List (Int × Value) := L.map fun p => (p.2.hash w, Value.ref p.1)
theorem rowsN_len (w : World) (L : List (Addr × NestedKey)) : (rowsN w L).length = L.length := by unfold rowsN; exact List.length_map ..
structure SN (w : World) (h : Heap) (a : Addr) (L : List (Addr × NestedKey)) (es : Array (Int × Value)) (ep : Nat) (t : SetTable) : Prop where
  ob : ∃ o, h.get? a = some o ∧ o.ExactSet ∧ o.data = .set es ep t
  rows : es.toList = rowsN w L
  tab : TB t (L.map fun p => p.2.hash w)
  nd : (L.map (·.2)).Nodup
  key : ∀ p ∈ L, KeyN h p.2 p.1
  plain : t.plain = true
  led : w.params.followText "set-order" = true ∨ t.led = true
  room : L.length * 5 < t.mask * 3
  few : L.length < 2000
  mx : t.mask ≤ 8191
variable {a : Addr} {L : List (Addr × NestedKey)} {es : Array (Int × Value)} {ep : Nat} {t : SetTable}
theorem SN.size (R : SN w s.heap a L es ep t) : es.size = L.length := by
  have h := congrArg List.length R.rows
  rw [Array.length_toList, rowsN_len] at h
  exact h
theorem fits_of (hsz : t.place.size = es.size) (hdm : t.dummies = #[]) (hfl : es.size ≤ t.mask) : t.fits es.size = true := by
  unfold SetTable.fits SetTable.fill
  rw [hdm, Bool.and_eq_true, beq_iff_eq, decide_eq_true_eq]
  show t.place.size = es.size ∧ t.place.size + 0 ≤ t.mask
  omega
theorem SN.fits (R : SN w s.heap a L es ep t) : t.fits es.size = true := by
  have h1 := R.tab.sz
  rw [List.length_map] at h1
  have h2 := R.size
  have h3 := R.room
  exact fits_of (by omega) R.tab.dm (by omega)
theorem SN.entry (R : SN w s.heap a L es ep t) {i : Nat} {p : Addr × NestedKey} (h : L[i]? = some p) : es[i]? = some (p.2.hash w, Value.ref p.1) := by
  rw [← Array.getElem?_toList, R.rows]
  unfold rowsN
  rw [List.getElem?_map, h]; rfl
theorem SN.stays (R : SN w s.heap a L es ep t) : ¬ t.gaveWay = true := by
  obtain ⟨k, hk, e⟩ := R.tab.mb
  unfold SetTable.gaveWay
  have : t.mask % 2 = 1 := by
    have : 2 ^ k = 2 * 2 ^ (k - 1) := by rw [← Nat.pow_succ']; congr 1; omega
    omega
  rw [this]; decide
theorem nth_dummy (m : Nat) : ∀ (n : Nat) (p : SetTable.Probe), p.dummy = none → (nth m p n).dummy = none
  | 0, p, h => h
  | n + 1, p, h => nth_dummy m n (adv m p) (by unfold adv; split <;> exact h)
/-- the search, from the c-th step of the way on -/
theorem look_from (R : SN w s.heap a L es ep t) {x : Addr} {k : NestedKey} (hx : KeyN s.heap k x) (hu : A.units + 8 < cLine) {K : Nat} (g : Gap t (k.hash w) K) {Q : SetFound → Shared → Prop}
    (hin : k ∈ L.map (·.2) → Q (.there none) s) (hout : k ∉ L.map (·.2) → Q (.free (way t.mask (k.hash w) K) false) s) :
    ∀ (f c : Nat) (stand : Option SetTable.Probe), stand.getD (t.probeStart (k.hash w)) = nth t.mask (runAt t.mask (SetTable.bits (k.hash w) % (t.mask + 1)) (SetTable.bits (k.hash w))) c → c ≤ K → K - c < f →
      (∀ (i : Nat) p, L[i]? = some p → p.2 = k → ∃ c', c ≤ c' ∧ c' < K ∧ t.place.toList[i]? = some (way t.mask (k.hash w) c')) →
      wpAny (model P w) A (setSearchFrom a (.ref x) (k.hash w) true f stand) Q E s
  | 0, c, stand, _, _, hf, _ => absurd hf (Nat.not_lt_zero _)
  | f + 1, c, stand, hst, hc, hf, hre => by
    obtain ⟨o, ho, hex, hd⟩ := R.ob
    rw [setSearchFrom_succ]
    refine wpAny_bind (wpAny_setState_of ho hd R.fits ?_)
    dsimp only
    refine wp_if_neg R.stays ?_
    try refine wpAny_bind (wpAny_pure ?_)
    generalize hp0 : nth t.mask (runAt t.mask (SetTable.bits (k.hash w) % (t.mask + 1)) (SetTable.bits (k.hash w))) c = p0 at hst
    have sh : ∀ q, nth t.mask p0 q = nth t.mask (runAt t.mask (SetTable.bits (k.hash w) % (t.mask + 1)) (SetTable.bits (k.hash w))) (c + q) := fun q => by rw [← hp0, ← nth_add]
    have e1 : ∀ q, (nth t.mask p0 q).j = way t.mask (k.hash w) (c + q) := fun q => congrArg SetTable.Probe.j (sh q)
    have eK : way t.mask (k.hash w) (c + (K - c)) = way t.mask (k.hash w) K := by rw [show c + (K - c) = K by omega]
    have glt := g.lt
    have spec := go_spec t R.tab.ris R.tab.dm (fun i => (es[i]?.map (·.1)).getD 0) (k.hash w) (10 * SetTable.turns t.mask) (K - c) p0 (by rw [← hp0]; exact nth_dummy _ _ _ rfl) (by omega)
      (fun q hq => by rw [e1]; exact g.inn _ (by omega)) (by rw [e1, eK]; exact g.out)
    have hashAt : ∀ (i : Nat) p, L[i]? = some p → (fun i => (es[i]?.map (·.1)).getD 0) i = p.2.hash w := fun i p hp => by
      show (es[i]?.map (·.1)).getD 0 = _
      rw [R.entry hp]; rfl
    rcases spec with ⟨q, i, hq, hi, hh, hno, hpr⟩ | ⟨hno, hpr⟩
    · have hpr' : t.probe (fun i => (es[i]?.map (·.1)).getD 0) (k.hash w) p0 = some (.candidate (nth t.mask p0 q).j i (nth t.mask p0 (q + 1))) := hpr
      rw [hst, hpr']
      dsimp only
      rw [e1] at hi
      have hil : i < L.length := by
        have h1 := (List.getElem?_eq_some_iff.mp hi).1
        have h2 := R.tab.len
        rw [List.length_map] at h2
        omega
      have hp : L[i]? = some L[i] := List.getElem?_eq_getElem hil
      generalize hpe : L[i] = p at hp
      have hmem : p ∈ L := List.mem_of_getElem? hp
      have hpk := R.key p hmem
      have rest : wpAny (model P w) A (searchRest a (.ref x) (k.hash w) true f es t (nth t.mask p0 q).j i (nth t.mask p0 (q + 1))) Q E s := by
        unfold searchRest
        rw [R.entry hp]
        dsimp only
        refine wpAny_bind (wpAny_holding ((nestedKind P w).eqBool (x := p.2) (y := k) hu ⟨hpk.is, hpk.dp⟩ ⟨hx.is, hx.dp⟩ ?_))
        refine wpAny_bind (wpAny_setState_of ho hd R.fits ?_)
        dsimp only
        by_cases hkk : p.2 = k
        · exact wp_if_pos (by simp [hkk]) (wpAny_pure (hin (List.mem_map.mpr ⟨p, hmem, hkk⟩)))
        · refine wp_if_neg (by simp [hkk]) ?_
          try refine wpAny_bind (wpAny_pure ?_)
          rw [sameMem]
          dsimp only
          have hsl : t.slot (nth t.mask p0 q).j = .live i := slot_live R.tab.ris (by rw [e1]; exact hi)
          simp only [if_true, hsl, R.entry hp]
          refine wpAny_bind (wpAny_isSame_ref_self (wpAny_bind (wpAny_pure ?_)))
          simp only [if_true]
          refine wp_if_neg (by simp [hkk]) ?_
          refine look_from R hx hu g hin hout f (c + (q + 1)) _ (by rw [sh]; rfl) (by omega) (by omega) fun i0 p1 h0 hk0 => ?_
          obtain ⟨c', a1, a2, a3⟩ := hre i0 p1 h0 hk0
          refine ⟨c', ?_, a2, a3⟩
          have n1 : ¬ c' < c + q := fun z => hno (c' - c) i0 (by omega) (by rw [e1, show c + (c' - c) = c' by omega]; exact a3) ((hashAt i0 p1 h0).trans (congrArg (NestedKey.hash w) hk0))
          have n2 : c' ≠ c + q := fun z => by
            rw [z] at a3
            have s0 := slot_live R.tab.ris a3
            rw [← e1, hsl] at s0
            injection s0 with s0
            rw [← s0, hp] at h0
            exact hkk ((congrArg Prod.snd (Option.some.inj h0)).trans hk0)
          omega
      by_cases hl : t.led = true
      · refine wp_if_neg (by simp [hl]) ?_
        try refine wpAny_bind (wpAny_pure ?_)
        exact rest
      · refine wp_if_pos (by simp [hl]) ?_
        refine wpAny_bind (seen_none hx (fun y hy => ?_) ?_)
        · obtain ⟨e, he, ee⟩ := List.mem_map.mp hy
          have he1 : e ∈ es ∧ e.1 = k.hash w := by simpa using he
          have he2 : e ∈ es.toList := by simpa using he1.1
          rw [R.rows] at he2
          obtain ⟨p2, hp2, e2⟩ := List.mem_map.mp he2
          exact ⟨p2.2, p2.1, by rw [← ee, ← e2], R.key p2 hp2⟩
        · refine wp_if_neg (by decide) ?_
          try refine wpAny_bind (wpAny_pure ?_)
          exact rest
    · have hpr' : t.probe (fun i => (es[i]?.map (·.1)).getD 0) (k.hash w) p0 = some (.empty (way t.mask (k.hash w) K) none) := by
        rw [← eK, ← e1]; exact hpr
      rw [hst, hpr']
      dsimp only
      refine wpAny_pure (hout fun hm => ?_)
      obtain ⟨p1, h0, hk0⟩ := List.mem_map.mp hm
      obtain ⟨i0, hi0, e0⟩ := List.getElem_of_mem h0
      have h00 : L[i0]? = some p1 := by rw [List.getElem?_eq_getElem hi0, e0]
      obtain ⟨c', a1, a2, a3⟩ := hre i0 p1 h00 hk0
      exact hno (c' - c) i0 (by omega) (by rw [e1, show c + (c' - c) = c' by omega]; exact a3) ((hashAt i0 p1 h00).trans (congrArg (NestedKey.hash w) hk0))
theorem look_at (R : SN w s.heap a L es ep t) {x : Addr} {k : NestedKey} (hx : KeyN s.heap k x) (hu : A.units + 8 < cLine) {Q : SetFound → Shared → Prop}
    (hin : k ∈ L.map (·.2) → Q (.there none) s) (hout : ∀ K, k ∉ L.map (·.2) → Gap t (k.hash w) K → Q (.free (way t.mask (k.hash w) K) false) s) :
    wpAny (model P w) A (setSearch a (.ref x) (k.hash w) true) Q E s := by
  have hroom := R.room
  have hmx := R.mx
  obtain ⟨K, g⟩ := R.tab.gap (by rw [List.length_map]; omega) (k.hash w)
  have hK : K < 100000 := by
    have := g.lt
    unfold SetTable.turns at this
    omega
  unfold setSearch
  refine look_from R hx hu g hin (fun hn => hout K hn g) 100000 0 none rfl (Nat.zero_le _) (by omega) fun i p hp hk => ?_
  have hi : (L.map fun p => p.2.hash w)[i]? = some (k.hash w) := by rw [List.getElem?_map, hp, ← hk]; rfl
  have hil : i < t.place.toList.length := by
    have h1 := (List.getElem?_eq_some_iff.mp hp).1
    have h2 := R.tab.len
    rw [List.length_map] at h2
    omega
  obtain ⟨c, hc, e⟩ := R.tab.ahead g hi (List.getElem?_eq_getElem hil)
  exact ⟨c, Nat.zero_le _, hc, by rw [List.getElem?_eq_getElem hil, e]⟩
end
end Rd

namespace Rd
open PySem PySem.Spec PyProof.Rows L2
section
variable {P : Program} {w : World} {A : Around} {E : Value → Shared → Prop} {s : Shared} {a : Addr} {L : List (Addr × NestedKey)} {es : Array (Int × Value)} {ep : Nat} {t : SetTable}
theorem range_get {α : Type} (L : List α) : (List.range L.length).filterMap (fun i => L[i]?) = L := by
  have key : ∀ n, n ≤ L.length → (List.range n).filterMap (fun i => L[i]?) = L.take n := by
    intro n
    induction n with
    | zero => intro _; rfl
    | succ n ih =>
      intro hn
      rw [List.range_succ, List.filterMap_append, ih (by omega), List.take_add_one, List.getElem?_eq_getElem (show n < L.length by omega)]
      simp [show n < L.length by omega]
  rw [key L.length (Nat.le_refl _), List.take_length]
theorem rows_order (order : Array Nat) (hr : es.toList = rowsN w L) (hp : order.toList.Perm (List.range L.length)) :
    ∃ L2, (order.filterMap (es[·]?)).toList = rowsN w L2 ∧ L2.Perm L ∧ (L2.map fun p => p.2.hash w) = order.toList.map fun i => (es.map (·.1)).getD i 0 := by
  have ent : ∀ i (h : i < L.length), es[i]? = some ((L[i]).2.hash w, Value.ref (L[i]).1) := fun i h => by
    rw [← Array.getElem?_toList, hr]
    unfold rowsN
    rw [List.getElem?_map, List.getElem?_eq_getElem h]; rfl
  have inR : ∀ i ∈ order.toList, i < L.length := fun i hi => List.mem_range.mp (hp.mem_iff.mp hi)
  refine ⟨order.toList.filterMap fun i => L[i]?, ?_, ?_, ?_⟩
  · have e : ∀ l : List Nat, (∀ i ∈ l, i < L.length) → l.filterMap (fun i => es[i]?) = rowsN w (l.filterMap fun i => L[i]?) := by
      intro l
      induction l with
      | nil => intro _; rfl
      | cons i l ih =>
        intro h
        rw [List.filterMap_cons_some (ent i (h i List.mem_cons_self)), List.filterMap_cons_some (List.getElem?_eq_getElem (h i List.mem_cons_self)), ih fun j hj => h j (List.mem_cons_of_mem _ hj)]
        rfl
    have := e order.toList inR
    simpa using this
  · have := hp.filterMap fun i => L[i]?
    rw [range_get] at this
    exact this
  · generalize order.toList = l at inR
    induction l with
    | nil => rfl
    | cons i l ih =>
      have hi := inR i List.mem_cons_self
      rw [List.filterMap_cons_some (List.getElem?_eq_getElem hi), List.map_cons, List.map_cons, ih fun j hj => inR j (List.mem_cons_of_mem _ hj)]
      congr 1
      have e5 : (es.map (·.1))[i]? = some ((L[i]).2.hash w) := by rw [Array.getElem?_map, ent i hi]; rfl
      simp [Array.getD_eq_getD_getElem?, e5]
/-- the table laid anew -/
theorem relay_set {o : Obj} (ho : s.heap.get? a = some o) (hex : o.ExactSet) (hd : o.data = .set es ep t) (hrows : es.toList = rowsN w L) (hsz : t.place.size = es.size) (hdm : t.dummies = #[]) (hfl : es.size ≤ t.mask)
    (nd : (L.map (·.2)).Nodup) (key : ∀ p ∈ L, KeyN s.heap p.2 p.1) (pl : t.plain = true) (ld : w.params.followText "set-order" = true ∨ t.led = true) (few : L.length < 2000) (hne : 1 ≤ L.length) {Q : Unit → Shared → Prop}
    (hQ : ∀ h' L' es' ep' t', Heap.SameBut a s.heap h' → SN w h' a L' es' ep' t' → L'.Perm L → Q () { s with heap := h' }) : wpAny (model P w) A (setRelay a (SetTable.grown L.length)) Q E s := by
  have hsl : es.size = L.length := by
    have h := congrArg List.length hrows
    rw [Array.length_toList, rowsN_len] at h
    exact h
  have hg : SetTable.grown L.length = L.length * 4 := by unfold SetTable.grown; rw [if_neg (by omega)]
  rw [hg]
  obtain ⟨m1, m2, m3⟩ := size_ok (n := L.length * 4) (by omega)
  have m4 : SetTable.sizeAbove (L.length * 4) ≤ 8192 := by
    obtain ⟨k, hk, ek⟩ := m1
    have he : SetTable.sizeAbove (L.length * 4) = 2 ^ k := by omega
    rcases m3 with m3 | m3
    · have : k < 14 := Classical.byContradiction fun z => by
        have : 2 ^ 14 ≤ 2 ^ k := Nat.pow_le_pow_right (by decide) (by omega)
        omega
      have : 2 ^ k ≤ 2 ^ 13 := Nat.pow_le_pow_right (by decide) (by omega)
      omega
    · omega
  obtain ⟨t', order, e, hp, T, em, el, epl⟩ := relaid_any t (hs := es.map (·.1)) m1 (by rw [Array.size_map, hsl]; omega)
  rw [Array.size_map, hsl] at hp
  obtain ⟨L2, r1, r2, r3⟩ := rows_order order hrows hp
  rw [← r3] at T
  have hs2 : (order.filterMap (es[·]?)).size = es.size := by
    have h := congrArg List.length r1
    rw [Array.length_toList, rowsN_len, r2.length_eq] at h
    rw [h, hsl]
  rw [setRelay_eq]
  refine wpAny_bind (wpAny_setState_of ho hd (fits_of hsz hdm hfl) ?_)
  dsimp only
  refine wp_if_neg (by rw [sizeLine_eq]; omega) ?_
  try refine wpAny_bind (wpAny_pure ?_)
  rw [e]
  dsimp only
  refine wpAny_bind ?_
  refine wp_if_neg (by rw [hs2]; simp) ?_
  try refine wpAny_bind (wpAny_pure ?_)
  refine wpAny_pure ?_
  dsimp only
  refine wpAny_storeSet_of ho hd ?_ (by rw [hs2, hsl, sizeLine_eq]; omega)
  have sb : Heap.SameBut a s.heap (s.heap.update a (Obj.putSet (order.filterMap (es[·]?)) t')) := Heap.SameBut.update ..
  refine hQ _ L2 (order.filterMap (es[·]?)) (ep + 1) t' sb ?_ r2
  have l2 := r2.length_eq
  exact ⟨⟨_, store_at ho hd, ⟨hex.1, hex.2.1, hex.2.2⟩, rfl⟩, r1, T, (r2.map (·.2)).nodup_iff.mpr nd, fun p hpm => (key p (r2.mem_iff.mp hpm)).but ho hd sb, by rw [epl]; exact pl, by rw [el]; exact ld, by rw [l2, em]; omega, by omega, by rw [em]; omega⟩
theorem ins_perm {α : Type} (L : List α) (p : Nat) (x : α) : (L.take p ++ x :: L.drop p).Perm (x :: L) := by
  have h : (L.take p ++ x :: L.drop p).Perm (x :: (L.take p ++ L.drop p)) := List.perm_middle
  rw [List.take_append_drop] at h
  exact h
/-- one more is added, or it was there -/
theorem add_to (R : SN w s.heap a L es ep t) {x : Addr} {k : NestedKey} (hx : KeyN s.heap k x) (hu : A.units + 8 < cLine) (hfew : L.length + 1 < 2000) {Q : Bool → Shared → Prop}
    (hQ : ∀ b h' L' es' ep' t', Heap.SameBut a s.heap h' → SN w h' a L' es' ep' t' → (k ∈ L.map (·.2) → L' = L) → (k ∉ L.map (·.2) → L'.Perm ((x, k) :: L)) → Q b { s with heap := h' }) :
    wpAny (model P w) A (setAddHashed a (.ref x) (k.hash w)) Q E s := by
  obtain ⟨o, ho, hex, hd⟩ := R.ob
  have hsl := R.size
  have hroom := R.room
  unfold setAddHashed
  refine wpAny_holding ?_
  rw [show (100000 : Nat) = 99999 + 1 from rfl, setAddHashedIn_succ]
  refine wpAny_bind (wpAny_setState_of ho hd R.fits ?_)
  dsimp only
  refine wp_if_neg (by simp [byScan, Value.scannable]) ?_
  try refine wpAny_bind (wpAny_pure ?_)
  refine wpAny_bind (look_at R hx hu (fun hm => ?_) fun K hm g => ?_)
  · dsimp only
    exact wpAny_pure (hQ false s.heap L es ep t (Heap.SameBut.refl a s.heap) R (fun _ => rfl) fun z => absurd hm z)
  · dsimp only
    refine wpAny_bind (wpAny_setState_of ho hd R.fits ?_)
    dsimp only
    obtain ⟨p, q2, q1, q3, q4, q5, q6⟩ := R.tab.put g
    have hp1 : (t.put (way t.mask (k.hash w) K)).1.plain = true := by rw [q6]; exact R.plain
    generalize hpt : t.put (way t.mask (k.hash w) K) = pt at q1 q3 q4 q5 q6 hp1 ⊢
    obtain ⟨t1, p'⟩ := pt
    dsimp only at q1 q3 q4 q5 q6 hp1 ⊢
    subst q1
    first
      | (refine wpAny_bind ?_; refine wp_if_pos hp1 ?_; refine key_byval k _ 8 _ hx.is hx.dp hx.nu A _ _ ?_)
      | refine wp_if_pos hp1 (wpAny_bind (key_byval k _ 8 _ hx.is hx.dp hx.nu A _ _ ?_))
    simp only [if_true]
    have hin : (SetTable.insertAt es p' (k.hash w, Value.ref x)).toList = rowsN w (L.take p' ++ (x, k) :: L.drop p') := by
      rw [SetTable.toList_insertAt, R.rows]
      unfold rowsN
      rw [List.map_append, List.map_cons, List.map_take, List.map_drop]
    have pm := ins_perm L p' (x, k)
    have hlen := pm.length_eq
    rw [List.length_cons] at hlen
    rw [List.length_map] at q2
    have hhs : (L.take p' ++ (x, k) :: L.drop p').map (fun p => p.2.hash w) = (L.map fun p => p.2.hash w).take p' ++ k.hash w :: (L.map fun p => p.2.hash w).drop p' := by
      rw [List.map_append, List.map_cons, List.map_take, List.map_drop]
    rw [← hhs] at q3
    have nd1 : ((L.take p' ++ (x, k) :: L.drop p').map (·.2)).Nodup := by
      refine (pm.map (·.2)).nodup_iff.mpr ?_
      rw [List.map_cons]
      exact List.nodup_cons.mpr ⟨hm, R.nd⟩
    generalize L.take p' ++ (x, k) :: L.drop p' = L1 at pm hlen q3 nd1 hin
    have hes : (SetTable.insertAt es p' (k.hash w, Value.ref x)).size = L.length + 1 := by
      have h := congrArg List.length hin
      rw [Array.length_toList, rowsN_len, hlen] at h
      exact h
    generalize SetTable.insertAt es p' (k.hash w, Value.ref x) = es1 at hin hes ⊢
    refine wpAny_bind (wpAny_storeSet_of ho hd ?_ (by rw [hes, sizeLine_eq]; omega))
    have sb : Heap.SameBut a s.heap (s.heap.update a (Obj.putSet es1 t1)) := Heap.SameBut.update ..
    have ho1 := store_at (es' := es1) (t' := t1) ho hd
    generalize s.heap.update a (Obj.putSet es1 t1) = h1 at sb ho1 ⊢
    have key1 : ∀ p ∈ L1, KeyN h1 p.2 p.1 := fun p hp => by
      rcases List.mem_cons.mp (pm.mem_iff.mp hp) with e | hp
      · rw [e]; exact hx.but ho hd sb
      · exact (R.key p hp).but ho hd sb
    have ld1 : w.params.followText "set-order" = true ∨ t1.led = true := by rw [q5]; exact R.led
    have hsz1 : t1.place.size = es1.size := by
      have h := q3.sz
      rw [List.length_map, hlen] at h
      rw [h, hes]
    have hfill : t1.fill = L.length + 1 := by
      unfold SetTable.fill
      rw [q3.dm, hsz1, hes]; rfl
    by_cases hf : t1.tooFull = true
    · first
        | (refine wpAny_bind ?_; refine wp_if_pos (by simp [hf]) ?_)
        | (refine wp_if_pos (by simp [hf]) ?_; refine wpAny_bind ?_)
      rw [hsl, ← hlen]
      refine relay_set (s := { s with heap := h1 }) ho1 ⟨hex.1, hex.2.1, hex.2.2⟩ rfl hin hsz1 q3.dm (by rw [hes, q4]; omega) nd1 key1 hp1 ld1 (by omega) (by omega) ?_
      intro h2 L2 es2 ep2 t2 sb2 R2 pm2
      exact wpAny_pure (hQ true h2 L2 es2 ep2 t2 (sb.trans sb2) R2 (fun z => absurd z hm) fun _ => pm2.trans pm)
    · first
        | refine wp_if_neg (by simp [hf]) ?_
        | (refine wpAny_bind ?_; refine wp_if_neg (by simp [hf]) ?_; refine wpAny_pure ?_)
      have hf' : ¬ (t1.fill * 5 ≥ t1.mask * 3) := by
        intro z
        apply hf
        unfold SetTable.tooFull
        exact decide_eq_true z
      rw [hfill] at hf'
      exact wpAny_pure (hQ true h1 L1 es1 (ep + 1) t1 sb ⟨⟨_, ho1, ⟨hex.1, hex.2.1, hex.2.2⟩, rfl⟩, hin, q3, nd1, key1, hp1, ld1, by rw [hlen]; omega, by omega, by rw [q4]; exact R.mx⟩ (fun z => absurd z hm) fun _ => pm)
/-- what the set has got from the first i items -/
structure GotN (ks : List (Addr × NestedKey)) (i : Nat) (L : List (Addr × NestedKey)) : Prop where
  sub : ∀ p ∈ L, p ∈ ks.take i
  all : ∀ p ∈ ks.take i, p.2 ∈ L.map (·.2)
  len : L.length ≤ i
theorem GotN.zero (ks : List (Addr × NestedKey)) : GotN ks 0 [] := ⟨fun p h => (by cases h), fun p h => (by simp at h), Nat.le_refl _⟩
theorem take_one {α : Type} {l : List α} {i : Nat} {x : α} (h : l[i]? = some x) : l.take (i + 1) = l.take i ++ [x] := by
  rw [List.take_add_one, h]; rfl
theorem GotN.same {ks L : List (Addr × NestedKey)} {i : Nat} {x : Addr × NestedKey} (g : GotN ks i L) (h : ks[i]? = some x) (hm : x.2 ∈ L.map (·.2)) : GotN ks (i + 1) L := by
  refine ⟨fun p hp => ?_, fun p hp => ?_, Nat.le_succ_of_le g.len⟩
  · rw [take_one h]; exact List.mem_append_left _ (g.sub p hp)
  · rw [take_one h] at hp
    rcases List.mem_append.mp hp with z | z
    · exact g.all p z
    · rw [List.mem_singleton.mp z]; exact hm
theorem GotN.more {ks L L' : List (Addr × NestedKey)} {i : Nat} {x : Addr × NestedKey} (g : GotN ks i L) (h : ks[i]? = some x) (pm : L'.Perm (x :: L)) : GotN ks (i + 1) L' := by
  refine ⟨fun p hp => ?_, fun p hp => ?_, by rw [pm.length_eq, List.length_cons]; exact Nat.succ_le_succ g.len⟩
  · rw [take_one h]
    rcases List.mem_cons.mp (pm.mem_iff.mp hp) with z | z
    · rw [z]; exact List.mem_append_right _ (List.mem_singleton.mpr rfl)
    · exact List.mem_append_left _ (g.sub p z)
  · have hp' : p.2 ∈ (x :: L).map (·.2) := by
      rw [take_one h] at hp
      rw [List.map_cons]
      rcases List.mem_append.mp hp with z | z
      · exact List.mem_cons_of_mem _ (g.all p z)
      · rw [List.mem_singleton.mp z]; exact List.mem_cons_self
    exact (pm.map (·.2)).mem_iff.mpr hp'
theorem SN.keep {h h' : Heap} (R : SN w h a L es ep t) (ha : ∀ o, h.get? a = some o → h'.get? a = some o) (hk : ∀ p ∈ L, KeyN h' p.2 p.1) : SN w h' a L es ep t := by
  obtain ⟨o, ho, r⟩ := R.ob
  exact ⟨⟨o, ha o ho, r⟩, R.rows, R.tab, R.nd, hk, R.plain, R.led, R.room, R.few, R.mx⟩
theorem KeyN.all {h h' : Heap} {k : NestedKey} {b : Addr} (x : KeyN h k b) (hk : ∀ c o, h.get? c = some o → h'.get? c = some o) : KeyN h' k b := x.at fun c o _ _ e _ => hk c o e
theorem sn_new {h : Heap} (ho : h.get? a = some { cls := .type "set", dict := none, data := .set #[] 0 (.fresh 0 0 (!w.params.followText "set-order")) }) : SN w h a [] #[] 0 (.fresh 0 0 (!w.params.followText "set-order")) where
  ob := ⟨_, ho, ⟨rfl, rfl, rfl⟩, rfl⟩
  rows := rfl
  tab := ⟨List.Pairwise.nil, rfl, rfl, ⟨3, by decide, rfl⟩, fun x hx => (by cases hx), fun i h j hi => (by simp at hi)⟩
  nd := List.nodup_nil
  key := fun p hp => by cases hp
  plain := rfl
  led := by
    show _ ∨ (!w.params.followText "set-order") = true
    cases w.params.followText "set-order"
    · exact .inr rfl
    · exact .inl rfl
  room := show 0 * 5 < 7 * 3 by decide
  few := show 0 < 2000 by decide
  mx := show 7 ≤ 8191 by decide
/-- the loop of set.update -/
theorem fill_loop {I : Addr} {fp wr : List Addr} {G : Array GenState → Array GenState → Prop} {n : Nat} {Pv : Nat → Value → Prop} {St : Nat → Shared → Prop} {R : Result → Shared → Prop}
    (W : WalksS P w A.in1 I fp wr G n Pv St) (S : Addr) (hSf : S ∉ fp) (ks : List (Addr × NestedKey)) (hn : n = ks.length) (hfew : ks.length < 2000) (hval : ∀ i v, Pv i v → ∃ p, ks[i]? = some p ∧ v = .ref p.1)
    (h0 : Heap) (hk : ∀ p ∈ ks, KeyN h0 p.2 p.1) (hS0 : h0.get? S = none) (hw0 : ∀ b ∈ wr, h0.get? b = none) (hu : A.in1.units + 8 < cLine) :
    ∀ (k i : Nat) (s : Shared), n - i = k → i ≤ n → St i s → (∀ b o, h0.get? b = some o → s.heap.get? b = some o) → (∃ L es ep t, SN w s.heap S L es ep t ∧ GotN ks i L) →
      (∀ s' L es ep t, Moved (S :: wr) G s s' → SN w s'.heap S L es ep t → GotN ks n L → (∀ b o, h0.get? b = some o → s'.heap.get? b = some o) → R (.ok (.ret .none)) s') →
      codeAny (model P w) A (.builtin "set.update.loop" ⟨[.ref S, .ref I], []⟩) R s := by
  have hSw : S ∉ wr := fun h => hSf (W.sub _ h)
  have hsub : ∀ b ∈ wr, b ∈ S :: wr := fun b hb => List.mem_cons_of_mem _ hb
  have on : ∀ {s s' : Shared}, Moved wr G s s' → (∀ b o, h0.get? b = some o → s.heap.get? b = some o) → ∀ b o, h0.get? b = some o → s'.heap.get? b = some o := fun hm hkp b o e =>
    hm.heap b o (fun hb => by rw [hw0 b hb] at e; cases e) (hkp b o e)
  intro k
  induction k with
  | zero =>
    intro i s hk' hi hst hkp ⟨L, es, ep, t, hS, g⟩ hR
    have hin : i = n := by omega
    subst hin
    refine codeAny_builtin F.entry_set_update_loop ?_
    rw [Around.under_plainId F.plain_set_update_loop _]
    show wpAny _ A.in1 (pyNext (.ref I) >>= _) _ _ s
    refine wpAny_bind (W.done s _ _ hst fun s' hm => ?_)
    show wpAny _ A.in1 (ret Value.none) _ _ s'
    have hkp' := on hm hkp
    exact wpAny_pure (hR s' L es ep t (hm.mono hsub) (hS.keep (fun o e => hm.heap S o hSw e) fun p hp => (hk p (List.mem_of_mem_take (g.sub p hp))).all hkp') g hkp')
  | succ k ih =>
    intro i s hk' hi hst hkp ⟨L, es, ep, t, hS, g⟩ hR
    have hlt : i < n := by omega
    refine codeAny_builtin F.entry_set_update_loop ?_
    rw [Around.under_plainId F.plain_set_update_loop _]
    show wpAny _ A.in1 (pyNext (.ref I) >>= _) _ _ s
    refine wpAny_bind (W.item i s _ _ hlt hst fun v s' hP hst' hm => ?_)
    obtain ⟨p, hp, rfl⟩ := hval i v hP
    have hkp' := on hm hkp
    have hS' : SN w s'.heap S L es ep t := hS.keep (fun o e => hm.heap S o hSw e) fun q hq => (hk q (List.mem_of_mem_take (g.sub q hq))).all hkp'
    have hx : KeyN s'.heap p.2 p.1 := (hk p (List.mem_of_getElem? hp)).all hkp'
    show wpAny _ A.in1 (holding [Value.ref p.1] (setAdd S (.ref p.1)) >>= _) _ _ s'
    refine wpAny_bind (wpAny_holding ?_)
    unfold setAdd
    refine wpAny_holding ?_
    refine wpAny_bind ((nestedKind P w).pyHash (k := p.2) hu ⟨hx.is, hx.dp⟩ ?_)
    refine add_to (s := { s' with toks := s'.toks + p.2.draws }) hS' hx hu (by have := g.len; omega) fun b h' L' es' ep' t' hsb hS2 c1 c2 => ?_
    have g' : GotN ks (i + 1) L' := by
      rcases Classical.em (p.2 ∈ L.map (·.2)) with c | c
      · rw [c1 c]; exact g.same hp c
      · exact g.more hp (c2 c)
    have hkp2 : ∀ b o, h0.get? b = some o → h'.get? b = some o := fun b o e => (hsb.2 b (fun z => by rw [z, hS0] at e; cases e)).trans (hkp' b o e)
    refine wpAny_pure ⟨plainId_quiet F.plain_set_update_loop _, ih (i + 1) _ (by omega) hlt (W.frame _ s' _ _ hst' (Nat.le_add_right _ _) fun b hb o e => ?_) hkp2 ⟨L', es', ep', t', hS2, g'⟩ fun s'' L2 es2 ep2 t2 hm'' hS'' g'' hkp'' => ?_⟩
    · rw [hsb.2 b (fun h : b = S => hSf (by rw [← h]; exact hb))]; exact e
    · refine hR s'' L2 es2 ep2 t2 (Moved.trans W.gtrans ((hm.mono hsub).then_heap (Nat.le_add_right _ _) fun b o hb e => ?_) hm'') hS'' g'' hkp''
      rw [hsb.2 b (fun h : b = S => hb (by rw [h]; exact List.mem_cons_self))]; exact e
end
end Rd

namespace Rd
open PySem PySem.Spec PyProof.Rows L2
section
variable {P : Program} {w : World} {A : Around} {E : Value → Shared → Prop} {s : Shared}
abbrev newSet (w : World) : Obj := { cls := .type "set", dict := none, data := .set #[] 0 (.fresh 0 0 (!w.params.followText "set-order")) }
/-- set(a list of such tuples) -/
theorem call_setN {l : Addr} {items : Array Value} (ks : List (Addr × NestedKey)) {Q : Value → Shared → Prop} (hh : A.handled = none) (hl : s.heap.IsList l items) (hit : items.toList = ks.map fun p => Value.ref p.1)
    (hk : ∀ p ∈ ks, KeyN s.heap p.2 p.1) (hfew : ks.length < 2000) (hu : A.units + 16 < cLine)
    (h : ∀ (h' : Heap) (tk : Nat) L es ep t, SN w h' s.heap.objs.size L es ep t → GotN ks ks.length L → (∀ b o, s.heap.get? b = some o → h'.get? b = some o) → Q (.ref s.heap.objs.size) { s with heap := h', toks := tk }) :
    wpAny (model P w) A (call (.type "set") [.ref l]) Q E s := by
  have hisz : items.size = ks.length := by
    have q := congrArg List.length hit
    rw [Array.length_toList, List.length_map] at q
    exact q
  have fresh : ∀ b, s.heap.objs.size ≤ b → s.heap.get? b = none := fun b hb => by
    cases q : s.heap.get? b with
    | none => rfl
    | some o => exact absurd (Nat.lt_of_lt_of_le (Heap.lt_size q) hb) (Nat.lt_irrefl _)
  obtain ⟨c, tl, hmro⟩ := F.called_set.mro
  have hmade := F.called_set.made
  have hsub := F.called_set.sub
  refine wpAny_call (codeAny_of_tree ?_)
  show wpAny _ _ (callAny (.type "set") _) _ _ _
  refine wpAny_pure ⟨Code.quiet_builtin _ (by decide +kernel), codeAny_builtin F.entry_type_call ?_⟩
  rw [Around.under_plain (weight_type_call_type "set" [.ref l] []) rfl]
  have h1 := F.called_set.notType
  have h2 := F.called_set.canCreate
  have hct := F.typeCall_set_1 (.ref l)
  repeat (any_goals (first | assumption | wp_step))
  refine codeAny_mono (code_set_led1 (.ref l) (E := E) (Q₁ := fun obj s₁ => obj = .ref s.heap.objs.size ∧ s₁ = { s with heap := s.heap.push (newSet w) }) ⟨rfl, rfl⟩) fun r s₁ hr => ?_
  cases r with
  | error e => exact hr
  | ok fl =>
    cases fl with
    | ret obj =>
      obtain ⟨rfl, rfl⟩ := hr
      have hS : (s.heap.push (newSet w)).get? s.heap.objs.size = some (newSet w) := Heap.get?_push_size _ rfl
      have hT : Shared.TypeIs { s with heap := s.heap.push (newSet w) } (.ref s.heap.objs.size) "set" := ⟨_, hS, rfl⟩
      have hli := F.called_set.init.lookup
      have hbi := F.called_set.init.bind (.ref s.heap.objs.size)
      repeat (any_goals (first | assumption | wp_step))
      refine codeAny_mono (codeAny_call_builtin (R := wants (fun r s₂ => r = .none ∧ ∃ h' tk L es ep t, s₂ = { s with heap := h', toks := tk } ∧ SN w h' s.heap.objs.size L es ep t ∧ GotN ks ks.length L ∧
          (∀ b o, s.heap.get? b = some o → h'.get? b = some o)) E) F.called_set.init.plain F.entry_set_init (check_set_init_1 hT ?_)) fun r₂ s₂ hr₂ => ?_
      · obtain ⟨ol, hol, hcl, nl, hdl⟩ := hl
        obtain ⟨ocls, odict, odata, oslots⟩ := ol
        simp only at hcl hdl
        subst hcl; subst hdl
        have hol' : (s.heap.push (newSet w)).get? l = some { cls := .type "list", dict := odict, data := .seq items nl, slots := oslots } := Heap.get?_push_of_some _ hol
        have hsls := F.sub_list_set
        have hslf := F.sub_list_frozenset
        have hne : (Value.type "list" == Value.type "dict") = false := by decide
        have hl1 : (s.heap.push (newSet w)).IsList l items := ⟨_, hol', rfl, nl, rfl⟩
        unfold Builtin.«set.__init__» noKeywords Builtin.Frozenset.updateFrom
        generalize hPI : pyIter = PI
        wp_walk
        subst hPI
        refine wpAny_pyIter_list hl1 ?_
        refine wpAny_bind (wpAny_runValue ?_)
        have hlS : l < s.heap.objs.size := Heap.lt_size hol
        have hh3 : A.in1.in1.in1.handled = none := by simp [hh]
        have hz : (s.heap.push (newSet w)).objs.size = s.heap.objs.size + 1 := Heap.size_push ..
        have hval : ∀ (i : Nat) (v : Value), items[i]? = some v → ∃ p, ks[i]? = some p ∧ v = .ref p.1 := fun i v hv => by
          have q : items.toList[i]? = some v := by rw [Array.getElem?_toList]; exact hv
          rw [hit, List.getElem?_map] at q
          cases hq : ks[i]? with
          | none => rw [hq] at q; cases q
          | some p => rw [hq] at q; exact ⟨p, rfl, (Option.some.inj q).symm⟩
        refine fill_loop ((Walks.list hh3 _ l (by rw [hz]; exact Nat.ne_of_lt (Nat.lt_succ_of_lt hlS)) items).toS) s.heap.objs.size (by rw [hz]; simp only [List.mem_cons, List.not_mem_nil, or_false, not_or]; exact ⟨Nat.ne_of_lt (Nat.lt_succ_self _), Nat.ne_of_gt hlS⟩) ks hisz hfew hval s.heap hk (fresh _ (Nat.le_refl _)) (fun b hb => fresh b (by rw [List.mem_singleton.mp hb, hz]; exact Nat.le_succ _)) (by show A.units + 1 + 1 + 1 + 8 < cLine; omega) (items.size - 0) 0 _ (by omega) (Nat.zero_le _)
          ⟨⟨_, Heap.get?_push_size _ rfl, rfl, rfl⟩, (hl1.push _)⟩ (fun b o e => Heap.get?_push_of_some _ (Heap.get?_push_of_some _ e)) ⟨[], #[], 0, _, sn_new (Heap.get?_push_of_some _ hS), GotN.zero ks⟩ ?hR
        case hR =>
          intro s' L es ep t hm hS' g' hkp
          obtain ⟨h', g2, d', tk', os'⟩ := s'
          have eg : g2 = s.gens := hm.gens
          have ed : d' = s.drawn := hm.drawn
          have eo : os' = s.os := hm.os
          subst eg; subst ed; subst eo
          refine wpAny_pure ?_
          show wpAny _ _ (ret Value.none) _ _ _
          rw [hisz] at g'
          exact wpAny_pure ⟨rfl, h', tk', L, es, ep, t, rfl, hS', g', hkp⟩
      · cases r₂ with
        | error e => exact hr₂
        | ok fl₂ =>
          cases fl₂ with
          | ret r =>
            obtain ⟨rfl, h', tk, L, es, ep, t, rfl, hS', g', hk'⟩ := hr₂
            repeat (any_goals (first | assumption | wp_step))
            exact h _ _ _ _ _ _ hS' g' hk'
          | _ => exact hr₂.elim
    | _ => exact hr.elim
end
end Rd

namespace Rd
open PySem PySem.Spec PyProof.Rows L2
/-! ### data as keys -/
mutual
def toK : PyData → NestedKey
  | .int i => .num i
  | .tuple ds => .tup (toKs ds)
  | _ => .none
def toKs : List PyData → List NestedKey
  | [] => []
  | d :: ds => toK d :: toKs ds
end
mutual
/-- whole numbers, tuples of such, .. -/
def numD : PyData → Bool
  | .int _ => true
  | .tuple ds => numDs ds
  | _ => false
def numDs : List PyData → Bool
  | [] => true
  | d :: ds => numD d && numDs ds
end
theorem numDs_iff : ∀ {ds : List PyData}, numDs ds = true ↔ ∀ d ∈ ds, numD d = true
  | [] => by simp [numDs]
  | d :: ds => by
    unfold numDs
    rw [Bool.and_eq_true, numDs_iff]
    simp
mutual
theorem toK_inj : ∀ (x y : PyData), numD x = true → numD y = true → toK x = toK y → x = y
  | .int i, y, _, hy, e => by
    cases y with
    | int j => simp only [toK, NestedKey.num.injEq] at e; rw [e]
    | tuple ds => simp [toK] at e
    | _ => unfold numD at hy; cases hy
  | .tuple xs, y, hx, hy, e => by
    cases y with
    | int j => simp [toK] at e
    | tuple ys =>
      simp only [toK, NestedKey.tup.injEq] at e
      unfold numD at hx hy
      rw [toKs_inj xs ys hx hy e]
    | _ => unfold numD at hy; cases hy
  | .none, _, hx, _, _ => by unfold numD at hx; cases hx
  | .bool _, _, hx, _, _ => by unfold numD at hx; cases hx
  | .str _, _, hx, _, _ => by unfold numD at hx; cases hx
  | .list _, _, hx, _, _ => by unfold numD at hx; cases hx
  | .dict _, _, hx, _, _ => by unfold numD at hx; cases hx
theorem toKs_inj : ∀ (xs ys : List PyData), numDs xs = true → numDs ys = true → toKs xs = toKs ys → xs = ys
  | [], [], _, _, _ => rfl
  | [], _ :: _, _, _, e => by simp [toKs] at e
  | _ :: _, [], _, _, e => by simp [toKs] at e
  | x :: xs, y :: ys, hx, hy, e => by
    simp only [toKs, List.cons.injEq] at e
    unfold numDs at hx hy
    rw [Bool.and_eq_true] at hx hy
    rw [toK_inj x y hx.1 hy.1 e.1, toKs_inj xs ys hx.2 hy.2 e.2]
end
mutual
theorem toK_num : ∀ d : PyData, numD d = true → numK (toK d) = true
  | .int _, _ => by simp [toK, numK]
  | .tuple ds, h => by unfold numD at h; simp only [toK, numK]; exact toKs_num ds h
  | .none, h => by unfold numD at h; cases h
  | .bool _, h => by unfold numD at h; cases h
  | .str _, h => by unfold numD at h; cases h
  | .list _, h => by unfold numD at h; cases h
  | .dict _, h => by unfold numD at h; cases h
theorem toKs_num : ∀ ds : List PyData, numDs ds = true → numKs (toKs ds) = true
  | [], _ => by simp [toKs, numKs]
  | d :: ds, h => by
    unfold numDs at h
    rw [Bool.and_eq_true] at h
    simp only [toKs, numKs, toK_num d h.1, toKs_num ds h.2, Bool.and_self]
end
mutual
theorem toK_depth : ∀ d : PyData, numD d = true → (toK d).depth = d.depth
  | .int _, _ => by simp [toK, NestedKey.depth, PyData.depth]
  | .tuple ds, h => by unfold numD at h; simp only [toK, NestedKey.depth, PyData.depth]; rw [toKs_depth ds h]
  | .none, h => by unfold numD at h; cases h
  | .bool _, h => by unfold numD at h; cases h
  | .str _, h => by unfold numD at h; cases h
  | .list _, h => by unfold numD at h; cases h
  | .dict _, h => by unfold numD at h; cases h
theorem toKs_depth : ∀ ds : List PyData, numDs ds = true → NestedKey.depthAll (toKs ds) = PyData.depthAll ds
  | [], _ => by simp [toKs, NestedKey.depthAll, PyData.depthAll]
  | d :: ds, h => by
    unfold numDs at h
    rw [Bool.and_eq_true] at h
    simp only [toKs, NestedKey.depthAll, PyData.depthAll]
    rw [toK_depth d h.1, toKs_depth ds h.2]
end
mutual
theorem reads_key {h : Heap} : ∀ (d : PyData) (v : Value) (as : List Addr), Reads h v d as → numD d = true → NestedIs h (toK d) v
  | .int _, _, _, r, _ => by cases r; simp only [toK]; exact .int _ _
  | .tuple ds, _, _, r, hn => by
    unfold numD at hn
    cases r with
    | tuple h1 h2 h3 h4 => simp only [toK]; exact .tup h1 h2 h3 (readsAll_keys ds _ _ h4 hn)
  | .none, _, _, _, h => by unfold numD at h; cases h
  | .bool _, _, _, _, h => by unfold numD at h; cases h
  | .str _, _, _, _, h => by unfold numD at h; cases h
  | .list _, _, _, _, h => by unfold numD at h; cases h
  | .dict _, _, _, _, h => by unfold numD at h; cases h
theorem readsAll_keys {h : Heap} : ∀ (ds : List PyData) (vs : List Value) (as : List Addr), ReadsAll h vs ds as → numDs ds = true → NestedAll h (toKs ds) vs
  | [], _, _, r, _ => by cases r; simp only [toKs]; exact .nil
  | d :: ds, _, _, r, hn => by
    unfold numDs at hn
    rw [Bool.and_eq_true] at hn
    cases r with
    | cons a b => simp only [toKs]; exact .cons (reads_key d _ _ a hn.1) (readsAll_keys ds _ _ b hn.2)
end
/-- a tuple that may be a member -/
structure KD (d : PyData) : Prop where
  nu : numD d = true
  tu : d.isTuple = true
  dp : d.depth ≤ 8
/-! ### the set as an object -/
structure S0 (w : World) (h : Heap) (a : Addr) (L : List (Addr × NestedKey)) : Prop where
  ex : ∃ (es : Array (Int × Value)) (ep : Nat) (t : SetTable), (∃ o, h.get? a = some o ∧ o.ExactSet ∧ o.data = .set es ep t) ∧ es.toList = rowsN w L ∧ TB t (L.map fun p => p.2.hash w) ∧ (L.map (·.2)).Nodup ∧ t.plain = true ∧
    (w.params.followText "set-order" = true ∨ t.led = true) ∧ L.length * 5 < t.mask * 3 ∧ L.length < 2000 ∧ t.mask ≤ 8191
abbrev kL (L : List (Addr × PyData)) : List (Addr × NestedKey) := L.map fun p => (p.1, toK p.2)
def SetNO (w : World) (a : Addr) (L : List (Addr × PyData)) : HO := .ext fun h => S0 w h a (kL L)
theorem SN.s0 {w : World} {h : Heap} {a : Addr} {L : List (Addr × NestedKey)} {es : Array (Int × Value)} {ep : Nat} {t : SetTable} (R : SN w h a L es ep t) : S0 w h a L := ⟨es, ep, t, R.ob, R.rows, R.tab, R.nd, R.plain, R.led, R.room, R.few, R.mx⟩
theorem S0.full {w : World} {h : Heap} {a : Addr} {L : List (Addr × NestedKey)} (R : S0 w h a L) (hk : ∀ p ∈ L, KeyN h p.2 p.1) : ∃ es ep t, SN w h a L es ep t := by
  obtain ⟨es, ep, t, h1, h2, h3, h4, h5, h6, h7, h8, h9⟩ := R.ex
  exact ⟨es, ep, t, h1, h2, h3, h4, hk, h5, h6, h7, h8, h9⟩
theorem setNO_new {P : Program} {w : World} {H : Hp} {h : Heap} {a : Addr} {L : List (Addr × PyData)} (R : S0 w h a (kL L)) : ObjOk P w H h a (SetNO w a L) := by
  have ⟨es, ep, t, ⟨o, ho, r⟩, q⟩ := R.ex
  refine ⟨R, ⟨o, ho⟩, fun h1 h2 p k => ?_⟩
  have ⟨es', ep', t', ⟨o', ho', r'⟩, q'⟩ := S0.ex p
  exact ⟨es', ep', t', ⟨o', k o' ho', r'⟩, q'⟩
section
variable {X : Cx}
theorem dp_key {pins : List (Addr × Obj)} {σ : L2.St} {H : Hp} {s : Shared} {b : Addr} {d : PyData} (I : L2.Inv X pins σ H s) (h : Dp X.K H (.ref b) d) (k : KD d) : KeyN s.heap (toK d) b := by
  obtain ⟨as, r⟩ := Dp.reads I d (.ref b) (.ref b) h rfl
  exact ⟨reads_key d _ _ r k.nu, by rw [toK_depth d k.nu]; exact k.dp, toK_num d k.nu⟩
theorem dp_ref {K : Fg} {H : Hp} {v : V} {d : PyData} (h : Dp K H v d) (k : d.isTuple = true) : ∃ b, v = .ref b := by
  cases h with
  | tup s t => exact ⟨_, rfl⟩
  | _ => cases k
/-- set(xs) -/
def rSetN (K : Fg) (w : World) : List V → Hp → VK → Prop := fun xs H Q => ∃ (l : Addr) (ks : List (Addr × PyData)), xs = [V.ref l] ∧ SqL K H l (ks.map fun p => V.ref p.1) ∧ (∀ p ∈ ks, Dp K H (.ref p.1) p.2 ∧ KD p.2) ∧ ks.length < 2000 ∧
  ∀ a L, H a = none → (∀ p ∈ L, p ∈ ks) → (∀ p ∈ ks, p.2 ∈ L.map (·.2)) → (L.map (·.2)).Nodup → Q (.ref a) (upd H a (SetNO w a L))
theorem refs_val {ks : List (Addr × PyData)} {us : List Value} (h : Vals (ks.map fun p => V.ref p.1) us) : us = ks.map fun p => Value.ref p.1 := by
  induction ks generalizing us with
  | nil => cases h; rfl
  | cons p ks ih =>
    cases h with
    | cons r t => cases r; rw [ih t]; rfl
theorem val_refs (ks : List (Addr × PyData)) : Vals (ks.map fun p => V.ref p.1) (ks.map fun p => Value.ref p.1) := by
  induction ks with
  | nil => exact .nil
  | cons p ks ih => exact .cons rfl ih
theorem cr_setN (hc : X.calm = true) (hu : Un X) : CallR X (.type "set") (rSetN X.K X.w) := by
  intro pins s σ H xs us Q I r h
  obtain ⟨l, ks, rfl, hl, hk, hf, q⟩ := h
  rw [Vals.ref1 r]
  obtain ⟨its, rv, pl, hz⟩ := I.list hl
  have hn : H s.heap.objs.size = none := I.hok.fresh (Nat.le_refl _)
  have ekl : its = (kL ks).map fun p => Value.ref p.1 := by rw [refs_val rv, kL, List.map_map]; rfl
  refine call_setN (P := X.prog) (w := X.w) (kL ks) (I.ok.hd hc) pl.isList (by simpa using ekl) (fun p hp => ?_) (by rw [kL, List.length_map]; exact hf) (by unfold Un at hu; omega) fun h' tk L es ep t R g k => ?_
  · obtain ⟨p', h1, rfl⟩ := List.mem_map.mp hp
    exact dp_key I (hk p' h1).1 (hk p' h1).2
  · have hL : ∀ p ∈ L, p ∈ kL ks := fun p hp => by have := g.sub p hp; exact List.mem_of_mem_take this
    obtain ⟨M, hM, hs⟩ : ∃ M : List (Addr × PyData), L = kL M ∧ ∀ p ∈ M, p ∈ ks := by
      clear g R
      induction L with
      | nil => exact ⟨[], rfl, fun p hp => by cases hp⟩
      | cons p L ih =>
        obtain ⟨M, e, hs⟩ := ih fun q hq => hL q (List.mem_cons_of_mem _ hq)
        obtain ⟨p', h1, h2⟩ := List.mem_map.mp (hL p List.mem_cons_self)
        refine ⟨p' :: M, by rw [e, kL, kL, List.map_cons, h2], fun q hq => ?_⟩
        rcases List.mem_cons.mp hq with z | z
        · rw [z]; exact h1
        · exact hs q z
    subst hM
    refine ⟨.ref s.heap.objs.size, upd H s.heap.objs.size (SetNO X.w s.heap.objs.size M), I.laid (t' := tk) k (Nat.le_refl _) (setNO_new R.s0), rfl, q _ M hn hs (fun p hp => ?_) ?_⟩
    · have := g.all (p.1, toK p.2) (by rw [List.take_length]; exact List.mem_map.mpr ⟨p, hp, rfl⟩)
      rw [kL, List.map_map] at this
      obtain ⟨p', h1, h2⟩ := List.mem_map.mp this
      have e : p'.2 = p.2 := toK_inj _ _ (hk p' (hs p' h1)).2.nu (hk p hp).2.nu h2
      exact List.mem_map.mpr ⟨p', h1, e⟩
    · have nd := R.nd
      rw [kL, List.map_map] at nd
      exact L2.nodup_of_map (f := toK) (by rw [List.map_map]; exact nd)
end
end Rd

namespace Rd
open PySem PySem.Spec PyProof.Rows L2
/-! ### the order of data -/
abbrev dLe : PyData → PyData → Bool := PySem.W.dataLe false id
theorem dLe_trans (a b c : PyData) (h1 : dLe a b = true) (h2 : dLe b c = true) : dLe a c = true := (PySem.W.sortLe_total _ false _).trans a b c h1 h2
theorem dLe_total (a b : PyData) : (dLe a b || dLe b a) = true := by
  rw [Bool.or_eq_true]
  exact (PySem.W.sortLe_total _ false _).total a b
open PySem.W in
mutual
theorem toks_inj : ∀ (x y : PyData) (l m : List (Int ⊕ List Nat)), numD x = true → numD y = true → alike x y = true → keyToks x ++ l = keyToks y ++ m → x = y ∧ l = m
  | .int i, y, l, m, _, hy, ha, e => by
    cases y with
    | int j => simp only [keyToks, List.singleton_append, List.cons.injEq, Sum.inl.injEq] at e; exact ⟨by rw [e.1], e.2⟩
    | tuple ds => simp [alike] at ha
    | _ => unfold numD at hy; cases hy
  | .tuple xs, y, l, m, hx, hy, ha, e => by
    cases y with
    | int j => simp [alike] at ha
    | tuple ys =>
      simp only [keyToks] at e
      unfold numD at hx hy
      unfold alike at ha
      obtain ⟨h1, h2⟩ := toksAll_inj xs ys l m hx hy ha e
      exact ⟨by rw [h1], h2⟩
    | _ => unfold numD at hy; cases hy
  | .none, _, _, _, hx, _, _, _ => by unfold numD at hx; cases hx
  | .bool _, _, _, _, hx, _, _, _ => by unfold numD at hx; cases hx
  | .str _, _, _, _, hx, _, _, _ => by unfold numD at hx; cases hx
  | .list _, _, _, _, hx, _, _, _ => by unfold numD at hx; cases hx
  | .dict _, _, _, _, hx, _, _, _ => by unfold numD at hx; cases hx
theorem toksAll_inj : ∀ (xs ys : List PyData) (l m : List (Int ⊕ List Nat)), numDs xs = true → numDs ys = true → alikeAll xs ys = true → keyToksAll xs ++ l = keyToksAll ys ++ m → xs = ys ∧ l = m
  | [], [], l, m, _, _, _, e => by simp only [keyToksAll, List.singleton_append, List.cons.injEq, true_and] at e; exact ⟨rfl, e⟩
  | [], _ :: _, l, m, _, _, _, e => by simp [keyToksAll] at e
  | _ :: _, [], l, m, _, _, _, e => by simp [keyToksAll] at e
  | x :: xs, y :: ys, l, m, hx, hy, ha, e => by
    simp only [keyToksAll, List.cons_append, List.append_assoc, List.cons.injEq, true_and] at e
    unfold numDs at hx hy
    rw [Bool.and_eq_true] at hx hy
    obtain ⟨a1, a2⟩ := alike_all_cons ha
    obtain ⟨e1, e2⟩ := toks_inj x y _ _ hx.1 hy.1 a1 e
    obtain ⟨e3, e4⟩ := toksAll_inj xs ys l m hx.2 hy.2 a2 e2
    exact ⟨by rw [e1, e3], e4⟩
end
theorem dLe_anti {x y : PyData} (hx : numD x = true) (hy : numD y = true) (ha : PySem.W.alike x y = true) (h1 : dLe x y = true) (h2 : dLe y x = true) : x = y := by
  have h1' : (!PyProof.Rows.lexLt PyProof.Rows.itemOrd (PySem.W.keyToks y) (PySem.W.keyToks x)) = true := h1
  have h2' : (!PyProof.Rows.lexLt PyProof.Rows.itemOrd (PySem.W.keyToks x) (PySem.W.keyToks y)) = true := h2
  have e := (PyProof.Rows.listOrd PyProof.Rows.itemOrd).total (PySem.W.keyToks x) (PySem.W.keyToks y) (by simpa using h2') (by simpa using h1')
  exact (toks_inj x y [] [] hx hy ha (by rw [e])).1
open Classical in
/-- each once -/
noncomputable def once : List PyData → List PyData
  | [] => []
  | d :: ds => if d ∈ once ds then once ds else d :: once ds
theorem mem_once {x : PyData} : ∀ {ds : List PyData}, x ∈ once ds ↔ x ∈ ds
  | [] => by simp [once]
  | d :: ds => by
    have ih := mem_once (x := x) (ds := ds)
    unfold once
    split
    · rename_i h
      rw [ih, List.mem_cons]
      constructor
      · exact fun z => .inr z
      · rintro (z | z)
        · rw [z]; exact mem_once.mp h
        · exact z
    · rw [List.mem_cons, List.mem_cons, ih]
theorem nodup_once : ∀ (ds : List PyData), (once ds).Nodup
  | [] => List.nodup_nil
  | d :: ds => by
    unfold once
    split
    · exact nodup_once ds
    · rename_i h
      exact List.nodup_cons.mpr ⟨h, nodup_once ds⟩
/-- what sorted(set(ds)) is -/
noncomputable def sortSet (ds : List PyData) : List PyData := (once ds).mergeSort dLe
theorem mem_sortSet {x : PyData} {ds : List PyData} : x ∈ sortSet ds ↔ x ∈ ds := by
  unfold sortSet
  rw [(List.mergeSort_perm _ _).mem_iff, mem_once]
theorem nodup_sortSet (ds : List PyData) : (sortSet ds).Nodup := (List.mergeSort_perm _ _).nodup_iff.mpr (nodup_once ds)
theorem sort_one {l : List PyData} {ds : List PyData} (hn : ∀ d ∈ ds, numD d = true) (ha : PySem.W.AllAlike ds) (h1 : l.Nodup) (h2 : ∀ x, x ∈ l ↔ x ∈ ds) : l.mergeSort dLe = sortSet ds := by
  unfold sortSet
  have p : l.Perm (once ds) := (List.perm_ext_iff_of_nodup h1 (nodup_once ds)).mpr fun x => by rw [h2, mem_once]
  refine List.Perm.eq_of_pairwise (le := fun a b => dLe a b = true) (fun a b ha' hb hab hba => ?_) (List.pairwise_mergeSort dLe_trans dLe_total _) (List.pairwise_mergeSort dLe_trans dLe_total _) (((List.mergeSort_perm l dLe).trans p).trans (List.mergeSort_perm _ dLe).symm)
  have m1 : a ∈ ds := (h2 a).mp ((List.mergeSort_perm _ _).mem_iff.mp ha')
  have m2 : b ∈ ds := mem_once.mp ((List.mergeSort_perm _ _).mem_iff.mp hb)
  exact dLe_anti (hn a m1) (hn b m2) (ha a m1 b m2) hab hba
theorem sortSet_congr {ds es : List PyData} (hn : ∀ d ∈ es, numD d = true) (ha : PySem.W.AllAlike es) (h : ∀ x, x ∈ ds ↔ x ∈ es) : sortSet ds = sortSet es :=
  sort_one hn ha (nodup_once ds) fun x => by rw [mem_once]; exact h x
/-! ### a list of one, and none, sorted -/
section
variable {P : Program} {w : World} {A : Around} {s : Shared} {E : Value → Shared → Prop}
open PySem.W in
theorem sorts_few {vs : List Value} {ds : List PyData} (e : EachIs (fun v d => ∃ as, Reads s.heap v d as) vs ds) (hal : AllAlike ds) (hnn : ∀ d ∈ ds, d ≠ .none) (h1 : ds.length ≤ 1) (hu : ∀ d, d ∈ ds → A.units + d.depth < cLine) : SortsAt P w A s (dataKind s.heap ds) vs := by
  refine ⟨fun v hv => ?_, general', ?_, fun h2 => absurd h2 (by rw [e.length]; omega)⟩
  · obtain ⟨d, hd, as, r⟩ := e.left v hv
    exact ⟨_, dataKind_some hal hd r⟩
  · intro E x y a b Q ha hb hq
    obtain ⟨d, as, hd, ra, rfl⟩ := dataKind_inv ha
    obtain ⟨d', as', hd', rb, rfl⟩ := dataKind_inv hb
    show wpAny (model P w) A (oneLt' false x y) Q E s
    exact oneLt_alike (fun z => nomatch z) ra rb (hal d hd d' hd') (hnn d hd) (by have := hu d hd; omega) hq
end
end Rd

namespace Rd
open PySem PySem.Spec PyProof.Rows L2
mutual
theorem num_reads {h h' : Heap} (hk : ∀ b o, h.get? b = some o → h'.get? b = some o) : ∀ (d : PyData) (v : Value) (as : List Addr), Reads h v d as → numD d = true → Reads h' v d [] ∧ as = []
  | .int _, _, _, r, _ => by cases r; exact ⟨.int _ _, rfl⟩
  | .tuple ds, _, _, r, hn => by
    unfold numD at hn
    cases r with
    | tuple h1 h2 h3 h4 =>
      obtain ⟨q1, q2⟩ := num_readsAll hk ds _ _ h4 hn
      exact ⟨.tuple (hk _ _ h1) h2 h3 q1, q2⟩
  | .none, _, _, _, h => by unfold numD at h; cases h
  | .bool _, _, _, _, h => by unfold numD at h; cases h
  | .str _, _, _, _, h => by unfold numD at h; cases h
  | .list _, _, _, _, h => by unfold numD at h; cases h
  | .dict _, _, _, _, h => by unfold numD at h; cases h
theorem num_readsAll {h h' : Heap} (hk : ∀ b o, h.get? b = some o → h'.get? b = some o) : ∀ (ds : List PyData) (vs : List Value) (as : List Addr), ReadsAll h vs ds as → numDs ds = true → ReadsAll h' vs ds [] ∧ as = []
  | [], _, _, r, _ => by cases r; exact ⟨.nil, rfl⟩
  | d :: ds, _, _, r, hn => by
    unfold numDs at hn
    rw [Bool.and_eq_true] at hn
    cases r with
    | cons a b =>
      obtain ⟨q1, q2⟩ := num_reads hk d _ _ a hn.1
      obtain ⟨q3, q4⟩ := num_readsAll hk ds _ _ b hn.2
      subst q2
      subst q4
      exact ⟨.cons q1 q3, rfl⟩
end
section
variable {P : Program} {w : World} {A : Around} {s : Shared} {E : Value → Shared → Prop}
open PySem.W in
/-- xs.sort() of data: all tuples with an item at least, or one item at most -/
theorem sort_call {β : Type} {R : Value → β → Prop} {enc : β → PyData} {vs : List Value} {bs : List β} {a : Addr} {n : Nat} {Q : Value → Shared → Prop} (ho : s.heap.get? a = some (seqObj "list" vs.toArray n)) (e : EachIs R vs bs) (er : EachIs (fun v b => ∃ as, Reads s.heap v (enc b) as ∧ a ∉ as) vs bs) (hal : AllAlike (bs.map enc)) (hnn : ∀ d ∈ bs.map enc, d ≠ .none) (hk : Sortable (bs.map enc) ∨ bs.length ≤ 1) (hL : bs.length ≤ sizeLine)
    (hu : ∀ b, b ∈ bs → A.units + 1 + (enc b).depth < cLine) (h : ∀ out, out.length = bs.length → EachIs R out (bs.mergeSort (dataLe false enc)) → Q .none { s with heap := sortedHeap s.heap a vs (List.toArray out) }) :
    wpAny (model P w) A (call (.builtin "list.sort") [.ref a]) Q E s := by
  rcases hk with hk | hk
  · exact list_sort_data ho e er hal hk hL hu h
  · have er' : EachIs (fun v b => ∃ as, Reads (sortingHeap s.heap a vs) v (enc b) as) vs bs := each_keepBut (h' := sortingHeap s.heap a vs) (fun _ _ hb q => sortingHeap_old hb q) (fun o q => by rw [ho] at q; rw [← Option.some.inj q]) hal er
    refine wpAny_call_entry slot_list_sort ⟨_, ho, rfl⟩ entry_list_sort (list_sort_vals (κ := dataKind (sortingHeap s.heap a vs) (bs.map enc)) ho (sorts_few (s := { s with heap := sortingHeap s.heap a vs }) (each_map (R := fun v d => ∃ as, Reads (sortingHeap s.heap a vs) v d as) enc er') hal hnn (by rw [List.length_map]; exact hk) (bound_map hu)) (by rw [e.length]; exact hL) ⟨.none, rfl, ?_⟩) (args_list_sort _)
    exact h _ (by rw [sortVals_length false rfl]; exact e.length) (sortVals_data false e er' hal)
open PySem.W in
/-- sorted(a set) -/
theorem sorted_setN {a : Addr} {L : List (Addr × PyData)} {es : Array (Int × Value)} {ep : Nat} {t : SetTable} {Q : Value → Shared → Prop} (R : SN w s.heap a (kL L) es ep t) (hh : A.handled = none)
    (hr : ∀ p ∈ L, (∃ as, Reads s.heap (.ref p.1) p.2 as) ∧ KD p.2) (hal : AllAlike (L.map (·.2))) (hk : Sortable (L.map (·.2)) ∨ L.length ≤ 1) (hu : A.units + 32 < cLine)
    (hQ : ∀ s' p (out : Array Value) (c : Nat) (L' : List (Addr × PyData)), (∀ b o, s.heap.get? b = some o → s'.heap.get? b = some o) → s'.gens = s.gens → s'.os = s.os → s.heap.objs.size ≤ p →
      s'.heap.get? p = some (seqObj "list" out c) → out.toList = L'.map (fun q => Value.ref q.1) → (∀ q ∈ L', q ∈ L) → L'.map (·.2) = (L.map (·.2)).mergeSort dLe → Q (.ref p) s') :
    wpAny (model P w) A (call (.builtin "sorted") [.ref a]) Q E s := by
  obtain ⟨o, ho, hex, hd⟩ := R.ob
  have hsz := R.size
  have hfew := R.few
  refine Calls.call_function_entry kind_sorted plain_sorted entry_sorted (args_sorted1 _) ?_
  unfold Builtin.«sorted»
  refine wpAny_bind (m := checkCount "sorted" 1 1 _) (wpAny_pure ?_)
  refine wpAny_bind (collect_set (A := A.in1) hh ⟨o, ho, hex.1, hd⟩ R.fits (by unfold scanBound; omega) R.tab.ris R.led fun s1 vs k1 hz g1 o1 pm => ?_)
  have hes : es.toList.map (·.2) = L.map fun q => Value.ref q.1 := by
    rw [R.rows]
    unfold rowsN
    rw [kL, List.map_map, List.map_map]; rfl
  rw [hes] at pm
  -- an address has one datum
  have one : ∀ q ∈ L, ∀ r ∈ L, q.1 = r.1 → q = r := fun q hq r hr' e => by
    have a1 := R.key (q.1, toK q.2) (List.mem_map.mpr ⟨q, hq, rfl⟩)
    have a2 := R.key (r.1, toK r.2) (List.mem_map.mpr ⟨r, hr', rfl⟩)
    have a1' : KeyN s.heap (toK q.2) r.1 := by rw [← e]; exact a1
    exact Prod.ext e (toK_inj _ _ (hr q hq).2.nu (hr r hr').2.nu (a1'.inj a2))
  -- the values, with their data
  obtain ⟨M, eM, pM⟩ : ∃ M : List (Addr × PyData), vs = M.map (fun q => Value.ref q.1) ∧ M.Perm L := by
    have key : ∀ (vs : List Value), (∀ v ∈ vs, v ∈ L.map fun q => Value.ref q.1) → ∃ M : List (Addr × PyData), vs = M.map (fun q => Value.ref q.1) ∧ ∀ q ∈ M, q ∈ L := by
      intro vs
      induction vs with
      | nil => intro _; exact ⟨[], rfl, fun q hq => by cases hq⟩
      | cons v vs ih =>
        intro hv
        obtain ⟨q, hq, e⟩ := List.mem_map.mp (hv v List.mem_cons_self)
        obtain ⟨M, e1, hs⟩ := ih fun u hu => hv u (List.mem_cons_of_mem _ hu)
        refine ⟨q :: M, by rw [List.map_cons, e, e1], fun r hr => ?_⟩
        rcases List.mem_cons.mp hr with z | z
        · rw [z]; exact hq
        · exact hs r z
    obtain ⟨M, eM, hs⟩ := key vs fun v hv => pm.mem_iff.mp hv
    refine ⟨M, eM, ?_⟩
    have ndk := R.nd
    rw [kL, List.map_map] at ndk
    have nL : L.Nodup := L2.nodup_of_map ndk
    have nref : (L.map fun q => Value.ref q.1).Nodup := by
      refine List.pairwise_map.mpr (List.Pairwise.imp_of_mem (fun {q r} hq hr' hne e => ?_) nL)
      injection e with e
      exact hne (one q hq r hr' e)
    rw [eM] at pm
    have nM : M.Nodup := L2.nodup_of_map (pm.nodup_iff.mpr nref)
    refine (List.perm_ext_iff_of_nodup nM nL).mpr fun q => ⟨hs q, fun hq => ?_⟩
    have hm : Value.ref q.1 ∈ M.map (fun q => Value.ref q.1) := pm.mem_iff.mpr (List.mem_map.mpr ⟨q, hq, rfl⟩)
    obtain ⟨r, hr', e⟩ := List.mem_map.mp hm
    injection e with e
    rw [← one r (hs r hr') q hq e]; exact hr'
  have hMl : M.length = L.length := pM.length_eq
  have hLl : L.length < 2000 := by rw [kL, List.length_map] at hfew; exact hfew
  have hvl : vs.length = M.length := by rw [eM, List.length_map]
  refine wpAny_bind (wpAny_newList ?_ (by rw [sizeLine_eq]; omega))
  have hoL : (s1.heap.push (seqObj "list" vs.toArray 0)).get? s1.heap.objs.size = some (seqObj "list" vs.toArray 0) := Heap.get?_push_size _ rfl
  have eR : ∀ N : List (Addr × PyData), EachIs (fun (v : Value) (b : Addr × PyData) => v = .ref b.1) (N.map fun q => Value.ref q.1) N := by
    intro N
    induction N with
    | nil => exact .nil
    | cons q N ih => exact .cons rfl ih
  have fromR : ∀ {out : List Value} {N : List (Addr × PyData)}, EachIs (fun (v : Value) (b : Addr × PyData) => v = .ref b.1) out N → out = N.map fun q => Value.ref q.1 := by
    intro out N h
    induction h with
    | nil => rfl
    | cons h t ih => rw [List.map_cons, h, ih]
  have rdM : EachIs (fun v (b : Addr × PyData) => ∃ as, Reads (s1.heap.push (seqObj "list" vs.toArray 0)) v b.2 as ∧ s1.heap.objs.size ∉ as) vs M := by
    have key : ∀ N : List (Addr × PyData), (∀ q ∈ N, q ∈ L) → EachIs (fun v (b : Addr × PyData) => ∃ as, Reads (s1.heap.push (seqObj "list" vs.toArray 0)) v b.2 as ∧ s1.heap.objs.size ∉ as) (N.map fun q => Value.ref q.1) N := by
      intro N
      induction N with
      | nil => intro _; exact .nil
      | cons q N ih =>
        intro hN
        refine .cons ?_ (ih fun r hr' => hN r (List.mem_cons_of_mem _ hr'))
        obtain ⟨⟨as, r⟩, _⟩ := hr q (hN q List.mem_cons_self)
        obtain ⟨r', _⟩ := num_reads (h' := s1.heap.push (seqObj "list" vs.toArray 0)) (fun b o hb => Heap.get?_push_of_some _ (k1 b o hb)) _ _ _ r (hr q (hN q List.mem_cons_self)).2.nu
        exact ⟨[], r', fun hm => by cases hm⟩
    rw [eM]
    rw [eM] at key
    exact key M fun q hq => pM.mem_iff.mp hq
  have hal' : AllAlike (M.map (·.2)) := fun d hd' d' hd'' => hal d ((pM.map (·.2)).mem_iff.mp hd') d' ((pM.map (·.2)).mem_iff.mp hd'')
  refine wpAny_bind (wpAny_holding (sort_call (s := { s1 with heap := s1.heap.push (seqObj "list" vs.toArray 0) }) (R := fun (v : Value) (b : Addr × PyData) => v = .ref b.1) (enc := fun b : Addr × PyData => b.2) (bs := M) hoL (by rw [eM]; exact eR M) rdM hal' (fun d hd' => ?_) ?_ (by rw [sizeLine_eq]; omega) (fun b hb => ?_) fun out hol he => ?_))
  · obtain ⟨q, hq, rfl⟩ := List.mem_map.mp hd'
    intro z
    have := (hr q (pM.mem_iff.mp hq)).2.tu
    rw [z] at this; cases this
  · rcases hk with hk | hk
    · refine .inl ?_
      rcases hk with hk | hk
      · exact .inl fun d hd' => hk d ((pM.map (·.2)).mem_iff.mp hd')
      · exact .inr fun d hd' => hk d ((pM.map (·.2)).mem_iff.mp hd')
    · exact .inr (by omega)
  · have := (hr b (pM.mem_iff.mp hb)).2.dp
    show A.units + 1 + 1 + b.2.depth < cLine
    omega
  · obtain ⟨c, hc⟩ := sortedHeap_at (vs := vs) (out := out.toArray) hoL
    have e2 := fromR he
    refine wpAny_pure ⟨_, rfl, hQ _ s1.heap.objs.size out.toArray c (M.mergeSort (dataLe false fun b => b.2)) (fun b u e => ?_) g1 o1 hz hc (by simpa using e2) (fun q hq => pM.mem_iff.mp ((List.mergeSort_perm _ _).mem_iff.mp hq)) ?_⟩
    · have q := k1 b u e
      have hlt := Heap.lt_size q
      show (sortedHeap (s1.heap.push (seqObj "list" vs.toArray 0)) s1.heap.objs.size vs out.toArray).get? b = some u
      rw [sortedHeap_old (Nat.ne_of_lt hlt) (by rw [size_push']; exact Nat.lt_succ_of_lt hlt)]
      exact Heap.get?_push_of_some _ q
    · -- both are sorted, of the same data
      have nd2 : ∀ q ∈ L, numD q.2 = true := fun q hq => (hr q hq).2.nu
      refine List.Perm.eq_of_pairwise (le := fun a b => dLe a b = true) (fun x y hx hy hxy hyx => ?_) ?_ (List.pairwise_mergeSort dLe_trans dLe_total _) ?_
      · obtain ⟨q, hq, rfl⟩ := List.mem_map.mp hx
        have hq' := pM.mem_iff.mp ((List.mergeSort_perm _ _).mem_iff.mp hq)
        have hy' := (List.mergeSort_perm _ _).mem_iff.mp hy
        obtain ⟨r, hr', rfl⟩ := List.mem_map.mp hy'
        exact dLe_anti (nd2 q hq') (nd2 r hr') (hal _ (List.mem_map.mpr ⟨q, hq', rfl⟩) _ hy') hxy hyx
      · rw [List.pairwise_map]
        have tot := sortLe_total (listOrd itemOrd) false (fun b : Addr × PyData => keyToks b.2)
        exact List.pairwise_mergeSort (fun a b c h1 h2 => tot.trans a b c h1 h2) (fun a b => by rw [Bool.or_eq_true]; exact tot.total a b) M
      · exact ((List.mergeSort_perm M _).map (·.2)).trans ((pM.map (·.2)).trans (List.mergeSort_perm _ _).symm)
end
end Rd

namespace Rd
open PySem PySem.Spec PyProof.Rows L2
section
variable {X : Cx}
def rSortedN (K : Fg) (w : World) : List V → Hp → VK → Prop := fun vs H Q => ∃ (a : Addr) (L : List (Addr × PyData)), vs = [V.ref a] ∧ H a = some (SetNO w a L) ∧ (∀ p ∈ L, Dp K H (.ref p.1) p.2 ∧ KD p.2) ∧ PySem.W.AllAlike (L.map (·.2)) ∧ (PySem.W.Sortable (L.map (·.2)) ∨ L.length ≤ 1) ∧
  ∀ (L' : List (Addr × PyData)) (p : Addr), (∀ q ∈ L', q ∈ L) → L'.map (·.2) = (L.map (·.2)).mergeSort dLe → H p = none → Q (.ref p) (upd H p (.lst (L'.map fun q => V.ref q.1)))
theorem cr_sortedN (hc : X.calm = true) (hu : Un X) : CallR X (.builtin "sorted") (rSortedN X.K X.w) := by
  intro pins s σ H vs us Q I r h
  obtain ⟨a, L, rfl, ha, hk, hal, hso, q⟩ := h
  have R0 : S0 X.w s.heap a (kL L) := (I.hok a _ ha).1
  obtain ⟨es, ep, t, R⟩ := R0.full fun p hp => by
    obtain ⟨p', h1, rfl⟩ := List.mem_map.mp hp
    exact dp_key I (hk p' h1).1 (hk p' h1).2
  rw [Vals.ref1 r]
  refine sorted_setN R (I.ok.hd hc) (fun p hp => ⟨Dp.reads I p.2 (.ref p.1) (.ref p.1) (hk p hp).1 rfl, (hk p hp).2⟩) hal hso (by unfold Un at hu; omega) fun s' p out c L' k g o hp hg hout hin hso' => ?_
  have hfew : L'.length < 2000 := by
    have h1 := congrArg List.length hso'
    rw [List.length_map, List.length_mergeSort, List.length_map] at h1
    have h2 := R.few
    rw [kL, List.length_map] at h2
    omega
  have hlen : (L'.map fun q => V.ref q.1).length ≤ sizeLine := by rw [List.length_map, sizeLine_eq]; omega
  have hn : H p = none := I.hok.fresh hp
  have hv : Vals (L'.map fun q => V.ref q.1) out.toList := by rw [hout]; exact val_refs L'
  have J : L2.Inv X pins σ (upd H p (.lst (L'.map fun q => V.ref q.1))) { s with heap := s'.heap, gens := s'.gens, drawn := s'.drawn, toks := s'.toks } :=
    I.call (ch := []) (L2.Un.laid k hp hn) (I.hok.laid k hp ⟨hlen, out.toList, c, hv, hg⟩) (by rw [g]; exact I.bare) (fun _ z => nomatch z)
  have e : s' = { s with heap := s'.heap, gens := s'.gens, drawn := s'.drawn, toks := s'.toks } := by
    cases s'
    cases s
    cases o
    rfl
  rw [e]
  exact ⟨.ref p, _, J, rfl, q L' p hin hso' hn⟩
/-- the places and their data -/
theorem dml_pairs {A : List Addr} {K : Fg} {H : Hp} : ∀ {xs : List V} {ds : List PyData}, DmL A K H xs ds → (∀ d ∈ ds, d.isTuple = true) → ∃ ks : List (Addr × PyData), xs = ks.map (fun p => V.ref p.1) ∧ ds = ks.map (·.2) ∧ ∀ p ∈ ks, Dm A K H (.ref p.1) p.2
  | [], _, h, _ => by cases h; exact ⟨[], rfl, rfl, fun p hp => by cases hp⟩
  | x :: xs, _, h, ht => by
    cases h with
    | @cons _ _ d ds a b =>
      obtain ⟨ks, e1, e2, e3⟩ := dml_pairs b fun d hd => ht d (List.mem_cons_of_mem _ hd)
      obtain ⟨c, rfl⟩ := dp_ref (a.dp _ _) (ht d List.mem_cons_self)
      refine ⟨(c, d) :: ks, by rw [List.map_cons, e1], by rw [List.map_cons, e2], fun p hp => ?_⟩
      rcases List.mem_cons.mp hp with z | z
      · rw [z]; exact a
      · exact e3 p z
theorem pairs_dml {A : List Addr} {K : Fg} {H : Hp} : ∀ {ks : List (Addr × PyData)}, (∀ p ∈ ks, Dm A K H (.ref p.1) p.2) → DmL A K H (ks.map fun p => V.ref p.1) (ks.map (·.2))
  | [], _ => .nil
  | p :: ks, h => .cons (h p List.mem_cons_self) (pairs_dml fun q hq => h q (List.mem_cons_of_mem _ hq))
/-- sorted(set(e)) -/
theorem er_sortSet {e : Expr} {G : Gm} {ra : Sl} {ds : List PyData} {p1 p2 p3 p4 : Pos} (hc : X.calm = true) (hu : Un X) (bs : Bt X "set" (.type "set")) (bt : Bt X "sorted" (.builtin "sorted")) (he : ER X e G ra) (v : Lv G ra ds) (hk : ∀ d ∈ ds, KD d) (ha : PySem.W.AllAlike ds)
    (hso : (∀ d ∈ ds, ∃ x r, d = .tuple (x :: r)) ∨ (∀ d ∈ ds, ∀ d' ∈ ds, d = d')) (hl : ds.length < 2000)
    (he1 : starEach [e] X.env = (false, eval e X.env) :: starEach [] X.env := by rfl) (hpl1 : (backTo p2 (starEach [] X.env)).any (·.1) = false := by rfl)
    (he2 : starEach [.Call (.Name "set" p1) [e] [] p2] X.env = (false, eval (.Call (.Name "set" p1) [e] [] p2) X.env) :: starEach [] X.env := by rfl) (hpl2 : (backTo p4 (starEach [] X.env)).any (·.1) = false := by rfl) :
    ER X (.Call (.Name "sorted" p3) [.Call (.Name "set" p1) [e] [] p2] [] p4) G (.f (sortSet ds)) := fun σ H hs => by
  refine wE_of (pe_callB (cr_sortedN hc hu) bt.g bt.m bt.v (pa_cons (pe_callTy (cr_setN hc hu) bs.g bs.m bs.v (pa_cons pE pa_nil he1) bs.n bs.d he1 hpl1) pa_nil he2) bt.n bt.d he2 hpl2) ?_
  refine wE_mono (he σ H hs) fun x H1 q => ?_
  obtain ⟨l, xs, rfl, h1, h2⟩ := v.ok (hs.ext q.1) q.2.1
  obtain ⟨ks, rfl, rfl, h3⟩ := dml_pairs h2 fun d hd => (hk d hd).tu
  refine ⟨l, ks, rfl, h1, fun p hp => ⟨(h3 p hp).dp _ _, hk p.2 (List.mem_map.mpr ⟨p, hp, rfl⟩)⟩, by simpa using hl, fun a L ha0 hsub hall hnd => ?_⟩
  have e1 := ExB.new (A := []) (o := SetNO X.w a L) ha0
  have h4 : ∀ p ∈ L, Dm G.av X.K (upd H1 a (SetNO X.w a L)) (.ref p.1) p.2 := fun p hp => (h3 p (hsub p hp)).mono e1.all
  have mem : ∀ x, x ∈ L.map (·.2) ↔ x ∈ ks.map (·.2) := fun x => by
    constructor
    · intro hx
      obtain ⟨p, hp, rfl⟩ := List.mem_map.mp hx
      exact List.mem_map.mpr ⟨p, hsub p hp, rfl⟩
    · intro hx
      obtain ⟨p, hp, rfl⟩ := List.mem_map.mp hx
      exact hall p hp
  have es : (L.map (·.2)).mergeSort dLe = sortSet (ks.map (·.2)) := sort_one (fun d hd => (hk d hd).nu) ha hnd mem
  refine ⟨a, L, rfl, upd_same, fun p hp => ⟨(h4 p hp).dp _ _, hk p.2 ((mem _).mp (List.mem_map.mpr ⟨p, hp, rfl⟩))⟩, fun d hd d' hd' => ha d ((mem d).mp hd) d' ((mem d').mp hd'), ?_, fun L' p hin hso' hp => ?_⟩
  · rcases hso with hso | hso
    · exact .inl (.inl fun d hd => hso d ((mem d).mp hd))
    · refine .inr ?_
      cases hL : L with
      | nil => exact Nat.zero_le _
      | cons x L1 =>
        cases hL1 : L1 with
        | nil => exact Nat.le_refl _
        | cons y r =>
          exfalso
          rw [hL, hL1, List.map_cons, List.map_cons] at hnd
          have hx : x.2 ∈ L.map (·.2) := List.mem_map.mpr ⟨x, by rw [hL]; exact List.mem_cons_self, rfl⟩
          have hy : y.2 ∈ L.map (·.2) := List.mem_map.mpr ⟨y, by rw [hL, hL1]; exact List.mem_cons_of_mem _ List.mem_cons_self, rfl⟩
          have := hso x.2 ((mem _).mp hx) y.2 ((mem _).mp hy)
          rw [this] at hnd
          exact (List.nodup_cons.mp hnd).1 List.mem_cons_self
  · rw [← es, ← hso']
    exact PR.f hs.hh (q.1.trans e1) hp (pairs_dml fun p hp => h4 p (hin p hp))
end
end Rd

namespace Rd
open PySem PySem.Spec PyProof.Rows L2
/-! ### steps -/
abbrev Bo := List Int × List Int
abbrev Ply := List (Int × Int)
def isDie (d : Int) : Bool := decide (1 ≤ d) && decide (d ≤ 6)
theorem die_in {d : Int} (h : isDie d = true) : 1 ≤ d ∧ d ≤ 6 := by
  simpa [isDie] using h
def furth (l : List Int) : Int := maxI ((rng 0 26).filter fun p => decide (0 < at0 l p) || decide (p = 0))
/-- whether a man can go on -/
def canGo (b : Bo) (p d : Int) : Bool :=
  if (!(decide (1 ≤ p) && decide (p ≤ 25)) || (decide (at0 b.1 p = 0) || (decide (0 < at0 b.1 25) && !decide (p = 25)))) = true then false
  else if decide (1 ≤ p - d) = true then decide (at0 b.2 (25 - (p - d)) < 2) else (decide (furth b.1 ≤ 6) && (decide (p - d = 0) || decide (furth b.1 = p)))
/-- the board behind a step -/
def goneB (b : Bo) (p d : Int) : Bo :=
  let to := max 0 (p - d)
  let m1 := set0 b.1 p (at0 b.1 p - 1)
  let m2 := set0 m1 to (at0 m1 to + 1)
  if (!decide (to = 0) && decide (at0 b.2 (25 - to) = 1)) = true then (m2, set0 (set0 b.2 (25 - to) 0) 25 (at0 (set0 b.2 (25 - to) 0) 25 + 1)) else (m2, b.2)
theorem canGo_in {b : Bo} {p d : Int} (h : canGo b p d = true) : 1 ≤ p ∧ p ≤ 25 := by
  unfold canGo at h
  split at h
  · cases h
  · rename_i q
    by_cases h1 : 1 ≤ p <;> by_cases h2 : p ≤ 25 <;> simp [h1, h2] at q ⊢
theorem canGo_man {b : Bo} {p d : Int} (h : canGo b p d = true) : at0 b.1 p ≠ 0 := by
  unfold canGo at h
  split at h
  · cases h
  · rename_i q
    intro z
    apply q
    simp [z]
/-- two sides of whole length, no place below none -/
structure Bd (b : Bo) : Prop where
  l1 : b.1.length = 26
  l2 : b.2.length = 26
  n1 : NN b.1
  n2 : NN b.2
theorem IsB.bd {b : Bo} (h : IsB b) : Bd b := ⟨h.l1, h.l2, h.n1, h.n2⟩
theorem gone_1 (b : Bo) (p d : Int) : (goneB b p d).1 = set0 (set0 b.1 p (at0 b.1 p - 1)) (max 0 (p - d)) (at0 (set0 b.1 p (at0 b.1 p - 1)) (max 0 (p - d)) + 1) := by
  unfold goneB
  simp only
  split <;> rfl
theorem gone_2 (b : Bo) (p d : Int) : (goneB b p d).2 = if (!decide (max 0 (p - d) = 0) && decide (at0 b.2 (25 - max 0 (p - d)) = 1)) = true then set0 (set0 b.2 (25 - max 0 (p - d)) 0) 25 (at0 (set0 b.2 (25 - max 0 (p - d)) 0) 25 + 1) else b.2 := by
  unfold goneB
  simp only
  split <;> rfl
theorem gone_bd {b : Bo} {p d : Int} (h : Bd b) (hd : isDie d = true) (hg : canGo b p d = true) : Bd (goneB b p d) := by
  obtain ⟨p1, p2⟩ := canGo_in hg
  have hm := canGo_man hg
  have d1 := die_in hd
  have hl := h.l1
  have hl2 := h.l2
  have np := h.n1.at p
  refine ⟨by rw [gone_1, set0_len, set0_len]; exact h.l1, ?_, ?_, ?_⟩
  · rw [gone_2]
    split
    · rw [set0_len, set0_len]; exact h.l2
    · exact h.l2
  · rw [gone_1]
    have n1 := h.n1.set (show 0 ≤ at0 b.1 p - 1 by omega) p
    exact n1.set (by have := n1.at (max 0 (p - d)); omega) _
  · rw [gone_2]
    split
    · have n1 := h.n2.set (show (0 : Int) ≤ 0 by omega) (25 - max 0 (p - d))
      exact n1.set (by have := n1.at 25; omega) _
    · exact h.n2
theorem gone_sum1 {b : Bo} {p d : Int} (h : Bd b) (hd : isDie d = true) (hg : canGo b p d = true) : (goneB b p d).1.sum = b.1.sum := by
  obtain ⟨p1, p2⟩ := canGo_in hg
  have d1 := die_in hd
  have hl := h.l1
  rw [gone_1, sum_set0 (by omega) (by rw [set0_len]; omega), sum_set0 (by omega) (by omega)]
  omega
theorem gone_sum2 {b : Bo} {p d : Int} (h : Bd b) (hd : isDie d = true) (hg : canGo b p d = true) : (goneB b p d).2.sum = b.2.sum := by
  obtain ⟨p1, p2⟩ := canGo_in hg
  have d1 := die_in hd
  have hl := h.l2
  rw [gone_2]
  split
  · rename_i q
    simp only [Bool.and_eq_true, Bool.not_eq_true', decide_eq_false_iff_not, decide_eq_true_eq] at q
    rw [sum_set0 (by omega) (by rw [set0_len]; omega), sum_set0 (by omega) (by omega)]
    omega
  · rfl
def isOverB (b : Bo) : Bool := decide (at0 b.1 0 = b.1.sum) || decide (at0 b.2 0 = b.2.sum)
/-! ### ways -/
def wayStep (b : Bo) (d : Int) (rest : Bo → List (Ply × Bo)) (ps : List Int) : List (Ply × Bo) := ps.flatMap fun p => if canGo b p d then (rest (goneB b p d)).map (fun r => ((p, d) :: r.1, r.2)) else []
def orSelf (b : Bo) : List (Ply × Bo) → List (Ply × Bo)
  | [] => [([], b)]
  | r :: l => r :: l
def wayL : List Int → Bo → List (Ply × Bo)
  | [], b => [([], b)]
  | d :: ds, b => if isOverB b then [([], b)] else orSelf b (wayStep b d (wayL ds) (rngD 25 0))
def rowsL : Nat → List Int → Bo → List (Ply × Bo)
  | 0, _, b => [([], b)]
  | n + 1, dice, b => if isOverB b then [([], b)] else orSelf b ((List.range dice.length).flatMap fun k => if dice.getD k 0 ∈ dice.take k then [] else wayStep b (dice.getD k 0) (rowsL n (dice.take k ++ dice.drop (k + 1))) (rng 1 26))
theorem orSelf_ne (b : Bo) (l : List (Ply × Bo)) : orSelf b l ≠ [] := by
  cases l <;> exact fun z => nomatch z
theorem wayL_ne (ds : List Int) (b : Bo) : wayL ds b ≠ [] := by
  cases ds with
  | nil => exact fun z => nomatch z
  | cons d ds =>
    unfold wayL
    split
    · exact fun z => nomatch z
    · exact orSelf_ne _ _
/-- the board behind a row of steps -/
def playB (b : Bo) : Ply → Bo
  | [] => b
  | s :: ps => playB (goneB b s.1 s.2) ps
/-- the same members -/
def Same {α : Type} (l m : List α) : Prop := ∀ x, x ∈ l ↔ x ∈ m
theorem Same.refl {α : Type} (l : List α) : Same l l := fun _ => Iff.rfl
theorem Same.symm {α : Type} {l m : List α} (h : Same l m) : Same m l := fun x => (h x).symm
theorem Same.trans {α : Type} {l m n : List α} (h : Same l m) (k : Same m n) : Same l n := fun x => (h x).trans (k x)
theorem Same.nil {α : Type} {l m : List α} (h : Same l m) : l = [] ↔ m = [] := by
  constructor
  · intro e
    cases m with
    | nil => rfl
    | cons x m => have := (h x).mpr List.mem_cons_self; rw [e] at this; cases this
  · intro e
    cases l with
    | nil => rfl
    | cons x l => have := (h x).mp List.mem_cons_self; rw [e] at this; cases this
theorem mem_wayStep {b : Bo} {d : Int} {rest : Bo → List (Ply × Bo)} {ps : List Int} {r : Ply × Bo} : r ∈ wayStep b d rest ps ↔ ∃ p ∈ ps, canGo b p d = true ∧ ∃ q ∈ rest (goneB b p d), r = ((p, d) :: q.1, q.2) := by
  unfold wayStep
  rw [List.mem_flatMap]
  constructor
  · rintro ⟨p, hp, hr⟩
    by_cases hg : canGo b p d = true
    · rw [if_pos hg] at hr
      obtain ⟨q, hq, e⟩ := List.mem_map.mp hr
      exact ⟨p, hp, hg, q, hq, e.symm⟩
    · rw [if_neg hg] at hr; cases hr
  · rintro ⟨p, hp, hg, q, hq, rfl⟩
    exact ⟨p, hp, by rw [if_pos hg]; exact List.mem_map.mpr ⟨q, hq, rfl⟩⟩
theorem wayStep_same {b : Bo} {d : Int} {r1 r2 : Bo → List (Ply × Bo)} {p1 p2 : List Int} (hr : ∀ p, canGo b p d = true → Same (r1 (goneB b p d)) (r2 (goneB b p d))) (hp : Same p1 p2) : Same (wayStep b d r1 p1) (wayStep b d r2 p2) := fun r => by
  rw [mem_wayStep, mem_wayStep]
  constructor
  · rintro ⟨p, h1, h2, q, h3, e⟩
    exact ⟨p, (hp p).mp h1, h2, q, (hr p h2 q).mp h3, e⟩
  · rintro ⟨p, h1, h2, q, h3, e⟩
    exact ⟨p, (hp p).mpr h1, h2, q, (hr p h2 q).mpr h3, e⟩
theorem orSelf_same {b : Bo} {l m : List (Ply × Bo)} (h : Same l m) : Same (orSelf b l) (orSelf b m) := by
  cases l with
  | nil => rw [h.nil.mp rfl]; exact Same.refl _
  | cons x l =>
    cases m with
    | nil => have := h.nil.mpr rfl; cases this
    | cons y m => exact h
theorem mem_orSelf {b : Bo} {l : List (Ply × Bo)} {r : Ply × Bo} : r ∈ orSelf b l ↔ r ∈ l ∨ (l = [] ∧ r = ([], b)) := by
  cases l with
  | nil => simp [orSelf]
  | cons x l => simp [orSelf]
theorem places_same : Same (rng 1 26) (rngD 25 0) := fun x => by rw [mem_rng, mem_rngD]; omega
/-! ### both lay the same rows -/
theorem wayStep_nil {b : Bo} {d : Int} {r1 r2 : Bo → List (Ply × Bo)} {ps : List Int} (h1 : ∀ x, r1 x ≠ []) (h : wayStep b d r1 ps = []) : wayStep b d r2 ps = [] := by
  cases q : wayStep b d r2 ps with
  | nil => rfl
  | cons r l =>
    obtain ⟨p, hp, hg, _⟩ := mem_wayStep.mp (show r ∈ wayStep b d r2 ps by rw [q]; exact List.mem_cons_self)
    cases q1 : r1 (goneB b p d) with
    | nil => exact absurd q1 (h1 _)
    | cons x xs =>
      have : ((p, d) :: x.1, x.2) ∈ wayStep b d r1 ps := mem_wayStep.mpr ⟨p, hp, hg, x, by rw [q1]; exact List.mem_cons_self, rfl⟩
      rw [h] at this; cases this
theorem rows_alike (d : Int) : ∀ (n : Nat) (b : Bo), Same (rowsL n (List.replicate n d) b) (wayL (List.replicate n d) b)
  | 0, b => Same.refl _
  | n + 1, b => by
    rw [List.replicate_succ]
    unfold rowsL wayL
    split
    · exact Same.refl _
    · refine orSelf_same ?_
      have e : ((List.range (d :: List.replicate n d).length).flatMap fun k => if (d :: List.replicate n d).getD k 0 ∈ (d :: List.replicate n d).take k then [] else wayStep b ((d :: List.replicate n d).getD k 0) (rowsL n ((d :: List.replicate n d).take k ++ (d :: List.replicate n d).drop (k + 1))) (rng 1 26)) = wayStep b d (rowsL n (List.replicate n d)) (rng 1 26) := by
        rw [List.length_cons, List.range_succ_eq_map, List.flatMap_cons]
        have z : (List.map Nat.succ (List.range (List.replicate n d).length)).flatMap (fun k => if (d :: List.replicate n d).getD k 0 ∈ (d :: List.replicate n d).take k then [] else wayStep b ((d :: List.replicate n d).getD k 0) (rowsL n ((d :: List.replicate n d).take k ++ (d :: List.replicate n d).drop (k + 1))) (rng 1 26)) = [] := by
          rw [List.flatMap_eq_nil_iff]
          intro k hk
          obtain ⟨j, hj, rfl⟩ := List.mem_map.mp hk
          rw [List.mem_range, List.length_replicate] at hj
          rw [if_pos]
          show (d :: List.replicate n d).getD (j + 1) 0 ∈ (d :: List.replicate n d).take (j + 1)
          rw [List.take_succ_cons]
          have : (d :: List.replicate n d).getD (j + 1) 0 = d := by simp [List.getD, hj]
          rw [this]; exact List.mem_cons_self
        rw [z, List.append_nil]
        simp
      rw [e]
      exact wayStep_same (fun p _ => rows_alike d n _) places_same
theorem rows_one (n : Nat) (d : Int) (b : Bo) : Same (rowsL (n + 1) [d] b) (wayL [d] b) := by
  unfold rowsL wayL
  split
  · exact Same.refl _
  · refine orSelf_same ?_
    have e : ((List.range [d].length).flatMap fun k => if [d].getD k 0 ∈ [d].take k then [] else wayStep b ([d].getD k 0) (rowsL n ([d].take k ++ [d].drop (k + 1))) (rng 1 26)) = wayStep b d (rowsL n []) (rng 1 26) := by
      simp [List.range_succ]
    rw [e]
    refine wayStep_same (fun p _ => ?_) places_same
    cases n with
    | zero => exact Same.refl _
    | succ n =>
      unfold rowsL wayL
      split
      · exact Same.refl _
      · simp [orSelf]; exact Same.refl _
/-- of two unlike dice -/
theorem rows_two {a c : Int} (hne : a ≠ c) (b : Bo) (ho : isOverB b = false) : Same (rowsL 2 [a, c] b) (orSelf b (wayStep b a (wayL [c]) (rngD 25 0) ++ wayStep b c (wayL [a]) (rngD 25 0))) := by
  unfold rowsL
  rw [ho, if_neg (fun z => nomatch z)]
  refine orSelf_same ?_
  have e : ((List.range [a, c].length).flatMap fun k => if [a, c].getD k 0 ∈ [a, c].take k then [] else wayStep b ([a, c].getD k 0) (rowsL 1 ([a, c].take k ++ [a, c].drop (k + 1))) (rng 1 26)) = wayStep b a (rowsL 1 [c]) (rng 1 26) ++ wayStep b c (rowsL 1 [a]) (rng 1 26) := by
    simp [List.range_succ, Ne.symm hne]
  rw [e]
  intro x
  rw [List.mem_append, List.mem_append]
  have h1 := wayStep_same (b := b) (d := a) (fun p _ => rows_one 0 c (goneB b p a)) places_same x
  have h2 := wayStep_same (b := b) (d := c) (fun p _ => rows_one 0 a (goneB b p c)) places_same x
  rw [h1, h2]
/-! ### as many as any -/
def lenR (r : Ply × Bo) : Int := (r.1.length : Nat)
def manyOf (l : List (Ply × Bo)) : Int := maxI (l.map lenR)
def bestOf (l : List (Ply × Bo)) : List (Ply × Bo) := l.filter fun r => decide (lenR r = manyOf l)
theorem many_is {l : List (Ply × Bo)} (h : l ≠ []) : (∃ r ∈ l, lenR r = manyOf l) ∧ ∀ r ∈ l, lenR r ≤ manyOf l := by
  have h' : l.map lenR ≠ [] := by simpa using h
  obtain ⟨a, b⟩ := maxI_mem h'
  obtain ⟨r, hr, e⟩ := List.mem_map.mp a
  exact ⟨⟨r, hr, e⟩, fun r hr => b _ (List.mem_map.mpr ⟨r, hr, rfl⟩)⟩
theorem many_same {l m : List (Ply × Bo)} (hl : l ≠ []) (hm : m ≠ []) (h1 : ∀ r ∈ l, ∃ q ∈ m, lenR r ≤ lenR q) (h2 : ∀ r ∈ m, ∃ q ∈ l, lenR r ≤ lenR q) : manyOf l = manyOf m := by
  obtain ⟨⟨r, hr, e⟩, a⟩ := many_is hl
  obtain ⟨⟨q, hq, f⟩, b⟩ := many_is hm
  obtain ⟨x, hx, k1⟩ := h1 r hr
  obtain ⟨y, hy, k2⟩ := h2 q hq
  have := a y hy
  have := b x hx
  omega
theorem best_same {l m : List (Ply × Bo)} (h : manyOf l = manyOf m) (hs : ∀ r, lenR r = manyOf l → (r ∈ l ↔ r ∈ m)) : Same (bestOf l) (bestOf m) := fun r => by
  unfold bestOf
  rw [List.mem_filter, List.mem_filter, decide_eq_true_eq, decide_eq_true_eq, h]
  constructor
  · rintro ⟨a, b⟩; exact ⟨(hs r (by rw [h]; exact b)).mp a, b⟩
  · rintro ⟨a, b⟩; exact ⟨(hs r (by rw [h]; exact b)).mpr a, b⟩
theorem best_ne {l : List (Ply × Bo)} (h : l ≠ []) : bestOf l ≠ [] := by
  obtain ⟨⟨r, hr, e⟩, _⟩ := many_is h
  intro z
  have : r ∈ bestOf l := List.mem_filter.mpr ⟨hr, decide_eq_true e⟩
  rw [z] at this; cases this
def diceOf (a c : Int) : List (List Int) := if a = c then [[a, a, a, a]] else [[max a c, min a c], [min a c, max a c]]
def foundP (b : Bo) (a c : Int) : List (Ply × Bo) := (diceOf a c).flatMap fun ds => wayL ds b
/-- the first die of a play -/
def dieOf (r : Ply × Bo) : Int := match r.1 with
  | [] => 0
  | s :: _ => s.2
def greatOf (m : Int) (l : List (Ply × Bo)) : List (Ply × Bo) := l.filter fun r => decide (dieOf r = m)
def allPl (b : Bo) (a c : Int) : List (Ply × Bo) :=
  if decide (manyOf (foundP b a c) = 1) && !decide (a = c) then (if greatOf (max a c) (bestOf (foundP b a c)) = [] then bestOf (foundP b a c) else greatOf (max a c) (bestOf (foundP b a c))) else bestOf (foundP b a c)
def rowsOf2 (b : Bo) (a c : Int) : List (Ply × Bo) := if a = c then rowsL 4 [a, a, a, a] b else rowsL 2 [a, c] b
def lawPl (b : Bo) (a c : Int) : List (Ply × Bo) :=
  if (bestOf (rowsOf2 b a c)).filter (fun r => decide (manyOf (rowsOf2 b a c) = 1) && decide (dieOf r = max a c)) = [] then bestOf (rowsOf2 b a c) else (bestOf (rowsOf2 b a c)).filter fun r => decide (manyOf (rowsOf2 b a c) = 1) && decide (dieOf r = max a c)
theorem foundP_ne (b : Bo) (a c : Int) : foundP b a c ≠ [] := by
  unfold foundP diceOf
  split
  · simp [wayL_ne]
  · simp [wayL_ne]
theorem rowsL_ne (n : Nat) (ds : List Int) (b : Bo) : rowsL n ds b ≠ [] := by
  cases n with
  | zero => exact fun z => nomatch z
  | succ n =>
    unfold rowsL
    split
    · exact fun z => nomatch z
    · exact orSelf_ne _ _
theorem rowsOf2_ne (b : Bo) (a c : Int) : rowsOf2 b a c ≠ [] := by
  unfold rowsOf2
  split <;> exact rowsL_ne _ _ _
theorem wayStep_len {b : Bo} {d : Int} {rest : Bo → List (Ply × Bo)} {ps : List Int} {r : Ply × Bo} (h : r ∈ wayStep b d rest ps) : 1 ≤ lenR r := by
  obtain ⟨p, _, _, q, _, rfl⟩ := mem_wayStep.mp h
  unfold lenR
  simp only [List.length_cons]
  omega
theorem found_same (b : Bo) (a c : Int) : manyOf (rowsOf2 b a c) = manyOf (foundP b a c) ∧ Same (bestOf (rowsOf2 b a c)) (bestOf (foundP b a c)) := by
  by_cases e : a = c
  · subst e
    have s : Same (rowsOf2 b a a) (foundP b a a) := by
      unfold rowsOf2 foundP diceOf
      rw [if_pos rfl, if_pos rfl]
      simp only [List.flatMap_cons, List.flatMap_nil, List.append_nil]
      exact rows_alike a 4 b
    have m := many_same (rowsOf2_ne b a a) (foundP_ne b a a) (fun r hr => ⟨r, (s r).mp hr, Int.le_refl _⟩) (fun r hr => ⟨r, (s r).mpr hr, Int.le_refl _⟩)
    exact ⟨m, best_same m fun r _ => s r⟩
  · have hr : rowsOf2 b a c = rowsL 2 [a, c] b := by unfold rowsOf2; rw [if_neg e]
    have hf : foundP b a c = wayL [max a c, min a c] b ++ wayL [min a c, max a c] b := by unfold foundP diceOf; rw [if_neg e]; simp
    rw [hr, hf]
    cases ho : isOverB b with
    | true =>
      have e1 : rowsL 2 [a, c] b = [([], b)] := by unfold rowsL; rw [ho]; rfl
      have e2 : ∀ x y, wayL [x, y] b = [([], b)] := fun x y => by unfold wayL; rw [ho]; rfl
      rw [e1, e2, e2]
      have s : Same [(([] : Ply), b)] ([([], b)] ++ [([], b)]) := fun x => by simp
      have m := many_same (l := [(([] : Ply), b)]) (m := [([], b)] ++ [([], b)]) (fun z => nomatch z) (fun z => nomatch z) (fun r hr => ⟨r, (s r).mp hr, Int.le_refl _⟩) (fun r hr => ⟨r, (s r).mpr hr, Int.le_refl _⟩)
      exact ⟨m, best_same m fun r _ => s r⟩
    | false =>
      have s2 := rows_two e b ho
      -- the rows by the one die first, by the other first
      generalize hA : wayStep b (max a c) (wayL [min a c]) (rngD 25 0) = SA
      generalize hC : wayStep b (min a c) (wayL [max a c]) (rngD 25 0) = SC
      have e1 : wayL [max a c, min a c] b = orSelf b SA := by rw [← hA]; unfold wayL; rw [ho]; rfl
      have e2 : wayL [min a c, max a c] b = orSelf b SC := by rw [← hC]; unfold wayL; rw [ho]; rfl
      have s3 : Same (rowsL 2 [a, c] b) (orSelf b (SA ++ SC)) := by
        rcases (show a < c ∨ c < a by omega) with h | h
        · rw [show max a c = c by omega, show min a c = a by omega] at hA hC
          rw [hA, hC] at s2
          exact s2.trans (orSelf_same fun x => by simp only [List.mem_append]; exact Or.comm)
        · rw [show max a c = a by omega, show min a c = c by omega] at hA hC
          rw [hA, hC] at s2
          exact s2
      have lA : ∀ r ∈ SA, 1 ≤ lenR r := fun r hr => wayStep_len (by rw [hA]; exact hr)
      have lC : ∀ r ∈ SC, 1 ≤ lenR r := fun r hr => wayStep_len (by rw [hC]; exact hr)
      rw [e1, e2]
      have l0 : lenR (([] : Ply), b) = 0 := rfl
      have mem1 : ∀ r, r ∈ orSelf b SA ++ orSelf b SC ↔ r ∈ SA ∨ r ∈ SC ∨ ((SA = [] ∨ SC = []) ∧ r = ([], b)) := fun r => by
        rw [List.mem_append, mem_orSelf, mem_orSelf]
        constructor
        · rintro ((h | ⟨h, h'⟩) | (h | ⟨h, h'⟩))
          · exact .inl h
          · exact .inr (.inr ⟨.inl h, h'⟩)
          · exact .inr (.inl h)
          · exact .inr (.inr ⟨.inr h, h'⟩)
        · rintro (h | h | ⟨h | h, h'⟩)
          · exact .inl (.inl h)
          · exact .inr (.inl h)
          · exact .inl (.inr ⟨h, h'⟩)
          · exact .inr (.inr ⟨h, h'⟩)
      have mem2 : ∀ r, r ∈ rowsL 2 [a, c] b ↔ r ∈ SA ∨ r ∈ SC ∨ ((SA = [] ∧ SC = []) ∧ r = ([], b)) := fun r => by
        rw [s3 r, mem_orSelf, List.mem_append, List.append_eq_nil_iff]
        constructor
        · rintro ((h | h) | h)
          · exact .inl h
          · exact .inr (.inl h)
          · exact .inr (.inr h)
        · rintro (h | h | h)
          · exact .inl (.inl h)
          · exact .inl (.inr h)
          · exact .inr h
      have m : manyOf (rowsL 2 [a, c] b) = manyOf (orSelf b SA ++ orSelf b SC) := by
        refine many_same (rowsL_ne _ _ _) (by simp [orSelf_ne]) (fun r hr => ?_) (fun r hr => ?_)
        · refine ⟨r, (mem1 r).mpr ?_, Int.le_refl _⟩
          rcases (mem2 r).mp hr with h | h | ⟨⟨h, _⟩, h'⟩
          · exact .inl h
          · exact .inr (.inl h)
          · exact .inr (.inr ⟨.inl h, h'⟩)
        · rcases (mem1 r).mp hr with h | h | ⟨_, h'⟩
          · exact ⟨r, (mem2 r).mpr (.inl h), Int.le_refl _⟩
          · exact ⟨r, (mem2 r).mpr (.inr (.inl h)), Int.le_refl _⟩
          · cases hr2 : rowsL 2 [a, c] b with
            | nil => exact absurd hr2 (rowsL_ne _ _ _)
            | cons q l =>
              refine ⟨q, List.mem_cons_self, ?_⟩
              rw [h', l0]
              unfold lenR
              omega
      refine ⟨m, best_same m fun r hr => ?_⟩
      rw [mem1, mem2]
      constructor
      · rintro (h | h | ⟨⟨h, _⟩, h'⟩)
        · exact .inl h
        · exact .inr (.inl h)
        · exact .inr (.inr ⟨.inl h, h'⟩)
      · rintro (h | h | ⟨_, h'⟩)
        · exact .inl h
        · exact .inr (.inl h)
        · -- the empty row is as long as any: there is no other
          refine .inr (.inr ⟨?_, h'⟩)
          rw [h', l0] at hr
          have top := (many_is (rowsL_ne 2 [a, c] b)).2
          rw [← hr] at top
          constructor
          · cases SA with
            | nil => rfl
            | cons q l =>
              have := top q ((mem2 q).mpr (.inl List.mem_cons_self))
              have := lA q List.mem_cons_self
              omega
          · cases SC with
            | nil => rfl
            | cons q l =>
              have := top q ((mem2 q).mpr (.inr (.inl List.mem_cons_self)))
              have := lC q List.mem_cons_self
              omega
end Rd

namespace Rd
open PySem PySem.Spec PyProof.Rows L2
/-! ### plays as data -/
abbrev dPl (p : Ply) : PyData := .tuple (p.map dP)
abbrev dWy (r : Ply × Bo) : PyData := .tuple [dPl r.1, dB r.2]
mutual
theorem eqv_num : ∀ (x y : PyData), numD x = true → numD y = true → PyData.eqv x y = true → x = y
  | .int a, y, hx, hy, h => by
    cases y with
    | int b => simp only [PyData.eqv] at h; rw [show a = b by simpa using h]
    | tuple ds => simp [PyData.eqv] at h
    | _ => simp [numD] at hy
  | .tuple xs, y, hx, hy, h => by
    cases y with
    | int b => simp [PyData.eqv] at h
    | tuple ds => rw [eqv_nums xs ds (by simpa [numD] using hx) (by simpa [numD] using hy) (by simpa only [PyData.eqv] using h)]
    | _ => simp [numD] at hy
  | .none, _, hx, _, _ => by simp [numD] at hx
  | .bool _, _, hx, _, _ => by simp [numD] at hx
  | .str _, _, hx, _, _ => by simp [numD] at hx
  | .list _, _, hx, _, _ => by simp [numD] at hx
  | .dict _, _, hx, _, _ => by simp [numD] at hx
theorem eqv_nums : ∀ (xs ys : List PyData), numDs xs = true → numDs ys = true → PyData.eqvAll xs ys = true → xs = ys
  | [], [], _, _, _ => rfl
  | [], _ :: _, _, _, h => by simp [PyData.eqvAll] at h
  | _ :: _, [], _, _, h => by simp [PyData.eqvAll] at h
  | x :: xs, y :: ys, hx, hy, h => by
    simp only [PyData.eqvAll, Bool.and_eq_true] at h
    simp only [numDs, Bool.and_eq_true] at hx hy
    rw [eqv_num x y hx.1 hy.1 h.1, eqv_nums xs ys hx.2 hy.2 h.2]
end
mutual
theorem plain_num : ∀ (x : PyData), numD x = true → x.plain = true
  | .int a, _ => rfl
  | .tuple xs, hx => by rw [PyData.plain]; exact plain_nums xs (by simpa [numD] using hx)
  | .none, hx => by simp [numD] at hx
  | .bool _, hx => by simp [numD] at hx
  | .str _, hx => by simp [numD] at hx
  | .list _, hx => by simp [numD] at hx
  | .dict _, hx => by simp [numD] at hx
theorem plain_nums : ∀ (xs : List PyData), numDs xs = true → PyData.plainAll xs = true
  | [], _ => rfl
  | x :: xs, hx => by
    simp only [numDs, Bool.and_eq_true] at hx
    rw [PyData.plainAll, plain_num x hx.1, plain_nums xs hx.2]; rfl
end
theorem eqv_iff {x y : PyData} (hx : numD x = true) (hy : numD y = true) : PyData.eqv x y = true ↔ x = y :=
  ⟨eqv_num x y hx hy, fun h => by rw [h]; exact eqv_self (plain_num y hy)⟩
theorem num_ints (l : List Int) : numDs (l.map .int) = true := numDs_iff.mpr fun d hd => by
  obtain ⟨i, _, rfl⟩ := List.mem_map.mp hd; rfl
theorem num_pl (p : Ply) : numD (dPl p) = true := by
  rw [numD]
  exact numDs_iff.mpr fun d hd => by
    obtain ⟨i, _, rfl⟩ := List.mem_map.mp hd; rfl
theorem num_b (b : Bo) : numD (dB b) = true := by
  simp only [numD, numDs, num_ints, Bool.and_self]
theorem dP_inj {p q : Int × Int} (h : dP p = dP q) : p = q := by
  obtain ⟨a, b⟩ := p
  obtain ⟨c, d⟩ := q
  simp only [PyData.tuple.injEq, List.cons.injEq, PyData.int.injEq, and_true] at h
  rw [h.1, h.2]
theorem map_inj {α β : Type} {f : α → β} (hf : ∀ a b, f a = f b → a = b) : ∀ {l m : List α}, l.map f = m.map f → l = m
  | [], [], _ => rfl
  | [], _ :: _, h => by cases h
  | _ :: _, [], h => by cases h
  | a :: l, b :: m, h => by
    simp only [List.map_cons, List.cons.injEq] at h
    rw [hf a b h.1, map_inj hf h.2]
theorem dPl_inj {p q : Ply} (h : dPl p = dPl q) : p = q := map_inj (fun _ _ => dP_inj) (PyData.tuple.inj h)
theorem dT_inj {p q : List Int} (h : dT p = dT q) : p = q := map_inj (fun _ _ z => PyData.int.inj z) (PyData.tuple.inj h)
theorem dB_inj {b c : Bo} (h : dB b = dB c) : b = c := by
  obtain ⟨x, y⟩ := b
  obtain ⟨u, v⟩ := c
  simp only [PyData.tuple.injEq, List.cons.injEq, and_true] at h
  rw [map_inj (fun _ _ z => PyData.int.inj z) h.1, map_inj (fun _ _ z => PyData.int.inj z) h.2]
theorem eqv_pl (p q : Ply) : PyData.eqv (dPl p) (dPl q) = decide (p = q) := by
  rw [Bool.eq_iff_iff, eqv_iff (num_pl p) (num_pl q), decide_eq_true_eq]
  exact ⟨dPl_inj, fun h => by rw [h]⟩
theorem eqv_bd (b c : Bo) : PyData.eqv (dB b) (dB c) = decide (b = c) := by
  rw [Bool.eq_iff_iff, eqv_iff (num_b b) (num_b c), decide_eq_true_eq]
  exact ⟨dB_inj, fun h => by rw [h]⟩
theorem depth_le {n : Nat} : ∀ {ds : List PyData}, (∀ d ∈ ds, d.depth ≤ n) → PyData.depthAll ds ≤ n
  | [], _ => by simp [PyData.depthAll]
  | d :: ds, h => by
    rw [PyData.depthAll]
    have := h d List.mem_cons_self
    have := depth_le (n := n) (ds := ds) fun x hx => h x (List.mem_cons_of_mem _ hx)
    omega
theorem dep_P (p : Int × Int) : (dP p).depth ≤ 2 := by simp [PyData.depth, PyData.depthAll]
theorem dep_pl (p : Ply) : (dPl p).depth ≤ 3 := by
  rw [PyData.depth]
  have := depth_le (n := 2) (ds := p.map dP) fun d hd => by
    obtain ⟨q, _, rfl⟩ := List.mem_map.mp hd; exact dep_P q
  omega
theorem dep_b (b : Bo) : (dB b).depth ≤ 3 := by
  have h1 : PyData.depthAll (b.1.map PyData.int) ≤ 1 := depth_le fun d hd => by
    obtain ⟨i, _, rfl⟩ := List.mem_map.mp hd; simp [PyData.depth]
  have h2 : PyData.depthAll (b.2.map PyData.int) ≤ 1 := depth_le fun d hd => by
    obtain ⟨i, _, rfl⟩ := List.mem_map.mp hd; simp [PyData.depth]
  simp only [PyData.depth, PyData.depthAll]
  omega
theorem kd_pl (p : Ply) : KD (dPl p) := ⟨num_pl p, rfl, by have := dep_pl p; omega⟩
theorem kd_b (b : Bo) : KD (dB b) := ⟨num_b b, rfl, by have := dep_b b; omega⟩
theorem alike_map {α : Type} {f : α → PyData} (h : ∀ a b, PySem.W.alike (f a) (f b) = true) : ∀ l m : List α, PySem.W.alikeAll (l.map f) (m.map f) = true
  | [], _ => by simp [PySem.W.alikeAll]
  | _ :: _, [] => by simp [PySem.W.alikeAll]
  | a :: l, b :: m => by
    simp only [List.map_cons, PySem.W.alikeAll, h a b, alike_map h l m, Bool.and_self]
theorem alike_pl (p q : Ply) : PySem.W.alike (dPl p) (dPl q) = true := by
  rw [PySem.W.alike]
  exact alike_map (fun a b => by simp [PySem.W.alike, PySem.W.alikeAll]) p q
theorem alike_b (b c : Bo) : PySem.W.alike (dB b) (dB c) = true := by
  simp only [PySem.W.alike, PySem.W.alikeAll, alike_map (f := PyData.int) (fun a b => by simp [PySem.W.alike]), Bool.and_self]
/-! ### the same plays -/
theorem mem_filt {α : Type} {l : List α} {q : α → Bool} {x : α} (h : x ∈ l.filter q) : x ∈ l := (List.mem_filter.mp h).1
theorem if_f {α : Type} {x y : α} : (if false = true then x else y) = y := rfl
theorem pick_same {l m : List (Ply × Bo)} (h : Same l m) (q : Ply × Bo → Bool) : Same (if l.filter q = [] then l else l.filter q) (if m.filter q = [] then m else m.filter q) := by
  have hf : Same (l.filter q) (m.filter q) := fun x => by rw [List.mem_filter, List.mem_filter, h x]
  by_cases e : l.filter q = []
  · rw [if_pos e, if_pos (hf.nil.mp e)]; exact h
  · rw [if_neg e, if_neg fun z => e (hf.nil.mpr z)]; exact hf
theorem manyOf_len {l : List (Ply × Bo)} {r : Ply × Bo} (h : r ∈ bestOf l) : lenR r = manyOf l := by
  have := (List.mem_filter.mp h).2
  simpa using this
/-- every die of a row is one of the dice -/
theorem way_die {ds : List Int} : ∀ {b : Bo} {r : Ply × Bo}, r ∈ wayL ds b → ∀ s ∈ r.1, s.2 ∈ ds := by
  induction ds with
  | nil =>
    intro b r h s hs
    unfold wayL at h
    rw [List.mem_singleton] at h
    rw [h] at hs; cases hs
  | cons d ds ih =>
    intro b r h s hs
    unfold wayL at h
    split at h
    · rw [List.mem_singleton] at h
      rw [h] at hs; cases hs
    · rcases mem_orSelf.mp h with h | ⟨_, h⟩
      · obtain ⟨p, _, _, q, hq, rfl⟩ := mem_wayStep.mp h
        rcases List.mem_cons.mp hs with rfl | hs
        · exact List.mem_cons_self
        · exact List.mem_cons_of_mem _ (ih hq s hs)
      · rw [h] at hs; cases hs
theorem plays_same (b : Bo) (a c : Int) : Same (lawPl b a c) (allPl b a c) := by
  obtain ⟨hm, hs⟩ := found_same b a c
  unfold lawPl allPl
  rw [hm]
  by_cases h1 : manyOf (foundP b a c) = 1
  · by_cases e : a = c
    · subst e
      have hq : (decide (manyOf (foundP b a a) = 1) && !decide (a = a)) = false := by simp
      rw [hq, if_f]
      -- every row of one step is by that die
      have all : ∀ r ∈ bestOf (rowsOf2 b a a), (decide (manyOf (foundP b a a) = 1) && decide (dieOf r = max a a)) = true := fun r hr => by
        have hr' := (hs r).mp hr
        have hl := manyOf_len hr'
        have hf := mem_filt hr'
        unfold foundP at hf
        obtain ⟨ds, hds, hr2⟩ := List.mem_flatMap.mp hf
        unfold diceOf at hds
        rw [if_pos rfl, List.mem_singleton] at hds
        subst hds
        rw [h1, decide_eq_true rfl, Bool.true_and, decide_eq_true_eq]
        cases hp : r.1 with
        | nil => rw [lenR, hp, h1] at hl; cases hl
        | cons s l =>
          have := way_die hr2 s (by rw [hp]; exact List.mem_cons_self)
          have hm2 : max a a = a := by omega
          unfold dieOf
          rw [hp, hm2]
          simpa using this
      have ef : (bestOf (rowsOf2 b a a)).filter (fun r => decide (manyOf (foundP b a a) = 1) && decide (dieOf r = max a a)) = bestOf (rowsOf2 b a a) := List.filter_eq_self.mpr all
      rw [ef]
      split <;> exact hs
    · have hq : (decide (manyOf (foundP b a c) = 1) && !decide (a = c)) = true := by simp [h1, e]
      rw [hq, if_pos rfl]
      have := pick_same hs fun r => decide (manyOf (foundP b a c) = 1) && decide (dieOf r = max a c)
      rw [h1] at this ⊢
      have ef : ∀ l : List (Ply × Bo), l.filter (fun r => decide ((1 : Int) = 1) && decide (dieOf r = max a c)) = greatOf (max a c) l := fun l => by unfold greatOf; congr 1
      rw [ef, ef] at this
      rw [ef]
      exact this
  · have hq : (decide (manyOf (foundP b a c) = 1) && !decide (a = c)) = false := by simp [h1]
    rw [hq, if_f]
    have ef : (bestOf (rowsOf2 b a c)).filter (fun r => decide (manyOf (foundP b a c) = 1) && decide (dieOf r = max a c)) = [] := by
      rw [List.filter_eq_nil_iff]; intro r _; simp [h1]
    rw [if_pos ef]
    exact hs
theorem foundP_comm (b : Bo) (a c : Int) : foundP b c a = foundP b a c := by
  unfold foundP diceOf
  by_cases e : a = c
  · rw [if_pos e, if_pos e.symm, e]
  · rw [if_neg e, if_neg (Ne.symm e), Int.max_comm, Int.min_comm]
theorem allPl_comm (b : Bo) (a c : Int) : allPl b c a = allPl b a c := by
  unfold allPl
  rw [foundP_comm, Int.max_comm, show decide (c = a) = decide (a = c) by rw [decide_eq_decide]; exact eq_comm]
/-- the plays are among the rows -/
theorem allPl_sub {b : Bo} {a c : Int} {r : Ply × Bo} (h : r ∈ allPl b a c) : r ∈ bestOf (foundP b a c) := by
  unfold allPl at h
  split at h
  · split at h
    · exact h
    · exact mem_filt h
  · exact h
theorem allPl_ne (b : Bo) (a c : Int) : allPl b a c ≠ [] := by
  have := best_ne (foundP_ne b a c)
  unfold allPl
  split
  · split
    · exact this
    · assumption
  · exact this
theorem allPl_len {b : Bo} {a c : Int} {r : Ply × Bo} (h : r ∈ allPl b a c) : lenR r = manyOf (foundP b a c) := manyOf_len (allPl_sub h)
/-! ### the boards behind -/
theorem way_end {ds : List Int} : ∀ {b : Bo} {r : Ply × Bo}, r ∈ wayL ds b → r.2 = playB b r.1 := by
  induction ds with
  | nil =>
    intro b r h
    unfold wayL at h
    rw [List.mem_singleton] at h
    rw [h]; rfl
  | cons d ds ih =>
    intro b r h
    unfold wayL at h
    split at h
    · rw [List.mem_singleton] at h
      rw [h]; rfl
    · rcases mem_orSelf.mp h with h | ⟨_, h⟩
      · obtain ⟨p, _, _, q, hq, rfl⟩ := mem_wayStep.mp h
        exact ih (b := goneB b p d) hq
      · rw [h]; rfl
theorem found_way {b : Bo} {a c : Int} {r : Ply × Bo} (h : r ∈ foundP b a c) : ∃ ds ∈ diceOf a c, r ∈ wayL ds b := by
  unfold foundP at h
  exact List.mem_flatMap.mp h
theorem allPl_end {b : Bo} {a c : Int} {r : Ply × Bo} (h : r ∈ allPl b a c) : r.2 = playB b r.1 := by
  obtain ⟨ds, _, h⟩ := found_way (mem_filt (allPl_sub h))
  exact way_end h
theorem dice_ok {a c : Int} (ha : isDie a = true) (hc : isDie c = true) : ∀ ds ∈ diceOf a c, (∀ d ∈ ds, isDie d = true) ∧ ds.length ≤ 4 := fun ds h => by
  unfold diceOf at h
  have hmx : isDie (max a c) = true := by rcases (show max a c = a ∨ max a c = c by omega) with e | e <;> rw [e] <;> assumption
  have hmn : isDie (min a c) = true := by rcases (show min a c = a ∨ min a c = c by omega) with e | e <;> rw [e] <;> assumption
  split at h
  · rw [List.mem_singleton] at h
    subst h
    exact ⟨fun d hd => by simp at hd; rw [hd]; exact ha, by simp⟩
  · simp only [List.mem_cons, List.not_mem_nil, or_false] at h
    rcases h with rfl | rfl
    · exact ⟨fun d hd => by simp at hd; rcases hd with rfl | rfl <;> assumption, by simp⟩
    · exact ⟨fun d hd => by simp at hd; rcases hd with rfl | rfl <;> assumption, by simp⟩
theorem way_bd {ds : List Int} (hd : ∀ d ∈ ds, isDie d = true) : ∀ {b : Bo} {r : Ply × Bo}, Bd b → r ∈ wayL ds b → Bd r.2 ∧ r.2.1.sum = b.1.sum ∧ r.2.2.sum = b.2.sum := by
  induction ds with
  | nil =>
    intro b r hb h
    unfold wayL at h
    rw [List.mem_singleton] at h
    rw [h]; exact ⟨hb, rfl, rfl⟩
  | cons d ds ih =>
    intro b r hb h
    have d0 := hd d List.mem_cons_self
    unfold wayL at h
    split at h
    · rw [List.mem_singleton] at h
      rw [h]; exact ⟨hb, rfl, rfl⟩
    · rcases mem_orSelf.mp h with h | ⟨_, h⟩
      · obtain ⟨p, _, hg, q, hq, rfl⟩ := mem_wayStep.mp h
        obtain ⟨x, y, z⟩ := ih (fun e he => hd e (List.mem_cons_of_mem _ he)) (gone_bd hb d0 hg) hq
        exact ⟨x, y.trans (gone_sum1 hb d0 hg), z.trans (gone_sum2 hb d0 hg)⟩
      · rw [h]; exact ⟨hb, rfl, rfl⟩
theorem allPl_bd {b : Bo} {a c : Int} (ha : isDie a = true) (hc : isDie c = true) (hb : Bd b) {r : Ply × Bo} (h : r ∈ allPl b a c) : Bd r.2 ∧ r.2.1.sum = b.1.sum ∧ r.2.2.sum = b.2.sum := by
  obtain ⟨ds, hds, h⟩ := found_way (mem_filt (allPl_sub h))
  exact way_bd (dice_ok ha hc ds hds).1 hb h
/-! ### how many -/
theorem sum_ats : ∀ {ps : List Int} {l : List Int}, ps.Nodup → (∀ p ∈ ps, 0 ≤ p ∧ p < l.length) → NN l → (ps.map (at0 l)).sum ≤ l.sum
  | [], l, _, _, hn => by simpa using hn.sum
  | p :: ps, l, hd, hp, hn => by
    obtain ⟨p0, p1⟩ := hp p List.mem_cons_self
    have hd' := List.nodup_cons.mp hd
    have ih := sum_ats (l := set0 l p 0) hd'.2 (fun q hq => by rw [set0_len]; exact hp q (List.mem_cons_of_mem _ hq)) (hn.set (Int.le_refl 0) p)
    have e : ps.map (at0 (set0 l p 0)) = ps.map (at0 l) := List.map_congr_left fun q hq => by
      rw [at0_set0 p0 p1 (hp q (List.mem_cons_of_mem _ hq)).1, if_neg fun (z : q = p) => hd'.1 (z ▸ hq)]
    rw [e, sum_set0 p0 p1] at ih
    rw [List.map_cons, List.sum_cons]
    omega
theorem filter_le {ps : List Int} {g : Int → Bool} {f : Int → Int} (h0 : ∀ p, 0 ≤ f p) (h1 : ∀ p, g p = true → 1 ≤ f p) : ((ps.filter g).length : Int) ≤ (ps.map f).sum := by
  induction ps with
  | nil => simp
  | cons p ps ih =>
    rw [List.map_cons, List.sum_cons]
    have := h0 p
    by_cases hg : g p = true
    · rw [List.filter_cons_of_pos hg, List.length_cons]
      have := h1 p hg
      omega
    · rw [List.filter_cons_of_neg hg]
      omega
theorem nodup_rngD (lo hi : Int) : (rngD lo hi).Nodup := by
  unfold rngD
  rw [List.Nodup, List.pairwise_map]
  exact List.nodup_range.imp fun {a b} h z => h (by omega)
theorem nodup_rng (lo hi : Int) : (rng lo hi).Nodup := by
  unfold rng
  rw [List.Nodup, List.pairwise_map]
  exact List.nodup_range.imp fun {a b} h z => h (by omega)
theorem can_few {b : Bo} {d : Int} {ps : List Int} (hb : Bd b) (hn : ps.Nodup) (hp : ∀ p ∈ ps, 0 ≤ p ∧ p < 26) : ((ps.filter fun p => canGo b p d).length : Int) ≤ b.1.sum := by
  have h1 := filter_le (ps := ps) (g := fun p => canGo b p d) (f := at0 b.1) (fun p => hb.n1.at p) (fun p hg => by have := canGo_man hg; have := hb.n1.at p; omega)
  have h2 := sum_ats (l := b.1) hn (fun p h => by have := hp p h; have := hb.l1; omega) hb.n1
  omega
theorem wayStep_le {b : Bo} {d : Int} {rest : Bo → List (Ply × Bo)} {m : Nat} : ∀ (ps : List Int), (∀ p ∈ ps, canGo b p d = true → (rest (goneB b p d)).length ≤ m) → (wayStep b d rest ps).length ≤ (ps.filter fun p => canGo b p d).length * m
  | [], _ => by simp [wayStep]
  | p :: ps, h => by
    have ih := wayStep_le ps fun q hq => h q (List.mem_cons_of_mem _ hq)
    have e : wayStep b d rest (p :: ps) = (if canGo b p d then (rest (goneB b p d)).map (fun r => ((p, d) :: r.1, r.2)) else []) ++ wayStep b d rest ps := rfl
    rw [e, List.length_append]
    by_cases hg : canGo b p d = true
    · rw [if_pos hg, List.filter_cons_of_pos (p := fun p => canGo b p d) hg, List.length_map, List.length_cons, Nat.succ_mul]
      have := h p List.mem_cons_self hg
      omega
    · rw [if_neg hg, List.filter_cons_of_neg (p := fun p => canGo b p d) hg]
      simpa using ih
theorem step_le {b : Bo} {d : Int} {rest : Bo → List (Ply × Bo)} {m k : Nat} {ps : List Int} (hb : Bd b) (hn : ps.Nodup) (hp : ∀ p ∈ ps, 0 ≤ p ∧ p < 26) (hk : b.1.sum ≤ k) (h : ∀ p ∈ ps, canGo b p d = true → (rest (goneB b p d)).length ≤ m) : (wayStep b d rest ps).length ≤ k * m := by
  have h1 := wayStep_le ps h
  have h2 := can_few (d := d) hb hn hp
  exact Nat.le_trans h1 (Nat.mul_le_mul_right m (by omega))
theorem orSelf_le {b : Bo} {l : List (Ply × Bo)} {m : Nat} (h : l.length ≤ m) (h1 : 1 ≤ m) : (orSelf b l).length ≤ m := by
  cases l with
  | nil => exact h1
  | cons r l => exact h
theorem way_le {k : Nat} (hk1 : 1 ≤ k) {ds : List Int} (hd : ∀ d ∈ ds, isDie d = true) : ∀ {b : Bo}, Bd b → b.1.sum ≤ k → (wayL ds b).length ≤ k ^ ds.length := by
  induction ds with
  | nil => intro b _ _; exact Nat.le_refl 1
  | cons d ds ih =>
    intro b hb hk
    have d0 := hd d List.mem_cons_self
    have hpos : 1 ≤ k ^ (ds.length + 1) := Nat.one_le_pow _ _ hk1
    rw [List.length_cons]
    unfold wayL
    split
    · exact hpos
    · refine orSelf_le ?_ hpos
      rw [Nat.pow_succ, Nat.mul_comm]
      refine step_le hb (nodup_rngD 25 0) (fun p h => by rw [mem_rngD] at h; omega) hk fun p _ hg => ?_
      exact ih (fun e he => hd e (List.mem_cons_of_mem _ he)) (gone_bd hb d0 hg) (by rw [gone_sum1 hb d0 hg]; exact hk)
theorem foundP_le {k : Nat} (hk1 : 1 ≤ k) {b : Bo} {a c : Int} (ha : isDie a = true) (hc : isDie c = true) (hb : Bd b) (hk : b.1.sum ≤ k) : (foundP b a c).length ≤ if a = c then k ^ 4 else 2 * k ^ 2 := by
  have h := dice_ok ha hc
  unfold foundP
  unfold diceOf at h ⊢
  by_cases e : a = c
  · rw [if_pos e] at h ⊢
    rw [if_pos e]
    simp only [List.flatMap_cons, List.flatMap_nil, List.append_nil]
    exact way_le hk1 (h _ List.mem_cons_self).1 hb hk
  · rw [if_neg e] at h ⊢
    rw [if_neg e]
    simp only [List.flatMap_cons, List.flatMap_nil, List.append_nil, List.length_append]
    have h1 := way_le hk1 (h _ List.mem_cons_self).1 hb hk
    have h2 := way_le hk1 (h _ (List.mem_cons_of_mem _ List.mem_cons_self)).1 hb hk
    simp only [List.length_cons, List.length_nil, Nat.zero_add] at h1 h2
    have : k ^ (1 + 1) = k ^ 2 := rfl
    omega
theorem allPl_le (b : Bo) (a c : Int) : (allPl b a c).length ≤ (foundP b a c).length := by
  have h1 : (bestOf (foundP b a c)).length ≤ (foundP b a c).length := List.length_filter_le _ _
  unfold allPl
  split
  · split
    · exact h1
    · exact Nat.le_trans (List.length_filter_le _ _) h1
  · exact h1
/-- dice as the law has them -/
def LDice (dice : List Int) : Prop := (∀ d ∈ dice, isDie d = true) ∧ (dice.length ≤ 2 ∨ ∃ d n, n ≤ 4 ∧ dice = List.replicate n d)
theorem LDice.less {dice : List Int} (h : LDice dice) (k : Nat) : LDice (dice.take k ++ dice.drop (k + 1)) := by
  refine ⟨fun d hd => h.1 d ?_, ?_⟩
  · rcases List.mem_append.mp hd with hd | hd
    · exact List.mem_of_mem_take hd
    · exact List.mem_of_mem_drop hd
  · rcases h.2 with h | ⟨d, n, hn, rfl⟩
    · exact .inl (by rw [List.length_append, List.length_take, List.length_drop]; omega)
    · refine .inr ⟨d, min k n + (n - (k + 1)), by omega, ?_⟩
      rw [List.take_replicate, List.drop_replicate, List.replicate_append_replicate]
theorem rows_le {k : Nat} (hk1 : 1 ≤ k) : ∀ (n : Nat) {dice : List Int} {b : Bo}, LDice dice → Bd b → b.1.sum ≤ k → (rowsL n dice b).length ≤ (2 * k) ^ n := by
  intro n
  induction n with
  | zero => intro dice b _ _ _; exact Nat.le_refl 1
  | succ n ih =>
    intro dice b hd hb hk
    have hpos : 1 ≤ (2 * k) ^ (n + 1) := Nat.one_le_pow _ _ (by omega)
    unfold rowsL
    split
    · exact hpos
    · refine orSelf_le ?_ hpos
      -- at most two unlike dice
      have one : ∀ j ∈ List.range dice.length, (if dice.getD j 0 ∈ dice.take j then [] else wayStep b (dice.getD j 0) (rowsL n (dice.take j ++ dice.drop (j + 1))) (rng 1 26)).length ≤ k * (2 * k) ^ n := fun j hj => by
        split
        · exact Nat.zero_le _
        · have hjd : isDie (dice.getD j 0) = true := by
            rw [List.mem_range] at hj
            rw [List.getD_eq_getElem?_getD, List.getElem?_eq_getElem hj]
            exact hd.1 _ (List.getElem_mem hj)
          exact step_le hb (nodup_rng 1 26) (fun p h => by rw [mem_rng] at h; omega) hk fun p _ hg => ih (hd.less j) (gone_bd hb hjd hg) (by rw [gone_sum1 hb hjd hg]; exact hk)
      have e2 : (2 * k) ^ (n + 1) = 2 * (k * (2 * k) ^ n) := by rw [Nat.pow_succ, Nat.mul_comm, Nat.mul_assoc]
      rw [e2]
      rcases hd.2 with h2 | ⟨d, m, hm, rfl⟩
      · replace one : ∀ j ∈ List.range dice.length, ((fun j => if dice.getD j 0 ∈ dice.take j then [] else wayStep b (dice.getD j 0) (rowsL n (dice.take j ++ dice.drop (j + 1))) (rng 1 26)) j).length ≤ k * (2 * k) ^ n := one
        generalize hF : (fun j => if dice.getD j 0 ∈ dice.take j then [] else wayStep b (dice.getD j 0) (rowsL n (dice.take j ++ dice.drop (j + 1))) (rng 1 26)) = F at one ⊢
        rcases (show dice.length = 0 ∨ dice.length = 1 ∨ dice.length = 2 by omega) with hl | hl | hl
        · rw [hl]; simp
        · rw [hl] at one ⊢
          have := one 0 (by simp)
          simp only [List.range_one, List.flatMap_cons, List.flatMap_nil, List.append_nil]
          omega
        · rw [hl] at one ⊢
          have h0 := one 0 (by simp)
          have h1 := one 1 (by simp)
          have er : List.range 2 = [0, 1] := rfl
          rw [er]
          simp only [List.flatMap_cons, List.flatMap_nil, List.append_nil, List.length_append]
          omega
      · cases m with
        | zero => simp
        | succ m =>
          have h0 := one 0 (by simp)
          have z : ∀ j ∈ List.map Nat.succ (List.range m), (if (List.replicate (m + 1) d).getD j 0 ∈ (List.replicate (m + 1) d).take j then [] else wayStep b ((List.replicate (m + 1) d).getD j 0) (rowsL n ((List.replicate (m + 1) d).take j ++ (List.replicate (m + 1) d).drop (j + 1))) (rng 1 26)) = [] := fun j hj => by
            obtain ⟨i, hi, rfl⟩ := List.mem_map.mp hj
            rw [List.mem_range] at hi
            rw [if_pos]
            rw [List.take_replicate, List.getD_eq_getElem?_getD, List.getElem?_replicate, if_pos (show i.succ < m + 1 by omega)]
            exact List.mem_replicate.mpr ⟨by omega, rfl⟩
          rw [List.length_replicate, List.range_succ_eq_map, List.flatMap_cons, List.flatMap_eq_nil_iff.mpr z, List.append_nil]
          omega
end Rd

namespace Rd
open PySem PySem.Spec PyProof.Rows L2
section
variable {X : Cx} {a b c e tg iter elt : Expr} {G : Gm} {D : De} {ra rb : Sl} {pos p p2 : Pos} {x : Str} {scope : Scope} {own : List (Str × Nat)}
/-! ### cells, added and changed -/
theorem Hs.addC {K : Fg} {σ : L2.St} {H H1 : Hp} {a : Addr} {c : Cl} (h : Hs K G σ H) (hn : H a = none) (e : ExB [] H H1) (ok : ClOk (a :: G.av) K H1 a c) : Hs K { G with cs := (a, c) :: G.cs } σ H1 := by
  have hna := h.hh.new hn
  have to : ∀ H', ExB (a :: G.av) H1 H' → ExB G.av H H' := fun H' q b o nb eb => by
    have ne : b ≠ a := ne_of_none eb hn
    exact q b o (by simp only [List.mem_cons, not_or]; exact ⟨ne, nb⟩) (e b o (fun z => nomatch z) eb)
  refine ⟨⟨fun b o q => e b o (fun z => nomatch z) (h.hh.ex b o q), ?_, ?_, ?_, ?_⟩, h.sl.to to⟩
  · exact List.nodup_cons.mpr ⟨fun z => hna (List.mem_append_left _ z), h.hh.nd⟩
  · intro b hb
    rcases List.mem_cons.mp hb with q | q
    · rw [q]
      show G.B a = none
      cases q2 : G.B a with
      | none => rfl
      | some o => rw [h.hh.ex a o q2] at hn; cases hn
    · exact h.hh.fr b q
  · intro b hb
    rcases h.hh.out b hb with q | q
    · exact .inl q
    · exact .inr (List.mem_cons_of_mem _ q)
  · intro p hp
    rcases List.mem_cons.mp hp with q | q
    · subst q; exact ok
    · exact (h.hh.cl p q).to to fun o eo => e _ _ (fun z => nomatch z) eo
abbrev upK (G : Gm) (j : Nat) (a : Addr) (c : Cl) : Gm := { G with cs := G.cs.set j (a, c) }
theorem upK_ad {j : Nat} {a : Addr} {c c' : Cl} (hj : G.cs[j]? = some (a, c)) : (upK G j a c').ad = G.ad := by
  show (G.cs.set j (a, c')).map (·.1) = G.cs.map (·.1)
  rw [List.map_set]
  apply List.ext_getElem?
  intro i
  by_cases h : j = i
  · subst h
    have hl : j < (G.cs.map (·.1)).length := by rw [List.length_map]; exact (List.getElem?_eq_some_iff.mp hj).1
    rw [List.getElem?_set_self hl, List.getElem?_map, hj]; rfl
  · rw [List.getElem?_set_ne h]
theorem Hs.putC {K : Fg} {σ : L2.St} {H H' : Hp} {j : Nat} {a : Addr} {c c' : Cl} (h : Hs K G σ H) (hj : G.cs[j]? = some (a, c)) (e : ExB [a] H H') (ok : ClOk G.av K H' a c') : Hs K (upK G j a c') σ H' := by
  have hm : a ∈ G.ad := List.mem_map.mpr ⟨_, List.mem_of_getElem? hj, rfl⟩
  have ea : (upK G j a c').ad = G.ad := upK_ad hj
  have ev : (upK G j a c').av = G.av := by unfold Gm.av; rw [ea]
  have e' : ExB G.av H H' := e.sub fun b hb => by rw [List.mem_singleton.mp hb]; exact List.mem_append_left _ hm
  refine ⟨⟨fun b o q => ?_, by rw [ea]; exact h.hh.nd, fun b hb => h.hh.fr b (by rw [← ea]; exact hb), fun b hb => by rw [ea]; exact h.hh.out b hb, fun p hp => ?_⟩, ?_⟩
  · have : b ≠ a := fun z => by subst z; have := h.hh.fr b hm; have q' : G.B b = some o := q; rw [this] at q'; cases q'
    exact e b o (by simpa using this) (h.hh.ex b o q)
  · rw [ev]
    obtain ⟨n, en⟩ := List.mem_iff_getElem?.mp hp
    by_cases hjn : j = n
    · subst hjn
      have hl := (List.getElem?_eq_some_iff.mp hj).1
      have en' : (G.cs.set j (a, c'))[j]? = some p := en
      rw [List.getElem?_set_self hl] at en'
      cases en'
      exact ok
    · have en' : (G.cs.set j (a, c'))[n]? = some p := en
      rw [List.getElem?_set_ne hjn] at en'
      have hne : p.1 ≠ a := fun z => by
        have h1 : (G.cs.map (·.1))[n]? = some a := by rw [List.getElem?_map, en']; simp [z]
        have h2 : (G.cs.map (·.1))[j]? = some a := by rw [List.getElem?_map, hj]; rfl
        exact hjn (L2.nd_ix h.hh.nd h2 h1)
      exact (h.hh.cl p (List.mem_of_getElem? en')).to (fun _ q => e'.trans q) fun o eo => e _ _ (by simpa using hne) eo
  · rw [ev]; exact h.sl.to fun _ q => e'.trans q
theorem gs_putC {j : Nat} {a : Addr} {c c' : Cl} {H H' : Hp} (hj : G.cs[j]? = some (a, c)) (e : ExB [a] H H') : Gs G H (upK G j a c') H' := by
  have hm : a ∈ G.ad := List.mem_map.mpr ⟨_, List.mem_of_getElem? hj, rfl⟩
  exact ⟨e.sub fun b hb => by rw [List.mem_singleton.mp hb]; exact List.mem_append_left _ hm, fun b hb => .inl (by unfold Gm.av at hb ⊢; rw [upK_ad hj] at hb; exact hb)⟩
/-! ### a list of lists, each a cell -/
theorem o_ixH {a : Addr} {xs : List V} {i : Int} {v : V} (j : Nat) (hj : G.cs[j]? = some (a, .ho (.lst xs))) (h : atI xs i = some v) : Ix2 X G (.v (.ref a)) (.d (.int i)) (.v v) :=
  ⟨_, ix_list, fun _ H _ _ _ hs hx hy k => by
    have e : some _ = some _ := hx
    cases e
    exact ⟨a, xs, i, v, rfl, hy.int, SqL.of (hs.hh.cl _ (List.mem_of_getElem? hj)), h, k _ _ (PR.v .refl)⟩⟩
theorem wipe_wipe (σ : L2.St) (vs : List Nat) : wipe (wipe σ vs) vs = wipe σ vs := by
  have key : ∀ (us : List Nat) (τ : L2.St), (∀ k, k ∈ us → τ[k]? = none ∨ τ[k]? = some none) → wipe τ us = τ := by
    intro us
    induction us with
    | nil => intro τ _; rfl
    | cons u us ih =>
      intro τ hτ
      have e1 := ih τ fun k hk => hτ k (List.mem_cons_of_mem _ hk)
      show (wipe τ us).set u none = τ
      rw [e1]
      apply List.ext_getElem?
      intro m
      by_cases hm : u = m
      · subst hm
        rcases hτ u List.mem_cons_self with q | q
        · rw [q]; exact List.getElem?_eq_none (by rw [List.length_set]; exact List.getElem?_eq_none_iff.mp q)
        · rw [List.getElem?_set_self (List.getElem?_eq_some_iff.mp q).1, q]
      · rw [List.getElem?_set_ne hm]
  exact key vs (wipe σ vs) fun k hk => by
    cases q : (wipe σ vs)[k]? with
    | none => exact .inl rfl
    | some o =>
      cases o with
      | none => exact .inr rfl
      | some z => exact absurd hk (wipe_some q).2
/-- the new lists' cells, the last one first -/
def cellsR : List Addr → List (List Int) → List (Addr × Cl)
  | a :: as, l :: ls => cellsR as ls ++ [(a, .ls (l.map .int))]
  | _, _ => []
theorem cellsR_snoc {a : Addr} {l : List Int} : ∀ {as : List Addr} {ls : List (List Int)}, as.length = ls.length → cellsR (as ++ [a]) (ls ++ [l]) = (a, .ls (l.map .int)) :: cellsR as ls
  | [], [], _ => rfl
  | [], _ :: _, h => by simp at h
  | _ :: _, [], h => by simp at h
  | b :: as, m :: ls, h => by
    simp only [List.cons_append, cellsR]
    rw [cellsR_snoc (by simpa using h)]
    rfl
theorem cellsR_len : ∀ {as : List Addr} {ls : List (List Int)}, as.length = ls.length → (cellsR as ls).length = as.length
  | [], [], _ => rfl
  | [], _ :: _, h => by simp at h
  | _ :: _, [], h => by simp at h
  | b :: as, m :: ls, h => by
    simp only [cellsR, List.length_append, List.length_cons, List.length_nil]
    rw [cellsR_len (by simpa using h)]
theorem cellsR_mem {b : Addr} : ∀ {as : List Addr} {ls : List (List Int)}, b ∈ (cellsR as ls).map (·.1) → b ∈ as
  | [], [], h => by simp [cellsR] at h
  | [], _ :: _, h => by simp [cellsR] at h
  | _ :: _, [], h => by simp [cellsR] at h
  | a :: as, l :: ls, h => by
    simp only [cellsR, List.map_append, List.map_cons, List.map_nil, List.mem_append, List.mem_singleton] at h
    rcases h with h | h
    · exact List.mem_cons_of_mem _ (cellsR_mem h)
    · rw [h]; exact List.mem_cons_self
abbrev stL (G : Gm) (vs : List Nat) (Da : Addr) (as : List Addr) (ls : List (List Int)) : Gm := { G with sl := wipeS G.sl vs, cs := cellsR as ls ++ (Da, .ho (.lst (as.map V.ref))) :: G.cs }
/-- y = [list(x) for x in a tuple of tuples of ints] -/
theorem ws_setLists {i : Nat} {y : Str} {py spos : Pos} {lls : List (List Int)} (own : List (Str × Nat)) (hc : X.calm = true) (hN : X.N.Nodup) (hy : X.N[i]? = some y) (hyl : X.env.scope.names.lookup y = some .local) (hk : X.env.scope.kind = .function) (hl : (py.line == pos.line) = true)
    (han : (scope.names.any fun (n, k) => n == y && (k == .local || k == .cell)) = false) (ok : BlkOk X.N X.env.scope scope own) (hi : ER X iter G (.d (.tuple (lls.map dT)))) (hn : lls.length ≤ 1000)
    (h : ∀ l ∈ lls, ∀ cs, ∃ G2, ∀ Y, Blk X scope Y → TgB Y tg (.d (dT l)) (own.map (·.2)) { G with sl := wipeS G.sl (own.map (·.2)), cs := cs } G2 ∧ ER Y elt G2 (.f (l.map .int)))
    (q : ∀ Da as, as.length = lls.length → D.nx { G with sl := G.sl.set i (.v (.ref Da)), cs := cellsR as lls ++ (Da, .ho (.lst (as.map V.ref))) :: G.cs })
    (hf : ∀ x, foldedSetIterable iter X.env x = pure x := by intro _; rfl) : WS X (.Assign [.Name y py] (.ListComp elt [⟨tg, iter, [], 0⟩] scope pos) spos) G D := fun σ H hs => by
  refine wS_of (ps_setLc hc hN hy hyl (sw_true hk hyl hl han) (pi_tup pE) ok pbG (fun s H C cl fp => plcT (ifs := []) s H C cl fp (Nat.zero_le _)) pbE hf) ?_
  refine wE_mono (hi σ H hs) fun v H1 q1 => ?_
  obtain ⟨l, xs, rfl, k1, k2⟩ := q1.2.1.tup
  refine ⟨l, rfl, ⟨xs, k1 _ .refl⟩, fun Da hDa => ?_⟩
  have hs1 := hs.ext q1.1
  have hz := sizeLine_eq
  have lx : xs.length = lls.length := by rw [k2.length, List.length_map]
  refine lc_tup (xs := xs) (fun i H' => ∃ as : List Addr, as.length = i ∧ (∀ a ∈ as, H1 a = none) ∧ Hs X.K (stL G (own.map (·.2)) Da as (lls.take i)) (wipe σ (own.map (·.2))) H' ∧ ExB [] H1 H') ⟨[], rfl, (fun _ z => nomatch z), ?_, ExB.new hDa⟩ (fun i H' _ ⟨as, _, _, h1, e1⟩ => sameT e1 (k1 _ .refl)) (fun i y H' hy ⟨as, la, fr, h1, e1⟩ => ?_) (fun H' ⟨as, la, fr, h1, e1⟩ => ?_)
  · have w1 : Hs X.K { G with sl := wipeS G.sl (own.map (·.2)) } (wipe σ (own.map (·.2))) H1 := ⟨⟨hs1.hh.ex, hs1.hh.nd, hs1.hh.fr, hs1.hh.out, hs1.hh.cl⟩, hs1.sl.wipe _⟩
    exact w1.addC hDa (ExB.new hDa) (show upd H1 Da (.lst []) Da = some _ from upd_same)
  · obtain ⟨d, hd, hm⟩ := k2.get' hy
    rw [List.getElem?_map] at hd
    obtain ⟨l0, hl0, rfl⟩ := Option.map_eq_some_iff.mp hd
    have hi' : i < lls.length := (List.getElem?_eq_some_iff.mp hl0).1
    have lt : as.length = (lls.take i).length := by rw [List.length_take]; omega
    have tk : lls.take (i + 1) = lls.take i ++ [l0] := by rw [List.take_add_one, hl0]; rfl
    obtain ⟨G2, hall⟩ := h l0 (List.mem_of_getElem? hl0) (cellsR as (lls.take i) ++ (Da, .ho (.lst (as.map V.ref))) :: G.cs)
    have hdav : SlOk (stL G (own.map (·.2)) Da as (lls.take i)).av X.K H' (some y) (.d (dT l0)) := by
      refine (SlOk.ofD hm : SlOk G.av X.K H1 (some y) _).to fun H2 q2 b o nb eb => ?_
      refine q2 b o (fun z => ?_) (e1 b o (fun z => nomatch z) eb)
      simp only [Gm.av, Gm.ad, List.map_append, List.map_cons, List.mem_append, List.mem_cons] at z nb
      rcases z with (z | z | z) | z
      · rw [fr b (cellsR_mem z)] at eb; cases eb
      · rw [z, hDa] at eb; cases eb
      · exact nb (.inl z)
      · exact nb (.inr z)
    intro Y hY
    obtain ⟨⟨⟨sl, rfl⟩, ht⟩, _⟩ := hall Y hY
    refine ht (wipe σ (own.map (·.2))) H' y _ (by rw [hY.K]; exact h1) (by rw [hY.K]; exact hdav) ?_
    intro σ2 hs2 w2
    refine ⟨w2.trans (wipe_wipe _ _), ?_⟩
    rw [hY.K] at hs2
    simp only [lcT, tYes]
    refine fun Y' hY' => wE_mono ((hall Y' hY').2 σ2 H' (by rw [hY'.K]; exact hs2)) fun z H4 p4 => ?_
    rw [hY'.K] at p4
    obtain ⟨e4, _, a, ys, rfl, na, a4, t4⟩ := p4
    have h4 := h1.addC (c := .ls (l0.map .int)) na e4 ⟨ys, a4, t4⟩
    have hj : ((a, Cl.ls (l0.map PyData.int)) :: (cellsR as (lls.take i) ++ (Da, Cl.ho (.lst (as.map V.ref))) :: G.cs))[i + 1]? = some (Da, .ho (.lst (as.map V.ref))) := by
      rw [List.getElem?_cons_succ, List.getElem?_append_right (by rw [cellsR_len lt]; omega), cellsR_len lt, la, Nat.sub_self]; rfl
    have hDa4 : H4 Da = some (.lst (as.map V.ref)) := h4.hh.cl _ (List.mem_of_getElem? hj)
    refine ⟨as.map V.ref, hDa4, by rw [List.length_map, la]; omega, as ++ [a], by simp [la], ?_, ?_, ?_⟩
    · intro b hb
      rcases List.mem_append.mp hb with z | z
      · exact fr b z
      · rw [List.mem_singleton.mp z]
        cases w : H1 a with
        | none => rfl
        | some o => rw [e1 a o (fun z => nomatch z) w] at na; cases na
    · have h5 := h4.putC (c' := .ho (.lst (as.map V.ref ++ [V.ref a]))) hj (ExB.at_ (o := .lst (as.map V.ref ++ [V.ref a])) (by simp)) (show upd H4 Da _ Da = some _ from upd_same)
      have eq : upK { stL G (own.map (·.2)) Da as (lls.take i) with cs := (a, Cl.ls (l0.map PyData.int)) :: (stL G (own.map (·.2)) Da as (lls.take i)).cs } (i + 1) Da (.ho (.lst (as.map V.ref ++ [V.ref a]))) = stL G (own.map (·.2)) Da (as ++ [a]) (lls.take (i + 1)) := by
        rw [tk]
        unfold stL upK
        rw [cellsR_snoc lt]
        congr 1
        show ((a, Cl.ls (l0.map PyData.int)) :: (cellsR as (lls.take i) ++ (Da, Cl.ho (.lst (as.map V.ref))) :: G.cs)).set (i + 1) _ = _
        rw [List.set_cons_succ, List.set_append_right _ _ (by rw [cellsR_len lt]; omega), cellsR_len lt, la, Nat.sub_self]
        simp
      rw [eq] at h5
      exact h5
    · intro b o _ eb
      have ne : b ≠ Da := ne_of_none eb hDa
      rw [upd_ne ne]
      exact e4 b o (fun z => nomatch z) (e1 b o (fun z => nomatch z) eb)
  · rw [lx, List.take_length] at h1
    have e2 : ExB [] H H' := q1.1.trans e1
    have fr0 : ∀ a ∈ as, H a = none := fun a ha => q1.1.fresh (fr a ha)
    have d0 : H Da = none := q1.1.fresh hDa
    have to : ∀ H2, ExB (stL G (own.map (·.2)) Da as lls).av H' H2 → ExB G.av H H2 := fun H2 q2 b o nb eb => by
      refine q2 b o (fun z => ?_) (e2 b o (fun z => nomatch z) eb)
      simp only [Gm.av, Gm.ad, List.map_append, List.map_cons, List.mem_append, List.mem_cons] at z nb
      rcases z with (z | z | z) | z
      · rw [fr0 b (cellsR_mem z)] at eb; cases eb
      · rw [z, d0] at eb; cases eb
      · exact nb (.inl z)
      · exact nb (.inr z)
    refine ⟨{ G with sl := G.sl.set i (.v (.ref Da)), cs := cellsR as lls ++ (Da, .ho (.lst (as.map V.ref))) :: G.cs }, ⟨⟨h1.hh.ex, h1.hh.nd, h1.hh.fr, h1.hh.out, h1.hh.cl⟩, SlA.set (show SlOk _ X.K H' (some (.ref Da)) (.v (.ref Da)) from rfl) i (hs.sl.to to)⟩, ⟨e2.all, fun b hb => ?_⟩, q Da as (by omega)⟩
    simp only [Gm.av, Gm.ad, List.map_append, List.map_cons, List.mem_append, List.mem_cons] at hb ⊢
    rcases hb with (z | z | z) | z
    · exact .inr (fr0 b (cellsR_mem z))
    · rw [z]; exact .inr d0
    · exact .inl (.inl z)
    · exact .inl (.inr z)
theorem ws_setListsN {i i0 : Nat} {y x : Str} {px py spos : Pos} {lls : List (List Int)} (hc : X.calm = true) (hN : X.N.Nodup) (hy : X.N[i]? = some y) (hyl : X.env.scope.names.lookup y = some .local) (hk : X.env.scope.kind = .function) (hl : (py.line == pos.line) = true)
    (han : (scope.names.any fun (n, k) => n == y && (k == .local || k == .cell)) = false) (ok : BlkOk X.N X.env.scope scope [(x, i0)]) (hi : ER X iter G (.d (.tuple (lls.map dT)))) (hn : lls.length ≤ 1000)
    (h : ∀ l ∈ lls, ∀ cs, ∀ Y, Blk X scope Y → Nl Y i0 x ∧ ER Y elt (upS { G with sl := wipeS G.sl [i0], cs := cs } i0 (.d (dT l))) (.f (l.map .int)))
    (q : ∀ Da as, as.length = lls.length → D.nx { G with sl := G.sl.set i (.v (.ref Da)), cs := cellsR as lls ++ (Da, .ho (.lst (as.map V.ref))) :: G.cs })
    (hf : ∀ x, foldedSetIterable iter X.env x = pure x := by intro _; rfl) : WS X (.Assign [.Name y py] (.ListComp elt [⟨.Name x px, iter, [], 0⟩] scope pos) spos) G D :=
  ws_setLists [(x, i0)] hc hN hy hyl hk hl han ok hi hn (fun l hl cs => ⟨_, fun Y hY => ⟨tgb_name (h l hl cs Y hY).1, (h l hl cs Y hY).2⟩⟩) q hf
/-! ### list.remove -/
theorem erase_idx (k : Int) : ∀ (ns : List Int), k ∈ ns → ∃ j, ns[j]? = some k ∧ (∀ m : Nat, m < j → ns[m]? ≠ some k) ∧ ns.eraseIdx j = ns.erase k
  | [], h => by cases h
  | n :: ns, h => by
    by_cases e : n = k
    · subst e
      exact ⟨0, rfl, fun m hm => absurd hm (Nat.not_lt_zero m), by simp⟩
    · have hm : k ∈ ns := by
        rcases List.mem_cons.mp h with z | z
        · exact absurd z.symm e
        · exact z
      obtain ⟨j, h1, h2, h3⟩ := erase_idx k ns hm
      refine ⟨j + 1, by simpa using h1, fun m hm2 => ?_, ?_⟩
      · cases m with
        | zero => simpa using e
        | succ m => rw [List.getElem?_cons_succ]; exact h2 m (by omega)
      · rw [List.eraseIdx_cons_succ, h3, List.erase_cons_tail (by simpa using e)]
theorem ws_remove {o : Expr} {a' : Addr} {j : Nat} {ns : List Int} {k : Int} {apos cpos : Pos} (ho : ER X o G (.v (.ref a'))) (hj : G.cs[j]? = some (a', .ls (ns.map .int))) (he : ER X e G (.d (.int k))) (hk : k ∈ ns) (q : D.nx (upL G j a' ((ns.erase k).map .int)))
    (hbase : attributeBase o "remove" X.env (eval o X.env) = eval o X.env := by rfl)
    (hfew : ((backTo cpos (starEach [e] X.env)).all (fun x => !x.1) && (backToKw cpos (keywordEach [] X.env)).all (fun x => x.1.isSome) && decide ([e].length + ([] : List Keyword).length + (if ([] : List Keyword).isEmpty then 0 else 1) < 30)) = true := by rfl)
    (hline : (apos.endLine == cpos.line) = true := by rfl) (hst : starEach [e] X.env = (false, eval e X.env) :: starEach [] X.env := by rfl) (hplain : (backTo cpos (starEach [] X.env)).any (·.1) = false := by rfl)
    (hsw : swapsWith (.Call (.Attribute o "remove" apos) [e] [] cpos) none pos.line X.env = pure false := by rfl) : WS X (.Expr (.Call (.Attribute o "remove" apos) [e] [] cpos) pos) G D := fun σ H hs => by
  refine wS_of (ps_expr (pe_bm PySem.F.plainAttrs_list PySem.F.slot_list_remove PySem.F.type_list_remove mt_remove pE (pa_cons pE pa_nil hst) hbase hfew hline hst hplain) hsw) ?_
  refine wE_mono (ho σ H hs) fun y H1 p1 => ?_
  have e2 : some y = some _ := p1.2.1
  cases e2
  have hs1 := hs.ext p1.1
  obtain ⟨xs0, h0, _⟩ := hs1.hh.cl _ (List.mem_of_getElem? hj)
  refine ⟨Or.inl ⟨rfl, _, SqL.of h0⟩, wE_mono (he σ H1 hs1) fun w H2 p2 => ?_⟩
  have hs2 := hs1.ext p2.1
  obtain ⟨xs, h4, h5⟩ := hs2.hh.cl _ (List.mem_of_getElem? hj)
  have e5 := h5.ints
  subst e5
  have e6 := p2.2.1.int
  subst e6
  obtain ⟨m, m1, m2, m3⟩ := erase_idx k ns hk
  refine ⟨a', ns, k, m, rfl, rfl, h4, m1, m2, upL G j a' ((ns.erase k).map .int), ?_, ?_, q⟩
  · rw [m3]; exact hs2.put hj (DmL.of_ints _)
  · exact ((Ge.refl (G := G) (p1.1.trans p2.1)).gs).trans (gs_put hj)
end
end Rd

namespace Rd
open PySem PySem.Spec PyProof.Rows L2
/-! ### walks: plays step by step -/
def Walk : Bo → Ply → List Int → Prop
  | _, [], _ => True
  | b, s :: q, d :: ds => isOverB b = false ∧ s.2 = d ∧ canGo b s.1 d = true ∧ Walk (goneB b s.1 d) q ds
  | _, _ :: _, [] => False
theorem way_walk {ds : List Int} : ∀ {b : Bo} {r : Ply × Bo}, r ∈ wayL ds b → Walk b r.1 ds := by
  induction ds with
  | nil =>
    intro b r h
    unfold wayL at h
    rw [List.mem_singleton] at h
    rw [h]; trivial
  | cons d ds ih =>
    intro b r h
    unfold wayL at h
    split at h
    · rw [List.mem_singleton] at h
      rw [h]; trivial
    · rename_i ho
      rcases mem_orSelf.mp h with h | ⟨_, h⟩
      · obtain ⟨p, _, hg, q, hq, rfl⟩ := mem_wayStep.mp h
        exact ⟨by simpa using ho, rfl, hg, ih hq⟩
      · rw [h]; trivial
theorem walk_at : ∀ {q : Ply} {b : Bo} {ds : List Int} {i : Nat} {s : Int × Int}, Walk b q ds → q[i]? = some s → isOverB (playB b (q.take i)) = false ∧ ds[i]? = some s.2 ∧ canGo (playB b (q.take i)) s.1 s.2 = true ∧ playB b (q.take (i + 1)) = goneB (playB b (q.take i)) s.1 s.2
  | [], _, _, _, _, _, h => by simp at h
  | t :: q, b, [], _, _, w, _ => w.elim
  | t :: q, b, d :: ds, 0, s, w, h => by
    obtain ⟨w1, w2, w3, w4⟩ := w
    simp at h
    subst h
    subst w2
    exact ⟨w1, rfl, w3, rfl⟩
  | t :: q, b, d :: ds, i + 1, s, w, h => by
    obtain ⟨w1, w2, w3, w4⟩ := w
    have := walk_at (i := i) (s := s) w4 (by simpa using h)
    subst w2
    simpa [playB] using this
theorem walk_len : ∀ {q : Ply} {b : Bo} {ds : List Int}, Walk b q ds → q.length ≤ ds.length
  | [], _, _, _ => Nat.zero_le _
  | _ :: _, _, [], w => w.elim
  | _ :: q, _, _ :: ds, w => by have := walk_len w.2.2.2; simpa using this
/-! ### one step -/
theorem sum_change {f g : Int → Int} {i : Int} : ∀ {L : List Int}, L.Nodup → i ∈ L → (∀ p ∈ L, p ≠ i → g p = f p) → (L.map g).sum = (L.map f).sum - f i + g i
  | [], _, h, _ => by cases h
  | p :: L, hn, h, k => by
    obtain ⟨h1, h2⟩ := List.nodup_cons.mp hn
    simp only [List.map_cons, List.sum_cons]
    by_cases e : p = i
    · subst e
      have : (L.map g) = (L.map f) := List.map_congr_left fun q hq => k q (List.mem_cons_of_mem _ hq) fun z => h1 (by rw [← z]; exact hq)
      rw [this]; omega
    · have hm : i ∈ L := by
        rcases List.mem_cons.mp h with z | z
        · exact absurd z.symm e
        · exact z
      rw [sum_change h2 hm fun q hq => k q (List.mem_cons_of_mem _ hq), k p List.mem_cons_self e]; omega
theorem pips_set0 {l : List Int} {i v : Int} (hl : l.length = 26) (h0 : 0 ≤ i) (h1 : i < 26) : pipsOf (set0 l i v) = pipsOf l - i * at0 l i + i * v := by
  unfold pipsOf
  have := sum_change (f := fun p => p * at0 l p) (g := fun p => p * at0 (set0 l i v) p) (i := i) (nodup_rng 0 26) (mem_rng.mpr ⟨h0, h1⟩) fun p hp hne => by
    have := mem_rng.mp hp
    show p * at0 (set0 l i v) p = p * at0 l p
    rw [at0_set0 h0 (by omega) this.1, if_neg hne]
  rw [this, at0_set0 h0 (by omega) h0, if_pos rfl]
theorem gone_at1 {b : Bo} {p d i : Int} (h : Bd b) (hp : 1 ≤ p ∧ p ≤ 25) (hd : isDie d = true) (hi : 0 ≤ i) : at0 (goneB b p d).1 i = at0 b.1 i - (if i = p then 1 else 0) + (if i = max 0 (p - d) then 1 else 0) := by
  have d1 := die_in hd
  have hl := h.l1
  rw [gone_1, at0_set0 (by omega) (by rw [set0_len]; omega) hi, at0_set0 (by omega) (by omega) hi, at0_set0 (by omega) (by omega) (by omega)]
  have : max 0 (p - d) ≠ p := by omega
  by_cases h1 : i = max 0 (p - d)
  · have h2 : i ≠ p := by omega
    rw [if_pos h1, if_neg this, ← h1, if_neg h2, if_pos rfl]; omega
  · rw [if_neg h1, if_neg h1]
    by_cases h2 : i = p
    · rw [if_pos h2, if_pos h2, h2]; omega
    · rw [if_neg h2, if_neg h2]; omega
/-- whether a man is met -/
def hitB (b : Bo) (p d : Int) : Bool := !decide (max 0 (p - d) = 0) && decide (at0 b.2 (25 - max 0 (p - d)) = 1)
theorem gone_2h (b : Bo) (p d : Int) : (goneB b p d).2 = if hitB b p d = true then set0 (set0 b.2 (25 - max 0 (p - d)) 0) 25 (at0 (set0 b.2 (25 - max 0 (p - d)) 0) 25 + 1) else b.2 := gone_2 b p d
theorem hit_iff {b : Bo} {p d : Int} : hitB b p d = true ↔ 0 < max 0 (p - d) ∧ at0 b.2 (25 - max 0 (p - d)) = 1 := by
  unfold hitB
  simp only [Bool.and_eq_true, Bool.not_eq_true', decide_eq_false_iff_not, decide_eq_true_eq]
  omega
theorem can_two {b : Bo} {p d : Int} (hg : canGo b p d = true) (ht : 0 < max 0 (p - d)) : at0 b.2 (25 - max 0 (p - d)) < 2 := by
  unfold canGo at hg
  split at hg
  · cases hg
  · split at hg
    · have e : max 0 (p - d) = p - d := by omega
      rw [e]; simpa using hg
    · rename_i h
      simp only [decide_eq_true_eq] at h
      omega
theorem hit_law {b : Bo} {p d : Int} (h : Bd b) (hg : canGo b p d = true) : (decide (0 < max 0 (p - d)) && decide (0 < at0 b.2 (25 - max 0 (p - d)))) = hitB b p d := by
  rw [Bool.eq_iff_iff, hit_iff]
  simp only [Bool.and_eq_true, decide_eq_true_eq]
  have := h.n2.at (25 - max 0 (p - d))
  constructor
  · rintro ⟨h1, h2⟩
    have := can_two hg h1
    exact ⟨h1, by omega⟩
  · rintro ⟨h1, h2⟩
    exact ⟨h1, by omega⟩
theorem gone_at2 {b : Bo} {p d i : Int} (h : Bd b) (hp : 1 ≤ p ∧ p ≤ 25) (hd : isDie d = true) (hi : 0 ≤ i) : at0 (goneB b p d).2 i = if hitB b p d = true then (if i = 25 then at0 b.2 25 + 1 else if i = 25 - max 0 (p - d) then 0 else at0 b.2 i) else at0 b.2 i := by
  have d1 := die_in hd
  have hl := h.l2
  rw [gone_2h]
  by_cases hh : hitB b p d = true
  · obtain ⟨h1, h2⟩ := hit_iff.mp hh
    rw [if_pos hh, if_pos hh, at0_set0 (by omega) (by rw [set0_len]; omega) hi, at0_set0 (by omega) (by omega) (by omega), at0_set0 (by omega) (by omega) hi]
    rw [if_neg (show (25 : Int) ≠ 25 - max 0 (p - d) by omega)]
  · rw [if_neg hh, if_neg hh]
theorem gone_isB {b : Bo} {p d : Int} (h : IsB b) (ho : isOverB b = false) (hd : isDie d = true) (hg : canGo b p d = true) : IsB (goneB b p d) := by
  have hb := gone_bd h.bd hd hg
  have s1 := gone_sum1 h.bd hd hg
  have s2 := gone_sum2 h.bd hd hg
  have hp := canGo_in hg
  have d1 := die_in hd
  have o2 : at0 b.2 0 ≠ b.2.sum := by
    unfold isOverB at ho
    simp only [Bool.or_eq_false_iff, decide_eq_false_iff_not] at ho
    exact ho.2
  have n2 := h.n2.le (i := 0) (by omega) (by have := h.l2; omega)
  refine ⟨hb.l1, hb.l2, hb.n1, hb.n2, by rw [s1, s2]; exact h.se, by rw [s1]; exact h.lo, by rw [s1]; exact h.hi, fun q q1 q2 => ?_, ?_⟩
  · rw [gone_at1 h.bd hp hd (by omega), gone_at2 h.bd hp hd (by omega)]
    have c := h.cl q q1 q2
    have hm := canGo_man hg
    have nn := h.n2.at (25 - q)
    by_cases e : q = max 0 (p - d)
    · right
      by_cases hh : hitB b p d = true
      · rw [if_pos hh, if_neg (by omega), if_pos (by omega)]
      · rw [if_neg hh]
        have f := can_two hg (by omega)
        rw [← e] at f
        have : ¬ at0 b.2 (25 - q) = 1 := fun z => hh (hit_iff.mpr ⟨by omega, by rw [← e]; exact z⟩)
        omega
    · by_cases e2 : q = p
      · have c2 := h.cl p (by omega) (by omega)
        right
        have c3 : at0 b.2 (25 - q) = 0 := by rw [e2]; omega
        by_cases hh : hitB b p d = true
        · rw [if_pos hh, if_neg (by omega)]
          split
          · rfl
          · exact c3
        · rw [if_neg hh]; exact c3
      · rcases c with c | c
        · left; rw [if_neg e2, if_neg e]; omega
        · right
          by_cases hh : hitB b p d = true
          · rw [if_pos hh, if_neg (by omega)]
            split
            · rfl
            · exact c
          · rw [if_neg hh]; exact c
  · right
    rw [s2, gone_at2 h.bd hp hd (by omega)]
    split
    · rename_i hh
      obtain ⟨h1, _⟩ := hit_iff.mp hh
      rw [if_neg (by omega), if_neg (by omega)]
      omega
    · omega
theorem gone_pips1 {b : Bo} {p d : Int} (h : Bd b) (hd : isDie d = true) (hg : canGo b p d = true) : pipsOf (goneB b p d).1 = pipsOf b.1 - (p - max 0 (p - d)) := by
  have hp := canGo_in hg
  have d1 := die_in hd
  have hl := h.l1
  rw [gone_1, pips_set0 (by rw [set0_len]; exact hl) (by omega) (by omega), pips_set0 hl (by omega) (by omega)]
  generalize at0 (set0 b.1 p (at0 b.1 p - 1)) (max 0 (p - d)) = x
  generalize at0 b.1 p = y
  generalize max 0 (p - d) = to
  rw [Int.mul_sub, Int.mul_add]
  omega
theorem gone_pips2 {b : Bo} {p d : Int} (h : Bd b) (hd : isDie d = true) (hg : canGo b p d = true) : pipsOf (goneB b p d).2 = pipsOf b.2 + (if hitB b p d = true then max 0 (p - d) else 0) := by
  have hp := canGo_in hg
  have d1 := die_in hd
  have hl := h.l2
  rw [gone_2h]
  by_cases hh : hitB b p d = true
  · obtain ⟨h1, h2⟩ := hit_iff.mp hh
    rw [if_pos hh, if_pos hh, pips_set0 (by rw [set0_len]; exact hl) (by omega) (by omega), pips_set0 hl (by omega) (by omega), h2]
    omega
  · rw [if_neg hh, if_neg hh]; omega
theorem gone_back {b : Bo} {p d i : Int} (h : Bd b) (hd : isDie d = true) (hg : canGo b p d = true) (h1 : 1 ≤ i) (h2 : i ≤ 24) : at0 (goneB b p d).2 i ≤ at0 b.2 i := by
  rw [gone_at2 h (canGo_in hg) hd (by omega)]
  have := h.n2.at i
  split
  · rw [if_neg (by omega)]; split <;> omega
  · omega
/-! ### along a walk -/
structure Aln (b c : Bo) : Prop where
  is : IsB c
  s1 : c.1.sum = b.1.sum
  s2 : c.2.sum = b.2.sum
  bk : ∀ i, 1 ≤ i → i ≤ 24 → at0 c.2 i ≤ at0 b.2 i
theorem walk_aln {q : Ply} {b : Bo} {ds : List Int} (hd : ∀ d ∈ ds, isDie d = true) (hb : IsB b) (w : Walk b q ds) : ∀ i, i ≤ q.length → Aln b (playB b (q.take i))
  | 0, _ => ⟨hb, rfl, rfl, fun _ _ _ => Int.le_refl _⟩
  | i + 1, hi => by
    have ih := walk_aln hd hb w i (by omega)
    obtain ⟨w1, w2, w3, w4⟩ := walk_at (s := q[i]'(by omega)) w (List.getElem?_eq_getElem (by omega))
    have die := hd _ (List.mem_of_getElem? w2)
    rw [w4]
    exact ⟨gone_isB ih.is w1 die w3, by rw [gone_sum1 ih.is.bd die w3]; exact ih.s1, by rw [gone_sum2 ih.is.bd die w3]; exact ih.s2, fun j j1 j2 => Int.le_trans (gone_back ih.is.bd die w3 j1 j2) (ih.bk j j1 j2)⟩
/-- a play's end is a board -/
theorem allPl_isB {b : Bo} {a c : Int} (ha : isDie a = true) (hc : isDie c = true) (hb : IsB b) {r : Ply × Bo} (h : r ∈ allPl b a c) : IsB r.2 := by
  obtain ⟨ds, hds, hw⟩ := found_way (mem_filt (allPl_sub h))
  have := walk_aln (dice_ok ha hc ds hds).1 hb (way_walk hw) r.1.length (Nat.le_refl _)
  rw [List.take_length, ← allPl_end h] at this
  exact this.is
end Rd

namespace Rd
open PySem PySem.Spec PyProof.Rows L2 TL
def top (i : Nat) : Stmt := PySem.Challenge.pw_racedice_k21_whole_pips.main.body.getD i (.Pass ⟨0, 0, 0, 0⟩)
abbrev s_is_side : Stmt := top 9
abbrev s_look_board : Stmt := top 10
abbrev s_turned : Stmt := top 11
abbrev s_pips_of : Stmt := top 12
abbrev s_pips : Stmt := top 13
abbrev s_look_die : Stmt := top 17
abbrev s_furthest : Stmt := top 18
abbrev s_can_go : Stmt := top 19
abbrev s_gone : Stmt := top 20
abbrev s_is_over : Stmt := top 21
abbrev s_look_roll : Stmt := top 23
abbrev s_dice_of : Stmt := top 24
abbrev s_ways : Stmt := top 25
abbrev s_all_plays : Stmt := top 26
abbrev s_plays : Stmt := top 27
abbrev s_played : Stmt := top 28
abbrev s_law_cell : Stmt := top 30
abbrev s_law_mix : Stmt := top 31
abbrev s_law_draw : Stmt := top 32
abbrev s_law_pick : Stmt := top 33
abbrev s_law_place : Stmt := top 34
abbrev s_law_board : Stmt := top 35
abbrev s_law_roll : Stmt := top 36
abbrev s_law_right : Stmt := top 37
abbrev s_law : Stmt := top 38
structure Tx (M : Md) : Prop where
  b_ValueError : M.mg "ValueError" = none
  b_all : M.mg "all" = none
  b_len : M.mg "len" = none
  b_list : M.mg "list" = none
  b_max : M.mg "max" = none
  b_min : M.mg "min" = none
  b_range : M.mg "range" = none
  b_set : M.mg "set" = none
  b_sorted : M.mg "sorted" = none
  b_sum : M.mg "sum" = none
  b_tuple : M.mg "tuple" = none
  k_BAR : ∃ t, M.mg "BAR" = some (.int 25 t)
  k_OFF : ∃ t, M.mg "OFF" = some (.int 0 t)
  k_MOST_MEN : ∃ t, M.mg "MOST_MEN" = some (.int 15 t)
  k_HOME : ∃ t, M.mg "HOME" = some (.int 6 t)
  k_FACES : ∃ t, M.mg "FACES" = some (.int 6 t)
  e_RaceError : EcM M "RaceError"
  e_BadBoard : EcM M "BadBoard"
  e_BadPlay : EcM M "BadPlay"
  e_BadRoll : EcM M "BadRoll"
end Rd

namespace Rd
open PySem PySem.Spec PyProof.Rows L2 TL
local macro_rules | `(tactic| wtm_at "r_sd") => `(tactic| first | assumption | omega | decide | (simp only [List.length_cons, List.length_nil, List.length_append, List.length_map, List.length_replicate, List.length_set, sizeLine_eq]; omega) | (simp; omega))
local macro_rules | `(tactic| wtm_at "r_as") => `(tactic| (with_reducible assumption))
local macro_rules | `(tactic| wtm_at "r_nm") => `(tactic| ((with_reducible show ER _ (.Name _ _) _ _); first
  | ((with_reducible apply er_name); wtm_at "r_as"; exact rfl)
  | ((with_reducible apply er_nameL); wtm_at "r_as"; exact rfl)
  | ((with_reducible apply er_nameV); wtm_at "r_as"; exact rfl)
  | ((with_reducible apply er_nameX); wtm_at "r_as"; exact rfl)
  | ((with_reducible apply er_gcI); wtm_at "r_as")
  | ((with_reducible apply er_gcS); wtm_at "r_as")
  | ((with_reducible apply Bt.ty); wtm_at "r_as")
  | ((with_reducible apply er_gcV); wtm_at "r_as")
  | ((with_reducible apply Ec.er); wtm_at "r_as")))
local macro_rules | `(tactic| wtm_at "r_lv") => `(tactic| first | (with_reducible exact Lv.d) | (with_reducible exact Lv.f) | (with_reducible exact Lv.l) | exact Lv.c 0 rfl | exact Lv.c 1 rfl | exact Lv.c 2 rfl)
local macro_rules | `(tactic| wtm_at "r_tv") => `(tactic| first | (with_reducible exact Tv.f) | (with_reducible exact Tv.l) | exact Tv.c 0 rfl | exact Tv.c 1 rfl | exact Tv.c 2 rfl)
local macro_rules | `(tactic| wtm_at "r_vw") => `(tactic| first | (with_reducible exact Vw.d) | (with_reducible exact Vw.f) | (with_reducible exact Vw.l) | exact Vw.c 0 rfl | exact Vw.c 1 rfl | exact Vw.c 2 rfl)
local macro_rules | `(tactic| wtm_at "r_dt") => `(tactic| first | (with_reducible exact DtL.nil) | ((with_reducible apply DtL.cons); (first | (with_reducible exact Dt.d) | (with_reducible exact Dt.f) | (with_reducible exact Dt.l)); wtm_at "r_dt"))
local macro_rules | `(tactic| wtm_at "r_op") => `(tactic| first
  | (with_reducible exact o_add) | (with_reducible exact o_sub) | (with_reducible exact o_lt) | (with_reducible exact o_le) | (with_reducible exact o_gt) | (with_reducible exact o_ge)
  | (with_reducible exact o_eqI) | (with_reducible exact o_neI) | (with_reducible exact o_eqN) | (with_reducible exact o_neN) | (with_reducible exact o_inN) | (with_reducible exact o_notInN) | (with_reducible exact o_eqS) | (with_reducible exact o_neS)
  | ((with_reducible apply o_mod); wtm_at "r_sd")
  | ((with_reducible apply o_div); (first | exact ⟨by decide, by decide⟩ | exact ⟨by omega, by omega⟩))
  | ((with_reducible apply o_isN); (exact fun z => nomatch z); (first | exact fun _ z => nomatch z | exact fun y z => ⟨_, (Sl.v.inj z).symm⟩))
  | ((with_reducible apply o_notN); (exact fun z => nomatch z); (first | exact fun _ z => nomatch z | exact fun y z => ⟨_, (Sl.v.inj z).symm⟩))
  | ((with_reducible apply o_mul); (first | exact Or.inl ⟨by omega, by omega⟩ | exact Or.inr ⟨by omega, by omega⟩))
  | ((with_reducible apply o_inI); wtm_at "r_lv")
  | ((with_reducible apply o_catTI); wtm_at "r_sd")
  | ((with_reducible apply o_catT); wtm_at "r_sd")
  | ((with_reducible apply o_catLI); wtm_at "r_tv"; wtm_at "r_tv"; wtm_at "r_sd")
  | ((with_reducible apply o_catL); wtm_at "r_tv"; wtm_at "r_tv"; wtm_at "r_sd")
  | ((with_reducible apply o_catN); wtm_at "r_sd")
  | ((with_reducible apply o_catS); wtm_at "r_sd")
  | ((with_reducible apply o_rep0); wtm_at "r_sd"; wtm_at "r_sd")
  | ((with_reducible apply o_repL); wtm_at "r_tv"; wtm_at "r_sd"; wtm_at "r_sd"; wtm_at "r_sd")
  | ((with_reducible apply o_repT); (exact fun z => nomatch z); wtm_at "r_sd"; wtm_at "r_sd"; wtm_at "r_sd")
  | ((with_reducible apply o_eqD); assumption; wtm_at "r_vw"; wtm_at "r_vw"; wtm_at "r_dp")
  | ((with_reducible apply o_neD); assumption; wtm_at "r_vw"; wtm_at "r_vw"; wtm_at "r_dp"))
local macro_rules | `(tactic| wtm_at "r_dp") => `(tactic| first | assumption | (exact dep_l (by wtm_at "r_de")) | (exact dep_r (by wtm_at "r_de")))
local macro_rules | `(tactic| wtm_at "r_de") => `(tactic| first | (exact dep_ints _) | (exact dep_intsL _) | (simp only [PyData.depth, PyData.depthAll, PySem.W.depth_ints]; omega))
local macro_rules | `(tactic| wtm_at "r_ix") => `(tactic| first
  | ((with_reducible apply o_ixTI); wtm_at "r_sd"; wtm_at "r_sd")
  | ((with_reducible apply o_ixT); (exact rfl))
  | ((with_reducible apply o_ixLI); wtm_at "r_lv"; wtm_at "r_sd"; wtm_at "r_sd")
  | ((with_reducible apply o_ixL); wtm_at "r_lv"; (exact rfl))
  | ((with_reducible apply o_ixN); wtm_at "r_sd"; (exact rfl)) | (exact o_ixH 0 rfl rfl) | (exact o_ixH 1 rfl rfl) | (exact o_ixH 2 rfl rfl))
local macro_rules | `(tactic| wtm_at "r_sl") => `(tactic| first | (with_reducible exact o_slTI) | (with_reducible exact o_slT) | ((with_reducible apply o_slLI); wtm_at "r_lv") | ((with_reducible apply o_slL); wtm_at "r_lv") | ((with_reducible apply o_slN); wtm_at "r_sd") | ((with_reducible apply o_slS); wtm_at "r_sd"))
local macro_rules | `(tactic| wtm_at "r_cb") => `(tactic| first
  | (with_reducible exact b_lenTI) | (with_reducible exact b_lenT) | ((with_reducible apply b_len); wtm_at "r_lv") | ((with_reducible apply b_lenN); wtm_at "r_sd") | ((with_reducible apply b_lenS); wtm_at "r_sd")
  | ((with_reducible apply b_sumT); assumption) | ((with_reducible apply b_sum); assumption; wtm_at "r_lv") | ((with_reducible apply b_sumM); assumption; wtm_at "r_lv")
  | ((with_reducible apply b_all); assumption; wtm_at "r_lv") | ((with_reducible apply b_allM); assumption; wtm_at "r_lv") | ((with_reducible apply b_any); assumption; wtm_at "r_lv") | ((with_reducible apply b_anyM); assumption; wtm_at "r_lv")
  | ((with_reducible apply b_tuple); wtm_at "r_lv") | (with_reducible exact b_listT) | ((with_reducible apply b_list); wtm_at "r_lv")
  | ((with_reducible apply b_max2); assumption) | ((with_reducible apply b_min2); assumption)
  | ((with_reducible apply b_maxT); assumption; assumption; wtm_at "r_ne") | ((with_reducible apply b_max); assumption; assumption; wtm_at "r_lv"; wtm_at "r_ne") | ((with_reducible apply b_maxM); assumption; assumption; wtm_at "r_lv"; wtm_at "r_ne")
  | ((with_reducible apply b_minT); assumption; assumption; wtm_at "r_ne") | ((with_reducible apply b_min); assumption; assumption; wtm_at "r_lv"; wtm_at "r_ne") | ((with_reducible apply b_minM); assumption; assumption; wtm_at "r_lv"; wtm_at "r_ne")
  | (with_reducible exact b_intB) | (with_reducible exact b_abs) | ((with_reducible apply b_strI); wtm_at "r_sd"; wtm_at "r_sd") | ((with_reducible apply b_str); wtm_at "r_sd")
  | ((with_reducible apply b_isXM); wtm_at "r_as"; wtm_at "r_as"; (decide)) | ((with_reducible apply b_isXV); wtm_at "r_as"; wtm_at "r_as")
  | ((with_reducible apply b_isBool); wtm_at "r_vw") | ((with_reducible apply b_isInt); wtm_at "r_vw") | ((with_reducible apply b_isTuple); wtm_at "r_vw"))
local macro_rules | `(tactic| wtm_at "r_R") => `(tactic| first | exact ⟨_, rfl, rfl⟩ | exact ⟨_, rfl, by wtm_at "r_sd", rfl⟩ | exact ⟨_, rfl, by wtm_at "r_sd", by wtm_at "r_sd", rfl⟩)
local macro_rules | `(tactic| wtm_at "r_ne") => `(tactic| first | assumption | (exact fun z => nomatch z))
local macro_rules | `(tactic| wtm_at "r_er") => `(tactic| first
  | wtm_at "r_nm"
  | (with_reducible exact er_int) | (with_reducible exact er_str) | (with_reducible exact er_bl) | (with_reducible exact er_non)
  | ((with_reducible show ER _ (.BinOp _ _ _ _) _ _); (with_reducible apply er_bin); wtm_at "r_er"; wtm_at "r_er"; wtm_at "r_op")
  | ((with_reducible show ER _ (.Subscript _ (.Slice _ _ none _) _) _ _); (with_reducible apply er_sl); wtm_at "r_er"; wtm_at "r_eo"; wtm_at "r_eo"; wtm_at "r_sl")
  | ((with_reducible show ER _ (.Subscript _ _ _) _ _); (with_reducible apply er_ix); wtm_at "r_er"; wtm_at "r_er"; wtm_at "r_ix"; (exact fun _ _ => rfl))
  | ((with_reducible show ER _ (.Compare _ [_] _ _) _ _); (with_reducible apply er_cmp); wtm_at "r_er"; wtm_at "r_er"; wtm_at "r_op"; (first | exact nomark _ | rfl))
  | ((with_reducible show ER _ (.Call (.Name _ _) (_ :: _) _ _) _ _); first
    | ((with_reducible apply er_cb); wtm_at "r_as"; wtm_at "r_ea"; wtm_at "r_cb"; (exact rfl); (exact rfl))
    | ((with_reducible apply er_ct); wtm_at "r_as"; wtm_at "r_ea"; wtm_at "r_cb"; (exact rfl); (exact rfl))
    | ((with_reducible apply er_call); wtm_at "r_as"; wtm_at "r_ea"; wtm_at "r_dt"; wtm_at "r_R"; (exact rfl); (exact rfl)))
  | ((with_reducible show ER _ (.Call (.Name _ _) [] _ _) _ _); (with_reducible apply er_call0); wtm_at "r_as"; wtm_at "r_R")
  | ((with_reducible show ER _ (.ListComp _ _ _ _) _ _); (with_reducible apply er_lc); wtm_at "r_lc")
  | ((with_reducible show ER _ (.Tuple _ _ _) _ _); (exact er_litT rfl))
  | ((with_reducible show ER _ (.List _ _) _ _); (exact er_litL rfl (by decide)))
  | ((with_reducible show ER _ (.Tuple _ _ _) _ _); (with_reducible apply er_tup); wtm_at "r_ea"; wtm_at "r_dt"; wtm_at "r_sd")
  | ((with_reducible show ER _ (.List _ _) _ _); (with_reducible apply er_lst); wtm_at "r_ea"; wtm_at "r_dt"; wtm_at "r_sd")
  | ((with_reducible show ER _ (.UnaryOp .USub _ _) _ _); (with_reducible apply er_neg); wtm_at "r_er")
  | ((with_reducible show ER _ (.UnaryOp .Not _ _) _ _); (with_reducible apply er_not); wtm_at "r_er")
  | ((with_reducible show ER _ (.BoolOp .Or (_ :: _ :: _) _) _ _); (with_reducible apply er_or); wtm_at "r_er"; (intro _; wtm_at "r_er"))
  | ((with_reducible show ER _ (.BoolOp .And (_ :: _ :: _) _) _ _); (with_reducible apply er_and); wtm_at "r_er"; (intro _; wtm_at "r_er"))
  | ((with_reducible show ER _ (.BoolOp _ [_] _) _ _); (with_reducible apply er_one); wtm_at "r_er")
  | ((with_reducible show ER _ (.IfExp _ _ _ _) _ _); first
    | ((with_reducible apply er_ifI); wtm_at "r_tr"; (intro _; wtm_at "r_er"); (intro _; wtm_at "r_er"))
    | ((with_reducible apply er_ifD); wtm_at "r_tr"; (intro _; wtm_at "r_er"); (intro _; wtm_at "r_er")))
  | ((with_reducible show ER _ (.Compare _ [_, _] _ _) _ _); (with_reducible apply er_chain); wtm_at "r_er"; wtm_at "r_er"; wtm_at "r_op"; (intro _; wtm_at "r_er"); (intro _; wtm_at "r_op"); (with_unfolding_all rfl)))
local macro_rules | `(tactic| wtm_at "r_eo") => `(tactic| first | (with_reducible exact eo_none) | ((with_reducible apply eo_some); wtm_at "r_er"))
local macro_rules | `(tactic| wtm_at "r_ea") => `(tactic| first
  | (with_reducible exact ea_nil)
  | ((with_reducible apply ea_cons); wtm_at "r_er"; wtm_at "r_ea"; (exact rfl)))
local macro_rules | `(tactic| wtm_at "r_tr") => `(tactic| first
  | ((with_reducible show TR _ (.Compare _ [_] _ _) _ _); (with_reducible apply tr_cmp); wtm_at "r_er"; wtm_at "r_er"; wtm_at "r_op"; (first | exact nomark _ | rfl))
  | ((with_reducible show TR _ (.Compare _ [_, _] _ _) _ _); (with_reducible apply tr_chain); wtm_at "r_er"; wtm_at "r_er"; wtm_at "r_op"; (intro _; wtm_at "r_er"); (intro _; wtm_at "r_op"); (with_unfolding_all rfl))
  | ((with_reducible show TR _ (.BoolOp _ _ _) _ _); (with_reducible apply TW.tr); wtm_at "r_tw")
  | ((with_reducible show TR _ (.UnaryOp .Not _ _) _ _); (with_reducible apply tr_not); wtm_at "r_tr")
  | ((with_reducible apply tr_val); wtm_at "r_er"; wtm_at "r_vw"; (exact rfl); (intro _; rfl)))
local macro_rules | `(tactic| wtm_at "r_tw") => `(tactic| first
  | ((with_reducible show TW _ (.BoolOp .Or [_] _) _ _); (with_reducible apply tw_or1); wtm_at "r_tr")
  | ((with_reducible show TW _ (.BoolOp .And [_] _) _ _); (with_reducible apply tw_and1); wtm_at "r_tr")
  | ((with_reducible show TW _ (.BoolOp .Or (_ :: _ :: _) _) _ _); (with_reducible apply tw_or); wtm_at "r_tr"; (intro _; wtm_at "r_tw"))
  | ((with_reducible show TW _ (.BoolOp .And (_ :: _ :: _) _) _ _); (with_reducible apply tw_and); wtm_at "r_tr"; (intro _; wtm_at "r_tw")))
local macro_rules | `(tactic| wtm_at "s_ret") => `(tactic| ((with_reducible apply ws_ret); (with_reducible apply we_p); wtm_at "r_er"))
local macro_rules | `(tactic| wtm_at "s_set") => `(tactic| ((with_reducible apply ws_set); wtm_at "r_as"; (with_reducible apply we_p); wtm_at "r_er"))
local macro_rules | `(tactic| wtm_at "s_sto") => `(tactic| ((with_reducible apply ws_storeI); wtm_at "r_er"; wtm_at "r_er"; wtm_at "r_er"; first | exact (rfl : _[0]? = _) | exact (rfl : _[1]? = _) | exact (rfl : _[2]? = _)))

set_option hygiene false in
local macro_rules | `(tactic| wtm_at "r_lc") => `(tactic| (
  refine lcTm PyData.int l (fun x => .bool (decide (0 ≤ x))) [("many", 1)] cf.calm cf.nd (cf.bok (by decide +kernel)) (by wtm_at "r_er") (by rw [sizeLine_eq]; omega) (fun _ => rfl) (fun x hx => ?_)
  refine lcok_n cf rfl (by decide +kernel) Dt.d (fun Y Da acc hY cfY => ?_)
  wtm_at "r_blk"))
set_option hygiene false in
local macro_rules | `(tactic| wtm_at "r_blk") => `(tactic| (
  have hu := cfY.un
  have hc := cfY.calm
  have hN := cfY.nd
  have n_many := cfY.nm (x := "many") 1 rfl (by decide +kernel)
  wtm_at "r_er"))
theorem sc_is_side : FnScope ["side", "many"] ["side"] (defScope s_is_side) := ⟨rfl, rfl, rfl, by decide +kernel, rfl, by decide +kernel, by decide +kernel⟩
theorem ok_is_side {M : Md} {f : Addr} {fd : FuncData} (T : Tx M) (F : FnP M.K "is_side" s_is_side f fd) (hm : M.mg "is_side" = some (.ref f)) : Df M "is_side" R_is_side 1 := by
  refine fnR F hm (F.bindsN fun _ _ _ _ _ _ us hl => match us, hl with | [_], _ => rfl) sc_is_side ?hlen ?hbody
  case hlen => rintro ds r ⟨l, rfl, _⟩; rfl
  case hbody =>
    rintro X cf fn A B ds r ⟨l, rfl, hl, rfl⟩ hx
    have hu := cf.un
    have hc := cf.calm
    have hN := cf.nd
    have n_side := cf.nm (x := "side") 0 rfl (by decide +kernel)
    have b_len := cf.bt (x := "len") (f := .builtin "len") (by decide +kernel) T.b_len (by decide +kernel)
    have g_BAR := cf.gc (x := "BAR") (v := .int 25) (by decide +kernel) (by obtain ⟨t, h⟩ := T.k_BAR; exact ⟨_, h, t, rfl⟩)
    have b_all := cf.bt (x := "all") (f := .builtin "all") (by decide +kernel) T.b_all (by decide +kernel)
    have b_sum := cf.bt (x := "sum") (f := .builtin "sum") (by decide +kernel) T.b_sum (by decide +kernel)
    have g_MOST_MEN := cf.gc (x := "MOST_MEN") (v := .int 15) (by decide +kernel) (by obtain ⟨t, h⟩ := T.k_MOST_MEN; exact ⟨_, h, t, rfl⟩)
    with_unfolding_all apply wb_cons
    apply ws_if
    · wtm_at "r_tr"
    · intro h
      apply wb_one; apply ws_ret; apply we_p
      · wtm_at "r_er"
      · refine ⟨rfl, rfl, _, rfl, ?_⟩
        rw [isSide, h]; exact .d
    · intro h
      apply wb_nil
      apply wb_one; apply ws_ret; apply we_p
      · wtm_at "r_er"
      · refine ⟨rfl, rfl, _, rfl, ?_⟩
        rw [isSide, h]; exact .d
end Rd

namespace Rd
open PySem PySem.Spec PyProof.Rows L2 TL
local macro_rules | `(tactic| wtm_at "r_sd") => `(tactic| first | assumption | omega | decide | (simp only [List.length_cons, List.length_nil, List.length_append, List.length_map, List.length_replicate, List.length_set, sizeLine_eq]; omega) | (simp; omega))
local macro_rules | `(tactic| wtm_at "r_as") => `(tactic| (with_reducible assumption))
local macro_rules | `(tactic| wtm_at "r_nm") => `(tactic| ((with_reducible show ER _ (.Name _ _) _ _); first
  | ((with_reducible apply er_name); wtm_at "r_as"; exact rfl)
  | ((with_reducible apply er_nameL); wtm_at "r_as"; exact rfl)
  | ((with_reducible apply er_nameV); wtm_at "r_as"; exact rfl)
  | ((with_reducible apply er_nameX); wtm_at "r_as"; exact rfl)
  | ((with_reducible apply er_gcI); wtm_at "r_as")
  | ((with_reducible apply er_gcS); wtm_at "r_as")
  | ((with_reducible apply Bt.ty); wtm_at "r_as")
  | ((with_reducible apply er_gcV); wtm_at "r_as")
  | ((with_reducible apply Ec.er); wtm_at "r_as")))
local macro_rules | `(tactic| wtm_at "r_lv") => `(tactic| first | (with_reducible exact Lv.d) | (with_reducible exact Lv.f) | (with_reducible exact Lv.l) | exact Lv.c 0 rfl | exact Lv.c 1 rfl | exact Lv.c 2 rfl)
local macro_rules | `(tactic| wtm_at "r_tv") => `(tactic| first | (with_reducible exact Tv.f) | (with_reducible exact Tv.l) | exact Tv.c 0 rfl | exact Tv.c 1 rfl | exact Tv.c 2 rfl)
local macro_rules | `(tactic| wtm_at "r_vw") => `(tactic| first | (with_reducible exact Vw.d) | (with_reducible exact Vw.f) | (with_reducible exact Vw.l) | exact Vw.c 0 rfl | exact Vw.c 1 rfl | exact Vw.c 2 rfl)
local macro_rules | `(tactic| wtm_at "r_dt") => `(tactic| first | (with_reducible exact DtL.nil) | ((with_reducible apply DtL.cons); (first | (with_reducible exact Dt.d) | (with_reducible exact Dt.f) | (with_reducible exact Dt.l)); wtm_at "r_dt"))
local macro_rules | `(tactic| wtm_at "r_op") => `(tactic| first
  | (with_reducible exact o_add) | (with_reducible exact o_sub) | (with_reducible exact o_lt) | (with_reducible exact o_le) | (with_reducible exact o_gt) | (with_reducible exact o_ge)
  | (with_reducible exact o_eqI) | (with_reducible exact o_neI) | (with_reducible exact o_eqN) | (with_reducible exact o_neN) | (with_reducible exact o_inN) | (with_reducible exact o_notInN) | (with_reducible exact o_eqS) | (with_reducible exact o_neS)
  | ((with_reducible apply o_mod); wtm_at "r_sd")
  | ((with_reducible apply o_div); (first | exact ⟨by decide, by decide⟩ | exact ⟨by omega, by omega⟩))
  | ((with_reducible apply o_isN); (exact fun z => nomatch z); (first | exact fun _ z => nomatch z | exact fun y z => ⟨_, (Sl.v.inj z).symm⟩))
  | ((with_reducible apply o_notN); (exact fun z => nomatch z); (first | exact fun _ z => nomatch z | exact fun y z => ⟨_, (Sl.v.inj z).symm⟩))
  | ((with_reducible apply o_mul); (first | exact Or.inl ⟨by omega, by omega⟩ | exact Or.inr ⟨by omega, by omega⟩))
  | ((with_reducible apply o_inI); wtm_at "r_lv")
  | ((with_reducible apply o_catTI); wtm_at "r_sd")
  | ((with_reducible apply o_catT); wtm_at "r_sd")
  | ((with_reducible apply o_catLI); wtm_at "r_tv"; wtm_at "r_tv"; wtm_at "r_sd")
  | ((with_reducible apply o_catL); wtm_at "r_tv"; wtm_at "r_tv"; wtm_at "r_sd")
  | ((with_reducible apply o_catN); wtm_at "r_sd")
  | ((with_reducible apply o_catS); wtm_at "r_sd")
  | ((with_reducible apply o_rep0); wtm_at "r_sd"; wtm_at "r_sd")
  | ((with_reducible apply o_repL); wtm_at "r_tv"; wtm_at "r_sd"; wtm_at "r_sd"; wtm_at "r_sd")
  | ((with_reducible apply o_repT); (exact fun z => nomatch z); wtm_at "r_sd"; wtm_at "r_sd"; wtm_at "r_sd")
  | ((with_reducible apply o_eqD); assumption; wtm_at "r_vw"; wtm_at "r_vw"; wtm_at "r_dp")
  | ((with_reducible apply o_neD); assumption; wtm_at "r_vw"; wtm_at "r_vw"; wtm_at "r_dp"))
local macro_rules | `(tactic| wtm_at "r_dp") => `(tactic| first | assumption | (exact dep_l (by wtm_at "r_de")) | (exact dep_r (by wtm_at "r_de")))
local macro_rules | `(tactic| wtm_at "r_de") => `(tactic| first | (exact dep_ints _) | (exact dep_intsL _) | (simp only [PyData.depth, PyData.depthAll, PySem.W.depth_ints]; omega))
local macro_rules | `(tactic| wtm_at "r_ix") => `(tactic| first
  | ((with_reducible apply o_ixTI); wtm_at "r_sd"; wtm_at "r_sd")
  | ((with_reducible apply o_ixT); (exact rfl))
  | ((with_reducible apply o_ixLI); wtm_at "r_lv"; wtm_at "r_sd"; wtm_at "r_sd")
  | ((with_reducible apply o_ixL); wtm_at "r_lv"; (exact rfl))
  | ((with_reducible apply o_ixN); wtm_at "r_sd"; (exact rfl)) | (exact o_ixH 0 rfl rfl) | (exact o_ixH 1 rfl rfl) | (exact o_ixH 2 rfl rfl))
local macro_rules | `(tactic| wtm_at "r_sl") => `(tactic| first | (with_reducible exact o_slTI) | (with_reducible exact o_slT) | ((with_reducible apply o_slLI); wtm_at "r_lv") | ((with_reducible apply o_slL); wtm_at "r_lv") | ((with_reducible apply o_slN); wtm_at "r_sd") | ((with_reducible apply o_slS); wtm_at "r_sd"))
local macro_rules | `(tactic| wtm_at "r_cb") => `(tactic| first
  | (with_reducible exact b_lenTI) | (with_reducible exact b_lenT) | ((with_reducible apply b_len); wtm_at "r_lv") | ((with_reducible apply b_lenN); wtm_at "r_sd") | ((with_reducible apply b_lenS); wtm_at "r_sd")
  | ((with_reducible apply b_sumT); assumption) | ((with_reducible apply b_sum); assumption; wtm_at "r_lv") | ((with_reducible apply b_sumM); assumption; wtm_at "r_lv")
  | ((with_reducible apply b_all); assumption; wtm_at "r_lv") | ((with_reducible apply b_allM); assumption; wtm_at "r_lv") | ((with_reducible apply b_any); assumption; wtm_at "r_lv") | ((with_reducible apply b_anyM); assumption; wtm_at "r_lv")
  | ((with_reducible apply b_tuple); wtm_at "r_lv") | (with_reducible exact b_listT) | ((with_reducible apply b_list); wtm_at "r_lv")
  | ((with_reducible apply b_max2); assumption) | ((with_reducible apply b_min2); assumption)
  | ((with_reducible apply b_maxT); assumption; assumption; wtm_at "r_ne") | ((with_reducible apply b_max); assumption; assumption; wtm_at "r_lv"; wtm_at "r_ne") | ((with_reducible apply b_maxM); assumption; assumption; wtm_at "r_lv"; wtm_at "r_ne")
  | ((with_reducible apply b_minT); assumption; assumption; wtm_at "r_ne") | ((with_reducible apply b_min); assumption; assumption; wtm_at "r_lv"; wtm_at "r_ne") | ((with_reducible apply b_minM); assumption; assumption; wtm_at "r_lv"; wtm_at "r_ne")
  | (with_reducible exact b_intB) | (with_reducible exact b_abs) | ((with_reducible apply b_strI); wtm_at "r_sd"; wtm_at "r_sd") | ((with_reducible apply b_str); wtm_at "r_sd")
  | ((with_reducible apply b_isXM); wtm_at "r_as"; wtm_at "r_as"; (decide)) | ((with_reducible apply b_isXV); wtm_at "r_as"; wtm_at "r_as")
  | ((with_reducible apply b_isBool); wtm_at "r_vw") | ((with_reducible apply b_isInt); wtm_at "r_vw") | ((with_reducible apply b_isTuple); wtm_at "r_vw"))
local macro_rules | `(tactic| wtm_at "r_R") => `(tactic| first | exact ⟨_, rfl, rfl⟩ | exact ⟨_, rfl, by wtm_at "r_sd", rfl⟩ | exact ⟨_, rfl, by wtm_at "r_sd", by wtm_at "r_sd", rfl⟩)
local macro_rules | `(tactic| wtm_at "r_ne") => `(tactic| first | assumption | (exact fun z => nomatch z))
local macro_rules | `(tactic| wtm_at "r_er") => `(tactic| first
  | wtm_at "r_nm"
  | (with_reducible exact er_int) | (with_reducible exact er_str) | (with_reducible exact er_bl) | (with_reducible exact er_non)
  | ((with_reducible show ER _ (.BinOp _ _ _ _) _ _); (with_reducible apply er_bin); wtm_at "r_er"; wtm_at "r_er"; wtm_at "r_op")
  | ((with_reducible show ER _ (.Subscript _ (.Slice _ _ none _) _) _ _); (with_reducible apply er_sl); wtm_at "r_er"; wtm_at "r_eo"; wtm_at "r_eo"; wtm_at "r_sl")
  | ((with_reducible show ER _ (.Subscript _ _ _) _ _); (with_reducible apply er_ix); wtm_at "r_er"; wtm_at "r_er"; wtm_at "r_ix"; (exact fun _ _ => rfl))
  | ((with_reducible show ER _ (.Compare _ [_] _ _) _ _); (with_reducible apply er_cmp); wtm_at "r_er"; wtm_at "r_er"; wtm_at "r_op"; (first | exact nomark _ | rfl))
  | ((with_reducible show ER _ (.Call (.Name _ _) (_ :: _) _ _) _ _); first
    | ((with_reducible apply er_cb); wtm_at "r_as"; wtm_at "r_ea"; wtm_at "r_cb"; (exact rfl); (exact rfl))
    | ((with_reducible apply er_ct); wtm_at "r_as"; wtm_at "r_ea"; wtm_at "r_cb"; (exact rfl); (exact rfl))
    | ((with_reducible apply er_call); wtm_at "r_as"; wtm_at "r_ea"; wtm_at "r_dt"; wtm_at "r_R"; (exact rfl); (exact rfl)))
  | ((with_reducible show ER _ (.Call (.Name _ _) [] _ _) _ _); (with_reducible apply er_call0); wtm_at "r_as"; wtm_at "r_R")
  | ((with_reducible show ER _ (.ListComp _ _ _ _) _ _); (with_reducible apply er_lc); wtm_at "r_lc")
  | ((with_reducible show ER _ (.Tuple _ _ _) _ _); (exact er_litT rfl))
  | ((with_reducible show ER _ (.List _ _) _ _); (exact er_litL rfl (by decide)))
  | ((with_reducible show ER _ (.Tuple _ _ _) _ _); (with_reducible apply er_tup); wtm_at "r_ea"; wtm_at "r_dt"; wtm_at "r_sd")
  | ((with_reducible show ER _ (.List _ _) _ _); (with_reducible apply er_lst); wtm_at "r_ea"; wtm_at "r_dt"; wtm_at "r_sd")
  | ((with_reducible show ER _ (.UnaryOp .USub _ _) _ _); (with_reducible apply er_neg); wtm_at "r_er")
  | ((with_reducible show ER _ (.UnaryOp .Not _ _) _ _); (with_reducible apply er_not); wtm_at "r_er")
  | ((with_reducible show ER _ (.BoolOp .Or (_ :: _ :: _) _) _ _); (with_reducible apply er_or); wtm_at "r_er"; (intro _; wtm_at "r_er"))
  | ((with_reducible show ER _ (.BoolOp .And (_ :: _ :: _) _) _ _); (with_reducible apply er_and); wtm_at "r_er"; (intro _; wtm_at "r_er"))
  | ((with_reducible show ER _ (.BoolOp _ [_] _) _ _); (with_reducible apply er_one); wtm_at "r_er")
  | ((with_reducible show ER _ (.IfExp _ _ _ _) _ _); first
    | ((with_reducible apply er_ifI); wtm_at "r_tr"; (intro _; wtm_at "r_er"); (intro _; wtm_at "r_er"))
    | ((with_reducible apply er_ifD); wtm_at "r_tr"; (intro _; wtm_at "r_er"); (intro _; wtm_at "r_er")))
  | ((with_reducible show ER _ (.Compare _ [_, _] _ _) _ _); (with_reducible apply er_chain); wtm_at "r_er"; wtm_at "r_er"; wtm_at "r_op"; (intro _; wtm_at "r_er"); (intro _; wtm_at "r_op"); (with_unfolding_all rfl)))
local macro_rules | `(tactic| wtm_at "r_eo") => `(tactic| first | (with_reducible exact eo_none) | ((with_reducible apply eo_some); wtm_at "r_er"))
local macro_rules | `(tactic| wtm_at "r_ea") => `(tactic| first
  | (with_reducible exact ea_nil)
  | ((with_reducible apply ea_cons); wtm_at "r_er"; wtm_at "r_ea"; (exact rfl)))
local macro_rules | `(tactic| wtm_at "r_tr") => `(tactic| first
  | ((with_reducible show TR _ (.Compare _ [_] _ _) _ _); (with_reducible apply tr_cmp); wtm_at "r_er"; wtm_at "r_er"; wtm_at "r_op"; (first | exact nomark _ | rfl))
  | ((with_reducible show TR _ (.Compare _ [_, _] _ _) _ _); (with_reducible apply tr_chain); wtm_at "r_er"; wtm_at "r_er"; wtm_at "r_op"; (intro _; wtm_at "r_er"); (intro _; wtm_at "r_op"); (with_unfolding_all rfl))
  | ((with_reducible show TR _ (.BoolOp _ _ _) _ _); (with_reducible apply TW.tr); wtm_at "r_tw")
  | ((with_reducible show TR _ (.UnaryOp .Not _ _) _ _); (with_reducible apply tr_not); wtm_at "r_tr")
  | ((with_reducible apply tr_val); wtm_at "r_er"; wtm_at "r_vw"; (exact rfl); (intro _; rfl)))
local macro_rules | `(tactic| wtm_at "r_tw") => `(tactic| first
  | ((with_reducible show TW _ (.BoolOp .Or [_] _) _ _); (with_reducible apply tw_or1); wtm_at "r_tr")
  | ((with_reducible show TW _ (.BoolOp .And [_] _) _ _); (with_reducible apply tw_and1); wtm_at "r_tr")
  | ((with_reducible show TW _ (.BoolOp .Or (_ :: _ :: _) _) _ _); (with_reducible apply tw_or); wtm_at "r_tr"; (intro _; wtm_at "r_tw"))
  | ((with_reducible show TW _ (.BoolOp .And (_ :: _ :: _) _) _ _); (with_reducible apply tw_and); wtm_at "r_tr"; (intro _; wtm_at "r_tw")))
local macro_rules | `(tactic| wtm_at "s_ret") => `(tactic| ((with_reducible apply ws_ret); (with_reducible apply we_p); wtm_at "r_er"))
local macro_rules | `(tactic| wtm_at "s_set") => `(tactic| ((with_reducible apply ws_set); wtm_at "r_as"; (with_reducible apply we_p); wtm_at "r_er"))
local macro_rules | `(tactic| wtm_at "s_sto") => `(tactic| ((with_reducible apply ws_storeI); wtm_at "r_er"; wtm_at "r_er"; wtm_at "r_er"; first | exact (rfl : _[0]? = _) | exact (rfl : _[1]? = _) | exact (rfl : _[2]? = _)))

theorem sc_look_board : FnScope ["board", "point"] ["board"] (defScope s_look_board) := ⟨rfl, rfl, rfl, by decide +kernel, rfl, by decide +kernel, by decide +kernel⟩
theorem ok_look_board {M : Md} {f : Addr} {fd : FuncData} (T : Tx M) (F : FnP M.K "look_board" s_look_board f fd) (hm : M.mg "look_board" = some (.ref f)) (D_is_side : Df M "is_side" R_is_side 1) : Df M "look_board" (R_look M) 2 := by
  refine fnR F hm (F.bindsN fun _ _ _ _ _ _ us hl => match us, hl with | [_], _ => rfl) sc_look_board ?hlen ?hbody
  case hlen => rintro ds r ⟨l, rfl, _⟩; rfl
  case hbody =>
    rintro X cf fn A B ds r ⟨b, rfl, hl1, hl2, rfl⟩ hx
    have hu := cf.un
    have hc := cf.calm
    have hN := cf.nd
    have n_board := cf.nm (x := "board") 0 rfl (by decide +kernel)
    have n_point := cf.nm (x := "point") 1 rfl (by decide +kernel)
    have l_point := cf.nl (x := "point") 1 rfl (by decide +kernel) (Or.inl (fn _))
    have b_len := cf.bt (x := "len") (f := .builtin "len") (by decide +kernel) T.b_len (by decide +kernel)
    have f_is_side := cf.fc (x := "is_side") D_is_side (by first | decide | omega) (by decide +kernel)
    have b_sum := cf.bt (x := "sum") (f := .builtin "sum") (by decide +kernel) T.b_sum (by decide +kernel)
    have e_BadBoard := T.e_BadBoard.ec cf (by decide +kernel)
    have b_range := cf.btr (by decide +kernel) T.b_range
    have g_BAR := cf.gc (x := "BAR") (v := .int 25) (by decide +kernel) (by obtain ⟨t, h⟩ := T.k_BAR; exact ⟨_, h, t, rfl⟩)
    have g_OFF := cf.gc (x := "OFF") (v := .int 0) (by decide +kernel) (by obtain ⟨t, h⟩ := T.k_OFF; exact ⟨_, h, t, rfl⟩)
    with_unfolding_all apply wb_cons
    apply ws_if
    · wtm_at "r_tr"
    · intro h
      apply wb_one
      exact ws_raise hx hc e_BadBoard ⟨by
        rw [if_neg]
        intro q
        simp only [isBoard, Bool.and_eq_true, decide_eq_true_eq] at q
        simp [q.1, q.2.1, q.2.2.1] at h, rfl, rfl⟩
    · intro h
      simp only [Bool.or_eq_false_iff, Bool.not_eq_false', decide_eq_true_eq] at h
      obtain ⟨_, hs1, hs2, hsum⟩ := h
      have h26 := isSide_len hs1
      have h26' := isSide_len hs2
      apply wb_nil
      apply wb_cons
      refine ws_for2 hx b_range (by wtm_at "r_ea") ⟨by omega, by omega, by omega, by omega⟩ (fun i G' => (∃ s, G' = ⟨A, B, [.d (dB b), s], []⟩) ∧ ∀ p : Int, 1 ≤ p → p < 1 + i → clash b p = false) ⟨⟨_, rfl⟩, fun p h1 h2 => by omega⟩ ?_ ?_ rfl rfl (fun _ => rfl)
      · rintro i G' hi ⟨⟨s, rfl⟩, hcl⟩
        refine ⟨_, tg_name l_point, ?_⟩
        apply wb_one
        apply ws_if
        · wtm_at "r_tr"
        · intro h
          apply wb_one
          refine ws_raise hx hc e_BadBoard ⟨?_, rfl, rfl⟩
          rw [if_neg]
          intro q
          simp only [isBoard, Bool.and_eq_true, List.all_eq_true] at q
          have := q.2.2.2.1 (1 + i) (mem_rng.mpr ⟨by omega, by omega⟩)
          rw [clash, h] at this
          cases this
        · intro h
          apply wb_nil
          refine ⟨⟨_, rfl⟩, fun p h1 h2 => ?_⟩
          by_cases hp : p < 1 + i
          · exact hcl p h1 hp
          · have : p = 1 + i := by omega
            subst this
            exact h
      · rintro G' ⟨⟨s, rfl⟩, hcl⟩
        apply wb_one
        apply ws_if
        · wtm_at "r_tr"
        · intro h
          apply wb_one
          refine ws_raise hx hc e_BadBoard ⟨?_, rfl, rfl⟩
          rw [if_neg]
          intro q
          simp only [isBoard, Bool.and_eq_true] at q
          have := q.2.2.2.2
          rw [h] at this
          cases this
        · intro h
          apply wb_nil
          refine ⟨?_, rfl, rfl⟩
          rw [if_pos]
          simp only [isBoard, hs1, hs2, Bool.true_and, Bool.and_eq_true, decide_eq_true_eq, List.all_eq_true]
          refine ⟨hsum, fun p hp => ?_, ?_⟩
          · obtain ⟨h1, h2⟩ := mem_rng.mp hp
            rw [hcl p h1 (by omega)]; rfl
          · rw [h]; rfl
end Rd

namespace Rd
open PySem PySem.Spec PyProof.Rows L2 TL
local macro_rules | `(tactic| wtm_at "r_sd") => `(tactic| first | assumption | omega | decide | (simp only [List.length_cons, List.length_nil, List.length_append, List.length_map, List.length_replicate, List.length_set, sizeLine_eq]; omega) | (simp; omega))
local macro_rules | `(tactic| wtm_at "r_as") => `(tactic| (with_reducible assumption))
local macro_rules | `(tactic| wtm_at "r_nm") => `(tactic| ((with_reducible show ER _ (.Name _ _) _ _); first
  | ((with_reducible apply er_name); wtm_at "r_as"; exact rfl)
  | ((with_reducible apply er_nameL); wtm_at "r_as"; exact rfl)
  | ((with_reducible apply er_nameV); wtm_at "r_as"; exact rfl)
  | ((with_reducible apply er_nameX); wtm_at "r_as"; exact rfl)
  | ((with_reducible apply er_gcI); wtm_at "r_as")
  | ((with_reducible apply er_gcS); wtm_at "r_as")
  | ((with_reducible apply Bt.ty); wtm_at "r_as")
  | ((with_reducible apply er_gcV); wtm_at "r_as")
  | ((with_reducible apply Ec.er); wtm_at "r_as")))
local macro_rules | `(tactic| wtm_at "r_lv") => `(tactic| first | (with_reducible exact Lv.d) | (with_reducible exact Lv.f) | (with_reducible exact Lv.l) | exact Lv.c 0 rfl | exact Lv.c 1 rfl | exact Lv.c 2 rfl)
local macro_rules | `(tactic| wtm_at "r_tv") => `(tactic| first | (with_reducible exact Tv.f) | (with_reducible exact Tv.l) | exact Tv.c 0 rfl | exact Tv.c 1 rfl | exact Tv.c 2 rfl)
local macro_rules | `(tactic| wtm_at "r_vw") => `(tactic| first | (with_reducible exact Vw.d) | (with_reducible exact Vw.f) | (with_reducible exact Vw.l) | exact Vw.c 0 rfl | exact Vw.c 1 rfl | exact Vw.c 2 rfl)
local macro_rules | `(tactic| wtm_at "r_dt") => `(tactic| first | (with_reducible exact DtL.nil) | ((with_reducible apply DtL.cons); (first | (with_reducible exact Dt.d) | (with_reducible exact Dt.f) | (with_reducible exact Dt.l)); wtm_at "r_dt"))
local macro_rules | `(tactic| wtm_at "r_op") => `(tactic| first
  | (with_reducible exact o_add) | (with_reducible exact o_sub) | (with_reducible exact o_lt) | (with_reducible exact o_le) | (with_reducible exact o_gt) | (with_reducible exact o_ge)
  | (with_reducible exact o_eqI) | (with_reducible exact o_neI) | (with_reducible exact o_eqN) | (with_reducible exact o_neN) | (with_reducible exact o_inN) | (with_reducible exact o_notInN) | (with_reducible exact o_eqS) | (with_reducible exact o_neS)
  | ((with_reducible apply o_mod); wtm_at "r_sd")
  | ((with_reducible apply o_div); (first | exact ⟨by decide, by decide⟩ | exact ⟨by omega, by omega⟩))
  | ((with_reducible apply o_isN); (exact fun z => nomatch z); (first | exact fun _ z => nomatch z | exact fun y z => ⟨_, (Sl.v.inj z).symm⟩))
  | ((with_reducible apply o_notN); (exact fun z => nomatch z); (first | exact fun _ z => nomatch z | exact fun y z => ⟨_, (Sl.v.inj z).symm⟩))
  | ((with_reducible apply o_mul); (first | exact Or.inl ⟨by omega, by omega⟩ | exact Or.inr ⟨by omega, by omega⟩))
  | ((with_reducible apply o_inI); wtm_at "r_lv")
  | ((with_reducible apply o_catTI); wtm_at "r_sd")
  | ((with_reducible apply o_catT); wtm_at "r_sd")
  | ((with_reducible apply o_catLI); wtm_at "r_tv"; wtm_at "r_tv"; wtm_at "r_sd")
  | ((with_reducible apply o_catL); wtm_at "r_tv"; wtm_at "r_tv"; wtm_at "r_sd")
  | ((with_reducible apply o_catN); wtm_at "r_sd")
  | ((with_reducible apply o_catS); wtm_at "r_sd")
  | ((with_reducible apply o_rep0); wtm_at "r_sd"; wtm_at "r_sd")
  | ((with_reducible apply o_repL); wtm_at "r_tv"; wtm_at "r_sd"; wtm_at "r_sd"; wtm_at "r_sd")
  | ((with_reducible apply o_repT); (exact fun z => nomatch z); wtm_at "r_sd"; wtm_at "r_sd"; wtm_at "r_sd")
  | ((with_reducible apply o_eqD); assumption; wtm_at "r_vw"; wtm_at "r_vw"; wtm_at "r_dp")
  | ((with_reducible apply o_neD); assumption; wtm_at "r_vw"; wtm_at "r_vw"; wtm_at "r_dp"))
local macro_rules | `(tactic| wtm_at "r_dp") => `(tactic| first | assumption | (exact dep_l (by wtm_at "r_de")) | (exact dep_r (by wtm_at "r_de")))
local macro_rules | `(tactic| wtm_at "r_de") => `(tactic| first | (exact dep_ints _) | (exact dep_intsL _) | (simp only [PyData.depth, PyData.depthAll, PySem.W.depth_ints]; omega))
local macro_rules | `(tactic| wtm_at "r_ix") => `(tactic| first
  | ((with_reducible apply o_ixTI); wtm_at "r_sd"; wtm_at "r_sd")
  | ((with_reducible apply o_ixT); (exact rfl))
  | ((with_reducible apply o_ixLI); wtm_at "r_lv"; wtm_at "r_sd"; wtm_at "r_sd")
  | ((with_reducible apply o_ixL); wtm_at "r_lv"; (exact rfl))
  | ((with_reducible apply o_ixN); wtm_at "r_sd"; (exact rfl)) | (exact o_ixH 0 rfl rfl) | (exact o_ixH 1 rfl rfl) | (exact o_ixH 2 rfl rfl))
local macro_rules | `(tactic| wtm_at "r_sl") => `(tactic| first | (with_reducible exact o_slTI) | (with_reducible exact o_slT) | ((with_reducible apply o_slLI); wtm_at "r_lv") | ((with_reducible apply o_slL); wtm_at "r_lv") | ((with_reducible apply o_slN); wtm_at "r_sd") | ((with_reducible apply o_slS); wtm_at "r_sd"))
local macro_rules | `(tactic| wtm_at "r_cb") => `(tactic| first
  | (with_reducible exact b_lenTI) | (with_reducible exact b_lenT) | ((with_reducible apply b_len); wtm_at "r_lv") | ((with_reducible apply b_lenN); wtm_at "r_sd") | ((with_reducible apply b_lenS); wtm_at "r_sd")
  | ((with_reducible apply b_sumT); assumption) | ((with_reducible apply b_sum); assumption; wtm_at "r_lv") | ((with_reducible apply b_sumM); assumption; wtm_at "r_lv")
  | ((with_reducible apply b_all); assumption; wtm_at "r_lv") | ((with_reducible apply b_allM); assumption; wtm_at "r_lv") | ((with_reducible apply b_any); assumption; wtm_at "r_lv") | ((with_reducible apply b_anyM); assumption; wtm_at "r_lv")
  | ((with_reducible apply b_tuple); wtm_at "r_lv") | (with_reducible exact b_listT) | ((with_reducible apply b_list); wtm_at "r_lv")
  | ((with_reducible apply b_max2); assumption) | ((with_reducible apply b_min2); assumption)
  | ((with_reducible apply b_maxT); assumption; assumption; wtm_at "r_ne") | ((with_reducible apply b_max); assumption; assumption; wtm_at "r_lv"; wtm_at "r_ne") | ((with_reducible apply b_maxM); assumption; assumption; wtm_at "r_lv"; wtm_at "r_ne")
  | ((with_reducible apply b_minT); assumption; assumption; wtm_at "r_ne") | ((with_reducible apply b_min); assumption; assumption; wtm_at "r_lv"; wtm_at "r_ne") | ((with_reducible apply b_minM); assumption; assumption; wtm_at "r_lv"; wtm_at "r_ne")
  | (with_reducible exact b_intB) | (with_reducible exact b_abs) | ((with_reducible apply b_strI); wtm_at "r_sd"; wtm_at "r_sd") | ((with_reducible apply b_str); wtm_at "r_sd")
  | ((with_reducible apply b_isXM); wtm_at "r_as"; wtm_at "r_as"; (decide)) | ((with_reducible apply b_isXV); wtm_at "r_as"; wtm_at "r_as")
  | ((with_reducible apply b_isBool); wtm_at "r_vw") | ((with_reducible apply b_isInt); wtm_at "r_vw") | ((with_reducible apply b_isTuple); wtm_at "r_vw"))
local macro_rules | `(tactic| wtm_at "r_R") => `(tactic| first | exact ⟨_, rfl, rfl⟩ | exact ⟨_, rfl, by wtm_at "r_sd", rfl⟩ | exact ⟨_, rfl, by wtm_at "r_sd", by wtm_at "r_sd", rfl⟩)
local macro_rules | `(tactic| wtm_at "r_ne") => `(tactic| first | assumption | (exact fun z => nomatch z))
local macro_rules | `(tactic| wtm_at "r_er") => `(tactic| first
  | wtm_at "r_nm"
  | (with_reducible exact er_int) | (with_reducible exact er_str) | (with_reducible exact er_bl) | (with_reducible exact er_non)
  | ((with_reducible show ER _ (.BinOp _ _ _ _) _ _); (with_reducible apply er_bin); wtm_at "r_er"; wtm_at "r_er"; wtm_at "r_op")
  | ((with_reducible show ER _ (.Subscript _ (.Slice _ _ none _) _) _ _); (with_reducible apply er_sl); wtm_at "r_er"; wtm_at "r_eo"; wtm_at "r_eo"; wtm_at "r_sl")
  | ((with_reducible show ER _ (.Subscript _ _ _) _ _); (with_reducible apply er_ix); wtm_at "r_er"; wtm_at "r_er"; wtm_at "r_ix"; (exact fun _ _ => rfl))
  | ((with_reducible show ER _ (.Compare _ [_] _ _) _ _); (with_reducible apply er_cmp); wtm_at "r_er"; wtm_at "r_er"; wtm_at "r_op"; (first | exact nomark _ | rfl))
  | ((with_reducible show ER _ (.Call (.Name _ _) (_ :: _) _ _) _ _); first
    | ((with_reducible apply er_cb); wtm_at "r_as"; wtm_at "r_ea"; wtm_at "r_cb"; (exact rfl); (exact rfl))
    | ((with_reducible apply er_ct); wtm_at "r_as"; wtm_at "r_ea"; wtm_at "r_cb"; (exact rfl); (exact rfl))
    | ((with_reducible apply er_call); wtm_at "r_as"; wtm_at "r_ea"; wtm_at "r_dt"; wtm_at "r_R"; (exact rfl); (exact rfl)))
  | ((with_reducible show ER _ (.Call (.Name _ _) [] _ _) _ _); (with_reducible apply er_call0); wtm_at "r_as"; wtm_at "r_R")
  | ((with_reducible show ER _ (.ListComp _ _ _ _) _ _); (with_reducible apply er_lc); wtm_at "r_lc")
  | ((with_reducible show ER _ (.Tuple _ _ _) _ _); (exact er_litT rfl))
  | ((with_reducible show ER _ (.List _ _) _ _); (exact er_litL rfl (by decide)))
  | ((with_reducible show ER _ (.Tuple _ _ _) _ _); (with_reducible apply er_tup); wtm_at "r_ea"; wtm_at "r_dt"; wtm_at "r_sd")
  | ((with_reducible show ER _ (.List _ _) _ _); (with_reducible apply er_lst); wtm_at "r_ea"; wtm_at "r_dt"; wtm_at "r_sd")
  | ((with_reducible show ER _ (.UnaryOp .USub _ _) _ _); (with_reducible apply er_neg); wtm_at "r_er")
  | ((with_reducible show ER _ (.UnaryOp .Not _ _) _ _); (with_reducible apply er_not); wtm_at "r_er")
  | ((with_reducible show ER _ (.BoolOp .Or (_ :: _ :: _) _) _ _); (with_reducible apply er_or); wtm_at "r_er"; (intro _; wtm_at "r_er"))
  | ((with_reducible show ER _ (.BoolOp .And (_ :: _ :: _) _) _ _); (with_reducible apply er_and); wtm_at "r_er"; (intro _; wtm_at "r_er"))
  | ((with_reducible show ER _ (.BoolOp _ [_] _) _ _); (with_reducible apply er_one); wtm_at "r_er")
  | ((with_reducible show ER _ (.IfExp _ _ _ _) _ _); first
    | ((with_reducible apply er_ifI); wtm_at "r_tr"; (intro _; wtm_at "r_er"); (intro _; wtm_at "r_er"))
    | ((with_reducible apply er_ifD); wtm_at "r_tr"; (intro _; wtm_at "r_er"); (intro _; wtm_at "r_er")))
  | ((with_reducible show ER _ (.Compare _ [_, _] _ _) _ _); (with_reducible apply er_chain); wtm_at "r_er"; wtm_at "r_er"; wtm_at "r_op"; (intro _; wtm_at "r_er"); (intro _; wtm_at "r_op"); (with_unfolding_all rfl)))
local macro_rules | `(tactic| wtm_at "r_eo") => `(tactic| first | (with_reducible exact eo_none) | ((with_reducible apply eo_some); wtm_at "r_er"))
local macro_rules | `(tactic| wtm_at "r_ea") => `(tactic| first
  | (with_reducible exact ea_nil)
  | ((with_reducible apply ea_cons); wtm_at "r_er"; wtm_at "r_ea"; (exact rfl)))
local macro_rules | `(tactic| wtm_at "r_tr") => `(tactic| first
  | ((with_reducible show TR _ (.Compare _ [_] _ _) _ _); (with_reducible apply tr_cmp); wtm_at "r_er"; wtm_at "r_er"; wtm_at "r_op"; (first | exact nomark _ | rfl))
  | ((with_reducible show TR _ (.Compare _ [_, _] _ _) _ _); (with_reducible apply tr_chain); wtm_at "r_er"; wtm_at "r_er"; wtm_at "r_op"; (intro _; wtm_at "r_er"); (intro _; wtm_at "r_op"); (with_unfolding_all rfl))
  | ((with_reducible show TR _ (.BoolOp _ _ _) _ _); (with_reducible apply TW.tr); wtm_at "r_tw")
  | ((with_reducible show TR _ (.UnaryOp .Not _ _) _ _); (with_reducible apply tr_not); wtm_at "r_tr")
  | ((with_reducible apply tr_val); wtm_at "r_er"; wtm_at "r_vw"; (exact rfl); (intro _; rfl)))
local macro_rules | `(tactic| wtm_at "r_tw") => `(tactic| first
  | ((with_reducible show TW _ (.BoolOp .Or [_] _) _ _); (with_reducible apply tw_or1); wtm_at "r_tr")
  | ((with_reducible show TW _ (.BoolOp .And [_] _) _ _); (with_reducible apply tw_and1); wtm_at "r_tr")
  | ((with_reducible show TW _ (.BoolOp .Or (_ :: _ :: _) _) _ _); (with_reducible apply tw_or); wtm_at "r_tr"; (intro _; wtm_at "r_tw"))
  | ((with_reducible show TW _ (.BoolOp .And (_ :: _ :: _) _) _ _); (with_reducible apply tw_and); wtm_at "r_tr"; (intro _; wtm_at "r_tw")))
local macro_rules | `(tactic| wtm_at "s_ret") => `(tactic| ((with_reducible apply ws_ret); (with_reducible apply we_p); wtm_at "r_er"))
local macro_rules | `(tactic| wtm_at "s_set") => `(tactic| ((with_reducible apply ws_set); wtm_at "r_as"; (with_reducible apply we_p); wtm_at "r_er"))
local macro_rules | `(tactic| wtm_at "s_sto") => `(tactic| ((with_reducible apply ws_storeI); wtm_at "r_er"; wtm_at "r_er"; wtm_at "r_er"; first | exact (rfl : _[0]? = _) | exact (rfl : _[1]? = _) | exact (rfl : _[2]? = _)))

theorem sc_turned : FnScope ["board"] ["board"] (defScope s_turned) := ⟨rfl, rfl, rfl, by decide +kernel, rfl, by decide +kernel, by decide +kernel⟩
theorem ok_turned {M : Md} {f : Addr} {fd : FuncData} (T : Tx M) (F : FnP M.K "turned" s_turned f fd) (hm : M.mg "turned" = some (.ref f)) (D_look_board : Df M "look_board" (R_look M) 2) : Df M "turned" (R_turned M) 3 := by
  refine fnR F hm (F.bindsN fun _ _ _ _ _ _ us hl => match us, hl with | [_], _ => rfl) sc_turned ?hlen ?hbody
  case hlen => rintro ds r ⟨l, rfl, _⟩; rfl
  case hbody =>
    rintro X cf fn A B ds r ⟨b, rfl, hl1, hl2, rfl⟩ hx
    have hu := cf.un
    have hc := cf.calm
    have hN := cf.nd
    have n_board := cf.nm (x := "board") 0 rfl (by decide +kernel)
    have f_look_board := cf.fc (x := "look_board") D_look_board (by first | decide | omega) (by decide +kernel)
    with_unfolding_all apply wb_cons
    refine ws_expr ?_
    refine we_look (b := b) hx f_look_board (by wtm_at "r_ea") hl1 hl2 (fun h => ?_) (fun h => ⟨by rw [h]; rfl, rfl, rfl⟩)
    apply wb_one
    wtm_at "s_ret"
    exact ⟨rfl, rfl, _, by rw [h]; rfl, .d⟩
end Rd

namespace Rd
open PySem PySem.Spec PyProof.Rows L2 TL
local macro_rules | `(tactic| wtm_at "r_sd") => `(tactic| first | assumption | omega | decide | (simp only [List.length_cons, List.length_nil, List.length_append, List.length_map, List.length_replicate, List.length_set, sizeLine_eq]; omega) | (simp; omega))
local macro_rules | `(tactic| wtm_at "r_as") => `(tactic| (with_reducible assumption))
local macro_rules | `(tactic| wtm_at "r_nm") => `(tactic| ((with_reducible show ER _ (.Name _ _) _ _); first
  | ((with_reducible apply er_name); wtm_at "r_as"; exact rfl)
  | ((with_reducible apply er_nameL); wtm_at "r_as"; exact rfl)
  | ((with_reducible apply er_nameV); wtm_at "r_as"; exact rfl)
  | ((with_reducible apply er_nameX); wtm_at "r_as"; exact rfl)
  | ((with_reducible apply er_gcI); wtm_at "r_as")
  | ((with_reducible apply er_gcS); wtm_at "r_as")
  | ((with_reducible apply Bt.ty); wtm_at "r_as")
  | ((with_reducible apply er_gcV); wtm_at "r_as")
  | ((with_reducible apply Ec.er); wtm_at "r_as")))
local macro_rules | `(tactic| wtm_at "r_lv") => `(tactic| first | (with_reducible exact Lv.d) | (with_reducible exact Lv.f) | (with_reducible exact Lv.l) | exact Lv.c 0 rfl | exact Lv.c 1 rfl | exact Lv.c 2 rfl)
local macro_rules | `(tactic| wtm_at "r_tv") => `(tactic| first | (with_reducible exact Tv.f) | (with_reducible exact Tv.l) | exact Tv.c 0 rfl | exact Tv.c 1 rfl | exact Tv.c 2 rfl)
local macro_rules | `(tactic| wtm_at "r_vw") => `(tactic| first | (with_reducible exact Vw.d) | (with_reducible exact Vw.f) | (with_reducible exact Vw.l) | exact Vw.c 0 rfl | exact Vw.c 1 rfl | exact Vw.c 2 rfl)
local macro_rules | `(tactic| wtm_at "r_dt") => `(tactic| first | (with_reducible exact DtL.nil) | ((with_reducible apply DtL.cons); (first | (with_reducible exact Dt.d) | (with_reducible exact Dt.f) | (with_reducible exact Dt.l)); wtm_at "r_dt"))
local macro_rules | `(tactic| wtm_at "r_op") => `(tactic| first
  | (with_reducible exact o_add) | (with_reducible exact o_sub) | (with_reducible exact o_lt) | (with_reducible exact o_le) | (with_reducible exact o_gt) | (with_reducible exact o_ge)
  | (with_reducible exact o_eqI) | (with_reducible exact o_neI) | (with_reducible exact o_eqN) | (with_reducible exact o_neN) | (with_reducible exact o_inN) | (with_reducible exact o_notInN) | (with_reducible exact o_eqS) | (with_reducible exact o_neS)
  | ((with_reducible apply o_mod); wtm_at "r_sd")
  | ((with_reducible apply o_div); (first | exact ⟨by decide, by decide⟩ | exact ⟨by omega, by omega⟩))
  | ((with_reducible apply o_isN); (exact fun z => nomatch z); (first | exact fun _ z => nomatch z | exact fun y z => ⟨_, (Sl.v.inj z).symm⟩))
  | ((with_reducible apply o_notN); (exact fun z => nomatch z); (first | exact fun _ z => nomatch z | exact fun y z => ⟨_, (Sl.v.inj z).symm⟩))
  | ((with_reducible apply o_mul); (first | exact Or.inl ⟨by omega, by omega⟩ | exact Or.inr ⟨by omega, by omega⟩))
  | ((with_reducible apply o_inI); wtm_at "r_lv")
  | ((with_reducible apply o_catTI); wtm_at "r_sd")
  | ((with_reducible apply o_catT); wtm_at "r_sd")
  | ((with_reducible apply o_catLI); wtm_at "r_tv"; wtm_at "r_tv"; wtm_at "r_sd")
  | ((with_reducible apply o_catL); wtm_at "r_tv"; wtm_at "r_tv"; wtm_at "r_sd")
  | ((with_reducible apply o_catN); wtm_at "r_sd")
  | ((with_reducible apply o_catS); wtm_at "r_sd")
  | ((with_reducible apply o_rep0); wtm_at "r_sd"; wtm_at "r_sd")
  | ((with_reducible apply o_repL); wtm_at "r_tv"; wtm_at "r_sd"; wtm_at "r_sd"; wtm_at "r_sd")
  | ((with_reducible apply o_repT); (exact fun z => nomatch z); wtm_at "r_sd"; wtm_at "r_sd"; wtm_at "r_sd")
  | ((with_reducible apply o_eqD); assumption; wtm_at "r_vw"; wtm_at "r_vw"; wtm_at "r_dp")
  | ((with_reducible apply o_neD); assumption; wtm_at "r_vw"; wtm_at "r_vw"; wtm_at "r_dp"))
local macro_rules | `(tactic| wtm_at "r_dp") => `(tactic| first | assumption | (exact dep_l (by wtm_at "r_de")) | (exact dep_r (by wtm_at "r_de")))
local macro_rules | `(tactic| wtm_at "r_de") => `(tactic| first | (exact dep_ints _) | (exact dep_intsL _) | (simp only [PyData.depth, PyData.depthAll, PySem.W.depth_ints]; omega))
local macro_rules | `(tactic| wtm_at "r_ix") => `(tactic| first
  | ((with_reducible apply o_ixTI); wtm_at "r_sd"; wtm_at "r_sd")
  | ((with_reducible apply o_ixT); (exact rfl))
  | ((with_reducible apply o_ixLI); wtm_at "r_lv"; wtm_at "r_sd"; wtm_at "r_sd")
  | ((with_reducible apply o_ixL); wtm_at "r_lv"; (exact rfl))
  | ((with_reducible apply o_ixN); wtm_at "r_sd"; (exact rfl)) | (exact o_ixH 0 rfl rfl) | (exact o_ixH 1 rfl rfl) | (exact o_ixH 2 rfl rfl))
local macro_rules | `(tactic| wtm_at "r_sl") => `(tactic| first | (with_reducible exact o_slTI) | (with_reducible exact o_slT) | ((with_reducible apply o_slLI); wtm_at "r_lv") | ((with_reducible apply o_slL); wtm_at "r_lv") | ((with_reducible apply o_slN); wtm_at "r_sd") | ((with_reducible apply o_slS); wtm_at "r_sd"))
local macro_rules | `(tactic| wtm_at "r_cb") => `(tactic| first
  | (with_reducible exact b_lenTI) | (with_reducible exact b_lenT) | ((with_reducible apply b_len); wtm_at "r_lv") | ((with_reducible apply b_lenN); wtm_at "r_sd") | ((with_reducible apply b_lenS); wtm_at "r_sd")
  | ((with_reducible apply b_sumT); assumption) | ((with_reducible apply b_sum); assumption; wtm_at "r_lv") | ((with_reducible apply b_sumM); assumption; wtm_at "r_lv")
  | ((with_reducible apply b_all); assumption; wtm_at "r_lv") | ((with_reducible apply b_allM); assumption; wtm_at "r_lv") | ((with_reducible apply b_any); assumption; wtm_at "r_lv") | ((with_reducible apply b_anyM); assumption; wtm_at "r_lv")
  | ((with_reducible apply b_tuple); wtm_at "r_lv") | (with_reducible exact b_listT) | ((with_reducible apply b_list); wtm_at "r_lv")
  | ((with_reducible apply b_max2); assumption) | ((with_reducible apply b_min2); assumption)
  | ((with_reducible apply b_maxT); assumption; assumption; wtm_at "r_ne") | ((with_reducible apply b_max); assumption; assumption; wtm_at "r_lv"; wtm_at "r_ne") | ((with_reducible apply b_maxM); assumption; assumption; wtm_at "r_lv"; wtm_at "r_ne")
  | ((with_reducible apply b_minT); assumption; assumption; wtm_at "r_ne") | ((with_reducible apply b_min); assumption; assumption; wtm_at "r_lv"; wtm_at "r_ne") | ((with_reducible apply b_minM); assumption; assumption; wtm_at "r_lv"; wtm_at "r_ne")
  | (with_reducible exact b_intB) | (with_reducible exact b_abs) | ((with_reducible apply b_strI); wtm_at "r_sd"; wtm_at "r_sd") | ((with_reducible apply b_str); wtm_at "r_sd")
  | ((with_reducible apply b_isXM); wtm_at "r_as"; wtm_at "r_as"; (decide)) | ((with_reducible apply b_isXV); wtm_at "r_as"; wtm_at "r_as")
  | ((with_reducible apply b_isBool); wtm_at "r_vw") | ((with_reducible apply b_isInt); wtm_at "r_vw") | ((with_reducible apply b_isTuple); wtm_at "r_vw"))
local macro_rules | `(tactic| wtm_at "r_R") => `(tactic| first | exact ⟨_, rfl, rfl⟩ | exact ⟨_, rfl, by wtm_at "r_sd", rfl⟩ | exact ⟨_, rfl, by wtm_at "r_sd", by wtm_at "r_sd", rfl⟩)
local macro_rules | `(tactic| wtm_at "r_ne") => `(tactic| first | assumption | (exact fun z => nomatch z))
local macro_rules | `(tactic| wtm_at "r_er") => `(tactic| first
  | wtm_at "r_nm"
  | (with_reducible exact er_int) | (with_reducible exact er_str) | (with_reducible exact er_bl) | (with_reducible exact er_non)
  | ((with_reducible show ER _ (.BinOp _ _ _ _) _ _); (with_reducible apply er_bin); wtm_at "r_er"; wtm_at "r_er"; wtm_at "r_op")
  | ((with_reducible show ER _ (.Subscript _ (.Slice _ _ none _) _) _ _); (with_reducible apply er_sl); wtm_at "r_er"; wtm_at "r_eo"; wtm_at "r_eo"; wtm_at "r_sl")
  | ((with_reducible show ER _ (.Subscript _ _ _) _ _); (with_reducible apply er_ix); wtm_at "r_er"; wtm_at "r_er"; wtm_at "r_ix"; (exact fun _ _ => rfl))
  | ((with_reducible show ER _ (.Compare _ [_] _ _) _ _); (with_reducible apply er_cmp); wtm_at "r_er"; wtm_at "r_er"; wtm_at "r_op"; (first | exact nomark _ | rfl))
  | ((with_reducible show ER _ (.Call (.Name _ _) (_ :: _) _ _) _ _); first
    | ((with_reducible apply er_cb); wtm_at "r_as"; wtm_at "r_ea"; wtm_at "r_cb"; (exact rfl); (exact rfl))
    | ((with_reducible apply er_ct); wtm_at "r_as"; wtm_at "r_ea"; wtm_at "r_cb"; (exact rfl); (exact rfl))
    | ((with_reducible apply er_call); wtm_at "r_as"; wtm_at "r_ea"; wtm_at "r_dt"; wtm_at "r_R"; (exact rfl); (exact rfl)))
  | ((with_reducible show ER _ (.Call (.Name _ _) [] _ _) _ _); (with_reducible apply er_call0); wtm_at "r_as"; wtm_at "r_R")
  | ((with_reducible show ER _ (.ListComp _ _ _ _) _ _); (with_reducible apply er_lc); wtm_at "r_lc")
  | ((with_reducible show ER _ (.Tuple _ _ _) _ _); (exact er_litT rfl))
  | ((with_reducible show ER _ (.List _ _) _ _); (exact er_litL rfl (by decide)))
  | ((with_reducible show ER _ (.Tuple _ _ _) _ _); (with_reducible apply er_tup); wtm_at "r_ea"; wtm_at "r_dt"; wtm_at "r_sd")
  | ((with_reducible show ER _ (.List _ _) _ _); (with_reducible apply er_lst); wtm_at "r_ea"; wtm_at "r_dt"; wtm_at "r_sd")
  | ((with_reducible show ER _ (.UnaryOp .USub _ _) _ _); (with_reducible apply er_neg); wtm_at "r_er")
  | ((with_reducible show ER _ (.UnaryOp .Not _ _) _ _); (with_reducible apply er_not); wtm_at "r_er")
  | ((with_reducible show ER _ (.BoolOp .Or (_ :: _ :: _) _) _ _); (with_reducible apply er_or); wtm_at "r_er"; (intro _; wtm_at "r_er"))
  | ((with_reducible show ER _ (.BoolOp .And (_ :: _ :: _) _) _ _); (with_reducible apply er_and); wtm_at "r_er"; (intro _; wtm_at "r_er"))
  | ((with_reducible show ER _ (.BoolOp _ [_] _) _ _); (with_reducible apply er_one); wtm_at "r_er")
  | ((with_reducible show ER _ (.IfExp _ _ _ _) _ _); first
    | ((with_reducible apply er_ifI); wtm_at "r_tr"; (intro _; wtm_at "r_er"); (intro _; wtm_at "r_er"))
    | ((with_reducible apply er_ifD); wtm_at "r_tr"; (intro _; wtm_at "r_er"); (intro _; wtm_at "r_er")))
  | ((with_reducible show ER _ (.Compare _ [_, _] _ _) _ _); (with_reducible apply er_chain); wtm_at "r_er"; wtm_at "r_er"; wtm_at "r_op"; (intro _; wtm_at "r_er"); (intro _; wtm_at "r_op"); (with_unfolding_all rfl)))
local macro_rules | `(tactic| wtm_at "r_eo") => `(tactic| first | (with_reducible exact eo_none) | ((with_reducible apply eo_some); wtm_at "r_er"))
local macro_rules | `(tactic| wtm_at "r_ea") => `(tactic| first
  | (with_reducible exact ea_nil)
  | ((with_reducible apply ea_cons); wtm_at "r_er"; wtm_at "r_ea"; (exact rfl)))
local macro_rules | `(tactic| wtm_at "r_tr") => `(tactic| first
  | ((with_reducible show TR _ (.Compare _ [_] _ _) _ _); (with_reducible apply tr_cmp); wtm_at "r_er"; wtm_at "r_er"; wtm_at "r_op"; (first | exact nomark _ | rfl))
  | ((with_reducible show TR _ (.Compare _ [_, _] _ _) _ _); (with_reducible apply tr_chain); wtm_at "r_er"; wtm_at "r_er"; wtm_at "r_op"; (intro _; wtm_at "r_er"); (intro _; wtm_at "r_op"); (with_unfolding_all rfl))
  | ((with_reducible show TR _ (.BoolOp _ _ _) _ _); (with_reducible apply TW.tr); wtm_at "r_tw")
  | ((with_reducible show TR _ (.UnaryOp .Not _ _) _ _); (with_reducible apply tr_not); wtm_at "r_tr")
  | ((with_reducible apply tr_val); wtm_at "r_er"; wtm_at "r_vw"; (exact rfl); (intro _; rfl)))
local macro_rules | `(tactic| wtm_at "r_tw") => `(tactic| first
  | ((with_reducible show TW _ (.BoolOp .Or [_] _) _ _); (with_reducible apply tw_or1); wtm_at "r_tr")
  | ((with_reducible show TW _ (.BoolOp .And [_] _) _ _); (with_reducible apply tw_and1); wtm_at "r_tr")
  | ((with_reducible show TW _ (.BoolOp .Or (_ :: _ :: _) _) _ _); (with_reducible apply tw_or); wtm_at "r_tr"; (intro _; wtm_at "r_tw"))
  | ((with_reducible show TW _ (.BoolOp .And (_ :: _ :: _) _) _ _); (with_reducible apply tw_and); wtm_at "r_tr"; (intro _; wtm_at "r_tw")))
local macro_rules | `(tactic| wtm_at "s_ret") => `(tactic| ((with_reducible apply ws_ret); (with_reducible apply we_p); wtm_at "r_er"))
local macro_rules | `(tactic| wtm_at "s_set") => `(tactic| ((with_reducible apply ws_set); wtm_at "r_as"; (with_reducible apply we_p); wtm_at "r_er"))
local macro_rules | `(tactic| wtm_at "s_sto") => `(tactic| ((with_reducible apply ws_storeI); wtm_at "r_er"; wtm_at "r_er"; wtm_at "r_er"; first | exact (rfl : _[0]? = _) | exact (rfl : _[1]? = _) | exact (rfl : _[2]? = _)))

set_option hygiene false in
local macro_rules | `(tactic| wtm_at "r_lc") => `(tactic| (
  refine lcRm (hi := 25 + 1) (fun z => .int (z * at0 l z)) [("point", 1)] b_range cf.nd (cf.bok (by decide +kernel)) (by wtm_at "r_ea") (by omega) (by omega) rfl (fun _ => rfl) (fun z h0 h1 => ?_)
  refine lcok_n cf rfl (by decide +kernel) Dt.d (fun Y Da acc hY cfY => ?_)
  have hu := cfY.un
  have hc := cfY.calm
  have hN := cfY.nd
  have n_point := cfY.nm (x := "point") 1 rfl (by decide +kernel)
  have n_side := cfY.nm (x := "side") 0 rfl (by decide +kernel)
  wtm_at "r_er"))
theorem sc_pips_of : FnScope ["side", "point"] ["side"] (defScope s_pips_of) := ⟨rfl, rfl, rfl, by decide +kernel, rfl, by decide +kernel, by decide +kernel⟩
theorem ok_pips_of {M : Md} {f : Addr} {fd : FuncData} (T : Tx M) (F : FnP M.K "pips_of" s_pips_of f fd) (hm : M.mg "pips_of" = some (.ref f)) : Df M "pips_of" R_pips_of 1 := by
  refine fnR F hm (F.bindsN fun _ _ _ _ _ _ us hl => match us, hl with | [_], _ => rfl) sc_pips_of ?hlen ?hbody
  case hlen => rintro ds r ⟨l, rfl, _⟩; rfl
  case hbody =>
    rintro X cf fn A B ds r ⟨l, rfl, hl, rfl⟩ hx
    have hu := cf.un
    have hc := cf.calm
    have hN := cf.nd
    have n_side := cf.nm (x := "side") 0 rfl (by decide +kernel)
    have b_sum := cf.bt (x := "sum") (f := .builtin "sum") (by decide +kernel) T.b_sum (by decide +kernel)
    have b_range := cf.btr (by decide +kernel) T.b_range
    have g_BAR := cf.gc (x := "BAR") (v := .int 25) (by decide +kernel) (by obtain ⟨t, h⟩ := T.k_BAR; exact ⟨_, h, t, rfl⟩)
    with_unfolding_all apply wb_one
    wtm_at "s_ret"
    exact ⟨rfl, rfl, _, rfl, .d⟩
theorem sc_pips : FnScope ["board"] ["board"] (defScope s_pips) := ⟨rfl, rfl, rfl, by decide +kernel, rfl, by decide +kernel, by decide +kernel⟩
theorem ok_pips {M : Md} {f : Addr} {fd : FuncData} (T : Tx M) (F : FnP M.K "pips" s_pips f fd) (hm : M.mg "pips" = some (.ref f)) (D_look_board : Df M "look_board" (R_look M) 2) (D_pips_of : Df M "pips_of" R_pips_of 1) : Df M "pips" (R_pips M) 3 := by
  refine fnR F hm (F.bindsN fun _ _ _ _ _ _ us hl => match us, hl with | [_], _ => rfl) sc_pips ?hlen ?hbody
  case hlen => rintro ds r ⟨l, rfl, _⟩; rfl
  case hbody =>
    rintro X cf fn A B ds r ⟨b, rfl, hl1, hl2, rfl⟩ hx
    have hu := cf.un
    have hc := cf.calm
    have hN := cf.nd
    have n_board := cf.nm (x := "board") 0 rfl (by decide +kernel)
    have f_look_board := cf.fc (x := "look_board") D_look_board (by first | decide | omega) (by decide +kernel)
    have f_pips_of := cf.fc (x := "pips_of") D_pips_of (by first | decide | omega) (by decide +kernel)
    with_unfolding_all apply wb_cons
    refine ws_expr ?_
    refine we_look (b := b) hx f_look_board (by wtm_at "r_ea") hl1 hl2 (fun h => ?_) (fun h => ⟨by rw [h]; rfl, rfl, rfl⟩)
    obtain ⟨g1, g2⟩ := isBoard_len h
    apply wb_one
    wtm_at "s_ret"
    exact ⟨rfl, rfl, _, by rw [h]; rfl, .d⟩
end Rd

namespace Rd
open PySem PySem.Spec PyProof.Rows L2 TL
local macro_rules | `(tactic| wtm_at "r_sd") => `(tactic| first | assumption | omega | decide | (simp only [List.length_cons, List.length_nil, List.length_append, List.length_map, List.length_replicate, List.length_set, sizeLine_eq]; omega) | (simp; omega))
local macro_rules | `(tactic| wtm_at "r_as") => `(tactic| (with_reducible assumption))
local macro_rules | `(tactic| wtm_at "r_nm") => `(tactic| ((with_reducible show ER _ (.Name _ _) _ _); first
  | ((with_reducible apply er_name); wtm_at "r_as"; exact rfl)
  | ((with_reducible apply er_nameL); wtm_at "r_as"; exact rfl)
  | ((with_reducible apply er_nameV); wtm_at "r_as"; exact rfl)
  | ((with_reducible apply er_nameX); wtm_at "r_as"; exact rfl)
  | ((with_reducible apply er_gcI); wtm_at "r_as")
  | ((with_reducible apply er_gcS); wtm_at "r_as")
  | ((with_reducible apply Bt.ty); wtm_at "r_as")
  | ((with_reducible apply er_gcV); wtm_at "r_as")
  | ((with_reducible apply Ec.er); wtm_at "r_as")))
local macro_rules | `(tactic| wtm_at "r_lv") => `(tactic| first | (with_reducible exact Lv.d) | (with_reducible exact Lv.f) | (with_reducible exact Lv.l) | exact Lv.c 0 rfl | exact Lv.c 1 rfl | exact Lv.c 2 rfl)
local macro_rules | `(tactic| wtm_at "r_tv") => `(tactic| first | (with_reducible exact Tv.f) | (with_reducible exact Tv.l) | exact Tv.c 0 rfl | exact Tv.c 1 rfl | exact Tv.c 2 rfl)
local macro_rules | `(tactic| wtm_at "r_vw") => `(tactic| first | (with_reducible exact Vw.d) | (with_reducible exact Vw.f) | (with_reducible exact Vw.l) | exact Vw.c 0 rfl | exact Vw.c 1 rfl | exact Vw.c 2 rfl)
local macro_rules | `(tactic| wtm_at "r_dt") => `(tactic| first | (with_reducible exact DtL.nil) | ((with_reducible apply DtL.cons); (first | (with_reducible exact Dt.d) | (with_reducible exact Dt.f) | (with_reducible exact Dt.l)); wtm_at "r_dt"))
local macro_rules | `(tactic| wtm_at "r_op") => `(tactic| first
  | (with_reducible exact o_add) | (with_reducible exact o_sub) | (with_reducible exact o_lt) | (with_reducible exact o_le) | (with_reducible exact o_gt) | (with_reducible exact o_ge)
  | (with_reducible exact o_eqI) | (with_reducible exact o_neI) | (with_reducible exact o_eqN) | (with_reducible exact o_neN) | (with_reducible exact o_inN) | (with_reducible exact o_notInN) | (with_reducible exact o_eqS) | (with_reducible exact o_neS)
  | ((with_reducible apply o_mod); wtm_at "r_sd")
  | ((with_reducible apply o_div); (first | exact ⟨by decide, by decide⟩ | exact ⟨by omega, by omega⟩))
  | ((with_reducible apply o_isN); (exact fun z => nomatch z); (first | exact fun _ z => nomatch z | exact fun y z => ⟨_, (Sl.v.inj z).symm⟩))
  | ((with_reducible apply o_notN); (exact fun z => nomatch z); (first | exact fun _ z => nomatch z | exact fun y z => ⟨_, (Sl.v.inj z).symm⟩))
  | ((with_reducible apply o_mul); (first | exact Or.inl ⟨by omega, by omega⟩ | exact Or.inr ⟨by omega, by omega⟩))
  | ((with_reducible apply o_inI); wtm_at "r_lv")
  | ((with_reducible apply o_catTI); wtm_at "r_sd")
  | ((with_reducible apply o_catT); wtm_at "r_sd")
  | ((with_reducible apply o_catLI); wtm_at "r_tv"; wtm_at "r_tv"; wtm_at "r_sd")
  | ((with_reducible apply o_catL); wtm_at "r_tv"; wtm_at "r_tv"; wtm_at "r_sd")
  | ((with_reducible apply o_catN); wtm_at "r_sd")
  | ((with_reducible apply o_catS); wtm_at "r_sd")
  | ((with_reducible apply o_rep0); wtm_at "r_sd"; wtm_at "r_sd")
  | ((with_reducible apply o_repL); wtm_at "r_tv"; wtm_at "r_sd"; wtm_at "r_sd"; wtm_at "r_sd")
  | ((with_reducible apply o_repT); (exact fun z => nomatch z); wtm_at "r_sd"; wtm_at "r_sd"; wtm_at "r_sd")
  | ((with_reducible apply o_eqD); assumption; wtm_at "r_vw"; wtm_at "r_vw"; wtm_at "r_dp")
  | ((with_reducible apply o_neD); assumption; wtm_at "r_vw"; wtm_at "r_vw"; wtm_at "r_dp"))
local macro_rules | `(tactic| wtm_at "r_dp") => `(tactic| first | assumption | (exact dep_l (by wtm_at "r_de")) | (exact dep_r (by wtm_at "r_de")))
local macro_rules | `(tactic| wtm_at "r_de") => `(tactic| first | (exact dep_ints _) | (exact dep_intsL _) | (simp only [PyData.depth, PyData.depthAll, PySem.W.depth_ints]; omega))
local macro_rules | `(tactic| wtm_at "r_ix") => `(tactic| first
  | ((with_reducible apply o_ixTI); wtm_at "r_sd"; wtm_at "r_sd")
  | ((with_reducible apply o_ixT); (exact rfl))
  | ((with_reducible apply o_ixLI); wtm_at "r_lv"; wtm_at "r_sd"; wtm_at "r_sd")
  | ((with_reducible apply o_ixL); wtm_at "r_lv"; (exact rfl))
  | ((with_reducible apply o_ixN); wtm_at "r_sd"; (exact rfl)) | (exact o_ixH 0 rfl rfl) | (exact o_ixH 1 rfl rfl) | (exact o_ixH 2 rfl rfl))
local macro_rules | `(tactic| wtm_at "r_sl") => `(tactic| first | (with_reducible exact o_slTI) | (with_reducible exact o_slT) | ((with_reducible apply o_slLI); wtm_at "r_lv") | ((with_reducible apply o_slL); wtm_at "r_lv") | ((with_reducible apply o_slN); wtm_at "r_sd") | ((with_reducible apply o_slS); wtm_at "r_sd"))
local macro_rules | `(tactic| wtm_at "r_cb") => `(tactic| first
  | (with_reducible exact b_lenTI) | (with_reducible exact b_lenT) | ((with_reducible apply b_len); wtm_at "r_lv") | ((with_reducible apply b_lenN); wtm_at "r_sd") | ((with_reducible apply b_lenS); wtm_at "r_sd")
  | ((with_reducible apply b_sumT); assumption) | ((with_reducible apply b_sum); assumption; wtm_at "r_lv") | ((with_reducible apply b_sumM); assumption; wtm_at "r_lv")
  | ((with_reducible apply b_all); assumption; wtm_at "r_lv") | ((with_reducible apply b_allM); assumption; wtm_at "r_lv") | ((with_reducible apply b_any); assumption; wtm_at "r_lv") | ((with_reducible apply b_anyM); assumption; wtm_at "r_lv")
  | ((with_reducible apply b_tuple); wtm_at "r_lv") | (with_reducible exact b_listT) | ((with_reducible apply b_list); wtm_at "r_lv")
  | ((with_reducible apply b_max2); assumption) | ((with_reducible apply b_min2); assumption)
  | ((with_reducible apply b_maxT); assumption; assumption; wtm_at "r_ne") | ((with_reducible apply b_max); assumption; assumption; wtm_at "r_lv"; wtm_at "r_ne") | ((with_reducible apply b_maxM); assumption; assumption; wtm_at "r_lv"; wtm_at "r_ne")
  | ((with_reducible apply b_minT); assumption; assumption; wtm_at "r_ne") | ((with_reducible apply b_min); assumption; assumption; wtm_at "r_lv"; wtm_at "r_ne") | ((with_reducible apply b_minM); assumption; assumption; wtm_at "r_lv"; wtm_at "r_ne")
  | (with_reducible exact b_intB) | (with_reducible exact b_abs) | ((with_reducible apply b_strI); wtm_at "r_sd"; wtm_at "r_sd") | ((with_reducible apply b_str); wtm_at "r_sd")
  | ((with_reducible apply b_isXM); wtm_at "r_as"; wtm_at "r_as"; (decide)) | ((with_reducible apply b_isXV); wtm_at "r_as"; wtm_at "r_as")
  | ((with_reducible apply b_isBool); wtm_at "r_vw") | ((with_reducible apply b_isInt); wtm_at "r_vw") | ((with_reducible apply b_isTuple); wtm_at "r_vw"))
local macro_rules | `(tactic| wtm_at "r_R") => `(tactic| first | exact ⟨_, rfl, rfl⟩ | exact ⟨_, rfl, by wtm_at "r_sd", rfl⟩ | exact ⟨_, rfl, by wtm_at "r_sd", by wtm_at "r_sd", rfl⟩)
local macro_rules | `(tactic| wtm_at "r_ne") => `(tactic| first | assumption | (exact fun z => nomatch z))
local macro_rules | `(tactic| wtm_at "r_er") => `(tactic| first
  | wtm_at "r_nm"
  | (with_reducible exact er_int) | (with_reducible exact er_str) | (with_reducible exact er_bl) | (with_reducible exact er_non)
  | ((with_reducible show ER _ (.BinOp _ _ _ _) _ _); (with_reducible apply er_bin); wtm_at "r_er"; wtm_at "r_er"; wtm_at "r_op")
  | ((with_reducible show ER _ (.Subscript _ (.Slice _ _ none _) _) _ _); (with_reducible apply er_sl); wtm_at "r_er"; wtm_at "r_eo"; wtm_at "r_eo"; wtm_at "r_sl")
  | ((with_reducible show ER _ (.Subscript _ _ _) _ _); (with_reducible apply er_ix); wtm_at "r_er"; wtm_at "r_er"; wtm_at "r_ix"; (exact fun _ _ => rfl))
  | ((with_reducible show ER _ (.Compare _ [_] _ _) _ _); (with_reducible apply er_cmp); wtm_at "r_er"; wtm_at "r_er"; wtm_at "r_op"; (first | exact nomark _ | rfl))
  | ((with_reducible show ER _ (.Call (.Name _ _) (_ :: _) _ _) _ _); first
    | ((with_reducible apply er_cb); wtm_at "r_as"; wtm_at "r_ea"; wtm_at "r_cb"; (exact rfl); (exact rfl))
    | ((with_reducible apply er_ct); wtm_at "r_as"; wtm_at "r_ea"; wtm_at "r_cb"; (exact rfl); (exact rfl))
    | ((with_reducible apply er_call); wtm_at "r_as"; wtm_at "r_ea"; wtm_at "r_dt"; wtm_at "r_R"; (exact rfl); (exact rfl)))
  | ((with_reducible show ER _ (.Call (.Name _ _) [] _ _) _ _); (with_reducible apply er_call0); wtm_at "r_as"; wtm_at "r_R")
  | ((with_reducible show ER _ (.ListComp _ _ _ _) _ _); (with_reducible apply er_lc); wtm_at "r_lc")
  | ((with_reducible show ER _ (.Tuple _ _ _) _ _); (exact er_litT rfl))
  | ((with_reducible show ER _ (.List _ _) _ _); (exact er_litL rfl (by decide)))
  | ((with_reducible show ER _ (.Tuple _ _ _) _ _); (with_reducible apply er_tup); wtm_at "r_ea"; wtm_at "r_dt"; wtm_at "r_sd")
  | ((with_reducible show ER _ (.List _ _) _ _); (with_reducible apply er_lst); wtm_at "r_ea"; wtm_at "r_dt"; wtm_at "r_sd")
  | ((with_reducible show ER _ (.UnaryOp .USub _ _) _ _); (with_reducible apply er_neg); wtm_at "r_er")
  | ((with_reducible show ER _ (.UnaryOp .Not _ _) _ _); (with_reducible apply er_not); wtm_at "r_er")
  | ((with_reducible show ER _ (.BoolOp .Or (_ :: _ :: _) _) _ _); (with_reducible apply er_or); wtm_at "r_er"; (intro _; wtm_at "r_er"))
  | ((with_reducible show ER _ (.BoolOp .And (_ :: _ :: _) _) _ _); (with_reducible apply er_and); wtm_at "r_er"; (intro _; wtm_at "r_er"))
  | ((with_reducible show ER _ (.BoolOp _ [_] _) _ _); (with_reducible apply er_one); wtm_at "r_er")
  | ((with_reducible show ER _ (.IfExp _ _ _ _) _ _); first
    | ((with_reducible apply er_ifI); wtm_at "r_tr"; (intro _; wtm_at "r_er"); (intro _; wtm_at "r_er"))
    | ((with_reducible apply er_ifD); wtm_at "r_tr"; (intro _; wtm_at "r_er"); (intro _; wtm_at "r_er")))
  | ((with_reducible show ER _ (.Compare _ [_, _] _ _) _ _); (with_reducible apply er_chain); wtm_at "r_er"; wtm_at "r_er"; wtm_at "r_op"; (intro _; wtm_at "r_er"); (intro _; wtm_at "r_op"); (with_unfolding_all rfl)))
local macro_rules | `(tactic| wtm_at "r_eo") => `(tactic| first | (with_reducible exact eo_none) | ((with_reducible apply eo_some); wtm_at "r_er"))
local macro_rules | `(tactic| wtm_at "r_ea") => `(tactic| first
  | (with_reducible exact ea_nil)
  | ((with_reducible apply ea_cons); wtm_at "r_er"; wtm_at "r_ea"; (exact rfl)))
local macro_rules | `(tactic| wtm_at "r_tr") => `(tactic| first
  | ((with_reducible show TR _ (.Compare _ [_] _ _) _ _); (with_reducible apply tr_cmp); wtm_at "r_er"; wtm_at "r_er"; wtm_at "r_op"; (first | exact nomark _ | rfl))
  | ((with_reducible show TR _ (.Compare _ [_, _] _ _) _ _); (with_reducible apply tr_chain); wtm_at "r_er"; wtm_at "r_er"; wtm_at "r_op"; (intro _; wtm_at "r_er"); (intro _; wtm_at "r_op"); (with_unfolding_all rfl))
  | ((with_reducible show TR _ (.BoolOp _ _ _) _ _); (with_reducible apply TW.tr); wtm_at "r_tw")
  | ((with_reducible show TR _ (.UnaryOp .Not _ _) _ _); (with_reducible apply tr_not); wtm_at "r_tr")
  | ((with_reducible apply tr_val); wtm_at "r_er"; wtm_at "r_vw"; (exact rfl); (intro _; rfl)))
local macro_rules | `(tactic| wtm_at "r_tw") => `(tactic| first
  | ((with_reducible show TW _ (.BoolOp .Or [_] _) _ _); (with_reducible apply tw_or1); wtm_at "r_tr")
  | ((with_reducible show TW _ (.BoolOp .And [_] _) _ _); (with_reducible apply tw_and1); wtm_at "r_tr")
  | ((with_reducible show TW _ (.BoolOp .Or (_ :: _ :: _) _) _ _); (with_reducible apply tw_or); wtm_at "r_tr"; (intro _; wtm_at "r_tw"))
  | ((with_reducible show TW _ (.BoolOp .And (_ :: _ :: _) _) _ _); (with_reducible apply tw_and); wtm_at "r_tr"; (intro _; wtm_at "r_tw")))
local macro_rules | `(tactic| wtm_at "s_ret") => `(tactic| ((with_reducible apply ws_ret); (with_reducible apply we_p); wtm_at "r_er"))
local macro_rules | `(tactic| wtm_at "s_set") => `(tactic| ((with_reducible apply ws_set); wtm_at "r_as"; (with_reducible apply we_p); wtm_at "r_er"))
local macro_rules | `(tactic| wtm_at "s_sto") => `(tactic| ((with_reducible apply ws_storeI); wtm_at "r_er"; wtm_at "r_er"; wtm_at "r_er"; first | exact (rfl : _[0]? = _) | exact (rfl : _[1]? = _) | exact (rfl : _[2]? = _)))

def R_look_die (M : Md) : Rl := fun ds r => ∃ d : Int, ds = [.int d] ∧ r = if isDie d then .ok (.d .none) else .error (cE M "BadRoll")
theorem sc_look_die : FnScope ["die"] ["die"] (defScope s_look_die) := ⟨rfl, rfl, rfl, by decide +kernel, rfl, by decide +kernel, by decide +kernel⟩
theorem ok_look_die {M : Md} {f : Addr} {fd : FuncData} (T : Tx M) (F : FnP M.K "look_die" s_look_die f fd) (hm : M.mg "look_die" = some (.ref f)) : Df M "look_die" (R_look_die M) 1 := by
  refine fnR F hm (F.bindsN fun _ _ _ _ _ _ us hl => match us, hl with | [_], _ => rfl) sc_look_die ?hlen ?hbody
  case hlen => rintro ds r ⟨_, rfl, _⟩; rfl
  case hbody =>
    rintro X cf fn A B ds r ⟨d, rfl, rfl⟩ hx
    have hu := cf.un
    have hc := cf.calm
    have hN := cf.nd
    have n_die := cf.nm (x := "die") 0 rfl (by decide +kernel)
    have g_FACES := cf.gc (x := "FACES") (v := .int 6) (by decide +kernel) (by obtain ⟨t, h⟩ := T.k_FACES; exact ⟨_, h, t, rfl⟩)
    have e_BadRoll := T.e_BadRoll.ec cf (by decide +kernel)
    with_unfolding_all apply wb_one
    refine ws_if (k := !(decide (1 ≤ d) && decide (d ≤ 6))) (by wtm_at "r_tr") (fun h => ?_) (fun h => ?_)
    · apply wb_one
      refine ws_raise hx hc e_BadRoll ⟨?_, rfl, rfl⟩
      have : isDie d = false := by
        rw [← Bool.not_eq_true]; intro q; rw [isDie] at q; rw [q] at h; cases h
      rw [this]; rfl
    · apply wb_nil
      have : isDie d = true := by
        cases q : isDie d with
        | true => rfl
        | false => rw [isDie] at q; rw [q] at h; cases h
      exact ⟨by rw [this]; rfl, rfl, rfl⟩
/-- look_die ahead of the rest -/
theorem we_die {X : Cx} {M : Md} {G : Gm} {Q : Sl → Gm → Prop} {e : Expr} {p pos : Pos} {Er : Addr → Gm → Prop} {d : Int} (hx : XOk X Er) (F : Fc X "look_die" (R_look_die M)) (ha : EA X [e] G [.d (.int d)])
    (hy : isDie d = true → Q (.d .none) G) (hn : isDie d = false → Er (cE M "BadRoll") G) (he : starEach [e] X.env = (false, eval e X.env) :: starEach [] X.env := by rfl) : WE X (.Call (.Name "look_die" p) [e] [] pos) G Q := by
  refine we_callX hx F ha (.cons .d .nil) ?_ he rfl
  cases h : isDie d with
  | true => exact .inl ⟨.d .none, ⟨d, rfl, by rw [h]; rfl⟩, hy h⟩
  | false => exact .inr ⟨_, ⟨d, rfl, by rw [h]; rfl⟩, hn h⟩
end Rd

namespace Rd
open PySem PySem.Spec PyProof.Rows L2 TL
local macro_rules | `(tactic| wtm_at "r_sd") => `(tactic| first | assumption | omega | decide | (simp only [List.length_cons, List.length_nil, List.length_append, List.length_map, List.length_replicate, List.length_set, sizeLine_eq]; omega) | (simp; omega))
local macro_rules | `(tactic| wtm_at "r_as") => `(tactic| (with_reducible assumption))
local macro_rules | `(tactic| wtm_at "r_nm") => `(tactic| ((with_reducible show ER _ (.Name _ _) _ _); first
  | ((with_reducible apply er_name); wtm_at "r_as"; exact rfl)
  | ((with_reducible apply er_nameL); wtm_at "r_as"; exact rfl)
  | ((with_reducible apply er_nameV); wtm_at "r_as"; exact rfl)
  | ((with_reducible apply er_nameX); wtm_at "r_as"; exact rfl)
  | ((with_reducible apply er_gcI); wtm_at "r_as")
  | ((with_reducible apply er_gcS); wtm_at "r_as")
  | ((with_reducible apply Bt.ty); wtm_at "r_as")
  | ((with_reducible apply er_gcV); wtm_at "r_as")
  | ((with_reducible apply Ec.er); wtm_at "r_as")))
local macro_rules | `(tactic| wtm_at "r_lv") => `(tactic| first | (with_reducible exact Lv.d) | (with_reducible exact Lv.f) | (with_reducible exact Lv.l) | exact Lv.c 0 rfl | exact Lv.c 1 rfl | exact Lv.c 2 rfl)
local macro_rules | `(tactic| wtm_at "r_tv") => `(tactic| first | (with_reducible exact Tv.f) | (with_reducible exact Tv.l) | exact Tv.c 0 rfl | exact Tv.c 1 rfl | exact Tv.c 2 rfl)
local macro_rules | `(tactic| wtm_at "r_vw") => `(tactic| first | (with_reducible exact Vw.d) | (with_reducible exact Vw.f) | (with_reducible exact Vw.l) | exact Vw.c 0 rfl | exact Vw.c 1 rfl | exact Vw.c 2 rfl)
local macro_rules | `(tactic| wtm_at "r_dt") => `(tactic| first | (with_reducible exact DtL.nil) | ((with_reducible apply DtL.cons); (first | (with_reducible exact Dt.d) | (with_reducible exact Dt.f) | (with_reducible exact Dt.l)); wtm_at "r_dt"))
local macro_rules | `(tactic| wtm_at "r_op") => `(tactic| first
  | (with_reducible exact o_add) | (with_reducible exact o_sub) | (with_reducible exact o_lt) | (with_reducible exact o_le) | (with_reducible exact o_gt) | (with_reducible exact o_ge)
  | (with_reducible exact o_eqI) | (with_reducible exact o_neI) | (with_reducible exact o_eqN) | (with_reducible exact o_neN) | (with_reducible exact o_inN) | (with_reducible exact o_notInN) | (with_reducible exact o_eqS) | (with_reducible exact o_neS)
  | ((with_reducible apply o_mod); wtm_at "r_sd")
  | ((with_reducible apply o_div); (first | exact ⟨by decide, by decide⟩ | exact ⟨by omega, by omega⟩))
  | ((with_reducible apply o_isN); (exact fun z => nomatch z); (first | exact fun _ z => nomatch z | exact fun y z => ⟨_, (Sl.v.inj z).symm⟩))
  | ((with_reducible apply o_notN); (exact fun z => nomatch z); (first | exact fun _ z => nomatch z | exact fun y z => ⟨_, (Sl.v.inj z).symm⟩))
  | ((with_reducible apply o_mul); (first | exact Or.inl ⟨by omega, by omega⟩ | exact Or.inr ⟨by omega, by omega⟩))
  | ((with_reducible apply o_inI); wtm_at "r_lv")
  | ((with_reducible apply o_catTI); wtm_at "r_sd")
  | ((with_reducible apply o_catT); wtm_at "r_sd")
  | ((with_reducible apply o_catLI); wtm_at "r_tv"; wtm_at "r_tv"; wtm_at "r_sd")
  | ((with_reducible apply o_catL); wtm_at "r_tv"; wtm_at "r_tv"; wtm_at "r_sd")
  | ((with_reducible apply o_catN); wtm_at "r_sd")
  | ((with_reducible apply o_catS); wtm_at "r_sd")
  | ((with_reducible apply o_rep0); wtm_at "r_sd"; wtm_at "r_sd")
  | ((with_reducible apply o_repL); wtm_at "r_tv"; wtm_at "r_sd"; wtm_at "r_sd"; wtm_at "r_sd")
  | ((with_reducible apply o_repT); (exact fun z => nomatch z); wtm_at "r_sd"; wtm_at "r_sd"; wtm_at "r_sd")
  | ((with_reducible apply o_eqD); assumption; wtm_at "r_vw"; wtm_at "r_vw"; wtm_at "r_dp")
  | ((with_reducible apply o_neD); assumption; wtm_at "r_vw"; wtm_at "r_vw"; wtm_at "r_dp"))
local macro_rules | `(tactic| wtm_at "r_dp") => `(tactic| first | assumption | (exact dep_l (by wtm_at "r_de")) | (exact dep_r (by wtm_at "r_de")))
local macro_rules | `(tactic| wtm_at "r_de") => `(tactic| first | (exact dep_ints _) | (exact dep_intsL _) | (simp only [PyData.depth, PyData.depthAll, PySem.W.depth_ints]; omega))
local macro_rules | `(tactic| wtm_at "r_ix") => `(tactic| first
  | ((with_reducible apply o_ixTI); wtm_at "r_sd"; wtm_at "r_sd")
  | ((with_reducible apply o_ixT); (exact rfl))
  | ((with_reducible apply o_ixLI); wtm_at "r_lv"; wtm_at "r_sd"; wtm_at "r_sd")
  | ((with_reducible apply o_ixL); wtm_at "r_lv"; (exact rfl))
  | ((with_reducible apply o_ixN); wtm_at "r_sd"; (exact rfl)) | (exact o_ixH 0 rfl rfl) | (exact o_ixH 1 rfl rfl) | (exact o_ixH 2 rfl rfl))
local macro_rules | `(tactic| wtm_at "r_sl") => `(tactic| first | (with_reducible exact o_slTI) | (with_reducible exact o_slT) | ((with_reducible apply o_slLI); wtm_at "r_lv") | ((with_reducible apply o_slL); wtm_at "r_lv") | ((with_reducible apply o_slN); wtm_at "r_sd") | ((with_reducible apply o_slS); wtm_at "r_sd"))
local macro_rules | `(tactic| wtm_at "r_cb") => `(tactic| first
  | (with_reducible exact b_lenTI) | (with_reducible exact b_lenT) | ((with_reducible apply b_len); wtm_at "r_lv") | ((with_reducible apply b_lenN); wtm_at "r_sd") | ((with_reducible apply b_lenS); wtm_at "r_sd")
  | ((with_reducible apply b_sumT); assumption) | ((with_reducible apply b_sum); assumption; wtm_at "r_lv") | ((with_reducible apply b_sumM); assumption; wtm_at "r_lv")
  | ((with_reducible apply b_all); assumption; wtm_at "r_lv") | ((with_reducible apply b_allM); assumption; wtm_at "r_lv") | ((with_reducible apply b_any); assumption; wtm_at "r_lv") | ((with_reducible apply b_anyM); assumption; wtm_at "r_lv")
  | ((with_reducible apply b_tuple); wtm_at "r_lv") | (with_reducible exact b_listT) | ((with_reducible apply b_list); wtm_at "r_lv")
  | ((with_reducible apply b_max2); assumption) | ((with_reducible apply b_min2); assumption)
  | ((with_reducible apply b_maxT); assumption; assumption; wtm_at "r_ne") | ((with_reducible apply b_max); assumption; assumption; wtm_at "r_lv"; wtm_at "r_ne") | ((with_reducible apply b_maxM); assumption; assumption; wtm_at "r_lv"; wtm_at "r_ne")
  | ((with_reducible apply b_minT); assumption; assumption; wtm_at "r_ne") | ((with_reducible apply b_min); assumption; assumption; wtm_at "r_lv"; wtm_at "r_ne") | ((with_reducible apply b_minM); assumption; assumption; wtm_at "r_lv"; wtm_at "r_ne")
  | (with_reducible exact b_intB) | (with_reducible exact b_abs) | ((with_reducible apply b_strI); wtm_at "r_sd"; wtm_at "r_sd") | ((with_reducible apply b_str); wtm_at "r_sd")
  | ((with_reducible apply b_isXM); wtm_at "r_as"; wtm_at "r_as"; (decide)) | ((with_reducible apply b_isXV); wtm_at "r_as"; wtm_at "r_as")
  | ((with_reducible apply b_isBool); wtm_at "r_vw") | ((with_reducible apply b_isInt); wtm_at "r_vw") | ((with_reducible apply b_isTuple); wtm_at "r_vw"))
local macro_rules | `(tactic| wtm_at "r_R") => `(tactic| first | exact ⟨_, rfl, rfl⟩ | exact ⟨_, rfl, by wtm_at "r_sd", rfl⟩ | exact ⟨_, rfl, by wtm_at "r_sd", by wtm_at "r_sd", rfl⟩)
local macro_rules | `(tactic| wtm_at "r_ne") => `(tactic| first | assumption | (exact fun z => nomatch z))
local macro_rules | `(tactic| wtm_at "r_er") => `(tactic| first
  | wtm_at "r_nm"
  | (with_reducible exact er_int) | (with_reducible exact er_str) | (with_reducible exact er_bl) | (with_reducible exact er_non)
  | ((with_reducible show ER _ (.BinOp _ _ _ _) _ _); (with_reducible apply er_bin); wtm_at "r_er"; wtm_at "r_er"; wtm_at "r_op")
  | ((with_reducible show ER _ (.Subscript _ (.Slice _ _ none _) _) _ _); (with_reducible apply er_sl); wtm_at "r_er"; wtm_at "r_eo"; wtm_at "r_eo"; wtm_at "r_sl")
  | ((with_reducible show ER _ (.Subscript _ _ _) _ _); (with_reducible apply er_ix); wtm_at "r_er"; wtm_at "r_er"; wtm_at "r_ix"; (exact fun _ _ => rfl))
  | ((with_reducible show ER _ (.Compare _ [_] _ _) _ _); (with_reducible apply er_cmp); wtm_at "r_er"; wtm_at "r_er"; wtm_at "r_op"; (first | exact nomark _ | rfl))
  | ((with_reducible show ER _ (.Call (.Name _ _) (_ :: _) _ _) _ _); first
    | ((with_reducible apply er_cb); wtm_at "r_as"; wtm_at "r_ea"; wtm_at "r_cb"; (exact rfl); (exact rfl))
    | ((with_reducible apply er_ct); wtm_at "r_as"; wtm_at "r_ea"; wtm_at "r_cb"; (exact rfl); (exact rfl))
    | ((with_reducible apply er_call); wtm_at "r_as"; wtm_at "r_ea"; wtm_at "r_dt"; wtm_at "r_R"; (exact rfl); (exact rfl)))
  | ((with_reducible show ER _ (.Call (.Name _ _) [] _ _) _ _); (with_reducible apply er_call0); wtm_at "r_as"; wtm_at "r_R")
  | ((with_reducible show ER _ (.ListComp _ _ _ _) _ _); (with_reducible apply er_lc); wtm_at "r_lc")
  | ((with_reducible show ER _ (.Tuple _ _ _) _ _); (exact er_litT rfl))
  | ((with_reducible show ER _ (.List _ _) _ _); (exact er_litL rfl (by decide)))
  | ((with_reducible show ER _ (.Tuple _ _ _) _ _); (with_reducible apply er_tup); wtm_at "r_ea"; wtm_at "r_dt"; wtm_at "r_sd")
  | ((with_reducible show ER _ (.List _ _) _ _); (with_reducible apply er_lst); wtm_at "r_ea"; wtm_at "r_dt"; wtm_at "r_sd")
  | ((with_reducible show ER _ (.UnaryOp .USub _ _) _ _); (with_reducible apply er_neg); wtm_at "r_er")
  | ((with_reducible show ER _ (.UnaryOp .Not _ _) _ _); (with_reducible apply er_not); wtm_at "r_er")
  | ((with_reducible show ER _ (.BoolOp .Or (_ :: _ :: _) _) _ _); (with_reducible apply er_or); wtm_at "r_er"; (intro _; wtm_at "r_er"))
  | ((with_reducible show ER _ (.BoolOp .And (_ :: _ :: _) _) _ _); (with_reducible apply er_and); wtm_at "r_er"; (intro _; wtm_at "r_er"))
  | ((with_reducible show ER _ (.BoolOp _ [_] _) _ _); (with_reducible apply er_one); wtm_at "r_er")
  | ((with_reducible show ER _ (.IfExp _ _ _ _) _ _); first
    | ((with_reducible apply er_ifI); wtm_at "r_tr"; (intro _; wtm_at "r_er"); (intro _; wtm_at "r_er"))
    | ((with_reducible apply er_ifD); wtm_at "r_tr"; (intro _; wtm_at "r_er"); (intro _; wtm_at "r_er")))
  | ((with_reducible show ER _ (.Compare _ [_, _] _ _) _ _); (with_reducible apply er_chain); wtm_at "r_er"; wtm_at "r_er"; wtm_at "r_op"; (intro _; wtm_at "r_er"); (intro _; wtm_at "r_op"); (with_unfolding_all rfl)))
local macro_rules | `(tactic| wtm_at "r_eo") => `(tactic| first | (with_reducible exact eo_none) | ((with_reducible apply eo_some); wtm_at "r_er"))
local macro_rules | `(tactic| wtm_at "r_ea") => `(tactic| first
  | (with_reducible exact ea_nil)
  | ((with_reducible apply ea_cons); wtm_at "r_er"; wtm_at "r_ea"; (exact rfl)))
local macro_rules | `(tactic| wtm_at "r_tr") => `(tactic| first
  | ((with_reducible show TR _ (.Compare _ [_] _ _) _ _); (with_reducible apply tr_cmp); wtm_at "r_er"; wtm_at "r_er"; wtm_at "r_op"; (first | exact nomark _ | rfl))
  | ((with_reducible show TR _ (.Compare _ [_, _] _ _) _ _); (with_reducible apply tr_chain); wtm_at "r_er"; wtm_at "r_er"; wtm_at "r_op"; (intro _; wtm_at "r_er"); (intro _; wtm_at "r_op"); (with_unfolding_all rfl))
  | ((with_reducible show TR _ (.BoolOp _ _ _) _ _); (with_reducible apply TW.tr); wtm_at "r_tw")
  | ((with_reducible show TR _ (.UnaryOp .Not _ _) _ _); (with_reducible apply tr_not); wtm_at "r_tr")
  | ((with_reducible apply tr_val); wtm_at "r_er"; wtm_at "r_vw"; (exact rfl); (intro _; rfl)))
local macro_rules | `(tactic| wtm_at "r_tw") => `(tactic| first
  | ((with_reducible show TW _ (.BoolOp .Or [_] _) _ _); (with_reducible apply tw_or1); wtm_at "r_tr")
  | ((with_reducible show TW _ (.BoolOp .And [_] _) _ _); (with_reducible apply tw_and1); wtm_at "r_tr")
  | ((with_reducible show TW _ (.BoolOp .Or (_ :: _ :: _) _) _ _); (with_reducible apply tw_or); wtm_at "r_tr"; (intro _; wtm_at "r_tw"))
  | ((with_reducible show TW _ (.BoolOp .And (_ :: _ :: _) _) _ _); (with_reducible apply tw_and); wtm_at "r_tr"; (intro _; wtm_at "r_tw")))
local macro_rules | `(tactic| wtm_at "s_ret") => `(tactic| ((with_reducible apply ws_ret); (with_reducible apply we_p); wtm_at "r_er"))
local macro_rules | `(tactic| wtm_at "s_set") => `(tactic| ((with_reducible apply ws_set); wtm_at "r_as"; (with_reducible apply we_p); wtm_at "r_er"))
local macro_rules | `(tactic| wtm_at "s_sto") => `(tactic| ((with_reducible apply ws_storeI); wtm_at "r_er"; wtm_at "r_er"; wtm_at "r_er"; first | exact (rfl : _[0]? = _) | exact (rfl : _[1]? = _) | exact (rfl : _[2]? = _)))

theorem furth_ne (l : List Int) : ((rng 0 26).filter fun p => decide (0 < at0 l p) || decide (p = 0)) ≠ [] := by
  intro z
  rw [List.filter_eq_nil_iff] at z
  exact absurd (z 0 (mem_rng.mpr ⟨by omega, by omega⟩)) (by simp)
def R_furthest : Rl := fun ds r => ∃ l : List Int, ds = [dT l] ∧ l.length = 26 ∧ r = .ok (.d (.int (furth l)))
set_option hygiene false in
local macro_rules | `(tactic| wtm_at "r_lc") => `(tactic| (
  refine lcRf (hi := 25 + 1) (fun z => decide (0 < at0 l z) || decide (z = 0)) .int [("point", 1)] b_range cf.nd (cf.bok (by decide +kernel)) (by wtm_at "r_ea") (by omega) (by omega) rfl (fun _ => rfl) (fun z h0 h1 => ?_)
  refine lcok_nt cf rfl (by decide +kernel) Dt.d (fun Y Da acc hY cfY => ?_)
  have hu := cfY.un
  have hc := cfY.calm
  have hN := cfY.nd
  have n_point := cfY.nm (x := "point") 1 rfl (by decide +kernel)
  have n_side := cfY.nm (x := "side") 0 rfl (by decide +kernel)
  have g_OFF := cfY.gc (x := "OFF") (v := .int 0) (by decide +kernel) (by obtain ⟨t, h⟩ := T.k_OFF; exact ⟨_, h, t, rfl⟩)
  constructor
  · wtm_at "r_tr"
  · intro _; wtm_at "r_er"))
theorem sc_furthest : FnScope ["side", "point"] ["side"] (defScope s_furthest) := ⟨rfl, rfl, rfl, by decide +kernel, rfl, by decide +kernel, by decide +kernel⟩
theorem ok_furthest {M : Md} {f : Addr} {fd : FuncData} (T : Tx M) (F : FnP M.K "furthest" s_furthest f fd) (hm : M.mg "furthest" = some (.ref f)) : Df M "furthest" R_furthest 1 := by
  refine fnR F hm (F.bindsN fun _ _ _ _ _ _ us hl => match us, hl with | [_], _ => rfl) sc_furthest ?hlen ?hbody
  case hlen => rintro ds r ⟨l, rfl, _⟩; rfl
  case hbody =>
    rintro X cf fn A B ds r ⟨l, rfl, hl, rfl⟩ hx
    have hu := cf.un
    have hc := cf.calm
    have hN := cf.nd
    have n_side := cf.nm (x := "side") 0 rfl (by decide +kernel)
    have b_max := cf.bt (x := "max") (f := .builtin "max") (by decide +kernel) T.b_max (by decide +kernel)
    have b_range := cf.btr (by decide +kernel) T.b_range
    have g_BAR := cf.gc (x := "BAR") (v := .int 25) (by decide +kernel) (by obtain ⟨t, h⟩ := T.k_BAR; exact ⟨_, h, t, rfl⟩)
    with_unfolding_all apply wb_one
    have hne := furth_ne l
    refine ws_ret (we_p (ra := .d (.int (furth l))) (er_cb b_max (rs := [.f (((rng 0 26).filter fun p => decide (0 < at0 l p) || decide (p = 0)).map .int)]) (ea_cons ?_ ea_nil rfl) (Rd.b_max hc hu .f hne) rfl rfl) ⟨rfl, rfl, _, rfl, .d⟩)
    rw [show (26 : Int) = 25 + 1 from rfl]
    wtm_at "r_er"
end Rd

namespace Rd
open PySem PySem.Spec PyProof.Rows L2 TL
local macro_rules | `(tactic| wtm_at "r_sd") => `(tactic| first | assumption | omega | decide | (simp only [List.length_cons, List.length_nil, List.length_append, List.length_map, List.length_replicate, List.length_set, sizeLine_eq]; omega) | (simp; omega))
local macro_rules | `(tactic| wtm_at "r_as") => `(tactic| (with_reducible assumption))
local macro_rules | `(tactic| wtm_at "r_nm") => `(tactic| ((with_reducible show ER _ (.Name _ _) _ _); first
  | ((with_reducible apply er_name); wtm_at "r_as"; exact rfl)
  | ((with_reducible apply er_nameL); wtm_at "r_as"; exact rfl)
  | ((with_reducible apply er_nameV); wtm_at "r_as"; exact rfl)
  | ((with_reducible apply er_nameX); wtm_at "r_as"; exact rfl)
  | ((with_reducible apply er_gcI); wtm_at "r_as")
  | ((with_reducible apply er_gcS); wtm_at "r_as")
  | ((with_reducible apply Bt.ty); wtm_at "r_as")
  | ((with_reducible apply er_gcV); wtm_at "r_as")
  | ((with_reducible apply Ec.er); wtm_at "r_as")))
local macro_rules | `(tactic| wtm_at "r_lv") => `(tactic| first | (with_reducible exact Lv.d) | (with_reducible exact Lv.f) | (with_reducible exact Lv.l) | exact Lv.c 0 rfl | exact Lv.c 1 rfl | exact Lv.c 2 rfl)
local macro_rules | `(tactic| wtm_at "r_tv") => `(tactic| first | (with_reducible exact Tv.f) | (with_reducible exact Tv.l) | exact Tv.c 0 rfl | exact Tv.c 1 rfl | exact Tv.c 2 rfl)
local macro_rules | `(tactic| wtm_at "r_vw") => `(tactic| first | (with_reducible exact Vw.d) | (with_reducible exact Vw.f) | (with_reducible exact Vw.l) | exact Vw.c 0 rfl | exact Vw.c 1 rfl | exact Vw.c 2 rfl)
local macro_rules | `(tactic| wtm_at "r_dt") => `(tactic| first | (with_reducible exact DtL.nil) | ((with_reducible apply DtL.cons); (first | (with_reducible exact Dt.d) | (with_reducible exact Dt.f) | (with_reducible exact Dt.l)); wtm_at "r_dt"))
local macro_rules | `(tactic| wtm_at "r_op") => `(tactic| first
  | (with_reducible exact o_add) | (with_reducible exact o_sub) | (with_reducible exact o_lt) | (with_reducible exact o_le) | (with_reducible exact o_gt) | (with_reducible exact o_ge)
  | (with_reducible exact o_eqI) | (with_reducible exact o_neI) | (with_reducible exact o_eqN) | (with_reducible exact o_neN) | (with_reducible exact o_inN) | (with_reducible exact o_notInN) | (with_reducible exact o_eqS) | (with_reducible exact o_neS)
  | ((with_reducible apply o_mod); wtm_at "r_sd")
  | ((with_reducible apply o_div); (first | exact ⟨by decide, by decide⟩ | exact ⟨by omega, by omega⟩))
  | ((with_reducible apply o_isN); (exact fun z => nomatch z); (first | exact fun _ z => nomatch z | exact fun y z => ⟨_, (Sl.v.inj z).symm⟩))
  | ((with_reducible apply o_notN); (exact fun z => nomatch z); (first | exact fun _ z => nomatch z | exact fun y z => ⟨_, (Sl.v.inj z).symm⟩))
  | ((with_reducible apply o_mul); (first | exact Or.inl ⟨by omega, by omega⟩ | exact Or.inr ⟨by omega, by omega⟩))
  | ((with_reducible apply o_inI); wtm_at "r_lv")
  | ((with_reducible apply o_catTI); wtm_at "r_sd")
  | ((with_reducible apply o_catT); wtm_at "r_sd")
  | ((with_reducible apply o_catLI); wtm_at "r_tv"; wtm_at "r_tv"; wtm_at "r_sd")
  | ((with_reducible apply o_catL); wtm_at "r_tv"; wtm_at "r_tv"; wtm_at "r_sd")
  | ((with_reducible apply o_catN); wtm_at "r_sd")
  | ((with_reducible apply o_catS); wtm_at "r_sd")
  | ((with_reducible apply o_rep0); wtm_at "r_sd"; wtm_at "r_sd")
  | ((with_reducible apply o_repL); wtm_at "r_tv"; wtm_at "r_sd"; wtm_at "r_sd"; wtm_at "r_sd")
  | ((with_reducible apply o_repT); (exact fun z => nomatch z); wtm_at "r_sd"; wtm_at "r_sd"; wtm_at "r_sd")
  | ((with_reducible apply o_eqD); assumption; wtm_at "r_vw"; wtm_at "r_vw"; wtm_at "r_dp")
  | ((with_reducible apply o_neD); assumption; wtm_at "r_vw"; wtm_at "r_vw"; wtm_at "r_dp"))
local macro_rules | `(tactic| wtm_at "r_dp") => `(tactic| first | assumption | (exact dep_l (by wtm_at "r_de")) | (exact dep_r (by wtm_at "r_de")))
local macro_rules | `(tactic| wtm_at "r_de") => `(tactic| first | (exact dep_ints _) | (exact dep_intsL _) | (simp only [PyData.depth, PyData.depthAll, PySem.W.depth_ints]; omega))
local macro_rules | `(tactic| wtm_at "r_ix") => `(tactic| first
  | ((with_reducible apply o_ixTI); wtm_at "r_sd"; wtm_at "r_sd")
  | ((with_reducible apply o_ixT); (exact rfl))
  | ((with_reducible apply o_ixLI); wtm_at "r_lv"; wtm_at "r_sd"; wtm_at "r_sd")
  | ((with_reducible apply o_ixL); wtm_at "r_lv"; (exact rfl))
  | ((with_reducible apply o_ixN); wtm_at "r_sd"; (exact rfl)) | (exact o_ixH 0 rfl rfl) | (exact o_ixH 1 rfl rfl) | (exact o_ixH 2 rfl rfl))
local macro_rules | `(tactic| wtm_at "r_sl") => `(tactic| first | (with_reducible exact o_slTI) | (with_reducible exact o_slT) | ((with_reducible apply o_slLI); wtm_at "r_lv") | ((with_reducible apply o_slL); wtm_at "r_lv") | ((with_reducible apply o_slN); wtm_at "r_sd") | ((with_reducible apply o_slS); wtm_at "r_sd"))
local macro_rules | `(tactic| wtm_at "r_cb") => `(tactic| first
  | (with_reducible exact b_lenTI) | (with_reducible exact b_lenT) | ((with_reducible apply b_len); wtm_at "r_lv") | ((with_reducible apply b_lenN); wtm_at "r_sd") | ((with_reducible apply b_lenS); wtm_at "r_sd")
  | ((with_reducible apply b_sumT); assumption) | ((with_reducible apply b_sum); assumption; wtm_at "r_lv") | ((with_reducible apply b_sumM); assumption; wtm_at "r_lv")
  | ((with_reducible apply b_all); assumption; wtm_at "r_lv") | ((with_reducible apply b_allM); assumption; wtm_at "r_lv") | ((with_reducible apply b_any); assumption; wtm_at "r_lv") | ((with_reducible apply b_anyM); assumption; wtm_at "r_lv")
  | ((with_reducible apply b_tuple); wtm_at "r_lv") | (with_reducible exact b_listT) | ((with_reducible apply b_list); wtm_at "r_lv")
  | ((with_reducible apply b_max2); assumption) | ((with_reducible apply b_min2); assumption)
  | ((with_reducible apply b_maxT); assumption; assumption; wtm_at "r_ne") | ((with_reducible apply b_max); assumption; assumption; wtm_at "r_lv"; wtm_at "r_ne") | ((with_reducible apply b_maxM); assumption; assumption; wtm_at "r_lv"; wtm_at "r_ne")
  | ((with_reducible apply b_minT); assumption; assumption; wtm_at "r_ne") | ((with_reducible apply b_min); assumption; assumption; wtm_at "r_lv"; wtm_at "r_ne") | ((with_reducible apply b_minM); assumption; assumption; wtm_at "r_lv"; wtm_at "r_ne")
  | (with_reducible exact b_intB) | (with_reducible exact b_abs) | ((with_reducible apply b_strI); wtm_at "r_sd"; wtm_at "r_sd") | ((with_reducible apply b_str); wtm_at "r_sd")
  | ((with_reducible apply b_isXM); wtm_at "r_as"; wtm_at "r_as"; (decide)) | ((with_reducible apply b_isXV); wtm_at "r_as"; wtm_at "r_as")
  | ((with_reducible apply b_isBool); wtm_at "r_vw") | ((with_reducible apply b_isInt); wtm_at "r_vw") | ((with_reducible apply b_isTuple); wtm_at "r_vw"))
local macro_rules | `(tactic| wtm_at "r_R") => `(tactic| first | exact ⟨_, rfl, rfl⟩ | exact ⟨_, rfl, by wtm_at "r_sd", rfl⟩ | exact ⟨_, rfl, by wtm_at "r_sd", by wtm_at "r_sd", rfl⟩)
local macro_rules | `(tactic| wtm_at "r_ne") => `(tactic| first | assumption | (exact fun z => nomatch z))
local macro_rules | `(tactic| wtm_at "r_er") => `(tactic| first
  | wtm_at "r_nm"
  | (with_reducible exact er_int) | (with_reducible exact er_str) | (with_reducible exact er_bl) | (with_reducible exact er_non)
  | ((with_reducible show ER _ (.BinOp _ _ _ _) _ _); (with_reducible apply er_bin); wtm_at "r_er"; wtm_at "r_er"; wtm_at "r_op")
  | ((with_reducible show ER _ (.Subscript _ (.Slice _ _ none _) _) _ _); (with_reducible apply er_sl); wtm_at "r_er"; wtm_at "r_eo"; wtm_at "r_eo"; wtm_at "r_sl")
  | ((with_reducible show ER _ (.Subscript _ _ _) _ _); (with_reducible apply er_ix); wtm_at "r_er"; wtm_at "r_er"; wtm_at "r_ix"; (exact fun _ _ => rfl))
  | ((with_reducible show ER _ (.Compare _ [_] _ _) _ _); (with_reducible apply er_cmp); wtm_at "r_er"; wtm_at "r_er"; wtm_at "r_op"; (first | exact nomark _ | rfl))
  | ((with_reducible show ER _ (.Call (.Name _ _) (_ :: _) _ _) _ _); first
    | ((with_reducible apply er_cb); wtm_at "r_as"; wtm_at "r_ea"; wtm_at "r_cb"; (exact rfl); (exact rfl))
    | ((with_reducible apply er_ct); wtm_at "r_as"; wtm_at "r_ea"; wtm_at "r_cb"; (exact rfl); (exact rfl))
    | ((with_reducible apply er_call); wtm_at "r_as"; wtm_at "r_ea"; wtm_at "r_dt"; wtm_at "r_R"; (exact rfl); (exact rfl)))
  | ((with_reducible show ER _ (.Call (.Name _ _) [] _ _) _ _); (with_reducible apply er_call0); wtm_at "r_as"; wtm_at "r_R")
  | ((with_reducible show ER _ (.ListComp _ _ _ _) _ _); (with_reducible apply er_lc); wtm_at "r_lc")
  | ((with_reducible show ER _ (.Tuple _ _ _) _ _); (exact er_litT rfl))
  | ((with_reducible show ER _ (.List _ _) _ _); (exact er_litL rfl (by decide)))
  | ((with_reducible show ER _ (.Tuple _ _ _) _ _); (with_reducible apply er_tup); wtm_at "r_ea"; wtm_at "r_dt"; wtm_at "r_sd")
  | ((with_reducible show ER _ (.List _ _) _ _); (with_reducible apply er_lst); wtm_at "r_ea"; wtm_at "r_dt"; wtm_at "r_sd")
  | ((with_reducible show ER _ (.UnaryOp .USub _ _) _ _); (with_reducible apply er_neg); wtm_at "r_er")
  | ((with_reducible show ER _ (.UnaryOp .Not _ _) _ _); (with_reducible apply er_not); wtm_at "r_er")
  | ((with_reducible show ER _ (.BoolOp .Or (_ :: _ :: _) _) _ _); (with_reducible apply er_or); wtm_at "r_er"; (intro _; wtm_at "r_er"))
  | ((with_reducible show ER _ (.BoolOp .And (_ :: _ :: _) _) _ _); (with_reducible apply er_and); wtm_at "r_er"; (intro _; wtm_at "r_er"))
  | ((with_reducible show ER _ (.BoolOp _ [_] _) _ _); (with_reducible apply er_one); wtm_at "r_er")
  | ((with_reducible show ER _ (.IfExp _ _ _ _) _ _); first
    | ((with_reducible apply er_ifI); wtm_at "r_tr"; (intro _; wtm_at "r_er"); (intro _; wtm_at "r_er"))
    | ((with_reducible apply er_ifD); wtm_at "r_tr"; (intro _; wtm_at "r_er"); (intro _; wtm_at "r_er")))
  | ((with_reducible show ER _ (.Compare _ [_, _] _ _) _ _); (with_reducible apply er_chain); wtm_at "r_er"; wtm_at "r_er"; wtm_at "r_op"; (intro _; wtm_at "r_er"); (intro _; wtm_at "r_op"); (with_unfolding_all rfl)))
local macro_rules | `(tactic| wtm_at "r_eo") => `(tactic| first | (with_reducible exact eo_none) | ((with_reducible apply eo_some); wtm_at "r_er"))
local macro_rules | `(tactic| wtm_at "r_ea") => `(tactic| first
  | (with_reducible exact ea_nil)
  | ((with_reducible apply ea_cons); wtm_at "r_er"; wtm_at "r_ea"; (exact rfl)))
local macro_rules | `(tactic| wtm_at "r_tr") => `(tactic| first
  | ((with_reducible show TR _ (.Compare _ [_] _ _) _ _); (with_reducible apply tr_cmp); wtm_at "r_er"; wtm_at "r_er"; wtm_at "r_op"; (first | exact nomark _ | rfl))
  | ((with_reducible show TR _ (.Compare _ [_, _] _ _) _ _); (with_reducible apply tr_chain); wtm_at "r_er"; wtm_at "r_er"; wtm_at "r_op"; (intro _; wtm_at "r_er"); (intro _; wtm_at "r_op"); (with_unfolding_all rfl))
  | ((with_reducible show TR _ (.BoolOp _ _ _) _ _); (with_reducible apply TW.tr); wtm_at "r_tw")
  | ((with_reducible show TR _ (.UnaryOp .Not _ _) _ _); (with_reducible apply tr_not); wtm_at "r_tr")
  | ((with_reducible apply tr_val); wtm_at "r_er"; wtm_at "r_vw"; (exact rfl); (intro _; rfl)))
local macro_rules | `(tactic| wtm_at "r_tw") => `(tactic| first
  | ((with_reducible show TW _ (.BoolOp .Or [_] _) _ _); (with_reducible apply tw_or1); wtm_at "r_tr")
  | ((with_reducible show TW _ (.BoolOp .And [_] _) _ _); (with_reducible apply tw_and1); wtm_at "r_tr")
  | ((with_reducible show TW _ (.BoolOp .Or (_ :: _ :: _) _) _ _); (with_reducible apply tw_or); wtm_at "r_tr"; (intro _; wtm_at "r_tw"))
  | ((with_reducible show TW _ (.BoolOp .And (_ :: _ :: _) _) _ _); (with_reducible apply tw_and); wtm_at "r_tr"; (intro _; wtm_at "r_tw")))
local macro_rules | `(tactic| wtm_at "s_ret") => `(tactic| ((with_reducible apply ws_ret); (with_reducible apply we_p); wtm_at "r_er"))
local macro_rules | `(tactic| wtm_at "s_set") => `(tactic| ((with_reducible apply ws_set); wtm_at "r_as"; (with_reducible apply we_p); wtm_at "r_er"))
local macro_rules | `(tactic| wtm_at "s_sto") => `(tactic| ((with_reducible apply ws_storeI); wtm_at "r_er"; wtm_at "r_er"; wtm_at "r_er"; first | exact (rfl : _[0]? = _) | exact (rfl : _[1]? = _) | exact (rfl : _[2]? = _)))

def R_can_go : Rl := fun ds r => ∃ (b : List Int × List Int) (p d : Int), ds = [dB b, .int p, .int d] ∧ b.1.length = 26 ∧ b.2.length = 26 ∧ isDie d = true ∧ r = .ok (.d (.bool (canGo b p d)))
local macro_rules | `(tactic| wtm_at "r_R") => `(tactic| exact ⟨_, rfl, by wtm_at "r_sd", rfl⟩)
theorem sc_can_go : FnScope ["board", "point", "die", "mine", "theirs", "to"] ["board", "point", "die"] (defScope s_can_go) := ⟨rfl, rfl, rfl, by decide +kernel, rfl, by decide +kernel, by decide +kernel⟩
theorem ok_can_go {M : Md} {f : Addr} {fd : FuncData} (T : Tx M) (F : FnP M.K "can_go" s_can_go f fd) (hm : M.mg "can_go" = some (.ref f)) (D_furthest : Df M "furthest" R_furthest 1) : Df M "can_go" R_can_go 2 := by
  refine fnR F hm (F.bindsN fun _ _ _ _ _ _ us hl => match us, hl with | [_, _, _], _ => rfl) sc_can_go ?hlen ?hbody
  case hlen => rintro ds r ⟨_, _, _, rfl, _⟩; rfl
  case hbody =>
    rintro X cf fn A B ds r ⟨b, p, d, rfl, hl1, hl2, hd, rfl⟩ hx
    have hu := cf.un
    have hc := cf.calm
    have hN := cf.nd
    have n_board := cf.nm (x := "board") 0 rfl (by decide +kernel)
    have n_point := cf.nm (x := "point") 1 rfl (by decide +kernel)
    have n_die := cf.nm (x := "die") 2 rfl (by decide +kernel)
    have n_mine := cf.nm (x := "mine") 3 rfl (by decide +kernel)
    have n_theirs := cf.nm (x := "theirs") 4 rfl (by decide +kernel)
    have n_to := cf.nm (x := "to") 5 rfl (by decide +kernel)
    have l_mine := cf.nl (x := "mine") 3 rfl (by decide +kernel) (Or.inl (fn _))
    have l_theirs := cf.nl (x := "theirs") 4 rfl (by decide +kernel) (Or.inl (fn _))
    have l_to := cf.nl (x := "to") 5 rfl (by decide +kernel) (Or.inl (fn _))
    have g_BAR := cf.gc (x := "BAR") (v := .int 25) (by decide +kernel) (by obtain ⟨t, h⟩ := T.k_BAR; exact ⟨_, h, t, rfl⟩)
    have f_furthest := cf.fc (x := "furthest") D_furthest (by first | decide | omega) (by decide +kernel)
    have g_HOME := cf.gc (x := "HOME") (v := .int 6) (by decide +kernel) (by obtain ⟨t, h⟩ := T.k_HOME; exact ⟨_, h, t, rfl⟩)
    obtain ⟨hd1, hd2⟩ := die_in hd
    with_unfolding_all apply wb_cons
    refine ws_asg (by wtm_at "r_er") (tg_tup2 hc (tg_name l_mine) (tg_name l_theirs)) ?_
    apply wb_cons
    refine ws_if (k := !(decide (1 ≤ p) && decide (p ≤ 25)) || (decide (at0 b.1 p = 0) || (decide (0 < at0 b.1 25) && !decide (p = 25)))) ?_ (fun h => ?_) (fun h => ?_)
    · refine TW.tr (tw_or (by wtm_at "r_tr") (fun h1 => ?_))
      have h2 : (decide (1 ≤ p) && decide (p ≤ 25)) = true := by simpa using h1
      simp only [Bool.and_eq_true, decide_eq_true_eq] at h2
      wtm_at "r_tw"
    · apply wb_one
      wtm_at "s_ret"
      exact ⟨rfl, rfl, _, by rw [canGo, if_pos h], .d⟩
    · have hp : 1 ≤ p ∧ p ≤ 25 := by
        rw [Bool.or_eq_false_iff] at h
        have h2 : (decide (1 ≤ p) && decide (p ≤ 25)) = true := by simpa using h.1
        simpa using h2
      have hn : ¬ (!(decide (1 ≤ p) && decide (p ≤ 25)) || (decide (at0 b.1 p = 0) || (decide (0 < at0 b.1 25) && !decide (p = 25)))) = true := by rw [h]; exact fun z => nomatch z
      apply wb_nil
      apply wb_cons
      refine ws_set l_to (we_p (by wtm_at "r_er") ?_)
      apply wb_cons
      refine ws_if (k := decide (1 ≤ p - d)) (by wtm_at "r_tr") (fun h2 => ?_) (fun h2 => ?_)
      · have h3 := of_decide_eq_true h2
        apply wb_one
        refine ws_ret (we_p (ra := .d (.bool (decide (at0 b.2 (25 - (p - d)) < 2)))) (by wtm_at "r_er") ?_)
        exact ⟨rfl, rfl, _, by rw [canGo, if_neg hn, if_pos h2], .d⟩
      · apply wb_nil
        apply wb_one
        refine ws_ret (we_p (ra := .d (.bool (decide (furth b.1 ≤ 6) && (decide (p - d = 0) || decide (furth b.1 = p))))) (by wtm_at "r_er") ?_)
        exact ⟨rfl, rfl, _, by rw [canGo, if_neg hn, if_neg (by rw [h2]; exact fun z => nomatch z)], .d⟩
def R_gone : Rl := fun ds r => ∃ (b : List Int × List Int) (p d : Int), ds = [dB b, .int p, .int d] ∧ b.1.length = 26 ∧ b.2.length = 26 ∧ 1 ≤ p ∧ p ≤ 25 ∧ isDie d = true ∧ r = .ok (.d (dB (goneB b p d)))
theorem sc_gone : FnScope ["board", "point", "die", "mine", "theirs", "to"] ["board", "point", "die"] (defScope s_gone) := ⟨rfl, rfl, rfl, by decide +kernel, rfl, by decide +kernel, by decide +kernel⟩
theorem ok_gone {M : Md} {f : Addr} {fd : FuncData} (T : Tx M) (F : FnP M.K "gone" s_gone f fd) (hm : M.mg "gone" = some (.ref f)) : Df M "gone" R_gone 1 := by
  refine fnR F hm (F.bindsN fun _ _ _ _ _ _ us hl => match us, hl with | [_, _, _], _ => rfl) sc_gone ?hlen ?hbody
  case hlen => rintro ds r ⟨_, _, _, rfl, _⟩; rfl
  case hbody =>
    rintro X cf fn A B ds r ⟨b, p, d, rfl, hl1, hl2, hp1, hp2, hd, rfl⟩ hx
    have hu := cf.un
    have hc := cf.calm
    have hN := cf.nd
    have n_board := cf.nm (x := "board") 0 rfl (by decide +kernel)
    have n_point := cf.nm (x := "point") 1 rfl (by decide +kernel)
    have n_die := cf.nm (x := "die") 2 rfl (by decide +kernel)
    have n_mine := cf.nm (x := "mine") 3 rfl (by decide +kernel)
    have n_theirs := cf.nm (x := "theirs") 4 rfl (by decide +kernel)
    have n_to := cf.nm (x := "to") 5 rfl (by decide +kernel)
    have l_mine := cf.nl (x := "mine") 3 rfl (by decide +kernel) (Or.inl (fn _))
    have l_theirs := cf.nl (x := "theirs") 4 rfl (by decide +kernel) (Or.inl (fn _))
    have l_to := cf.nl (x := "to") 5 rfl (by decide +kernel) (Or.inl (fn _))
    have b_list := cf.bt (x := "list") (f := .type "list") (by decide +kernel) T.b_list (by decide +kernel)
    have b_max := cf.bt (x := "max") (f := .builtin "max") (by decide +kernel) T.b_max (by decide +kernel)
    have g_OFF := cf.gc (x := "OFF") (v := .int 0) (by decide +kernel) (by obtain ⟨t, h⟩ := T.k_OFF; exact ⟨_, h, t, rfl⟩)
    have g_BAR := cf.gc (x := "BAR") (v := .int 25) (by decide +kernel) (by obtain ⟨t, h⟩ := T.k_BAR; exact ⟨_, h, t, rfl⟩)
    have b_tuple := cf.bt (x := "tuple") (f := .type "tuple") (by decide +kernel) T.b_tuple (by decide +kernel)
    obtain ⟨hd1, hd2⟩ := die_in hd
    obtain ⟨mine, theirs⟩ := b
    have hl1 : mine.length = 26 := hl1
    have hl2 : theirs.length = 26 := hl2
    with_unfolding_all apply wb_cons
    refine ws_setC l_mine (by wtm_at "r_er") (fun am => ?_)
    apply wb_cons
    refine ws_setC l_theirs (by wtm_at "r_er") (fun at' => ?_)
    apply wb_cons
    refine ws_set l_to (we_p (ra := .d (.int (max 0 (p - d)))) (by wtm_at "r_er") ?_)
    generalize ht : max 0 (p - d) = to
    have ht0 : 0 ≤ to := by omega
    have ht1 : to ≤ 24 := by omega
    apply wb_cons
    refine ws_storeI (j := 1) (i := p) (l := mine) (by wtm_at "r_er") (by wtm_at "r_er") (by wtm_at "r_er") rfl (by omega) (by omega) ?_ (fun _ => rfl) rfl rfl rfl
    generalize hm1 : set0 mine p (at0 mine p - 1) = m1
    have lm1 : m1.length = 26 := by rw [← hm1, set0_len]; exact hl1
    apply wb_cons
    refine ws_storeI (j := 1) (i := to) (l := m1) (by wtm_at "r_er") (by wtm_at "r_er") (by wtm_at "r_er") rfl (by omega) (by omega) ?_ (fun _ => rfl) rfl rfl rfl
    generalize hm2 : set0 m1 to (at0 m1 to + 1) = m2
    have lm2 : m2.length = 26 := by rw [← hm2, set0_len]; exact lm1
    apply wb_cons
    refine ws_if (k := !decide (to = 0) && decide (at0 theirs (25 - to) = 1)) (by wtm_at "r_tr") (fun h => ?_) (fun h => ?_)
    · have h0 : to ≠ 0 := by
        intro z; rw [z] at h; simp at h
      apply wb_cons
      refine ws_storeI (j := 0) (i := 25 - to) (l := theirs) er_int (by wtm_at "r_er") (by wtm_at "r_er") rfl (by omega) (by omega) ?_ (fun _ => rfl) rfl rfl rfl
      generalize ht1' : set0 theirs (25 - to) 0 = t1
      have lt1 : t1.length = 26 := by rw [← ht1', set0_len]; exact hl2
      apply wb_one
      refine ws_storeI (j := 0) (i := 25) (l := t1) (by wtm_at "r_er") (by wtm_at "r_er") (by wtm_at "r_er") rfl (by omega) (by omega) ?_ (fun _ => rfl) rfl rfl rfl
      apply wb_one
      refine ws_ret (we_p (ra := .d (dB (m2, set0 t1 25 (at0 t1 25 + 1)))) (by wtm_at "r_er") ⟨rfl, rfl, _, ?_, .d⟩)
      simp only [goneB, ht, hm1, hm2, ht1', h, if_true]
    · apply wb_nil
      apply wb_one
      refine ws_ret (we_p (ra := .d (dB (m2, theirs))) (by wtm_at "r_er") ⟨rfl, rfl, _, ?_, .d⟩)
      simp only [goneB, ht, hm1, hm2, h]
      rfl
end Rd

namespace Rd
open PySem PySem.Spec PyProof.Rows L2 TL
local macro_rules | `(tactic| wtm_at "r_sd") => `(tactic| first | assumption | omega | decide | (simp only [List.length_cons, List.length_nil, List.length_append, List.length_map, List.length_replicate, List.length_set, sizeLine_eq]; omega) | (simp; omega))
local macro_rules | `(tactic| wtm_at "r_as") => `(tactic| (with_reducible assumption))
local macro_rules | `(tactic| wtm_at "r_nm") => `(tactic| ((with_reducible show ER _ (.Name _ _) _ _); first
  | ((with_reducible apply er_name); wtm_at "r_as"; exact rfl)
  | ((with_reducible apply er_nameL); wtm_at "r_as"; exact rfl)
  | ((with_reducible apply er_nameV); wtm_at "r_as"; exact rfl)
  | ((with_reducible apply er_nameX); wtm_at "r_as"; exact rfl)
  | ((with_reducible apply er_gcI); wtm_at "r_as")
  | ((with_reducible apply er_gcS); wtm_at "r_as")
  | ((with_reducible apply Bt.ty); wtm_at "r_as")
  | ((with_reducible apply er_gcV); wtm_at "r_as")
  | ((with_reducible apply Ec.er); wtm_at "r_as")))
local macro_rules | `(tactic| wtm_at "r_lv") => `(tactic| first | (with_reducible exact Lv.d) | (with_reducible exact Lv.f) | (with_reducible exact Lv.l) | exact Lv.c 0 rfl | exact Lv.c 1 rfl | exact Lv.c 2 rfl)
local macro_rules | `(tactic| wtm_at "r_tv") => `(tactic| first | (with_reducible exact Tv.f) | (with_reducible exact Tv.l) | exact Tv.c 0 rfl | exact Tv.c 1 rfl | exact Tv.c 2 rfl)
local macro_rules | `(tactic| wtm_at "r_vw") => `(tactic| first | (with_reducible exact Vw.d) | (with_reducible exact Vw.f) | (with_reducible exact Vw.l) | exact Vw.c 0 rfl | exact Vw.c 1 rfl | exact Vw.c 2 rfl)
local macro_rules | `(tactic| wtm_at "r_dt") => `(tactic| first | (with_reducible exact DtL.nil) | ((with_reducible apply DtL.cons); (first | (with_reducible exact Dt.d) | (with_reducible exact Dt.f) | (with_reducible exact Dt.l)); wtm_at "r_dt"))
local macro_rules | `(tactic| wtm_at "r_op") => `(tactic| first
  | (with_reducible exact o_add) | (with_reducible exact o_sub) | (with_reducible exact o_lt) | (with_reducible exact o_le) | (with_reducible exact o_gt) | (with_reducible exact o_ge)
  | (with_reducible exact o_eqI) | (with_reducible exact o_neI) | (with_reducible exact o_eqN) | (with_reducible exact o_neN) | (with_reducible exact o_inN) | (with_reducible exact o_notInN) | (with_reducible exact o_eqS) | (with_reducible exact o_neS)
  | ((with_reducible apply o_mod); wtm_at "r_sd")
  | ((with_reducible apply o_div); (first | exact ⟨by decide, by decide⟩ | exact ⟨by omega, by omega⟩))
  | ((with_reducible apply o_isN); (exact fun z => nomatch z); (first | exact fun _ z => nomatch z | exact fun y z => ⟨_, (Sl.v.inj z).symm⟩))
  | ((with_reducible apply o_notN); (exact fun z => nomatch z); (first | exact fun _ z => nomatch z | exact fun y z => ⟨_, (Sl.v.inj z).symm⟩))
  | ((with_reducible apply o_mul); (first | exact Or.inl ⟨by omega, by omega⟩ | exact Or.inr ⟨by omega, by omega⟩))
  | ((with_reducible apply o_inI); wtm_at "r_lv")
  | ((with_reducible apply o_catTI); wtm_at "r_sd")
  | ((with_reducible apply o_catT); wtm_at "r_sd")
  | ((with_reducible apply o_catLI); wtm_at "r_tv"; wtm_at "r_tv"; wtm_at "r_sd")
  | ((with_reducible apply o_catL); wtm_at "r_tv"; wtm_at "r_tv"; wtm_at "r_sd")
  | ((with_reducible apply o_catN); wtm_at "r_sd")
  | ((with_reducible apply o_catS); wtm_at "r_sd")
  | ((with_reducible apply o_rep0); wtm_at "r_sd"; wtm_at "r_sd")
  | ((with_reducible apply o_repL); wtm_at "r_tv"; wtm_at "r_sd"; wtm_at "r_sd"; wtm_at "r_sd")
  | ((with_reducible apply o_repT); (exact fun z => nomatch z); wtm_at "r_sd"; wtm_at "r_sd"; wtm_at "r_sd")
  | ((with_reducible apply o_eqD); assumption; wtm_at "r_vw"; wtm_at "r_vw"; wtm_at "r_dp")
  | ((with_reducible apply o_neD); assumption; wtm_at "r_vw"; wtm_at "r_vw"; wtm_at "r_dp"))
local macro_rules | `(tactic| wtm_at "r_dp") => `(tactic| first | assumption | (exact dep_l (by wtm_at "r_de")) | (exact dep_r (by wtm_at "r_de")))
local macro_rules | `(tactic| wtm_at "r_de") => `(tactic| first | (exact dep_ints _) | (exact dep_intsL _) | (simp only [PyData.depth, PyData.depthAll, PySem.W.depth_ints]; omega))
local macro_rules | `(tactic| wtm_at "r_ix") => `(tactic| first
  | ((with_reducible apply o_ixTI); wtm_at "r_sd"; wtm_at "r_sd")
  | ((with_reducible apply o_ixT); (exact rfl))
  | ((with_reducible apply o_ixLI); wtm_at "r_lv"; wtm_at "r_sd"; wtm_at "r_sd")
  | ((with_reducible apply o_ixL); wtm_at "r_lv"; (exact rfl))
  | ((with_reducible apply o_ixN); wtm_at "r_sd"; (exact rfl)) | (exact o_ixH 0 rfl rfl) | (exact o_ixH 1 rfl rfl) | (exact o_ixH 2 rfl rfl))
local macro_rules | `(tactic| wtm_at "r_sl") => `(tactic| first | (with_reducible exact o_slTI) | (with_reducible exact o_slT) | ((with_reducible apply o_slLI); wtm_at "r_lv") | ((with_reducible apply o_slL); wtm_at "r_lv") | ((with_reducible apply o_slN); wtm_at "r_sd") | ((with_reducible apply o_slS); wtm_at "r_sd"))
local macro_rules | `(tactic| wtm_at "r_cb") => `(tactic| first
  | (with_reducible exact b_lenTI) | (with_reducible exact b_lenT) | ((with_reducible apply b_len); wtm_at "r_lv") | ((with_reducible apply b_lenN); wtm_at "r_sd") | ((with_reducible apply b_lenS); wtm_at "r_sd")
  | ((with_reducible apply b_sumT); assumption) | ((with_reducible apply b_sum); assumption; wtm_at "r_lv") | ((with_reducible apply b_sumM); assumption; wtm_at "r_lv")
  | ((with_reducible apply b_all); assumption; wtm_at "r_lv") | ((with_reducible apply b_allM); assumption; wtm_at "r_lv") | ((with_reducible apply b_any); assumption; wtm_at "r_lv") | ((with_reducible apply b_anyM); assumption; wtm_at "r_lv")
  | ((with_reducible apply b_tuple); wtm_at "r_lv") | (with_reducible exact b_listT) | ((with_reducible apply b_list); wtm_at "r_lv")
  | ((with_reducible apply b_max2); assumption) | ((with_reducible apply b_min2); assumption)
  | ((with_reducible apply b_maxT); assumption; assumption; wtm_at "r_ne") | ((with_reducible apply b_max); assumption; assumption; wtm_at "r_lv"; wtm_at "r_ne") | ((with_reducible apply b_maxM); assumption; assumption; wtm_at "r_lv"; wtm_at "r_ne")
  | ((with_reducible apply b_minT); assumption; assumption; wtm_at "r_ne") | ((with_reducible apply b_min); assumption; assumption; wtm_at "r_lv"; wtm_at "r_ne") | ((with_reducible apply b_minM); assumption; assumption; wtm_at "r_lv"; wtm_at "r_ne")
  | (with_reducible exact b_intB) | (with_reducible exact b_abs) | ((with_reducible apply b_strI); wtm_at "r_sd"; wtm_at "r_sd") | ((with_reducible apply b_str); wtm_at "r_sd")
  | ((with_reducible apply b_isXM); wtm_at "r_as"; wtm_at "r_as"; (decide)) | ((with_reducible apply b_isXV); wtm_at "r_as"; wtm_at "r_as")
  | ((with_reducible apply b_isBool); wtm_at "r_vw") | ((with_reducible apply b_isInt); wtm_at "r_vw") | ((with_reducible apply b_isTuple); wtm_at "r_vw"))
local macro_rules | `(tactic| wtm_at "r_R") => `(tactic| first | exact ⟨_, rfl, rfl⟩ | exact ⟨_, rfl, by wtm_at "r_sd", rfl⟩ | exact ⟨_, rfl, by wtm_at "r_sd", by wtm_at "r_sd", rfl⟩)
local macro_rules | `(tactic| wtm_at "r_ne") => `(tactic| first | assumption | (exact fun z => nomatch z))
local macro_rules | `(tactic| wtm_at "r_er") => `(tactic| first
  | wtm_at "r_nm"
  | (with_reducible exact er_int) | (with_reducible exact er_str) | (with_reducible exact er_bl) | (with_reducible exact er_non)
  | ((with_reducible show ER _ (.BinOp _ _ _ _) _ _); (with_reducible apply er_bin); wtm_at "r_er"; wtm_at "r_er"; wtm_at "r_op")
  | ((with_reducible show ER _ (.Subscript _ (.Slice _ _ none _) _) _ _); (with_reducible apply er_sl); wtm_at "r_er"; wtm_at "r_eo"; wtm_at "r_eo"; wtm_at "r_sl")
  | ((with_reducible show ER _ (.Subscript _ _ _) _ _); (with_reducible apply er_ix); wtm_at "r_er"; wtm_at "r_er"; wtm_at "r_ix"; (exact fun _ _ => rfl))
  | ((with_reducible show ER _ (.Compare _ [_] _ _) _ _); (with_reducible apply er_cmp); wtm_at "r_er"; wtm_at "r_er"; wtm_at "r_op"; (first | exact nomark _ | rfl))
  | ((with_reducible show ER _ (.Call (.Name _ _) (_ :: _) _ _) _ _); first
    | ((with_reducible apply er_cb); wtm_at "r_as"; wtm_at "r_ea"; wtm_at "r_cb"; (exact rfl); (exact rfl))
    | ((with_reducible apply er_ct); wtm_at "r_as"; wtm_at "r_ea"; wtm_at "r_cb"; (exact rfl); (exact rfl))
    | ((with_reducible apply er_call); wtm_at "r_as"; wtm_at "r_ea"; wtm_at "r_dt"; wtm_at "r_R"; (exact rfl); (exact rfl)))
  | ((with_reducible show ER _ (.Call (.Name _ _) [] _ _) _ _); (with_reducible apply er_call0); wtm_at "r_as"; wtm_at "r_R")
  | ((with_reducible show ER _ (.ListComp _ _ _ _) _ _); (with_reducible apply er_lc); wtm_at "r_lc")
  | ((with_reducible show ER _ (.Tuple _ _ _) _ _); (exact er_litT rfl))
  | ((with_reducible show ER _ (.List _ _) _ _); (exact er_litL rfl (by decide)))
  | ((with_reducible show ER _ (.Tuple _ _ _) _ _); (with_reducible apply er_tup); wtm_at "r_ea"; wtm_at "r_dt"; wtm_at "r_sd")
  | ((with_reducible show ER _ (.List _ _) _ _); (with_reducible apply er_lst); wtm_at "r_ea"; wtm_at "r_dt"; wtm_at "r_sd")
  | ((with_reducible show ER _ (.UnaryOp .USub _ _) _ _); (with_reducible apply er_neg); wtm_at "r_er")
  | ((with_reducible show ER _ (.UnaryOp .Not _ _) _ _); (with_reducible apply er_not); wtm_at "r_er")
  | ((with_reducible show ER _ (.BoolOp .Or (_ :: _ :: _) _) _ _); (with_reducible apply er_or); wtm_at "r_er"; (intro _; wtm_at "r_er"))
  | ((with_reducible show ER _ (.BoolOp .And (_ :: _ :: _) _) _ _); (with_reducible apply er_and); wtm_at "r_er"; (intro _; wtm_at "r_er"))
  | ((with_reducible show ER _ (.BoolOp _ [_] _) _ _); (with_reducible apply er_one); wtm_at "r_er")
  | ((with_reducible show ER _ (.IfExp _ _ _ _) _ _); first
    | ((with_reducible apply er_ifI); wtm_at "r_tr"; (intro _; wtm_at "r_er"); (intro _; wtm_at "r_er"))
    | ((with_reducible apply er_ifD); wtm_at "r_tr"; (intro _; wtm_at "r_er"); (intro _; wtm_at "r_er")))
  | ((with_reducible show ER _ (.Compare _ [_, _] _ _) _ _); (with_reducible apply er_chain); wtm_at "r_er"; wtm_at "r_er"; wtm_at "r_op"; (intro _; wtm_at "r_er"); (intro _; wtm_at "r_op"); (with_unfolding_all rfl)))
local macro_rules | `(tactic| wtm_at "r_eo") => `(tactic| first | (with_reducible exact eo_none) | ((with_reducible apply eo_some); wtm_at "r_er"))
local macro_rules | `(tactic| wtm_at "r_ea") => `(tactic| first
  | (with_reducible exact ea_nil)
  | ((with_reducible apply ea_cons); wtm_at "r_er"; wtm_at "r_ea"; (exact rfl)))
local macro_rules | `(tactic| wtm_at "r_tr") => `(tactic| first
  | ((with_reducible show TR _ (.Compare _ [_] _ _) _ _); (with_reducible apply tr_cmp); wtm_at "r_er"; wtm_at "r_er"; wtm_at "r_op"; (first | exact nomark _ | rfl))
  | ((with_reducible show TR _ (.Compare _ [_, _] _ _) _ _); (with_reducible apply tr_chain); wtm_at "r_er"; wtm_at "r_er"; wtm_at "r_op"; (intro _; wtm_at "r_er"); (intro _; wtm_at "r_op"); (with_unfolding_all rfl))
  | ((with_reducible show TR _ (.BoolOp _ _ _) _ _); (with_reducible apply TW.tr); wtm_at "r_tw")
  | ((with_reducible show TR _ (.UnaryOp .Not _ _) _ _); (with_reducible apply tr_not); wtm_at "r_tr")
  | ((with_reducible apply tr_val); wtm_at "r_er"; wtm_at "r_vw"; (exact rfl); (intro _; rfl)))
local macro_rules | `(tactic| wtm_at "r_tw") => `(tactic| first
  | ((with_reducible show TW _ (.BoolOp .Or [_] _) _ _); (with_reducible apply tw_or1); wtm_at "r_tr")
  | ((with_reducible show TW _ (.BoolOp .And [_] _) _ _); (with_reducible apply tw_and1); wtm_at "r_tr")
  | ((with_reducible show TW _ (.BoolOp .Or (_ :: _ :: _) _) _ _); (with_reducible apply tw_or); wtm_at "r_tr"; (intro _; wtm_at "r_tw"))
  | ((with_reducible show TW _ (.BoolOp .And (_ :: _ :: _) _) _ _); (with_reducible apply tw_and); wtm_at "r_tr"; (intro _; wtm_at "r_tw")))
local macro_rules | `(tactic| wtm_at "s_ret") => `(tactic| ((with_reducible apply ws_ret); (with_reducible apply we_p); wtm_at "r_er"))
local macro_rules | `(tactic| wtm_at "s_set") => `(tactic| ((with_reducible apply ws_set); wtm_at "r_as"; (with_reducible apply we_p); wtm_at "r_er"))
local macro_rules | `(tactic| wtm_at "s_sto") => `(tactic| ((with_reducible apply ws_storeI); wtm_at "r_er"; wtm_at "r_er"; wtm_at "r_er"; first | exact (rfl : _[0]? = _) | exact (rfl : _[1]? = _) | exact (rfl : _[2]? = _)))

def R_look_roll (M : Md) : Rl := fun ds r => ∃ a c : Int, ds = [dP (a, c)] ∧ r = if isDie a && isDie c then .ok (.d .none) else .error (cE M "BadRoll")
theorem sc_look_roll : FnScope ["roll", "die"] ["roll"] (defScope s_look_roll) := ⟨rfl, rfl, rfl, by decide +kernel, rfl, by decide +kernel, by decide +kernel⟩
theorem ok_look_roll {M : Md} {f : Addr} {fd : FuncData} (T : Tx M) (F : FnP M.K "look_roll" s_look_roll f fd) (hm : M.mg "look_roll" = some (.ref f)) (D_look_die : Df M "look_die" (R_look_die M) 1) : Df M "look_roll" (R_look_roll M) 2 := by
  refine fnR F hm (F.bindsN fun _ _ _ _ _ _ us hl => match us, hl with | [_], _ => rfl) sc_look_roll ?hlen ?hbody
  case hlen => rintro ds r ⟨_, _, rfl, _⟩; rfl
  case hbody =>
    rintro X cf fn A B ds r ⟨a, c, rfl, rfl⟩ hx
    have hu := cf.un
    have hc := cf.calm
    have hN := cf.nd
    have n_roll := cf.nm (x := "roll") 0 rfl (by decide +kernel)
    have n_die := cf.nm (x := "die") 1 rfl (by decide +kernel)
    have l_die := cf.nl (x := "die") 1 rfl (by decide +kernel) (Or.inl (fn _))
    have f_look_die := cf.fc (x := "look_die") D_look_die (by first | decide | omega) (by decide +kernel)
    with_unfolding_all apply wb_one
    refine ws_forT (ds := [.int a, .int c]) hx hc (by wtm_at "r_er") (fun i G' => (∃ s, G' = ⟨A, B, [.d (dP (a, c)), s], []⟩) ∧ ∀ (k : Nat) (z : Int), k < i → [a, c][k]? = some z → isDie z = true) ⟨⟨_, rfl⟩, fun k z h => absurd h (Nat.not_lt_zero k)⟩ ?_ ?_ (fun _ => rfl)
    · rintro i d G' hd ⟨⟨s, rfl⟩, hall⟩
      obtain ⟨z, hz, rfl⟩ : ∃ z : Int, [a, c][i]? = some z ∧ d = .int z := by
        match i, hd with
        | 0, hd => exact ⟨a, rfl, (Option.some.inj hd).symm⟩
        | 1, hd => exact ⟨c, rfl, (Option.some.inj hd).symm⟩
      refine ⟨_, tg_name l_die, ?_⟩
      apply wb_one
      refine ws_expr (we_die (d := z) hx f_look_die (by wtm_at "r_ea") (fun h => ⟨⟨_, rfl⟩, fun k y hk hy => ?_⟩) (fun h => ⟨?_, rfl, rfl⟩))
      · rcases Nat.lt_succ_iff_lt_or_eq.mp hk with hk | rfl
        · exact hall k y hk hy
        · rw [hz] at hy; cases hy; exact h
      · have : (isDie a && isDie c) = false := by
          match i, hz with
          | 0, hz => cases hz; rw [h]; rfl
          | 1, hz => cases hz; rw [h, Bool.and_false]
        rw [this]; rfl
    · rintro G' ⟨⟨s, rfl⟩, hall⟩
      have h1 := hall 0 a (by simp) rfl
      have h2 := hall 1 c (by simp) rfl
      exact ⟨by rw [h1, h2]; rfl, rfl, rfl⟩
/-- look_roll ahead of the rest -/
theorem we_roll {X : Cx} {M : Md} {G : Gm} {Q : Sl → Gm → Prop} {e : Expr} {p pos : Pos} {Er : Addr → Gm → Prop} {a c : Int} (hx : XOk X Er) (F : Fc X "look_roll" (R_look_roll M)) (ha : EA X [e] G [.d (dP (a, c))])
    (hy : isDie a = true → isDie c = true → Q (.d .none) G) (hn : (isDie a && isDie c) = false → Er (cE M "BadRoll") G) (he : starEach [e] X.env = (false, eval e X.env) :: starEach [] X.env := by rfl) : WE X (.Call (.Name "look_roll" p) [e] [] pos) G Q := by
  refine we_callX hx F ha (.cons .d .nil) ?_ he rfl
  cases h : (isDie a && isDie c) with
  | true =>
    have h' := Bool.and_eq_true_iff.mp h
    exact .inl ⟨.d .none, ⟨a, c, rfl, by rw [h]; rfl⟩, hy h'.1 h'.2⟩
  | false => exact .inr ⟨_, ⟨a, c, rfl, by rw [h]; rfl⟩, hn h⟩
end Rd

namespace Rd
open PySem PySem.Spec PyProof.Rows L2 TL
local macro_rules | `(tactic| wtm_at "r_sd") => `(tactic| first | assumption | omega | decide | (simp only [List.length_cons, List.length_nil, List.length_append, List.length_map, List.length_replicate, List.length_set, sizeLine_eq]; omega) | (simp; omega))
local macro_rules | `(tactic| wtm_at "r_as") => `(tactic| (with_reducible assumption))
local macro_rules | `(tactic| wtm_at "r_nm") => `(tactic| ((with_reducible show ER _ (.Name _ _) _ _); first
  | ((with_reducible apply er_name); wtm_at "r_as"; exact rfl)
  | ((with_reducible apply er_nameL); wtm_at "r_as"; exact rfl)
  | ((with_reducible apply er_nameV); wtm_at "r_as"; exact rfl)
  | ((with_reducible apply er_nameX); wtm_at "r_as"; exact rfl)
  | ((with_reducible apply er_gcI); wtm_at "r_as")
  | ((with_reducible apply er_gcS); wtm_at "r_as")
  | ((with_reducible apply Bt.ty); wtm_at "r_as")
  | ((with_reducible apply er_gcV); wtm_at "r_as")
  | ((with_reducible apply Ec.er); wtm_at "r_as")))
local macro_rules | `(tactic| wtm_at "r_lv") => `(tactic| first | (with_reducible exact Lv.d) | (with_reducible exact Lv.f) | (with_reducible exact Lv.l) | exact Lv.c 0 rfl | exact Lv.c 1 rfl | exact Lv.c 2 rfl)
local macro_rules | `(tactic| wtm_at "r_tv") => `(tactic| first | (with_reducible exact Tv.f) | (with_reducible exact Tv.l) | exact Tv.c 0 rfl | exact Tv.c 1 rfl | exact Tv.c 2 rfl)
local macro_rules | `(tactic| wtm_at "r_vw") => `(tactic| first | (with_reducible exact Vw.d) | (with_reducible exact Vw.f) | (with_reducible exact Vw.l) | exact Vw.c 0 rfl | exact Vw.c 1 rfl | exact Vw.c 2 rfl)
local macro_rules | `(tactic| wtm_at "r_dt") => `(tactic| first | (with_reducible exact DtL.nil) | ((with_reducible apply DtL.cons); (first | (with_reducible exact Dt.d) | (with_reducible exact Dt.f) | (with_reducible exact Dt.l)); wtm_at "r_dt"))
local macro_rules | `(tactic| wtm_at "r_op") => `(tactic| first
  | (with_reducible exact o_add) | (with_reducible exact o_sub) | (with_reducible exact o_lt) | (with_reducible exact o_le) | (with_reducible exact o_gt) | (with_reducible exact o_ge)
  | (with_reducible exact o_eqI) | (with_reducible exact o_neI) | (with_reducible exact o_eqN) | (with_reducible exact o_neN) | (with_reducible exact o_inN) | (with_reducible exact o_notInN) | (with_reducible exact o_eqS) | (with_reducible exact o_neS)
  | ((with_reducible apply o_mod); wtm_at "r_sd")
  | ((with_reducible apply o_div); (first | exact ⟨by decide, by decide⟩ | exact ⟨by omega, by omega⟩))
  | ((with_reducible apply o_isN); (exact fun z => nomatch z); (first | exact fun _ z => nomatch z | exact fun y z => ⟨_, (Sl.v.inj z).symm⟩))
  | ((with_reducible apply o_notN); (exact fun z => nomatch z); (first | exact fun _ z => nomatch z | exact fun y z => ⟨_, (Sl.v.inj z).symm⟩))
  | ((with_reducible apply o_mul); (first | exact Or.inl ⟨by omega, by omega⟩ | exact Or.inr ⟨by omega, by omega⟩))
  | ((with_reducible apply o_inI); wtm_at "r_lv")
  | ((with_reducible apply o_catTI); wtm_at "r_sd")
  | ((with_reducible apply o_catT); wtm_at "r_sd")
  | ((with_reducible apply o_catLI); wtm_at "r_tv"; wtm_at "r_tv"; wtm_at "r_sd")
  | ((with_reducible apply o_catL); wtm_at "r_tv"; wtm_at "r_tv"; wtm_at "r_sd")
  | ((with_reducible apply o_catN); wtm_at "r_sd")
  | ((with_reducible apply o_catS); wtm_at "r_sd")
  | ((with_reducible apply o_rep0); wtm_at "r_sd"; wtm_at "r_sd")
  | ((with_reducible apply o_repL); wtm_at "r_tv"; wtm_at "r_sd"; wtm_at "r_sd"; wtm_at "r_sd")
  | ((with_reducible apply o_repT); (exact fun z => nomatch z); wtm_at "r_sd"; wtm_at "r_sd"; wtm_at "r_sd")
  | ((with_reducible apply o_eqD); assumption; wtm_at "r_vw"; wtm_at "r_vw"; wtm_at "r_dp")
  | ((with_reducible apply o_neD); assumption; wtm_at "r_vw"; wtm_at "r_vw"; wtm_at "r_dp"))
local macro_rules | `(tactic| wtm_at "r_dp") => `(tactic| first | assumption | (exact dep_l (by wtm_at "r_de")) | (exact dep_r (by wtm_at "r_de")))
local macro_rules | `(tactic| wtm_at "r_de") => `(tactic| first | (exact dep_ints _) | (exact dep_intsL _) | (simp only [PyData.depth, PyData.depthAll, PySem.W.depth_ints]; omega))
local macro_rules | `(tactic| wtm_at "r_ix") => `(tactic| first
  | ((with_reducible apply o_ixTI); wtm_at "r_sd"; wtm_at "r_sd")
  | ((with_reducible apply o_ixT); (exact rfl))
  | ((with_reducible apply o_ixLI); wtm_at "r_lv"; wtm_at "r_sd"; wtm_at "r_sd")
  | ((with_reducible apply o_ixL); wtm_at "r_lv"; (exact rfl))
  | ((with_reducible apply o_ixN); wtm_at "r_sd"; (exact rfl)) | (exact o_ixH 0 rfl rfl) | (exact o_ixH 1 rfl rfl) | (exact o_ixH 2 rfl rfl))
local macro_rules | `(tactic| wtm_at "r_sl") => `(tactic| first | (with_reducible exact o_slTI) | (with_reducible exact o_slT) | ((with_reducible apply o_slLI); wtm_at "r_lv") | ((with_reducible apply o_slL); wtm_at "r_lv") | ((with_reducible apply o_slN); wtm_at "r_sd") | ((with_reducible apply o_slS); wtm_at "r_sd"))
local macro_rules | `(tactic| wtm_at "r_cb") => `(tactic| first
  | (with_reducible exact b_lenTI) | (with_reducible exact b_lenT) | ((with_reducible apply b_len); wtm_at "r_lv") | ((with_reducible apply b_lenN); wtm_at "r_sd") | ((with_reducible apply b_lenS); wtm_at "r_sd")
  | ((with_reducible apply b_sumT); assumption) | ((with_reducible apply b_sum); assumption; wtm_at "r_lv") | ((with_reducible apply b_sumM); assumption; wtm_at "r_lv")
  | ((with_reducible apply b_all); assumption; wtm_at "r_lv") | ((with_reducible apply b_allM); assumption; wtm_at "r_lv") | ((with_reducible apply b_any); assumption; wtm_at "r_lv") | ((with_reducible apply b_anyM); assumption; wtm_at "r_lv")
  | ((with_reducible apply b_tuple); wtm_at "r_lv") | (with_reducible exact b_listT) | ((with_reducible apply b_list); wtm_at "r_lv")
  | ((with_reducible apply b_max2); assumption) | ((with_reducible apply b_min2); assumption)
  | ((with_reducible apply b_maxT); assumption; assumption; wtm_at "r_ne") | ((with_reducible apply b_max); assumption; assumption; wtm_at "r_lv"; wtm_at "r_ne") | ((with_reducible apply b_maxM); assumption; assumption; wtm_at "r_lv"; wtm_at "r_ne")
  | ((with_reducible apply b_minT); assumption; assumption; wtm_at "r_ne") | ((with_reducible apply b_min); assumption; assumption; wtm_at "r_lv"; wtm_at "r_ne") | ((with_reducible apply b_minM); assumption; assumption; wtm_at "r_lv"; wtm_at "r_ne")
  | (with_reducible exact b_intB) | (with_reducible exact b_abs) | ((with_reducible apply b_strI); wtm_at "r_sd"; wtm_at "r_sd") | ((with_reducible apply b_str); wtm_at "r_sd")
  | ((with_reducible apply b_isXM); wtm_at "r_as"; wtm_at "r_as"; (decide)) | ((with_reducible apply b_isXV); wtm_at "r_as"; wtm_at "r_as")
  | ((with_reducible apply b_isBool); wtm_at "r_vw") | ((with_reducible apply b_isInt); wtm_at "r_vw") | ((with_reducible apply b_isTuple); wtm_at "r_vw"))
local macro_rules | `(tactic| wtm_at "r_R") => `(tactic| first | exact ⟨_, rfl, rfl⟩ | exact ⟨_, rfl, by wtm_at "r_sd", rfl⟩ | exact ⟨_, rfl, by wtm_at "r_sd", by wtm_at "r_sd", rfl⟩)
local macro_rules | `(tactic| wtm_at "r_ne") => `(tactic| first | assumption | (exact fun z => nomatch z))
local macro_rules | `(tactic| wtm_at "r_er") => `(tactic| first
  | wtm_at "r_nm"
  | (with_reducible exact er_int) | (with_reducible exact er_str) | (with_reducible exact er_bl) | (with_reducible exact er_non)
  | ((with_reducible show ER _ (.BinOp _ _ _ _) _ _); (with_reducible apply er_bin); wtm_at "r_er"; wtm_at "r_er"; wtm_at "r_op")
  | ((with_reducible show ER _ (.Subscript _ (.Slice _ _ none _) _) _ _); (with_reducible apply er_sl); wtm_at "r_er"; wtm_at "r_eo"; wtm_at "r_eo"; wtm_at "r_sl")
  | ((with_reducible show ER _ (.Subscript _ _ _) _ _); (with_reducible apply er_ix); wtm_at "r_er"; wtm_at "r_er"; wtm_at "r_ix"; (exact fun _ _ => rfl))
  | ((with_reducible show ER _ (.Compare _ [_] _ _) _ _); (with_reducible apply er_cmp); wtm_at "r_er"; wtm_at "r_er"; wtm_at "r_op"; (first | exact nomark _ | rfl))
  | ((with_reducible show ER _ (.Call (.Name _ _) (_ :: _) _ _) _ _); first
    | ((with_reducible apply er_cb); wtm_at "r_as"; wtm_at "r_ea"; wtm_at "r_cb"; (exact rfl); (exact rfl))
    | ((with_reducible apply er_ct); wtm_at "r_as"; wtm_at "r_ea"; wtm_at "r_cb"; (exact rfl); (exact rfl))
    | ((with_reducible apply er_call); wtm_at "r_as"; wtm_at "r_ea"; wtm_at "r_dt"; wtm_at "r_R"; (exact rfl); (exact rfl)))
  | ((with_reducible show ER _ (.Call (.Name _ _) [] _ _) _ _); (with_reducible apply er_call0); wtm_at "r_as"; wtm_at "r_R")
  | ((with_reducible show ER _ (.ListComp _ _ _ _) _ _); (with_reducible apply er_lc); wtm_at "r_lc")
  | ((with_reducible show ER _ (.Tuple _ _ _) _ _); (exact er_litT rfl))
  | ((with_reducible show ER _ (.List _ _) _ _); (exact er_litL rfl (by decide)))
  | ((with_reducible show ER _ (.Tuple _ _ _) _ _); (with_reducible apply er_tup); wtm_at "r_ea"; wtm_at "r_dt"; wtm_at "r_sd")
  | ((with_reducible show ER _ (.List _ _) _ _); (with_reducible apply er_lst); wtm_at "r_ea"; wtm_at "r_dt"; wtm_at "r_sd")
  | ((with_reducible show ER _ (.UnaryOp .USub _ _) _ _); (with_reducible apply er_neg); wtm_at "r_er")
  | ((with_reducible show ER _ (.UnaryOp .Not _ _) _ _); (with_reducible apply er_not); wtm_at "r_er")
  | ((with_reducible show ER _ (.BoolOp .Or (_ :: _ :: _) _) _ _); (with_reducible apply er_or); wtm_at "r_er"; (intro _; wtm_at "r_er"))
  | ((with_reducible show ER _ (.BoolOp .And (_ :: _ :: _) _) _ _); (with_reducible apply er_and); wtm_at "r_er"; (intro _; wtm_at "r_er"))
  | ((with_reducible show ER _ (.BoolOp _ [_] _) _ _); (with_reducible apply er_one); wtm_at "r_er")
  | ((with_reducible show ER _ (.IfExp _ _ _ _) _ _); first
    | ((with_reducible apply er_ifI); wtm_at "r_tr"; (intro _; wtm_at "r_er"); (intro _; wtm_at "r_er"))
    | ((with_reducible apply er_ifD); wtm_at "r_tr"; (intro _; wtm_at "r_er"); (intro _; wtm_at "r_er")))
  | ((with_reducible show ER _ (.Compare _ [_, _] _ _) _ _); (with_reducible apply er_chain); wtm_at "r_er"; wtm_at "r_er"; wtm_at "r_op"; (intro _; wtm_at "r_er"); (intro _; wtm_at "r_op"); (with_unfolding_all rfl)))
local macro_rules | `(tactic| wtm_at "r_eo") => `(tactic| first | (with_reducible exact eo_none) | ((with_reducible apply eo_some); wtm_at "r_er"))
local macro_rules | `(tactic| wtm_at "r_ea") => `(tactic| first
  | (with_reducible exact ea_nil)
  | ((with_reducible apply ea_cons); wtm_at "r_er"; wtm_at "r_ea"; (exact rfl)))
local macro_rules | `(tactic| wtm_at "r_tr") => `(tactic| first
  | ((with_reducible show TR _ (.Compare _ [_] _ _) _ _); (with_reducible apply tr_cmp); wtm_at "r_er"; wtm_at "r_er"; wtm_at "r_op"; (first | exact nomark _ | rfl))
  | ((with_reducible show TR _ (.Compare _ [_, _] _ _) _ _); (with_reducible apply tr_chain); wtm_at "r_er"; wtm_at "r_er"; wtm_at "r_op"; (intro _; wtm_at "r_er"); (intro _; wtm_at "r_op"); (with_unfolding_all rfl))
  | ((with_reducible show TR _ (.BoolOp _ _ _) _ _); (with_reducible apply TW.tr); wtm_at "r_tw")
  | ((with_reducible show TR _ (.UnaryOp .Not _ _) _ _); (with_reducible apply tr_not); wtm_at "r_tr")
  | ((with_reducible apply tr_val); wtm_at "r_er"; wtm_at "r_vw"; (exact rfl); (intro _; rfl)))
local macro_rules | `(tactic| wtm_at "r_tw") => `(tactic| first
  | ((with_reducible show TW _ (.BoolOp .Or [_] _) _ _); (with_reducible apply tw_or1); wtm_at "r_tr")
  | ((with_reducible show TW _ (.BoolOp .And [_] _) _ _); (with_reducible apply tw_and1); wtm_at "r_tr")
  | ((with_reducible show TW _ (.BoolOp .Or (_ :: _ :: _) _) _ _); (with_reducible apply tw_or); wtm_at "r_tr"; (intro _; wtm_at "r_tw"))
  | ((with_reducible show TW _ (.BoolOp .And (_ :: _ :: _) _) _ _); (with_reducible apply tw_and); wtm_at "r_tr"; (intro _; wtm_at "r_tw")))
local macro_rules | `(tactic| wtm_at "s_ret") => `(tactic| ((with_reducible apply ws_ret); (with_reducible apply we_p); wtm_at "r_er"))
local macro_rules | `(tactic| wtm_at "s_set") => `(tactic| ((with_reducible apply ws_set); wtm_at "r_as"; (with_reducible apply we_p); wtm_at "r_er"))
local macro_rules | `(tactic| wtm_at "s_sto") => `(tactic| ((with_reducible apply ws_storeI); wtm_at "r_er"; wtm_at "r_er"; wtm_at "r_er"; first | exact (rfl : _[0]? = _) | exact (rfl : _[1]? = _) | exact (rfl : _[2]? = _)))

def R_dice_of : Rl := fun ds r => ∃ a c : Int, ds = [dP (a, c)] ∧ r = .ok (.d (.list ((diceOf a c).map dT)))
theorem max_two (a c : Int) : maxI [a, c] = max a c := rfl
theorem min_two (a c : Int) : minI [a, c] = min a c := rfl
theorem sc_dice_of : FnScope ["roll"] ["roll"] (defScope s_dice_of) := ⟨rfl, rfl, rfl, by decide +kernel, rfl, by decide +kernel, by decide +kernel⟩
theorem ok_dice_of {M : Md} {f : Addr} {fd : FuncData} (T : Tx M) (F : FnP M.K "dice_of" s_dice_of f fd) (hm : M.mg "dice_of" = some (.ref f)) : Df M "dice_of" R_dice_of 1 := by
  refine fnR F hm (F.bindsN fun _ _ _ _ _ _ us hl => match us, hl with | [_], _ => rfl) sc_dice_of ?hlen ?hbody
  case hlen => rintro ds r ⟨_, _, rfl, _⟩; rfl
  case hbody =>
    rintro X cf fn A B ds r ⟨a, c, rfl, rfl⟩ hx
    have hu := cf.un
    have hc := cf.calm
    have hN := cf.nd
    have n_roll := cf.nm (x := "roll") 0 rfl (by decide +kernel)
    have b_max := cf.bt (x := "max") (f := .builtin "max") (by decide +kernel) T.b_max (by decide +kernel)
    have b_min := cf.bt (x := "min") (f := .builtin "min") (by decide +kernel) T.b_min (by decide +kernel)
    have emx : ∀ (G : Gm), G.sl[0]? = some (.d (dP (a, c))) → ∀ {p1 p2 p3}, ER X (.Call (.Name "max" p1) [.Name "roll" p2] [] p3) G (.d (.int (max a c))) := fun G hG p1 p2 p3 => er_cb b_max (rs := [.d (dT [a, c])]) (ea_cons (er_name n_roll hG) ea_nil rfl) (b_maxT hc hu (fun z => nomatch z)) rfl rfl
    have emn : ∀ (G : Gm), G.sl[0]? = some (.d (dP (a, c))) → ∀ {p1 p2 p3}, ER X (.Call (.Name "min" p1) [.Name "roll" p2] [] p3) G (.d (.int (min a c))) := fun G hG p1 p2 p3 => er_cb b_min (rs := [.d (dT [a, c])]) (ea_cons (er_name n_roll hG) ea_nil rfl) (b_minT hc hu (fun z => nomatch z)) rfl rfl
    with_unfolding_all apply wb_cons
    refine ws_if (k := decide (a = c)) (by wtm_at "r_tr") (fun h => ?_) (fun h => ?_)
    · have e := of_decide_eq_true h
      apply wb_one
      refine ws_ret (we_p (ra := .f [dT [a, a, a, a]]) (er_lst (rs := [.d (dT [a, a, a, a])]) (ea_cons (er_bin (ra := .d (.tuple [.int a])) (er_tup (rs := [.d (.int a)]) (by wtm_at "r_ea") (.cons .d .nil) (by rw [sizeLine_eq]; simp)) er_int (o_repT (ds := [.int a]) (fun z => nomatch z) (by omega) (by omega) (by simp))) ea_nil rfl) (.cons .d .nil) (by rw [sizeLine_eq]; simp)) ⟨rfl, rfl, _, ?_, .fd⟩)
      unfold diceOf
      rw [if_pos e]; rfl
    · have e := of_decide_eq_false h
      apply wb_nil
      apply wb_one
      refine ws_ret (we_p (ra := .f [dT [max a c, min a c], dT [min a c, max a c]]) (er_lst (rs := [.d (dT [max a c, min a c]), .d (dT [min a c, max a c])]) (ea_cons (er_tup (rs := [.d (.int (max a c)), .d (.int (min a c))]) (ea_cons (emx _ rfl) (ea_cons (emn _ rfl) ea_nil rfl) rfl) (.cons .d (.cons .d .nil)) (by rw [sizeLine_eq]; simp)) (ea_cons (er_tup (rs := [.d (.int (min a c)), .d (.int (max a c))]) (ea_cons (emn _ rfl) (ea_cons (emx _ rfl) ea_nil rfl) rfl) (.cons .d (.cons .d .nil)) (by rw [sizeLine_eq]; simp)) ea_nil rfl) rfl) (.cons .d (.cons .d .nil)) (by rw [sizeLine_eq]; simp)) ⟨rfl, rfl, _, ?_, .fd⟩)
      unfold diceOf
      rw [if_neg e]; rfl
def R_is_over : Rl := fun ds r => ∃ b : Bo, ds = [dB b] ∧ b.1.length = 26 ∧ b.2.length = 26 ∧ r = .ok (.d (.bool (isOverB b)))
theorem sc_is_over : FnScope ["board"] ["board"] (defScope s_is_over) := ⟨rfl, rfl, rfl, by decide +kernel, rfl, by decide +kernel, by decide +kernel⟩
theorem ok_is_over {M : Md} {f : Addr} {fd : FuncData} (T : Tx M) (F : FnP M.K "is_over" s_is_over f fd) (hm : M.mg "is_over" = some (.ref f)) : Df M "is_over" R_is_over 1 := by
  refine fnR F hm (F.bindsN fun _ _ _ _ _ _ us hl => match us, hl with | [_], _ => rfl) sc_is_over ?hlen ?hbody
  case hlen => rintro ds r ⟨_, rfl, _⟩; rfl
  case hbody =>
    rintro X cf fn A B ds r ⟨b, rfl, hl1, hl2, rfl⟩ hx
    have hu := cf.un
    have hc := cf.calm
    have hN := cf.nd
    have n_board := cf.nm (x := "board") 0 rfl (by decide +kernel)
    have g_OFF := cf.gc (x := "OFF") (v := .int 0) (by decide +kernel) (by obtain ⟨t, h⟩ := T.k_OFF; exact ⟨_, h, t, rfl⟩)
    have b_sum := cf.bt (x := "sum") (f := .builtin "sum") (by decide +kernel) T.b_sum (by decide +kernel)
    with_unfolding_all apply wb_one
    refine ws_ret (we_p (ra := .d (.bool (isOverB b))) (by unfold isOverB; wtm_at "r_er") ⟨rfl, rfl, _, rfl, .d⟩)
end Rd

namespace Rd
open PySem PySem.Spec PyProof.Rows L2 TL
local macro_rules | `(tactic| wtm_at "r_sd") => `(tactic| first | assumption | omega | decide | (simp only [List.length_cons, List.length_nil, List.length_append, List.length_map, List.length_replicate, List.length_set, sizeLine_eq]; omega) | (simp; omega))
local macro_rules | `(tactic| wtm_at "r_as") => `(tactic| (with_reducible assumption))
local macro_rules | `(tactic| wtm_at "r_nm") => `(tactic| ((with_reducible show ER _ (.Name _ _) _ _); first
  | ((with_reducible apply er_name); wtm_at "r_as"; exact rfl)
  | ((with_reducible apply er_nameL); wtm_at "r_as"; exact rfl)
  | ((with_reducible apply er_nameV); wtm_at "r_as"; exact rfl)
  | ((with_reducible apply er_nameX); wtm_at "r_as"; exact rfl)
  | ((with_reducible apply er_gcI); wtm_at "r_as")
  | ((with_reducible apply er_gcS); wtm_at "r_as")
  | ((with_reducible apply Bt.ty); wtm_at "r_as")
  | ((with_reducible apply er_gcV); wtm_at "r_as")
  | ((with_reducible apply Ec.er); wtm_at "r_as")))
local macro_rules | `(tactic| wtm_at "r_lv") => `(tactic| first | (with_reducible exact Lv.d) | (with_reducible exact Lv.f) | (with_reducible exact Lv.l) | exact Lv.c 0 rfl | exact Lv.c 1 rfl | exact Lv.c 2 rfl)
local macro_rules | `(tactic| wtm_at "r_tv") => `(tactic| first | (with_reducible exact Tv.f) | (with_reducible exact Tv.l) | exact Tv.c 0 rfl | exact Tv.c 1 rfl | exact Tv.c 2 rfl)
local macro_rules | `(tactic| wtm_at "r_vw") => `(tactic| first | (with_reducible exact Vw.d) | (with_reducible exact Vw.f) | (with_reducible exact Vw.l) | exact Vw.c 0 rfl | exact Vw.c 1 rfl | exact Vw.c 2 rfl)
local macro_rules | `(tactic| wtm_at "r_dt") => `(tactic| first | (with_reducible exact DtL.nil) | ((with_reducible apply DtL.cons); (first | (with_reducible exact Dt.d) | (with_reducible exact Dt.f) | (with_reducible exact Dt.l)); wtm_at "r_dt"))
local macro_rules | `(tactic| wtm_at "r_op") => `(tactic| first
  | (with_reducible exact o_add) | (with_reducible exact o_sub) | (with_reducible exact o_lt) | (with_reducible exact o_le) | (with_reducible exact o_gt) | (with_reducible exact o_ge)
  | (with_reducible exact o_eqI) | (with_reducible exact o_neI) | (with_reducible exact o_eqN) | (with_reducible exact o_neN) | (with_reducible exact o_inN) | (with_reducible exact o_notInN) | (with_reducible exact o_eqS) | (with_reducible exact o_neS)
  | ((with_reducible apply o_mod); wtm_at "r_sd")
  | ((with_reducible apply o_div); (first | exact ⟨by decide, by decide⟩ | exact ⟨by omega, by omega⟩))
  | ((with_reducible apply o_isN); (exact fun z => nomatch z); (first | exact fun _ z => nomatch z | exact fun y z => ⟨_, (Sl.v.inj z).symm⟩))
  | ((with_reducible apply o_notN); (exact fun z => nomatch z); (first | exact fun _ z => nomatch z | exact fun y z => ⟨_, (Sl.v.inj z).symm⟩))
  | ((with_reducible apply o_mul); (first | exact Or.inl ⟨by omega, by omega⟩ | exact Or.inr ⟨by omega, by omega⟩))
  | ((with_reducible apply o_inI); wtm_at "r_lv")
  | ((with_reducible apply o_catTI); wtm_at "r_sd")
  | ((with_reducible apply o_catT); wtm_at "r_sd")
  | ((with_reducible apply o_catLI); wtm_at "r_tv"; wtm_at "r_tv"; wtm_at "r_sd")
  | ((with_reducible apply o_catL); wtm_at "r_tv"; wtm_at "r_tv"; wtm_at "r_sd")
  | ((with_reducible apply o_catN); wtm_at "r_sd")
  | ((with_reducible apply o_catS); wtm_at "r_sd")
  | ((with_reducible apply o_rep0); wtm_at "r_sd"; wtm_at "r_sd")
  | ((with_reducible apply o_repL); wtm_at "r_tv"; wtm_at "r_sd"; wtm_at "r_sd"; wtm_at "r_sd")
  | ((with_reducible apply o_repT); (exact fun z => nomatch z); wtm_at "r_sd"; wtm_at "r_sd"; wtm_at "r_sd")
  | ((with_reducible apply o_eqD); assumption; wtm_at "r_vw"; wtm_at "r_vw"; wtm_at "r_dp")
  | ((with_reducible apply o_neD); assumption; wtm_at "r_vw"; wtm_at "r_vw"; wtm_at "r_dp"))
local macro_rules | `(tactic| wtm_at "r_dp") => `(tactic| first | assumption | (exact dep_l (by wtm_at "r_de")) | (exact dep_r (by wtm_at "r_de")))
local macro_rules | `(tactic| wtm_at "r_de") => `(tactic| first | (exact dep_ints _) | (exact dep_intsL _) | (simp only [PyData.depth, PyData.depthAll, PySem.W.depth_ints]; omega))
local macro_rules | `(tactic| wtm_at "r_ix") => `(tactic| first
  | ((with_reducible apply o_ixTI); wtm_at "r_sd"; wtm_at "r_sd")
  | ((with_reducible apply o_ixT); (exact rfl))
  | ((with_reducible apply o_ixLI); wtm_at "r_lv"; wtm_at "r_sd"; wtm_at "r_sd")
  | ((with_reducible apply o_ixL); wtm_at "r_lv"; (exact rfl))
  | ((with_reducible apply o_ixN); wtm_at "r_sd"; (exact rfl)) | (exact o_ixH 0 rfl rfl) | (exact o_ixH 1 rfl rfl) | (exact o_ixH 2 rfl rfl))
local macro_rules | `(tactic| wtm_at "r_sl") => `(tactic| first | (with_reducible exact o_slTI) | (with_reducible exact o_slT) | ((with_reducible apply o_slLI); wtm_at "r_lv") | ((with_reducible apply o_slL); wtm_at "r_lv") | ((with_reducible apply o_slN); wtm_at "r_sd") | ((with_reducible apply o_slS); wtm_at "r_sd"))
local macro_rules | `(tactic| wtm_at "r_cb") => `(tactic| first
  | (with_reducible exact b_lenTI) | (with_reducible exact b_lenT) | ((with_reducible apply b_len); wtm_at "r_lv") | ((with_reducible apply b_lenN); wtm_at "r_sd") | ((with_reducible apply b_lenS); wtm_at "r_sd")
  | ((with_reducible apply b_sumT); assumption) | ((with_reducible apply b_sum); assumption; wtm_at "r_lv") | ((with_reducible apply b_sumM); assumption; wtm_at "r_lv")
  | ((with_reducible apply b_all); assumption; wtm_at "r_lv") | ((with_reducible apply b_allM); assumption; wtm_at "r_lv") | ((with_reducible apply b_any); assumption; wtm_at "r_lv") | ((with_reducible apply b_anyM); assumption; wtm_at "r_lv")
  | ((with_reducible apply b_tuple); wtm_at "r_lv") | (with_reducible exact b_listT) | ((with_reducible apply b_list); wtm_at "r_lv")
  | ((with_reducible apply b_max2); assumption) | ((with_reducible apply b_min2); assumption)
  | ((with_reducible apply b_maxT); assumption; assumption; wtm_at "r_ne") | ((with_reducible apply b_max); assumption; assumption; wtm_at "r_lv"; wtm_at "r_ne") | ((with_reducible apply b_maxM); assumption; assumption; wtm_at "r_lv"; wtm_at "r_ne")
  | ((with_reducible apply b_minT); assumption; assumption; wtm_at "r_ne") | ((with_reducible apply b_min); assumption; assumption; wtm_at "r_lv"; wtm_at "r_ne") | ((with_reducible apply b_minM); assumption; assumption; wtm_at "r_lv"; wtm_at "r_ne")
  | (with_reducible exact b_intB) | (with_reducible exact b_abs) | ((with_reducible apply b_strI); wtm_at "r_sd"; wtm_at "r_sd") | ((with_reducible apply b_str); wtm_at "r_sd")
  | ((with_reducible apply b_isXM); wtm_at "r_as"; wtm_at "r_as"; (decide)) | ((with_reducible apply b_isXV); wtm_at "r_as"; wtm_at "r_as")
  | ((with_reducible apply b_isBool); wtm_at "r_vw") | ((with_reducible apply b_isInt); wtm_at "r_vw") | ((with_reducible apply b_isTuple); wtm_at "r_vw"))
local macro_rules | `(tactic| wtm_at "r_R") => `(tactic| first | exact ⟨_, rfl, rfl⟩ | exact ⟨_, rfl, by wtm_at "r_sd", rfl⟩ | exact ⟨_, rfl, by wtm_at "r_sd", by wtm_at "r_sd", rfl⟩)
local macro_rules | `(tactic| wtm_at "r_ne") => `(tactic| first | assumption | (exact fun z => nomatch z))
local macro_rules | `(tactic| wtm_at "r_er") => `(tactic| first
  | wtm_at "r_nm"
  | (with_reducible exact er_int) | (with_reducible exact er_str) | (with_reducible exact er_bl) | (with_reducible exact er_non)
  | ((with_reducible show ER _ (.BinOp _ _ _ _) _ _); (with_reducible apply er_bin); wtm_at "r_er"; wtm_at "r_er"; wtm_at "r_op")
  | ((with_reducible show ER _ (.Subscript _ (.Slice _ _ none _) _) _ _); (with_reducible apply er_sl); wtm_at "r_er"; wtm_at "r_eo"; wtm_at "r_eo"; wtm_at "r_sl")
  | ((with_reducible show ER _ (.Subscript _ _ _) _ _); (with_reducible apply er_ix); wtm_at "r_er"; wtm_at "r_er"; wtm_at "r_ix"; (exact fun _ _ => rfl))
  | ((with_reducible show ER _ (.Compare _ [_] _ _) _ _); (with_reducible apply er_cmp); wtm_at "r_er"; wtm_at "r_er"; wtm_at "r_op"; (first | exact nomark _ | rfl))
  | ((with_reducible show ER _ (.Call (.Name _ _) (_ :: _) _ _) _ _); first
    | ((with_reducible apply er_cb); wtm_at "r_as"; wtm_at "r_ea"; wtm_at "r_cb"; (exact rfl); (exact rfl))
    | ((with_reducible apply er_ct); wtm_at "r_as"; wtm_at "r_ea"; wtm_at "r_cb"; (exact rfl); (exact rfl))
    | ((with_reducible apply er_call); wtm_at "r_as"; wtm_at "r_ea"; wtm_at "r_dt"; wtm_at "r_R"; (exact rfl); (exact rfl)))
  | ((with_reducible show ER _ (.Call (.Name _ _) [] _ _) _ _); (with_reducible apply er_call0); wtm_at "r_as"; wtm_at "r_R")
  | ((with_reducible show ER _ (.ListComp _ _ _ _) _ _); (with_reducible apply er_lc); wtm_at "r_lc")
  | ((with_reducible show ER _ (.Tuple _ _ _) _ _); (exact er_litT rfl))
  | ((with_reducible show ER _ (.List _ _) _ _); (exact er_litL rfl (by decide)))
  | ((with_reducible show ER _ (.Tuple _ _ _) _ _); (with_reducible apply er_tup); wtm_at "r_ea"; wtm_at "r_dt"; wtm_at "r_sd")
  | ((with_reducible show ER _ (.List _ _) _ _); (with_reducible apply er_lst); wtm_at "r_ea"; wtm_at "r_dt"; wtm_at "r_sd")
  | ((with_reducible show ER _ (.UnaryOp .USub _ _) _ _); (with_reducible apply er_neg); wtm_at "r_er")
  | ((with_reducible show ER _ (.UnaryOp .Not _ _) _ _); (with_reducible apply er_not); wtm_at "r_er")
  | ((with_reducible show ER _ (.BoolOp .Or (_ :: _ :: _) _) _ _); (with_reducible apply er_or); wtm_at "r_er"; (intro _; wtm_at "r_er"))
  | ((with_reducible show ER _ (.BoolOp .And (_ :: _ :: _) _) _ _); (with_reducible apply er_and); wtm_at "r_er"; (intro _; wtm_at "r_er"))
  | ((with_reducible show ER _ (.BoolOp _ [_] _) _ _); (with_reducible apply er_one); wtm_at "r_er")
  | ((with_reducible show ER _ (.IfExp _ _ _ _) _ _); first
    | ((with_reducible apply er_ifI); wtm_at "r_tr"; (intro _; wtm_at "r_er"); (intro _; wtm_at "r_er"))
    | ((with_reducible apply er_ifD); wtm_at "r_tr"; (intro _; wtm_at "r_er"); (intro _; wtm_at "r_er")))
  | ((with_reducible show ER _ (.Compare _ [_, _] _ _) _ _); (with_reducible apply er_chain); wtm_at "r_er"; wtm_at "r_er"; wtm_at "r_op"; (intro _; wtm_at "r_er"); (intro _; wtm_at "r_op"); (with_unfolding_all rfl)))
local macro_rules | `(tactic| wtm_at "r_eo") => `(tactic| first | (with_reducible exact eo_none) | ((with_reducible apply eo_some); wtm_at "r_er"))
local macro_rules | `(tactic| wtm_at "r_ea") => `(tactic| first
  | (with_reducible exact ea_nil)
  | ((with_reducible apply ea_cons); wtm_at "r_er"; wtm_at "r_ea"; (exact rfl)))
local macro_rules | `(tactic| wtm_at "r_tr") => `(tactic| first
  | ((with_reducible show TR _ (.Compare _ [_] _ _) _ _); (with_reducible apply tr_cmp); wtm_at "r_er"; wtm_at "r_er"; wtm_at "r_op"; (first | exact nomark _ | rfl))
  | ((with_reducible show TR _ (.Compare _ [_, _] _ _) _ _); (with_reducible apply tr_chain); wtm_at "r_er"; wtm_at "r_er"; wtm_at "r_op"; (intro _; wtm_at "r_er"); (intro _; wtm_at "r_op"); (with_unfolding_all rfl))
  | ((with_reducible show TR _ (.BoolOp _ _ _) _ _); (with_reducible apply TW.tr); wtm_at "r_tw")
  | ((with_reducible show TR _ (.UnaryOp .Not _ _) _ _); (with_reducible apply tr_not); wtm_at "r_tr")
  | ((with_reducible apply tr_val); wtm_at "r_er"; wtm_at "r_vw"; (exact rfl); (intro _; rfl)))
local macro_rules | `(tactic| wtm_at "r_tw") => `(tactic| first
  | ((with_reducible show TW _ (.BoolOp .Or [_] _) _ _); (with_reducible apply tw_or1); wtm_at "r_tr")
  | ((with_reducible show TW _ (.BoolOp .And [_] _) _ _); (with_reducible apply tw_and1); wtm_at "r_tr")
  | ((with_reducible show TW _ (.BoolOp .Or (_ :: _ :: _) _) _ _); (with_reducible apply tw_or); wtm_at "r_tr"; (intro _; wtm_at "r_tw"))
  | ((with_reducible show TW _ (.BoolOp .And (_ :: _ :: _) _) _ _); (with_reducible apply tw_and); wtm_at "r_tr"; (intro _; wtm_at "r_tw")))
local macro_rules | `(tactic| wtm_at "s_ret") => `(tactic| ((with_reducible apply ws_ret); (with_reducible apply we_p); wtm_at "r_er"))
local macro_rules | `(tactic| wtm_at "s_set") => `(tactic| ((with_reducible apply ws_set); wtm_at "r_as"; (with_reducible apply we_p); wtm_at "r_er"))
local macro_rules | `(tactic| wtm_at "s_sto") => `(tactic| ((with_reducible apply ws_storeI); wtm_at "r_er"; wtm_at "r_er"; wtm_at "r_er"; first | exact (rfl : _[0]? = _) | exact (rfl : _[1]? = _) | exact (rfl : _[2]? = _)))

theorem way_len {ds : List Int} : ∀ {b : Bo} {r : Ply × Bo}, r ∈ wayL ds b → r.1.length ≤ ds.length := by
  induction ds with
  | nil =>
    intro b r h
    unfold wayL at h
    rw [List.mem_singleton] at h
    rw [h]; exact Nat.le_refl 0
  | cons d ds ih =>
    intro b r h
    unfold wayL at h
    split at h
    · rw [List.mem_singleton] at h
      rw [h]; exact Nat.zero_le _
    · rcases mem_orSelf.mp h with h | ⟨_, h⟩
      · obtain ⟨p, _, _, q, hq, rfl⟩ := mem_wayStep.mp h
        have := ih hq
        simp only [List.length_cons]
        omega
      · rw [h]; exact Nat.zero_le _
theorem wayStep_app (b : Bo) (d : Int) (rest : Bo → List (Ply × Bo)) (ps qs : List Int) : wayStep b d rest (ps ++ qs) = wayStep b d rest ps ++ wayStep b d rest qs := by
  unfold wayStep
  rw [List.flatMap_append]
theorem wayStep_one (b : Bo) (d : Int) (rest : Bo → List (Ply × Bo)) (p : Int) : wayStep b d rest [p] = if canGo b p d then (rest (goneB b p d)).map (fun r => ((p, d) :: r.1, r.2)) else [] := by
  unfold wayStep
  simp
theorem take_get {α : Type} {l : List α} {i : Nat} {x : α} (h : l[i]? = some x) : l.take (i + 1) = l.take i ++ [x] := by
  rw [List.take_succ, h]; rfl
theorem er_eq {X : Cx} {e : Expr} {G : Gm} {r r' : Sl} (h : ER X e G r) (q : r = r') : ER X e G r' := q ▸ h
def R_ways (n : Nat) : Rl := fun ds r => ∃ (b : Bo) (dice : List Int), ds = [dB b, dT dice] ∧ dice.length < n ∧ dice.length ≤ 4 ∧ Bd b ∧ b.1.sum ≤ 15 ∧ (∀ d ∈ dice, isDie d = true) ∧ r = .ok (.f ((wayL dice b).map dWy))
theorem no_ways {ds : List PyData} {r : Except Addr Sl} (h : R_ways 0 ds r) : False := by
  obtain ⟨_, _, _, h, _⟩ := h
  exact absurd h (Nat.not_lt_zero _)
theorem sc_ways : FnScope ["board", "dice", "found", "point", "steps", "end"] ["board", "dice"] (defScope s_ways) := ⟨rfl, rfl, rfl, by decide +kernel, rfl, by decide +kernel, by decide +kernel⟩
theorem okr_ways {n kk : Nat} (hkk : 3 ≤ kk) {M : Md} {f : Addr} {fd : FuncData} (T : Tx M) (F : FnP M.K "ways" s_ways f fd) (hm : M.mg "ways" = some (.ref f)) (D_is_over : Df M "is_over" R_is_over 1) (D_can_go : Df M "can_go" R_can_go 2) (D_gone : Df M "gone" R_gone 1) (D_ways : Df M "ways" (R_ways n) kk) : Df M "ways" (R_ways (n + 1)) (kk + 1) := by
  refine fnR F hm (F.bindsN fun _ _ _ _ _ _ us hl => match us, hl with | [_, _], _ => rfl) sc_ways ?hlen ?hbody
  case hlen => rintro ds r ⟨_, _, rfl, _⟩; rfl
  case hbody =>
    rintro X cf fn A B ds r ⟨b, dice, rfl, hn, h4, hb, hs, hd, rfl⟩ hx
    have hu := cf.un
    have hc := cf.calm
    have hN := cf.nd
    have n_board := cf.nm (x := "board") 0 rfl (by decide +kernel)
    have n_dice := cf.nm (x := "dice") 1 rfl (by decide +kernel)
    have n_found := cf.nm (x := "found") 2 rfl (by decide +kernel)
    have n_point := cf.nm (x := "point") 3 rfl (by decide +kernel)
    have n_steps := cf.nm (x := "steps") 4 rfl (by decide +kernel)
    have n_end := cf.nm (x := "end") 5 rfl (by decide +kernel)
    have l_found := cf.nl (x := "found") 2 rfl (by decide +kernel) (Or.inl (fn _))
    have l_point := cf.nl (x := "point") 3 rfl (by decide +kernel) (Or.inl (fn _))
    have l_steps := cf.nl (x := "steps") 4 rfl (by decide +kernel) (Or.inl (fn _))
    have l_end := cf.nl (x := "end") 5 rfl (by decide +kernel) (Or.inl (fn _))
    have f_is_over := cf.fc (x := "is_over") D_is_over (by first | decide | omega) (by decide +kernel)
    have b_range := cf.btr (by decide +kernel) T.b_range
    have g_BAR := cf.gc (x := "BAR") (v := .int 25) (by decide +kernel) (by obtain ⟨t, h⟩ := T.k_BAR; exact ⟨_, h, t, rfl⟩)
    have f_can_go := cf.fc (x := "can_go") D_can_go (by first | decide | omega) (by decide +kernel)
    have f_ways := cf.fc (x := "ways") D_ways (by first | decide | omega) (by decide +kernel)
    have f_gone := cf.fc (x := "gone") D_gone (by first | decide | omega) (by decide +kernel)
    have g1 := hb.l1
    have g2 := hb.l2
    have ro : R_is_over [dB b] (.ok (.d (.bool (isOverB b)))) := ⟨b, rfl, g1, g2, rfl⟩
    have eself : ∀ (G : Gm), G.sl[0]? = some (.d (dB b)) → ∀ {p1 p2 p3 p4}, ER X (.List [.Tuple [.Tuple [] 0 p1, .Name "board" p2] 0 p3] p4) G (.f [dWy ([], b)]) := fun G hG p1 p2 p3 p4 => er_lst (rs := [.d (dWy ([], b))]) (ea_cons (er_tup (rs := [.d (dPl []), .d (dB b)]) (ea_cons (er_litT rfl) (ea_cons (er_name n_board hG) ea_nil rfl) rfl) (.cons .d (.cons .d .nil)) (by rw [sizeLine_eq]; simp)) ea_nil rfl) (.cons .d .nil) (by rw [sizeLine_eq]; simp)
    cases dice with
    | nil =>
      with_unfolding_all apply wb_cons
      refine ws_if (k := true) (TW.tr (tw_or (k := true) (k' := true) (tr_not (k := false) (tr_val (ra := .d (.tuple [])) (d := .tuple []) (by wtm_at "r_er") .d rfl (fun _ => rfl))) (fun z => nomatch z))) (fun _ => ?_) (fun z => nomatch z)
      apply wb_one
      exact ws_ret (we_p (ra := .f [dWy ([], b)]) (eself _ rfl) ⟨rfl, rfl, _, rfl, .f⟩)
    | cons d ds =>
      have hd0 := hd d List.mem_cons_self
      have hds : ∀ e ∈ ds, isDie e = true := fun e he => hd e (List.mem_cons_of_mem _ he)
      have ecut : cut (d :: ds) (some 1) none = ds := by have := cut_from (d :: ds) 1; simpa using this
      have hl4 : ds.length ≤ 3 := by simp at h4; omega
      with_unfolding_all apply wb_cons
      refine ws_if (k := isOverB b) (TW.tr (tw_or (k := false) (k' := isOverB b) (tr_not (k := true) (tr_val (ra := .d (dT (d :: ds))) (d := dT (d :: ds)) (by wtm_at "r_er") .d rfl (fun _ => rfl))) (fun _ => tw_or1 (tr_val (ra := .d (.bool (isOverB b))) (d := .bool (isOverB b)) (er_call f_is_over (by wtm_at "r_ea") (by wtm_at "r_dt") ro rfl rfl) .d rfl (fun _ => rfl))))) (fun ho => ?_) (fun ho => ?_)
      · apply wb_one
        exact ws_ret (we_p (ra := .f [dWy ([], b)]) (eself _ rfl) ⟨rfl, rfl, _, by unfold wayL; rw [ho]; rfl, .f⟩)
      · have ew : wayL (d :: ds) b = orSelf b (wayStep b d (wayL ds) (rngD 25 0)) := by
          rw [show wayL (d :: ds) b = if isOverB b then [([], b)] else orSelf b (wayStep b d (wayL ds) (rngD 25 0)) from rfl, ho]; rfl
        have big : ∀ ps : List Int, ps.Nodup → (∀ p ∈ ps, 0 ≤ p ∧ p < 26) → (wayStep b d (wayL ds) ps).length ≤ 15 * 15 ^ 3 := fun ps q1 q2 => by
          refine step_le hb q1 q2 (by exact_mod_cast hs) fun p _ hg => Nat.le_trans (way_le (by omega) hds (gone_bd hb hd0 hg) (by rw [gone_sum1 hb hd0 hg]; exact_mod_cast hs)) (Nat.pow_le_pow_right (by omega) hl4)
        apply wb_nil
        apply wb_cons
        refine ws_setC (ds := []) l_found (er_litL rfl (by decide)) (fun a => ?_)
        apply wb_cons
        refine ws_for3 (lo := 25) (hi := 0) (D := { nx := _, rt := _, bk := _, ct := _ }) hx b_range (by wtm_at "r_ea") ⟨by omega, by omega, by omega, by omega⟩ (fun i G' => ∃ s3 s4 s5 : Sl, G' = ⟨A, B, [.d (dB b), .d (dT (d :: ds)), .v (.ref a), s3, s4, s5], [(a, .ls ((wayStep b d (wayL ds) ((rngD 25 0).take i)).map dWy))]⟩) ⟨_, _, _, rfl⟩ ?_ ?_ rfl rfl (fun _ => rfl)
        · rintro i G' hi ⟨s3, s4, s5, rfl⟩
          refine ⟨_, tg_name l_point, ?_⟩
          have hget : (rngD 25 0)[i]? = some ((25 : Int) - (i : Int)) := rngD_get hi
          have htk := take_get hget
          generalize hp : (25 : Int) - i = p at hget htk
          have hp1 : 1 ≤ p := by omega
          have hp2 : p ≤ 25 := by omega
          have rg : R_can_go [dB b, .int p, .int (at0 (d :: ds) 0)] (.ok (.d (.bool (canGo b p d)))) := ⟨b, p, d, rfl, g1, g2, hd0, rfl⟩
          have lw := big ((rngD 25 0).take i) ((nodup_rngD 25 0).sublist (List.take_sublist _ _)) (fun q hq => by have := mem_rngD.mp (List.mem_of_mem_take hq); omega)
          apply wb_one
          refine ws_if (k := canGo b p d) (tr_val (ra := .d (.bool (canGo b p d))) (d := .bool (canGo b p d)) (er_call f_can_go (by wtm_at "r_ea") (by wtm_at "r_dt") rg rfl rfl) .d rfl (fun _ => rfl)) (fun hg => ?_) (fun hg => ?_)
          · have rn : R_gone [dB b, .int p, .int (at0 (d :: ds) 0)] (.ok (.d (dB (goneB b p d)))) := ⟨b, p, d, rfl, g1, g2, hp1, hp2, hd0, rfl⟩
            have hgb := gone_bd hb hd0 hg
            have hgs : (goneB b p d).1.sum ≤ 15 := by rw [gone_sum1 hb hd0 hg]; exact hs
            have rw' : R_ways n [dB (goneB b p d), dT ds] (.ok (.f ((wayL ds (goneB b p d)).map dWy))) := ⟨_, ds, rfl, by simp at hn; omega, by omega, hgb, hgs, hds, rfl⟩
            have lg : (wayL ds (goneB b p d)).length ≤ 15 ^ 3 := Nat.le_trans (way_le (by omega) hds hgb (by exact_mod_cast hgs)) (Nat.pow_le_pow_right (by omega) hl4)
            apply wb_one
            refine ws_forL (ra := .f ((wayL ds (goneB b p d)).map dWy)) (D := { nx := _, rt := _, bk := _, ct := _ }) hx hc (er_call f_ways (rs := [.d (dB (goneB b p d)), .d (dT ds)]) (ea_cons (er_call f_gone (by wtm_at "r_ea") (by wtm_at "r_dt") rn rfl rfl) (ea_cons (er_eq (r := .d (dT (cut (d :: ds) (some 1) none))) (by wtm_at "r_er") (by rw [ecut])) ea_nil rfl) rfl) (.cons .d (.cons .d .nil)) rw' rfl rfl) .f (fun j G' => ∃ s4 s5 : Sl, G' = ⟨A, B, [.d (dB b), .d (dT (d :: ds)), .v (.ref a), .d (.int p), s4, s5], [(a, .ls ((wayStep b d (wayL ds) ((rngD 25 0).take i) ++ ((wayL ds (goneB b p d)).take j).map (fun r => ((p, d) :: r.1, r.2))).map dWy))]⟩) ⟨s4, s5, by simp⟩ ?_ ?_ (fun _ => rfl)
            · rintro j e G' he ⟨s4, s5, rfl⟩
              rw [List.getElem?_map] at he
              obtain ⟨r, hr, rfl⟩ := Option.map_eq_some_iff.mp he
              have hrl := way_len (List.mem_of_getElem? hr)
              refine ⟨_, tg_tup2 hc (tg_name l_steps) (tg_name l_end), ?_⟩
              apply wb_one
              refine ws_append (j := 0) (by wtm_at "r_er") ⟨_, rfl⟩ (we_p (ra := .d (dWy ((p, d) :: r.1, r.2))) (er_tup (rs := [.d (dPl ((p, d) :: r.1)), .d (dB r.2)]) (ea_cons (er_bin (ra := .d (.tuple [dP (p, d)])) (rb := .d (dPl r.1)) (er_tup (rs := [.d (dP (p, d))]) (ea_cons (er_tup (rs := [.d (.int p), .d (.int (at0 (d :: ds) 0))]) (by wtm_at "r_ea") (.cons .d (.cons .d .nil)) (by rw [sizeLine_eq]; simp)) ea_nil rfl) (.cons .d .nil) (by rw [sizeLine_eq]; simp)) (by wtm_at "r_er") (o_catT (by rw [sizeLine_eq, List.length_map]; simp; omega))) (ea_cons (by wtm_at "r_er") ea_nil rfl) rfl) (.cons .d (.cons .d .nil)) (by rw [sizeLine_eq]; simp)) ⟨_, _, .d, rfl, ?_, .d (dPl r.1), .d (dB r.2), ?_⟩)
              · have hj : ((wayL ds (goneB b p d)).take j).length ≤ 15 ^ 3 := by rw [List.length_take]; omega
                rw [sizeLine_eq, List.length_map, List.length_append, List.length_map]
                omega
              · rw [take_get hr]
                simp only [upL, List.map_append, List.map_cons, List.map_nil, List.append_assoc]
                rfl
            · rintro G' ⟨s4, s5, rfl⟩
              refine ⟨.d (.int p), s4, s5, ?_⟩
              rw [htk, wayStep_app, wayStep_one, if_pos hg, List.length_map, List.take_length]
          · apply wb_nil
            refine ⟨.d (.int p), s4, s5, ?_⟩
            rw [htk, wayStep_app, wayStep_one, if_neg (by rw [hg]; exact fun z => nomatch z), List.append_nil]
            rfl
        · rintro G' ⟨s3, s4, s5, rfl⟩
          have e0 : (rngD 25 0).take ((25 : Int) - 0).toNat = rngD 25 0 := rfl
          rw [e0]
          rw [ew]
          cases q : wayStep b d (wayL ds) (rngD 25 0) with
          | nil =>
            apply wb_one
            refine ws_ret (we_if (k := false) (tr_val (d := .list []) (by wtm_at "r_er") (.c 0 rfl) rfl (fun _ => rfl)) (fun z => nomatch z) (fun _ => we_p (ra := .f [dWy ([], b)]) (eself _ rfl) ⟨rfl, rfl, _, rfl, .f⟩))
          | cons r l =>
            apply wb_one
            refine ws_ret (we_if (k := true) (tr_val (d := .list ((r :: l).map dWy)) (by wtm_at "r_er") (.c 0 rfl) rfl (fun _ => rfl)) (fun _ => we_p (ra := .v (.ref a)) (by wtm_at "r_er") ⟨rfl, rfl, _, rfl, .c 0 rfl⟩) (fun z => nomatch z))
theorem ok_ways {M : Md} {f : Addr} {fd : FuncData} (T : Tx M) (F : FnP M.K "ways" s_ways f fd) (hm : M.mg "ways" = some (.ref f)) (D_is_over : Df M "is_over" R_is_over 1) (D_can_go : Df M "can_go" R_can_go 2) (D_gone : Df M "gone" R_gone 1) : Df M "ways" (R_ways 5) 8 := by
  have h : ∀ n, Df M "ways" (R_ways n) (3 + n) := by
    intro n
    induction n with
    | zero => exact fnR (k := 2) F hm (F.bindsN fun _ _ _ _ _ _ us hl => match us, hl with | [_, _], _ => rfl) sc_ways (fun ds r h => (no_ways h).elim) (fun _ _ _ _ _ _ _ h => (no_ways h).elim)
    | succ n ih => exact okr_ways (Nat.le_add_right _ _) T F hm D_is_over D_can_go D_gone ih
  exact h 5
end Rd

namespace Rd
open PySem PySem.Spec PyProof.Rows L2 TL
local macro_rules | `(tactic| wtm_at "r_sd") => `(tactic| first | assumption | omega | decide | (simp only [List.length_cons, List.length_nil, List.length_append, List.length_map, List.length_replicate, List.length_set, sizeLine_eq]; omega) | (simp; omega))
local macro_rules | `(tactic| wtm_at "r_as") => `(tactic| (with_reducible assumption))
local macro_rules | `(tactic| wtm_at "r_nm") => `(tactic| ((with_reducible show ER _ (.Name _ _) _ _); first
  | ((with_reducible apply er_name); wtm_at "r_as"; exact rfl)
  | ((with_reducible apply er_nameL); wtm_at "r_as"; exact rfl)
  | ((with_reducible apply er_nameV); wtm_at "r_as"; exact rfl)
  | ((with_reducible apply er_nameX); wtm_at "r_as"; exact rfl)
  | ((with_reducible apply er_gcI); wtm_at "r_as")
  | ((with_reducible apply er_gcS); wtm_at "r_as")
  | ((with_reducible apply Bt.ty); wtm_at "r_as")
  | ((with_reducible apply er_gcV); wtm_at "r_as")
  | ((with_reducible apply Ec.er); wtm_at "r_as")))
local macro_rules | `(tactic| wtm_at "r_lv") => `(tactic| first | (with_reducible exact Lv.d) | (with_reducible exact Lv.f) | (with_reducible exact Lv.l) | exact Lv.c 0 rfl | exact Lv.c 1 rfl | exact Lv.c 2 rfl)
local macro_rules | `(tactic| wtm_at "r_tv") => `(tactic| first | (with_reducible exact Tv.f) | (with_reducible exact Tv.l) | exact Tv.c 0 rfl | exact Tv.c 1 rfl | exact Tv.c 2 rfl)
local macro_rules | `(tactic| wtm_at "r_vw") => `(tactic| first | (with_reducible exact Vw.d) | (with_reducible exact Vw.f) | (with_reducible exact Vw.l) | exact Vw.c 0 rfl | exact Vw.c 1 rfl | exact Vw.c 2 rfl)
local macro_rules | `(tactic| wtm_at "r_dt") => `(tactic| first | (with_reducible exact DtL.nil) | ((with_reducible apply DtL.cons); (first | (with_reducible exact Dt.d) | (with_reducible exact Dt.f) | (with_reducible exact Dt.l)); wtm_at "r_dt"))
local macro_rules | `(tactic| wtm_at "r_op") => `(tactic| first
  | (with_reducible exact o_add) | (with_reducible exact o_sub) | (with_reducible exact o_lt) | (with_reducible exact o_le) | (with_reducible exact o_gt) | (with_reducible exact o_ge)
  | (with_reducible exact o_eqI) | (with_reducible exact o_neI) | (with_reducible exact o_eqN) | (with_reducible exact o_neN) | (with_reducible exact o_inN) | (with_reducible exact o_notInN) | (with_reducible exact o_eqS) | (with_reducible exact o_neS)
  | ((with_reducible apply o_mod); wtm_at "r_sd")
  | ((with_reducible apply o_div); (first | exact ⟨by decide, by decide⟩ | exact ⟨by omega, by omega⟩))
  | ((with_reducible apply o_isN); (exact fun z => nomatch z); (first | exact fun _ z => nomatch z | exact fun y z => ⟨_, (Sl.v.inj z).symm⟩))
  | ((with_reducible apply o_notN); (exact fun z => nomatch z); (first | exact fun _ z => nomatch z | exact fun y z => ⟨_, (Sl.v.inj z).symm⟩))
  | ((with_reducible apply o_mul); (first | exact Or.inl ⟨by omega, by omega⟩ | exact Or.inr ⟨by omega, by omega⟩))
  | ((with_reducible apply o_inI); wtm_at "r_lv")
  | ((with_reducible apply o_catTI); wtm_at "r_sd")
  | ((with_reducible apply o_catT); wtm_at "r_sd")
  | ((with_reducible apply o_catLI); wtm_at "r_tv"; wtm_at "r_tv"; wtm_at "r_sd")
  | ((with_reducible apply o_catL); wtm_at "r_tv"; wtm_at "r_tv"; wtm_at "r_sd")
  | ((with_reducible apply o_catN); wtm_at "r_sd")
  | ((with_reducible apply o_catS); wtm_at "r_sd")
  | ((with_reducible apply o_rep0); wtm_at "r_sd"; wtm_at "r_sd")
  | ((with_reducible apply o_repL); wtm_at "r_tv"; wtm_at "r_sd"; wtm_at "r_sd"; wtm_at "r_sd")
  | ((with_reducible apply o_repT); (exact fun z => nomatch z); wtm_at "r_sd"; wtm_at "r_sd"; wtm_at "r_sd")
  | ((with_reducible apply o_eqD); assumption; wtm_at "r_vw"; wtm_at "r_vw"; wtm_at "r_dp")
  | ((with_reducible apply o_neD); assumption; wtm_at "r_vw"; wtm_at "r_vw"; wtm_at "r_dp"))
local macro_rules | `(tactic| wtm_at "r_dp") => `(tactic| first | assumption | (exact dep_l (by wtm_at "r_de")) | (exact dep_r (by wtm_at "r_de")))
local macro_rules | `(tactic| wtm_at "r_de") => `(tactic| first | (exact dep_ints _) | (exact dep_intsL _) | (simp only [PyData.depth, PyData.depthAll, PySem.W.depth_ints]; omega))
local macro_rules | `(tactic| wtm_at "r_ix") => `(tactic| first
  | ((with_reducible apply o_ixTI); wtm_at "r_sd"; wtm_at "r_sd")
  | ((with_reducible apply o_ixT); (exact rfl))
  | ((with_reducible apply o_ixLI); wtm_at "r_lv"; wtm_at "r_sd"; wtm_at "r_sd")
  | ((with_reducible apply o_ixL); wtm_at "r_lv"; (exact rfl))
  | ((with_reducible apply o_ixN); wtm_at "r_sd"; (exact rfl)) | (exact o_ixH 0 rfl rfl) | (exact o_ixH 1 rfl rfl) | (exact o_ixH 2 rfl rfl))
local macro_rules | `(tactic| wtm_at "r_sl") => `(tactic| first | (with_reducible exact o_slTI) | (with_reducible exact o_slT) | ((with_reducible apply o_slLI); wtm_at "r_lv") | ((with_reducible apply o_slL); wtm_at "r_lv") | ((with_reducible apply o_slN); wtm_at "r_sd") | ((with_reducible apply o_slS); wtm_at "r_sd"))
local macro_rules | `(tactic| wtm_at "r_cb") => `(tactic| first
  | (with_reducible exact b_lenTI) | (with_reducible exact b_lenT) | ((with_reducible apply b_len); wtm_at "r_lv") | ((with_reducible apply b_lenN); wtm_at "r_sd") | ((with_reducible apply b_lenS); wtm_at "r_sd")
  | ((with_reducible apply b_sumT); assumption) | ((with_reducible apply b_sum); assumption; wtm_at "r_lv") | ((with_reducible apply b_sumM); assumption; wtm_at "r_lv")
  | ((with_reducible apply b_all); assumption; wtm_at "r_lv") | ((with_reducible apply b_allM); assumption; wtm_at "r_lv") | ((with_reducible apply b_any); assumption; wtm_at "r_lv") | ((with_reducible apply b_anyM); assumption; wtm_at "r_lv")
  | ((with_reducible apply b_tuple); wtm_at "r_lv") | (with_reducible exact b_listT) | ((with_reducible apply b_list); wtm_at "r_lv")
  | ((with_reducible apply b_max2); assumption) | ((with_reducible apply b_min2); assumption)
  | ((with_reducible apply b_maxT); assumption; assumption; wtm_at "r_ne") | ((with_reducible apply b_max); assumption; assumption; wtm_at "r_lv"; wtm_at "r_ne") | ((with_reducible apply b_maxM); assumption; assumption; wtm_at "r_lv"; wtm_at "r_ne")
  | ((with_reducible apply b_minT); assumption; assumption; wtm_at "r_ne") | ((with_reducible apply b_min); assumption; assumption; wtm_at "r_lv"; wtm_at "r_ne") | ((with_reducible apply b_minM); assumption; assumption; wtm_at "r_lv"; wtm_at "r_ne")
  | (with_reducible exact b_intB) | (with_reducible exact b_abs) | ((with_reducible apply b_strI); wtm_at "r_sd"; wtm_at "r_sd") | ((with_reducible apply b_str); wtm_at "r_sd")
  | ((with_reducible apply b_isXM); wtm_at "r_as"; wtm_at "r_as"; (decide)) | ((with_reducible apply b_isXV); wtm_at "r_as"; wtm_at "r_as")
  | ((with_reducible apply b_isBool); wtm_at "r_vw") | ((with_reducible apply b_isInt); wtm_at "r_vw") | ((with_reducible apply b_isTuple); wtm_at "r_vw"))
local macro_rules | `(tactic| wtm_at "r_R") => `(tactic| first | exact ⟨_, rfl, rfl⟩ | exact ⟨_, rfl, by wtm_at "r_sd", rfl⟩ | exact ⟨_, rfl, by wtm_at "r_sd", by wtm_at "r_sd", rfl⟩)
local macro_rules | `(tactic| wtm_at "r_ne") => `(tactic| first | assumption | (exact fun z => nomatch z))
local macro_rules | `(tactic| wtm_at "r_er") => `(tactic| first
  | wtm_at "r_nm"
  | (with_reducible exact er_int) | (with_reducible exact er_str) | (with_reducible exact er_bl) | (with_reducible exact er_non)
  | ((with_reducible show ER _ (.BinOp _ _ _ _) _ _); (with_reducible apply er_bin); wtm_at "r_er"; wtm_at "r_er"; wtm_at "r_op")
  | ((with_reducible show ER _ (.Subscript _ (.Slice _ _ none _) _) _ _); (with_reducible apply er_sl); wtm_at "r_er"; wtm_at "r_eo"; wtm_at "r_eo"; wtm_at "r_sl")
  | ((with_reducible show ER _ (.Subscript _ _ _) _ _); (with_reducible apply er_ix); wtm_at "r_er"; wtm_at "r_er"; wtm_at "r_ix"; (exact fun _ _ => rfl))
  | ((with_reducible show ER _ (.Compare _ [_] _ _) _ _); (with_reducible apply er_cmp); wtm_at "r_er"; wtm_at "r_er"; wtm_at "r_op"; (first | exact nomark _ | rfl))
  | ((with_reducible show ER _ (.Call (.Name _ _) (_ :: _) _ _) _ _); first
    | ((with_reducible apply er_cb); wtm_at "r_as"; wtm_at "r_ea"; wtm_at "r_cb"; (exact rfl); (exact rfl))
    | ((with_reducible apply er_ct); wtm_at "r_as"; wtm_at "r_ea"; wtm_at "r_cb"; (exact rfl); (exact rfl))
    | ((with_reducible apply er_call); wtm_at "r_as"; wtm_at "r_ea"; wtm_at "r_dt"; wtm_at "r_R"; (exact rfl); (exact rfl)))
  | ((with_reducible show ER _ (.Call (.Name _ _) [] _ _) _ _); (with_reducible apply er_call0); wtm_at "r_as"; wtm_at "r_R")
  | ((with_reducible show ER _ (.ListComp _ _ _ _) _ _); (with_reducible apply er_lc); wtm_at "r_lc")
  | ((with_reducible show ER _ (.Tuple _ _ _) _ _); (exact er_litT rfl))
  | ((with_reducible show ER _ (.List _ _) _ _); (exact er_litL rfl (by decide)))
  | ((with_reducible show ER _ (.Tuple _ _ _) _ _); (with_reducible apply er_tup); wtm_at "r_ea"; wtm_at "r_dt"; wtm_at "r_sd")
  | ((with_reducible show ER _ (.List _ _) _ _); (with_reducible apply er_lst); wtm_at "r_ea"; wtm_at "r_dt"; wtm_at "r_sd")
  | ((with_reducible show ER _ (.UnaryOp .USub _ _) _ _); (with_reducible apply er_neg); wtm_at "r_er")
  | ((with_reducible show ER _ (.UnaryOp .Not _ _) _ _); (with_reducible apply er_not); wtm_at "r_er")
  | ((with_reducible show ER _ (.BoolOp .Or (_ :: _ :: _) _) _ _); (with_reducible apply er_or); wtm_at "r_er"; (intro _; wtm_at "r_er"))
  | ((with_reducible show ER _ (.BoolOp .And (_ :: _ :: _) _) _ _); (with_reducible apply er_and); wtm_at "r_er"; (intro _; wtm_at "r_er"))
  | ((with_reducible show ER _ (.BoolOp _ [_] _) _ _); (with_reducible apply er_one); wtm_at "r_er")
  | ((with_reducible show ER _ (.IfExp _ _ _ _) _ _); first
    | ((with_reducible apply er_ifI); wtm_at "r_tr"; (intro _; wtm_at "r_er"); (intro _; wtm_at "r_er"))
    | ((with_reducible apply er_ifD); wtm_at "r_tr"; (intro _; wtm_at "r_er"); (intro _; wtm_at "r_er")))
  | ((with_reducible show ER _ (.Compare _ [_, _] _ _) _ _); (with_reducible apply er_chain); wtm_at "r_er"; wtm_at "r_er"; wtm_at "r_op"; (intro _; wtm_at "r_er"); (intro _; wtm_at "r_op"); (with_unfolding_all rfl)))
local macro_rules | `(tactic| wtm_at "r_eo") => `(tactic| first | (with_reducible exact eo_none) | ((with_reducible apply eo_some); wtm_at "r_er"))
local macro_rules | `(tactic| wtm_at "r_ea") => `(tactic| first
  | (with_reducible exact ea_nil)
  | ((with_reducible apply ea_cons); wtm_at "r_er"; wtm_at "r_ea"; (exact rfl)))
local macro_rules | `(tactic| wtm_at "r_tr") => `(tactic| first
  | ((with_reducible show TR _ (.Compare _ [_] _ _) _ _); (with_reducible apply tr_cmp); wtm_at "r_er"; wtm_at "r_er"; wtm_at "r_op"; (first | exact nomark _ | rfl))
  | ((with_reducible show TR _ (.Compare _ [_, _] _ _) _ _); (with_reducible apply tr_chain); wtm_at "r_er"; wtm_at "r_er"; wtm_at "r_op"; (intro _; wtm_at "r_er"); (intro _; wtm_at "r_op"); (with_unfolding_all rfl))
  | ((with_reducible show TR _ (.BoolOp _ _ _) _ _); (with_reducible apply TW.tr); wtm_at "r_tw")
  | ((with_reducible show TR _ (.UnaryOp .Not _ _) _ _); (with_reducible apply tr_not); wtm_at "r_tr")
  | ((with_reducible apply tr_val); wtm_at "r_er"; wtm_at "r_vw"; (exact rfl); (intro _; rfl)))
local macro_rules | `(tactic| wtm_at "r_tw") => `(tactic| first
  | ((with_reducible show TW _ (.BoolOp .Or [_] _) _ _); (with_reducible apply tw_or1); wtm_at "r_tr")
  | ((with_reducible show TW _ (.BoolOp .And [_] _) _ _); (with_reducible apply tw_and1); wtm_at "r_tr")
  | ((with_reducible show TW _ (.BoolOp .Or (_ :: _ :: _) _) _ _); (with_reducible apply tw_or); wtm_at "r_tr"; (intro _; wtm_at "r_tw"))
  | ((with_reducible show TW _ (.BoolOp .And (_ :: _ :: _) _) _ _); (with_reducible apply tw_and); wtm_at "r_tr"; (intro _; wtm_at "r_tw")))
local macro_rules | `(tactic| wtm_at "s_ret") => `(tactic| ((with_reducible apply ws_ret); (with_reducible apply we_p); wtm_at "r_er"))
local macro_rules | `(tactic| wtm_at "s_set") => `(tactic| ((with_reducible apply ws_set); wtm_at "r_as"; (with_reducible apply we_p); wtm_at "r_er"))
local macro_rules | `(tactic| wtm_at "s_sto") => `(tactic| ((with_reducible apply ws_storeI); wtm_at "r_er"; wtm_at "r_er"; wtm_at "r_er"; first | exact (rfl : _[0]? = _) | exact (rfl : _[1]? = _) | exact (rfl : _[2]? = _)))

def R_all_plays : Rl := fun ds r => ∃ (b : Bo) (a c : Int), ds = [dB b, dP (a, c)] ∧ Bd b ∧ b.1.sum ≤ 15 ∧ isDie a = true ∧ isDie c = true ∧ r = .ok (.d (.list ((allPl b a c).map dWy)))
theorem found_few {b : Bo} {a c : Int} (hb : Bd b) (hs : b.1.sum ≤ 15) (ha : isDie a = true) (hc : isDie c = true) : (foundP b a c).length ≤ 50625 := by
  have := foundP_le (k := 15) (by omega) ha hc hb (by exact_mod_cast hs)
  split at this <;> omega
theorem take_flat {α β : Type} (l : List α) (f : α → List β) (i : Nat) : ((l.take i).flatMap f).length ≤ (l.flatMap f).length := by
  have : l.flatMap f = (l.take i).flatMap f ++ (l.drop i).flatMap f := by rw [← List.flatMap_append, List.take_append_drop]
  rw [this, List.length_append]
  omega
theorem len_dP (p : Ply) : (p.map dP).length = p.length := List.length_map ..
theorem sc_all_plays : FnScope ["board", "roll", "found", "dice", "many", "best", "great", "steps", "end"] ["board", "roll"] (defScope s_all_plays) := ⟨rfl, rfl, rfl, by decide +kernel, rfl, by decide +kernel, by decide +kernel⟩
theorem ok_all_plays {M : Md} {f : Addr} {fd : FuncData} (T : Tx M) (F : FnP M.K "all_plays" s_all_plays f fd) (hm : M.mg "all_plays" = some (.ref f)) (D_dice_of : Df M "dice_of" R_dice_of 1) (D_ways : Df M "ways" (R_ways 5) 8) : Df M "all_plays" R_all_plays 9 := by
  refine fnR F hm (F.bindsN fun _ _ _ _ _ _ us hl => match us, hl with | [_, _], _ => rfl) sc_all_plays ?hlen ?hbody
  case hlen => rintro ds r ⟨_, _, _, rfl, _⟩; rfl
  case hbody =>
    rintro X cf fn A B ds r ⟨b, a, c, rfl, hb, hs, ha, hc', rfl⟩ hx
    have hu := cf.un
    have hc := cf.calm
    have hN := cf.nd
    have n_board := cf.nm (x := "board") 0 rfl (by decide +kernel)
    have n_roll := cf.nm (x := "roll") 1 rfl (by decide +kernel)
    have n_found := cf.nm (x := "found") 2 rfl (by decide +kernel)
    have n_dice := cf.nm (x := "dice") 3 rfl (by decide +kernel)
    have n_many := cf.nm (x := "many") 4 rfl (by decide +kernel)
    have n_best := cf.nm (x := "best") 5 rfl (by decide +kernel)
    have n_great := cf.nm (x := "great") 6 rfl (by decide +kernel)
    have l_found := cf.nl (x := "found") 2 rfl (by decide +kernel) (Or.inl (fn _))
    have l_dice := cf.nl (x := "dice") 3 rfl (by decide +kernel) (Or.inl (fn _))
    have l_many := cf.nl (x := "many") 4 rfl (by decide +kernel) (Or.inl (fn _))
    have l_best := cf.nl (x := "best") 5 rfl (by decide +kernel) (Or.inl (fn _))
    have l_great := cf.nl (x := "great") 6 rfl (by decide +kernel) (Or.inl (fn _))
    have f_dice_of := cf.fc (x := "dice_of") D_dice_of (by first | decide | omega) (by decide +kernel)
    have f_ways := cf.fc (x := "ways") D_ways (by first | decide | omega) (by decide +kernel)
    have b_max := cf.bt (x := "max") (f := .builtin "max") (by decide +kernel) T.b_max (by decide +kernel)
    have rd : R_dice_of [dP (a, c)] (.ok (.d (.list ((diceOf a c).map dT)))) := ⟨a, c, rfl, rfl⟩
    have hF := found_few hb hs ha hc'
    with_unfolding_all apply wb_cons
    refine ws_setC (ds := []) l_found (er_litL rfl (by decide)) (fun a1 => ?_)
    apply wb_cons
    refine ws_forL (ra := .d (.list ((diceOf a c).map dT))) (D := { nx := _, rt := _, bk := _, ct := _ }) hx hc (er_call f_dice_of (by wtm_at "r_ea") (by wtm_at "r_dt") rd rfl rfl) .d (fun i G' => ∃ s3 : Sl, G' = ⟨A, B, [.d (dB b), .d (dP (a, c)), .v (.ref a1), s3, .no, .no, .no, .no, .no], [(a1, .ls ((((diceOf a c).take i).flatMap fun ds => wayL ds b).map dWy))]⟩) ⟨_, rfl⟩ ?_ ?_ (fun _ => rfl)
    · rintro i e G' he ⟨s3, rfl⟩
      rw [List.getElem?_map] at he
      obtain ⟨ds, hds, rfl⟩ := Option.map_eq_some_iff.mp he
      obtain ⟨k1, k2⟩ := dice_ok ha hc' ds (List.mem_of_getElem? hds)
      have rw' : R_ways 5 [dB b, dT ds] (.ok (.f ((wayL ds b).map dWy))) := ⟨b, ds, rfl, by omega, k2, hb, hs, k1, rfl⟩
      have e1 : ((diceOf a c).take (i + 1)).flatMap (fun ds => wayL ds b) = (((diceOf a c).take i).flatMap fun ds => wayL ds b) ++ wayL ds b := by
        rw [take_get hds, List.flatMap_append]; simp
      have l1 := take_flat (diceOf a c) (fun ds => wayL ds b) (i + 1)
      rw [e1, List.length_append] at l1
      have l2 : ((diceOf a c).flatMap fun ds => wayL ds b).length ≤ 50625 := hF
      refine ⟨_, tg_name l_dice, ?_⟩
      apply wb_one
      refine ws_extend (j := 0) (es := (wayL ds b).map dWy) (by wtm_at "r_er") rfl (er_call f_ways (rs := [.d (dB b), .d (dT ds)]) (by wtm_at "r_ea") (.cons .d (.cons .d .nil)) rw' rfl rfl) .f (by rw [sizeLine_eq, List.length_map, List.length_map]; omega) ⟨.d (dT ds), ?_⟩
      rw [e1, List.map_append]
      rfl
    · rintro G' ⟨s3, rfl⟩
      rw [List.length_map, List.take_length, show ((diceOf a c).flatMap fun ds => wayL ds b) = foundP b a c from rfl]
      unfold allPl
      have hne := foundP_ne b a c
      generalize foundP b a c = F at hF hne ⊢
      have hFz : F.length ≤ sizeLine := by rw [sizeLine_eq]; omega
      apply wb_cons
      refine ws_set l_many (we_p (ra := .d (.int (manyOf F))) (er_cb b_max (rs := [.f (F.map fun r => PyData.int (lenR r))]) (ea_cons (er_lc (lcLm dWy F (fun r => .int (lenR r)) [("steps", 7), ("end", 8)] hc hN (cf.bok (by decide +kernel)) (ra := .v (.ref a1)) (by wtm_at "r_er") (.c 0 rfl) hFz (fun _ => rfl) (fun r hr => lcok_2 cf (by decide) rfl (by decide +kernel) rfl (by decide +kernel) Dt.d (fun Y Da acc hY cfY => ?_)))) ea_nil rfl) (b_maxM hc hu .f hne) rfl rfl) ?_)
      · skip
        have hu := cfY.un
        have hc := cfY.calm
        have hN := cfY.nd
        have n_steps := cfY.nm (x := "steps") 7 rfl (by decide +kernel)
        have b_len := cfY.bt (x := "len") (f := .builtin "len") (by decide +kernel) T.b_len (by decide +kernel)
        exact er_eq (r := .d (.int ((r.1.map dP).length : Nat))) (by wtm_at "r_er") (by rw [len_dP]; rfl)
      · apply wb_cons
        refine ws_setLc l_best.n (loc1_of (by rw [cf.sc]; decide +kernel)) (by rw [cf.sc]; rfl) rfl (by decide +kernel) (ds := (bestOf F).map dWy) (lcLf dWy F (fun r => decide (lenR r = manyOf F)) dWy [("steps", 7), ("end", 8)] hc hN (cf.bok (by decide +kernel)) (ra := .v (.ref a1)) (by wtm_at "r_er") (.c 0 rfl) hFz (fun _ => rfl) (fun r hr => lcok_2t cf (by decide) rfl (by decide +kernel) rfl (by decide +kernel) Dt.d (fun Y Da acc hY cfY => ?_))) ?_
        · skip
          have hu := cfY.un
          have hc := cfY.calm
          have hN := cfY.nd
          have n_steps := cfY.nm (x := "steps") 7 rfl (by decide +kernel)
          have n_end := cfY.nm (x := "end") 8 rfl (by decide +kernel)
          have n_many := cfY.nm (x := "many") 4 rfl (by decide +kernel)
          have b_len := cfY.bt (x := "len") (f := .builtin "len") (by decide +kernel) T.b_len (by decide +kernel)
          have el : (((r.1.map dP).length : Nat) : Int) = lenR r := by rw [len_dP]; rfl
          constructor
          · rw [← el]; wtm_at "r_tr"
          · intro _; wtm_at "r_er"
        · have hBz : (bestOf F).length ≤ sizeLine := Nat.le_trans (List.length_filter_le _ _) hFz
          have hone : manyOf F = 1 → ∀ r ∈ bestOf F, ∃ s, r.1 = [s] := fun h1 r hr => by
            have := manyOf_len hr
            rw [h1] at this
            unfold lenR at this
            match hq : r.1, this with
            | [s], _ => exact ⟨s, rfl⟩
            | [], z => simp at z
            | _ :: _ :: _, z => simp at z; omega
          refine wb_cut (fun G1 => ∃ s6 : Sl, G1 = ⟨A, B, [.d (dB b), .d (dP (a, c)), .v (.ref a1), s3, .d (.int (manyOf F)), .l ((if decide (manyOf F = 1) && !decide (a = c) then (if greatOf (max a c) (bestOf F) = [] then bestOf F else greatOf (max a c) (bestOf F)) else bestOf F).map dWy), s6, .no, .no], [(a1, .ls (F.map dWy))]⟩) ?_ ?_
          · refine ws_if (k := decide (manyOf F = 1) && !decide (a = c)) (by wtm_at "r_tr") (fun h => ?_) (fun h => ?_)
            · have h1 : manyOf F = 1 := by
                have := (Bool.and_eq_true_iff.mp h).1
                exact of_decide_eq_true this
              rw [h, if_pos rfl]
              apply wb_cons
              refine ws_setLc l_great.n (loc1_of (by rw [cf.sc]; decide +kernel)) (by rw [cf.sc]; rfl) rfl (by decide +kernel) (ds := (greatOf (max a c) (bestOf F)).map dWy) (lcLf dWy (bestOf F) (fun r => decide (dieOf r = max a c)) dWy [("steps", 7), ("end", 8)] hc hN (cf.bok (by decide +kernel)) (ra := .l ((bestOf F).map dWy)) (by wtm_at "r_er") .l hBz (fun _ => rfl) (fun r hr => lcok_2t cf (by decide) rfl (by decide +kernel) rfl (by decide +kernel) Dt.d (fun Y Da acc hY cfY => ?_))) ?_
              · skip
                have hu := cfY.un
                have hc := cfY.calm
                have hN := cfY.nd
                have n_steps := cfY.nm (x := "steps") 7 rfl (by decide +kernel)
                have n_end := cfY.nm (x := "end") 8 rfl (by decide +kernel)
                have n_roll := cfY.nm (x := "roll") 1 rfl (by decide +kernel)
                have b_max := cfY.bt (x := "max") (f := .builtin "max") (by decide +kernel) T.b_max (by decide +kernel)
                obtain ⟨s, hs1⟩ := hone h1 r hr
                have ed : dieOf r = s.2 := by unfold dieOf; rw [hs1]
                have ep : dPl r.1 = .tuple [.tuple [.int s.1, .int s.2]] := by rw [hs1]; rfl
                rw [ed]
                constructor
                · refine tr_cmp (ra := .d (.int s.2)) (rb := .d (.int (max a c))) (er_ix (ra := .d (.tuple [.int s.1, .int s.2])) (er_ix (ra := .d (.tuple [.tuple [.int s.1, .int s.2]])) (er_eq (r := .d (dPl r.1)) (by wtm_at "r_er") (by rw [ep])) er_int (o_ixT rfl) (fun _ _ => rfl)) er_int (o_ixT rfl) (fun _ _ => rfl)) (er_cb b_max (rs := [.d (dT [a, c])]) (ea_cons (by wtm_at "r_er") ea_nil rfl) (b_maxT hc hu (fun z => nomatch z)) rfl rfl) o_eqI (nomark _)
                · intro _; wtm_at "r_er"
              · apply wb_one
                cases q : greatOf (max a c) (bestOf F) with
                | nil =>
                  refine ws_set l_best (we_if (k := false) (tr_val (ra := .l []) (d := .list []) (by wtm_at "r_er") .l rfl (fun _ => rfl)) (fun z => nomatch z) (fun _ => we_p (ra := .l ((bestOf F).map dWy)) (by wtm_at "r_er") ⟨.l [], ?_⟩))
                  rw [if_pos rfl]; rfl
                | cons r l =>
                  refine ws_set l_best (we_if (k := true) (tr_val (ra := .l ((r :: l).map dWy)) (d := .list ((r :: l).map dWy)) (by wtm_at "r_er") .l rfl (fun _ => rfl)) (fun _ => we_p (ra := .l ((r :: l).map dWy)) (by wtm_at "r_er") ⟨.l ((r :: l).map dWy), ?_⟩) (fun z => nomatch z))
                  rw [if_neg (fun z => nomatch z)]; rfl
            · rw [h]
              apply wb_nil
              exact ⟨_, rfl⟩
          · rintro G1 ⟨s6, rfl⟩
            apply wb_one
            exact ws_ret (we_p (by wtm_at "r_er") ⟨rfl, rfl, _, rfl, .ld⟩)
end Rd

namespace Rd
open PySem PySem.Spec PyProof.Rows L2 TL
local macro_rules | `(tactic| wtm_at "r_sd") => `(tactic| first | assumption | omega | decide | (simp only [List.length_cons, List.length_nil, List.length_append, List.length_map, List.length_replicate, List.length_set, sizeLine_eq]; omega) | (simp; omega))
local macro_rules | `(tactic| wtm_at "r_as") => `(tactic| (with_reducible assumption))
local macro_rules | `(tactic| wtm_at "r_nm") => `(tactic| ((with_reducible show ER _ (.Name _ _) _ _); first
  | ((with_reducible apply er_name); wtm_at "r_as"; exact rfl)
  | ((with_reducible apply er_nameL); wtm_at "r_as"; exact rfl)
  | ((with_reducible apply er_nameV); wtm_at "r_as"; exact rfl)
  | ((with_reducible apply er_nameX); wtm_at "r_as"; exact rfl)
  | ((with_reducible apply er_gcI); wtm_at "r_as")
  | ((with_reducible apply er_gcS); wtm_at "r_as")
  | ((with_reducible apply Bt.ty); wtm_at "r_as")
  | ((with_reducible apply er_gcV); wtm_at "r_as")
  | ((with_reducible apply Ec.er); wtm_at "r_as")))
local macro_rules | `(tactic| wtm_at "r_lv") => `(tactic| first | (with_reducible exact Lv.d) | (with_reducible exact Lv.f) | (with_reducible exact Lv.l) | exact Lv.c 0 rfl | exact Lv.c 1 rfl | exact Lv.c 2 rfl)
local macro_rules | `(tactic| wtm_at "r_tv") => `(tactic| first | (with_reducible exact Tv.f) | (with_reducible exact Tv.l) | exact Tv.c 0 rfl | exact Tv.c 1 rfl | exact Tv.c 2 rfl)
local macro_rules | `(tactic| wtm_at "r_vw") => `(tactic| first | (with_reducible exact Vw.d) | (with_reducible exact Vw.f) | (with_reducible exact Vw.l) | exact Vw.c 0 rfl | exact Vw.c 1 rfl | exact Vw.c 2 rfl)
local macro_rules | `(tactic| wtm_at "r_dt") => `(tactic| first | (with_reducible exact DtL.nil) | ((with_reducible apply DtL.cons); (first | (with_reducible exact Dt.d) | (with_reducible exact Dt.f) | (with_reducible exact Dt.l)); wtm_at "r_dt"))
local macro_rules | `(tactic| wtm_at "r_op") => `(tactic| first
  | (with_reducible exact o_add) | (with_reducible exact o_sub) | (with_reducible exact o_lt) | (with_reducible exact o_le) | (with_reducible exact o_gt) | (with_reducible exact o_ge)
  | (with_reducible exact o_eqI) | (with_reducible exact o_neI) | (with_reducible exact o_eqN) | (with_reducible exact o_neN) | (with_reducible exact o_inN) | (with_reducible exact o_notInN) | (with_reducible exact o_eqS) | (with_reducible exact o_neS)
  | ((with_reducible apply o_mod); wtm_at "r_sd")
  | ((with_reducible apply o_div); (first | exact ⟨by decide, by decide⟩ | exact ⟨by omega, by omega⟩))
  | ((with_reducible apply o_isN); (exact fun z => nomatch z); (first | exact fun _ z => nomatch z | exact fun y z => ⟨_, (Sl.v.inj z).symm⟩))
  | ((with_reducible apply o_notN); (exact fun z => nomatch z); (first | exact fun _ z => nomatch z | exact fun y z => ⟨_, (Sl.v.inj z).symm⟩))
  | ((with_reducible apply o_mul); (first | exact Or.inl ⟨by omega, by omega⟩ | exact Or.inr ⟨by omega, by omega⟩))
  | ((with_reducible apply o_inI); wtm_at "r_lv")
  | ((with_reducible apply o_catTI); wtm_at "r_sd")
  | ((with_reducible apply o_catT); wtm_at "r_sd")
  | ((with_reducible apply o_catLI); wtm_at "r_tv"; wtm_at "r_tv"; wtm_at "r_sd")
  | ((with_reducible apply o_catL); wtm_at "r_tv"; wtm_at "r_tv"; wtm_at "r_sd")
  | ((with_reducible apply o_catN); wtm_at "r_sd")
  | ((with_reducible apply o_catS); wtm_at "r_sd")
  | ((with_reducible apply o_rep0); wtm_at "r_sd"; wtm_at "r_sd")
  | ((with_reducible apply o_repL); wtm_at "r_tv"; wtm_at "r_sd"; wtm_at "r_sd"; wtm_at "r_sd")
  | ((with_reducible apply o_repT); (exact fun z => nomatch z); wtm_at "r_sd"; wtm_at "r_sd"; wtm_at "r_sd")
  | ((with_reducible apply o_eqD); assumption; wtm_at "r_vw"; wtm_at "r_vw"; wtm_at "r_dp")
  | ((with_reducible apply o_neD); assumption; wtm_at "r_vw"; wtm_at "r_vw"; wtm_at "r_dp"))
local macro_rules | `(tactic| wtm_at "r_dp") => `(tactic| first | assumption | (exact dep_l (by wtm_at "r_de")) | (exact dep_r (by wtm_at "r_de")))
local macro_rules | `(tactic| wtm_at "r_de") => `(tactic| first | (exact dep_ints _) | (exact dep_intsL _) | (simp only [PyData.depth, PyData.depthAll, PySem.W.depth_ints]; omega))
local macro_rules | `(tactic| wtm_at "r_ix") => `(tactic| first
  | ((with_reducible apply o_ixTI); wtm_at "r_sd"; wtm_at "r_sd")
  | ((with_reducible apply o_ixT); (exact rfl))
  | ((with_reducible apply o_ixLI); wtm_at "r_lv"; wtm_at "r_sd"; wtm_at "r_sd")
  | ((with_reducible apply o_ixL); wtm_at "r_lv"; (exact rfl))
  | ((with_reducible apply o_ixN); wtm_at "r_sd"; (exact rfl)) | (exact o_ixH 0 rfl rfl) | (exact o_ixH 1 rfl rfl) | (exact o_ixH 2 rfl rfl))
local macro_rules | `(tactic| wtm_at "r_sl") => `(tactic| first | (with_reducible exact o_slTI) | (with_reducible exact o_slT) | ((with_reducible apply o_slLI); wtm_at "r_lv") | ((with_reducible apply o_slL); wtm_at "r_lv") | ((with_reducible apply o_slN); wtm_at "r_sd") | ((with_reducible apply o_slS); wtm_at "r_sd"))
local macro_rules | `(tactic| wtm_at "r_cb") => `(tactic| first
  | (with_reducible exact b_lenTI) | (with_reducible exact b_lenT) | ((with_reducible apply b_len); wtm_at "r_lv") | ((with_reducible apply b_lenN); wtm_at "r_sd") | ((with_reducible apply b_lenS); wtm_at "r_sd")
  | ((with_reducible apply b_sumT); assumption) | ((with_reducible apply b_sum); assumption; wtm_at "r_lv") | ((with_reducible apply b_sumM); assumption; wtm_at "r_lv")
  | ((with_reducible apply b_all); assumption; wtm_at "r_lv") | ((with_reducible apply b_allM); assumption; wtm_at "r_lv") | ((with_reducible apply b_any); assumption; wtm_at "r_lv") | ((with_reducible apply b_anyM); assumption; wtm_at "r_lv")
  | ((with_reducible apply b_tuple); wtm_at "r_lv") | (with_reducible exact b_listT) | ((with_reducible apply b_list); wtm_at "r_lv")
  | ((with_reducible apply b_max2); assumption) | ((with_reducible apply b_min2); assumption)
  | ((with_reducible apply b_maxT); assumption; assumption; wtm_at "r_ne") | ((with_reducible apply b_max); assumption; assumption; wtm_at "r_lv"; wtm_at "r_ne") | ((with_reducible apply b_maxM); assumption; assumption; wtm_at "r_lv"; wtm_at "r_ne")
  | ((with_reducible apply b_minT); assumption; assumption; wtm_at "r_ne") | ((with_reducible apply b_min); assumption; assumption; wtm_at "r_lv"; wtm_at "r_ne") | ((with_reducible apply b_minM); assumption; assumption; wtm_at "r_lv"; wtm_at "r_ne")
  | (with_reducible exact b_intB) | (with_reducible exact b_abs) | ((with_reducible apply b_strI); wtm_at "r_sd"; wtm_at "r_sd") | ((with_reducible apply b_str); wtm_at "r_sd")
  | ((with_reducible apply b_isXM); wtm_at "r_as"; wtm_at "r_as"; (decide)) | ((with_reducible apply b_isXV); wtm_at "r_as"; wtm_at "r_as")
  | ((with_reducible apply b_isBool); wtm_at "r_vw") | ((with_reducible apply b_isInt); wtm_at "r_vw") | ((with_reducible apply b_isTuple); wtm_at "r_vw"))
local macro_rules | `(tactic| wtm_at "r_R") => `(tactic| first | exact ⟨_, rfl, rfl⟩ | exact ⟨_, rfl, by wtm_at "r_sd", rfl⟩ | exact ⟨_, rfl, by wtm_at "r_sd", by wtm_at "r_sd", rfl⟩)
local macro_rules | `(tactic| wtm_at "r_ne") => `(tactic| first | assumption | (exact fun z => nomatch z))
local macro_rules | `(tactic| wtm_at "r_er") => `(tactic| first
  | wtm_at "r_nm"
  | (with_reducible exact er_int) | (with_reducible exact er_str) | (with_reducible exact er_bl) | (with_reducible exact er_non)
  | ((with_reducible show ER _ (.BinOp _ _ _ _) _ _); (with_reducible apply er_bin); wtm_at "r_er"; wtm_at "r_er"; wtm_at "r_op")
  | ((with_reducible show ER _ (.Subscript _ (.Slice _ _ none _) _) _ _); (with_reducible apply er_sl); wtm_at "r_er"; wtm_at "r_eo"; wtm_at "r_eo"; wtm_at "r_sl")
  | ((with_reducible show ER _ (.Subscript _ _ _) _ _); (with_reducible apply er_ix); wtm_at "r_er"; wtm_at "r_er"; wtm_at "r_ix"; (exact fun _ _ => rfl))
  | ((with_reducible show ER _ (.Compare _ [_] _ _) _ _); (with_reducible apply er_cmp); wtm_at "r_er"; wtm_at "r_er"; wtm_at "r_op"; (first | exact nomark _ | rfl))
  | ((with_reducible show ER _ (.Call (.Name _ _) (_ :: _) _ _) _ _); first
    | ((with_reducible apply er_cb); wtm_at "r_as"; wtm_at "r_ea"; wtm_at "r_cb"; (exact rfl); (exact rfl))
    | ((with_reducible apply er_ct); wtm_at "r_as"; wtm_at "r_ea"; wtm_at "r_cb"; (exact rfl); (exact rfl))
    | ((with_reducible apply er_call); wtm_at "r_as"; wtm_at "r_ea"; wtm_at "r_dt"; wtm_at "r_R"; (exact rfl); (exact rfl)))
  | ((with_reducible show ER _ (.Call (.Name _ _) [] _ _) _ _); (with_reducible apply er_call0); wtm_at "r_as"; wtm_at "r_R")
  | ((with_reducible show ER _ (.ListComp _ _ _ _) _ _); (with_reducible apply er_lc); wtm_at "r_lc")
  | ((with_reducible show ER _ (.Tuple _ _ _) _ _); (exact er_litT rfl))
  | ((with_reducible show ER _ (.List _ _) _ _); (exact er_litL rfl (by decide)))
  | ((with_reducible show ER _ (.Tuple _ _ _) _ _); (with_reducible apply er_tup); wtm_at "r_ea"; wtm_at "r_dt"; wtm_at "r_sd")
  | ((with_reducible show ER _ (.List _ _) _ _); (with_reducible apply er_lst); wtm_at "r_ea"; wtm_at "r_dt"; wtm_at "r_sd")
  | ((with_reducible show ER _ (.UnaryOp .USub _ _) _ _); (with_reducible apply er_neg); wtm_at "r_er")
  | ((with_reducible show ER _ (.UnaryOp .Not _ _) _ _); (with_reducible apply er_not); wtm_at "r_er")
  | ((with_reducible show ER _ (.BoolOp .Or (_ :: _ :: _) _) _ _); (with_reducible apply er_or); wtm_at "r_er"; (intro _; wtm_at "r_er"))
  | ((with_reducible show ER _ (.BoolOp .And (_ :: _ :: _) _) _ _); (with_reducible apply er_and); wtm_at "r_er"; (intro _; wtm_at "r_er"))
  | ((with_reducible show ER _ (.BoolOp _ [_] _) _ _); (with_reducible apply er_one); wtm_at "r_er")
  | ((with_reducible show ER _ (.IfExp _ _ _ _) _ _); first
    | ((with_reducible apply er_ifI); wtm_at "r_tr"; (intro _; wtm_at "r_er"); (intro _; wtm_at "r_er"))
    | ((with_reducible apply er_ifD); wtm_at "r_tr"; (intro _; wtm_at "r_er"); (intro _; wtm_at "r_er")))
  | ((with_reducible show ER _ (.Compare _ [_, _] _ _) _ _); (with_reducible apply er_chain); wtm_at "r_er"; wtm_at "r_er"; wtm_at "r_op"; (intro _; wtm_at "r_er"); (intro _; wtm_at "r_op"); (with_unfolding_all rfl)))
local macro_rules | `(tactic| wtm_at "r_eo") => `(tactic| first | (with_reducible exact eo_none) | ((with_reducible apply eo_some); wtm_at "r_er"))
local macro_rules | `(tactic| wtm_at "r_ea") => `(tactic| first
  | (with_reducible exact ea_nil)
  | ((with_reducible apply ea_cons); wtm_at "r_er"; wtm_at "r_ea"; (exact rfl)))
local macro_rules | `(tactic| wtm_at "r_tr") => `(tactic| first
  | ((with_reducible show TR _ (.Compare _ [_] _ _) _ _); (with_reducible apply tr_cmp); wtm_at "r_er"; wtm_at "r_er"; wtm_at "r_op"; (first | exact nomark _ | rfl))
  | ((with_reducible show TR _ (.Compare _ [_, _] _ _) _ _); (with_reducible apply tr_chain); wtm_at "r_er"; wtm_at "r_er"; wtm_at "r_op"; (intro _; wtm_at "r_er"); (intro _; wtm_at "r_op"); (with_unfolding_all rfl))
  | ((with_reducible show TR _ (.BoolOp _ _ _) _ _); (with_reducible apply TW.tr); wtm_at "r_tw")
  | ((with_reducible show TR _ (.UnaryOp .Not _ _) _ _); (with_reducible apply tr_not); wtm_at "r_tr")
  | ((with_reducible apply tr_val); wtm_at "r_er"; wtm_at "r_vw"; (exact rfl); (intro _; rfl)))
local macro_rules | `(tactic| wtm_at "r_tw") => `(tactic| first
  | ((with_reducible show TW _ (.BoolOp .Or [_] _) _ _); (with_reducible apply tw_or1); wtm_at "r_tr")
  | ((with_reducible show TW _ (.BoolOp .And [_] _) _ _); (with_reducible apply tw_and1); wtm_at "r_tr")
  | ((with_reducible show TW _ (.BoolOp .Or (_ :: _ :: _) _) _ _); (with_reducible apply tw_or); wtm_at "r_tr"; (intro _; wtm_at "r_tw"))
  | ((with_reducible show TW _ (.BoolOp .And (_ :: _ :: _) _) _ _); (with_reducible apply tw_and); wtm_at "r_tr"; (intro _; wtm_at "r_tw")))
local macro_rules | `(tactic| wtm_at "s_ret") => `(tactic| ((with_reducible apply ws_ret); (with_reducible apply we_p); wtm_at "r_er"))
local macro_rules | `(tactic| wtm_at "s_set") => `(tactic| ((with_reducible apply ws_set); wtm_at "r_as"; (with_reducible apply we_p); wtm_at "r_er"))
local macro_rules | `(tactic| wtm_at "s_sto") => `(tactic| ((with_reducible apply ws_storeI); wtm_at "r_er"; wtm_at "r_er"; wtm_at "r_er"; first | exact (rfl : _[0]? = _) | exact (rfl : _[1]? = _) | exact (rfl : _[2]? = _)))

noncomputable def playsOf (b : Bo) (a c : Int) : List PyData := sortSet ((allPl b a c).map fun r => dPl r.1)
/-- few plays, where there are any -/
def Few (b : Bo) (a c : Int) : Prop := isBoard b = true → isDie a = true → isDie c = true → (allPl b a c).length < 2000
def R_plays (M : Md) : Rl := fun ds r => ∃ (b : Bo) (a c : Int), ds = [dB b, dP (a, c)] ∧ b.1.length ≤ 1000 ∧ b.2.length ≤ 1000 ∧ Few b a c ∧ r = if isBoard b then (if isDie a && isDie c then .ok (.d (.list (playsOf b a c))) else .error (cE M "BadRoll")) else .error (cE M "BadBoard")
/-- what the set of plays wants -/
theorem plays_set (b : Bo) (a c : Int) : (∀ d ∈ (allPl b a c).map (fun r => dPl r.1), KD d) ∧ PySem.W.AllAlike ((allPl b a c).map fun r => dPl r.1) ∧ ((∀ d ∈ (allPl b a c).map (fun r => dPl r.1), ∃ x r, d = .tuple (x :: r)) ∨ (∀ d ∈ (allPl b a c).map (fun r => dPl r.1), ∀ d' ∈ (allPl b a c).map (fun r => dPl r.1), d = d')) := by
  refine ⟨fun d hd => ?_, fun d hd d' hd' => ?_, ?_⟩
  · obtain ⟨r, _, rfl⟩ := List.mem_map.mp hd; exact kd_pl _
  · obtain ⟨r, _, rfl⟩ := List.mem_map.mp hd
    obtain ⟨r', _, rfl⟩ := List.mem_map.mp hd'
    exact alike_pl _ _
  · by_cases h0 : manyOf (foundP b a c) = 0
    · right
      intro d hd d' hd'
      obtain ⟨r, hr, rfl⟩ := List.mem_map.mp hd
      obtain ⟨r', hr', rfl⟩ := List.mem_map.mp hd'
      have z : ∀ x ∈ allPl b a c, x.1 = [] := fun x hx => by
        have := allPl_len hx
        rw [h0, lenR] at this
        exact List.length_eq_zero_iff.mp (by omega)
      simp only [z r hr, z r' hr']
    · left
      intro d hd
      obtain ⟨r, hr, rfl⟩ := List.mem_map.mp hd
      have := allPl_len hr
      cases q : r.1 with
      | nil => exact absurd (by rw [← this, lenR, q]; rfl) h0
      | cons s l => exact ⟨dP s, l.map dP, rfl⟩
theorem sc_plays : FnScope ["board", "roll", "steps", "end"] ["board", "roll"] (defScope s_plays) := ⟨rfl, rfl, rfl, by decide +kernel, rfl, by decide +kernel, by decide +kernel⟩
theorem ok_plays {M : Md} {f : Addr} {fd : FuncData} (T : Tx M) (F : FnP M.K "plays" s_plays f fd) (hm : M.mg "plays" = some (.ref f)) (D_look_board : Df M "look_board" (R_look M) 2) (D_look_roll : Df M "look_roll" (R_look_roll M) 2) (D_all_plays : Df M "all_plays" R_all_plays 9) : Df M "plays" (R_plays M) 10 := by
  refine fnR F hm (F.bindsN fun _ _ _ _ _ _ us hl => match us, hl with | [_, _], _ => rfl) sc_plays ?hlen ?hbody
  case hlen => rintro ds r ⟨_, _, _, rfl, _⟩; rfl
  case hbody =>
    rintro X cf fn A B ds r ⟨b, a, c, rfl, hl1, hl2, hfew, rfl⟩ hx
    have hu := cf.un
    have hc := cf.calm
    have hN := cf.nd
    have n_board := cf.nm (x := "board") 0 rfl (by decide +kernel)
    have n_roll := cf.nm (x := "roll") 1 rfl (by decide +kernel)
    have f_look_board := cf.fc (x := "look_board") D_look_board (by first | decide | omega) (by decide +kernel)
    have f_look_roll := cf.fc (x := "look_roll") D_look_roll (by first | decide | omega) (by decide +kernel)
    have b_sorted := cf.bt (x := "sorted") (f := .builtin "sorted") (by decide +kernel) T.b_sorted (by decide +kernel)
    have b_set := cf.bt (x := "set") (f := .type "set") (by decide +kernel) T.b_set (by decide +kernel)
    have f_all_plays := cf.fc (x := "all_plays") D_all_plays (by first | decide | omega) (by decide +kernel)
    with_unfolding_all apply wb_cons
    refine ws_expr (we_look (b := b) hx f_look_board (by wtm_at "r_ea") hl1 hl2 (fun h => ?_) (fun h => ⟨by rw [h]; rfl, rfl, rfl⟩))
    have iB := isBoard_iff.mp h
    apply wb_cons
    refine ws_expr (we_roll (a := a) (c := c) hx f_look_roll (by wtm_at "r_ea") (fun ha hc' => ?_) (fun hd => ⟨by rw [h, hd]; rfl, rfl, rfl⟩))
    have rp : R_all_plays [dB b, dP (a, c)] (.ok (.d (.list ((allPl b a c).map dWy)))) := ⟨b, a, c, rfl, iB.bd, iB.hi, ha, hc', rfl⟩
    have hl := hfew h ha hc'
    obtain ⟨k1, k2, k3⟩ := plays_set b a c
    apply wb_one
    refine ws_ret (we_p (ra := .f (playsOf b a c)) (er_sortSet hc hu b_set b_sorted (ra := .f ((allPl b a c).map fun r => dPl r.1)) (er_lc (lcLm dWy (allPl b a c) (fun r => dPl r.1) [("steps", 2), ("end", 3)] hc hN (cf.bok (by decide +kernel)) (ra := .d (.list ((allPl b a c).map dWy))) (er_call f_all_plays (by wtm_at "r_ea") (by wtm_at "r_dt") rp rfl rfl) .d (by rw [sizeLine_eq]; omega) (fun _ => rfl) (fun r hr => lcok_2 cf (by decide) rfl (by decide +kernel) rfl (by decide +kernel) Dt.d (fun Y Da acc hY cfY => ?_)))) .f k1 k2 k3 (by rw [List.length_map]; exact hl) rfl rfl rfl rfl) ⟨rfl, rfl, _, by rw [h, ha, hc']; rfl, .fd⟩)
    have hu := cfY.un
    have hc := cfY.calm
    have hN := cfY.nd
    have n_steps := cfY.nm (x := "steps") 2 rfl (by decide +kernel)
    wtm_at "r_er"
end Rd

namespace Rd
open PySem PySem.Spec PyProof.Rows L2 TL
local macro_rules | `(tactic| wtm_at "r_sd") => `(tactic| first | assumption | omega | decide | (simp only [List.length_cons, List.length_nil, List.length_append, List.length_map, List.length_replicate, List.length_set, sizeLine_eq]; omega) | (simp; omega))
local macro_rules | `(tactic| wtm_at "r_as") => `(tactic| (with_reducible assumption))
local macro_rules | `(tactic| wtm_at "r_nm") => `(tactic| ((with_reducible show ER _ (.Name _ _) _ _); first
  | ((with_reducible apply er_name); wtm_at "r_as"; exact rfl)
  | ((with_reducible apply er_nameL); wtm_at "r_as"; exact rfl)
  | ((with_reducible apply er_nameV); wtm_at "r_as"; exact rfl)
  | ((with_reducible apply er_nameX); wtm_at "r_as"; exact rfl)
  | ((with_reducible apply er_gcI); wtm_at "r_as")
  | ((with_reducible apply er_gcS); wtm_at "r_as")
  | ((with_reducible apply Bt.ty); wtm_at "r_as")
  | ((with_reducible apply er_gcV); wtm_at "r_as")
  | ((with_reducible apply Ec.er); wtm_at "r_as")))
local macro_rules | `(tactic| wtm_at "r_lv") => `(tactic| first | (with_reducible exact Lv.d) | (with_reducible exact Lv.f) | (with_reducible exact Lv.l) | exact Lv.c 0 rfl | exact Lv.c 1 rfl | exact Lv.c 2 rfl)
local macro_rules | `(tactic| wtm_at "r_tv") => `(tactic| first | (with_reducible exact Tv.f) | (with_reducible exact Tv.l) | exact Tv.c 0 rfl | exact Tv.c 1 rfl | exact Tv.c 2 rfl)
local macro_rules | `(tactic| wtm_at "r_vw") => `(tactic| first | (with_reducible exact Vw.d) | (with_reducible exact Vw.f) | (with_reducible exact Vw.l) | exact Vw.c 0 rfl | exact Vw.c 1 rfl | exact Vw.c 2 rfl)
local macro_rules | `(tactic| wtm_at "r_dt") => `(tactic| first | (with_reducible exact DtL.nil) | ((with_reducible apply DtL.cons); (first | (with_reducible exact Dt.d) | (with_reducible exact Dt.f) | (with_reducible exact Dt.l)); wtm_at "r_dt"))
local macro_rules | `(tactic| wtm_at "r_op") => `(tactic| first
  | (with_reducible exact o_add) | (with_reducible exact o_sub) | (with_reducible exact o_lt) | (with_reducible exact o_le) | (with_reducible exact o_gt) | (with_reducible exact o_ge)
  | (with_reducible exact o_eqI) | (with_reducible exact o_neI) | (with_reducible exact o_eqN) | (with_reducible exact o_neN) | (with_reducible exact o_inN) | (with_reducible exact o_notInN) | (with_reducible exact o_eqS) | (with_reducible exact o_neS)
  | ((with_reducible apply o_mod); wtm_at "r_sd")
  | ((with_reducible apply o_div); (first | exact ⟨by decide, by decide⟩ | exact ⟨by omega, by omega⟩))
  | ((with_reducible apply o_isN); (exact fun z => nomatch z); (first | exact fun _ z => nomatch z | exact fun y z => ⟨_, (Sl.v.inj z).symm⟩))
  | ((with_reducible apply o_notN); (exact fun z => nomatch z); (first | exact fun _ z => nomatch z | exact fun y z => ⟨_, (Sl.v.inj z).symm⟩))
  | ((with_reducible apply o_mul); (first | exact Or.inl ⟨by omega, by omega⟩ | exact Or.inr ⟨by omega, by omega⟩))
  | ((with_reducible apply o_inI); wtm_at "r_lv")
  | ((with_reducible apply o_catTI); wtm_at "r_sd")
  | ((with_reducible apply o_catT); wtm_at "r_sd")
  | ((with_reducible apply o_catLI); wtm_at "r_tv"; wtm_at "r_tv"; wtm_at "r_sd")
  | ((with_reducible apply o_catL); wtm_at "r_tv"; wtm_at "r_tv"; wtm_at "r_sd")
  | ((with_reducible apply o_catN); wtm_at "r_sd")
  | ((with_reducible apply o_catS); wtm_at "r_sd")
  | ((with_reducible apply o_rep0); wtm_at "r_sd"; wtm_at "r_sd")
  | ((with_reducible apply o_repL); wtm_at "r_tv"; wtm_at "r_sd"; wtm_at "r_sd"; wtm_at "r_sd")
  | ((with_reducible apply o_repT); (exact fun z => nomatch z); wtm_at "r_sd"; wtm_at "r_sd"; wtm_at "r_sd")
  | ((with_reducible apply o_eqD); assumption; wtm_at "r_vw"; wtm_at "r_vw"; wtm_at "r_dp")
  | ((with_reducible apply o_neD); assumption; wtm_at "r_vw"; wtm_at "r_vw"; wtm_at "r_dp"))
local macro_rules | `(tactic| wtm_at "r_dp") => `(tactic| first | assumption | (exact dep_l (by wtm_at "r_de")) | (exact dep_r (by wtm_at "r_de")))
local macro_rules | `(tactic| wtm_at "r_de") => `(tactic| first | (exact dep_ints _) | (exact dep_intsL _) | (simp only [PyData.depth, PyData.depthAll, PySem.W.depth_ints]; omega))
local macro_rules | `(tactic| wtm_at "r_ix") => `(tactic| first
  | ((with_reducible apply o_ixTI); wtm_at "r_sd"; wtm_at "r_sd")
  | ((with_reducible apply o_ixT); (exact rfl))
  | ((with_reducible apply o_ixLI); wtm_at "r_lv"; wtm_at "r_sd"; wtm_at "r_sd")
  | ((with_reducible apply o_ixL); wtm_at "r_lv"; (exact rfl))
  | ((with_reducible apply o_ixN); wtm_at "r_sd"; (exact rfl)) | (exact o_ixH 0 rfl rfl) | (exact o_ixH 1 rfl rfl) | (exact o_ixH 2 rfl rfl))
local macro_rules | `(tactic| wtm_at "r_sl") => `(tactic| first | (with_reducible exact o_slTI) | (with_reducible exact o_slT) | ((with_reducible apply o_slLI); wtm_at "r_lv") | ((with_reducible apply o_slL); wtm_at "r_lv") | ((with_reducible apply o_slN); wtm_at "r_sd") | ((with_reducible apply o_slS); wtm_at "r_sd"))
local macro_rules | `(tactic| wtm_at "r_cb") => `(tactic| first
  | (with_reducible exact b_lenTI) | (with_reducible exact b_lenT) | ((with_reducible apply b_len); wtm_at "r_lv") | ((with_reducible apply b_lenN); wtm_at "r_sd") | ((with_reducible apply b_lenS); wtm_at "r_sd")
  | ((with_reducible apply b_sumT); assumption) | ((with_reducible apply b_sum); assumption; wtm_at "r_lv") | ((with_reducible apply b_sumM); assumption; wtm_at "r_lv")
  | ((with_reducible apply b_all); assumption; wtm_at "r_lv") | ((with_reducible apply b_allM); assumption; wtm_at "r_lv") | ((with_reducible apply b_any); assumption; wtm_at "r_lv") | ((with_reducible apply b_anyM); assumption; wtm_at "r_lv")
  | ((with_reducible apply b_tuple); wtm_at "r_lv") | (with_reducible exact b_listT) | ((with_reducible apply b_list); wtm_at "r_lv")
  | ((with_reducible apply b_max2); assumption) | ((with_reducible apply b_min2); assumption)
  | ((with_reducible apply b_maxT); assumption; assumption; wtm_at "r_ne") | ((with_reducible apply b_max); assumption; assumption; wtm_at "r_lv"; wtm_at "r_ne") | ((with_reducible apply b_maxM); assumption; assumption; wtm_at "r_lv"; wtm_at "r_ne")
  | ((with_reducible apply b_minT); assumption; assumption; wtm_at "r_ne") | ((with_reducible apply b_min); assumption; assumption; wtm_at "r_lv"; wtm_at "r_ne") | ((with_reducible apply b_minM); assumption; assumption; wtm_at "r_lv"; wtm_at "r_ne")
  | (with_reducible exact b_intB) | (with_reducible exact b_abs) | ((with_reducible apply b_strI); wtm_at "r_sd"; wtm_at "r_sd") | ((with_reducible apply b_str); wtm_at "r_sd")
  | ((with_reducible apply b_isXM); wtm_at "r_as"; wtm_at "r_as"; (decide)) | ((with_reducible apply b_isXV); wtm_at "r_as"; wtm_at "r_as")
  | ((with_reducible apply b_isBool); wtm_at "r_vw") | ((with_reducible apply b_isInt); wtm_at "r_vw") | ((with_reducible apply b_isTuple); wtm_at "r_vw"))
local macro_rules | `(tactic| wtm_at "r_R") => `(tactic| first | exact ⟨_, rfl, rfl⟩ | exact ⟨_, rfl, by wtm_at "r_sd", rfl⟩ | exact ⟨_, rfl, by wtm_at "r_sd", by wtm_at "r_sd", rfl⟩)
local macro_rules | `(tactic| wtm_at "r_ne") => `(tactic| first | assumption | (exact fun z => nomatch z))
local macro_rules | `(tactic| wtm_at "r_er") => `(tactic| first
  | wtm_at "r_nm"
  | (with_reducible exact er_int) | (with_reducible exact er_str) | (with_reducible exact er_bl) | (with_reducible exact er_non)
  | ((with_reducible show ER _ (.BinOp _ _ _ _) _ _); (with_reducible apply er_bin); wtm_at "r_er"; wtm_at "r_er"; wtm_at "r_op")
  | ((with_reducible show ER _ (.Subscript _ (.Slice _ _ none _) _) _ _); (with_reducible apply er_sl); wtm_at "r_er"; wtm_at "r_eo"; wtm_at "r_eo"; wtm_at "r_sl")
  | ((with_reducible show ER _ (.Subscript _ _ _) _ _); (with_reducible apply er_ix); wtm_at "r_er"; wtm_at "r_er"; wtm_at "r_ix"; (exact fun _ _ => rfl))
  | ((with_reducible show ER _ (.Compare _ [_] _ _) _ _); (with_reducible apply er_cmp); wtm_at "r_er"; wtm_at "r_er"; wtm_at "r_op"; (first | exact nomark _ | rfl))
  | ((with_reducible show ER _ (.Call (.Name _ _) (_ :: _) _ _) _ _); first
    | ((with_reducible apply er_cb); wtm_at "r_as"; wtm_at "r_ea"; wtm_at "r_cb"; (exact rfl); (exact rfl))
    | ((with_reducible apply er_ct); wtm_at "r_as"; wtm_at "r_ea"; wtm_at "r_cb"; (exact rfl); (exact rfl))
    | ((with_reducible apply er_call); wtm_at "r_as"; wtm_at "r_ea"; wtm_at "r_dt"; wtm_at "r_R"; (exact rfl); (exact rfl)))
  | ((with_reducible show ER _ (.Call (.Name _ _) [] _ _) _ _); (with_reducible apply er_call0); wtm_at "r_as"; wtm_at "r_R")
  | ((with_reducible show ER _ (.ListComp _ _ _ _) _ _); (with_reducible apply er_lc); wtm_at "r_lc")
  | ((with_reducible show ER _ (.Tuple _ _ _) _ _); (exact er_litT rfl))
  | ((with_reducible show ER _ (.List _ _) _ _); (exact er_litL rfl (by decide)))
  | ((with_reducible show ER _ (.Tuple _ _ _) _ _); (with_reducible apply er_tup); wtm_at "r_ea"; wtm_at "r_dt"; wtm_at "r_sd")
  | ((with_reducible show ER _ (.List _ _) _ _); (with_reducible apply er_lst); wtm_at "r_ea"; wtm_at "r_dt"; wtm_at "r_sd")
  | ((with_reducible show ER _ (.UnaryOp .USub _ _) _ _); (with_reducible apply er_neg); wtm_at "r_er")
  | ((with_reducible show ER _ (.UnaryOp .Not _ _) _ _); (with_reducible apply er_not); wtm_at "r_er")
  | ((with_reducible show ER _ (.BoolOp .Or (_ :: _ :: _) _) _ _); (with_reducible apply er_or); wtm_at "r_er"; (intro _; wtm_at "r_er"))
  | ((with_reducible show ER _ (.BoolOp .And (_ :: _ :: _) _) _ _); (with_reducible apply er_and); wtm_at "r_er"; (intro _; wtm_at "r_er"))
  | ((with_reducible show ER _ (.BoolOp _ [_] _) _ _); (with_reducible apply er_one); wtm_at "r_er")
  | ((with_reducible show ER _ (.IfExp _ _ _ _) _ _); first
    | ((with_reducible apply er_ifI); wtm_at "r_tr"; (intro _; wtm_at "r_er"); (intro _; wtm_at "r_er"))
    | ((with_reducible apply er_ifD); wtm_at "r_tr"; (intro _; wtm_at "r_er"); (intro _; wtm_at "r_er")))
  | ((with_reducible show ER _ (.Compare _ [_, _] _ _) _ _); (with_reducible apply er_chain); wtm_at "r_er"; wtm_at "r_er"; wtm_at "r_op"; (intro _; wtm_at "r_er"); (intro _; wtm_at "r_op"); (with_unfolding_all rfl)))
local macro_rules | `(tactic| wtm_at "r_eo") => `(tactic| first | (with_reducible exact eo_none) | ((with_reducible apply eo_some); wtm_at "r_er"))
local macro_rules | `(tactic| wtm_at "r_ea") => `(tactic| first
  | (with_reducible exact ea_nil)
  | ((with_reducible apply ea_cons); wtm_at "r_er"; wtm_at "r_ea"; (exact rfl)))
local macro_rules | `(tactic| wtm_at "r_tr") => `(tactic| first
  | ((with_reducible show TR _ (.Compare _ [_] _ _) _ _); (with_reducible apply tr_cmp); wtm_at "r_er"; wtm_at "r_er"; wtm_at "r_op"; (first | exact nomark _ | rfl))
  | ((with_reducible show TR _ (.Compare _ [_, _] _ _) _ _); (with_reducible apply tr_chain); wtm_at "r_er"; wtm_at "r_er"; wtm_at "r_op"; (intro _; wtm_at "r_er"); (intro _; wtm_at "r_op"); (with_unfolding_all rfl))
  | ((with_reducible show TR _ (.BoolOp _ _ _) _ _); (with_reducible apply TW.tr); wtm_at "r_tw")
  | ((with_reducible show TR _ (.UnaryOp .Not _ _) _ _); (with_reducible apply tr_not); wtm_at "r_tr")
  | ((with_reducible apply tr_val); wtm_at "r_er"; wtm_at "r_vw"; (exact rfl); (intro _; rfl)))
local macro_rules | `(tactic| wtm_at "r_tw") => `(tactic| first
  | ((with_reducible show TW _ (.BoolOp .Or [_] _) _ _); (with_reducible apply tw_or1); wtm_at "r_tr")
  | ((with_reducible show TW _ (.BoolOp .And [_] _) _ _); (with_reducible apply tw_and1); wtm_at "r_tr")
  | ((with_reducible show TW _ (.BoolOp .Or (_ :: _ :: _) _) _ _); (with_reducible apply tw_or); wtm_at "r_tr"; (intro _; wtm_at "r_tw"))
  | ((with_reducible show TW _ (.BoolOp .And (_ :: _ :: _) _) _ _); (with_reducible apply tw_and); wtm_at "r_tr"; (intro _; wtm_at "r_tw")))
local macro_rules | `(tactic| wtm_at "s_ret") => `(tactic| ((with_reducible apply ws_ret); (with_reducible apply we_p); wtm_at "r_er"))
local macro_rules | `(tactic| wtm_at "s_set") => `(tactic| ((with_reducible apply ws_set); wtm_at "r_as"; (with_reducible apply we_p); wtm_at "r_er"))
local macro_rules | `(tactic| wtm_at "s_sto") => `(tactic| ((with_reducible apply ws_storeI); wtm_at "r_er"; wtm_at "r_er"; wtm_at "r_er"; first | exact (rfl : _[0]? = _) | exact (rfl : _[1]? = _) | exact (rfl : _[2]? = _)))

def isPlay (b : Bo) (a c : Int) (q : Ply) : Bool := (allPl b a c).any fun r => decide (r.1 = q)
theorem isPlay_iff {b : Bo} {a c : Int} {q : Ply} : isPlay b a c q = true ↔ ∃ r ∈ allPl b a c, r.1 = q := by
  unfold isPlay
  rw [List.any_eq_true]
  simp only [decide_eq_true_eq]
def R_played (M : Md) : Rl := fun ds r => ∃ (b : Bo) (a c : Int) (q : Ply), ds = [dB b, dP (a, c), dPl q] ∧ b.1.length ≤ 1000 ∧ b.2.length ≤ 1000 ∧ r = if isBoard b then (if isDie a && isDie c then (if isPlay b a c q then .ok (.d (dB (playB b q))) else .error (cE M "BadPlay")) else .error (cE M "BadRoll")) else .error (cE M "BadBoard")
theorem sc_played : FnScope ["board", "roll", "play", "steps", "end"] ["board", "roll", "play"] (defScope s_played) := ⟨rfl, rfl, rfl, by decide +kernel, rfl, by decide +kernel, by decide +kernel⟩
theorem ok_played {M : Md} {f : Addr} {fd : FuncData} (T : Tx M) (F : FnP M.K "played" s_played f fd) (hm : M.mg "played" = some (.ref f)) (D_look_board : Df M "look_board" (R_look M) 2) (D_look_roll : Df M "look_roll" (R_look_roll M) 2) (D_all_plays : Df M "all_plays" R_all_plays 9) : Df M "played" (R_played M) 10 := by
  refine fnR F hm (F.bindsN fun _ _ _ _ _ _ us hl => match us, hl with | [_, _, _], _ => rfl) sc_played ?hlen ?hbody
  case hlen => rintro ds r ⟨_, _, _, _, rfl, _⟩; rfl
  case hbody =>
    rintro X cf fn A B ds r ⟨b, a, c, q, rfl, hl1, hl2, rfl⟩ hx
    have hu := cf.un
    have hc := cf.calm
    have hN := cf.nd
    have n_board := cf.nm (x := "board") 0 rfl (by decide +kernel)
    have n_roll := cf.nm (x := "roll") 1 rfl (by decide +kernel)
    have n_play := cf.nm (x := "play") 2 rfl (by decide +kernel)
    have n_steps := cf.nm (x := "steps") 3 rfl (by decide +kernel)
    have n_end := cf.nm (x := "end") 4 rfl (by decide +kernel)
    have l_steps := cf.nl (x := "steps") 3 rfl (by decide +kernel) (Or.inl (fn _))
    have l_end := cf.nl (x := "end") 4 rfl (by decide +kernel) (Or.inl (fn _))
    have f_look_board := cf.fc (x := "look_board") D_look_board (by first | decide | omega) (by decide +kernel)
    have f_look_roll := cf.fc (x := "look_roll") D_look_roll (by first | decide | omega) (by decide +kernel)
    have f_all_plays := cf.fc (x := "all_plays") D_all_plays (by first | decide | omega) (by decide +kernel)
    have e_BadPlay := T.e_BadPlay.ec cf (by decide +kernel)
    with_unfolding_all apply wb_cons
    refine ws_expr (we_look (b := b) hx f_look_board (by wtm_at "r_ea") hl1 hl2 (fun h => ?_) (fun h => ⟨by rw [h]; rfl, rfl, rfl⟩))
    have iB := isBoard_iff.mp h
    apply wb_cons
    refine ws_expr (we_roll (a := a) (c := c) hx f_look_roll (by wtm_at "r_ea") (fun ha hc' => ?_) (fun hd => ⟨by rw [h, hd]; rfl, rfl, rfl⟩))
    have rp : R_all_plays [dB b, dP (a, c)] (.ok (.d (.list ((allPl b a c).map dWy)))) := ⟨b, a, c, rfl, iB.bd, iB.hi, ha, hc', rfl⟩
    apply wb_cons
    refine ws_forL (ra := .d (.list ((allPl b a c).map dWy))) (D := { nx := _, rt := _, bk := _, ct := _ }) hx hc (er_call f_all_plays (by wtm_at "r_ea") (by wtm_at "r_dt") rp rfl rfl) .d (fun i G' => (∃ s3 s4 : Sl, G' = ⟨A, B, [.d (dB b), .d (dP (a, c)), .d (dPl q), s3, s4], []⟩) ∧ ∀ r ∈ (allPl b a c).take i, r.1 ≠ q) ⟨⟨_, _, rfl⟩, fun r hr => by simp at hr⟩ ?_ ?_ (fun _ => rfl)
    · rintro i e G' he ⟨⟨s3, s4, rfl⟩, hno⟩
      rw [List.getElem?_map] at he
      obtain ⟨r, hr, rfl⟩ := Option.map_eq_some_iff.mp he
      have hm := List.mem_of_getElem? hr
      refine ⟨_, tg_tup2 hc (tg_name l_steps) (tg_name l_end), ?_⟩
      apply wb_one
      refine ws_if (k := decide (r.1 = q)) (by rw [← eqv_pl]; exact tr_cmp (by wtm_at "r_er") (by wtm_at "r_er") (o_eqD hu .d .d (dep_l (by have := dep_pl r.1; omega))) (nomark _)) (fun hq => ?_) (fun hq => ?_)
      · have e1 := of_decide_eq_true hq
        have e2 : isPlay b a c q = true := isPlay_iff.mpr ⟨r, hm, e1⟩
        apply wb_one
        exact ws_ret (we_p (ra := .d (dB r.2)) (by wtm_at "r_er") ⟨rfl, rfl, _, by rw [h, ha, hc', e2, allPl_end hm, e1]; rfl, .d⟩)
      · have e1 := of_decide_eq_false hq
        apply wb_nil
        refine ⟨⟨_, _, rfl⟩, fun x hx1 => ?_⟩
        rw [take_get hr] at hx1
        rcases List.mem_append.mp hx1 with hx1 | hx1
        · exact hno x hx1
        · rw [List.mem_singleton] at hx1
          rw [hx1]; exact e1
    · rintro G' ⟨⟨s3, s4, rfl⟩, hno⟩
      rw [List.length_map, List.take_length] at hno
      have e2 : isPlay b a c q = false := by
        rw [← Bool.not_eq_true]
        intro z
        obtain ⟨r, hr, e⟩ := isPlay_iff.mp z
        exact hno r hr e
      apply wb_one
      exact ws_raise hx hc e_BadPlay ⟨by rw [h, ha, hc', e2]; rfl, rfl, rfl⟩
end Rd

namespace Rd
open PySem PySem.Spec PyProof.Rows L2 TL
local macro_rules | `(tactic| wtm_at "r_sd") => `(tactic| first | assumption | omega | decide | (simp only [List.length_cons, List.length_nil, List.length_append, List.length_map, List.length_replicate, List.length_set, sizeLine_eq]; omega) | (simp; omega))
local macro_rules | `(tactic| wtm_at "r_as") => `(tactic| (with_reducible assumption))
local macro_rules | `(tactic| wtm_at "r_nm") => `(tactic| ((with_reducible show ER _ (.Name _ _) _ _); first
  | ((with_reducible apply er_name); wtm_at "r_as"; exact rfl)
  | ((with_reducible apply er_nameL); wtm_at "r_as"; exact rfl)
  | ((with_reducible apply er_nameV); wtm_at "r_as"; exact rfl)
  | ((with_reducible apply er_nameX); wtm_at "r_as"; exact rfl)
  | ((with_reducible apply er_gcI); wtm_at "r_as")
  | ((with_reducible apply er_gcS); wtm_at "r_as")
  | ((with_reducible apply Bt.ty); wtm_at "r_as")
  | ((with_reducible apply er_gcV); wtm_at "r_as")
  | ((with_reducible apply Ec.er); wtm_at "r_as")))
local macro_rules | `(tactic| wtm_at "r_lv") => `(tactic| first | (with_reducible exact Lv.d) | (with_reducible exact Lv.f) | (with_reducible exact Lv.l) | exact Lv.c 0 rfl | exact Lv.c 1 rfl | exact Lv.c 2 rfl)
local macro_rules | `(tactic| wtm_at "r_tv") => `(tactic| first | (with_reducible exact Tv.f) | (with_reducible exact Tv.l) | exact Tv.c 0 rfl | exact Tv.c 1 rfl | exact Tv.c 2 rfl)
local macro_rules | `(tactic| wtm_at "r_vw") => `(tactic| first | (with_reducible exact Vw.d) | (with_reducible exact Vw.f) | (with_reducible exact Vw.l) | exact Vw.c 0 rfl | exact Vw.c 1 rfl | exact Vw.c 2 rfl)
local macro_rules | `(tactic| wtm_at "r_dt") => `(tactic| first | (with_reducible exact DtL.nil) | ((with_reducible apply DtL.cons); (first | (with_reducible exact Dt.d) | (with_reducible exact Dt.f) | (with_reducible exact Dt.l)); wtm_at "r_dt"))
local macro_rules | `(tactic| wtm_at "r_op") => `(tactic| first
  | (with_reducible exact o_add) | (with_reducible exact o_sub) | (with_reducible exact o_lt) | (with_reducible exact o_le) | (with_reducible exact o_gt) | (with_reducible exact o_ge)
  | (with_reducible exact o_eqI) | (with_reducible exact o_neI) | (with_reducible exact o_eqN) | (with_reducible exact o_neN) | (with_reducible exact o_inN) | (with_reducible exact o_notInN) | (with_reducible exact o_eqS) | (with_reducible exact o_neS)
  | ((with_reducible apply o_mod); wtm_at "r_sd")
  | ((with_reducible apply o_div); (first | exact ⟨by decide, by decide⟩ | exact ⟨by omega, by omega⟩))
  | ((with_reducible apply o_isN); (exact fun z => nomatch z); (first | exact fun _ z => nomatch z | exact fun y z => ⟨_, (Sl.v.inj z).symm⟩))
  | ((with_reducible apply o_notN); (exact fun z => nomatch z); (first | exact fun _ z => nomatch z | exact fun y z => ⟨_, (Sl.v.inj z).symm⟩))
  | ((with_reducible apply o_mul); (first | exact Or.inl ⟨by omega, by omega⟩ | exact Or.inr ⟨by omega, by omega⟩))
  | ((with_reducible apply o_inI); wtm_at "r_lv")
  | ((with_reducible apply o_catTI); wtm_at "r_sd")
  | ((with_reducible apply o_catT); wtm_at "r_sd")
  | ((with_reducible apply o_catLI); wtm_at "r_tv"; wtm_at "r_tv"; wtm_at "r_sd")
  | ((with_reducible apply o_catL); wtm_at "r_tv"; wtm_at "r_tv"; wtm_at "r_sd")
  | ((with_reducible apply o_catN); wtm_at "r_sd")
  | ((with_reducible apply o_catS); wtm_at "r_sd")
  | ((with_reducible apply o_rep0); wtm_at "r_sd"; wtm_at "r_sd")
  | ((with_reducible apply o_repL); wtm_at "r_tv"; wtm_at "r_sd"; wtm_at "r_sd"; wtm_at "r_sd")
  | ((with_reducible apply o_repT); (exact fun z => nomatch z); wtm_at "r_sd"; wtm_at "r_sd"; wtm_at "r_sd")
  | ((with_reducible apply o_eqD); assumption; wtm_at "r_vw"; wtm_at "r_vw"; wtm_at "r_dp")
  | ((with_reducible apply o_neD); assumption; wtm_at "r_vw"; wtm_at "r_vw"; wtm_at "r_dp"))
local macro_rules | `(tactic| wtm_at "r_dp") => `(tactic| first | assumption | (exact dep_l (by wtm_at "r_de")) | (exact dep_r (by wtm_at "r_de")))
local macro_rules | `(tactic| wtm_at "r_de") => `(tactic| first | (exact dep_ints _) | (exact dep_intsL _) | (simp only [PyData.depth, PyData.depthAll, PySem.W.depth_ints]; omega))
local macro_rules | `(tactic| wtm_at "r_ix") => `(tactic| first
  | ((with_reducible apply o_ixTI); wtm_at "r_sd"; wtm_at "r_sd")
  | ((with_reducible apply o_ixT); (exact rfl))
  | ((with_reducible apply o_ixLI); wtm_at "r_lv"; wtm_at "r_sd"; wtm_at "r_sd")
  | ((with_reducible apply o_ixL); wtm_at "r_lv"; (exact rfl))
  | ((with_reducible apply o_ixN); wtm_at "r_sd"; (exact rfl)) | (exact o_ixH 0 rfl rfl) | (exact o_ixH 1 rfl rfl) | (exact o_ixH 2 rfl rfl))
local macro_rules | `(tactic| wtm_at "r_sl") => `(tactic| first | (with_reducible exact o_slTI) | (with_reducible exact o_slT) | ((with_reducible apply o_slLI); wtm_at "r_lv") | ((with_reducible apply o_slL); wtm_at "r_lv") | ((with_reducible apply o_slN); wtm_at "r_sd") | ((with_reducible apply o_slS); wtm_at "r_sd"))
local macro_rules | `(tactic| wtm_at "r_cb") => `(tactic| first
  | (with_reducible exact b_lenTI) | (with_reducible exact b_lenT) | ((with_reducible apply b_len); wtm_at "r_lv") | ((with_reducible apply b_lenN); wtm_at "r_sd") | ((with_reducible apply b_lenS); wtm_at "r_sd")
  | ((with_reducible apply b_sumT); assumption) | ((with_reducible apply b_sum); assumption; wtm_at "r_lv") | ((with_reducible apply b_sumM); assumption; wtm_at "r_lv")
  | ((with_reducible apply b_all); assumption; wtm_at "r_lv") | ((with_reducible apply b_allM); assumption; wtm_at "r_lv") | ((with_reducible apply b_any); assumption; wtm_at "r_lv") | ((with_reducible apply b_anyM); assumption; wtm_at "r_lv")
  | ((with_reducible apply b_tuple); wtm_at "r_lv") | (with_reducible exact b_listT) | ((with_reducible apply b_list); wtm_at "r_lv")
  | ((with_reducible apply b_max2); assumption) | ((with_reducible apply b_min2); assumption)
  | ((with_reducible apply b_maxT); assumption; assumption; wtm_at "r_ne") | ((with_reducible apply b_max); assumption; assumption; wtm_at "r_lv"; wtm_at "r_ne") | ((with_reducible apply b_maxM); assumption; assumption; wtm_at "r_lv"; wtm_at "r_ne")
  | ((with_reducible apply b_minT); assumption; assumption; wtm_at "r_ne") | ((with_reducible apply b_min); assumption; assumption; wtm_at "r_lv"; wtm_at "r_ne") | ((with_reducible apply b_minM); assumption; assumption; wtm_at "r_lv"; wtm_at "r_ne")
  | (with_reducible exact b_intB) | (with_reducible exact b_abs) | ((with_reducible apply b_strI); wtm_at "r_sd"; wtm_at "r_sd") | ((with_reducible apply b_str); wtm_at "r_sd")
  | ((with_reducible apply b_isXM); wtm_at "r_as"; wtm_at "r_as"; (decide)) | ((with_reducible apply b_isXV); wtm_at "r_as"; wtm_at "r_as")
  | ((with_reducible apply b_isBool); wtm_at "r_vw") | ((with_reducible apply b_isInt); wtm_at "r_vw") | ((with_reducible apply b_isTuple); wtm_at "r_vw"))
local macro_rules | `(tactic| wtm_at "r_R") => `(tactic| first | exact ⟨_, rfl, rfl⟩ | exact ⟨_, rfl, by wtm_at "r_sd", rfl⟩ | exact ⟨_, rfl, by wtm_at "r_sd", by wtm_at "r_sd", rfl⟩)
local macro_rules | `(tactic| wtm_at "r_ne") => `(tactic| first | assumption | (exact fun z => nomatch z))
local macro_rules | `(tactic| wtm_at "r_er") => `(tactic| first
  | wtm_at "r_nm"
  | (with_reducible exact er_int) | (with_reducible exact er_str) | (with_reducible exact er_bl) | (with_reducible exact er_non)
  | ((with_reducible show ER _ (.BinOp _ _ _ _) _ _); (with_reducible apply er_bin); wtm_at "r_er"; wtm_at "r_er"; wtm_at "r_op")
  | ((with_reducible show ER _ (.Subscript _ (.Slice _ _ none _) _) _ _); (with_reducible apply er_sl); wtm_at "r_er"; wtm_at "r_eo"; wtm_at "r_eo"; wtm_at "r_sl")
  | ((with_reducible show ER _ (.Subscript _ _ _) _ _); (with_reducible apply er_ix); wtm_at "r_er"; wtm_at "r_er"; wtm_at "r_ix"; (exact fun _ _ => rfl))
  | ((with_reducible show ER _ (.Compare _ [_] _ _) _ _); (with_reducible apply er_cmp); wtm_at "r_er"; wtm_at "r_er"; wtm_at "r_op"; (first | exact nomark _ | rfl))
  | ((with_reducible show ER _ (.Call (.Name _ _) (_ :: _) _ _) _ _); first
    | ((with_reducible apply er_cb); wtm_at "r_as"; wtm_at "r_ea"; wtm_at "r_cb"; (exact rfl); (exact rfl))
    | ((with_reducible apply er_ct); wtm_at "r_as"; wtm_at "r_ea"; wtm_at "r_cb"; (exact rfl); (exact rfl))
    | ((with_reducible apply er_call); wtm_at "r_as"; wtm_at "r_ea"; wtm_at "r_dt"; wtm_at "r_R"; (exact rfl); (exact rfl)))
  | ((with_reducible show ER _ (.Call (.Name _ _) [] _ _) _ _); (with_reducible apply er_call0); wtm_at "r_as"; wtm_at "r_R")
  | ((with_reducible show ER _ (.ListComp _ _ _ _) _ _); (with_reducible apply er_lc); wtm_at "r_lc")
  | ((with_reducible show ER _ (.Tuple _ _ _) _ _); (exact er_litT rfl))
  | ((with_reducible show ER _ (.List _ _) _ _); (exact er_litL rfl (by decide)))
  | ((with_reducible show ER _ (.Tuple _ _ _) _ _); (with_reducible apply er_tup); wtm_at "r_ea"; wtm_at "r_dt"; wtm_at "r_sd")
  | ((with_reducible show ER _ (.List _ _) _ _); (with_reducible apply er_lst); wtm_at "r_ea"; wtm_at "r_dt"; wtm_at "r_sd")
  | ((with_reducible show ER _ (.UnaryOp .USub _ _) _ _); (with_reducible apply er_neg); wtm_at "r_er")
  | ((with_reducible show ER _ (.UnaryOp .Not _ _) _ _); (with_reducible apply er_not); wtm_at "r_er")
  | ((with_reducible show ER _ (.BoolOp .Or (_ :: _ :: _) _) _ _); (with_reducible apply er_or); wtm_at "r_er"; (intro _; wtm_at "r_er"))
  | ((with_reducible show ER _ (.BoolOp .And (_ :: _ :: _) _) _ _); (with_reducible apply er_and); wtm_at "r_er"; (intro _; wtm_at "r_er"))
  | ((with_reducible show ER _ (.BoolOp _ [_] _) _ _); (with_reducible apply er_one); wtm_at "r_er")
  | ((with_reducible show ER _ (.IfExp _ _ _ _) _ _); first
    | ((with_reducible apply er_ifI); wtm_at "r_tr"; (intro _; wtm_at "r_er"); (intro _; wtm_at "r_er"))
    | ((with_reducible apply er_ifD); wtm_at "r_tr"; (intro _; wtm_at "r_er"); (intro _; wtm_at "r_er")))
  | ((with_reducible show ER _ (.Compare _ [_, _] _ _) _ _); (with_reducible apply er_chain); wtm_at "r_er"; wtm_at "r_er"; wtm_at "r_op"; (intro _; wtm_at "r_er"); (intro _; wtm_at "r_op"); (with_unfolding_all rfl)))
local macro_rules | `(tactic| wtm_at "r_eo") => `(tactic| first | (with_reducible exact eo_none) | ((with_reducible apply eo_some); wtm_at "r_er"))
local macro_rules | `(tactic| wtm_at "r_ea") => `(tactic| first
  | (with_reducible exact ea_nil)
  | ((with_reducible apply ea_cons); wtm_at "r_er"; wtm_at "r_ea"; (exact rfl)))
local macro_rules | `(tactic| wtm_at "r_tr") => `(tactic| first
  | ((with_reducible show TR _ (.Compare _ [_] _ _) _ _); (with_reducible apply tr_cmp); wtm_at "r_er"; wtm_at "r_er"; wtm_at "r_op"; (first | exact nomark _ | rfl))
  | ((with_reducible show TR _ (.Compare _ [_, _] _ _) _ _); (with_reducible apply tr_chain); wtm_at "r_er"; wtm_at "r_er"; wtm_at "r_op"; (intro _; wtm_at "r_er"); (intro _; wtm_at "r_op"); (with_unfolding_all rfl))
  | ((with_reducible show TR _ (.BoolOp _ _ _) _ _); (with_reducible apply TW.tr); wtm_at "r_tw")
  | ((with_reducible show TR _ (.UnaryOp .Not _ _) _ _); (with_reducible apply tr_not); wtm_at "r_tr")
  | ((with_reducible apply tr_val); wtm_at "r_er"; wtm_at "r_vw"; (exact rfl); (intro _; rfl)))
local macro_rules | `(tactic| wtm_at "r_tw") => `(tactic| first
  | ((with_reducible show TW _ (.BoolOp .Or [_] _) _ _); (with_reducible apply tw_or1); wtm_at "r_tr")
  | ((with_reducible show TW _ (.BoolOp .And [_] _) _ _); (with_reducible apply tw_and1); wtm_at "r_tr")
  | ((with_reducible show TW _ (.BoolOp .Or (_ :: _ :: _) _) _ _); (with_reducible apply tw_or); wtm_at "r_tr"; (intro _; wtm_at "r_tw"))
  | ((with_reducible show TW _ (.BoolOp .And (_ :: _ :: _) _) _ _); (with_reducible apply tw_and); wtm_at "r_tr"; (intro _; wtm_at "r_tw")))
local macro_rules | `(tactic| wtm_at "s_ret") => `(tactic| ((with_reducible apply ws_ret); (with_reducible apply we_p); wtm_at "r_er"))
local macro_rules | `(tactic| wtm_at "s_set") => `(tactic| ((with_reducible apply ws_set); wtm_at "r_as"; (with_reducible apply we_p); wtm_at "r_er"))
local macro_rules | `(tactic| wtm_at "s_sto") => `(tactic| ((with_reducible apply ws_storeI); wtm_at "r_er"; wtm_at "r_er"; wtm_at "r_er"; first | exact (rfl : _[0]? = _) | exact (rfl : _[1]? = _) | exact (rfl : _[2]? = _)))

theorem sc_law_cell : FnScope ["script", "k"] ["script", "k"] (defScope s_law_cell) := ⟨rfl, rfl, rfl, by decide +kernel, rfl, by decide +kernel, by decide +kernel⟩
theorem ok_law_cell {M : Md} {f : Addr} {fd : FuncData} (T : Tx M) (F : FnP M.K "_law_cell" s_law_cell f fd) (hm : M.mg "_law_cell" = some (.ref f)) : Df M "_law_cell" R_cell 1 := by
  refine fnR F hm (F.bindsN fun _ _ _ _ _ _ us hl => match us, hl with | [_, _], _ => rfl) sc_law_cell ?hlen ?hbody
  case hlen => rintro ds r ⟨_, _, rfl, _⟩; rfl
  case hbody =>
    rintro X cf fn A B ds r ⟨ns, k, rfl, rfl⟩ hx
    have hu := cf.un
    have hc := cf.calm
    have hN := cf.nd
    have n_script := cf.nm (x := "script") 0 rfl (by decide +kernel)
    have n_k := cf.nm (x := "k") 1 rfl (by decide +kernel)
    have b_len := cf.bt (x := "len") (f := .builtin "len") (by decide +kernel) T.b_len (by decide +kernel)
    with_unfolding_all apply wb_cons
    refine ws_if (k := !(ns.map PyData.int).isEmpty) (by wtm_at "r_tr") (fun h => ?_) (fun h => ?_)
    · have hn : 0 < ns.length := by
        cases ns with
        | nil => cases h
        | cons _ _ => simp
      have hl : ((ns.map PyData.int).length : Nat) = ns.length := List.length_map ..
      have h0 : 0 ≤ k % (ns.length : Nat) := Int.emod_nonneg _ (by omega)
      have h1 : k % (ns.length : Nat) < ns.length := Int.emod_lt_of_pos _ (by omega)
      apply wb_one
      apply ws_ret
      refine we_p (ra := .d (.int (at0 ns (k % (ns.length : Nat))))) (er_ix (by wtm_at "r_er") (er_bin (rz := .d (.int (k % (ns.length : Nat)))) (by wtm_at "r_er") (rb := .d (.int (ns.length : Nat))) ?_ (o_mod (by omega))) (o_ixLI .d h0 h1) (fun _ _ => rfl)) ?_
      · rw [← hl]; wtm_at "r_er"
      · refine ⟨rfl, rfl, _, ?_, .d⟩
        have : ns ≠ [] := by intro z; subst z; simp at hn
        simp [cellAt, this]
    · have hn : ns = [] := by
        cases ns with
        | nil => rfl
        | cons _ _ => cases h
      subst hn
      apply wb_nil
      apply wb_one
      wtm_at "s_ret"
      exact ⟨rfl, rfl, _, rfl, .d⟩
theorem sc_law_mix : FnScope ["script", "k", "number"] ["script", "k"] (defScope s_law_mix) := ⟨rfl, rfl, rfl, by decide +kernel, rfl, by decide +kernel, by decide +kernel⟩
theorem ok_law_mix {M : Md} {f : Addr} {fd : FuncData} (T : Tx M) (F : FnP M.K "_law_mix" s_law_mix f fd) (hm : M.mg "_law_mix" = some (.ref f)) (D_law_cell : Df M "_law_cell" R_cell 1) : Df M "_law_mix" R_mix 2 := by
  refine fnR F hm (F.bindsN fun _ _ _ _ _ _ us hl => match us, hl with | [_, _], _ => rfl) sc_law_mix ?hlen ?hbody
  case hlen => rintro ds r ⟨_, _, rfl, _⟩; rfl
  case hbody =>
    rintro X cf fn A B ds r ⟨ns, k, rfl, rfl⟩ hx
    have hu := cf.un
    have hc := cf.calm
    have hN := cf.nd
    have n_script := cf.nm (x := "script") 0 rfl (by decide +kernel)
    have n_k := cf.nm (x := "k") 1 rfl (by decide +kernel)
    have n_number := cf.nm (x := "number") 2 rfl (by decide +kernel)
    have l_number := cf.nl (x := "number") 2 rfl (by decide +kernel) (Or.inl (fn _))
    have f_law_cell := cf.fc (x := "_law_cell") D_law_cell (by first | decide | omega) (by decide +kernel)
    have rc : R_cell [.list (ns.map .int), .int k] (.ok (.d (.int (cellAt ns k)))) := ⟨_, _, rfl, rfl⟩
    have q0 : 0 ≤ (cellAt ns k + 104729 * (k + 1)) % 4294967291 := Int.emod_nonneg _ (by omega)
    have q1 : (cellAt ns k + 104729 * (k + 1)) % 4294967291 < 4294967291 := Int.emod_lt_of_pos _ (by omega)
    have q2 : 0 ≤ mixN (cellAt ns k) k := Int.emod_nonneg _ (by omega)
    have q3 : mixN (cellAt ns k) k < 4294967279 := Int.emod_lt_of_pos _ (by omega)
    with_unfolding_all apply wb_cons
    refine ws_set l_number (we_p (ra := .d (.int ((cellAt ns k + 104729 * (k + 1)) % 4294967291))) (er_bin (er_bin (er_call f_law_cell (by wtm_at "r_ea") (by wtm_at "r_dt") rc rfl rfl) (er_bin (by wtm_at "r_er") (by wtm_at "r_er") (o_mul (.inl ⟨by omega, by omega⟩))) o_add) (by wtm_at "r_er") (o_mod (by omega))) ?_)
    apply wb_cons
    refine ws_set l_number (we_p (ra := .d (.int (mixN (cellAt ns k) k))) (er_bin (er_bin (by wtm_at "r_er") (by wtm_at "r_er") (o_pow ⟨by omega, by omega, by omega⟩)) (by wtm_at "r_er") (o_mod (by omega))) ?_)
    apply wb_one
    apply ws_ret
    refine we_p (ra := .d (.int (mixAt ns k))) (er_bin (er_bin (er_bin (er_bin (by wtm_at "r_er") (by wtm_at "r_er") (o_div ⟨by omega, by omega⟩)) (by wtm_at "r_er") (o_mul (.inr ⟨by omega, by omega⟩))) (by wtm_at "r_er") o_add) (by wtm_at "r_er") (o_mod (by omega))) ?_
    exact ⟨rfl, rfl, _, rfl, .d⟩
theorem sc_law_draw : FnScope ["script", "town", "many"] ["script", "town", "many"] (defScope s_law_draw) := ⟨rfl, rfl, rfl, by decide +kernel, rfl, by decide +kernel, by decide +kernel⟩
theorem ok_law_draw {M : Md} {f : Addr} {fd : FuncData} (T : Tx M) (F : FnP M.K "_law_draw" s_law_draw f fd) (hm : M.mg "_law_draw" = some (.ref f)) (D_law_mix : Df M "_law_mix" R_mix 2) : DfT M "_law_draw" T_draw 3 := by
  refine fnT F hm (F.bindsN fun _ _ _ _ _ _ us hl => match us, hl with | [_, _, _], _ => rfl) sc_law_draw ?hlen (by decide) ?hbody
  case hlen => rintro ds c P ⟨_, rfl, _⟩; rfl
  case hbody =>
    rintro X cf fn hx A B t ns zs ds c P ⟨many, rfl, h0, rfl, rfl⟩ hc1
    have hu := cf.un
    have hc := cf.calm
    have hN := cf.nd
    have n_script := cf.nm (x := "script") 0 rfl (by decide +kernel)
    have n_town := cf.nm (x := "town") 1 rfl (by decide +kernel)
    have n_many := cf.nm (x := "many") 2 rfl (by decide +kernel)
    have f_law_mix := cf.fc (x := "_law_mix") D_law_mix (by first | decide | omega) (by decide +kernel)
    have b_len := cf.bt (x := "len") (f := .builtin "len") (by decide +kernel) T.b_len (by decide +kernel)
    with_unfolding_all apply wb_cons
    refine ws_append (j := 0) (by wtm_at "r_er") ⟨_, rfl⟩ (we_p er_int ⟨zs.map .int, .int 0, .d, rfl, by rw [List.length_map, sizeLine_eq]; omega, ?_⟩)
    have el : zs.map PyData.int ++ [.int 0] = (zs ++ [0]).map .int := by simp
    rw [el]
    have hl : (((zs ++ [0]).map PyData.int).length : Nat) = zs.length + 1 := by simp
    have rm : R_mix [.list (ns.map .int), .int (zs.length + 1 : Nat)] (.ok (.d (.int (mixAt ns (zs.length + 1 : Nat))))) := ⟨_, _, rfl, rfl⟩
    apply wb_one
    apply ws_ret
    refine we_p (ra := .d (.int (mixAt ns (zs.length + 1 : Nat) / 8 % many))) (er_bin (er_bin (er_call f_law_mix (ea_cons (by wtm_at "r_er") (ea_cons (ra := .d (.int (zs.length + 1 : Nat))) ?_ ea_nil rfl) rfl) (by wtm_at "r_dt") rm rfl rfl) (by wtm_at "r_er") (o_div ⟨by omega, by omega⟩)) (by wtm_at "r_er") (o_mod h0)) ?_
    · rw [← hl]; wtm_at "r_er"
    · refine ⟨rfl, rfl, 0, zs ++ [0], rfl, by simp, _, .d, _, Int.emod_nonneg _ (by omega), Int.emod_lt_of_pos _ h0, rfl⟩
end Rd

namespace Rd
open PySem PySem.Spec PyProof.Rows L2 TL
local macro_rules | `(tactic| wtm_at "r_sd") => `(tactic| first | assumption | omega | decide | (simp only [List.length_cons, List.length_nil, List.length_append, List.length_map, List.length_replicate, List.length_set, sizeLine_eq]; omega) | (simp; omega))
local macro_rules | `(tactic| wtm_at "r_as") => `(tactic| (with_reducible assumption))
local macro_rules | `(tactic| wtm_at "r_nm") => `(tactic| ((with_reducible show ER _ (.Name _ _) _ _); first
  | ((with_reducible apply er_name); wtm_at "r_as"; exact rfl)
  | ((with_reducible apply er_nameL); wtm_at "r_as"; exact rfl)
  | ((with_reducible apply er_nameV); wtm_at "r_as"; exact rfl)
  | ((with_reducible apply er_nameX); wtm_at "r_as"; exact rfl)
  | ((with_reducible apply er_gcI); wtm_at "r_as")
  | ((with_reducible apply er_gcS); wtm_at "r_as")
  | ((with_reducible apply Bt.ty); wtm_at "r_as")
  | ((with_reducible apply er_gcV); wtm_at "r_as")
  | ((with_reducible apply Ec.er); wtm_at "r_as")))
local macro_rules | `(tactic| wtm_at "r_lv") => `(tactic| first | (with_reducible exact Lv.d) | (with_reducible exact Lv.f) | (with_reducible exact Lv.l) | exact Lv.c 0 rfl | exact Lv.c 1 rfl | exact Lv.c 2 rfl)
local macro_rules | `(tactic| wtm_at "r_tv") => `(tactic| first | (with_reducible exact Tv.f) | (with_reducible exact Tv.l) | exact Tv.c 0 rfl | exact Tv.c 1 rfl | exact Tv.c 2 rfl)
local macro_rules | `(tactic| wtm_at "r_vw") => `(tactic| first | (with_reducible exact Vw.d) | (with_reducible exact Vw.f) | (with_reducible exact Vw.l) | exact Vw.c 0 rfl | exact Vw.c 1 rfl | exact Vw.c 2 rfl)
local macro_rules | `(tactic| wtm_at "r_dt") => `(tactic| first | (with_reducible exact DtL.nil) | ((with_reducible apply DtL.cons); (first | (with_reducible exact Dt.d) | (with_reducible exact Dt.f) | (with_reducible exact Dt.l)); wtm_at "r_dt"))
local macro_rules | `(tactic| wtm_at "r_op") => `(tactic| first
  | (with_reducible exact o_add) | (with_reducible exact o_sub) | (with_reducible exact o_lt) | (with_reducible exact o_le) | (with_reducible exact o_gt) | (with_reducible exact o_ge)
  | (with_reducible exact o_eqI) | (with_reducible exact o_neI) | (with_reducible exact o_eqN) | (with_reducible exact o_neN) | (with_reducible exact o_inN) | (with_reducible exact o_notInN) | (with_reducible exact o_eqS) | (with_reducible exact o_neS)
  | ((with_reducible apply o_mod); wtm_at "r_sd")
  | ((with_reducible apply o_div); (first | exact ⟨by decide, by decide⟩ | exact ⟨by omega, by omega⟩))
  | ((with_reducible apply o_isN); (exact fun z => nomatch z); (first | exact fun _ z => nomatch z | exact fun y z => ⟨_, (Sl.v.inj z).symm⟩))
  | ((with_reducible apply o_notN); (exact fun z => nomatch z); (first | exact fun _ z => nomatch z | exact fun y z => ⟨_, (Sl.v.inj z).symm⟩))
  | ((with_reducible apply o_mul); (first | exact Or.inl ⟨by omega, by omega⟩ | exact Or.inr ⟨by omega, by omega⟩))
  | ((with_reducible apply o_inI); wtm_at "r_lv")
  | ((with_reducible apply o_catTI); wtm_at "r_sd")
  | ((with_reducible apply o_catT); wtm_at "r_sd")
  | ((with_reducible apply o_catLI); wtm_at "r_tv"; wtm_at "r_tv"; wtm_at "r_sd")
  | ((with_reducible apply o_catL); wtm_at "r_tv"; wtm_at "r_tv"; wtm_at "r_sd")
  | ((with_reducible apply o_catN); wtm_at "r_sd")
  | ((with_reducible apply o_catS); wtm_at "r_sd")
  | ((with_reducible apply o_rep0); wtm_at "r_sd"; wtm_at "r_sd")
  | ((with_reducible apply o_repL); wtm_at "r_tv"; wtm_at "r_sd"; wtm_at "r_sd"; wtm_at "r_sd")
  | ((with_reducible apply o_repT); (exact fun z => nomatch z); wtm_at "r_sd"; wtm_at "r_sd"; wtm_at "r_sd")
  | ((with_reducible apply o_eqD); assumption; wtm_at "r_vw"; wtm_at "r_vw"; wtm_at "r_dp")
  | ((with_reducible apply o_neD); assumption; wtm_at "r_vw"; wtm_at "r_vw"; wtm_at "r_dp"))
local macro_rules | `(tactic| wtm_at "r_dp") => `(tactic| first | assumption | (exact dep_l (by wtm_at "r_de")) | (exact dep_r (by wtm_at "r_de")))
local macro_rules | `(tactic| wtm_at "r_de") => `(tactic| first | (exact dep_ints _) | (exact dep_intsL _) | (simp only [PyData.depth, PyData.depthAll, PySem.W.depth_ints]; omega))
local macro_rules | `(tactic| wtm_at "r_ix") => `(tactic| first
  | ((with_reducible apply o_ixTI); wtm_at "r_sd"; wtm_at "r_sd")
  | ((with_reducible apply o_ixT); (exact rfl))
  | ((with_reducible apply o_ixLI); wtm_at "r_lv"; wtm_at "r_sd"; wtm_at "r_sd")
  | ((with_reducible apply o_ixL); wtm_at "r_lv"; (exact rfl))
  | ((with_reducible apply o_ixN); wtm_at "r_sd"; (exact rfl)) | (exact o_ixH 0 rfl rfl) | (exact o_ixH 1 rfl rfl) | (exact o_ixH 2 rfl rfl))
local macro_rules | `(tactic| wtm_at "r_sl") => `(tactic| first | (with_reducible exact o_slTI) | (with_reducible exact o_slT) | ((with_reducible apply o_slLI); wtm_at "r_lv") | ((with_reducible apply o_slL); wtm_at "r_lv") | ((with_reducible apply o_slN); wtm_at "r_sd") | ((with_reducible apply o_slS); wtm_at "r_sd"))
local macro_rules | `(tactic| wtm_at "r_cb") => `(tactic| first
  | (with_reducible exact b_lenTI) | (with_reducible exact b_lenT) | ((with_reducible apply b_len); wtm_at "r_lv") | ((with_reducible apply b_lenN); wtm_at "r_sd") | ((with_reducible apply b_lenS); wtm_at "r_sd")
  | ((with_reducible apply b_sumT); assumption) | ((with_reducible apply b_sum); assumption; wtm_at "r_lv") | ((with_reducible apply b_sumM); assumption; wtm_at "r_lv")
  | ((with_reducible apply b_all); assumption; wtm_at "r_lv") | ((with_reducible apply b_allM); assumption; wtm_at "r_lv") | ((with_reducible apply b_any); assumption; wtm_at "r_lv") | ((with_reducible apply b_anyM); assumption; wtm_at "r_lv")
  | ((with_reducible apply b_tuple); wtm_at "r_lv") | (with_reducible exact b_listT) | ((with_reducible apply b_list); wtm_at "r_lv")
  | ((with_reducible apply b_max2); assumption) | ((with_reducible apply b_min2); assumption)
  | ((with_reducible apply b_maxT); assumption; assumption; wtm_at "r_ne") | ((with_reducible apply b_max); assumption; assumption; wtm_at "r_lv"; wtm_at "r_ne") | ((with_reducible apply b_maxM); assumption; assumption; wtm_at "r_lv"; wtm_at "r_ne")
  | ((with_reducible apply b_minT); assumption; assumption; wtm_at "r_ne") | ((with_reducible apply b_min); assumption; assumption; wtm_at "r_lv"; wtm_at "r_ne") | ((with_reducible apply b_minM); assumption; assumption; wtm_at "r_lv"; wtm_at "r_ne")
  | (with_reducible exact b_intB) | (with_reducible exact b_abs) | ((with_reducible apply b_strI); wtm_at "r_sd"; wtm_at "r_sd") | ((with_reducible apply b_str); wtm_at "r_sd")
  | ((with_reducible apply b_isXM); wtm_at "r_as"; wtm_at "r_as"; (decide)) | ((with_reducible apply b_isXV); wtm_at "r_as"; wtm_at "r_as")
  | ((with_reducible apply b_isBool); wtm_at "r_vw") | ((with_reducible apply b_isInt); wtm_at "r_vw") | ((with_reducible apply b_isTuple); wtm_at "r_vw"))
local macro_rules | `(tactic| wtm_at "r_R") => `(tactic| first | exact ⟨_, rfl, rfl⟩ | exact ⟨_, rfl, by wtm_at "r_sd", rfl⟩ | exact ⟨_, rfl, by wtm_at "r_sd", by wtm_at "r_sd", rfl⟩)
local macro_rules | `(tactic| wtm_at "r_ne") => `(tactic| first | assumption | (exact fun z => nomatch z))
local macro_rules | `(tactic| wtm_at "r_er") => `(tactic| first
  | wtm_at "r_nm"
  | (with_reducible exact er_int) | (with_reducible exact er_str) | (with_reducible exact er_bl) | (with_reducible exact er_non)
  | ((with_reducible show ER _ (.BinOp _ _ _ _) _ _); (with_reducible apply er_bin); wtm_at "r_er"; wtm_at "r_er"; wtm_at "r_op")
  | ((with_reducible show ER _ (.Subscript _ (.Slice _ _ none _) _) _ _); (with_reducible apply er_sl); wtm_at "r_er"; wtm_at "r_eo"; wtm_at "r_eo"; wtm_at "r_sl")
  | ((with_reducible show ER _ (.Subscript _ _ _) _ _); (with_reducible apply er_ix); wtm_at "r_er"; wtm_at "r_er"; wtm_at "r_ix"; (exact fun _ _ => rfl))
  | ((with_reducible show ER _ (.Compare _ [_] _ _) _ _); (with_reducible apply er_cmp); wtm_at "r_er"; wtm_at "r_er"; wtm_at "r_op"; (first | exact nomark _ | rfl))
  | ((with_reducible show ER _ (.Call (.Name _ _) (_ :: _) _ _) _ _); first
    | ((with_reducible apply er_cb); wtm_at "r_as"; wtm_at "r_ea"; wtm_at "r_cb"; (exact rfl); (exact rfl))
    | ((with_reducible apply er_ct); wtm_at "r_as"; wtm_at "r_ea"; wtm_at "r_cb"; (exact rfl); (exact rfl))
    | ((with_reducible apply er_call); wtm_at "r_as"; wtm_at "r_ea"; wtm_at "r_dt"; wtm_at "r_R"; (exact rfl); (exact rfl)))
  | ((with_reducible show ER _ (.Call (.Name _ _) [] _ _) _ _); (with_reducible apply er_call0); wtm_at "r_as"; wtm_at "r_R")
  | ((with_reducible show ER _ (.ListComp _ _ _ _) _ _); (with_reducible apply er_lc); wtm_at "r_lc")
  | ((with_reducible show ER _ (.Tuple _ _ _) _ _); (exact er_litT rfl))
  | ((with_reducible show ER _ (.List _ _) _ _); (exact er_litL rfl (by decide)))
  | ((with_reducible show ER _ (.Tuple _ _ _) _ _); (with_reducible apply er_tup); wtm_at "r_ea"; wtm_at "r_dt"; wtm_at "r_sd")
  | ((with_reducible show ER _ (.List _ _) _ _); (with_reducible apply er_lst); wtm_at "r_ea"; wtm_at "r_dt"; wtm_at "r_sd")
  | ((with_reducible show ER _ (.UnaryOp .USub _ _) _ _); (with_reducible apply er_neg); wtm_at "r_er")
  | ((with_reducible show ER _ (.UnaryOp .Not _ _) _ _); (with_reducible apply er_not); wtm_at "r_er")
  | ((with_reducible show ER _ (.BoolOp .Or (_ :: _ :: _) _) _ _); (with_reducible apply er_or); wtm_at "r_er"; (intro _; wtm_at "r_er"))
  | ((with_reducible show ER _ (.BoolOp .And (_ :: _ :: _) _) _ _); (with_reducible apply er_and); wtm_at "r_er"; (intro _; wtm_at "r_er"))
  | ((with_reducible show ER _ (.BoolOp _ [_] _) _ _); (with_reducible apply er_one); wtm_at "r_er")
  | ((with_reducible show ER _ (.IfExp _ _ _ _) _ _); first
    | ((with_reducible apply er_ifI); wtm_at "r_tr"; (intro _; wtm_at "r_er"); (intro _; wtm_at "r_er"))
    | ((with_reducible apply er_ifD); wtm_at "r_tr"; (intro _; wtm_at "r_er"); (intro _; wtm_at "r_er")))
  | ((with_reducible show ER _ (.Compare _ [_, _] _ _) _ _); (with_reducible apply er_chain); wtm_at "r_er"; wtm_at "r_er"; wtm_at "r_op"; (intro _; wtm_at "r_er"); (intro _; wtm_at "r_op"); (with_unfolding_all rfl)))
local macro_rules | `(tactic| wtm_at "r_eo") => `(tactic| first | (with_reducible exact eo_none) | ((with_reducible apply eo_some); wtm_at "r_er"))
local macro_rules | `(tactic| wtm_at "r_ea") => `(tactic| first
  | (with_reducible exact ea_nil)
  | ((with_reducible apply ea_cons); wtm_at "r_er"; wtm_at "r_ea"; (exact rfl)))
local macro_rules | `(tactic| wtm_at "r_tr") => `(tactic| first
  | ((with_reducible show TR _ (.Compare _ [_] _ _) _ _); (with_reducible apply tr_cmp); wtm_at "r_er"; wtm_at "r_er"; wtm_at "r_op"; (first | exact nomark _ | rfl))
  | ((with_reducible show TR _ (.Compare _ [_, _] _ _) _ _); (with_reducible apply tr_chain); wtm_at "r_er"; wtm_at "r_er"; wtm_at "r_op"; (intro _; wtm_at "r_er"); (intro _; wtm_at "r_op"); (with_unfolding_all rfl))
  | ((with_reducible show TR _ (.BoolOp _ _ _) _ _); (with_reducible apply TW.tr); wtm_at "r_tw")
  | ((with_reducible show TR _ (.UnaryOp .Not _ _) _ _); (with_reducible apply tr_not); wtm_at "r_tr")
  | ((with_reducible apply tr_val); wtm_at "r_er"; wtm_at "r_vw"; (exact rfl); (intro _; rfl)))
local macro_rules | `(tactic| wtm_at "r_tw") => `(tactic| first
  | ((with_reducible show TW _ (.BoolOp .Or [_] _) _ _); (with_reducible apply tw_or1); wtm_at "r_tr")
  | ((with_reducible show TW _ (.BoolOp .And [_] _) _ _); (with_reducible apply tw_and1); wtm_at "r_tr")
  | ((with_reducible show TW _ (.BoolOp .Or (_ :: _ :: _) _) _ _); (with_reducible apply tw_or); wtm_at "r_tr"; (intro _; wtm_at "r_tw"))
  | ((with_reducible show TW _ (.BoolOp .And (_ :: _ :: _) _) _ _); (with_reducible apply tw_and); wtm_at "r_tr"; (intro _; wtm_at "r_tw")))
local macro_rules | `(tactic| wtm_at "s_ret") => `(tactic| ((with_reducible apply ws_ret); (with_reducible apply we_p); wtm_at "r_er"))
local macro_rules | `(tactic| wtm_at "s_set") => `(tactic| ((with_reducible apply ws_set); wtm_at "r_as"; (with_reducible apply we_p); wtm_at "r_er"))
local macro_rules | `(tactic| wtm_at "s_sto") => `(tactic| ((with_reducible apply ws_storeI); wtm_at "r_er"; wtm_at "r_er"; wtm_at "r_er"; first | exact (rfl : _[0]? = _) | exact (rfl : _[1]? = _) | exact (rfl : _[2]? = _)))

/-- one of a list -/
def T_pick : Tl := fun ds c P => ∃ xs : List PyData, ds = [.list xs] ∧ xs ≠ [] ∧ xs.length ≤ 100000 ∧ c = 1 ∧ P = fun s => ∃ x ∈ xs, s = .d x
theorem sc_law_pick : FnScope ["script", "town", "some"] ["script", "town", "some"] (defScope s_law_pick) := ⟨rfl, rfl, rfl, by decide +kernel, rfl, by decide +kernel, by decide +kernel⟩
theorem ok_law_pick {M : Md} {f : Addr} {fd : FuncData} (T : Tx M) (F : FnP M.K "_law_pick" s_law_pick f fd) (hm : M.mg "_law_pick" = some (.ref f)) (D_law_draw : DfT M "_law_draw" T_draw 3) : DfT M "_law_pick" T_pick 4 := by
  refine fnT F hm (F.bindsN fun _ _ _ _ _ _ us hl => match us, hl with | [_, _, _], _ => rfl) sc_law_pick ?hlen (by decide) ?hbody
  case hlen => rintro ds c P ⟨_, rfl, _⟩; rfl
  case hbody =>
    rintro X cf fn hx A B t ns zs ds c P ⟨xs, rfl, hne, hx1, rfl, rfl⟩ hc1
    have hu := cf.un
    have hc := cf.calm
    have hN := cf.nd
    have n_script := cf.nm (x := "script") 0 rfl (by decide +kernel)
    have n_town := cf.nm (x := "town") 1 rfl (by decide +kernel)
    have n_some := cf.nm (x := "some") 2 rfl (by decide +kernel)
    have f_law_draw := cf.fcT (x := "_law_draw") D_law_draw (by first | decide | omega) (by decide +kernel)
    have b_len := cf.bt (x := "len") (f := .builtin "len") (by decide +kernel) T.b_len (by decide +kernel)
    have hl : 0 < xs.length := List.length_pos_iff.mpr hne
    with_unfolding_all apply wb_one
    refine ws_ret (we_ix (we_p (by wtm_at "r_er") (we_draw (j := 0) (zs := zs) (many := (xs.length : Nat)) f_law_draw (by wtm_at "r_ea") rfl (by omega) (by omega) (fun zs2 v hl2 hv0 hv1 => ?_))) (fun _ _ => rfl))
    obtain ⟨n, rfl⟩ := Int.eq_ofNat_of_zero_le hv0
    have hn : n < xs.length := by omega
    have hx2 : xs[n]? = some xs[n] := List.getElem?_eq_getElem hn
    exact ⟨.d xs[n], o_ixL .d (atI_nat hx2), rfl, rfl, 0, zs2, rfl, by omega, _, .d, xs[n], List.getElem_mem hn, rfl⟩
end Rd

namespace Rd
open PySem PySem.Spec PyProof.Rows L2 TL
local macro_rules | `(tactic| wtm_at "r_sd") => `(tactic| first | assumption | omega | decide | (simp only [List.length_cons, List.length_nil, List.length_append, List.length_map, List.length_replicate, List.length_set, sizeLine_eq]; omega) | (simp; omega))
local macro_rules | `(tactic| wtm_at "r_as") => `(tactic| (with_reducible assumption))
local macro_rules | `(tactic| wtm_at "r_nm") => `(tactic| ((with_reducible show ER _ (.Name _ _) _ _); first
  | ((with_reducible apply er_name); wtm_at "r_as"; exact rfl)
  | ((with_reducible apply er_nameL); wtm_at "r_as"; exact rfl)
  | ((with_reducible apply er_nameV); wtm_at "r_as"; exact rfl)
  | ((with_reducible apply er_nameX); wtm_at "r_as"; exact rfl)
  | ((with_reducible apply er_gcI); wtm_at "r_as")
  | ((with_reducible apply er_gcS); wtm_at "r_as")
  | ((with_reducible apply Bt.ty); wtm_at "r_as")
  | ((with_reducible apply er_gcV); wtm_at "r_as")
  | ((with_reducible apply Ec.er); wtm_at "r_as")))
local macro_rules | `(tactic| wtm_at "r_lv") => `(tactic| first | (with_reducible exact Lv.d) | (with_reducible exact Lv.f) | (with_reducible exact Lv.l) | exact Lv.c 0 rfl | exact Lv.c 1 rfl | exact Lv.c 2 rfl)
local macro_rules | `(tactic| wtm_at "r_tv") => `(tactic| first | (with_reducible exact Tv.f) | (with_reducible exact Tv.l) | exact Tv.c 0 rfl | exact Tv.c 1 rfl | exact Tv.c 2 rfl)
local macro_rules | `(tactic| wtm_at "r_vw") => `(tactic| first | (with_reducible exact Vw.d) | (with_reducible exact Vw.f) | (with_reducible exact Vw.l) | exact Vw.c 0 rfl | exact Vw.c 1 rfl | exact Vw.c 2 rfl)
local macro_rules | `(tactic| wtm_at "r_dt") => `(tactic| first | (with_reducible exact DtL.nil) | ((with_reducible apply DtL.cons); (first | (with_reducible exact Dt.d) | (with_reducible exact Dt.f) | (with_reducible exact Dt.l)); wtm_at "r_dt"))
local macro_rules | `(tactic| wtm_at "r_op") => `(tactic| first
  | (with_reducible exact o_add) | (with_reducible exact o_sub) | (with_reducible exact o_lt) | (with_reducible exact o_le) | (with_reducible exact o_gt) | (with_reducible exact o_ge)
  | (with_reducible exact o_eqI) | (with_reducible exact o_neI) | (with_reducible exact o_eqN) | (with_reducible exact o_neN) | (with_reducible exact o_inN) | (with_reducible exact o_notInN) | (with_reducible exact o_eqS) | (with_reducible exact o_neS)
  | ((with_reducible apply o_mod); wtm_at "r_sd")
  | ((with_reducible apply o_div); (first | exact ⟨by decide, by decide⟩ | exact ⟨by omega, by omega⟩))
  | ((with_reducible apply o_isN); (exact fun z => nomatch z); (first | exact fun _ z => nomatch z | exact fun y z => ⟨_, (Sl.v.inj z).symm⟩))
  | ((with_reducible apply o_notN); (exact fun z => nomatch z); (first | exact fun _ z => nomatch z | exact fun y z => ⟨_, (Sl.v.inj z).symm⟩))
  | ((with_reducible apply o_mul); (first | exact Or.inl ⟨by omega, by omega⟩ | exact Or.inr ⟨by omega, by omega⟩))
  | ((with_reducible apply o_inI); wtm_at "r_lv")
  | ((with_reducible apply o_catTI); wtm_at "r_sd")
  | ((with_reducible apply o_catT); wtm_at "r_sd")
  | ((with_reducible apply o_catLI); wtm_at "r_tv"; wtm_at "r_tv"; wtm_at "r_sd")
  | ((with_reducible apply o_catL); wtm_at "r_tv"; wtm_at "r_tv"; wtm_at "r_sd")
  | ((with_reducible apply o_catN); wtm_at "r_sd")
  | ((with_reducible apply o_catS); wtm_at "r_sd")
  | ((with_reducible apply o_rep0); wtm_at "r_sd"; wtm_at "r_sd")
  | ((with_reducible apply o_repL); wtm_at "r_tv"; wtm_at "r_sd"; wtm_at "r_sd"; wtm_at "r_sd")
  | ((with_reducible apply o_repT); (exact fun z => nomatch z); wtm_at "r_sd"; wtm_at "r_sd"; wtm_at "r_sd")
  | ((with_reducible apply o_eqD); assumption; wtm_at "r_vw"; wtm_at "r_vw"; wtm_at "r_dp")
  | ((with_reducible apply o_neD); assumption; wtm_at "r_vw"; wtm_at "r_vw"; wtm_at "r_dp"))
local macro_rules | `(tactic| wtm_at "r_dp") => `(tactic| first | assumption | (exact dep_l (by wtm_at "r_de")) | (exact dep_r (by wtm_at "r_de")))
local macro_rules | `(tactic| wtm_at "r_de") => `(tactic| first | (exact dep_ints _) | (exact dep_intsL _) | (simp only [PyData.depth, PyData.depthAll, PySem.W.depth_ints]; omega))
local macro_rules | `(tactic| wtm_at "r_ix") => `(tactic| first
  | ((with_reducible apply o_ixTI); wtm_at "r_sd"; wtm_at "r_sd")
  | ((with_reducible apply o_ixT); (exact rfl))
  | ((with_reducible apply o_ixLI); wtm_at "r_lv"; wtm_at "r_sd"; wtm_at "r_sd")
  | ((with_reducible apply o_ixL); wtm_at "r_lv"; (exact rfl))
  | ((with_reducible apply o_ixN); wtm_at "r_sd"; (exact rfl)) | (exact o_ixH 0 rfl rfl) | (exact o_ixH 1 rfl rfl) | (exact o_ixH 2 rfl rfl))
local macro_rules | `(tactic| wtm_at "r_sl") => `(tactic| first | (with_reducible exact o_slTI) | (with_reducible exact o_slT) | ((with_reducible apply o_slLI); wtm_at "r_lv") | ((with_reducible apply o_slL); wtm_at "r_lv") | ((with_reducible apply o_slN); wtm_at "r_sd") | ((with_reducible apply o_slS); wtm_at "r_sd"))
local macro_rules | `(tactic| wtm_at "r_cb") => `(tactic| first
  | (with_reducible exact b_lenTI) | (with_reducible exact b_lenT) | ((with_reducible apply b_len); wtm_at "r_lv") | ((with_reducible apply b_lenN); wtm_at "r_sd") | ((with_reducible apply b_lenS); wtm_at "r_sd")
  | ((with_reducible apply b_sumT); assumption) | ((with_reducible apply b_sum); assumption; wtm_at "r_lv") | ((with_reducible apply b_sumM); assumption; wtm_at "r_lv")
  | ((with_reducible apply b_all); assumption; wtm_at "r_lv") | ((with_reducible apply b_allM); assumption; wtm_at "r_lv") | ((with_reducible apply b_any); assumption; wtm_at "r_lv") | ((with_reducible apply b_anyM); assumption; wtm_at "r_lv")
  | ((with_reducible apply b_tuple); wtm_at "r_lv") | (with_reducible exact b_listT) | ((with_reducible apply b_list); wtm_at "r_lv")
  | ((with_reducible apply b_max2); assumption) | ((with_reducible apply b_min2); assumption)
  | ((with_reducible apply b_maxT); assumption; assumption; wtm_at "r_ne") | ((with_reducible apply b_max); assumption; assumption; wtm_at "r_lv"; wtm_at "r_ne") | ((with_reducible apply b_maxM); assumption; assumption; wtm_at "r_lv"; wtm_at "r_ne")
  | ((with_reducible apply b_minT); assumption; assumption; wtm_at "r_ne") | ((with_reducible apply b_min); assumption; assumption; wtm_at "r_lv"; wtm_at "r_ne") | ((with_reducible apply b_minM); assumption; assumption; wtm_at "r_lv"; wtm_at "r_ne")
  | (with_reducible exact b_intB) | (with_reducible exact b_abs) | ((with_reducible apply b_strI); wtm_at "r_sd"; wtm_at "r_sd") | ((with_reducible apply b_str); wtm_at "r_sd")
  | ((with_reducible apply b_isXM); wtm_at "r_as"; wtm_at "r_as"; (decide)) | ((with_reducible apply b_isXV); wtm_at "r_as"; wtm_at "r_as")
  | ((with_reducible apply b_isBool); wtm_at "r_vw") | ((with_reducible apply b_isInt); wtm_at "r_vw") | ((with_reducible apply b_isTuple); wtm_at "r_vw"))
local macro_rules | `(tactic| wtm_at "r_R") => `(tactic| first | exact ⟨_, rfl, rfl⟩ | exact ⟨_, rfl, by wtm_at "r_sd", rfl⟩ | exact ⟨_, rfl, by wtm_at "r_sd", by wtm_at "r_sd", rfl⟩)
local macro_rules | `(tactic| wtm_at "r_ne") => `(tactic| first | assumption | (exact fun z => nomatch z))
local macro_rules | `(tactic| wtm_at "r_er") => `(tactic| first
  | wtm_at "r_nm"
  | (with_reducible exact er_int) | (with_reducible exact er_str) | (with_reducible exact er_bl) | (with_reducible exact er_non)
  | ((with_reducible show ER _ (.BinOp _ _ _ _) _ _); (with_reducible apply er_bin); wtm_at "r_er"; wtm_at "r_er"; wtm_at "r_op")
  | ((with_reducible show ER _ (.Subscript _ (.Slice _ _ none _) _) _ _); (with_reducible apply er_sl); wtm_at "r_er"; wtm_at "r_eo"; wtm_at "r_eo"; wtm_at "r_sl")
  | ((with_reducible show ER _ (.Subscript _ _ _) _ _); (with_reducible apply er_ix); wtm_at "r_er"; wtm_at "r_er"; wtm_at "r_ix"; (exact fun _ _ => rfl))
  | ((with_reducible show ER _ (.Compare _ [_] _ _) _ _); (with_reducible apply er_cmp); wtm_at "r_er"; wtm_at "r_er"; wtm_at "r_op"; (first | exact nomark _ | rfl))
  | ((with_reducible show ER _ (.Call (.Name _ _) (_ :: _) _ _) _ _); first
    | ((with_reducible apply er_cb); wtm_at "r_as"; wtm_at "r_ea"; wtm_at "r_cb"; (exact rfl); (exact rfl))
    | ((with_reducible apply er_ct); wtm_at "r_as"; wtm_at "r_ea"; wtm_at "r_cb"; (exact rfl); (exact rfl))
    | ((with_reducible apply er_call); wtm_at "r_as"; wtm_at "r_ea"; wtm_at "r_dt"; wtm_at "r_R"; (exact rfl); (exact rfl)))
  | ((with_reducible show ER _ (.Call (.Name _ _) [] _ _) _ _); (with_reducible apply er_call0); wtm_at "r_as"; wtm_at "r_R")
  | ((with_reducible show ER _ (.ListComp _ _ _ _) _ _); (with_reducible apply er_lc); wtm_at "r_lc")
  | ((with_reducible show ER _ (.Tuple _ _ _) _ _); (exact er_litT rfl))
  | ((with_reducible show ER _ (.List _ _) _ _); (exact er_litL rfl (by decide)))
  | ((with_reducible show ER _ (.Tuple _ _ _) _ _); (with_reducible apply er_tup); wtm_at "r_ea"; wtm_at "r_dt"; wtm_at "r_sd")
  | ((with_reducible show ER _ (.List _ _) _ _); (with_reducible apply er_lst); wtm_at "r_ea"; wtm_at "r_dt"; wtm_at "r_sd")
  | ((with_reducible show ER _ (.UnaryOp .USub _ _) _ _); (with_reducible apply er_neg); wtm_at "r_er")
  | ((with_reducible show ER _ (.UnaryOp .Not _ _) _ _); (with_reducible apply er_not); wtm_at "r_er")
  | ((with_reducible show ER _ (.BoolOp .Or (_ :: _ :: _) _) _ _); (with_reducible apply er_or); wtm_at "r_er"; (intro _; wtm_at "r_er"))
  | ((with_reducible show ER _ (.BoolOp .And (_ :: _ :: _) _) _ _); (with_reducible apply er_and); wtm_at "r_er"; (intro _; wtm_at "r_er"))
  | ((with_reducible show ER _ (.BoolOp _ [_] _) _ _); (with_reducible apply er_one); wtm_at "r_er")
  | ((with_reducible show ER _ (.IfExp _ _ _ _) _ _); first
    | ((with_reducible apply er_ifI); wtm_at "r_tr"; (intro _; wtm_at "r_er"); (intro _; wtm_at "r_er"))
    | ((with_reducible apply er_ifD); wtm_at "r_tr"; (intro _; wtm_at "r_er"); (intro _; wtm_at "r_er")))
  | ((with_reducible show ER _ (.Compare _ [_, _] _ _) _ _); (with_reducible apply er_chain); wtm_at "r_er"; wtm_at "r_er"; wtm_at "r_op"; (intro _; wtm_at "r_er"); (intro _; wtm_at "r_op"); (with_unfolding_all rfl)))
local macro_rules | `(tactic| wtm_at "r_eo") => `(tactic| first | (with_reducible exact eo_none) | ((with_reducible apply eo_some); wtm_at "r_er"))
local macro_rules | `(tactic| wtm_at "r_ea") => `(tactic| first
  | (with_reducible exact ea_nil)
  | ((with_reducible apply ea_cons); wtm_at "r_er"; wtm_at "r_ea"; (exact rfl)))
local macro_rules | `(tactic| wtm_at "r_tr") => `(tactic| first
  | ((with_reducible show TR _ (.Compare _ [_] _ _) _ _); (with_reducible apply tr_cmp); wtm_at "r_er"; wtm_at "r_er"; wtm_at "r_op"; (first | exact nomark _ | rfl))
  | ((with_reducible show TR _ (.Compare _ [_, _] _ _) _ _); (with_reducible apply tr_chain); wtm_at "r_er"; wtm_at "r_er"; wtm_at "r_op"; (intro _; wtm_at "r_er"); (intro _; wtm_at "r_op"); (with_unfolding_all rfl))
  | ((with_reducible show TR _ (.BoolOp _ _ _) _ _); (with_reducible apply TW.tr); wtm_at "r_tw")
  | ((with_reducible show TR _ (.UnaryOp .Not _ _) _ _); (with_reducible apply tr_not); wtm_at "r_tr")
  | ((with_reducible apply tr_val); wtm_at "r_er"; wtm_at "r_vw"; (exact rfl); (intro _; rfl)))
local macro_rules | `(tactic| wtm_at "r_tw") => `(tactic| first
  | ((with_reducible show TW _ (.BoolOp .Or [_] _) _ _); (with_reducible apply tw_or1); wtm_at "r_tr")
  | ((with_reducible show TW _ (.BoolOp .And [_] _) _ _); (with_reducible apply tw_and1); wtm_at "r_tr")
  | ((with_reducible show TW _ (.BoolOp .Or (_ :: _ :: _) _) _ _); (with_reducible apply tw_or); wtm_at "r_tr"; (intro _; wtm_at "r_tw"))
  | ((with_reducible show TW _ (.BoolOp .And (_ :: _ :: _) _) _ _); (with_reducible apply tw_and); wtm_at "r_tr"; (intro _; wtm_at "r_tw")))
local macro_rules | `(tactic| wtm_at "s_ret") => `(tactic| ((with_reducible apply ws_ret); (with_reducible apply we_p); wtm_at "r_er"))
local macro_rules | `(tactic| wtm_at "s_set") => `(tactic| ((with_reducible apply ws_set); wtm_at "r_as"; (with_reducible apply we_p); wtm_at "r_er"))
local macro_rules | `(tactic| wtm_at "s_sto") => `(tactic| ((with_reducible apply ws_storeI); wtm_at "r_er"; wtm_at "r_er"; wtm_at "r_er"; first | exact (rfl : _[0]? = _) | exact (rfl : _[1]? = _) | exact (rfl : _[2]? = _)))

theorem sc_law_place : FnScope ["script", "town", "way"] ["script", "town"] (defScope s_law_place) := ⟨rfl, rfl, rfl, by decide +kernel, rfl, by decide +kernel, by decide +kernel⟩
theorem ok_law_place {M : Md} {f : Addr} {fd : FuncData} (T : Tx M) (F : FnP M.K "_law_place" s_law_place f fd) (hm : M.mg "_law_place" = some (.ref f)) (D_law_draw : DfT M "_law_draw" T_draw 3) : DfT M "_law_place" T_place 4 := by
  refine fnT F hm (F.bindsN fun _ _ _ _ _ _ us hl => match us, hl with | [_, _], _ => rfl) sc_law_place ?hlen (by decide) ?hbody
  case hlen => rintro ds c P ⟨rfl, _⟩; rfl
  case hbody =>
    rintro X cf fn hx A B t ns zs ds c P ⟨rfl, rfl, rfl⟩ hc1
    have hu := cf.un
    have hc := cf.calm
    have hN := cf.nd
    have n_script := cf.nm (x := "script") 0 rfl (by decide +kernel)
    have n_town := cf.nm (x := "town") 1 rfl (by decide +kernel)
    have n_way := cf.nm (x := "way") 2 rfl (by decide +kernel)
    have l_way := cf.nl (x := "way") 2 rfl (by decide +kernel) (Or.inl (fn _))
    have f_law_draw := cf.fcT (x := "_law_draw") D_law_draw (by first | decide | omega) (by decide +kernel)
    with_unfolding_all apply wb_cons
    refine ws_set l_way (we_draw (j := 0) (zs := zs) f_law_draw (by wtm_at "r_ea") rfl (by omega) (by omega) (fun zs1 w hl1 hw0 hw1 => ?_))
    apply wb_cons
    refine ws_if (k := decide (w < 5)) (by wtm_at "r_tr") (fun h => ?_) (fun h => ?_)
    · apply wb_one
      refine ws_ret (we_bin (we_p er_int (we_draw (j := 0) (zs := zs1) f_law_draw (by wtm_at "r_ea") rfl (by omega) (by omega) (fun zs2 v hl2 hv0 hv1 => ⟨_, o_add, ?_⟩))))
      exact ⟨rfl, rfl, 0, zs2, rfl, by omega, _, .d, _, by omega, by omega, rfl⟩
    · apply wb_nil
      apply wb_cons
      refine ws_if (k := decide (w < 9)) (by wtm_at "r_tr") (fun h => ?_) (fun h2 => ?_)
      · apply wb_one
        refine ws_ret (we_bin (we_p er_int (we_draw (j := 0) (zs := zs1) f_law_draw (by wtm_at "r_ea") rfl (by omega) (by omega) (fun zs2 v hl2 hv0 hv1 => ⟨_, o_add, ?_⟩))))
        exact ⟨rfl, rfl, 0, zs2, rfl, by omega, _, .d, _, by omega, by omega, rfl⟩
      · apply wb_nil
        apply wb_one
        have h9 : ¬ w < 9 := of_decide_eq_false h2
        have e : w - 9 = 0 ∨ w - 9 = 1 ∨ w - 9 = 2 := by omega
        refine ws_ret (we_p (ra := .d (.int (at0 [25, 0, 0] (w - 9)))) (er_ix (ra := .f ([25, 0, 0].map .int)) (er_litL rfl (by decide)) (by wtm_at "r_er") (o_ixLI .f (by omega) (by show w - 9 < (3 : Nat); omega)) (fun _ _ => rfl)) ?_)
        refine ⟨rfl, rfl, 0, zs1, rfl, by omega, _, .d, _, ?_, ?_, rfl⟩
        · rcases e with e | e | e <;> rw [e] <;> decide
        · rcases e with e | e | e <;> rw [e] <;> decide
end Rd

namespace Rd
open PySem PySem.Spec PyProof.Rows L2 TL
local macro_rules | `(tactic| wtm_at "r_sd") => `(tactic| first | assumption | omega | decide | (simp only [List.length_cons, List.length_nil, List.length_append, List.length_map, List.length_replicate, List.length_set, sizeLine_eq]; omega) | (simp; omega))
local macro_rules | `(tactic| wtm_at "r_as") => `(tactic| (with_reducible assumption))
local macro_rules | `(tactic| wtm_at "r_nm") => `(tactic| ((with_reducible show ER _ (.Name _ _) _ _); first
  | ((with_reducible apply er_name); wtm_at "r_as"; exact rfl)
  | ((with_reducible apply er_nameL); wtm_at "r_as"; exact rfl)
  | ((with_reducible apply er_nameV); wtm_at "r_as"; exact rfl)
  | ((with_reducible apply er_nameX); wtm_at "r_as"; exact rfl)
  | ((with_reducible apply er_gcI); wtm_at "r_as")
  | ((with_reducible apply er_gcS); wtm_at "r_as")
  | ((with_reducible apply Bt.ty); wtm_at "r_as")
  | ((with_reducible apply er_gcV); wtm_at "r_as")
  | ((with_reducible apply Ec.er); wtm_at "r_as")))
local macro_rules | `(tactic| wtm_at "r_lv") => `(tactic| first | (with_reducible exact Lv.d) | (with_reducible exact Lv.f) | (with_reducible exact Lv.l) | exact Lv.c 0 rfl | exact Lv.c 1 rfl | exact Lv.c 2 rfl)
local macro_rules | `(tactic| wtm_at "r_tv") => `(tactic| first | (with_reducible exact Tv.f) | (with_reducible exact Tv.l) | exact Tv.c 0 rfl | exact Tv.c 1 rfl | exact Tv.c 2 rfl)
local macro_rules | `(tactic| wtm_at "r_vw") => `(tactic| first | (with_reducible exact Vw.d) | (with_reducible exact Vw.f) | (with_reducible exact Vw.l) | exact Vw.c 0 rfl | exact Vw.c 1 rfl | exact Vw.c 2 rfl)
local macro_rules | `(tactic| wtm_at "r_dt") => `(tactic| first | (with_reducible exact DtL.nil) | ((with_reducible apply DtL.cons); (first | (with_reducible exact Dt.d) | (with_reducible exact Dt.f) | (with_reducible exact Dt.l)); wtm_at "r_dt"))
local macro_rules | `(tactic| wtm_at "r_op") => `(tactic| first
  | (with_reducible exact o_add) | (with_reducible exact o_sub) | (with_reducible exact o_lt) | (with_reducible exact o_le) | (with_reducible exact o_gt) | (with_reducible exact o_ge)
  | (with_reducible exact o_eqI) | (with_reducible exact o_neI) | (with_reducible exact o_eqN) | (with_reducible exact o_neN) | (with_reducible exact o_inN) | (with_reducible exact o_notInN) | (with_reducible exact o_eqS) | (with_reducible exact o_neS)
  | ((with_reducible apply o_mod); wtm_at "r_sd")
  | ((with_reducible apply o_div); (first | exact ⟨by decide, by decide⟩ | exact ⟨by omega, by omega⟩))
  | ((with_reducible apply o_isN); (exact fun z => nomatch z); (first | exact fun _ z => nomatch z | exact fun y z => ⟨_, (Sl.v.inj z).symm⟩))
  | ((with_reducible apply o_notN); (exact fun z => nomatch z); (first | exact fun _ z => nomatch z | exact fun y z => ⟨_, (Sl.v.inj z).symm⟩))
  | ((with_reducible apply o_mul); (first | exact Or.inl ⟨by omega, by omega⟩ | exact Or.inr ⟨by omega, by omega⟩))
  | ((with_reducible apply o_inI); wtm_at "r_lv")
  | ((with_reducible apply o_catTI); wtm_at "r_sd")
  | ((with_reducible apply o_catT); wtm_at "r_sd")
  | ((with_reducible apply o_catLI); wtm_at "r_tv"; wtm_at "r_tv"; wtm_at "r_sd")
  | ((with_reducible apply o_catL); wtm_at "r_tv"; wtm_at "r_tv"; wtm_at "r_sd")
  | ((with_reducible apply o_catN); wtm_at "r_sd")
  | ((with_reducible apply o_catS); wtm_at "r_sd")
  | ((with_reducible apply o_rep0); wtm_at "r_sd"; wtm_at "r_sd")
  | ((with_reducible apply o_repL); wtm_at "r_tv"; wtm_at "r_sd"; wtm_at "r_sd"; wtm_at "r_sd")
  | ((with_reducible apply o_repT); (exact fun z => nomatch z); wtm_at "r_sd"; wtm_at "r_sd"; wtm_at "r_sd")
  | ((with_reducible apply o_eqD); assumption; wtm_at "r_vw"; wtm_at "r_vw"; wtm_at "r_dp")
  | ((with_reducible apply o_neD); assumption; wtm_at "r_vw"; wtm_at "r_vw"; wtm_at "r_dp"))
local macro_rules | `(tactic| wtm_at "r_dp") => `(tactic| first | assumption | (exact dep_l (by wtm_at "r_de")) | (exact dep_r (by wtm_at "r_de")))
local macro_rules | `(tactic| wtm_at "r_de") => `(tactic| first | (exact dep_ints _) | (exact dep_intsL _) | (simp only [PyData.depth, PyData.depthAll, PySem.W.depth_ints]; omega))
local macro_rules | `(tactic| wtm_at "r_ix") => `(tactic| first
  | ((with_reducible apply o_ixTI); wtm_at "r_sd"; wtm_at "r_sd")
  | ((with_reducible apply o_ixT); (exact rfl))
  | ((with_reducible apply o_ixLI); wtm_at "r_lv"; wtm_at "r_sd"; wtm_at "r_sd")
  | ((with_reducible apply o_ixL); wtm_at "r_lv"; (exact rfl))
  | ((with_reducible apply o_ixN); wtm_at "r_sd"; (exact rfl)) | (exact o_ixH 0 rfl rfl) | (exact o_ixH 1 rfl rfl) | (exact o_ixH 2 rfl rfl))
local macro_rules | `(tactic| wtm_at "r_sl") => `(tactic| first | (with_reducible exact o_slTI) | (with_reducible exact o_slT) | ((with_reducible apply o_slLI); wtm_at "r_lv") | ((with_reducible apply o_slL); wtm_at "r_lv") | ((with_reducible apply o_slN); wtm_at "r_sd") | ((with_reducible apply o_slS); wtm_at "r_sd"))
local macro_rules | `(tactic| wtm_at "r_cb") => `(tactic| first
  | (with_reducible exact b_lenTI) | (with_reducible exact b_lenT) | ((with_reducible apply b_len); wtm_at "r_lv") | ((with_reducible apply b_lenN); wtm_at "r_sd") | ((with_reducible apply b_lenS); wtm_at "r_sd")
  | ((with_reducible apply b_sumT); assumption) | ((with_reducible apply b_sum); assumption; wtm_at "r_lv") | ((with_reducible apply b_sumM); assumption; wtm_at "r_lv")
  | ((with_reducible apply b_all); assumption; wtm_at "r_lv") | ((with_reducible apply b_allM); assumption; wtm_at "r_lv") | ((with_reducible apply b_any); assumption; wtm_at "r_lv") | ((with_reducible apply b_anyM); assumption; wtm_at "r_lv")
  | ((with_reducible apply b_tuple); wtm_at "r_lv") | (with_reducible exact b_listT) | ((with_reducible apply b_list); wtm_at "r_lv")
  | ((with_reducible apply b_max2); assumption) | ((with_reducible apply b_min2); assumption)
  | ((with_reducible apply b_maxT); assumption; assumption; wtm_at "r_ne") | ((with_reducible apply b_max); assumption; assumption; wtm_at "r_lv"; wtm_at "r_ne") | ((with_reducible apply b_maxM); assumption; assumption; wtm_at "r_lv"; wtm_at "r_ne")
  | ((with_reducible apply b_minT); assumption; assumption; wtm_at "r_ne") | ((with_reducible apply b_min); assumption; assumption; wtm_at "r_lv"; wtm_at "r_ne") | ((with_reducible apply b_minM); assumption; assumption; wtm_at "r_lv"; wtm_at "r_ne")
  | (with_reducible exact b_intB) | (with_reducible exact b_abs) | ((with_reducible apply b_strI); wtm_at "r_sd"; wtm_at "r_sd") | ((with_reducible apply b_str); wtm_at "r_sd")
  | ((with_reducible apply b_isXM); wtm_at "r_as"; wtm_at "r_as"; (decide)) | ((with_reducible apply b_isXV); wtm_at "r_as"; wtm_at "r_as")
  | ((with_reducible apply b_isBool); wtm_at "r_vw") | ((with_reducible apply b_isInt); wtm_at "r_vw") | ((with_reducible apply b_isTuple); wtm_at "r_vw"))
local macro_rules | `(tactic| wtm_at "r_R") => `(tactic| first | exact ⟨_, rfl, rfl⟩ | exact ⟨_, rfl, by wtm_at "r_sd", rfl⟩ | exact ⟨_, rfl, by wtm_at "r_sd", by wtm_at "r_sd", rfl⟩)
local macro_rules | `(tactic| wtm_at "r_ne") => `(tactic| first | assumption | (exact fun z => nomatch z))
local macro_rules | `(tactic| wtm_at "r_er") => `(tactic| first
  | wtm_at "r_nm"
  | (with_reducible exact er_int) | (with_reducible exact er_str) | (with_reducible exact er_bl) | (with_reducible exact er_non)
  | ((with_reducible show ER _ (.BinOp _ _ _ _) _ _); (with_reducible apply er_bin); wtm_at "r_er"; wtm_at "r_er"; wtm_at "r_op")
  | ((with_reducible show ER _ (.Subscript _ (.Slice _ _ none _) _) _ _); (with_reducible apply er_sl); wtm_at "r_er"; wtm_at "r_eo"; wtm_at "r_eo"; wtm_at "r_sl")
  | ((with_reducible show ER _ (.Subscript _ _ _) _ _); (with_reducible apply er_ix); wtm_at "r_er"; wtm_at "r_er"; wtm_at "r_ix"; (exact fun _ _ => rfl))
  | ((with_reducible show ER _ (.Compare _ [_] _ _) _ _); (with_reducible apply er_cmp); wtm_at "r_er"; wtm_at "r_er"; wtm_at "r_op"; (first | exact nomark _ | rfl))
  | ((with_reducible show ER _ (.Call (.Name _ _) (_ :: _) _ _) _ _); first
    | ((with_reducible apply er_cb); wtm_at "r_as"; wtm_at "r_ea"; wtm_at "r_cb"; (exact rfl); (exact rfl))
    | ((with_reducible apply er_ct); wtm_at "r_as"; wtm_at "r_ea"; wtm_at "r_cb"; (exact rfl); (exact rfl))
    | ((with_reducible apply er_call); wtm_at "r_as"; wtm_at "r_ea"; wtm_at "r_dt"; wtm_at "r_R"; (exact rfl); (exact rfl)))
  | ((with_reducible show ER _ (.Call (.Name _ _) [] _ _) _ _); (with_reducible apply er_call0); wtm_at "r_as"; wtm_at "r_R")
  | ((with_reducible show ER _ (.ListComp _ _ _ _) _ _); (with_reducible apply er_lc); wtm_at "r_lc")
  | ((with_reducible show ER _ (.Tuple _ _ _) _ _); (exact er_litT rfl))
  | ((with_reducible show ER _ (.List _ _) _ _); (exact er_litL rfl (by decide)))
  | ((with_reducible show ER _ (.Tuple _ _ _) _ _); (with_reducible apply er_tup); wtm_at "r_ea"; wtm_at "r_dt"; wtm_at "r_sd")
  | ((with_reducible show ER _ (.List _ _) _ _); (with_reducible apply er_lst); wtm_at "r_ea"; wtm_at "r_dt"; wtm_at "r_sd")
  | ((with_reducible show ER _ (.UnaryOp .USub _ _) _ _); (with_reducible apply er_neg); wtm_at "r_er")
  | ((with_reducible show ER _ (.UnaryOp .Not _ _) _ _); (with_reducible apply er_not); wtm_at "r_er")
  | ((with_reducible show ER _ (.BoolOp .Or (_ :: _ :: _) _) _ _); (with_reducible apply er_or); wtm_at "r_er"; (intro _; wtm_at "r_er"))
  | ((with_reducible show ER _ (.BoolOp .And (_ :: _ :: _) _) _ _); (with_reducible apply er_and); wtm_at "r_er"; (intro _; wtm_at "r_er"))
  | ((with_reducible show ER _ (.BoolOp _ [_] _) _ _); (with_reducible apply er_one); wtm_at "r_er")
  | ((with_reducible show ER _ (.IfExp _ _ _ _) _ _); first
    | ((with_reducible apply er_ifI); wtm_at "r_tr"; (intro _; wtm_at "r_er"); (intro _; wtm_at "r_er"))
    | ((with_reducible apply er_ifD); wtm_at "r_tr"; (intro _; wtm_at "r_er"); (intro _; wtm_at "r_er")))
  | ((with_reducible show ER _ (.Compare _ [_, _] _ _) _ _); (with_reducible apply er_chain); wtm_at "r_er"; wtm_at "r_er"; wtm_at "r_op"; (intro _; wtm_at "r_er"); (intro _; wtm_at "r_op"); (with_unfolding_all rfl)))
local macro_rules | `(tactic| wtm_at "r_eo") => `(tactic| first | (with_reducible exact eo_none) | ((with_reducible apply eo_some); wtm_at "r_er"))
local macro_rules | `(tactic| wtm_at "r_ea") => `(tactic| first
  | (with_reducible exact ea_nil)
  | ((with_reducible apply ea_cons); wtm_at "r_er"; wtm_at "r_ea"; (exact rfl)))
local macro_rules | `(tactic| wtm_at "r_tr") => `(tactic| first
  | ((with_reducible show TR _ (.Compare _ [_] _ _) _ _); (with_reducible apply tr_cmp); wtm_at "r_er"; wtm_at "r_er"; wtm_at "r_op"; (first | exact nomark _ | rfl))
  | ((with_reducible show TR _ (.Compare _ [_, _] _ _) _ _); (with_reducible apply tr_chain); wtm_at "r_er"; wtm_at "r_er"; wtm_at "r_op"; (intro _; wtm_at "r_er"); (intro _; wtm_at "r_op"); (with_unfolding_all rfl))
  | ((with_reducible show TR _ (.BoolOp _ _ _) _ _); (with_reducible apply TW.tr); wtm_at "r_tw")
  | ((with_reducible show TR _ (.UnaryOp .Not _ _) _ _); (with_reducible apply tr_not); wtm_at "r_tr")
  | ((with_reducible apply tr_val); wtm_at "r_er"; wtm_at "r_vw"; (exact rfl); (intro _; rfl)))
local macro_rules | `(tactic| wtm_at "r_tw") => `(tactic| first
  | ((with_reducible show TW _ (.BoolOp .Or [_] _) _ _); (with_reducible apply tw_or1); wtm_at "r_tr")
  | ((with_reducible show TW _ (.BoolOp .And [_] _) _ _); (with_reducible apply tw_and1); wtm_at "r_tr")
  | ((with_reducible show TW _ (.BoolOp .Or (_ :: _ :: _) _) _ _); (with_reducible apply tw_or); wtm_at "r_tr"; (intro _; wtm_at "r_tw"))
  | ((with_reducible show TW _ (.BoolOp .And (_ :: _ :: _) _) _ _); (with_reducible apply tw_and); wtm_at "r_tr"; (intro _; wtm_at "r_tw")))
local macro_rules | `(tactic| wtm_at "s_ret") => `(tactic| ((with_reducible apply ws_ret); (with_reducible apply we_p); wtm_at "r_er"))
local macro_rules | `(tactic| wtm_at "s_set") => `(tactic| ((with_reducible apply ws_set); wtm_at "r_as"; (with_reducible apply we_p); wtm_at "r_er"))
local macro_rules | `(tactic| wtm_at "s_sto") => `(tactic| ((with_reducible apply ws_storeI); wtm_at "r_er"; wtm_at "r_er"; wtm_at "r_er"; first | exact (rfl : _[0]? = _) | exact (rfl : _[1]? = _) | exact (rfl : _[2]? = _)))

theorem sc_law_board : FnScope ["script", "town", "most", "many", "mine", "theirs", "k", "place", "free"] ["script", "town", "most"] (defScope s_law_board) := ⟨rfl, rfl, rfl, by decide +kernel, rfl, by decide +kernel, by decide +kernel⟩
theorem ok_law_board {M : Md} {f : Addr} {fd : FuncData} (T : Tx M) (F : FnP M.K "_law_board" s_law_board f fd) (hm : M.mg "_law_board" = some (.ref f)) (D_law_draw : DfT M "_law_draw" T_draw 3) (D_law_place : DfT M "_law_place" T_place 4) : DfT M "_law_board" T_board 5 := by
  refine fnT F hm (F.bindsN fun _ _ _ _ _ _ us hl => match us, hl with | [_, _, _], _ => rfl) sc_law_board ?hlen (by decide) ?hbody
  case hlen => rintro ds c P ⟨_, rfl, _⟩; rfl
  case hbody =>
    rintro X cf fn hx A B t ns zs ds c P ⟨most, rfl, hm0, hm1, rfl, rfl⟩ hc1
    have hu := cf.un
    have hc := cf.calm
    have hN := cf.nd
    have n_script := cf.nm (x := "script") 0 rfl (by decide +kernel)
    have n_town := cf.nm (x := "town") 1 rfl (by decide +kernel)
    have n_most := cf.nm (x := "most") 2 rfl (by decide +kernel)
    have n_many := cf.nm (x := "many") 3 rfl (by decide +kernel)
    have n_mine := cf.nm (x := "mine") 4 rfl (by decide +kernel)
    have n_theirs := cf.nm (x := "theirs") 5 rfl (by decide +kernel)
    have n_k := cf.nm (x := "k") 6 rfl (by decide +kernel)
    have n_place := cf.nm (x := "place") 7 rfl (by decide +kernel)
    have n_free := cf.nm (x := "free") 8 rfl (by decide +kernel)
    have l_many := cf.nl (x := "many") 3 rfl (by decide +kernel) (Or.inl (fn _))
    have l_mine := cf.nl (x := "mine") 4 rfl (by decide +kernel) (Or.inl (fn _))
    have l_theirs := cf.nl (x := "theirs") 5 rfl (by decide +kernel) (Or.inl (fn _))
    have l_k := cf.nl (x := "k") 6 rfl (by decide +kernel) (Or.inl (fn _))
    have l_place := cf.nl (x := "place") 7 rfl (by decide +kernel) (Or.inl (fn _))
    have l_free := cf.nl (x := "free") 8 rfl (by decide +kernel) (Or.inl (fn _))
    have f_law_draw := cf.fcT (x := "_law_draw") D_law_draw (by first | decide | omega) (by decide +kernel)
    have b_range := cf.btr (by decide +kernel) T.b_range
    have f_law_place := cf.fcT (x := "_law_place") D_law_place (by first | decide | omega) (by decide +kernel)
    have b_tuple := cf.bt (x := "tuple") (f := .type "tuple") (by decide +kernel) T.b_tuple (by decide +kernel)
    with_unfolding_all apply wb_cons
    refine ws_set l_many (we_bin (we_p er_int (we_draw (j := 0) (zs := zs) f_law_draw (by wtm_at "r_ea") rfl (by omega) (by omega) (fun zs1 w hl1 hw0 hw1 => ⟨_, o_add, ?_⟩))))
    obtain ⟨many, hmw⟩ : ∃ m : Nat, (1 : Int) + w = m := ⟨(1 + w).toNat, by omega⟩
    rw [hmw]
    apply wb_cons
    refine ws_setC l_mine (er_bin (ra := .f [.int 0]) (er_litL rfl (by decide)) (by wtm_at "r_er") (o_rep0 (by omega) (by omega))) (fun am => ?_)
    apply wb_cons
    refine ws_setC l_theirs (er_bin (ra := .f [.int 0]) (er_litL rfl (by decide)) (by wtm_at "r_er") (o_rep0 (by omega) (by omega))) (fun at' => ?_)
    have e26 : (26 : Int).toNat = 26 := rfl
    simp only [e26]
    apply wb_cons
    refine ws_for1 (n := many) (D := { rtT A B t (zs.length + 61) (fun s => ∃ many b, 1 ≤ many ∧ many ≤ most ∧ Brd many b ∧ s = .d (dB b)) with nx := _ }) hx b_range (by wtm_at "r_ea") (by omega) (fun i G' => ∃ s6 zs' l, zs'.length ≤ zs.length + 1 + 2 * i ∧ l.length = 26 ∧ NN l ∧ l.sum = i ∧ G' = ⟨A, B, [.d (.list (ns.map .int)), .v (.ref t), .d (.int most), .d (.int many), .v (.ref am), .v (.ref at'), s6, .no, .no], [(at', .ls ((List.replicate 26 0).map .int)), (am, .ls (l.map .int)), (t, .ls (zs'.map .int))]⟩) ⟨_, zs1, _, hl1, List.length_replicate, NN.rep 26, sum_rep 26, rfl⟩ ?_ ?_ rfl (fun _ => rfl)
    · rintro i G' hi ⟨s6, zs', l, q1, q2, q3, q4, rfl⟩
      refine ⟨_, tg_name l_k, ?_⟩
      apply wb_one
      refine ws_augSI (j := 1) ip_add (by wtm_at "r_er") (we_callTp (j := 2) (zs := zs') f_law_place (by wtm_at "r_ea") .nil rfl ⟨rfl, rfl, rfl⟩ (by omega) ?_) (fun _ _ _ => rfl)
      rintro zs2 s hl2 ⟨v, hv0, hv1, rfl⟩
      refine ⟨v, l, 1, rfl, rfl, hv0, by omega, er_int, ?_⟩
      refine ⟨_, zs2, set0 l v (at0 l v + 1), by omega, by rw [set0_len]; exact q2, q3.set (by have := q3.at v; omega) v, ?_, rfl⟩
      rw [sum_set0 hv0 (by omega)]; omega
    · rintro G' ⟨s6, zs2, mine, q1, q2, q3, q4, rfl⟩
      apply wb_cons
      refine ws_for1 (n := many) (D := { rtT A B t (zs.length + 61) (fun s => ∃ many b, 1 ≤ many ∧ many ≤ most ∧ Brd many b ∧ s = .d (dB b)) with nx := _ }) hx b_range (by wtm_at "r_ea") (by omega) (fun i G' => ∃ s6 s7 s8 zs' l, zs'.length ≤ zs.length + 31 + 2 * i ∧ l.length = 26 ∧ NN l ∧ l.sum = i ∧ (∀ p, 1 ≤ p → p ≤ 24 → at0 mine (25 - p) = 0 ∨ at0 l p = 0) ∧ G' = ⟨A, B, [.d (.list (ns.map .int)), .v (.ref t), .d (.int most), .d (.int many), .v (.ref am), .v (.ref at'), s6, s7, s8], [(at', .ls (l.map .int)), (am, .ls (mine.map .int)), (t, .ls (zs'.map .int))]⟩) ⟨_, _, _, zs2, _, by omega, List.length_replicate, NN.rep 26, sum_rep 26, (fun p _ _ => .inr (at0_rep 26 p)), rfl⟩ ?_ ?_ rfl (fun _ => rfl)
      · rintro i G' hi ⟨s6, s7, s8, zs', l, q5, q6, q7, q8, q9, rfl⟩
        refine ⟨_, tg_name l_k, ?_⟩
        apply wb_cons
        refine ws_set l_place (we_callTp (j := 2) (zs := zs') f_law_place (by wtm_at "r_ea") .nil rfl ⟨rfl, rfl, rfl⟩ (by omega) ?_)
        rintro zs3 s hl3 ⟨v, hv0, hv1, rfl⟩
        apply wb_cons
        refine ws_set l_free (we_p (ra := .d (.bool (!(decide (1 ≤ v) && decide (v ≤ 24)) || decide (at0 mine (25 - v) = 0)))) (er_or (er_not (er_chain er_int (by wtm_at "r_er") o_le (fun _ => er_int) (fun _ => o_le) (by with_unfolding_all rfl))) (fun hk => er_one (er_cmp (er_ix (ra := .v (.ref am)) (by wtm_at "r_er") (by wtm_at "r_er") (o_ixLI (l := mine) (Lv.c 1 rfl) ?_ ?_) (fun _ _ => rfl)) er_int o_eqI (nomark _)))) ?_)
        · have : (decide (1 ≤ v) && decide (v ≤ 24)) = true := by simpa using hk
          simp only [Bool.and_eq_true, decide_eq_true_eq] at this; omega
        · have : (decide (1 ≤ v) && decide (v ≤ 24)) = true := by simpa using hk
          simp only [Bool.and_eq_true, decide_eq_true_eq] at this; omega
        · apply wb_one
          generalize hfr : (!(decide (1 ≤ v) && decide (v ≤ 24)) || decide (at0 mine (25 - v) = 0)) = free
          have hp : 0 ≤ (if free then v else 0) ∧ (if free then v else 0) < 26 := by split <;> omega
          refine ws_augSI (j := 0) ip_add (by wtm_at "r_er") (we_p (ra := .d (.int (if free then v else 0))) (er_ifI (tr_val (ra := .d (.bool free)) (d := .bool free) (by wtm_at "r_er") .d rfl (fun _ => rfl)) (fun _ => by wtm_at "r_er") (fun _ => by wtm_at "r_er")) ?_) (fun _ _ _ => rfl)
          generalize hpl : (if free then v else 0) = pl at hp ⊢
          refine ⟨pl, l, 1, rfl, rfl, hp.1, by omega, er_int, ?_⟩
          refine ⟨_, _, _, zs3, set0 l pl (at0 l pl + 1), by omega, by rw [set0_len]; exact q6, q7.set (by have := q7.at pl; omega) pl, ?_, ?_, rfl⟩
          · rw [sum_set0 hp.1 (by omega)]; omega
          · intro p hp1 hp2
            rw [at0_set0 hp.1 (by omega) (by omega)]
            by_cases hpe : p = pl
            · refine .inl ?_
              subst hpe
              cases free with
              | false => simp at hpl; omega
              | true =>
                simp at hpl
                subst hpl
                simpa [hp1, hp2] using hfr
            · rw [if_neg hpe]; exact q9 p hp1 hp2
      · rintro G' ⟨s6, s7, s8, zs4, theirs, q5, q6, q7, q8, q9, rfl⟩
        have hwl : (many : Int) ≤ most := by omega
        apply wb_cons
        refine ws_if (k := decide (at0 mine 0 = many) && decide (at0 theirs 0 = many)) (TW.tr (tw_and (tr_cmp (er_ix (ra := .v (.ref am)) (by wtm_at "r_er") er_int (o_ixLI (l := mine) (Lv.c 1 rfl) (by omega) (by omega)) (fun _ _ => rfl)) (by wtm_at "r_er") o_eqI (nomark _)) (fun _ => tw_and1 (tr_cmp (er_ix (ra := .v (.ref at')) (by wtm_at "r_er") er_int (o_ixLI (l := theirs) (Lv.c 0 rfl) (by omega) (by omega)) (fun _ _ => rfl)) (by wtm_at "r_er") o_eqI (nomark _))))) (fun h => ?_) (fun h => ?_)
        · simp only [Bool.and_eq_true, decide_eq_true_eq] at h
          have z25 : at0 mine 25 = 0 := by
            have h1 := q3.two (i := 0) (j := 25) (by omega) (by omega) (by omega) (by omega) (by decide)
            have h2 := q3.at 25
            omega
          apply wb_cons
          refine ws_storeI (j := 1) (i := 0) (l := mine) (by wtm_at "r_er") (by wtm_at "r_er") er_int rfl (by omega) (by omega) ?_ (fun _ => rfl) rfl rfl rfl
          apply wb_one
          refine ws_storeI (j := 1) (i := 25) (l := set0 mine 0 (many - 1)) er_int (by wtm_at "r_er") er_int rfl (by omega) (by rw [set0_len]; omega) ?_ (fun _ => rfl) rfl rfl rfl
          apply wb_one
          refine ws_ret (we_p (ra := .d (dB (set0 (set0 mine 0 (many - 1)) 25 1, theirs))) (by wtm_at "r_er") ?_)
          refine ⟨rfl, rfl, 2, zs4, rfl, by omega, _, .d, many, _, by omega, hwl, ?_, rfl⟩
          have hl' : (set0 mine 0 ((many : Int) - 1)).length = 26 := by rw [set0_len]; exact q2
          have n' := q3.set (v := (many : Int) - 1) (by omega) 0
          refine ⟨by rw [set0_len]; exact hl', q6, n'.set (by omega) 25, q7, ?_, q8, fun p hp1 hp2 => ?_, ?_⟩
          · show (set0 (set0 mine 0 ((many : Int) - 1)) 25 1).sum = many
            rw [sum_set0 (by omega) (by omega), sum_set0 (by omega) (by omega), at0_set0 (by omega) (by omega) (by omega), if_neg (by decide)]
            omega
          · show at0 (set0 (set0 mine 0 ((many : Int) - 1)) 25 1) (25 - p) = 0 ∨ _
            rw [at0_set0 (by omega) (by omega) (by omega), if_neg (by omega), at0_set0 (by omega) (by omega) (by omega), if_neg (by omega)]
            exact q9 p hp1 hp2
          · refine .inl ?_
            show at0 (set0 (set0 mine 0 ((many : Int) - 1)) 25 1) 0 < many
            rw [at0_set0 (by omega) (by omega) (by omega), if_neg (by decide), at0_set0 (by omega) (by omega) (by omega), if_pos rfl]
            omega
        · apply wb_nil
          apply wb_one
          refine ws_ret (we_p (ra := .d (dB (mine, theirs))) (by wtm_at "r_er") ?_)
          refine ⟨rfl, rfl, 2, zs4, rfl, by omega, _, .d, many, (mine, theirs), by omega, hwl, ⟨q2, q6, q3, q7, q4, q8, q9, ?_⟩, rfl⟩
          have h1 := q3.le (i := 0) (by omega) (by omega)
          have h2 := q7.le (i := 0) (by omega) (by omega)
          simp only [Bool.and_eq_false_iff, decide_eq_false_iff_not] at h
          show at0 mine 0 < many ∨ at0 theirs 0 < many
          omega
end Rd

namespace Rd
open PySem PySem.Spec PyProof.Rows L2 TL
local macro_rules | `(tactic| wtm_at "r_sd") => `(tactic| first | assumption | omega | decide | (simp only [List.length_cons, List.length_nil, List.length_append, List.length_map, List.length_replicate, List.length_set, sizeLine_eq]; omega) | (simp; omega))
local macro_rules | `(tactic| wtm_at "r_as") => `(tactic| (with_reducible assumption))
local macro_rules | `(tactic| wtm_at "r_nm") => `(tactic| ((with_reducible show ER _ (.Name _ _) _ _); first
  | ((with_reducible apply er_name); wtm_at "r_as"; exact rfl)
  | ((with_reducible apply er_nameL); wtm_at "r_as"; exact rfl)
  | ((with_reducible apply er_nameV); wtm_at "r_as"; exact rfl)
  | ((with_reducible apply er_nameX); wtm_at "r_as"; exact rfl)
  | ((with_reducible apply er_gcI); wtm_at "r_as")
  | ((with_reducible apply er_gcS); wtm_at "r_as")
  | ((with_reducible apply Bt.ty); wtm_at "r_as")
  | ((with_reducible apply er_gcV); wtm_at "r_as")
  | ((with_reducible apply Ec.er); wtm_at "r_as")))
local macro_rules | `(tactic| wtm_at "r_lv") => `(tactic| first | (with_reducible exact Lv.d) | (with_reducible exact Lv.f) | (with_reducible exact Lv.l) | exact Lv.c 0 rfl | exact Lv.c 1 rfl | exact Lv.c 2 rfl)
local macro_rules | `(tactic| wtm_at "r_tv") => `(tactic| first | (with_reducible exact Tv.f) | (with_reducible exact Tv.l) | exact Tv.c 0 rfl | exact Tv.c 1 rfl | exact Tv.c 2 rfl)
local macro_rules | `(tactic| wtm_at "r_vw") => `(tactic| first | (with_reducible exact Vw.d) | (with_reducible exact Vw.f) | (with_reducible exact Vw.l) | exact Vw.c 0 rfl | exact Vw.c 1 rfl | exact Vw.c 2 rfl)
local macro_rules | `(tactic| wtm_at "r_dt") => `(tactic| first | (with_reducible exact DtL.nil) | ((with_reducible apply DtL.cons); (first | (with_reducible exact Dt.d) | (with_reducible exact Dt.f) | (with_reducible exact Dt.l)); wtm_at "r_dt"))
local macro_rules | `(tactic| wtm_at "r_op") => `(tactic| first
  | (with_reducible exact o_add) | (with_reducible exact o_sub) | (with_reducible exact o_lt) | (with_reducible exact o_le) | (with_reducible exact o_gt) | (with_reducible exact o_ge)
  | (with_reducible exact o_eqI) | (with_reducible exact o_neI) | (with_reducible exact o_eqN) | (with_reducible exact o_neN) | (with_reducible exact o_inN) | (with_reducible exact o_notInN) | (with_reducible exact o_eqS) | (with_reducible exact o_neS)
  | ((with_reducible apply o_mod); wtm_at "r_sd")
  | ((with_reducible apply o_div); (first | exact ⟨by decide, by decide⟩ | exact ⟨by omega, by omega⟩))
  | ((with_reducible apply o_isN); (exact fun z => nomatch z); (first | exact fun _ z => nomatch z | exact fun y z => ⟨_, (Sl.v.inj z).symm⟩))
  | ((with_reducible apply o_notN); (exact fun z => nomatch z); (first | exact fun _ z => nomatch z | exact fun y z => ⟨_, (Sl.v.inj z).symm⟩))
  | ((with_reducible apply o_mul); (first | exact Or.inl ⟨by omega, by omega⟩ | exact Or.inr ⟨by omega, by omega⟩))
  | ((with_reducible apply o_inI); wtm_at "r_lv")
  | ((with_reducible apply o_catTI); wtm_at "r_sd")
  | ((with_reducible apply o_catT); wtm_at "r_sd")
  | ((with_reducible apply o_catLI); wtm_at "r_tv"; wtm_at "r_tv"; wtm_at "r_sd")
  | ((with_reducible apply o_catL); wtm_at "r_tv"; wtm_at "r_tv"; wtm_at "r_sd")
  | ((with_reducible apply o_catN); wtm_at "r_sd")
  | ((with_reducible apply o_catS); wtm_at "r_sd")
  | ((with_reducible apply o_rep0); wtm_at "r_sd"; wtm_at "r_sd")
  | ((with_reducible apply o_repL); wtm_at "r_tv"; wtm_at "r_sd"; wtm_at "r_sd"; wtm_at "r_sd")
  | ((with_reducible apply o_repT); (exact fun z => nomatch z); wtm_at "r_sd"; wtm_at "r_sd"; wtm_at "r_sd")
  | ((with_reducible apply o_eqD); assumption; wtm_at "r_vw"; wtm_at "r_vw"; wtm_at "r_dp")
  | ((with_reducible apply o_neD); assumption; wtm_at "r_vw"; wtm_at "r_vw"; wtm_at "r_dp"))
local macro_rules | `(tactic| wtm_at "r_dp") => `(tactic| first | assumption | (exact dep_l (by wtm_at "r_de")) | (exact dep_r (by wtm_at "r_de")))
local macro_rules | `(tactic| wtm_at "r_de") => `(tactic| first | (exact dep_ints _) | (exact dep_intsL _) | (simp only [PyData.depth, PyData.depthAll, PySem.W.depth_ints]; omega))
local macro_rules | `(tactic| wtm_at "r_ix") => `(tactic| first
  | ((with_reducible apply o_ixTI); wtm_at "r_sd"; wtm_at "r_sd")
  | ((with_reducible apply o_ixT); (exact rfl))
  | ((with_reducible apply o_ixLI); wtm_at "r_lv"; wtm_at "r_sd"; wtm_at "r_sd")
  | ((with_reducible apply o_ixL); wtm_at "r_lv"; (exact rfl))
  | ((with_reducible apply o_ixN); wtm_at "r_sd"; (exact rfl)) | (exact o_ixH 0 rfl rfl) | (exact o_ixH 1 rfl rfl) | (exact o_ixH 2 rfl rfl))
local macro_rules | `(tactic| wtm_at "r_sl") => `(tactic| first | (with_reducible exact o_slTI) | (with_reducible exact o_slT) | ((with_reducible apply o_slLI); wtm_at "r_lv") | ((with_reducible apply o_slL); wtm_at "r_lv") | ((with_reducible apply o_slN); wtm_at "r_sd") | ((with_reducible apply o_slS); wtm_at "r_sd"))
local macro_rules | `(tactic| wtm_at "r_cb") => `(tactic| first
  | (with_reducible exact b_lenTI) | (with_reducible exact b_lenT) | ((with_reducible apply b_len); wtm_at "r_lv") | ((with_reducible apply b_lenN); wtm_at "r_sd") | ((with_reducible apply b_lenS); wtm_at "r_sd")
  | ((with_reducible apply b_sumT); assumption) | ((with_reducible apply b_sum); assumption; wtm_at "r_lv") | ((with_reducible apply b_sumM); assumption; wtm_at "r_lv")
  | ((with_reducible apply b_all); assumption; wtm_at "r_lv") | ((with_reducible apply b_allM); assumption; wtm_at "r_lv") | ((with_reducible apply b_any); assumption; wtm_at "r_lv") | ((with_reducible apply b_anyM); assumption; wtm_at "r_lv")
  | ((with_reducible apply b_tuple); wtm_at "r_lv") | (with_reducible exact b_listT) | ((with_reducible apply b_list); wtm_at "r_lv")
  | ((with_reducible apply b_max2); assumption) | ((with_reducible apply b_min2); assumption)
  | ((with_reducible apply b_maxT); assumption; assumption; wtm_at "r_ne") | ((with_reducible apply b_max); assumption; assumption; wtm_at "r_lv"; wtm_at "r_ne") | ((with_reducible apply b_maxM); assumption; assumption; wtm_at "r_lv"; wtm_at "r_ne")
  | ((with_reducible apply b_minT); assumption; assumption; wtm_at "r_ne") | ((with_reducible apply b_min); assumption; assumption; wtm_at "r_lv"; wtm_at "r_ne") | ((with_reducible apply b_minM); assumption; assumption; wtm_at "r_lv"; wtm_at "r_ne")
  | (with_reducible exact b_intB) | (with_reducible exact b_abs) | ((with_reducible apply b_strI); wtm_at "r_sd"; wtm_at "r_sd") | ((with_reducible apply b_str); wtm_at "r_sd")
  | ((with_reducible apply b_isXM); wtm_at "r_as"; wtm_at "r_as"; (decide)) | ((with_reducible apply b_isXV); wtm_at "r_as"; wtm_at "r_as")
  | ((with_reducible apply b_isBool); wtm_at "r_vw") | ((with_reducible apply b_isInt); wtm_at "r_vw") | ((with_reducible apply b_isTuple); wtm_at "r_vw"))
local macro_rules | `(tactic| wtm_at "r_R") => `(tactic| first | exact ⟨_, rfl, rfl⟩ | exact ⟨_, rfl, by wtm_at "r_sd", rfl⟩ | exact ⟨_, rfl, by wtm_at "r_sd", by wtm_at "r_sd", rfl⟩)
local macro_rules | `(tactic| wtm_at "r_ne") => `(tactic| first | assumption | (exact fun z => nomatch z))
local macro_rules | `(tactic| wtm_at "r_er") => `(tactic| first
  | wtm_at "r_nm"
  | (with_reducible exact er_int) | (with_reducible exact er_str) | (with_reducible exact er_bl) | (with_reducible exact er_non)
  | ((with_reducible show ER _ (.BinOp _ _ _ _) _ _); (with_reducible apply er_bin); wtm_at "r_er"; wtm_at "r_er"; wtm_at "r_op")
  | ((with_reducible show ER _ (.Subscript _ (.Slice _ _ none _) _) _ _); (with_reducible apply er_sl); wtm_at "r_er"; wtm_at "r_eo"; wtm_at "r_eo"; wtm_at "r_sl")
  | ((with_reducible show ER _ (.Subscript _ _ _) _ _); (with_reducible apply er_ix); wtm_at "r_er"; wtm_at "r_er"; wtm_at "r_ix"; (exact fun _ _ => rfl))
  | ((with_reducible show ER _ (.Compare _ [_] _ _) _ _); (with_reducible apply er_cmp); wtm_at "r_er"; wtm_at "r_er"; wtm_at "r_op"; (first | exact nomark _ | rfl))
  | ((with_reducible show ER _ (.Call (.Name _ _) (_ :: _) _ _) _ _); first
    | ((with_reducible apply er_cb); wtm_at "r_as"; wtm_at "r_ea"; wtm_at "r_cb"; (exact rfl); (exact rfl))
    | ((with_reducible apply er_ct); wtm_at "r_as"; wtm_at "r_ea"; wtm_at "r_cb"; (exact rfl); (exact rfl))
    | ((with_reducible apply er_call); wtm_at "r_as"; wtm_at "r_ea"; wtm_at "r_dt"; wtm_at "r_R"; (exact rfl); (exact rfl)))
  | ((with_reducible show ER _ (.Call (.Name _ _) [] _ _) _ _); (with_reducible apply er_call0); wtm_at "r_as"; wtm_at "r_R")
  | ((with_reducible show ER _ (.ListComp _ _ _ _) _ _); (with_reducible apply er_lc); wtm_at "r_lc")
  | ((with_reducible show ER _ (.Tuple _ _ _) _ _); (exact er_litT rfl))
  | ((with_reducible show ER _ (.List _ _) _ _); (exact er_litL rfl (by decide)))
  | ((with_reducible show ER _ (.Tuple _ _ _) _ _); (with_reducible apply er_tup); wtm_at "r_ea"; wtm_at "r_dt"; wtm_at "r_sd")
  | ((with_reducible show ER _ (.List _ _) _ _); (with_reducible apply er_lst); wtm_at "r_ea"; wtm_at "r_dt"; wtm_at "r_sd")
  | ((with_reducible show ER _ (.UnaryOp .USub _ _) _ _); (with_reducible apply er_neg); wtm_at "r_er")
  | ((with_reducible show ER _ (.UnaryOp .Not _ _) _ _); (with_reducible apply er_not); wtm_at "r_er")
  | ((with_reducible show ER _ (.BoolOp .Or (_ :: _ :: _) _) _ _); (with_reducible apply er_or); wtm_at "r_er"; (intro _; wtm_at "r_er"))
  | ((with_reducible show ER _ (.BoolOp .And (_ :: _ :: _) _) _ _); (with_reducible apply er_and); wtm_at "r_er"; (intro _; wtm_at "r_er"))
  | ((with_reducible show ER _ (.BoolOp _ [_] _) _ _); (with_reducible apply er_one); wtm_at "r_er")
  | ((with_reducible show ER _ (.IfExp _ _ _ _) _ _); first
    | ((with_reducible apply er_ifI); wtm_at "r_tr"; (intro _; wtm_at "r_er"); (intro _; wtm_at "r_er"))
    | ((with_reducible apply er_ifD); wtm_at "r_tr"; (intro _; wtm_at "r_er"); (intro _; wtm_at "r_er")))
  | ((with_reducible show ER _ (.Compare _ [_, _] _ _) _ _); (with_reducible apply er_chain); wtm_at "r_er"; wtm_at "r_er"; wtm_at "r_op"; (intro _; wtm_at "r_er"); (intro _; wtm_at "r_op"); (with_unfolding_all rfl)))
local macro_rules | `(tactic| wtm_at "r_eo") => `(tactic| first | (with_reducible exact eo_none) | ((with_reducible apply eo_some); wtm_at "r_er"))
local macro_rules | `(tactic| wtm_at "r_ea") => `(tactic| first
  | (with_reducible exact ea_nil)
  | ((with_reducible apply ea_cons); wtm_at "r_er"; wtm_at "r_ea"; (exact rfl)))
local macro_rules | `(tactic| wtm_at "r_tr") => `(tactic| first
  | ((with_reducible show TR _ (.Compare _ [_] _ _) _ _); (with_reducible apply tr_cmp); wtm_at "r_er"; wtm_at "r_er"; wtm_at "r_op"; (first | exact nomark _ | rfl))
  | ((with_reducible show TR _ (.Compare _ [_, _] _ _) _ _); (with_reducible apply tr_chain); wtm_at "r_er"; wtm_at "r_er"; wtm_at "r_op"; (intro _; wtm_at "r_er"); (intro _; wtm_at "r_op"); (with_unfolding_all rfl))
  | ((with_reducible show TR _ (.BoolOp _ _ _) _ _); (with_reducible apply TW.tr); wtm_at "r_tw")
  | ((with_reducible show TR _ (.UnaryOp .Not _ _) _ _); (with_reducible apply tr_not); wtm_at "r_tr")
  | ((with_reducible apply tr_val); wtm_at "r_er"; wtm_at "r_vw"; (exact rfl); (intro _; rfl)))
local macro_rules | `(tactic| wtm_at "r_tw") => `(tactic| first
  | ((with_reducible show TW _ (.BoolOp .Or [_] _) _ _); (with_reducible apply tw_or1); wtm_at "r_tr")
  | ((with_reducible show TW _ (.BoolOp .And [_] _) _ _); (with_reducible apply tw_and1); wtm_at "r_tr")
  | ((with_reducible show TW _ (.BoolOp .Or (_ :: _ :: _) _) _ _); (with_reducible apply tw_or); wtm_at "r_tr"; (intro _; wtm_at "r_tw"))
  | ((with_reducible show TW _ (.BoolOp .And (_ :: _ :: _) _) _ _); (with_reducible apply tw_and); wtm_at "r_tr"; (intro _; wtm_at "r_tw")))
local macro_rules | `(tactic| wtm_at "s_ret") => `(tactic| ((with_reducible apply ws_ret); (with_reducible apply we_p); wtm_at "r_er"))
local macro_rules | `(tactic| wtm_at "s_set") => `(tactic| ((with_reducible apply ws_set); wtm_at "r_as"; (with_reducible apply we_p); wtm_at "r_er"))
local macro_rules | `(tactic| wtm_at "s_sto") => `(tactic| ((with_reducible apply ws_storeI); wtm_at "r_er"; wtm_at "r_er"; wtm_at "r_er"; first | exact (rfl : _[0]? = _) | exact (rfl : _[1]? = _) | exact (rfl : _[2]? = _)))

/-- a and b, b with effects -/
theorem wt_and2 {X : Cx} {a b : Expr} {G : Gm} {pos : Pos} {Q : Bool → Gm → Prop} {k : Bool} (h : TR X a G k) (ht : k = true → WT X b G Q) (hf : k = false → Q false G) : WT X (.BoolOp .And [a, b] pos) G Q := fun σ H hs => by
  have w : wW X (.BoolOp .And [a, b] pos) σ H (fun c H' => ∃ G', Ge G G' H H' ∧ Hs X.K G' σ H' ∧ Q c G') := by
    refine wW_of (pw_and pT (pw_and1 pT)) (wT_mono (h σ H hs) fun d H1 ⟨q1, q2⟩ => ?_)
    subst q1
    cases d with
    | false => exact iteF ⟨G, .refl q2, hs.ext q2, hf rfl⟩
    | true => exact iteT (wT_mono (ht rfl σ H1 (hs.ext q2)) fun d' H2 ⟨G', g, hs', q⟩ => ⟨G', (Ge.refl q2).trans g, hs', q⟩)
  exact ⟨fun pins s I => w.go _ pins s I⟩
def T_roll : Tl := fun ds c P => ds = [] ∧ c = 2 ∧ P = fun s => ∃ a c : Int, isDie a = true ∧ isDie c = true ∧ s = .d (dP (a, c))
theorem die_of {v : Int} (h0 : 0 ≤ v) (h1 : v < 6) : isDie (1 + v) = true := by simp [isDie]; omega
theorem sc_law_roll : FnScope ["script", "town"] ["script", "town"] (defScope s_law_roll) := ⟨rfl, rfl, rfl, by decide +kernel, rfl, by decide +kernel, by decide +kernel⟩
theorem ok_law_roll {M : Md} {f : Addr} {fd : FuncData} (T : Tx M) (F : FnP M.K "_law_roll" s_law_roll f fd) (hm : M.mg "_law_roll" = some (.ref f)) (D_law_draw : DfT M "_law_draw" T_draw 3) : DfT M "_law_roll" T_roll 4 := by
  refine fnT F hm (F.bindsN fun _ _ _ _ _ _ us hl => match us, hl with | [_, _], _ => rfl) sc_law_roll ?hlen (by decide) ?hbody
  case hlen => rintro ds c P ⟨rfl, _⟩; rfl
  case hbody =>
    rintro X cf fn hx A B t ns zs ds c P ⟨rfl, rfl, rfl⟩ hc1
    have hu := cf.un
    have hc := cf.calm
    have hN := cf.nd
    have n_script := cf.nm (x := "script") 0 rfl (by decide +kernel)
    have n_town := cf.nm (x := "town") 1 rfl (by decide +kernel)
    have f_law_draw := cf.fcT (x := "_law_draw") D_law_draw (by first | decide | omega) (by decide +kernel)
    with_unfolding_all apply wb_one
    refine ws_ret (we_tup (wa_cons (we_bin (we_p er_int (we_draw (j := 0) (zs := zs) (many := 6) f_law_draw (by wtm_at "r_ea") rfl (by omega) (by omega) (fun zs2 v hl2 hv0 hv1 => ⟨_, o_add, ?_⟩))))))
    refine wa_cons (we_bin (we_p er_int (we_draw (j := 0) (zs := zs2) (many := 6) f_law_draw (by wtm_at "r_ea") rfl (by omega) (by omega) (fun zs3 u hl3 hu0 hu1 => ⟨_, o_add, wa_nil ?_⟩))))
    exact ⟨_, .cons .d (.cons .d .nil), (by rw [sizeLine_eq]; simp), rfl, rfl, 0, zs3, rfl, by omega, _, .d, 1 + v, 1 + u, die_of hv0 hv1, die_of hu0 hu1, rfl⟩
end Rd

namespace Rd
open PySem PySem.Spec PyProof.Rows L2 TL
local macro_rules | `(tactic| wtm_at "r_sd") => `(tactic| first | assumption | omega | decide | (simp only [List.length_cons, List.length_nil, List.length_append, List.length_map, List.length_replicate, List.length_set, sizeLine_eq]; omega) | (simp; omega))
local macro_rules | `(tactic| wtm_at "r_as") => `(tactic| (with_reducible assumption))
local macro_rules | `(tactic| wtm_at "r_nm") => `(tactic| ((with_reducible show ER _ (.Name _ _) _ _); first
  | ((with_reducible apply er_name); wtm_at "r_as"; exact rfl)
  | ((with_reducible apply er_nameL); wtm_at "r_as"; exact rfl)
  | ((with_reducible apply er_nameV); wtm_at "r_as"; exact rfl)
  | ((with_reducible apply er_nameX); wtm_at "r_as"; exact rfl)
  | ((with_reducible apply er_gcI); wtm_at "r_as")
  | ((with_reducible apply er_gcS); wtm_at "r_as")
  | ((with_reducible apply Bt.ty); wtm_at "r_as")
  | ((with_reducible apply er_gcV); wtm_at "r_as")
  | ((with_reducible apply Ec.er); wtm_at "r_as")))
local macro_rules | `(tactic| wtm_at "r_lv") => `(tactic| first | (with_reducible exact Lv.d) | (with_reducible exact Lv.f) | (with_reducible exact Lv.l) | exact Lv.c 0 rfl | exact Lv.c 1 rfl | exact Lv.c 2 rfl)
local macro_rules | `(tactic| wtm_at "r_tv") => `(tactic| first | (with_reducible exact Tv.f) | (with_reducible exact Tv.l) | exact Tv.c 0 rfl | exact Tv.c 1 rfl | exact Tv.c 2 rfl)
local macro_rules | `(tactic| wtm_at "r_vw") => `(tactic| first | (with_reducible exact Vw.d) | (with_reducible exact Vw.f) | (with_reducible exact Vw.l) | exact Vw.c 0 rfl | exact Vw.c 1 rfl | exact Vw.c 2 rfl)
local macro_rules | `(tactic| wtm_at "r_dt") => `(tactic| first | (with_reducible exact DtL.nil) | ((with_reducible apply DtL.cons); (first | (with_reducible exact Dt.d) | (with_reducible exact Dt.f) | (with_reducible exact Dt.l)); wtm_at "r_dt"))
local macro_rules | `(tactic| wtm_at "r_op") => `(tactic| first
  | (with_reducible exact o_add) | (with_reducible exact o_sub) | (with_reducible exact o_lt) | (with_reducible exact o_le) | (with_reducible exact o_gt) | (with_reducible exact o_ge)
  | (with_reducible exact o_eqI) | (with_reducible exact o_neI) | (with_reducible exact o_eqN) | (with_reducible exact o_neN) | (with_reducible exact o_inN) | (with_reducible exact o_notInN) | (with_reducible exact o_eqS) | (with_reducible exact o_neS)
  | ((with_reducible apply o_mod); wtm_at "r_sd")
  | ((with_reducible apply o_div); (first | exact ⟨by decide, by decide⟩ | exact ⟨by omega, by omega⟩))
  | ((with_reducible apply o_isN); (exact fun z => nomatch z); (first | exact fun _ z => nomatch z | exact fun y z => ⟨_, (Sl.v.inj z).symm⟩))
  | ((with_reducible apply o_notN); (exact fun z => nomatch z); (first | exact fun _ z => nomatch z | exact fun y z => ⟨_, (Sl.v.inj z).symm⟩))
  | ((with_reducible apply o_mul); (first | exact Or.inl ⟨by omega, by omega⟩ | exact Or.inr ⟨by omega, by omega⟩))
  | ((with_reducible apply o_inI); wtm_at "r_lv")
  | ((with_reducible apply o_catTI); wtm_at "r_sd")
  | ((with_reducible apply o_catT); wtm_at "r_sd")
  | ((with_reducible apply o_catLI); wtm_at "r_tv"; wtm_at "r_tv"; wtm_at "r_sd")
  | ((with_reducible apply o_catL); wtm_at "r_tv"; wtm_at "r_tv"; wtm_at "r_sd")
  | ((with_reducible apply o_catN); wtm_at "r_sd")
  | ((with_reducible apply o_catS); wtm_at "r_sd")
  | ((with_reducible apply o_rep0); wtm_at "r_sd"; wtm_at "r_sd")
  | ((with_reducible apply o_repL); wtm_at "r_tv"; wtm_at "r_sd"; wtm_at "r_sd"; wtm_at "r_sd")
  | ((with_reducible apply o_repT); (exact fun z => nomatch z); wtm_at "r_sd"; wtm_at "r_sd"; wtm_at "r_sd")
  | ((with_reducible apply o_eqD); assumption; wtm_at "r_vw"; wtm_at "r_vw"; wtm_at "r_dp")
  | ((with_reducible apply o_neD); assumption; wtm_at "r_vw"; wtm_at "r_vw"; wtm_at "r_dp"))
local macro_rules | `(tactic| wtm_at "r_dp") => `(tactic| first | assumption | (exact dep_l (by wtm_at "r_de")) | (exact dep_r (by wtm_at "r_de")))
local macro_rules | `(tactic| wtm_at "r_de") => `(tactic| first | (exact dep_ints _) | (exact dep_intsL _) | (simp only [PyData.depth, PyData.depthAll, PySem.W.depth_ints]; omega))
local macro_rules | `(tactic| wtm_at "r_ix") => `(tactic| first
  | ((with_reducible apply o_ixTI); wtm_at "r_sd"; wtm_at "r_sd")
  | ((with_reducible apply o_ixT); (exact rfl))
  | ((with_reducible apply o_ixLI); wtm_at "r_lv"; wtm_at "r_sd"; wtm_at "r_sd")
  | ((with_reducible apply o_ixL); wtm_at "r_lv"; (exact rfl))
  | ((with_reducible apply o_ixN); wtm_at "r_sd"; (exact rfl)) | (exact o_ixH 0 rfl rfl) | (exact o_ixH 1 rfl rfl) | (exact o_ixH 2 rfl rfl))
local macro_rules | `(tactic| wtm_at "r_sl") => `(tactic| first | (with_reducible exact o_slTI) | (with_reducible exact o_slT) | ((with_reducible apply o_slLI); wtm_at "r_lv") | ((with_reducible apply o_slL); wtm_at "r_lv") | ((with_reducible apply o_slN); wtm_at "r_sd") | ((with_reducible apply o_slS); wtm_at "r_sd"))
local macro_rules | `(tactic| wtm_at "r_cb") => `(tactic| first
  | (with_reducible exact b_lenTI) | (with_reducible exact b_lenT) | ((with_reducible apply b_len); wtm_at "r_lv") | ((with_reducible apply b_lenN); wtm_at "r_sd") | ((with_reducible apply b_lenS); wtm_at "r_sd")
  | ((with_reducible apply b_sumT); assumption) | ((with_reducible apply b_sum); assumption; wtm_at "r_lv") | ((with_reducible apply b_sumM); assumption; wtm_at "r_lv")
  | ((with_reducible apply b_all); assumption; wtm_at "r_lv") | ((with_reducible apply b_allM); assumption; wtm_at "r_lv") | ((with_reducible apply b_any); assumption; wtm_at "r_lv") | ((with_reducible apply b_anyM); assumption; wtm_at "r_lv")
  | ((with_reducible apply b_tuple); wtm_at "r_lv") | (with_reducible exact b_listT) | ((with_reducible apply b_list); wtm_at "r_lv")
  | ((with_reducible apply b_max2); assumption) | ((with_reducible apply b_min2); assumption)
  | ((with_reducible apply b_maxT); assumption; assumption; wtm_at "r_ne") | ((with_reducible apply b_max); assumption; assumption; wtm_at "r_lv"; wtm_at "r_ne") | ((with_reducible apply b_maxM); assumption; assumption; wtm_at "r_lv"; wtm_at "r_ne")
  | ((with_reducible apply b_minT); assumption; assumption; wtm_at "r_ne") | ((with_reducible apply b_min); assumption; assumption; wtm_at "r_lv"; wtm_at "r_ne") | ((with_reducible apply b_minM); assumption; assumption; wtm_at "r_lv"; wtm_at "r_ne")
  | (with_reducible exact b_intB) | (with_reducible exact b_abs) | ((with_reducible apply b_strI); wtm_at "r_sd"; wtm_at "r_sd") | ((with_reducible apply b_str); wtm_at "r_sd")
  | ((with_reducible apply b_isXM); wtm_at "r_as"; wtm_at "r_as"; (decide)) | ((with_reducible apply b_isXV); wtm_at "r_as"; wtm_at "r_as")
  | ((with_reducible apply b_isBool); wtm_at "r_vw") | ((with_reducible apply b_isInt); wtm_at "r_vw") | ((with_reducible apply b_isTuple); wtm_at "r_vw"))
local macro_rules | `(tactic| wtm_at "r_R") => `(tactic| first | exact ⟨_, rfl, rfl⟩ | exact ⟨_, rfl, by wtm_at "r_sd", rfl⟩ | exact ⟨_, rfl, by wtm_at "r_sd", by wtm_at "r_sd", rfl⟩)
local macro_rules | `(tactic| wtm_at "r_ne") => `(tactic| first | assumption | (exact fun z => nomatch z))
local macro_rules | `(tactic| wtm_at "r_er") => `(tactic| first
  | wtm_at "r_nm"
  | (with_reducible exact er_int) | (with_reducible exact er_str) | (with_reducible exact er_bl) | (with_reducible exact er_non)
  | ((with_reducible show ER _ (.BinOp _ _ _ _) _ _); (with_reducible apply er_bin); wtm_at "r_er"; wtm_at "r_er"; wtm_at "r_op")
  | ((with_reducible show ER _ (.Subscript _ (.Slice _ _ none _) _) _ _); (with_reducible apply er_sl); wtm_at "r_er"; wtm_at "r_eo"; wtm_at "r_eo"; wtm_at "r_sl")
  | ((with_reducible show ER _ (.Subscript _ _ _) _ _); (with_reducible apply er_ix); wtm_at "r_er"; wtm_at "r_er"; wtm_at "r_ix"; (exact fun _ _ => rfl))
  | ((with_reducible show ER _ (.Compare _ [_] _ _) _ _); (with_reducible apply er_cmp); wtm_at "r_er"; wtm_at "r_er"; wtm_at "r_op"; (first | exact nomark _ | rfl))
  | ((with_reducible show ER _ (.Call (.Name _ _) (_ :: _) _ _) _ _); first
    | ((with_reducible apply er_cb); wtm_at "r_as"; wtm_at "r_ea"; wtm_at "r_cb"; (exact rfl); (exact rfl))
    | ((with_reducible apply er_ct); wtm_at "r_as"; wtm_at "r_ea"; wtm_at "r_cb"; (exact rfl); (exact rfl))
    | ((with_reducible apply er_call); wtm_at "r_as"; wtm_at "r_ea"; wtm_at "r_dt"; wtm_at "r_R"; (exact rfl); (exact rfl)))
  | ((with_reducible show ER _ (.Call (.Name _ _) [] _ _) _ _); (with_reducible apply er_call0); wtm_at "r_as"; wtm_at "r_R")
  | ((with_reducible show ER _ (.ListComp _ _ _ _) _ _); (with_reducible apply er_lc); wtm_at "r_lc")
  | ((with_reducible show ER _ (.Tuple _ _ _) _ _); (exact er_litT rfl))
  | ((with_reducible show ER _ (.List _ _) _ _); (exact er_litL rfl (by decide)))
  | ((with_reducible show ER _ (.Tuple _ _ _) _ _); (with_reducible apply er_tup); wtm_at "r_ea"; wtm_at "r_dt"; wtm_at "r_sd")
  | ((with_reducible show ER _ (.List _ _) _ _); (with_reducible apply er_lst); wtm_at "r_ea"; wtm_at "r_dt"; wtm_at "r_sd")
  | ((with_reducible show ER _ (.UnaryOp .USub _ _) _ _); (with_reducible apply er_neg); wtm_at "r_er")
  | ((with_reducible show ER _ (.UnaryOp .Not _ _) _ _); (with_reducible apply er_not); wtm_at "r_er")
  | ((with_reducible show ER _ (.BoolOp .Or (_ :: _ :: _) _) _ _); (with_reducible apply er_or); wtm_at "r_er"; (intro _; wtm_at "r_er"))
  | ((with_reducible show ER _ (.BoolOp .And (_ :: _ :: _) _) _ _); (with_reducible apply er_and); wtm_at "r_er"; (intro _; wtm_at "r_er"))
  | ((with_reducible show ER _ (.BoolOp _ [_] _) _ _); (with_reducible apply er_one); wtm_at "r_er")
  | ((with_reducible show ER _ (.IfExp _ _ _ _) _ _); first
    | ((with_reducible apply er_ifI); wtm_at "r_tr"; (intro _; wtm_at "r_er"); (intro _; wtm_at "r_er"))
    | ((with_reducible apply er_ifD); wtm_at "r_tr"; (intro _; wtm_at "r_er"); (intro _; wtm_at "r_er")))
  | ((with_reducible show ER _ (.Compare _ [_, _] _ _) _ _); (with_reducible apply er_chain); wtm_at "r_er"; wtm_at "r_er"; wtm_at "r_op"; (intro _; wtm_at "r_er"); (intro _; wtm_at "r_op"); (with_unfolding_all rfl)))
local macro_rules | `(tactic| wtm_at "r_eo") => `(tactic| first | (with_reducible exact eo_none) | ((with_reducible apply eo_some); wtm_at "r_er"))
local macro_rules | `(tactic| wtm_at "r_ea") => `(tactic| first
  | (with_reducible exact ea_nil)
  | ((with_reducible apply ea_cons); wtm_at "r_er"; wtm_at "r_ea"; (exact rfl)))
local macro_rules | `(tactic| wtm_at "r_tr") => `(tactic| first
  | ((with_reducible show TR _ (.Compare _ [_] _ _) _ _); (with_reducible apply tr_cmp); wtm_at "r_er"; wtm_at "r_er"; wtm_at "r_op"; (first | exact nomark _ | rfl))
  | ((with_reducible show TR _ (.Compare _ [_, _] _ _) _ _); (with_reducible apply tr_chain); wtm_at "r_er"; wtm_at "r_er"; wtm_at "r_op"; (intro _; wtm_at "r_er"); (intro _; wtm_at "r_op"); (with_unfolding_all rfl))
  | ((with_reducible show TR _ (.BoolOp _ _ _) _ _); (with_reducible apply TW.tr); wtm_at "r_tw")
  | ((with_reducible show TR _ (.UnaryOp .Not _ _) _ _); (with_reducible apply tr_not); wtm_at "r_tr")
  | ((with_reducible apply tr_val); wtm_at "r_er"; wtm_at "r_vw"; (exact rfl); (intro _; rfl)))
local macro_rules | `(tactic| wtm_at "r_tw") => `(tactic| first
  | ((with_reducible show TW _ (.BoolOp .Or [_] _) _ _); (with_reducible apply tw_or1); wtm_at "r_tr")
  | ((with_reducible show TW _ (.BoolOp .And [_] _) _ _); (with_reducible apply tw_and1); wtm_at "r_tr")
  | ((with_reducible show TW _ (.BoolOp .Or (_ :: _ :: _) _) _ _); (with_reducible apply tw_or); wtm_at "r_tr"; (intro _; wtm_at "r_tw"))
  | ((with_reducible show TW _ (.BoolOp .And (_ :: _ :: _) _) _ _); (with_reducible apply tw_and); wtm_at "r_tr"; (intro _; wtm_at "r_tw")))
local macro_rules | `(tactic| wtm_at "s_ret") => `(tactic| ((with_reducible apply ws_ret); (with_reducible apply we_p); wtm_at "r_er"))
local macro_rules | `(tactic| wtm_at "s_set") => `(tactic| ((with_reducible apply ws_set); wtm_at "r_as"; (with_reducible apply we_p); wtm_at "r_er"))
local macro_rules | `(tactic| wtm_at "s_sto") => `(tactic| ((with_reducible apply ws_storeI); wtm_at "r_er"; wtm_at "r_er"; wtm_at "r_er"; first | exact (rfl : _[0]? = _) | exact (rfl : _[1]? = _) | exact (rfl : _[2]? = _)))

def R_right : Rl := fun ds r => ∃ (b : Bo) (a c : Int) (q : Ply), ds = [dB b, dP (a, c), dPl q] ∧ isBoard b = true ∧ isDie a = true ∧ isDie c = true ∧ isPlay b a c q = true ∧ r = .ok (.d (.bool true))
def dice1 (a c : Int) : List Int := if a = c then [a, a, a, a] else [a, c]
theorem dice1_perm {a c : Int} {ds : List Int} (h : ds ∈ diceOf a c) : (dice1 a c).Perm ds := by
  unfold diceOf at h
  unfold dice1
  by_cases e : a = c
  · rw [if_pos e] at h ⊢
    rw [List.mem_singleton.mp h]
  · rw [if_neg e] at h ⊢
    simp only [List.mem_cons, List.not_mem_nil, or_false] at h
    rcases (show a < c ∨ c < a by omega) with l | l
    · rw [show max a c = c by omega, show min a c = a by omega] at h
      rcases h with rfl | rfl
      · exact List.Perm.swap _ _ _
      · exact List.Perm.refl _
    · rw [show max a c = a by omega, show min a c = c by omega] at h
      rcases h with rfl | rfl
      · exact List.Perm.refl _
      · exact List.Perm.swap _ _ _
theorem any_ints (l : List Int) (d : Int) : (l.map PyData.int).any (fun z => PyData.eqv z (.int d)) = decide (d ∈ l) := by
  rw [Bool.eq_iff_iff, List.any_eq_true, decide_eq_true_eq]
  constructor
  · rintro ⟨x, hx, he⟩
    obtain ⟨i, hi, rfl⟩ := List.mem_map.mp hx
    simp only [PyData.eqv, decide_eq_true_eq] at he
    have : i = d := by simpa using he
    rw [← this]; exact hi
  · intro h
    exact ⟨.int d, List.mem_map.mpr ⟨d, h, rfl⟩, by simp [PyData.eqv]⟩
theorem eqv_2 {a b c d : Int} (h1 : a = c) (h2 : b = d) : PyData.eqv (.tuple [.int a, .int b]) (.tuple [.int c, .int d]) = true := by
  subst h1; subst h2
  exact eqv_self rfl
theorem sc_law_right : FnScope ["board", "roll", "play", "end", "dice", "lost", "met", "here", "place", "die", "to", "before", "after", "back", "side"] ["board", "roll", "play"] (defScope s_law_right) := ⟨rfl, rfl, rfl, by decide +kernel, rfl, by decide +kernel, by decide +kernel⟩
theorem ok_law_right {M : Md} {f : Addr} {fd : FuncData} (T : Tx M) (F : FnP M.K "_law_right" s_law_right f fd) (hm : M.mg "_law_right" = some (.ref f)) (D_played : Df M "played" (R_played M) 10) (D_look_board : Df M "look_board" (R_look M) 2) (D_turned : Df M "turned" (R_turned M) 3) (D_pips : Df M "pips" (R_pips M) 3) : Df M "_law_right" R_right 11 := by
  refine fnR F hm (F.bindsN fun _ _ _ _ _ _ us hl => match us, hl with | [_, _, _], _ => rfl) sc_law_right ?hlen ?hbody
  case hlen => rintro ds r ⟨_, _, _, _, rfl, _⟩; rfl
  case hbody =>
    rintro X cf fn A B ds r ⟨b, a, c, q, rfl, hb, ha, hc', hq, rfl⟩ hx
    have hu := cf.un
    have hc := cf.calm
    have hN := cf.nd
    have n_board := cf.nm (x := "board") 0 rfl (by decide +kernel)
    have n_roll := cf.nm (x := "roll") 1 rfl (by decide +kernel)
    have n_play := cf.nm (x := "play") 2 rfl (by decide +kernel)
    have n_end := cf.nm (x := "end") 3 rfl (by decide +kernel)
    have n_dice := cf.nm (x := "dice") 4 rfl (by decide +kernel)
    have n_lost := cf.nm (x := "lost") 5 rfl (by decide +kernel)
    have n_met := cf.nm (x := "met") 6 rfl (by decide +kernel)
    have n_here := cf.nm (x := "here") 7 rfl (by decide +kernel)
    have n_place := cf.nm (x := "place") 8 rfl (by decide +kernel)
    have n_die := cf.nm (x := "die") 9 rfl (by decide +kernel)
    have n_to := cf.nm (x := "to") 10 rfl (by decide +kernel)
    have n_before := cf.nm (x := "before") 11 rfl (by decide +kernel)
    have n_after := cf.nm (x := "after") 12 rfl (by decide +kernel)
    have n_back := cf.nm (x := "back") 13 rfl (by decide +kernel)
    have l_end := cf.nl (x := "end") 3 rfl (by decide +kernel) (Or.inl (fn _))
    have l_dice := cf.nl (x := "dice") 4 rfl (by decide +kernel) (Or.inl (fn _))
    have l_lost := cf.nl (x := "lost") 5 rfl (by decide +kernel) (Or.inl (fn _))
    have l_met := cf.nl (x := "met") 6 rfl (by decide +kernel) (Or.inl (fn _))
    have l_here := cf.nl (x := "here") 7 rfl (by decide +kernel) (Or.inl (fn _))
    have l_place := cf.nl (x := "place") 8 rfl (by decide +kernel) (Or.inl (fn _))
    have l_die := cf.nl (x := "die") 9 rfl (by decide +kernel) (Or.inl (fn _))
    have l_to := cf.nl (x := "to") 10 rfl (by decide +kernel) (Or.inl (fn _))
    have l_before := cf.nl (x := "before") 11 rfl (by decide +kernel) (Or.inl (fn _))
    have l_after := cf.nl (x := "after") 12 rfl (by decide +kernel) (Or.inl (fn _))
    have l_back := cf.nl (x := "back") 13 rfl (by decide +kernel) (Or.inl (fn _))
    have f_played := cf.fc (x := "played") D_played (by first | decide | omega) (by decide +kernel)
    have b_list := cf.bt (x := "list") (f := .type "list") (by decide +kernel) T.b_list (by decide +kernel)
    have b_max := cf.bt (x := "max") (f := .builtin "max") (by decide +kernel) T.b_max (by decide +kernel)
    have b_tuple := cf.bt (x := "tuple") (f := .type "tuple") (by decide +kernel) T.b_tuple (by decide +kernel)
    have b_sum := cf.bt (x := "sum") (f := .builtin "sum") (by decide +kernel) T.b_sum (by decide +kernel)
    have f_look_board := cf.fc (x := "look_board") D_look_board (by first | decide | omega) (by decide +kernel)
    have f_turned := cf.fc (x := "turned") D_turned (by first | decide | omega) (by decide +kernel)
    have f_pips := cf.fc (x := "pips") D_pips (by first | decide | omega) (by decide +kernel)
    have b_range := cf.btr (by decide +kernel) T.b_range
    have iB := isBoard_iff.mp hb
    obtain ⟨r, hr, rq⟩ := isPlay_iff.mp hq
    obtain ⟨ds, hds, hw⟩ := found_way (mem_filt (allPl_sub hr))
    have wk : Walk b q ds := by rw [← rq]; exact way_walk hw
    have dok := dice_ok ha hc' ds hds
    have aln := walk_aln dok.1 iB wk
    have l1 := iB.l1
    have l2 := iB.l2
    have rp : R_played M [dB b, dP (a, c), dPl q] (.ok (.d (dB (playB b q)))) := ⟨b, a, c, q, rfl, by omega, by omega, by rw [hb, ha, hc', hq]; rfl⟩
    with_unfolding_all apply wb_cons
    refine ws_set l_end (we_p (ra := .d (dB (playB b q))) (er_call f_played (by wtm_at "r_ea") (by wtm_at "r_dt") rp rfl rfl) ?_)
    apply wb_cons
    refine ws_setC (ds := (dice1 a c).map .int) l_dice (er_if (k := decide (a = c)) (by wtm_at "r_tr") (fun h => ?_) (fun h => ?_)) (fun ad => ?_)
    · have e := of_decide_eq_true h
      exact er_eq (r := .f ((List.replicate (4 : Int).toNat a).map .int)) (er_bin (ra := .f [.int a]) (er_lst (rs := [.d (.int a)]) (by wtm_at "r_ea") (.cons .d .nil) (by rw [sizeLine_eq]; simp)) er_int (o_rep0 (by omega) (by omega))) (by unfold dice1; rw [if_pos e]; rfl)
    · have e := of_decide_eq_false h
      exact er_eq (r := .f [.int a, .int c]) (by wtm_at "r_er") (by unfold dice1; rw [if_neg e]; rfl)
    · apply wb_cons
      refine ws_set l_lost (we_p (ra := .d (.int 0)) er_int ?_)
      apply wb_cons
      refine ws_set l_met (we_p (ra := .d (.int 0)) er_int ?_)
      apply wb_cons
      refine ws_setListsN (x := "side") (i0 := 14) (lls := [b.1, b.2]) hc hN l_here.n (loc1_of (by rw [cf.sc]; decide +kernel)) (by rw [cf.sc]; rfl) rfl (by decide +kernel) (cf.bok (by decide +kernel)) (by wtm_at "r_er") (by simp) (fun l hl cs Y hY => ?_) (fun Da as las => ?_) (fun _ => rfl)
      · have cfY := cf.blk hY
        have hu := cfY.un
        have hc := cfY.calm
        have hN := cfY.nd
        have n_side := cfY.nm (x := "side") 14 rfl (by decide +kernel)
        have b_list := cfY.bt (x := "list") (f := .type "list") (by decide +kernel) T.b_list (by decide +kernel)
        exact ⟨(cf.nlB hY 14 rfl (by decide +kernel) (by decide +kernel)), by wtm_at "r_er"⟩
      obtain ⟨a0, a1, rfl⟩ : ∃ a0 a1, as = [a0, a1] := by
        match as, las with
        | [x, y], _ => exact ⟨x, y, rfl⟩
      apply wb_cons
      refine ws_forT (ds := q.map dP) (D := { nx := _, rt := _, bk := _, ct := _ }) hx hc (by wtm_at "r_er") (fun i G' => ∃ (s8 s9 s10 : Sl) (l : List Int), l.Perm (ds.drop i) ∧ G' = ⟨A, B, [.d (dB b), .d (dP (a, c)), .d (dPl q), .d (dB (playB b q)), .v (.ref ad), .d (.int (pipsOf b.1 - pipsOf (playB b (q.take i)).1)), .d (.int (pipsOf (playB b (q.take i)).2 - pipsOf b.2)), .v (.ref Da), s8, s9, s10, .no, .no, .no, .no],
        [(a1, .ls ((playB b (q.take i)).2.map .int)), (a0, .ls ((playB b (q.take i)).1.map .int)), (Da, .ho (.lst [.ref a0, .ref a1])), (ad, .ls (l.map .int))]⟩) ⟨_, _, _, dice1 a c, dice1_perm hds, by rw [List.take_zero]; simp only [playB, Int.sub_self]; rfl⟩ ?_ ?_ (fun _ => rfl)
      · rintro i e G' he ⟨s8, s9, s10, l, hl, rfl⟩
        rw [List.getElem?_map] at he
        obtain ⟨⟨p, d⟩, hs, rfl⟩ := Option.map_eq_some_iff.mp he
        have hi : i < q.length := (List.getElem?_eq_some_iff.mp hs).1
        obtain ⟨w1, w2, w3, w4⟩ := walk_at wk hs
        have al := aln i (by omega)
        have die : isDie d = true := dok.1 _ (List.mem_of_getElem? w2)
        obtain ⟨d1, d2⟩ := die_in die
        have dd : ds.drop i = d :: ds.drop (i + 1) := by
          obtain ⟨h1, h2⟩ := List.getElem?_eq_some_iff.mp w2
          have h2 : ds[i] = d := h2
          rw [List.drop_eq_getElem_cons h1, h2]
        have hd : d ∈ l := hl.mem_iff.mpr (by rw [dd]; exact List.mem_cons_self)
        have hl' : (l.erase d).Perm (ds.drop (i + 1)) := by
          have := hl.erase d
          rw [dd, List.erase_cons_head] at this
          exact this
        rw [w4]
        generalize playB b (q.take i) = cur at w1 w3 w4 al
        have g1 := al.is.l1
        have g2 := al.is.l2
        have w3 : canGo cur p d = true := w3
        obtain ⟨p1, p2⟩ := canGo_in w3
        have man := canGo_man w3
        have q1 := gone_pips1 al.is.bd die w3
        have q2 := gone_pips2 al.is.bd die w3
        have hlaw := hit_law al.is.bd w3
        have e1 := gone_1 cur p d
        have e2 := gone_2h cur p d
        refine ⟨_, tg_tup2 hc (tg_name l_place) (tg_name l_die), ?_⟩
        apply wb_cons
        refine ws_if (k := false) (TW.tr (tw_or (k := false) (k' := false) ?_ (fun _ => tw_or1 ?_))) (fun z => nomatch z) (fun _ => ?_)
        · have : (false : Bool) = !((l.map PyData.int).any fun z => PyData.eqv z (.int d)) := by rw [any_ints, decide_eq_true hd]; rfl
          rw [this]
          exact tr_cmp (ra := .d (.int d)) (rb := .v (.ref ad)) (by wtm_at "r_er") (by wtm_at "r_er") (o_notInDL hu .d (.c 3 rfl) (by simp [PyData.depth])) rfl
        · have : (false : Bool) = decide (at0 cur.1 p = 0) := (decide_eq_false man).symm
          rw [this]
          wtm_at "r_tr"
        apply wb_nil
        apply wb_cons
        refine ws_remove (j := 3) (ns := l) (k := d) (by wtm_at "r_er") rfl (by wtm_at "r_er") hd ?_ rfl rfl rfl rfl rfl rfl
        apply wb_cons
        refine ws_set l_to (we_p (ra := .d (.int (max 0 (p - d)))) (by wtm_at "r_er") ?_)
        rw [q1, q2]
        generalize ht : max 0 (p - d) = to at q1 q2 hlaw e1 e2
        have ht0 : 0 ≤ to := by omega
        have ht1 : to ≤ 24 := by omega
        apply wb_cons
        refine ws_set l_lost (we_p (ra := .d (.int (pipsOf b.1 - pipsOf cur.1 + p - to))) (by wtm_at "r_er") ?_)
        apply wb_cons
        refine ws_storeI (j := 1) (i := p) (l := cur.1) (v := at0 cur.1 p - 1) (by wtm_at "r_er") (by wtm_at "r_er") (by wtm_at "r_er") rfl (by omega) (by omega) ?_ (fun _ => rfl) rfl rfl rfl
        generalize hm1 : set0 cur.1 p (at0 cur.1 p - 1) = m1 at e1
        have lm1 : m1.length = 26 := by rw [← hm1, set0_len]; exact g1
        apply wb_cons
        refine ws_storeI (j := 1) (i := to) (l := m1) (v := at0 m1 to + 1) (by wtm_at "r_er") (by wtm_at "r_er") (by wtm_at "r_er") rfl (by omega) (by omega) ?_ (fun _ => rfl) rfl rfl rfl
        rw [← e1]
        apply wb_one
        refine ws_if (k := decide (0 < to) && decide (0 < at0 cur.2 (25 - to))) (TW.tr (tw_and (k := decide (0 < to)) (k' := decide (0 < at0 cur.2 (25 - to))) (by wtm_at "r_tr") (fun h => tw_and1 ?_))) (fun h => ?_) (fun h => ?_)
        · have h := of_decide_eq_true h
          wtm_at "r_tr"
        · rw [hlaw] at h
          obtain ⟨h1, h2⟩ := hit_iff.mp h
          rw [ht] at h1 h2
          rw [if_pos h] at e2 ⊢
          apply wb_cons
          refine ws_set l_met (we_p (ra := .d (.int (pipsOf cur.2 - pipsOf b.2 + to))) (by wtm_at "r_er") ?_)
          apply wb_cons
          refine ws_storeI (j := 0) (i := 25 - to) (l := cur.2) (v := at0 cur.2 (25 - to) - 1) (by wtm_at "r_er") (by wtm_at "r_er") (by wtm_at "r_er") rfl (by omega) (by omega) ?_ (fun _ => rfl) rfl rfl rfl
          rw [h2]
          generalize hn1 : set0 cur.2 (25 - to) (1 - 1) = n1
          have en1 : set0 cur.2 (25 - to) 0 = n1 := hn1
          rw [en1] at e2
          have ln1 : n1.length = 26 := by rw [← hn1, set0_len]; exact g2
          apply wb_one
          refine ws_storeI (j := 0) (i := 25) (l := n1) (v := at0 n1 25 + 1) (by wtm_at "r_er") (by wtm_at "r_er") (by wtm_at "r_er") rfl (by omega) (by omega) ?_ (fun _ => rfl) rfl rfl rfl
          rw [← e2]
          refine ⟨.d (.int p), .d (.int d), .d (.int to), l.erase d, hl', ?_⟩
          rw [show pipsOf b.1 - (pipsOf cur.1 - (p - to)) = pipsOf b.1 - pipsOf cur.1 + p - to by omega, show pipsOf cur.2 + to - pipsOf b.2 = pipsOf cur.2 - pipsOf b.2 + to by omega]
          rfl
        · rw [hlaw] at h
          rw [h] at e2
          rw [if_neg (by rw [h]; decide)]
          apply wb_nil
          refine ⟨.d (.int p), .d (.int d), .d (.int to), l.erase d, hl', ?_⟩
          have e2 : (goneB cur p d).2 = cur.2 := e2
          rw [e2, show pipsOf b.1 - (pipsOf cur.1 - (p - to)) = pipsOf b.1 - pipsOf cur.1 + p - to by omega, show pipsOf cur.2 + 0 - pipsOf b.2 = pipsOf cur.2 - pipsOf b.2 by omega]
          rfl
      · rintro G' ⟨s8, s9, s10, l, hl, rfl⟩
        rw [List.length_map, List.take_length]
        have al := aln q.length (Nat.le_refl _)
        rw [List.take_length] at al
        generalize playB b q = E at al
        have g1 := al.is.l1
        have g2 := al.is.l2
        have isE : isBoard E = true := isBoard_iff.mpr al.is
        apply wb_cons
        refine ws_if (k := false) ?_ (fun z => nomatch z) (fun _ => ?_)
        · have : (false : Bool) = !PyData.eqv (dB E) (dB E) := by rw [eqv_bd, decide_eq_true rfl]; rfl
          rw [this]
          exact tr_cmp (ra := .d (dB E)) (rb := .d (dB E)) (by wtm_at "r_er") (er_tup (rs := [.d (dT E.1), .d (dT E.2)]) (by wtm_at "r_ea") (.cons .d (.cons .d .nil)) (by rw [sizeLine_eq]; simp)) (o_neD hu .d .d (dep_l (dep_board _))) (nomark _)
        apply wb_nil
        apply wb_cons
        refine ws_if (k := (decide (at0 E.1 0 < E.1.sum) || decide (at0 E.2 0 < E.2.sum))) (by wtm_at "r_tr") (fun _ => ?_) (fun h => ?_)
        · have rl : R_look M [dB E] (.ok (.d .none)) := ⟨E, rfl, by omega, by omega, by rw [isE]; rfl⟩
          have rt : R_turned M [dB E] (.ok (.d (dB (E.2, E.1)))) := ⟨E, rfl, by omega, by omega, by rw [isE]; rfl⟩
          have rb : R_pips M [dB b] (.ok (.d (.tuple [.int (pipsOf b.1), .int (pipsOf b.2)]))) := ⟨b, rfl, by omega, by omega, by rw [hb]; rfl⟩
          have re : R_pips M [dB E] (.ok (.d (.tuple [.int (pipsOf E.1), .int (pipsOf E.2)]))) := ⟨E, rfl, by omega, by omega, by rw [isE]; rfl⟩
          apply wb_cons
          refine ws_if (k := false) (TW.tr (tw_or (k := false) (k' := false) ?_ (fun _ => tw_or1 ?_))) (fun z => nomatch z) (fun _ => ?_)
          · exact tr_cmp (ra := .d .none) (er_call f_look_board (by wtm_at "r_ea") (by wtm_at "r_dt") rl rfl rfl) er_non (o_notN (fun z => nomatch z) (fun _ z => nomatch z)) (nomark _)
          · have : (false : Bool) = !PyData.eqv (dB (E.2, E.1)) (dB (E.2, E.1)) := by rw [eqv_bd, decide_eq_true rfl]; rfl
            rw [this]
            exact tr_cmp (ra := .d (dB (E.2, E.1))) (rb := .d (dB (E.2, E.1))) (er_call f_turned (by wtm_at "r_ea") (by wtm_at "r_dt") rt rfl rfl) (er_tup (rs := [.d (dT E.2), .d (dT E.1)]) (by wtm_at "r_ea") (.cons .d (.cons .d .nil)) (by rw [sizeLine_eq]; simp)) (o_neD hu .d .d (dep_l (dep_board _))) (nomark _)
          apply wb_nil
          apply wb_cons
          refine ws_set l_before (we_p (er_call f_pips (by wtm_at "r_ea") (by wtm_at "r_dt") rb rfl rfl) ?_)
          apply wb_cons
          refine ws_set l_after (we_p (er_call f_pips (by wtm_at "r_ea") (by wtm_at "r_dt") re rfl rfl) ?_)
          apply wb_one
          refine ws_if (k := false) ?_ (fun z => nomatch z) (fun _ => ?_)
          · have : (false : Bool) = !PyData.eqv (.tuple [.int (pipsOf E.1), .int (pipsOf E.2)]) (.tuple [.int (pipsOf b.1 - (pipsOf b.1 - pipsOf E.1)), .int (pipsOf b.2 + (pipsOf E.2 - pipsOf b.2))]) := by rw [eqv_2 (by omega) (by omega)]; rfl
            rw [this]
            exact tr_cmp (ra := .d (.tuple [.int (pipsOf E.1), .int (pipsOf E.2)])) (rb := .d (.tuple [.int (pipsOf b.1 - (pipsOf b.1 - pipsOf E.1)), .int (pipsOf b.2 + (pipsOf E.2 - pipsOf b.2))])) (by wtm_at "r_er") (er_tup (rs := [.d (.int (pipsOf b.1 - (pipsOf b.1 - pipsOf E.1))), .d (.int (pipsOf b.2 + (pipsOf E.2 - pipsOf b.2)))]) (by wtm_at "r_ea") (.cons .d (.cons .d .nil)) (by rw [sizeLine_eq]; simp)) (o_neD hu .d .d (dep_l (by simp [PyData.depth, PyData.depthAll]))) (nomark _)
          apply wb_nil
          have efil : ((rng 1 25).filter fun p => decide (at0 b.2 p < at0 E.2 p)) = [] := by
            rw [List.filter_eq_nil_iff]
            intro p hp
            have hp := mem_rng.mp hp
            have := al.bk p hp.1 (by omega)
            simp; omega
          apply wb_cons
          refine ws_setLc l_back.n (loc1_of (by rw [cf.sc]; decide +kernel)) (by rw [cf.sc]; rfl) rfl (by decide +kernel) (ds := ((rng 1 25).filter fun p => decide (at0 b.2 p < at0 E.2 p)).map .int) ?_ ?_
          · refine lcSf (lo := 1) (hi := 25) (fun p => decide (at0 b.2 p < at0 E.2 p)) .int [("place", 8)] b_range cf.nd (cf.bok (by decide +kernel)) (by wtm_at "r_ea") ⟨by omega, by omega, by omega, by omega⟩ rfl rfl (fun _ => rfl) (fun z h0 h1 => ?_)
            refine lcok_nt cf rfl (by decide +kernel) Dt.d (fun Y Da acc hY cfY => ?_)
            have hu := cfY.un
            have hc := cfY.calm
            have hN := cfY.nd
            have n_place := cfY.nm (x := "place") 8 rfl (by decide +kernel)
            have n_end := cfY.nm (x := "end") 3 rfl (by decide +kernel)
            have n_board := cfY.nm (x := "board") 0 rfl (by decide +kernel)
            constructor
            · wtm_at "r_tr"
            · intro _; wtm_at "r_er"
          rw [efil]
          apply wb_one
          refine ws_ret (we_p (ra := .d (.bool true)) (er_and (k := true) (k' := true) (er_cmp (ra := .l []) (rb := .f []) (by wtm_at "r_er") (er_litL rfl (by decide)) (o_eqD hu .l .f (by decide)) (nomark _)) (fun _ => er_one ?_)) ⟨rfl, rfl, _, rfl, .d⟩)
          have : (true : Bool) = PyData.eqv (.list ([E.1, E.2].map fun l => PyData.int l.sum)) (.list ([b.1, b.2].map fun l => PyData.int l.sum)) := by
            simp only [List.map_cons, List.map_nil, al.s1, al.s2]
            exact (eqv_self rfl).symm
          rw [this]
          refine er_cmp (ra := .f ([E.1, E.2].map fun l => PyData.int l.sum)) (rb := .f ([b.1, b.2].map fun l => PyData.int l.sum)) (er_lc (lcTm dT [E.1, E.2] (fun l => .int l.sum) [("side", 14)] hc hN (cf.bok (by decide +kernel)) (by wtm_at "r_er") (by rw [sizeLine_eq]; simp) (fun _ => rfl) (fun l hl => ?_))) (er_lc (lcTm dT [b.1, b.2] (fun l => .int l.sum) [("side", 14)] hc hN (cf.bok (by decide +kernel)) (by wtm_at "r_er") (by rw [sizeLine_eq]; simp) (fun _ => rfl) (fun l hl => ?_))) (o_eqD hu .f .f (dep_l (by simp [PyData.depth, PyData.depthAll]))) (nomark _)
          · refine lcok_n cf rfl (by decide +kernel) Dt.d (fun Y Da acc hY cfY => ?_)
            have hu := cfY.un
            have hc := cfY.calm
            have hN := cfY.nd
            have n_side := cfY.nm (x := "side") 14 rfl (by decide +kernel)
            have b_sum := cfY.bt (x := "sum") (f := .builtin "sum") (by decide +kernel) T.b_sum (by decide +kernel)
            wtm_at "r_er"
          · refine lcok_n cf rfl (by decide +kernel) Dt.d (fun Y Da acc hY cfY => ?_)
            have hu := cfY.un
            have hc := cfY.calm
            have hN := cfY.nd
            have n_side := cfY.nm (x := "side") 14 rfl (by decide +kernel)
            have b_sum := cfY.bt (x := "sum") (f := .builtin "sum") (by decide +kernel) T.b_sum (by decide +kernel)
            wtm_at "r_er"
        · exfalso
          have := al.is.of
          simp only [Bool.or_eq_false_iff, decide_eq_false_iff_not] at h
          omega
end Rd

namespace Rd
open PySem PySem.Spec PyProof.Rows L2 TL
local macro_rules | `(tactic| wtm_at "r_sd") => `(tactic| first | assumption | omega | decide | (simp only [List.length_cons, List.length_nil, List.length_append, List.length_map, List.length_replicate, List.length_set, sizeLine_eq]; omega) | (simp; omega))
local macro_rules | `(tactic| wtm_at "r_as") => `(tactic| (with_reducible assumption))
local macro_rules | `(tactic| wtm_at "r_nm") => `(tactic| ((with_reducible show ER _ (.Name _ _) _ _); first
  | ((with_reducible apply er_name); wtm_at "r_as"; exact rfl)
  | ((with_reducible apply er_nameL); wtm_at "r_as"; exact rfl)
  | ((with_reducible apply er_nameV); wtm_at "r_as"; exact rfl)
  | ((with_reducible apply er_nameX); wtm_at "r_as"; exact rfl)
  | ((with_reducible apply er_gcI); wtm_at "r_as")
  | ((with_reducible apply er_gcS); wtm_at "r_as")
  | ((with_reducible apply Bt.ty); wtm_at "r_as")
  | ((with_reducible apply er_gcV); wtm_at "r_as")
  | ((with_reducible apply Ec.er); wtm_at "r_as")))
local macro_rules | `(tactic| wtm_at "r_lv") => `(tactic| first | (with_reducible exact Lv.d) | (with_reducible exact Lv.f) | (with_reducible exact Lv.l) | exact Lv.c 0 rfl | exact Lv.c 1 rfl | exact Lv.c 2 rfl)
local macro_rules | `(tactic| wtm_at "r_tv") => `(tactic| first | (with_reducible exact Tv.f) | (with_reducible exact Tv.l) | exact Tv.c 0 rfl | exact Tv.c 1 rfl | exact Tv.c 2 rfl)
local macro_rules | `(tactic| wtm_at "r_vw") => `(tactic| first | (with_reducible exact Vw.d) | (with_reducible exact Vw.f) | (with_reducible exact Vw.l) | exact Vw.c 0 rfl | exact Vw.c 1 rfl | exact Vw.c 2 rfl)
local macro_rules | `(tactic| wtm_at "r_dt") => `(tactic| first | (with_reducible exact DtL.nil) | ((with_reducible apply DtL.cons); (first | (with_reducible exact Dt.d) | (with_reducible exact Dt.f) | (with_reducible exact Dt.l)); wtm_at "r_dt"))
local macro_rules | `(tactic| wtm_at "r_op") => `(tactic| first
  | (with_reducible exact o_add) | (with_reducible exact o_sub) | (with_reducible exact o_lt) | (with_reducible exact o_le) | (with_reducible exact o_gt) | (with_reducible exact o_ge)
  | (with_reducible exact o_eqI) | (with_reducible exact o_neI) | (with_reducible exact o_eqN) | (with_reducible exact o_neN) | (with_reducible exact o_inN) | (with_reducible exact o_notInN) | (with_reducible exact o_eqS) | (with_reducible exact o_neS)
  | ((with_reducible apply o_mod); wtm_at "r_sd")
  | ((with_reducible apply o_div); (first | exact ⟨by decide, by decide⟩ | exact ⟨by omega, by omega⟩))
  | ((with_reducible apply o_isN); (exact fun z => nomatch z); (first | exact fun _ z => nomatch z | exact fun y z => ⟨_, (Sl.v.inj z).symm⟩))
  | ((with_reducible apply o_notN); (exact fun z => nomatch z); (first | exact fun _ z => nomatch z | exact fun y z => ⟨_, (Sl.v.inj z).symm⟩))
  | ((with_reducible apply o_mul); (first | exact Or.inl ⟨by omega, by omega⟩ | exact Or.inr ⟨by omega, by omega⟩))
  | ((with_reducible apply o_inI); wtm_at "r_lv")
  | ((with_reducible apply o_catTI); wtm_at "r_sd")
  | ((with_reducible apply o_catT); wtm_at "r_sd")
  | ((with_reducible apply o_catLI); wtm_at "r_tv"; wtm_at "r_tv"; wtm_at "r_sd")
  | ((with_reducible apply o_catL); wtm_at "r_tv"; wtm_at "r_tv"; wtm_at "r_sd")
  | ((with_reducible apply o_catN); wtm_at "r_sd")
  | ((with_reducible apply o_catS); wtm_at "r_sd")
  | ((with_reducible apply o_rep0); wtm_at "r_sd"; wtm_at "r_sd")
  | ((with_reducible apply o_repL); wtm_at "r_tv"; wtm_at "r_sd"; wtm_at "r_sd"; wtm_at "r_sd")
  | ((with_reducible apply o_repT); (exact fun z => nomatch z); wtm_at "r_sd"; wtm_at "r_sd"; wtm_at "r_sd")
  | ((with_reducible apply o_eqD); assumption; wtm_at "r_vw"; wtm_at "r_vw"; wtm_at "r_dp")
  | ((with_reducible apply o_neD); assumption; wtm_at "r_vw"; wtm_at "r_vw"; wtm_at "r_dp"))
local macro_rules | `(tactic| wtm_at "r_dp") => `(tactic| first | assumption | (exact dep_l (by wtm_at "r_de")) | (exact dep_r (by wtm_at "r_de")))
local macro_rules | `(tactic| wtm_at "r_de") => `(tactic| first | (exact dep_ints _) | (exact dep_intsL _) | (simp only [PyData.depth, PyData.depthAll, PySem.W.depth_ints]; omega))
local macro_rules | `(tactic| wtm_at "r_ix") => `(tactic| first
  | ((with_reducible apply o_ixTI); wtm_at "r_sd"; wtm_at "r_sd")
  | ((with_reducible apply o_ixT); (exact rfl))
  | ((with_reducible apply o_ixLI); wtm_at "r_lv"; wtm_at "r_sd"; wtm_at "r_sd")
  | ((with_reducible apply o_ixL); wtm_at "r_lv"; (exact rfl))
  | ((with_reducible apply o_ixN); wtm_at "r_sd"; (exact rfl)) | (exact o_ixH 0 rfl rfl) | (exact o_ixH 1 rfl rfl) | (exact o_ixH 2 rfl rfl))
local macro_rules | `(tactic| wtm_at "r_sl") => `(tactic| first | (with_reducible exact o_slTI) | (with_reducible exact o_slT) | ((with_reducible apply o_slLI); wtm_at "r_lv") | ((with_reducible apply o_slL); wtm_at "r_lv") | ((with_reducible apply o_slN); wtm_at "r_sd") | ((with_reducible apply o_slS); wtm_at "r_sd"))
local macro_rules | `(tactic| wtm_at "r_cb") => `(tactic| first
  | (with_reducible exact b_lenTI) | (with_reducible exact b_lenT) | ((with_reducible apply b_len); wtm_at "r_lv") | ((with_reducible apply b_lenN); wtm_at "r_sd") | ((with_reducible apply b_lenS); wtm_at "r_sd")
  | ((with_reducible apply b_sumT); assumption) | ((with_reducible apply b_sum); assumption; wtm_at "r_lv") | ((with_reducible apply b_sumM); assumption; wtm_at "r_lv")
  | ((with_reducible apply b_all); assumption; wtm_at "r_lv") | ((with_reducible apply b_allM); assumption; wtm_at "r_lv") | ((with_reducible apply b_any); assumption; wtm_at "r_lv") | ((with_reducible apply b_anyM); assumption; wtm_at "r_lv")
  | ((with_reducible apply b_tuple); wtm_at "r_lv") | (with_reducible exact b_listT) | ((with_reducible apply b_list); wtm_at "r_lv")
  | ((with_reducible apply b_max2); assumption) | ((with_reducible apply b_min2); assumption)
  | ((with_reducible apply b_maxT); assumption; assumption; wtm_at "r_ne") | ((with_reducible apply b_max); assumption; assumption; wtm_at "r_lv"; wtm_at "r_ne") | ((with_reducible apply b_maxM); assumption; assumption; wtm_at "r_lv"; wtm_at "r_ne")
  | ((with_reducible apply b_minT); assumption; assumption; wtm_at "r_ne") | ((with_reducible apply b_min); assumption; assumption; wtm_at "r_lv"; wtm_at "r_ne") | ((with_reducible apply b_minM); assumption; assumption; wtm_at "r_lv"; wtm_at "r_ne")
  | (with_reducible exact b_intB) | (with_reducible exact b_abs) | ((with_reducible apply b_strI); wtm_at "r_sd"; wtm_at "r_sd") | ((with_reducible apply b_str); wtm_at "r_sd")
  | ((with_reducible apply b_isXM); wtm_at "r_as"; wtm_at "r_as"; (decide)) | ((with_reducible apply b_isXV); wtm_at "r_as"; wtm_at "r_as")
  | ((with_reducible apply b_isBool); wtm_at "r_vw") | ((with_reducible apply b_isInt); wtm_at "r_vw") | ((with_reducible apply b_isTuple); wtm_at "r_vw"))
local macro_rules | `(tactic| wtm_at "r_R") => `(tactic| first | exact ⟨_, rfl, rfl⟩ | exact ⟨_, rfl, by wtm_at "r_sd", rfl⟩ | exact ⟨_, rfl, by wtm_at "r_sd", by wtm_at "r_sd", rfl⟩)
local macro_rules | `(tactic| wtm_at "r_ne") => `(tactic| first | assumption | (exact fun z => nomatch z))
local macro_rules | `(tactic| wtm_at "r_er") => `(tactic| first
  | wtm_at "r_nm"
  | (with_reducible exact er_int) | (with_reducible exact er_str) | (with_reducible exact er_bl) | (with_reducible exact er_non)
  | ((with_reducible show ER _ (.BinOp _ _ _ _) _ _); (with_reducible apply er_bin); wtm_at "r_er"; wtm_at "r_er"; wtm_at "r_op")
  | ((with_reducible show ER _ (.Subscript _ (.Slice _ _ none _) _) _ _); (with_reducible apply er_sl); wtm_at "r_er"; wtm_at "r_eo"; wtm_at "r_eo"; wtm_at "r_sl")
  | ((with_reducible show ER _ (.Subscript _ _ _) _ _); (with_reducible apply er_ix); wtm_at "r_er"; wtm_at "r_er"; wtm_at "r_ix"; (exact fun _ _ => rfl))
  | ((with_reducible show ER _ (.Compare _ [_] _ _) _ _); (with_reducible apply er_cmp); wtm_at "r_er"; wtm_at "r_er"; wtm_at "r_op"; (first | exact nomark _ | rfl))
  | ((with_reducible show ER _ (.Call (.Name _ _) (_ :: _) _ _) _ _); first
    | ((with_reducible apply er_cb); wtm_at "r_as"; wtm_at "r_ea"; wtm_at "r_cb"; (exact rfl); (exact rfl))
    | ((with_reducible apply er_ct); wtm_at "r_as"; wtm_at "r_ea"; wtm_at "r_cb"; (exact rfl); (exact rfl))
    | ((with_reducible apply er_call); wtm_at "r_as"; wtm_at "r_ea"; wtm_at "r_dt"; wtm_at "r_R"; (exact rfl); (exact rfl)))
  | ((with_reducible show ER _ (.Call (.Name _ _) [] _ _) _ _); (with_reducible apply er_call0); wtm_at "r_as"; wtm_at "r_R")
  | ((with_reducible show ER _ (.ListComp _ _ _ _) _ _); (with_reducible apply er_lc); wtm_at "r_lc")
  | ((with_reducible show ER _ (.Tuple _ _ _) _ _); (exact er_litT rfl))
  | ((with_reducible show ER _ (.List _ _) _ _); (exact er_litL rfl (by decide)))
  | ((with_reducible show ER _ (.Tuple _ _ _) _ _); (with_reducible apply er_tup); wtm_at "r_ea"; wtm_at "r_dt"; wtm_at "r_sd")
  | ((with_reducible show ER _ (.List _ _) _ _); (with_reducible apply er_lst); wtm_at "r_ea"; wtm_at "r_dt"; wtm_at "r_sd")
  | ((with_reducible show ER _ (.UnaryOp .USub _ _) _ _); (with_reducible apply er_neg); wtm_at "r_er")
  | ((with_reducible show ER _ (.UnaryOp .Not _ _) _ _); (with_reducible apply er_not); wtm_at "r_er")
  | ((with_reducible show ER _ (.BoolOp .Or (_ :: _ :: _) _) _ _); (with_reducible apply er_or); wtm_at "r_er"; (intro _; wtm_at "r_er"))
  | ((with_reducible show ER _ (.BoolOp .And (_ :: _ :: _) _) _ _); (with_reducible apply er_and); wtm_at "r_er"; (intro _; wtm_at "r_er"))
  | ((with_reducible show ER _ (.BoolOp _ [_] _) _ _); (with_reducible apply er_one); wtm_at "r_er")
  | ((with_reducible show ER _ (.IfExp _ _ _ _) _ _); first
    | ((with_reducible apply er_ifI); wtm_at "r_tr"; (intro _; wtm_at "r_er"); (intro _; wtm_at "r_er"))
    | ((with_reducible apply er_ifD); wtm_at "r_tr"; (intro _; wtm_at "r_er"); (intro _; wtm_at "r_er")))
  | ((with_reducible show ER _ (.Compare _ [_, _] _ _) _ _); (with_reducible apply er_chain); wtm_at "r_er"; wtm_at "r_er"; wtm_at "r_op"; (intro _; wtm_at "r_er"); (intro _; wtm_at "r_op"); (with_unfolding_all rfl)))
local macro_rules | `(tactic| wtm_at "r_eo") => `(tactic| first | (with_reducible exact eo_none) | ((with_reducible apply eo_some); wtm_at "r_er"))
local macro_rules | `(tactic| wtm_at "r_ea") => `(tactic| first
  | (with_reducible exact ea_nil)
  | ((with_reducible apply ea_cons); wtm_at "r_er"; wtm_at "r_ea"; (exact rfl)))
local macro_rules | `(tactic| wtm_at "r_tr") => `(tactic| first
  | ((with_reducible show TR _ (.Compare _ [_] _ _) _ _); (with_reducible apply tr_cmp); wtm_at "r_er"; wtm_at "r_er"; wtm_at "r_op"; (first | exact nomark _ | rfl))
  | ((with_reducible show TR _ (.Compare _ [_, _] _ _) _ _); (with_reducible apply tr_chain); wtm_at "r_er"; wtm_at "r_er"; wtm_at "r_op"; (intro _; wtm_at "r_er"); (intro _; wtm_at "r_op"); (with_unfolding_all rfl))
  | ((with_reducible show TR _ (.BoolOp _ _ _) _ _); (with_reducible apply TW.tr); wtm_at "r_tw")
  | ((with_reducible show TR _ (.UnaryOp .Not _ _) _ _); (with_reducible apply tr_not); wtm_at "r_tr")
  | ((with_reducible apply tr_val); wtm_at "r_er"; wtm_at "r_vw"; (exact rfl); (intro _; rfl)))
local macro_rules | `(tactic| wtm_at "r_tw") => `(tactic| first
  | ((with_reducible show TW _ (.BoolOp .Or [_] _) _ _); (with_reducible apply tw_or1); wtm_at "r_tr")
  | ((with_reducible show TW _ (.BoolOp .And [_] _) _ _); (with_reducible apply tw_and1); wtm_at "r_tr")
  | ((with_reducible show TW _ (.BoolOp .Or (_ :: _ :: _) _) _ _); (with_reducible apply tw_or); wtm_at "r_tr"; (intro _; wtm_at "r_tw"))
  | ((with_reducible show TW _ (.BoolOp .And (_ :: _ :: _) _) _ _); (with_reducible apply tw_and); wtm_at "r_tr"; (intro _; wtm_at "r_tw")))
local macro_rules | `(tactic| wtm_at "s_ret") => `(tactic| ((with_reducible apply ws_ret); (with_reducible apply we_p); wtm_at "r_er"))
local macro_rules | `(tactic| wtm_at "s_set") => `(tactic| ((with_reducible apply ws_set); wtm_at "r_as"; (with_reducible apply we_p); wtm_at "r_er"))
local macro_rules | `(tactic| wtm_at "s_sto") => `(tactic| ((with_reducible apply ws_storeI); wtm_at "r_er"; wtm_at "r_er"; wtm_at "r_er"; first | exact (rfl : _[0]? = _) | exact (rfl : _[1]? = _) | exact (rfl : _[2]? = _)))

theorem wt_not1 {X : Cx} {a : Expr} {G : Gm} {pos : Pos} {Q : Bool → Gm → Prop} (h : WT X a G fun k G1 => Q (!k) G1) : WT X (.UnaryOp .Not a pos) G Q := fun σ H hs =>
  wT_of (pt_not pT) (wT_mono (h σ H hs) fun c H' ⟨G', g, hs', q⟩ => ⟨G', g, hs', q⟩)
theorem wt_val1 {X : Cx} {a : Expr} {G : Gm} {Q : Bool → Gm → Prop} (h : WE X a G fun r G1 => ∃ k, r = .d (.bool k) ∧ Q k G1) (he : ∀ whole, isTrue a X.env whole = (do let v ← whole; standAt a.pos; holding [v] (truthy v))) : WT X a G Q := fun σ H hs =>
  wT_of (pt_truth pE he) (wE_mono (h σ H hs) fun z H1 ⟨r, G1, g1, hs1, k1, _, k, er, q⟩ => by
    subst er
    have e := k1.bl
    subst e
    exact ⟨k, tru_of (.bl k) rfl, G1, g1, hs1, q⟩)
theorem few6 {b : Bo} {a c many : Int} (ha : isDie a = true) (hc : isDie c = true) (hb : Bd b) (hs : b.1.sum = many) (h6 : many ≤ 6) : (allPl b a c).length < 2000 := by
  have q1 := foundP_le (k := 6) (by omega) ha hc hb (by rw [hs]; exact_mod_cast h6)
  have q3 := allPl_le b a c
  split at q1 <;> omega
theorem mem_playsOf {b : Bo} {a c : Int} {x : PyData} : x ∈ playsOf b a c ↔ ∃ r ∈ allPl b a c, x = dPl r.1 := by
  unfold playsOf
  rw [mem_sortSet, List.mem_map]
  constructor
  · rintro ⟨r, hr, e⟩; exact ⟨r, hr, e.symm⟩
  · rintro ⟨r, hr, e⟩; exact ⟨r, hr, e.symm⟩
theorem playsOf_ne (b : Bo) (a c : Int) : playsOf b a c ≠ [] := by
  intro z
  cases q : allPl b a c with
  | nil => exact allPl_ne b a c q
  | cons r l =>
    have := mem_playsOf.mpr ⟨r, (by rw [q]; exact List.mem_cons_self : r ∈ allPl b a c), rfl⟩
    rw [z] at this; cases this
theorem playsOf_len {b : Bo} {a c : Int} : (playsOf b a c).length ≤ (allPl b a c).length := by
  have h1 : (playsOf b a c).length = (once ((allPl b a c).map fun r => dPl r.1)).length := List.length_mergeSort _
  have h2 : ∀ l : List PyData, (once l).length ≤ l.length := fun l => by
    induction l with
    | nil => exact Nat.le_refl _
    | cons d l ih =>
      unfold once
      split
      · rw [List.length_cons]; omega
      · rw [List.length_cons, List.length_cons]; omega
  have := h2 ((allPl b a c).map fun r => dPl r.1)
  rw [List.length_map] at this
  omega
theorem sc_law : FnScope ["script", "town", "board", "roll", "some", "k"] ["script"] (defScope s_law) := ⟨rfl, rfl, rfl, by decide +kernel, rfl, by decide +kernel, by decide +kernel⟩
theorem ok_law {M : Md} {f : Addr} {fd : FuncData} (T : Tx M) (F : FnP M.K "law" s_law f fd) (D_law_board : DfT M "_law_board" T_board 5) (D_law_roll : DfT M "_law_roll" T_roll 4) (D_plays : Df M "plays" (R_plays M) 10) (D_law_right : Df M "_law_right" R_right 11) (D_law_pick : DfT M "_law_pick" T_pick 4) : FnOk M.P M.w M.K M.mg M.base L2.CX0 12 f fd ["script"] (spL M.K) := by
  refine fnL F sc_law ?hbody
  case hbody =>
    rintro X cf fn hx B ns hns
    have hu := cf.un
    have hc := cf.calm
    have hN := cf.nd
    have n_script := cf.nm (x := "script") 0 rfl (by decide +kernel)
    have n_town := cf.nm (x := "town") 1 rfl (by decide +kernel)
    have n_board := cf.nm (x := "board") 2 rfl (by decide +kernel)
    have n_roll := cf.nm (x := "roll") 3 rfl (by decide +kernel)
    have n_some := cf.nm (x := "some") 4 rfl (by decide +kernel)
    have n_k := cf.nm (x := "k") 5 rfl (by decide +kernel)
    have l_town := cf.nl (x := "town") 1 rfl (by decide +kernel) (Or.inl (fn _))
    have l_board := cf.nl (x := "board") 2 rfl (by decide +kernel) (Or.inl (fn _))
    have l_roll := cf.nl (x := "roll") 3 rfl (by decide +kernel) (Or.inl (fn _))
    have l_some := cf.nl (x := "some") 4 rfl (by decide +kernel) (Or.inl (fn _))
    have l_k := cf.nl (x := "k") 5 rfl (by decide +kernel) (Or.inl (fn _))
    have f_law_board := cf.fcT (x := "_law_board") D_law_board (by first | decide | omega) (by decide +kernel)
    have f_law_roll := cf.fcT (x := "_law_roll") D_law_roll (by first | decide | omega) (by decide +kernel)
    have f_plays := cf.fc (x := "plays") D_plays (by first | decide | omega) (by decide +kernel)
    have b_range := cf.btr (by decide +kernel) T.b_range
    have b_min := cf.bt (x := "min") (f := .builtin "min") (by decide +kernel) T.b_min (by decide +kernel)
    have b_len := cf.bt (x := "len") (f := .builtin "len") (by decide +kernel) T.b_len (by decide +kernel)
    have f_law_right := cf.fc (x := "_law_right") D_law_right (by first | decide | omega) (by decide +kernel)
    have f_law_pick := cf.fcT (x := "_law_pick") D_law_pick (by first | decide | omega) (by decide +kernel)
    with_unfolding_all apply wb_cons
    refine ws_setC (ds := []) l_town (er_litL rfl (by decide)) (fun t => ?_)
    apply wb_cons
    refine ws_set l_board (we_callTp (j := 0) (zs := []) f_law_board (by wtm_at "r_ea") (.cons .d .nil) rfl ⟨6, rfl, by omega, by omega, rfl, rfl⟩ (by decide) ?_)
    rintro zs1 s hl1 ⟨many, b, hm1, hm2, hB, rfl⟩
    have hz1 : zs1.length ≤ 61 := by simpa using hl1
    apply wb_cons
    refine ws_set l_roll (we_callTp (j := 0) (zs := zs1) f_law_roll (by wtm_at "r_ea") .nil rfl ⟨rfl, rfl, rfl⟩ (by omega) ?_)
    rintro zs2 s hl2 ⟨a, c, ha, hc', rfl⟩
    have isb : isBoard b = true := hB.isB hm1 (by omega)
    have iB := isBoard_iff.mp isb
    have g1 := iB.l1
    have g2 := iB.l2
    have fa1 := few6 ha hc' iB.bd hB.s1 hm2
    have rp : R_plays M [dB b, dP (a, c)] (.ok (.d (.list (playsOf b a c)))) := ⟨b, a, c, rfl, by omega, by omega, fun _ _ _ => fa1, by rw [isb, ha, hc']; rfl⟩
    have pl : (playsOf b a c).length ≤ 100000 := by have := playsOf_len (b := b) (a := a) (c := c); omega
    apply wb_cons
    refine ws_set l_some (we_p (er_call f_plays (by wtm_at "r_ea") (by wtm_at "r_dt") rp rfl rfl) ?_)
    apply wb_cons
    obtain ⟨n, hn⟩ : ∃ n : Nat, min 12 ((playsOf b a c).length : Int) = (n : Nat) := Int.eq_ofNat_of_zero_le (by omega)
    have hn2 : n ≤ 12 := by omega
    refine ws_for1 (n := n) (D := { nx := _, rt := _, bk := _, ct := _ }) hx b_range (ea_cons (er_eq (r := .d (.int (min 12 ((playsOf b a c).length : Int)))) (by wtm_at "r_er") (by rw [hn])) ea_nil rfl) (by omega) (fun i G' => ∃ (zs : List Int) (s5 : Sl), zs.length ≤ 100 + i ∧ G' = ⟨[], B, [.d (.list (ns.map .int)), .v (.ref t), .d (dB b), .d (dP (a, c)), .d (.list (playsOf b a c)), s5], [(t, .ls (zs.map .int))]⟩) ⟨zs2, _, by omega, rfl⟩ ?_ ?_ rfl (fun _ => rfl)
    · rintro i G' hi ⟨zs, s5, hz, rfl⟩
      refine ⟨_, tg_name l_k, ?_⟩
      apply wb_one
      refine ws_ifW (wt_not1 (wt_val1 (we_call f_law_right (wa_cons (we_p (ra := .d (dB b)) (by wtm_at "r_er") (wa_cons (we_p (ra := .d (dP (a, c))) (by wtm_at "r_er") (wa_cons (we_callTp (j := 0) (zs := zs) (ds := [.list (playsOf b a c)]) f_law_pick (rs := [.d (.list (playsOf b a c))]) (by wtm_at "r_ea") (.cons .d .nil) rfl ⟨_, rfl, playsOf_ne b a c, pl, rfl, rfl⟩ (by omega) ?_)))))) rfl rfl) (fun _ => rfl)))
      rintro zs3 s hl3 ⟨x, hx1, rfl⟩
      obtain ⟨r, hr, rfl⟩ := mem_playsOf.mp hx1
      refine wa_nil ⟨[dB b, dP (a, c), dPl r.1], .d (.bool true), .cons .d (.cons .d (.cons .d .nil)), ⟨b, a, c, r.1, rfl, isb, ha, hc', isPlay_iff.mpr ⟨r, hr, rfl⟩, rfl⟩, true, rfl, (fun z => nomatch z), fun _ => ?_⟩
      apply wb_nil
      exact ⟨zs3, _, by omega, rfl⟩
    · rintro G' ⟨zs, s5, hz, rfl⟩
      apply wb_one
      exact ws_ret (we_p (ra := .d (.bool true)) (by wtm_at "r_er") ⟨rfl, rfl, _, rfl, .d⟩)
end Rd

namespace Rd
open PySem PySem.Spec PyProof.Rows L2
/-! ### the head -/
def d_is_side : He.DefD := ⟨("is_side", none), "is_side", "is_side", defArgs s_is_side, defBody s_is_side, defScope s_is_side, [], []⟩
def d_look_board : He.DefD := ⟨("look_board", none), "look_board", "look_board", defArgs s_look_board, defBody s_look_board, defScope s_look_board, [], []⟩
def d_turned : He.DefD := ⟨("turned", none), "turned", "turned", defArgs s_turned, defBody s_turned, defScope s_turned, [], []⟩
def d_pips_of : He.DefD := ⟨("pips_of", none), "pips_of", "pips_of", defArgs s_pips_of, defBody s_pips_of, defScope s_pips_of, [], []⟩
def d_pips : He.DefD := ⟨("pips", none), "pips", "pips", defArgs s_pips, defBody s_pips, defScope s_pips, [], []⟩
def d_look_die : He.DefD := ⟨("look_die", none), "look_die", "look_die", defArgs s_look_die, defBody s_look_die, defScope s_look_die, [], []⟩
def d_furthest : He.DefD := ⟨("furthest", none), "furthest", "furthest", defArgs s_furthest, defBody s_furthest, defScope s_furthest, [], []⟩
def d_can_go : He.DefD := ⟨("can_go", none), "can_go", "can_go", defArgs s_can_go, defBody s_can_go, defScope s_can_go, [], []⟩
def d_gone : He.DefD := ⟨("gone", none), "gone", "gone", defArgs s_gone, defBody s_gone, defScope s_gone, [], []⟩
def d_is_over : He.DefD := ⟨("is_over", none), "is_over", "is_over", defArgs s_is_over, defBody s_is_over, defScope s_is_over, [], []⟩
def d_look_roll : He.DefD := ⟨("look_roll", none), "look_roll", "look_roll", defArgs s_look_roll, defBody s_look_roll, defScope s_look_roll, [], []⟩
def d_dice_of : He.DefD := ⟨("dice_of", none), "dice_of", "dice_of", defArgs s_dice_of, defBody s_dice_of, defScope s_dice_of, [], []⟩
def d_ways : He.DefD := ⟨("ways", none), "ways", "ways", defArgs s_ways, defBody s_ways, defScope s_ways, [], []⟩
def d_all_plays : He.DefD := ⟨("all_plays", none), "all_plays", "all_plays", defArgs s_all_plays, defBody s_all_plays, defScope s_all_plays, [], []⟩
def d_plays : He.DefD := ⟨("plays", none), "plays", "plays", defArgs s_plays, defBody s_plays, defScope s_plays, [], []⟩
def d_played : He.DefD := ⟨("played", none), "played", "played", defArgs s_played, defBody s_played, defScope s_played, [], []⟩
def d_law_cell : He.DefD := ⟨("_law_cell", none), "_law_cell", "_law_cell", defArgs s_law_cell, defBody s_law_cell, defScope s_law_cell, [], []⟩
def d_law_mix : He.DefD := ⟨("_law_mix", none), "_law_mix", "_law_mix", defArgs s_law_mix, defBody s_law_mix, defScope s_law_mix, [], []⟩
def d_law_draw : He.DefD := ⟨("_law_draw", none), "_law_draw", "_law_draw", defArgs s_law_draw, defBody s_law_draw, defScope s_law_draw, [], []⟩
def d_law_pick : He.DefD := ⟨("_law_pick", none), "_law_pick", "_law_pick", defArgs s_law_pick, defBody s_law_pick, defScope s_law_pick, [], []⟩
def d_law_place : He.DefD := ⟨("_law_place", none), "_law_place", "_law_place", defArgs s_law_place, defBody s_law_place, defScope s_law_place, [], []⟩
def d_law_board : He.DefD := ⟨("_law_board", none), "_law_board", "_law_board", defArgs s_law_board, defBody s_law_board, defScope s_law_board, [], []⟩
def d_law_roll : He.DefD := ⟨("_law_roll", none), "_law_roll", "_law_roll", defArgs s_law_roll, defBody s_law_roll, defScope s_law_roll, [], []⟩
def d_law_right : He.DefD := ⟨("_law_right", none), "_law_right", "_law_right", defArgs s_law_right, defBody s_law_right, defScope s_law_right, [], []⟩
def d_law : He.DefD := ⟨("law", none), "law", "law", defArgs s_law, defBody s_law, defScope s_law, [], []⟩
def fn : List He.DefD := [d_is_side, d_look_board, d_turned, d_pips_of, d_pips, d_look_die, d_furthest, d_can_go, d_gone, d_is_over, d_look_roll, d_dice_of, d_ways, d_all_plays, d_plays, d_played, d_law_cell, d_law_mix, d_law_draw, d_law_pick, d_law_place, d_law_board, d_law_roll, d_law_right, d_law]
def fa : List He.Fa := [.glo "RaceError",
  .glo "BadBoard",
  .glo "BadPlay",
  .glo "BadRoll",
  .glo "is_side",
  .glo "look_board",
  .glo "turned",
  .glo "pips_of",
  .glo "pips",
  .glo "look_die",
  .glo "furthest",
  .glo "can_go",
  .glo "gone",
  .glo "is_over",
  .glo "look_roll",
  .glo "dice_of",
  .glo "ways",
  .glo "all_plays",
  .glo "plays",
  .glo "played",
  .glo "_law_cell",
  .glo "_law_mix",
  .glo "_law_draw",
  .glo "_law_pick",
  .glo "_law_place",
  .glo "_law_board",
  .glo "_law_roll",
  .glo "_law_right",
  .glo "law",
  .int "BAR" 25,
  .int "OFF" 0,
  .int "MOST_MEN" 15,
  .int "HOME" 6,
  .int "FACES" 6,
  .free "ValueError",
  .free "all",
  .free "len",
  .free "list",
  .free "max",
  .free "min",
  .free "range",
  .free "set",
  .free "sorted",
  .free "sum",
  .free "tuple",
  .exc "RaceError",
  .exc "BadBoard",
  .exc "BadPlay",
  .exc "BadRoll",
  .exm "RaceError" "RaceError" true,
  .exm "BadBoard" "RaceError" true,
  .exm "BadPlay" "RaceError" true,
  .exm "BadRoll" "RaceError" true]
def exB (K : PySem.W.Frag) : Bool := true
abbrev RR : PySem.W.OpenRow := PySem.W.OpenLaw.row PySem.Challenge.rw_racedice_k21_whole_pips
abbrev hk : PySem.W.Hook := He.hookX 4 fa fn [] [] exB
def ob (s : PySem.W.SharedT) : He.AlX := He.obsX 4 fa fn [] [] exB (HandSHeadRun.getT s)
theorem ob_eq (s : PySem.W.SharedT) : ob s = hk.obs s.abs := He.obsX_eq (HandSHeadRun.getT_eq s)
def loose : List PySem.Str := (["RaceError", "BadBoard", "BadPlay", "BadRoll", "BAR", "OFF", "MOST_MEN", "is_side", "look_board", "turned", "pips_of", "pips", "HOME", "FACES", "look_die", "furthest", "can_go", "gone", "is_over", "look_roll", "dice_of", "ways", "all_plays", "plays", "played", "_law_cell", "_law_mix", "_law_draw", "_law_pick", "_law_place"] : List PySem.Str) ++ (["_law_board", "_law_roll", "_law_right"] : List PySem.Str)
theorem run (w : World) : HandSHeadRun.RunEq RR (PySem.W.view RR.prog [38]) hk ob 3000 loose w := by
  intro os
  kernel_rfl
theorem facts {P : Program} {w : World} {K : PySem.W.Frag} {h : Heap} {mg : Str → Option Value} {f : Addr} (X : K.In h) (G : h.Ns mainGlobals mg) (hfa : mg ("law" : Str) = some (.ref f)) (c : He.SaysD fa fn K) (hex : exB K = true) :
    ∃ fd : FuncData, (∀ (s : Shared) (v : Value), BindsTo s fd ⟨[v], []⟩ [("script", v)]) ∧ ∀ base : Heap, K.In base → base.Ns mainGlobals mg → FnOk P w K mg base L2.CX0 12 f fd ["script"] (spL K) := by
  obtain ⟨g_is_side, F_is_side⟩ := c.def_ 0 (d := d_is_side) rfl
  obtain ⟨g_look_board, F_look_board⟩ := c.def_ 1 (d := d_look_board) rfl
  obtain ⟨g_turned, F_turned⟩ := c.def_ 2 (d := d_turned) rfl
  obtain ⟨g_pips_of, F_pips_of⟩ := c.def_ 3 (d := d_pips_of) rfl
  obtain ⟨g_pips, F_pips⟩ := c.def_ 4 (d := d_pips) rfl
  obtain ⟨g_look_die, F_look_die⟩ := c.def_ 5 (d := d_look_die) rfl
  obtain ⟨g_furthest, F_furthest⟩ := c.def_ 6 (d := d_furthest) rfl
  obtain ⟨g_can_go, F_can_go⟩ := c.def_ 7 (d := d_can_go) rfl
  obtain ⟨g_gone, F_gone⟩ := c.def_ 8 (d := d_gone) rfl
  obtain ⟨g_look_roll, F_look_roll⟩ := c.def_ 10 (d := d_look_roll) rfl
  obtain ⟨g_dice_of, F_dice_of⟩ := c.def_ 11 (d := d_dice_of) rfl
  obtain ⟨g_is_over, F_is_over⟩ := c.def_ 9 (d := d_is_over) rfl
  obtain ⟨g_ways, F_ways⟩ := c.def_ 12 (d := d_ways) rfl
  obtain ⟨g_all_plays, F_all_plays⟩ := c.def_ 13 (d := d_all_plays) rfl
  obtain ⟨g_plays, F_plays⟩ := c.def_ 14 (d := d_plays) rfl
  obtain ⟨g_played, F_played⟩ := c.def_ 15 (d := d_played) rfl
  obtain ⟨g_law_cell, F_law_cell⟩ := c.def_ 16 (d := d_law_cell) rfl
  obtain ⟨g_law_mix, F_law_mix⟩ := c.def_ 17 (d := d_law_mix) rfl
  obtain ⟨g_law_draw, F_law_draw⟩ := c.def_ 18 (d := d_law_draw) rfl
  obtain ⟨g_law_pick, F_law_pick⟩ := c.def_ 19 (d := d_law_pick) rfl
  obtain ⟨g_law_place, F_law_place⟩ := c.def_ 20 (d := d_law_place) rfl
  obtain ⟨g_law_board, F_law_board⟩ := c.def_ 21 (d := d_law_board) rfl
  obtain ⟨g_law_roll, F_law_roll⟩ := c.def_ 22 (d := d_law_roll) rfl
  obtain ⟨g_law_right, F_law_right⟩ := c.def_ 23 (d := d_law_right) rfl
  obtain ⟨g_law, F_law⟩ := c.def_ 24 (d := d_law) rfl
  have e := hfa.symm.trans (He.glo_ok X G (c.fact 28 (f := .glo "law") rfl))
  cases e
  have b := FunD.bindsA (ps := ["script"]) F_law fun _ _ _ _ _ _ us hl => match us, hl with | [_], _ => rfl
  refine ⟨g_law, fun s v => b s [v] rfl, fun base _ _ => ?_⟩
  have T : Tx (⟨P, w, K, mg, base⟩ : Md) := {
    b_ValueError := He.free_ok X G (c.fact 34 (f := .free "ValueError") rfl)
    b_all := He.free_ok X G (c.fact 35 (f := .free "all") rfl)
    b_len := He.free_ok X G (c.fact 36 (f := .free "len") rfl)
    b_list := He.free_ok X G (c.fact 37 (f := .free "list") rfl)
    b_max := He.free_ok X G (c.fact 38 (f := .free "max") rfl)
    b_min := He.free_ok X G (c.fact 39 (f := .free "min") rfl)
    b_range := He.free_ok X G (c.fact 40 (f := .free "range") rfl)
    b_set := He.free_ok X G (c.fact 41 (f := .free "set") rfl)
    b_sorted := He.free_ok X G (c.fact 42 (f := .free "sorted") rfl)
    b_sum := He.free_ok X G (c.fact 43 (f := .free "sum") rfl)
    b_tuple := He.free_ok X G (c.fact 44 (f := .free "tuple") rfl)
    k_BAR := He.int_ok X G (c.fact 29 (f := .int "BAR" 25) rfl)
    k_OFF := He.int_ok X G (c.fact 30 (f := .int "OFF" 0) rfl)
    k_MOST_MEN := He.int_ok X G (c.fact 31 (f := .int "MOST_MEN" 15) rfl)
    k_HOME := He.int_ok X G (c.fact 32 (f := .int "HOME" 6) rfl)
    k_FACES := He.int_ok X G (c.fact 33 (f := .int "FACES" 6) rfl)
    e_RaceError := ⟨He.glo_ok X G (c.fact 0 (f := .glo "RaceError") rfl), (He.exc_ok (c.fact 45 (f := .exc "RaceError") rfl)).1, (He.exc_ok (c.fact 45 (f := .exc "RaceError") rfl)).2.1, (He.exc_ok (c.fact 45 (f := .exc "RaceError") rfl)).2.2.1, (He.exc_ok (c.fact 45 (f := .exc "RaceError") rfl)).2.2.2⟩
    e_BadBoard := ⟨He.glo_ok X G (c.fact 1 (f := .glo "BadBoard") rfl), (He.exc_ok (c.fact 46 (f := .exc "BadBoard") rfl)).1, (He.exc_ok (c.fact 46 (f := .exc "BadBoard") rfl)).2.1, (He.exc_ok (c.fact 46 (f := .exc "BadBoard") rfl)).2.2.1, (He.exc_ok (c.fact 46 (f := .exc "BadBoard") rfl)).2.2.2⟩
    e_BadPlay := ⟨He.glo_ok X G (c.fact 2 (f := .glo "BadPlay") rfl), (He.exc_ok (c.fact 47 (f := .exc "BadPlay") rfl)).1, (He.exc_ok (c.fact 47 (f := .exc "BadPlay") rfl)).2.1, (He.exc_ok (c.fact 47 (f := .exc "BadPlay") rfl)).2.2.1, (He.exc_ok (c.fact 47 (f := .exc "BadPlay") rfl)).2.2.2⟩
    e_BadRoll := ⟨He.glo_ok X G (c.fact 3 (f := .glo "BadRoll") rfl), (He.exc_ok (c.fact 48 (f := .exc "BadRoll") rfl)).1, (He.exc_ok (c.fact 48 (f := .exc "BadRoll") rfl)).2.1, (He.exc_ok (c.fact 48 (f := .exc "BadRoll") rfl)).2.2.1, (He.exc_ok (c.fact 48 (f := .exc "BadRoll") rfl)).2.2.2⟩ }
  have D_is_side := ok_is_side T F_is_side (He.glo_ok X G (c.fact 4 (f := .glo "is_side") rfl)) 
  have D_look_board := ok_look_board T F_look_board (He.glo_ok X G (c.fact 5 (f := .glo "look_board") rfl)) D_is_side
  have D_turned := ok_turned T F_turned (He.glo_ok X G (c.fact 6 (f := .glo "turned") rfl)) D_look_board
  have D_pips_of := ok_pips_of T F_pips_of (He.glo_ok X G (c.fact 7 (f := .glo "pips_of") rfl)) 
  have D_pips := ok_pips T F_pips (He.glo_ok X G (c.fact 8 (f := .glo "pips") rfl)) D_look_board D_pips_of
  have D_look_die := ok_look_die T F_look_die (He.glo_ok X G (c.fact 9 (f := .glo "look_die") rfl)) 
  have D_furthest := ok_furthest T F_furthest (He.glo_ok X G (c.fact 10 (f := .glo "furthest") rfl)) 
  have D_can_go := ok_can_go T F_can_go (He.glo_ok X G (c.fact 11 (f := .glo "can_go") rfl)) D_furthest
  have D_gone := ok_gone T F_gone (He.glo_ok X G (c.fact 12 (f := .glo "gone") rfl)) 
  have D_look_roll := ok_look_roll T F_look_roll (He.glo_ok X G (c.fact 14 (f := .glo "look_roll") rfl)) D_look_die
  have D_dice_of := ok_dice_of T F_dice_of (He.glo_ok X G (c.fact 15 (f := .glo "dice_of") rfl)) 
  have D_is_over := ok_is_over T F_is_over (He.glo_ok X G (c.fact 13 (f := .glo "is_over") rfl)) 
  have D_ways := ok_ways T F_ways (He.glo_ok X G (c.fact 16 (f := .glo "ways") rfl)) D_is_over D_can_go D_gone
  have D_all_plays := ok_all_plays T F_all_plays (He.glo_ok X G (c.fact 17 (f := .glo "all_plays") rfl)) D_dice_of D_ways
  have D_plays := ok_plays T F_plays (He.glo_ok X G (c.fact 18 (f := .glo "plays") rfl)) D_look_board D_look_roll D_all_plays
  have D_played := ok_played T F_played (He.glo_ok X G (c.fact 19 (f := .glo "played") rfl)) D_look_board D_look_roll D_all_plays
  have D_law_cell := ok_law_cell T F_law_cell (He.glo_ok X G (c.fact 20 (f := .glo "_law_cell") rfl)) 
  have D_law_mix := ok_law_mix T F_law_mix (He.glo_ok X G (c.fact 21 (f := .glo "_law_mix") rfl)) D_law_cell
  have D_law_draw := ok_law_draw T F_law_draw (He.glo_ok X G (c.fact 22 (f := .glo "_law_draw") rfl)) D_law_mix
  have D_law_pick := ok_law_pick T F_law_pick (He.glo_ok X G (c.fact 23 (f := .glo "_law_pick") rfl)) D_law_draw
  have D_law_place := ok_law_place T F_law_place (He.glo_ok X G (c.fact 24 (f := .glo "_law_place") rfl)) D_law_draw
  have D_law_board := ok_law_board T F_law_board (He.glo_ok X G (c.fact 25 (f := .glo "_law_board") rfl)) D_law_draw D_law_place
  have D_law_roll := ok_law_roll T F_law_roll (He.glo_ok X G (c.fact 26 (f := .glo "_law_roll") rfl)) D_law_draw
  have D_law_right := ok_law_right T F_law_right (He.glo_ok X G (c.fact 27 (f := .glo "_law_right") rfl)) D_played D_look_board D_turned D_pips
  exact ok_law T F_law D_law_board D_law_roll D_plays D_law_right D_law_pick
end Rd
open PySem PySem.W PySem.Calls PyProof.Rows
theorem PySem.Challenge.cw_racedice_k21_whole_pips_holds : PySem.Challenge.rw_racedice_k21_whole_pips.Holds := by
  w_on; o_law
  refine HandSHeadRun.head_any (r := Rd.RR) (q := view Rd.RR.prog [38]) (H := Rd.hk) (ob := Rd.ob) (M := 3000) (loose := Rd.loose) (d := HandSHeadRun.topDef Rd.RR.prog 38) (kwd := []) Rd.ob_eq
    (by kernel_rfl) (fun s => by kernel_rfl) Rd.run (by kernel_rfl) (by kernel_rfl) (by kernel_rfl) (by rfl) (by first | assumption | decide +kernel) (by decide +kernel) ⟨rfl, rfl, rfl, rfl, rfl, by decide +kernel⟩ ?hw ?hc
  case hw => w_witness2
  case hc =>
    refine L2.walk_ofE (l := PySem.Challenge.rw_racedice_k21_whole_pips) (n := 63) (k := 12) (x := "script") (CX := L2.CX0) rfl (by decide) (by kernel_rfl) ⟨rfl, by decide, by decide⟩ ?F (fun _ _ _ _ z => z)
    intro w mg fa h Y G hmg0
    obtain ⟨K, KX, c⟩ := Y
    have hmg : mg ("law" : PySem.Str) = some (.ref fa) := by
      have e : (HandSHeadRun.topDef Rd.RR.prog 38).name = ("law" : PySem.Str) := by kernel_rfl
      rw [← e]
      exact hmg0
    have cD : He.SaysD Rd.fa Rd.fn K := congrArg (fun z : He.AlT => z.1) c.t
    obtain ⟨fd, hb, hF⟩ := Rd.facts (P := PySem.Challenge.rw_racedice_k21_whole_pips.prog) (w := w) KX G hmg cD c.more
    exact ⟨K, fd, Rd.spL K, KX, hb, fun H a ns hl _ hS => ⟨a, ns, rfl, hl, hS, fun _ => rfl⟩, hF⟩
